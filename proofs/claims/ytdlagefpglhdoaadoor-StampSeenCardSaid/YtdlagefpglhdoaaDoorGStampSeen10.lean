import Derived.Test.YtdlagefpglhdoaaDoorQx0
import Derived.Test.YtdlagefpglhdoaaDoorGStampSeen0
import Derived.Test.YtdlagefpglhdoaaDoorGStampSeen5
import Derived.Test.YtdlagefpglhdoaaDoorGStampSeen7
import Derived.Test.YtdlagefpglhdoaaDoorGStampSeen2
-- Written by this session's own driver (wip/hybrid.py) of the kit's printer; contracts marked FOREIGN are by hand.
namespace Go.Proofs.YtdlagefpglhdoaaDoor.Q
open Go.RowKit Go.Proofs.YtdlagefpglhdoaaDoorW.PrintWords Go.Proofs.YtdlagefpglhdoaaDoorW.PrintLast Go.Proofs.YtdlagefpglhdoaaDoorW.PrintMore
attribute [local go_sem] max2_int min2_int max_two min_two max_three min_three max_four min_four   -- for this text's walks alone
set_option linter.unusedVariables false
set_option linter.unusedSimpArgs false

/-! ### tenementlaw07_StampSeen_p1: function 8 -/
def tenementlaw07_StampSeen_p1.f (k : Nat) (a0_0 : Int) (a0_1 : Int) (a0_2 : Int) (a0_3 : Int) (a0_4 : Int) (a0_5 : Bool) (a1_0 : Int) (a1_1 : Int) (a1_2 : Int) (a1_3 : Int) (a1_4 : Bool) (a2_0 : Int) (a2_1 : Int) (a2_2 : Int) (a2_3 : Int) (a2_4 : Bool) : Option (Bool) := (tenementlaw07_examples.f k).bind fun t742 => (if t742 = true then ((tenementlaw07_Mark_mark.f k a0_0 a0_1 a0_2 a0_3 a0_4 true).bind fun bt743 => ((tenementlaw07_Vector_vector.f k a1_0 a1_1 a1_2 a1_3 a1_4).bind fun bt749 => ((tenementlaw07_Vector_vector.f k a2_0 a2_1 a2_2 a2_3 a2_4).bind fun bt754 => ((vec_Join.f bt749.1 bt749.2.1 bt749.2.2.1 bt749.2.2.2 bt754.1 bt754.2.1 bt754.2.2.1 bt754.2.2.2).bind fun bt759 => ((stamp_Seen.f bt743.1 bt743.2.1 bt743.2.2.1 bt743.2.2.2.1 bt743.2.2.2.2 bt743.1 bt743.2.1 bt743.2.2.1 bt743.2.2.2.1).bind fun t764 => (if t764 = true then ((stamp_Stamp_N.f bt743.1 bt743.2.1 bt743.2.2.1 bt743.2.2.2.1 bt743.2.2.2.2).bind fun t765 => ((vec_With.f bt743.1 bt743.2.1 bt743.2.2.1 bt743.2.2.2.1 bt743.2.2.2.2 (IntKind.u64.wrap (t765 - 1))).bind fun bt766 => ((stamp_Seen.f bt743.1 bt743.2.1 bt743.2.2.1 bt743.2.2.2.1 bt743.2.2.2.2 bt766.1 bt766.2.1 bt766.2.2.1 bt766.2.2.2).bind fun t770 => (if t770 = true then (none) else ((stamp_Seen.f bt743.1 bt743.2.1 bt743.2.2.1 bt743.2.2.2.1 bt743.2.2.2.2 bt749.1 bt749.2.1 bt749.2.2.1 bt749.2.2.2).bind fun t771 => (if t771 = true then ((stamp_Seen.f bt743.1 bt743.2.1 bt743.2.2.1 bt743.2.2.2.1 bt743.2.2.2.2 bt759.1 bt759.2.1 bt759.2.2.1 bt759.2.2.2).bind fun t772 => (if t772 = true then ((vec_Meet.f bt749.1 bt749.2.1 bt749.2.2.1 bt749.2.2.2 bt754.1 bt754.2.1 bt754.2.2.1 bt754.2.2.2).bind fun bt773 => ((stamp_Seen.f bt743.1 bt743.2.1 bt743.2.2.1 bt743.2.2.2.1 bt743.2.2.2.2 bt773.1 bt773.2.1 bt773.2.2.1 bt773.2.2.2).bind fun t777 => ((stamp_Seen.f bt743.1 bt743.2.1 bt743.2.2.1 bt743.2.2.2.1 bt743.2.2.2.2 bt749.1 bt749.2.1 bt749.2.2.1 bt749.2.2.2).bind fun t778 => (if t778 = true then (none) else (if t777 = true then (none) else (some true)))))) else (none))) else (none))))))) else (none))))))) else (none))
theorem tenementlaw07_StampSeen_p1.mono : ∀ a0 a1 a2 a3 a4 a5 a6 a7 a8 a9 a10 a11 a12 a13 a14 a15 k, LeO (tenementlaw07_StampSeen_p1.f k a0 a1 a2 a3 a4 a5 a6 a7 a8 a9 a10 a11 a12 a13 a14 a15) (tenementlaw07_StampSeen_p1.f (k + 1) a0 a1 a2 a3 a4 a5 a6 a7 a8 a9 a10 a11 a12 a13 a14 a15) := by
  intro a0 a1 a2 a3 a4 a5 a6 a7 a8 a9 a10 a11 a12 a13 a14 a15 k
  unfold tenementlaw07_StampSeen_p1.f
  repeat' first
      | (with_reducible exact tenementlaw07_Mark_mark.mono _ _ _ _ _ _ _)
      | (with_reducible exact tenementlaw07_Vector_vector.mono _ _ _ _ _ _)
      | (with_reducible exact tenementlaw07_examples.mono _)
      | (with_reducible exact LeO.refl _)
      | (with_reducible exact LeO.none _)
      | (with_reducible refine LeO.ite ?_ ?_)
      | (with_reducible refine LeO.bind ?_ (fun _ => ?_))
      | exact tenementlaw07_Mark_mark.mono _ _ _ _ _ _ _
      | exact tenementlaw07_Vector_vector.mono _ _ _ _ _ _
      | exact tenementlaw07_examples.mono _
      | exact LeO.none _
      | refine LeO.ite ?_ ?_
      | refine LeO.bind ?_ (fun _ => ?_)
def tenementlaw07_StampSeen_p1.T9 : Bool × List (List Nat × List Nat) := (true, [([], []), ([0], [0]), ([1], [1]), ([1], [1]), ([3, 1], [1, 3]), ([2, 4, 1, 1], [1, 2, 4]), ([1, 5], [1, 5]), ([6, 5], [6]), ([7], [7]), ([7], [7]), ([9, 7], [7, 9]), ([7], [7]), ([11, 7], [7, 11]), ([7], [7]), ([13, 7, 7], [7, 13]), ([14, 7], [7, 14]), ([10, 12, 15, 14, 7], [7, 10, 12, 15]), ([8, 16, 16, 7], [7, 8, 16]), ([17, 7], [7, 17]), ([7, 18], [7, 18]), ([19, 17], [19]), ([20], [20]), ([20], [20]), ([21, 22, 20, 20], [20, 21, 22]), ([23, 20], [20, 23]), ([24, 23, 20], [20, 24]), ([25], [25]), ([25], [25]), ([26, 27, 25, 25], [25, 26, 27]), ([25, 28, 20], [20, 25, 28]), ([20, 29], [20, 29]), ([30, 28], [30]), ([31], [31]), ([31], [31]), ([31], [31]), ([33, 34, 31, 31], [31, 33, 34]), ([32, 35, 35, 31], [31, 32, 35]), ([31], [31]), ([31], [31]), ([37, 38, 36, 31], [31, 37, 38]), ([39, 39, 31], [31, 39]), ([40], [40]), ([40], [40]), ([41, 42, 40, 40], [40, 41, 42]), ([40, 43, 31], [31, 40, 43]), ([36, 44, 31], [31, 36, 44]), ([31, 45], [31, 45]), ([46, 43, 0, 1, 2, 3, 4, 5, 6, 7, 8, 9, 10, 11, 12, 13, 14, 15, 16, 17, 18, 19, 20, 21, 22, 23, 24, 25, 26, 27, 28, 29, 30, 31, 32, 33, 34, 35, 36, 37, 38, 39, 40, 41, 42, 43, 44, 45, 46], [46])])
def tenementlaw07_StampSeen_p1.B9 : List Nat := [0, 1, 3, 3, 11, 31, 63, 127, 255, 255, 767, 255, 2303, 255, 8447, 24831, 65279, 131071, 262143, 524287, 1048575, 2097151, 2097151, 8388607, 16777215, 33554431, 67108863, 67108863, 268435455, 536870911, 1073741823, 2147483647, 4294967295, 4294967295, 4294967295, 30064771071, 68719476735, 4294967295, 4294967295, 549755813887, 1099511627775, 2199023255551, 2199023255551, 8796093022207, 17592186044415, 35184372088831, 70368744177663, 140737488355327]
theorem tenementlaw07_StampSeen_p1.tab9 : rtab .any (opsOf Tryd.f8 9) = tenementlaw07_StampSeen_p1.T9 := by kernel_rfl
theorem tenementlaw07_StampSeen_p1.bits9 : waitsOk tenementlaw07_StampSeen_p1.T9.2 tenementlaw07_StampSeen_p1.B9 = true := by kernel_rfl
set_option maxHeartbeats 8000000 in
set_option maxRecDepth 100000 in
theorem tenementlaw07_StampSeen_p1.calls (k : Nat) (a0_0 : Int) (a0_1 : Int) (a0_2 : Int) (a0_3 : Int) (a0_4 : Int) (a0_5 : Bool) (a1_0 : Int) (a1_1 : Int) (a1_2 : Int) (a1_3 : Int) (a1_4 : Bool) (a2_0 : Int) (a2_1 : Int) (a2_2 : Int) (a2_3 : Int) (a2_4 : Bool) (r : Bool) (w : World) (h : tenementlaw07_StampSeen_p1.f k a0_0 a0_1 a0_2 a0_3 a0_4 a0_5 a1_0 a1_1 a1_2 a1_3 a1_4 a2_0 a2_1 a2_2 a2_3 a2_4 = some r) :
    Calls Tryd.prog 8 #[.agg #[.int .u64 a0_0, .int .u64 a0_1, .int .u64 a0_2, .int .u64 a0_3, .int .i64 a0_4, .bool a0_5], .agg #[.int .u64 a1_0, .int .u64 a1_1, .int .u64 a1_2, .int .u64 a1_3, .bool a1_4], .agg #[.int .u64 a2_0, .int .u64 a2_1, .int .u64 a2_2, .int .u64 a2_3, .bool a2_4]] w fun e w' => e = .returned (.bool r) ∧ Below w.heap.size w w' := by
  have hu28 := Tryd.underlying28
  have hu30 := Tryd.underlying30
  have hu26 := Tryd.underlying26
  have hu24 := Tryd.underlying24
  have HB := Aside0.mk (Below.refl w.heap.size w)
  have H : ((tenementlaw07_examples.f k).bind fun t742 => (if t742 = true then ((tenementlaw07_Mark_mark.f k a0_0 a0_1 a0_2 a0_3 a0_4 true).bind fun bt743 => ((tenementlaw07_Vector_vector.f k a1_0 a1_1 a1_2 a1_3 a1_4).bind fun bt749 => ((tenementlaw07_Vector_vector.f k a2_0 a2_1 a2_2 a2_3 a2_4).bind fun bt754 => ((vec_Join.f bt749.1 bt749.2.1 bt749.2.2.1 bt749.2.2.2 bt754.1 bt754.2.1 bt754.2.2.1 bt754.2.2.2).bind fun bt759 => ((stamp_Seen.f bt743.1 bt743.2.1 bt743.2.2.1 bt743.2.2.2.1 bt743.2.2.2.2 bt743.1 bt743.2.1 bt743.2.2.1 bt743.2.2.2.1).bind fun t764 => (if t764 = true then ((stamp_Stamp_N.f bt743.1 bt743.2.1 bt743.2.2.1 bt743.2.2.2.1 bt743.2.2.2.2).bind fun t765 => ((vec_With.f bt743.1 bt743.2.1 bt743.2.2.1 bt743.2.2.2.1 bt743.2.2.2.2 (IntKind.u64.wrap (t765 - 1))).bind fun bt766 => ((stamp_Seen.f bt743.1 bt743.2.1 bt743.2.2.1 bt743.2.2.2.1 bt743.2.2.2.2 bt766.1 bt766.2.1 bt766.2.2.1 bt766.2.2.2).bind fun t770 => (if t770 = true then (none) else ((stamp_Seen.f bt743.1 bt743.2.1 bt743.2.2.1 bt743.2.2.2.1 bt743.2.2.2.2 bt749.1 bt749.2.1 bt749.2.2.1 bt749.2.2.2).bind fun t771 => (if t771 = true then ((stamp_Seen.f bt743.1 bt743.2.1 bt743.2.2.1 bt743.2.2.2.1 bt743.2.2.2.2 bt759.1 bt759.2.1 bt759.2.2.1 bt759.2.2.2).bind fun t772 => (if t772 = true then ((vec_Meet.f bt749.1 bt749.2.1 bt749.2.2.1 bt749.2.2.2 bt754.1 bt754.2.1 bt754.2.2.1 bt754.2.2.2).bind fun bt773 => ((stamp_Seen.f bt743.1 bt743.2.1 bt743.2.2.1 bt743.2.2.2.1 bt743.2.2.2.2 bt773.1 bt773.2.1 bt773.2.2.1 bt773.2.2.2).bind fun t777 => ((stamp_Seen.f bt743.1 bt743.2.1 bt743.2.2.1 bt743.2.2.2.1 bt743.2.2.2.2 bt749.1 bt749.2.1 bt749.2.2.1 bt749.2.2.2).bind fun t778 => (if t778 = true then (none) else (if t777 = true then (none) else (some true)))))) else (none))) else (none))))))) else (none))))))) else (none))) = some r := h
  clear h
  replace H := Option.bind_eq_some_iff.mp H
  obtain ⟨t742, A40, H⟩ := H
  replace H : (if t742 = true then ((tenementlaw07_Mark_mark.f k a0_0 a0_1 a0_2 a0_3 a0_4 true).bind fun bt743 => ((tenementlaw07_Vector_vector.f k a1_0 a1_1 a1_2 a1_3 a1_4).bind fun bt749 => ((tenementlaw07_Vector_vector.f k a2_0 a2_1 a2_2 a2_3 a2_4).bind fun bt754 => ((vec_Join.f bt749.1 bt749.2.1 bt749.2.2.1 bt749.2.2.2 bt754.1 bt754.2.1 bt754.2.2.1 bt754.2.2.2).bind fun bt759 => ((stamp_Seen.f bt743.1 bt743.2.1 bt743.2.2.1 bt743.2.2.2.1 bt743.2.2.2.2 bt743.1 bt743.2.1 bt743.2.2.1 bt743.2.2.2.1).bind fun t764 => (if t764 = true then ((stamp_Stamp_N.f bt743.1 bt743.2.1 bt743.2.2.1 bt743.2.2.2.1 bt743.2.2.2.2).bind fun t765 => ((vec_With.f bt743.1 bt743.2.1 bt743.2.2.1 bt743.2.2.2.1 bt743.2.2.2.2 (IntKind.u64.wrap (t765 - 1))).bind fun bt766 => ((stamp_Seen.f bt743.1 bt743.2.1 bt743.2.2.1 bt743.2.2.2.1 bt743.2.2.2.2 bt766.1 bt766.2.1 bt766.2.2.1 bt766.2.2.2).bind fun t770 => (if t770 = true then (none) else ((stamp_Seen.f bt743.1 bt743.2.1 bt743.2.2.1 bt743.2.2.2.1 bt743.2.2.2.2 bt749.1 bt749.2.1 bt749.2.2.1 bt749.2.2.2).bind fun t771 => (if t771 = true then ((stamp_Seen.f bt743.1 bt743.2.1 bt743.2.2.1 bt743.2.2.2.1 bt743.2.2.2.2 bt759.1 bt759.2.1 bt759.2.2.1 bt759.2.2.2).bind fun t772 => (if t772 = true then ((vec_Meet.f bt749.1 bt749.2.1 bt749.2.2.1 bt749.2.2.2 bt754.1 bt754.2.1 bt754.2.2.1 bt754.2.2.2).bind fun bt773 => ((stamp_Seen.f bt743.1 bt743.2.1 bt743.2.2.1 bt743.2.2.2.1 bt743.2.2.2.2 bt773.1 bt773.2.1 bt773.2.2.1 bt773.2.2.2).bind fun t777 => ((stamp_Seen.f bt743.1 bt743.2.1 bt743.2.2.1 bt743.2.2.2.1 bt743.2.2.2.2 bt749.1 bt749.2.1 bt749.2.2.1 bt749.2.2.2).bind fun t778 => (if t778 = true then (none) else (if t777 = true then (none) else (some true)))))) else (none))) else (none))))))) else (none))))))) else (none)) = some r := H
  have A4 := Aside0.mk A40
  clear A40
  by_cases c5 : t742 = true
  rotate_left
  · replace c5 := Bool.eq_false_iff.mpr c5
    subst c5
    have H1 : (none) = some r := by rw [if_neg (show ¬ (false = true) by decide)] at H; exact H
    clear H
    have H := H1
    clear H1
    exact absurd H (by simp)
  subst c5
  have H1 : ((tenementlaw07_Mark_mark.f k a0_0 a0_1 a0_2 a0_3 a0_4 true).bind fun bt743 => ((tenementlaw07_Vector_vector.f k a1_0 a1_1 a1_2 a1_3 a1_4).bind fun bt749 => ((tenementlaw07_Vector_vector.f k a2_0 a2_1 a2_2 a2_3 a2_4).bind fun bt754 => ((vec_Join.f bt749.1 bt749.2.1 bt749.2.2.1 bt749.2.2.2 bt754.1 bt754.2.1 bt754.2.2.1 bt754.2.2.2).bind fun bt759 => ((stamp_Seen.f bt743.1 bt743.2.1 bt743.2.2.1 bt743.2.2.2.1 bt743.2.2.2.2 bt743.1 bt743.2.1 bt743.2.2.1 bt743.2.2.2.1).bind fun t764 => (if t764 = true then ((stamp_Stamp_N.f bt743.1 bt743.2.1 bt743.2.2.1 bt743.2.2.2.1 bt743.2.2.2.2).bind fun t765 => ((vec_With.f bt743.1 bt743.2.1 bt743.2.2.1 bt743.2.2.2.1 bt743.2.2.2.2 (IntKind.u64.wrap (t765 - 1))).bind fun bt766 => ((stamp_Seen.f bt743.1 bt743.2.1 bt743.2.2.1 bt743.2.2.2.1 bt743.2.2.2.2 bt766.1 bt766.2.1 bt766.2.2.1 bt766.2.2.2).bind fun t770 => (if t770 = true then (none) else ((stamp_Seen.f bt743.1 bt743.2.1 bt743.2.2.1 bt743.2.2.2.1 bt743.2.2.2.2 bt749.1 bt749.2.1 bt749.2.2.1 bt749.2.2.2).bind fun t771 => (if t771 = true then ((stamp_Seen.f bt743.1 bt743.2.1 bt743.2.2.1 bt743.2.2.2.1 bt743.2.2.2.2 bt759.1 bt759.2.1 bt759.2.2.1 bt759.2.2.2).bind fun t772 => (if t772 = true then ((vec_Meet.f bt749.1 bt749.2.1 bt749.2.2.1 bt749.2.2.2 bt754.1 bt754.2.1 bt754.2.2.1 bt754.2.2.2).bind fun bt773 => ((stamp_Seen.f bt743.1 bt743.2.1 bt743.2.2.1 bt743.2.2.2.1 bt743.2.2.2.2 bt773.1 bt773.2.1 bt773.2.2.1 bt773.2.2.2).bind fun t777 => ((stamp_Seen.f bt743.1 bt743.2.1 bt743.2.2.1 bt743.2.2.2.1 bt743.2.2.2.2 bt749.1 bt749.2.1 bt749.2.2.1 bt749.2.2.2).bind fun t778 => (if t778 = true then (none) else (if t777 = true then (none) else (some true)))))) else (none))) else (none))))))) else (none))))))) = some r := by rw [if_pos rfl] at H; exact H
  clear H
  have H := H1
  clear H1
  replace H := Option.bind_eq_some_iff.mp H
  obtain ⟨⟨t743, t744, t745, t746, t747⟩, A60, H⟩ := H
  replace H : ((tenementlaw07_Vector_vector.f k a1_0 a1_1 a1_2 a1_3 a1_4).bind fun bt749 => ((tenementlaw07_Vector_vector.f k a2_0 a2_1 a2_2 a2_3 a2_4).bind fun bt754 => ((vec_Join.f bt749.1 bt749.2.1 bt749.2.2.1 bt749.2.2.2 bt754.1 bt754.2.1 bt754.2.2.1 bt754.2.2.2).bind fun bt759 => ((stamp_Seen.f t743 t744 t745 t746 t747 t743 t744 t745 t746).bind fun t764 => (if t764 = true then ((stamp_Stamp_N.f t743 t744 t745 t746 t747).bind fun t765 => ((vec_With.f t743 t744 t745 t746 t747 (IntKind.u64.wrap (t765 - 1))).bind fun bt766 => ((stamp_Seen.f t743 t744 t745 t746 t747 bt766.1 bt766.2.1 bt766.2.2.1 bt766.2.2.2).bind fun t770 => (if t770 = true then (none) else ((stamp_Seen.f t743 t744 t745 t746 t747 bt749.1 bt749.2.1 bt749.2.2.1 bt749.2.2.2).bind fun t771 => (if t771 = true then ((stamp_Seen.f t743 t744 t745 t746 t747 bt759.1 bt759.2.1 bt759.2.2.1 bt759.2.2.2).bind fun t772 => (if t772 = true then ((vec_Meet.f bt749.1 bt749.2.1 bt749.2.2.1 bt749.2.2.2 bt754.1 bt754.2.1 bt754.2.2.1 bt754.2.2.2).bind fun bt773 => ((stamp_Seen.f t743 t744 t745 t746 t747 bt773.1 bt773.2.1 bt773.2.2.1 bt773.2.2.2).bind fun t777 => ((stamp_Seen.f t743 t744 t745 t746 t747 bt749.1 bt749.2.1 bt749.2.2.1 bt749.2.2.2).bind fun t778 => (if t778 = true then (none) else (if t777 = true then (none) else (some true)))))) else (none))) else (none))))))) else (none)))))) = some r := H
  have A6 := Aside0.mk A60
  clear A60
  replace H := Option.bind_eq_some_iff.mp H
  obtain ⟨⟨t749, t750, t751, t752⟩, A70, H⟩ := H
  replace H : ((tenementlaw07_Vector_vector.f k a2_0 a2_1 a2_2 a2_3 a2_4).bind fun bt754 => ((vec_Join.f t749 t750 t751 t752 bt754.1 bt754.2.1 bt754.2.2.1 bt754.2.2.2).bind fun bt759 => ((stamp_Seen.f t743 t744 t745 t746 t747 t743 t744 t745 t746).bind fun t764 => (if t764 = true then ((stamp_Stamp_N.f t743 t744 t745 t746 t747).bind fun t765 => ((vec_With.f t743 t744 t745 t746 t747 (IntKind.u64.wrap (t765 - 1))).bind fun bt766 => ((stamp_Seen.f t743 t744 t745 t746 t747 bt766.1 bt766.2.1 bt766.2.2.1 bt766.2.2.2).bind fun t770 => (if t770 = true then (none) else ((stamp_Seen.f t743 t744 t745 t746 t747 t749 t750 t751 t752).bind fun t771 => (if t771 = true then ((stamp_Seen.f t743 t744 t745 t746 t747 bt759.1 bt759.2.1 bt759.2.2.1 bt759.2.2.2).bind fun t772 => (if t772 = true then ((vec_Meet.f t749 t750 t751 t752 bt754.1 bt754.2.1 bt754.2.2.1 bt754.2.2.2).bind fun bt773 => ((stamp_Seen.f t743 t744 t745 t746 t747 bt773.1 bt773.2.1 bt773.2.2.1 bt773.2.2.2).bind fun t777 => ((stamp_Seen.f t743 t744 t745 t746 t747 t749 t750 t751 t752).bind fun t778 => (if t778 = true then (none) else (if t777 = true then (none) else (some true)))))) else (none))) else (none))))))) else (none))))) = some r := H
  have A7 := Aside0.mk A70
  clear A70
  replace H := Option.bind_eq_some_iff.mp H
  obtain ⟨⟨t754, t755, t756, t757⟩, A80, H⟩ := H
  replace H : ((vec_Join.f t749 t750 t751 t752 t754 t755 t756 t757).bind fun bt759 => ((stamp_Seen.f t743 t744 t745 t746 t747 t743 t744 t745 t746).bind fun t764 => (if t764 = true then ((stamp_Stamp_N.f t743 t744 t745 t746 t747).bind fun t765 => ((vec_With.f t743 t744 t745 t746 t747 (IntKind.u64.wrap (t765 - 1))).bind fun bt766 => ((stamp_Seen.f t743 t744 t745 t746 t747 bt766.1 bt766.2.1 bt766.2.2.1 bt766.2.2.2).bind fun t770 => (if t770 = true then (none) else ((stamp_Seen.f t743 t744 t745 t746 t747 t749 t750 t751 t752).bind fun t771 => (if t771 = true then ((stamp_Seen.f t743 t744 t745 t746 t747 bt759.1 bt759.2.1 bt759.2.2.1 bt759.2.2.2).bind fun t772 => (if t772 = true then ((vec_Meet.f t749 t750 t751 t752 t754 t755 t756 t757).bind fun bt773 => ((stamp_Seen.f t743 t744 t745 t746 t747 bt773.1 bt773.2.1 bt773.2.2.1 bt773.2.2.2).bind fun t777 => ((stamp_Seen.f t743 t744 t745 t746 t747 t749 t750 t751 t752).bind fun t778 => (if t778 = true then (none) else (if t777 = true then (none) else (some true)))))) else (none))) else (none))))))) else (none)))) = some r := H
  have A8 := Aside0.mk A80
  clear A80
  replace H := Option.bind_eq_some_iff.mp H
  obtain ⟨⟨t759, t760, t761, t762⟩, A90, H⟩ := H
  replace H : ((stamp_Seen.f t743 t744 t745 t746 t747 t743 t744 t745 t746).bind fun t764 => (if t764 = true then ((stamp_Stamp_N.f t743 t744 t745 t746 t747).bind fun t765 => ((vec_With.f t743 t744 t745 t746 t747 (IntKind.u64.wrap (t765 - 1))).bind fun bt766 => ((stamp_Seen.f t743 t744 t745 t746 t747 bt766.1 bt766.2.1 bt766.2.2.1 bt766.2.2.2).bind fun t770 => (if t770 = true then (none) else ((stamp_Seen.f t743 t744 t745 t746 t747 t749 t750 t751 t752).bind fun t771 => (if t771 = true then ((stamp_Seen.f t743 t744 t745 t746 t747 t759 t760 t761 t762).bind fun t772 => (if t772 = true then ((vec_Meet.f t749 t750 t751 t752 t754 t755 t756 t757).bind fun bt773 => ((stamp_Seen.f t743 t744 t745 t746 t747 bt773.1 bt773.2.1 bt773.2.2.1 bt773.2.2.2).bind fun t777 => ((stamp_Seen.f t743 t744 t745 t746 t747 t749 t750 t751 t752).bind fun t778 => (if t778 = true then (none) else (if t777 = true then (none) else (some true)))))) else (none))) else (none))))))) else (none))) = some r := H
  have A9 := Aside0.mk A90
  clear A90
  replace H := Option.bind_eq_some_iff.mp H
  obtain ⟨t764, A100, H⟩ := H
  replace H : (if t764 = true then ((stamp_Stamp_N.f t743 t744 t745 t746 t747).bind fun t765 => ((vec_With.f t743 t744 t745 t746 t747 (IntKind.u64.wrap (t765 - 1))).bind fun bt766 => ((stamp_Seen.f t743 t744 t745 t746 t747 bt766.1 bt766.2.1 bt766.2.2.1 bt766.2.2.2).bind fun t770 => (if t770 = true then (none) else ((stamp_Seen.f t743 t744 t745 t746 t747 t749 t750 t751 t752).bind fun t771 => (if t771 = true then ((stamp_Seen.f t743 t744 t745 t746 t747 t759 t760 t761 t762).bind fun t772 => (if t772 = true then ((vec_Meet.f t749 t750 t751 t752 t754 t755 t756 t757).bind fun bt773 => ((stamp_Seen.f t743 t744 t745 t746 t747 bt773.1 bt773.2.1 bt773.2.2.1 bt773.2.2.2).bind fun t777 => ((stamp_Seen.f t743 t744 t745 t746 t747 t749 t750 t751 t752).bind fun t778 => (if t778 = true then (none) else (if t777 = true then (none) else (some true)))))) else (none))) else (none))))))) else (none)) = some r := H
  have A10 := Aside0.mk A100
  clear A100
  by_cases c11 : t764 = true
  rotate_left
  · replace c11 := Bool.eq_false_iff.mpr c11
    subst c11
    have H1 : (none) = some r := by rw [if_neg (show ¬ (false = true) by decide)] at H; exact H
    clear H
    have H := H1
    clear H1
    exact absurd H (by simp)
  subst c11
  have H1 : ((stamp_Stamp_N.f t743 t744 t745 t746 t747).bind fun t765 => ((vec_With.f t743 t744 t745 t746 t747 (IntKind.u64.wrap (t765 - 1))).bind fun bt766 => ((stamp_Seen.f t743 t744 t745 t746 t747 bt766.1 bt766.2.1 bt766.2.2.1 bt766.2.2.2).bind fun t770 => (if t770 = true then (none) else ((stamp_Seen.f t743 t744 t745 t746 t747 t749 t750 t751 t752).bind fun t771 => (if t771 = true then ((stamp_Seen.f t743 t744 t745 t746 t747 t759 t760 t761 t762).bind fun t772 => (if t772 = true then ((vec_Meet.f t749 t750 t751 t752 t754 t755 t756 t757).bind fun bt773 => ((stamp_Seen.f t743 t744 t745 t746 t747 bt773.1 bt773.2.1 bt773.2.2.1 bt773.2.2.2).bind fun t777 => ((stamp_Seen.f t743 t744 t745 t746 t747 t749 t750 t751 t752).bind fun t778 => (if t778 = true then (none) else (if t777 = true then (none) else (some true)))))) else (none))) else (none))))))) = some r := by rw [if_pos rfl] at H; exact H
  clear H
  have H := H1
  clear H1
  replace H := Option.bind_eq_some_iff.mp H
  obtain ⟨t765, A120, H⟩ := H
  replace H : ((vec_With.f t743 t744 t745 t746 t747 (IntKind.u64.wrap (t765 - 1))).bind fun bt766 => ((stamp_Seen.f t743 t744 t745 t746 t747 bt766.1 bt766.2.1 bt766.2.2.1 bt766.2.2.2).bind fun t770 => (if t770 = true then (none) else ((stamp_Seen.f t743 t744 t745 t746 t747 t749 t750 t751 t752).bind fun t771 => (if t771 = true then ((stamp_Seen.f t743 t744 t745 t746 t747 t759 t760 t761 t762).bind fun t772 => (if t772 = true then ((vec_Meet.f t749 t750 t751 t752 t754 t755 t756 t757).bind fun bt773 => ((stamp_Seen.f t743 t744 t745 t746 t747 bt773.1 bt773.2.1 bt773.2.2.1 bt773.2.2.2).bind fun t777 => ((stamp_Seen.f t743 t744 t745 t746 t747 t749 t750 t751 t752).bind fun t778 => (if t778 = true then (none) else (if t777 = true then (none) else (some true)))))) else (none))) else (none)))))) = some r := H
  have A12 := Aside0.mk A120
  clear A120
  replace H := Option.bind_eq_some_iff.mp H
  obtain ⟨⟨t766, t767, t768, t769⟩, A130, H⟩ := H
  replace H : ((stamp_Seen.f t743 t744 t745 t746 t747 t766 t767 t768 t769).bind fun t770 => (if t770 = true then (none) else ((stamp_Seen.f t743 t744 t745 t746 t747 t749 t750 t751 t752).bind fun t771 => (if t771 = true then ((stamp_Seen.f t743 t744 t745 t746 t747 t759 t760 t761 t762).bind fun t772 => (if t772 = true then ((vec_Meet.f t749 t750 t751 t752 t754 t755 t756 t757).bind fun bt773 => ((stamp_Seen.f t743 t744 t745 t746 t747 bt773.1 bt773.2.1 bt773.2.2.1 bt773.2.2.2).bind fun t777 => ((stamp_Seen.f t743 t744 t745 t746 t747 t749 t750 t751 t752).bind fun t778 => (if t778 = true then (none) else (if t777 = true then (none) else (some true)))))) else (none))) else (none))))) = some r := H
  have A13 := Aside0.mk A130
  clear A130
  replace H := Option.bind_eq_some_iff.mp H
  obtain ⟨t770, A140, H⟩ := H
  replace H : (if t770 = true then (none) else ((stamp_Seen.f t743 t744 t745 t746 t747 t749 t750 t751 t752).bind fun t771 => (if t771 = true then ((stamp_Seen.f t743 t744 t745 t746 t747 t759 t760 t761 t762).bind fun t772 => (if t772 = true then ((vec_Meet.f t749 t750 t751 t752 t754 t755 t756 t757).bind fun bt773 => ((stamp_Seen.f t743 t744 t745 t746 t747 bt773.1 bt773.2.1 bt773.2.2.1 bt773.2.2.2).bind fun t777 => ((stamp_Seen.f t743 t744 t745 t746 t747 t749 t750 t751 t752).bind fun t778 => (if t778 = true then (none) else (if t777 = true then (none) else (some true)))))) else (none))) else (none)))) = some r := H
  have A14 := Aside0.mk A140
  clear A140
  by_cases c15 : t770 = true
  · subst c15
    have H1 : (none) = some r := by rw [if_pos rfl] at H; exact H
    clear H
    have H := H1
    clear H1
    exact absurd H (by simp)
  replace c15 := Bool.eq_false_iff.mpr c15
  subst c15
  have H1 : ((stamp_Seen.f t743 t744 t745 t746 t747 t749 t750 t751 t752).bind fun t771 => (if t771 = true then ((stamp_Seen.f t743 t744 t745 t746 t747 t759 t760 t761 t762).bind fun t772 => (if t772 = true then ((vec_Meet.f t749 t750 t751 t752 t754 t755 t756 t757).bind fun bt773 => ((stamp_Seen.f t743 t744 t745 t746 t747 bt773.1 bt773.2.1 bt773.2.2.1 bt773.2.2.2).bind fun t777 => ((stamp_Seen.f t743 t744 t745 t746 t747 t749 t750 t751 t752).bind fun t778 => (if t778 = true then (none) else (if t777 = true then (none) else (some true)))))) else (none))) else (none))) = some r := by rw [if_neg (show ¬ (false = true) by decide)] at H; exact H
  clear H
  have H := H1
  clear H1
  replace H := Option.bind_eq_some_iff.mp H
  obtain ⟨t771, A160, H⟩ := H
  replace H : (if t771 = true then ((stamp_Seen.f t743 t744 t745 t746 t747 t759 t760 t761 t762).bind fun t772 => (if t772 = true then ((vec_Meet.f t749 t750 t751 t752 t754 t755 t756 t757).bind fun bt773 => ((stamp_Seen.f t743 t744 t745 t746 t747 bt773.1 bt773.2.1 bt773.2.2.1 bt773.2.2.2).bind fun t777 => ((stamp_Seen.f t743 t744 t745 t746 t747 t749 t750 t751 t752).bind fun t778 => (if t778 = true then (none) else (if t777 = true then (none) else (some true)))))) else (none))) else (none)) = some r := H
  have A16 := Aside0.mk A160
  clear A160
  by_cases c17 : t771 = true
  rotate_left
  · replace c17 := Bool.eq_false_iff.mpr c17
    subst c17
    have H1 : (none) = some r := by rw [if_neg (show ¬ (false = true) by decide)] at H; exact H
    clear H
    have H := H1
    clear H1
    exact absurd H (by simp)
  subst c17
  have H1 : ((stamp_Seen.f t743 t744 t745 t746 t747 t759 t760 t761 t762).bind fun t772 => (if t772 = true then ((vec_Meet.f t749 t750 t751 t752 t754 t755 t756 t757).bind fun bt773 => ((stamp_Seen.f t743 t744 t745 t746 t747 bt773.1 bt773.2.1 bt773.2.2.1 bt773.2.2.2).bind fun t777 => ((stamp_Seen.f t743 t744 t745 t746 t747 t749 t750 t751 t752).bind fun t778 => (if t778 = true then (none) else (if t777 = true then (none) else (some true)))))) else (none))) = some r := by rw [if_pos rfl] at H; exact H
  clear H
  have H := H1
  clear H1
  replace H := Option.bind_eq_some_iff.mp H
  obtain ⟨t772, A180, H⟩ := H
  replace H : (if t772 = true then ((vec_Meet.f t749 t750 t751 t752 t754 t755 t756 t757).bind fun bt773 => ((stamp_Seen.f t743 t744 t745 t746 t747 bt773.1 bt773.2.1 bt773.2.2.1 bt773.2.2.2).bind fun t777 => ((stamp_Seen.f t743 t744 t745 t746 t747 t749 t750 t751 t752).bind fun t778 => (if t778 = true then (none) else (if t777 = true then (none) else (some true)))))) else (none)) = some r := H
  have A18 := Aside0.mk A180
  clear A180
  by_cases c19 : t772 = true
  rotate_left
  · replace c19 := Bool.eq_false_iff.mpr c19
    subst c19
    have H1 : (none) = some r := by rw [if_neg (show ¬ (false = true) by decide)] at H; exact H
    clear H
    have H := H1
    clear H1
    exact absurd H (by simp)
  subst c19
  have H1 : ((vec_Meet.f t749 t750 t751 t752 t754 t755 t756 t757).bind fun bt773 => ((stamp_Seen.f t743 t744 t745 t746 t747 bt773.1 bt773.2.1 bt773.2.2.1 bt773.2.2.2).bind fun t777 => ((stamp_Seen.f t743 t744 t745 t746 t747 t749 t750 t751 t752).bind fun t778 => (if t778 = true then (none) else (if t777 = true then (none) else (some true)))))) = some r := by rw [if_pos rfl] at H; exact H
  clear H
  have H := H1
  clear H1
  replace H := Option.bind_eq_some_iff.mp H
  obtain ⟨⟨t773, t774, t775, t776⟩, A200, H⟩ := H
  replace H : ((stamp_Seen.f t743 t744 t745 t746 t747 t773 t774 t775 t776).bind fun t777 => ((stamp_Seen.f t743 t744 t745 t746 t747 t749 t750 t751 t752).bind fun t778 => (if t778 = true then (none) else (if t777 = true then (none) else (some true))))) = some r := H
  have A20 := Aside0.mk A200
  clear A200
  replace H := Option.bind_eq_some_iff.mp H
  obtain ⟨t777, A210, H⟩ := H
  replace H : ((stamp_Seen.f t743 t744 t745 t746 t747 t749 t750 t751 t752).bind fun t778 => (if t778 = true then (none) else (if t777 = true then (none) else (some true)))) = some r := H
  have A21 := Aside0.mk A210
  clear A210
  replace H := Option.bind_eq_some_iff.mp H
  obtain ⟨t778, A220, H⟩ := H
  replace H : (if t778 = true then (none) else (if t777 = true then (none) else (some true))) = some r := H
  have A22 := Aside0.mk A220
  clear A220
  by_cases c23 : t778 = true
  · subst c23
    have H1 : (none) = some r := by rw [if_pos rfl] at H; exact H
    clear H
    have H := H1
    clear H1
    exact absurd H (by simp)
  replace c23 := Bool.eq_false_iff.mpr c23
  subst c23
  have H1 : (if t777 = true then (none) else (some true)) = some r := by rw [if_neg (show ¬ (false = true) by decide)] at H; exact H
  clear H
  have H := H1
  clear H1
  by_cases c24 : t777 = true
  · subst c24
    have H1 : (none) = some r := by rw [if_pos rfl] at H; exact H
    clear H
    have H := H1
    clear H1
    exact absurd H (by simp)
  replace c24 := Bool.eq_false_iff.mpr c24
  subst c24
  have H1 : (some true) = some r := by rw [if_neg (show ¬ (false = true) by decide)] at H; exact H
  clear H
  have H := H1
  clear H1
  obtain rfl := Option.some.inj H
  go_enter Tryd.func8, Tryd.ntmps8
  try go_wp2_with (first | ((with_reducible refine gate_dst (N := 3) rfl ?_); refine box_event ?hg (N := 3) ?hd (cs := #[.int .u64 a0_0, .int .u64 a0_1, .int .u64 a0_2, .int .u64 a0_3, .int .i64 a0_4, .bool a0_5]) (t := 28) ?hr ?_; (case hd => rfl); (case hg => rfl); (case hr => first | (go_simp; done) | (go_simp; rfl)); intro gb739 hg w25 hbox hb; have BK739 := Aside0.mk (hbox); have GW739 := Kw_ HB hg; have GE739 := GW739; replace HB := Ks_ HB hb; clear hb hbox hg) | ((with_reducible refine gate_dst (N := 4) rfl ?_); refine box_event ?hg (N := 4) ?hd (cs := #[.int .u64 a1_0, .int .u64 a1_1, .int .u64 a1_2, .int .u64 a1_3, .bool a1_4]) (t := 30) ?hr ?_; (case hd => rfl); (case hg => rfl); (case hr => first | (go_simp; done) | (go_simp; rfl)); intro gb740 hg w26 hbox hb; have BK740 := Aside0.mk (hbox); have GW740 := Kw_ HB hg; have GE740 := GW740; have NB739_740 := Kl_ BK739 hg; have NB740_739 := Kr_ BK739 hg; replace BK739 := Kb_ BK739 hb; replace HB := Ks_ HB hb; clear hb hbox hg) | ((with_reducible refine gate_dst (N := 5) rfl ?_); refine box_event ?hg (N := 5) ?hd (cs := #[.int .u64 a2_0, .int .u64 a2_1, .int .u64 a2_2, .int .u64 a2_3, .bool a2_4]) (t := 30) ?hr ?_; (case hd => rfl); (case hg => rfl); (case hr => first | (go_simp; done) | (go_simp; rfl)); intro gb741 hg w27 hbox hb; have BK741 := Aside0.mk (hbox); have GW741 := Kw_ HB hg; have GE741 := GW741; have NB739_741 := Kl_ BK739 hg; have NB741_739 := Kr_ BK739 hg; have NB740_741 := Kl_ BK740 hg; have NB741_740 := Kr_ BK740 hg; replace BK739 := Kb_ BK739 hb; replace BK740 := Kb_ BK740 hb; replace HB := Ks_ HB hb; clear hb hbox hg) | ((with_reducible refine gate_callee (f := 9) rfl ?_); refine goesL_ (some 12) rfl rfl Tryd.func9 (by kernel_rfl) rfl #[] rfl (by (try simp only [List.map_toArray, List.map_cons, List.map_nil]); first | done | rfl | (simp only [List.length_drop, List.length_take]; rfl)) ?_; (with_reducible refine (tenementlaw07_examples.calls k  true _ A4.out).mono ?_); rintro e w28 ⟨rfl, hb⟩; refine ⟨_, rfl, ?_⟩; replace BK739 := Kb_ BK739 hb; replace BK740 := Kb_ BK740 hb; replace BK741 := Kb_ BK741 hb; replace HB := Ks_ HB hb; (try clear hb); (try clear hb2); (try clear hk); (try clear hi); have hnb29 := NB739_740.out; have hnc29 := NB740_739.out; have hnb30 := NB739_741.out; have hnc30 := NB741_739.out; have hcz31_0 : w28.cell? ⟨gb739, 0, none⟩ = some (.int .u64 a0_0) := (blk_cell BK739.out 0).trans rfl; have hcz31_1 : w28.cell? ⟨gb739, 1, none⟩ = some (.int .u64 a0_1) := (blk_cell BK739.out 1).trans rfl; have hcz31_2 : w28.cell? ⟨gb739, 2, none⟩ = some (.int .u64 a0_2) := (blk_cell BK739.out 2).trans rfl; have hcz31_3 : w28.cell? ⟨gb739, 3, none⟩ = some (.int .u64 a0_3) := (blk_cell BK739.out 3).trans rfl; have hcz31_4 : w28.cell? ⟨gb739, 4, none⟩ = some (.int .i64 a0_4) := (blk_cell BK739.out 4).trans rfl; have hcz31_5 : w28.cell? ⟨gb739, 5, none⟩ = some (.bool a0_5) := (blk_cell BK739.out 5).trans rfl; have hfz31_0 := blk_frozen BK739.out 0; have hfz31_1 := blk_frozen BK739.out 1; have hfz31_2 := blk_frozen BK739.out 2; have hfz31_3 := blk_frozen BK739.out 3; have hfz31_4 := blk_frozen BK739.out 4; have hfz31_5 := blk_frozen BK739.out 5) | ((with_reducible refine gate_callee (f := 10) rfl ?_); refine goesL_ (some 17) rfl rfl Tryd.func10 (by kernel_rfl) rfl #[.agg #[.int .u64 a0_0, .int .u64 a0_1, .int .u64 a0_2, .int .u64 a0_3, .int .i64 a0_4, .bool true]] rfl (by (try simp only [List.map_toArray, List.map_cons, List.map_nil]); first | done | rfl | (simp only [List.length_drop, List.length_take]; rfl)) ?_; (with_reducible refine (tenementlaw07_Mark_mark.calls k a0_0 a0_1 a0_2 a0_3 a0_4 true t743 t744 t745 t746 t747 _ A6.out).mono ?_); rintro e w32 ⟨rfl, hb⟩; refine ⟨_, rfl, ?_⟩; replace BK739 := Aside0.mk (blk_below (g := gb739) (o := .cells #[.int .u64 a0_0, .int .u64 a0_1, .int .u64 a0_2, .int .u64 a0_3, .int .i64 a0_4, .bool true] 28 (0, 0)) (by (with_reducible repeat (first | refine blk_drewN ?_ _ | refine blk_drew ?_ | refine blk_alloc ?_ _)); refine blk_put (cs := #[.int .u64 a0_0, .int .u64 a0_1, .int .u64 a0_2, .int .u64 a0_3, .int .i64 a0_4, .bool a0_5]) ?_ 5 _ rfl; (with_reducible repeat (first | refine blk_drewN ?_ _ | refine blk_drew ?_ | refine blk_alloc ?_ _)); exact BK739.out) hb); replace BK740 := Kf_ BK740 NB740_739 hb; replace BK741 := Kf_ BK741 NB741_739 hb; replace HB := Kt_ HB GE739 hb; (try clear hb); (try clear hb2); (try clear hk); (try clear hi)) | ((with_reducible refine gate_dst (N := 8) rfl ?_); refine box_event ?hg (N := 8) ?hd (cs := #[.int .u64 0, .int .u64 0, .int .u64 0, .int .u64 0, .int .i64 0]) (t := 26) ?hr ?_; (case hd => rfl); (case hg => rfl); (case hr => first | (go_simp; done) | (go_simp; rfl)); intro gb748 hg w33 hbox hb; have BK748 := Aside0.mk (hbox); have GW748 := Kw_ HB hg; have GE748 := GW748; have NB739_748 := Kl_ BK739 hg; have NB748_739 := Kr_ BK739 hg; have NB740_748 := Kl_ BK740 hg; have NB748_740 := Kr_ BK740 hg; have NB741_748 := Kl_ BK741 hg; have NB748_741 := Kr_ BK741 hg; replace BK739 := Kb_ BK739 hb; replace BK740 := Kb_ BK740 hb; replace BK741 := Kb_ BK741 hb; replace HB := Ks_ HB hb; clear hb hbox hg; have hnb34 := NB748_739.out; have hnc34 := NB739_748.out; have hnb35 := NB748_740.out; have hnc35 := NB740_748.out; have hnb36 := NB748_741.out; have hnc36 := NB741_748.out; have hcz37_0 : w33.cell? ⟨gb748, 0, none⟩ = some (.int .u64 0) := (blk_cell BK748.out 0).trans rfl; have hcz37_1 : w33.cell? ⟨gb748, 1, none⟩ = some (.int .u64 0) := (blk_cell BK748.out 1).trans rfl; have hcz37_2 : w33.cell? ⟨gb748, 2, none⟩ = some (.int .u64 0) := (blk_cell BK748.out 2).trans rfl; have hcz37_3 : w33.cell? ⟨gb748, 3, none⟩ = some (.int .u64 0) := (blk_cell BK748.out 3).trans rfl; have hcz37_4 : w33.cell? ⟨gb748, 4, none⟩ = some (.int .i64 0) := (blk_cell BK748.out 4).trans rfl; have hfz37_0 := blk_frozen BK748.out 0; have hfz37_1 := blk_frozen BK748.out 1; have hfz37_2 := blk_frozen BK748.out 2; have hfz37_3 := blk_frozen BK748.out 3; have hfz37_4 := blk_frozen BK748.out 4; have hnb38 := NB740_741.out; have hnc38 := NB741_740.out; have hcz39_0 : w33.cell? ⟨gb740, 0, none⟩ = some (.int .u64 a1_0) := (blk_cell BK740.out 0).trans rfl; have hcz39_1 : w33.cell? ⟨gb740, 1, none⟩ = some (.int .u64 a1_1) := (blk_cell BK740.out 1).trans rfl; have hcz39_2 : w33.cell? ⟨gb740, 2, none⟩ = some (.int .u64 a1_2) := (blk_cell BK740.out 2).trans rfl; have hcz39_3 : w33.cell? ⟨gb740, 3, none⟩ = some (.int .u64 a1_3) := (blk_cell BK740.out 3).trans rfl; have hcz39_4 : w33.cell? ⟨gb740, 4, none⟩ = some (.bool a1_4) := (blk_cell BK740.out 4).trans rfl; have hfz39_0 := blk_frozen BK740.out 0; have hfz39_1 := blk_frozen BK740.out 1; have hfz39_2 := blk_frozen BK740.out 2; have hfz39_3 := blk_frozen BK740.out 3; have hfz39_4 := blk_frozen BK740.out 4) | ((with_reducible refine gate_callee (f := 11) rfl ?_); refine goesL_ (some 19) rfl rfl Tryd.func11 (by kernel_rfl) rfl #[.agg #[.int .u64 a1_0, .int .u64 a1_1, .int .u64 a1_2, .int .u64 a1_3, .bool a1_4]] rfl (by (try simp only [List.map_toArray, List.map_cons, List.map_nil]); first | done | rfl | (simp only [List.length_drop, List.length_take]; rfl)) ?_; (with_reducible refine (tenementlaw07_Vector_vector.calls k a1_0 a1_1 a1_2 a1_3 a1_4 t749 t750 t751 t752 _ A7.out).mono ?_); rintro e w40 ⟨rfl, hb⟩; refine ⟨_, rfl, ?_⟩; replace BK739 := Kf_ BK739 NB739_748 hb; replace BK740 := Kf_ BK740 NB740_748 hb; replace BK741 := Kf_ BK741 NB741_748 hb; replace BK748 := Aside0.mk (blk_below (g := gb748) (o := .cells #[.int .u64 t743, .int .u64 t744, .int .u64 t745, .int .u64 t746, .int .i64 t747] 26 (0, 0)) (by (with_reducible repeat (first | refine blk_drewN ?_ _ | refine blk_drew ?_ | refine blk_alloc ?_ _)); refine blk_put (cs := #[.int .u64 t743, .int .u64 t744, .int .u64 t745, .int .u64 t746, .int .i64 0]) ?_ 4 _ rfl; (with_reducible repeat (first | refine blk_drewN ?_ _ | refine blk_drew ?_ | refine blk_alloc ?_ _)); refine blk_put (cs := #[.int .u64 t743, .int .u64 t744, .int .u64 t745, .int .u64 0, .int .i64 0]) ?_ 3 _ rfl; (with_reducible repeat (first | refine blk_drewN ?_ _ | refine blk_drew ?_ | refine blk_alloc ?_ _)); refine blk_put (cs := #[.int .u64 t743, .int .u64 t744, .int .u64 0, .int .u64 0, .int .i64 0]) ?_ 2 _ rfl; (with_reducible repeat (first | refine blk_drewN ?_ _ | refine blk_drew ?_ | refine blk_alloc ?_ _)); refine blk_put (cs := #[.int .u64 t743, .int .u64 0, .int .u64 0, .int .u64 0, .int .i64 0]) ?_ 1 _ rfl; (with_reducible repeat (first | refine blk_drewN ?_ _ | refine blk_drew ?_ | refine blk_alloc ?_ _)); refine blk_put (cs := #[.int .u64 0, .int .u64 0, .int .u64 0, .int .u64 0, .int .i64 0]) ?_ 0 _ rfl; (with_reducible repeat (first | refine blk_drewN ?_ _ | refine blk_drew ?_ | refine blk_alloc ?_ _)); exact BK748.out) hb); replace HB := Kt_ HB GE748 hb; (try clear hb); (try clear hb2); (try clear hk); (try clear hi)) | ((with_reducible refine gate_dst (N := 9) rfl ?_); refine box_event ?hg (N := 9) ?hd (cs := #[.int .u64 0, .int .u64 0, .int .u64 0, .int .u64 0]) (t := 24) ?hr ?_; (case hd => rfl); (case hg => rfl); (case hr => first | (go_simp; done) | (go_simp; rfl)); intro gb753 hg w41 hbox hb; have BK753 := Aside0.mk (hbox); have GW753 := Kw_ HB hg; have GE753 := GW753; have NB739_753 := Kl_ BK739 hg; have NB753_739 := Kr_ BK739 hg; have NB740_753 := Kl_ BK740 hg; have NB753_740 := Kr_ BK740 hg; have NB741_753 := Kl_ BK741 hg; have NB753_741 := Kr_ BK741 hg; have NB748_753 := Kl_ BK748 hg; have NB753_748 := Kr_ BK748 hg; replace BK739 := Kb_ BK739 hb; replace BK740 := Kb_ BK740 hb; replace BK741 := Kb_ BK741 hb; replace BK748 := Kb_ BK748 hb; replace HB := Ks_ HB hb; clear hb hbox hg; have hnb42 := NB753_739.out; have hnc42 := NB739_753.out; have hnb43 := NB753_740.out; have hnc43 := NB740_753.out; have hnb44 := NB753_741.out; have hnc44 := NB741_753.out; have hnb45 := NB753_748.out; have hnc45 := NB748_753.out; have hcz46_0 : w41.cell? ⟨gb753, 0, none⟩ = some (.int .u64 0) := (blk_cell BK753.out 0).trans rfl; have hcz46_1 : w41.cell? ⟨gb753, 1, none⟩ = some (.int .u64 0) := (blk_cell BK753.out 1).trans rfl; have hcz46_2 : w41.cell? ⟨gb753, 2, none⟩ = some (.int .u64 0) := (blk_cell BK753.out 2).trans rfl; have hcz46_3 : w41.cell? ⟨gb753, 3, none⟩ = some (.int .u64 0) := (blk_cell BK753.out 3).trans rfl; have hfz46_0 := blk_frozen BK753.out 0; have hfz46_1 := blk_frozen BK753.out 1; have hfz46_2 := blk_frozen BK753.out 2; have hfz46_3 := blk_frozen BK753.out 3; have hcz47_0 : w41.cell? ⟨gb741, 0, none⟩ = some (.int .u64 a2_0) := (blk_cell BK741.out 0).trans rfl; have hcz47_1 : w41.cell? ⟨gb741, 1, none⟩ = some (.int .u64 a2_1) := (blk_cell BK741.out 1).trans rfl; have hcz47_2 : w41.cell? ⟨gb741, 2, none⟩ = some (.int .u64 a2_2) := (blk_cell BK741.out 2).trans rfl; have hcz47_3 : w41.cell? ⟨gb741, 3, none⟩ = some (.int .u64 a2_3) := (blk_cell BK741.out 3).trans rfl; have hcz47_4 : w41.cell? ⟨gb741, 4, none⟩ = some (.bool a2_4) := (blk_cell BK741.out 4).trans rfl; have hfz47_0 := blk_frozen BK741.out 0; have hfz47_1 := blk_frozen BK741.out 1; have hfz47_2 := blk_frozen BK741.out 2; have hfz47_3 := blk_frozen BK741.out 3; have hfz47_4 := blk_frozen BK741.out 4) | ((with_reducible refine gate_callee (f := 11) rfl ?_); refine goesL_ (some 21) rfl rfl Tryd.func11 (by kernel_rfl) rfl #[.agg #[.int .u64 a2_0, .int .u64 a2_1, .int .u64 a2_2, .int .u64 a2_3, .bool a2_4]] rfl (by (try simp only [List.map_toArray, List.map_cons, List.map_nil]); first | done | rfl | (simp only [List.length_drop, List.length_take]; rfl)) ?_; (with_reducible refine (tenementlaw07_Vector_vector.calls k a2_0 a2_1 a2_2 a2_3 a2_4 t754 t755 t756 t757 _ A8.out).mono ?_); rintro e w48 ⟨rfl, hb⟩; refine ⟨_, rfl, ?_⟩; replace BK739 := Kf_ BK739 NB739_753 hb; replace BK740 := Kf_ BK740 NB740_753 hb; replace BK741 := Kf_ BK741 NB741_753 hb; replace BK748 := Kf_ BK748 NB748_753 hb; replace BK753 := Aside0.mk (blk_below (g := gb753) (o := .cells #[.int .u64 t749, .int .u64 t750, .int .u64 t751, .int .u64 t752] 24 (0, 0)) (by (with_reducible repeat (first | refine blk_drewN ?_ _ | refine blk_drew ?_ | refine blk_alloc ?_ _)); refine blk_put (cs := #[.int .u64 t749, .int .u64 t750, .int .u64 t751, .int .u64 0]) ?_ 3 _ rfl; (with_reducible repeat (first | refine blk_drewN ?_ _ | refine blk_drew ?_ | refine blk_alloc ?_ _)); refine blk_put (cs := #[.int .u64 t749, .int .u64 t750, .int .u64 0, .int .u64 0]) ?_ 2 _ rfl; (with_reducible repeat (first | refine blk_drewN ?_ _ | refine blk_drew ?_ | refine blk_alloc ?_ _)); refine blk_put (cs := #[.int .u64 t749, .int .u64 0, .int .u64 0, .int .u64 0]) ?_ 1 _ rfl; (with_reducible repeat (first | refine blk_drewN ?_ _ | refine blk_drew ?_ | refine blk_alloc ?_ _)); refine blk_put (cs := #[.int .u64 0, .int .u64 0, .int .u64 0, .int .u64 0]) ?_ 0 _ rfl; (with_reducible repeat (first | refine blk_drewN ?_ _ | refine blk_drew ?_ | refine blk_alloc ?_ _)); exact BK753.out) hb); replace HB := Kt_ HB GE753 hb; (try clear hb); (try clear hb2); (try clear hk); (try clear hi)) | ((with_reducible refine gate_dst (N := 10) rfl ?_); refine box_event ?hg (N := 10) ?hd (cs := #[.int .u64 0, .int .u64 0, .int .u64 0, .int .u64 0]) (t := 24) ?hr ?_; (case hd => rfl); (case hg => rfl); (case hr => first | (go_simp; done) | (go_simp; rfl)); intro gb758 hg w49 hbox hb; have BK758 := Aside0.mk (hbox); have GW758 := Kw_ HB hg; have GE758 := GW758; have NB739_758 := Kl_ BK739 hg; have NB758_739 := Kr_ BK739 hg; have NB740_758 := Kl_ BK740 hg; have NB758_740 := Kr_ BK740 hg; have NB741_758 := Kl_ BK741 hg; have NB758_741 := Kr_ BK741 hg; have NB748_758 := Kl_ BK748 hg; have NB758_748 := Kr_ BK748 hg; have NB753_758 := Kl_ BK753 hg; have NB758_753 := Kr_ BK753 hg; replace BK739 := Kb_ BK739 hb; replace BK740 := Kb_ BK740 hb; replace BK741 := Kb_ BK741 hb; replace BK748 := Kb_ BK748 hb; replace BK753 := Kb_ BK753 hb; replace HB := Ks_ HB hb; clear hb hbox hg; have hnb50 := NB758_739.out; have hnc50 := NB739_758.out; have hnb51 := NB758_740.out; have hnc51 := NB740_758.out; have hnb52 := NB758_741.out; have hnc52 := NB741_758.out; have hnb53 := NB758_748.out; have hnc53 := NB748_758.out; have hnb54 := NB758_753.out; have hnc54 := NB753_758.out; have hcz55_0 : w49.cell? ⟨gb758, 0, none⟩ = some (.int .u64 0) := (blk_cell BK758.out 0).trans rfl; have hcz55_1 : w49.cell? ⟨gb758, 1, none⟩ = some (.int .u64 0) := (blk_cell BK758.out 1).trans rfl; have hcz55_2 : w49.cell? ⟨gb758, 2, none⟩ = some (.int .u64 0) := (blk_cell BK758.out 2).trans rfl; have hcz55_3 : w49.cell? ⟨gb758, 3, none⟩ = some (.int .u64 0) := (blk_cell BK758.out 3).trans rfl; have hfz55_0 := blk_frozen BK758.out 0; have hfz55_1 := blk_frozen BK758.out 1; have hfz55_2 := blk_frozen BK758.out 2; have hfz55_3 := blk_frozen BK758.out 3; have hcz56_0 : w49.cell? ⟨gb753, 0, none⟩ = some (.int .u64 t749) := (blk_cell BK753.out 0).trans rfl; have hcz56_1 : w49.cell? ⟨gb753, 1, none⟩ = some (.int .u64 t750) := (blk_cell BK753.out 1).trans rfl; have hcz56_2 : w49.cell? ⟨gb753, 2, none⟩ = some (.int .u64 t751) := (blk_cell BK753.out 2).trans rfl; have hcz56_3 : w49.cell? ⟨gb753, 3, none⟩ = some (.int .u64 t752) := (blk_cell BK753.out 3).trans rfl; have hfz56_0 := blk_frozen BK753.out 0; have hfz56_1 := blk_frozen BK753.out 1; have hfz56_2 := blk_frozen BK753.out 2; have hfz56_3 := blk_frozen BK753.out 3) | ((with_reducible refine gate_callee (f := 32) rfl ?_); refine goesL_ (some 24) rfl rfl Tryd.func32 (by kernel_rfl) rfl #[.agg #[.int .u64 t749, .int .u64 t750, .int .u64 t751, .int .u64 t752], .agg #[.int .u64 t754, .int .u64 t755, .int .u64 t756, .int .u64 t757]] rfl (by (try simp only [List.map_toArray, List.map_cons, List.map_nil]); first | done | rfl | (simp only [List.length_drop, List.length_take]; rfl)) ?_; (with_reducible refine (vec_Join.calls t749 t750 t751 t752 t754 t755 t756 t757 t759 t760 t761 t762 _ A9.out).mono ?_); rintro e w57 ⟨rfl, hb⟩; refine ⟨_, rfl, ?_⟩; replace BK739 := Kf_ BK739 NB739_758 hb; replace BK740 := Kf_ BK740 NB740_758 hb; replace BK741 := Kf_ BK741 NB741_758 hb; replace BK748 := Kf_ BK748 NB748_758 hb; replace BK753 := Kf_ BK753 NB753_758 hb; replace BK758 := Aside0.mk (blk_below (g := gb758) (o := .cells #[.int .u64 t754, .int .u64 t755, .int .u64 t756, .int .u64 t757] 24 (0, 0)) (by (with_reducible repeat (first | refine blk_drewN ?_ _ | refine blk_drew ?_ | refine blk_alloc ?_ _)); refine blk_put (cs := #[.int .u64 t754, .int .u64 t755, .int .u64 t756, .int .u64 0]) ?_ 3 _ rfl; (with_reducible repeat (first | refine blk_drewN ?_ _ | refine blk_drew ?_ | refine blk_alloc ?_ _)); refine blk_put (cs := #[.int .u64 t754, .int .u64 t755, .int .u64 0, .int .u64 0]) ?_ 2 _ rfl; (with_reducible repeat (first | refine blk_drewN ?_ _ | refine blk_drew ?_ | refine blk_alloc ?_ _)); refine blk_put (cs := #[.int .u64 t754, .int .u64 0, .int .u64 0, .int .u64 0]) ?_ 1 _ rfl; (with_reducible repeat (first | refine blk_drewN ?_ _ | refine blk_drew ?_ | refine blk_alloc ?_ _)); refine blk_put (cs := #[.int .u64 0, .int .u64 0, .int .u64 0, .int .u64 0]) ?_ 0 _ rfl; (with_reducible repeat (first | refine blk_drewN ?_ _ | refine blk_drew ?_ | refine blk_alloc ?_ _)); exact BK758.out) hb); replace HB := Kt_ HB GE758 hb; (try clear hb); (try clear hb2); (try clear hk); (try clear hi)) | ((with_reducible refine gate_dst (N := 11) rfl ?_); refine box_event ?hg (N := 11) ?hd (cs := #[.int .u64 0, .int .u64 0, .int .u64 0, .int .u64 0]) (t := 24) ?hr ?_; (case hd => rfl); (case hg => rfl); (case hr => first | (go_simp; done) | (go_simp; rfl)); intro gb763 hg w58 hbox hb; have BK763 := Aside0.mk (hbox); have GW763 := Kw_ HB hg; have GE763 := GW763; have NB739_763 := Kl_ BK739 hg; have NB763_739 := Kr_ BK739 hg; have NB740_763 := Kl_ BK740 hg; have NB763_740 := Kr_ BK740 hg; have NB741_763 := Kl_ BK741 hg; have NB763_741 := Kr_ BK741 hg; have NB748_763 := Kl_ BK748 hg; have NB763_748 := Kr_ BK748 hg; have NB753_763 := Kl_ BK753 hg; have NB763_753 := Kr_ BK753 hg; have NB758_763 := Kl_ BK758 hg; have NB763_758 := Kr_ BK758 hg; replace BK739 := Kb_ BK739 hb; replace BK740 := Kb_ BK740 hb; replace BK741 := Kb_ BK741 hb; replace BK748 := Kb_ BK748 hb; replace BK753 := Kb_ BK753 hb; replace BK758 := Kb_ BK758 hb; replace HB := Ks_ HB hb; clear hb hbox hg; have hnb59 := NB763_739.out; have hnc59 := NB739_763.out; have hnb60 := NB763_740.out; have hnc60 := NB740_763.out; have hnb61 := NB763_741.out; have hnc61 := NB741_763.out; have hnb62 := NB763_748.out; have hnc62 := NB748_763.out; have hnb63 := NB763_753.out; have hnc63 := NB753_763.out; have hnb64 := NB763_758.out; have hnc64 := NB758_763.out; have hcz65_0 : w58.cell? ⟨gb763, 0, none⟩ = some (.int .u64 0) := (blk_cell BK763.out 0).trans rfl; have hcz65_1 : w58.cell? ⟨gb763, 1, none⟩ = some (.int .u64 0) := (blk_cell BK763.out 1).trans rfl; have hcz65_2 : w58.cell? ⟨gb763, 2, none⟩ = some (.int .u64 0) := (blk_cell BK763.out 2).trans rfl; have hcz65_3 : w58.cell? ⟨gb763, 3, none⟩ = some (.int .u64 0) := (blk_cell BK763.out 3).trans rfl; have hfz65_0 := blk_frozen BK763.out 0; have hfz65_1 := blk_frozen BK763.out 1; have hfz65_2 := blk_frozen BK763.out 2; have hfz65_3 := blk_frozen BK763.out 3))
  have n0_ : Aside0 (((((w58.setCell ⟨gb763, 0, none⟩ (.int .u64 t759)).setCell ⟨gb763, 1, none⟩ (.int .u64 t760)).setCell ⟨gb763, 2, none⟩ (.int .u64 t761)).setCell ⟨gb763, 3, none⟩ (.int .u64 t762)).heap[gb739]? = some (.cells #[.int .u64 a0_0, .int .u64 a0_1, .int .u64 a0_2, .int .u64 a0_3, .int .i64 a0_4, .bool true] 28 (0, 0))) := ⟨by (repeat (first | (with_reducible first | refine blk_drewN ?_ _ | refine blk_drew ?_ | refine blk_alloc ?_ _) | refine blk_far ?_ NB739_763.out _)); exact BK739.out⟩
  have n1_ : Aside0 (((((w58.setCell ⟨gb763, 0, none⟩ (.int .u64 t759)).setCell ⟨gb763, 1, none⟩ (.int .u64 t760)).setCell ⟨gb763, 2, none⟩ (.int .u64 t761)).setCell ⟨gb763, 3, none⟩ (.int .u64 t762)).heap[gb740]? = some (.cells #[.int .u64 a1_0, .int .u64 a1_1, .int .u64 a1_2, .int .u64 a1_3, .bool a1_4] 30 (0, 0))) := ⟨by (repeat (first | (with_reducible first | refine blk_drewN ?_ _ | refine blk_drew ?_ | refine blk_alloc ?_ _) | refine blk_far ?_ NB740_763.out _)); exact BK740.out⟩
  have n2_ : Aside0 (((((w58.setCell ⟨gb763, 0, none⟩ (.int .u64 t759)).setCell ⟨gb763, 1, none⟩ (.int .u64 t760)).setCell ⟨gb763, 2, none⟩ (.int .u64 t761)).setCell ⟨gb763, 3, none⟩ (.int .u64 t762)).heap[gb741]? = some (.cells #[.int .u64 a2_0, .int .u64 a2_1, .int .u64 a2_2, .int .u64 a2_3, .bool a2_4] 30 (0, 0))) := ⟨by (repeat (first | (with_reducible first | refine blk_drewN ?_ _ | refine blk_drew ?_ | refine blk_alloc ?_ _) | refine blk_far ?_ NB741_763.out _)); exact BK741.out⟩
  have n3_ : Aside0 (((((w58.setCell ⟨gb763, 0, none⟩ (.int .u64 t759)).setCell ⟨gb763, 1, none⟩ (.int .u64 t760)).setCell ⟨gb763, 2, none⟩ (.int .u64 t761)).setCell ⟨gb763, 3, none⟩ (.int .u64 t762)).heap[gb748]? = some (.cells #[.int .u64 t743, .int .u64 t744, .int .u64 t745, .int .u64 t746, .int .i64 t747] 26 (0, 0))) := ⟨by (repeat (first | (with_reducible first | refine blk_drewN ?_ _ | refine blk_drew ?_ | refine blk_alloc ?_ _) | refine blk_far ?_ NB748_763.out _)); exact BK748.out⟩
  have n4_ : Aside0 (((((w58.setCell ⟨gb763, 0, none⟩ (.int .u64 t759)).setCell ⟨gb763, 1, none⟩ (.int .u64 t760)).setCell ⟨gb763, 2, none⟩ (.int .u64 t761)).setCell ⟨gb763, 3, none⟩ (.int .u64 t762)).heap[gb753]? = some (.cells #[.int .u64 t749, .int .u64 t750, .int .u64 t751, .int .u64 t752] 24 (0, 0))) := ⟨by (repeat (first | (with_reducible first | refine blk_drewN ?_ _ | refine blk_drew ?_ | refine blk_alloc ?_ _) | refine blk_far ?_ NB753_763.out _)); exact BK753.out⟩
  have n5_ : Aside0 (((((w58.setCell ⟨gb763, 0, none⟩ (.int .u64 t759)).setCell ⟨gb763, 1, none⟩ (.int .u64 t760)).setCell ⟨gb763, 2, none⟩ (.int .u64 t761)).setCell ⟨gb763, 3, none⟩ (.int .u64 t762)).heap[gb758]? = some (.cells #[.int .u64 t754, .int .u64 t755, .int .u64 t756, .int .u64 t757] 24 (0, 0))) := ⟨by (repeat (first | (with_reducible first | refine blk_drewN ?_ _ | refine blk_drew ?_ | refine blk_alloc ?_ _) | refine blk_far ?_ NB758_763.out _)); exact BK758.out⟩
  have n6_ : Aside0 (((((w58.setCell ⟨gb763, 0, none⟩ (.int .u64 t759)).setCell ⟨gb763, 1, none⟩ (.int .u64 t760)).setCell ⟨gb763, 2, none⟩ (.int .u64 t761)).setCell ⟨gb763, 3, none⟩ (.int .u64 t762)).heap[gb763]? = some (.cells #[.int .u64 t759, .int .u64 t760, .int .u64 t761, .int .u64 t762] 24 (0, 0))) := ⟨by (with_reducible repeat (first | refine blk_drewN ?_ _ | refine blk_drew ?_ | refine blk_alloc ?_ _)); refine blk_put (cs := #[.int .u64 t759, .int .u64 t760, .int .u64 t761, .int .u64 0]) ?_ 3 _ rfl; (with_reducible repeat (first | refine blk_drewN ?_ _ | refine blk_drew ?_ | refine blk_alloc ?_ _)); refine blk_put (cs := #[.int .u64 t759, .int .u64 t760, .int .u64 0, .int .u64 0]) ?_ 2 _ rfl; (with_reducible repeat (first | refine blk_drewN ?_ _ | refine blk_drew ?_ | refine blk_alloc ?_ _)); refine blk_put (cs := #[.int .u64 t759, .int .u64 0, .int .u64 0, .int .u64 0]) ?_ 1 _ rfl; (with_reducible repeat (first | refine blk_drewN ?_ _ | refine blk_drew ?_ | refine blk_alloc ?_ _)); refine blk_put (cs := #[.int .u64 0, .int .u64 0, .int .u64 0, .int .u64 0]) ?_ 0 _ rfl; (with_reducible repeat (first | refine blk_drewN ?_ _ | refine blk_drew ?_ | refine blk_alloc ?_ _)); exact BK763.out⟩
  have n7_ : Aside0 (Below w.heap.size w ((((w58.setCell ⟨gb763, 0, none⟩ (.int .u64 t759)).setCell ⟨gb763, 1, none⟩ (.int .u64 t760)).setCell ⟨gb763, 2, none⟩ (.int .u64 t761)).setCell ⟨gb763, 3, none⟩ (.int .u64 t762))) := ⟨by repeat (first | (with_reducible first | exact HB.out | apply below_alloc | apply pw_below_drewN | apply below_drew1 | refine below_set ?_ GE739.out | refine below_set ?_ GE740.out | refine below_set ?_ GE741.out | refine below_set ?_ GE748.out | refine below_set ?_ GE753.out | refine below_set ?_ GE758.out | refine below_set ?_ GE763.out) | exact HB.out)⟩
  (try clear BK739)
  (try clear BK740)
  (try clear BK741)
  (try clear BK748)
  (try clear BK753)
  (try clear BK758)
  (try clear BK763)
  (try clear HB)
  generalize ((((w58.setCell ⟨gb763, 0, none⟩ (.int .u64 t759)).setCell ⟨gb763, 1, none⟩ (.int .u64 t760)).setCell ⟨gb763, 2, none⟩ (.int .u64 t761)).setCell ⟨gb763, 3, none⟩ (.int .u64 t762)) = w66 at n0_ n1_ n2_ n3_ n4_ n5_ n6_ n7_ ⊢
  have BK739 := n0_
  have BK740 := n1_
  have BK741 := n2_
  have BK748 := n3_
  have BK753 := n4_
  have BK758 := n5_
  have BK763 := n6_
  have HB := n7_
  clear n0_ n1_ n2_ n3_ n4_ n5_ n6_ n7_
  replace BK739 := Kd_ BK739
  replace BK740 := Kd_ BK740
  replace BK741 := Kd_ BK741
  replace BK748 := Kd_ BK748
  replace BK753 := Kd_ BK753
  replace BK758 := Kd_ BK758
  replace BK763 := Kd_ BK763
  replace HB := Aside0.mk (below_drew1 HB.out)
  refine start_ (n := 48) (S := fun w' => w'.cell? ⟨gb748, 0, none⟩ = some (.int .u64 t743) ∧ w'.cell? ⟨gb748, 1, none⟩ = some (.int .u64 t744) ∧ w'.cell? ⟨gb748, 2, none⟩ = some (.int .u64 t745) ∧ w'.cell? ⟨gb748, 3, none⟩ = some (.int .u64 t746) ∧ w'.cell? ⟨gb748, 4, none⟩ = some (.int .i64 t747) ∧ w'.cell? ⟨gb753, 0, none⟩ = some (.int .u64 t749) ∧ w'.cell? ⟨gb753, 1, none⟩ = some (.int .u64 t750) ∧ w'.cell? ⟨gb753, 2, none⟩ = some (.int .u64 t751) ∧ w'.cell? ⟨gb753, 3, none⟩ = some (.int .u64 t752) ∧ w'.cell? ⟨gb763, 0, none⟩ = some (.int .u64 t759) ∧ w'.cell? ⟨gb763, 1, none⟩ = some (.int .u64 t760) ∧ w'.cell? ⟨gb763, 2, none⟩ = some (.int .u64 t761) ∧ w'.cell? ⟨gb763, 3, none⟩ = some (.int .u64 t762) ∧ w'.cell? ⟨gb758, 0, none⟩ = some (.int .u64 t754) ∧ w'.cell? ⟨gb758, 1, none⟩ = some (.int .u64 t755) ∧ w'.cell? ⟨gb758, 2, none⟩ = some (.int .u64 t756) ∧ w'.cell? ⟨gb758, 3, none⟩ = some (.int .u64 t757)) (ds := []) #[false, false, false, false, false, false, false, false, false, false, false, false, false, false, false, false, false, false, false, false, false, false, false, false, false, false, false, false, false, false, false, false, false, false, false, false, false, false, false, false, false, false, false, false, false, false, false, false] (by kernel_rfl) rfl rfl ⟨(blk_cell BK748.out 0).trans rfl, (blk_cell BK748.out 1).trans rfl, (blk_cell BK748.out 2).trans rfl, (blk_cell BK748.out 3).trans rfl, (blk_cell BK748.out 4).trans rfl, (blk_cell BK753.out 0).trans rfl, (blk_cell BK753.out 1).trans rfl, (blk_cell BK753.out 2).trans rfl, (blk_cell BK753.out 3).trans rfl, (blk_cell BK763.out 0).trans rfl, (blk_cell BK763.out 1).trans rfl, (blk_cell BK763.out 2).trans rfl, (blk_cell BK763.out 3).trans rfl, (blk_cell BK758.out 0).trans rfl, (blk_cell BK758.out 1).trans rfl, (blk_cell BK758.out 2).trans rfl, (blk_cell BK758.out 3).trans rfl⟩ (fun hHeld => ?_); refine with_tabW tenementlaw07_StampSeen_p1.tab9 tenementlaw07_StampSeen_p1.bits9 (fun HT_ HW_ => ?_)
  generalize w66.drew = w67 at BK739 BK740 BK741 BK748 BK753 BK758 BK763 HB hHeld ⊢
  refine pure_ (i := 0) (N := some 25) (v := ?_) (a' := ?_) #[true, false, false, false, false, false, false, false, false, false, false, false, false, false, false, false, false, false, false, false, false, false, false, false, false, false, false, false, false, false, false, false, false, false, false, false, false, false, false, false, false, false, false, false, false, false, false, false] rfl rfl (any_of HT_.out (by kernel_rfl)) (fun _ _ _ h => h) (Or.inl ⟨by rfl, ?_⟩) ?_ ?_
  rotate_left
  · intro w'
    go_simp
    with_reducible rfl
  rotate_left
  · simp only [Act.put, List.setIfInBounds_toArray, List.set_cons_zero, List.set_cons_succ, i64_w, i32_w]
    rfl
  refine pure_ (i := 1) (N := some 26) (v := ?_) (a' := ?_) #[true, true, false, false, false, false, false, false, false, false, false, false, false, false, false, false, false, false, false, false, false, false, false, false, false, false, false, false, false, false, false, false, false, false, false, false, false, false, false, false, false, false, false, false, false, false, false, false] rfl rfl (any_of HT_.out (by kernel_rfl)) (fun _ _ _ h => h) (Or.inl ⟨by rfl, ?_⟩) ?_ ?_
  rotate_left
  · intro w'
    go_simp
    with_reducible rfl
  rotate_left
  · simp only [Act.put, List.setIfInBounds_toArray, List.set_cons_zero, List.set_cons_succ, i64_w, i32_w]
    rfl
  refine pure_ (i := 3) (N := some 28) (v := ?_) (a' := ?_) #[true, true, false, true, false, false, false, false, false, false, false, false, false, false, false, false, false, false, false, false, false, false, false, false, false, false, false, false, false, false, false, false, false, false, false, false, false, false, false, false, false, false, false, false, false, false, false, false] rfl rfl (any_of HT_.out (by kernel_rfl)) (fun _ _ _ h => h) (Or.inl ⟨by rfl, ?_⟩) ?_ ?_
  rotate_left
  · intro w'
    go_simp
    with_reducible rfl
  rotate_left
  · simp only [Act.put, List.setIfInBounds_toArray, List.set_cons_zero, List.set_cons_succ, i64_w, i32_w]
    rfl
  refine take_ (i := 2) (N := some 27) (v := ?_) (a' := ?_) #[true, true, true, true, false, false, false, false, false, false, false, false, false, false, false, false, false, false, false, false, false, false, false, false, false, false, false, false, false, false, false, false, false, false, false, false, false, false, false, false, false, false, false, false, false, false, false, false] rfl rfl (take_ofW HT_.out HW_.out (by kernel_rfl)) (fun _ _ _ h => h) (Or.inl ⟨by rfl, ?_⟩) hHeld ?_ ?_
  rotate_left
  · rintro w' ⟨s0, s1, s2, s3, s4, s5, s6, s7, s8, s9, s10, s11, s12, s13, s14, s15, s16⟩
    go_simp
    with_reducible rfl
  rotate_left
  · simp only [Act.put, List.setIfInBounds_toArray, List.set_cons_zero, List.set_cons_succ, i64_w, i32_w]
    rfl
  refine take_ (i := 4) (N := some 29) (v := ?_) (a' := ?_) #[true, true, true, true, true, false, false, false, false, false, false, false, false, false, false, false, false, false, false, false, false, false, false, false, false, false, false, false, false, false, false, false, false, false, false, false, false, false, false, false, false, false, false, false, false, false, false, false] rfl rfl (take_ofW HT_.out HW_.out (by kernel_rfl)) (fun _ _ _ h => h) (Or.inl ⟨by rfl, ?_⟩) hHeld ?_ ?_
  rotate_left
  · rintro w' ⟨s0, s1, s2, s3, s4, s5, s6, s7, s8, s9, s10, s11, s12, s13, s14, s15, s16⟩
    go_simp
    with_reducible rfl
  rotate_left
  · simp only [Act.put, List.setIfInBounds_toArray, List.set_cons_zero, List.set_cons_succ, i64_w, i32_w]
    rfl
  refine one_ (i := 5) (N := some 30) #[true, true, true, true, true, true, false, false, false, false, false, false, false, false, false, false, false, false, false, false, false, false, false, false, false, false, false, false, false, false, false, false, false, false, false, false, false, false, false, false, false, false, false, false, false, false, false, false] rfl rfl (one_of HT_.out (by kernel_rfl)) (by decide) (fun K hK => ?_)
  refine goes_ Tryd.func23 (by kernel_rfl) rfl #[.agg #[.int .u64 t743, .int .u64 t744, .int .u64 t745, .int .u64 t746, .int .i64 t747], .agg #[.int .u64 t743, .int .u64 t744, .int .u64 t745, .int .u64 t746]] (by rfl) rfl rfl (by (try simp only [List.map_toArray, List.map_cons, List.map_nil]); first | done | rfl | (simp only [List.length_drop, List.length_take]; rfl)) ?_
  with_reducible refine (stamp_Seen.calls t743 t744 t745 t746 t747 t743 t744 t745 t746 true _ A10.out).mono ?_
  rintro e w68 ⟨rfl, hb⟩
  refine ⟨_, rfl, ?_⟩
  replace BK739 := Kb_ BK739 hb
  replace BK740 := Kb_ BK740 hb
  replace BK741 := Kb_ BK741 hb
  replace BK748 := Kb_ BK748 hb
  replace BK753 := Kb_ BK753 hb
  replace BK758 := Kb_ BK758 hb
  replace BK763 := Kb_ BK763 hb
  replace HB := Ks_ HB hb
  (try clear hb)
  (try clear hb2)
  (try clear hk)
  (try clear hi)
  refine hK.out _ _ ⟨(blk_cell BK748.out 0).trans rfl, (blk_cell BK748.out 1).trans rfl, (blk_cell BK748.out 2).trans rfl, (blk_cell BK748.out 3).trans rfl, (blk_cell BK748.out 4).trans rfl, (blk_cell BK753.out 0).trans rfl, (blk_cell BK753.out 1).trans rfl, (blk_cell BK753.out 2).trans rfl, (blk_cell BK753.out 3).trans rfl, (blk_cell BK763.out 0).trans rfl, (blk_cell BK763.out 1).trans rfl, (blk_cell BK763.out 2).trans rfl, (blk_cell BK763.out 3).trans rfl, (blk_cell BK758.out 0).trans rfl, (blk_cell BK758.out 1).trans rfl, (blk_cell BK758.out 2).trans rfl, (blk_cell BK758.out 3).trans rfl⟩ (fun hHeld => ?_)
  clear hK K
  refine norm_ (a' := ?_) ?_ ?_
  rotate_left
  · show Act.put _ (some 30) _ = _
    simp only [Act.put, List.setIfInBounds_toArray, List.set_cons_zero, List.set_cons_succ, i64_w, i32_w]
    rfl
  refine pure_ (i := 6) (N := some 31) (v := ?_) (a' := ?_) #[true, true, true, true, true, true, true, false, false, false, false, false, false, false, false, false, false, false, false, false, false, false, false, false, false, false, false, false, false, false, false, false, false, false, false, false, false, false, false, false, false, false, false, false, false, false, false, false] rfl rfl (any_of HT_.out (by kernel_rfl)) (fun _ _ _ h => h) (Or.inl ⟨by rfl, ?_⟩) ?_ ?_
  rotate_left
  · intro w'
    go_simp
    with_reducible rfl
  rotate_left
  · simp only [Act.put, List.setIfInBounds_toArray, List.set_cons_zero, List.set_cons_succ, i64_w, i32_w]
    rfl
  refine pure_ (i := 7) (N := some 32) (v := ?_) (a' := ?_) #[true, true, true, true, true, true, true, true, false, false, false, false, false, false, false, false, false, false, false, false, false, false, false, false, false, false, false, false, false, false, false, false, false, false, false, false, false, false, false, false, false, false, false, false, false, false, false, false] rfl rfl (any_of HT_.out (by kernel_rfl)) (fun _ _ _ h => h) (Or.inl ⟨by rfl, ?_⟩) ?_ ?_
  rotate_left
  · intro w'
    go_simp
    with_reducible rfl
  rotate_left
  · simp only [Act.put, List.setIfInBounds_toArray, List.set_cons_zero, List.set_cons_succ, i64_w, i32_w]
    rfl
  refine pure_ (i := 9) (N := some 34) (v := ?_) (a' := ?_) #[true, true, true, true, true, true, true, true, false, true, false, false, false, false, false, false, false, false, false, false, false, false, false, false, false, false, false, false, false, false, false, false, false, false, false, false, false, false, false, false, false, false, false, false, false, false, false, false] rfl rfl (any_of HT_.out (by kernel_rfl)) (fun _ _ _ h => h) (Or.inl ⟨by rfl, ?_⟩) ?_ ?_
  rotate_left
  · intro w'
    go_simp
    with_reducible rfl
  rotate_left
  · simp only [Act.put, List.setIfInBounds_toArray, List.set_cons_zero, List.set_cons_succ, i64_w, i32_w]
    rfl
  refine pure_ (i := 11) (N := some 36) (v := ?_) (a' := ?_) #[true, true, true, true, true, true, true, true, false, true, false, true, false, false, false, false, false, false, false, false, false, false, false, false, false, false, false, false, false, false, false, false, false, false, false, false, false, false, false, false, false, false, false, false, false, false, false, false] rfl rfl (any_of HT_.out (by kernel_rfl)) (fun _ _ _ h => h) (Or.inl ⟨by rfl, ?_⟩) ?_ ?_
  rotate_left
  · intro w'
    go_simp
    with_reducible rfl
  rotate_left
  · simp only [Act.put, List.setIfInBounds_toArray, List.set_cons_zero, List.set_cons_succ, i64_w, i32_w]
    rfl
  refine take_ (i := 8) (N := some 33) (v := ?_) (a' := ?_) #[true, true, true, true, true, true, true, true, true, true, false, true, false, false, false, false, false, false, false, false, false, false, false, false, false, false, false, false, false, false, false, false, false, false, false, false, false, false, false, false, false, false, false, false, false, false, false, false] rfl rfl (take_ofW HT_.out HW_.out (by kernel_rfl)) (fun _ _ _ h => h) (Or.inl ⟨by rfl, ?_⟩) hHeld ?_ ?_
  rotate_left
  · rintro w' ⟨s0, s1, s2, s3, s4, s5, s6, s7, s8, s9, s10, s11, s12, s13, s14, s15, s16⟩
    go_simp
    with_reducible rfl
  rotate_left
  · simp only [Act.put, List.setIfInBounds_toArray, List.set_cons_zero, List.set_cons_succ, i64_w, i32_w]
    rfl
  refine take_ (i := 10) (N := some 35) (v := ?_) (a' := ?_) #[true, true, true, true, true, true, true, true, true, true, true, true, false, false, false, false, false, false, false, false, false, false, false, false, false, false, false, false, false, false, false, false, false, false, false, false, false, false, false, false, false, false, false, false, false, false, false, false] rfl rfl (take_ofW HT_.out HW_.out (by kernel_rfl)) (fun _ _ _ h => h) (Or.inl ⟨by rfl, ?_⟩) hHeld ?_ ?_
  rotate_left
  · rintro w' ⟨s0, s1, s2, s3, s4, s5, s6, s7, s8, s9, s10, s11, s12, s13, s14, s15, s16⟩
    go_simp
    with_reducible rfl
  rotate_left
  · simp only [Act.put, List.setIfInBounds_toArray, List.set_cons_zero, List.set_cons_succ, i64_w, i32_w]
    rfl
  refine take_ (i := 12) (N := some 37) (v := ?_) (a' := ?_) #[true, true, true, true, true, true, true, true, true, true, true, true, true, false, false, false, false, false, false, false, false, false, false, false, false, false, false, false, false, false, false, false, false, false, false, false, false, false, false, false, false, false, false, false, false, false, false, false] rfl rfl (take_ofW HT_.out HW_.out (by kernel_rfl)) (fun _ _ _ h => h) (Or.inl ⟨by rfl, ?_⟩) hHeld ?_ ?_
  rotate_left
  · rintro w' ⟨s0, s1, s2, s3, s4, s5, s6, s7, s8, s9, s10, s11, s12, s13, s14, s15, s16⟩
    go_simp
    with_reducible rfl
  rotate_left
  · simp only [Act.put, List.setIfInBounds_toArray, List.set_cons_zero, List.set_cons_succ, i64_w, i32_w]
    rfl
  refine take_ (i := 13) (N := some 38) (v := ?_) (a' := ?_) #[true, true, true, true, true, true, true, true, true, true, true, true, true, true, false, false, false, false, false, false, false, false, false, false, false, false, false, false, false, false, false, false, false, false, false, false, false, false, false, false, false, false, false, false, false, false, false, false] rfl rfl (take_ofW HT_.out HW_.out (by kernel_rfl)) (fun _ _ _ h => h) (Or.inl ⟨by rfl, ?_⟩) hHeld ?_ ?_
  rotate_left
  · rintro w' ⟨s0, s1, s2, s3, s4, s5, s6, s7, s8, s9, s10, s11, s12, s13, s14, s15, s16⟩
    go_simp
    with_reducible rfl
  rotate_left
  · simp only [Act.put, List.setIfInBounds_toArray, List.set_cons_zero, List.set_cons_succ, i64_w, i32_w]
    rfl
  refine one_ (i := 14) (N := some 39) #[true, true, true, true, true, true, true, true, true, true, true, true, true, true, true, false, false, false, false, false, false, false, false, false, false, false, false, false, false, false, false, false, false, false, false, false, false, false, false, false, false, false, false, false, false, false, false, false] rfl rfl (one_of HT_.out (by kernel_rfl)) (by decide) (fun K hK => ?_)
  refine goes_ Tryd.func19 (by kernel_rfl) rfl #[.agg #[.int .u64 t743, .int .u64 t744, .int .u64 t745, .int .u64 t746, .int .i64 t747]] (by rfl) rfl rfl (by (try simp only [List.map_toArray, List.map_cons, List.map_nil]); first | done | rfl | (simp only [List.length_drop, List.length_take]; rfl)) ?_
  with_reducible refine (stamp_Stamp_N.calls t743 t744 t745 t746 t747 t765 _ A12.out).mono ?_
  rintro e w69 ⟨rfl, hb⟩
  refine ⟨_, rfl, ?_⟩
  replace BK739 := Kb_ BK739 hb
  replace BK740 := Kb_ BK740 hb
  replace BK741 := Kb_ BK741 hb
  replace BK748 := Kb_ BK748 hb
  replace BK753 := Kb_ BK753 hb
  replace BK758 := Kb_ BK758 hb
  replace BK763 := Kb_ BK763 hb
  replace HB := Ks_ HB hb
  (try clear hb)
  (try clear hb2)
  (try clear hk)
  (try clear hi)
  refine hK.out _ _ ⟨(blk_cell BK748.out 0).trans rfl, (blk_cell BK748.out 1).trans rfl, (blk_cell BK748.out 2).trans rfl, (blk_cell BK748.out 3).trans rfl, (blk_cell BK748.out 4).trans rfl, (blk_cell BK753.out 0).trans rfl, (blk_cell BK753.out 1).trans rfl, (blk_cell BK753.out 2).trans rfl, (blk_cell BK753.out 3).trans rfl, (blk_cell BK763.out 0).trans rfl, (blk_cell BK763.out 1).trans rfl, (blk_cell BK763.out 2).trans rfl, (blk_cell BK763.out 3).trans rfl, (blk_cell BK758.out 0).trans rfl, (blk_cell BK758.out 1).trans rfl, (blk_cell BK758.out 2).trans rfl, (blk_cell BK758.out 3).trans rfl⟩ (fun hHeld => ?_)
  clear hK K
  refine norm_ (a' := ?_) ?_ ?_
  rotate_left
  · show Act.put _ (some 39) _ = _
    simp only [Act.put, List.setIfInBounds_toArray, List.set_cons_zero, List.set_cons_succ, i64_w, i32_w]
    rfl
  refine pure_ (i := 15) (N := some 40) (v := ?_) (a' := ?_) #[true, true, true, true, true, true, true, true, true, true, true, true, true, true, true, true, false, false, false, false, false, false, false, false, false, false, false, false, false, false, false, false, false, false, false, false, false, false, false, false, false, false, false, false, false, false, false, false] rfl rfl (any_of HT_.out (by kernel_rfl)) (fun _ _ _ h => h) (Or.inl ⟨by rfl, ?_⟩) ?_ ?_
  rotate_left
  · intro w'
    go_simp
    with_reducible rfl
  rotate_left
  · simp only [Act.put, List.setIfInBounds_toArray, List.set_cons_zero, List.set_cons_succ, i64_w, i32_w]
    rfl
  refine one_ (i := 16) (N := some 41) #[true, true, true, true, true, true, true, true, true, true, true, true, true, true, true, true, true, false, false, false, false, false, false, false, false, false, false, false, false, false, false, false, false, false, false, false, false, false, false, false, false, false, false, false, false, false, false, false] rfl rfl (one_of HT_.out (by kernel_rfl)) (by decide) (fun K hK => ?_)
  refine goes_ Tryd.func33 (by kernel_rfl) rfl #[.agg #[.int .u64 t743, .int .u64 t744, .int .u64 t745, .int .u64 t746], .int .i64 t747, .int .u64 (IntKind.u64.wrap (t765 - 1))] (by rfl) rfl rfl (by (try simp only [List.map_toArray, List.map_cons, List.map_nil]); first | done | rfl | (simp only [List.length_drop, List.length_take]; rfl)) ?_
  with_reducible refine (vec_With.calls t743 t744 t745 t746 t747 (IntKind.u64.wrap (t765 - 1)) t766 t767 t768 t769 _ A13.out).mono ?_
  rintro e w70 ⟨rfl, hb⟩
  refine ⟨_, rfl, ?_⟩
  replace BK739 := Kb_ BK739 hb
  replace BK740 := Kb_ BK740 hb
  replace BK741 := Kb_ BK741 hb
  replace BK748 := Kb_ BK748 hb
  replace BK753 := Kb_ BK753 hb
  replace BK758 := Kb_ BK758 hb
  replace BK763 := Kb_ BK763 hb
  replace HB := Ks_ HB hb
  (try clear hb)
  (try clear hb2)
  (try clear hk)
  (try clear hi)
  refine hK.out _ _ ⟨(blk_cell BK748.out 0).trans rfl, (blk_cell BK748.out 1).trans rfl, (blk_cell BK748.out 2).trans rfl, (blk_cell BK748.out 3).trans rfl, (blk_cell BK748.out 4).trans rfl, (blk_cell BK753.out 0).trans rfl, (blk_cell BK753.out 1).trans rfl, (blk_cell BK753.out 2).trans rfl, (blk_cell BK753.out 3).trans rfl, (blk_cell BK763.out 0).trans rfl, (blk_cell BK763.out 1).trans rfl, (blk_cell BK763.out 2).trans rfl, (blk_cell BK763.out 3).trans rfl, (blk_cell BK758.out 0).trans rfl, (blk_cell BK758.out 1).trans rfl, (blk_cell BK758.out 2).trans rfl, (blk_cell BK758.out 3).trans rfl⟩ (fun hHeld => ?_)
  clear hK K
  refine norm_ (a' := ?_) ?_ ?_
  rotate_left
  · show Act.put _ (some 41) _ = _
    simp only [Act.put, List.setIfInBounds_toArray, List.set_cons_zero, List.set_cons_succ, i64_w, i32_w]
    rfl
  refine one_ (i := 17) (N := some 42) #[true, true, true, true, true, true, true, true, true, true, true, true, true, true, true, true, true, true, false, false, false, false, false, false, false, false, false, false, false, false, false, false, false, false, false, false, false, false, false, false, false, false, false, false, false, false, false, false] rfl rfl (one_of HT_.out (by kernel_rfl)) (by decide) (fun K hK => ?_)
  refine goes_ Tryd.func23 (by kernel_rfl) rfl #[.agg #[.int .u64 t743, .int .u64 t744, .int .u64 t745, .int .u64 t746, .int .i64 t747], .agg #[.int .u64 t766, .int .u64 t767, .int .u64 t768, .int .u64 t769]] (by rfl) rfl rfl (by (try simp only [List.map_toArray, List.map_cons, List.map_nil]); first | done | rfl | (simp only [List.length_drop, List.length_take]; rfl)) ?_
  with_reducible refine (stamp_Seen.calls t743 t744 t745 t746 t747 t766 t767 t768 t769 false _ A14.out).mono ?_
  rintro e w71 ⟨rfl, hb⟩
  refine ⟨_, rfl, ?_⟩
  replace BK739 := Kb_ BK739 hb
  replace BK740 := Kb_ BK740 hb
  replace BK741 := Kb_ BK741 hb
  replace BK748 := Kb_ BK748 hb
  replace BK753 := Kb_ BK753 hb
  replace BK758 := Kb_ BK758 hb
  replace BK763 := Kb_ BK763 hb
  replace HB := Ks_ HB hb
  (try clear hb)
  (try clear hb2)
  (try clear hk)
  (try clear hi)
  refine hK.out _ _ ⟨(blk_cell BK748.out 0).trans rfl, (blk_cell BK748.out 1).trans rfl, (blk_cell BK748.out 2).trans rfl, (blk_cell BK748.out 3).trans rfl, (blk_cell BK748.out 4).trans rfl, (blk_cell BK753.out 0).trans rfl, (blk_cell BK753.out 1).trans rfl, (blk_cell BK753.out 2).trans rfl, (blk_cell BK753.out 3).trans rfl, (blk_cell BK763.out 0).trans rfl, (blk_cell BK763.out 1).trans rfl, (blk_cell BK763.out 2).trans rfl, (blk_cell BK763.out 3).trans rfl, (blk_cell BK758.out 0).trans rfl, (blk_cell BK758.out 1).trans rfl, (blk_cell BK758.out 2).trans rfl, (blk_cell BK758.out 3).trans rfl⟩ (fun hHeld => ?_)
  clear hK K
  refine norm_ (a' := ?_) ?_ ?_
  rotate_left
  · show Act.put _ (some 42) _ = _
    simp only [Act.put, List.setIfInBounds_toArray, List.set_cons_zero, List.set_cons_succ, i64_w, i32_w]
    rfl
  refine pure_ (i := 18) (N := some 43) (v := ?_) (a' := ?_) #[true, true, true, true, true, true, true, true, true, true, true, true, true, true, true, true, true, true, true, false, false, false, false, false, false, false, false, false, false, false, false, false, false, false, false, false, false, false, false, false, false, false, false, false, false, false, false, false] rfl rfl (any_of HT_.out (by kernel_rfl)) (fun _ _ _ h => h) (Or.inl ⟨by rfl, ?_⟩) ?_ ?_
  rotate_left
  · intro w'
    go_simp
    with_reducible rfl
  rotate_left
  · simp only [Act.put, List.setIfInBounds_toArray, List.set_cons_zero, List.set_cons_succ, i64_w, i32_w]
    rfl
  refine pure_ (i := 19) (N := some 44) (v := ?_) (a' := ?_) #[true, true, true, true, true, true, true, true, true, true, true, true, true, true, true, true, true, true, true, true, false, false, false, false, false, false, false, false, false, false, false, false, false, false, false, false, false, false, false, false, false, false, false, false, false, false, false, false] rfl rfl (any_of HT_.out (by kernel_rfl)) (fun _ _ _ h => h) (Or.inl ⟨by rfl, ?_⟩) ?_ ?_
  rotate_left
  · intro w'
    go_simp
    with_reducible rfl
  rotate_left
  · simp only [Act.put, List.setIfInBounds_toArray, List.set_cons_zero, List.set_cons_succ, i64_w, i32_w]
    rfl
  refine pure_ (i := 20) (N := some 45) (v := ?_) (a' := ?_) #[true, true, true, true, true, true, true, true, true, true, true, true, true, true, true, true, true, true, true, true, true, false, false, false, false, false, false, false, false, false, false, false, false, false, false, false, false, false, false, false, false, false, false, false, false, false, false, false] rfl rfl (any_of HT_.out (by kernel_rfl)) (fun _ _ _ h => h) (Or.inl ⟨by rfl, ?_⟩) ?_ ?_
  rotate_left
  · intro w'
    go_simp
    with_reducible rfl
  rotate_left
  · simp only [Act.put, List.setIfInBounds_toArray, List.set_cons_zero, List.set_cons_succ, i64_w, i32_w]
    rfl
  refine take_ (i := 21) (N := some 46) (v := ?_) (a' := ?_) #[true, true, true, true, true, true, true, true, true, true, true, true, true, true, true, true, true, true, true, true, true, true, false, false, false, false, false, false, false, false, false, false, false, false, false, false, false, false, false, false, false, false, false, false, false, false, false, false] rfl rfl (take_ofW HT_.out HW_.out (by kernel_rfl)) (fun _ _ _ h => h) (Or.inl ⟨by rfl, ?_⟩) hHeld ?_ ?_
  rotate_left
  · rintro w' ⟨s0, s1, s2, s3, s4, s5, s6, s7, s8, s9, s10, s11, s12, s13, s14, s15, s16⟩
    go_simp
    with_reducible rfl
  rotate_left
  · simp only [Act.put, List.setIfInBounds_toArray, List.set_cons_zero, List.set_cons_succ, i64_w, i32_w]
    rfl
  refine take_ (i := 22) (N := some 47) (v := ?_) (a' := ?_) #[true, true, true, true, true, true, true, true, true, true, true, true, true, true, true, true, true, true, true, true, true, true, true, false, false, false, false, false, false, false, false, false, false, false, false, false, false, false, false, false, false, false, false, false, false, false, false, false] rfl rfl (take_ofW HT_.out HW_.out (by kernel_rfl)) (fun _ _ _ h => h) (Or.inl ⟨by rfl, ?_⟩) hHeld ?_ ?_
  rotate_left
  · rintro w' ⟨s0, s1, s2, s3, s4, s5, s6, s7, s8, s9, s10, s11, s12, s13, s14, s15, s16⟩
    go_simp
    with_reducible rfl
  rotate_left
  · simp only [Act.put, List.setIfInBounds_toArray, List.set_cons_zero, List.set_cons_succ, i64_w, i32_w]
    rfl
  refine one_ (i := 23) (N := some 48) #[true, true, true, true, true, true, true, true, true, true, true, true, true, true, true, true, true, true, true, true, true, true, true, true, false, false, false, false, false, false, false, false, false, false, false, false, false, false, false, false, false, false, false, false, false, false, false, false] rfl rfl (one_of HT_.out (by kernel_rfl)) (by decide) (fun K hK => ?_)
  refine goes_ Tryd.func23 (by kernel_rfl) rfl #[.agg #[.int .u64 t743, .int .u64 t744, .int .u64 t745, .int .u64 t746, .int .i64 t747], .agg #[.int .u64 t749, .int .u64 t750, .int .u64 t751, .int .u64 t752]] (by rfl) rfl rfl (by (try simp only [List.map_toArray, List.map_cons, List.map_nil]); first | done | rfl | (simp only [List.length_drop, List.length_take]; rfl)) ?_
  with_reducible refine (stamp_Seen.calls t743 t744 t745 t746 t747 t749 t750 t751 t752 true _ A16.out).mono ?_
  rintro e w72 ⟨rfl, hb⟩
  refine ⟨_, rfl, ?_⟩
  replace BK739 := Kb_ BK739 hb
  replace BK740 := Kb_ BK740 hb
  replace BK741 := Kb_ BK741 hb
  replace BK748 := Kb_ BK748 hb
  replace BK753 := Kb_ BK753 hb
  replace BK758 := Kb_ BK758 hb
  replace BK763 := Kb_ BK763 hb
  replace HB := Ks_ HB hb
  (try clear hb)
  (try clear hb2)
  (try clear hk)
  (try clear hi)
  refine hK.out _ _ ⟨(blk_cell BK748.out 0).trans rfl, (blk_cell BK748.out 1).trans rfl, (blk_cell BK748.out 2).trans rfl, (blk_cell BK748.out 3).trans rfl, (blk_cell BK748.out 4).trans rfl, (blk_cell BK753.out 0).trans rfl, (blk_cell BK753.out 1).trans rfl, (blk_cell BK753.out 2).trans rfl, (blk_cell BK753.out 3).trans rfl, (blk_cell BK763.out 0).trans rfl, (blk_cell BK763.out 1).trans rfl, (blk_cell BK763.out 2).trans rfl, (blk_cell BK763.out 3).trans rfl, (blk_cell BK758.out 0).trans rfl, (blk_cell BK758.out 1).trans rfl, (blk_cell BK758.out 2).trans rfl, (blk_cell BK758.out 3).trans rfl⟩ (fun hHeld => ?_)
  clear hK K
  refine norm_ (a' := ?_) ?_ ?_
  rotate_left
  · show Act.put _ (some 48) _ = _
    simp only [Act.put, List.setIfInBounds_toArray, List.set_cons_zero, List.set_cons_succ, i64_w, i32_w]
    rfl
  refine pure_ (i := 24) (N := some 49) (v := ?_) (a' := ?_) #[true, true, true, true, true, true, true, true, true, true, true, true, true, true, true, true, true, true, true, true, true, true, true, true, true, false, false, false, false, false, false, false, false, false, false, false, false, false, false, false, false, false, false, false, false, false, false, false] rfl rfl (any_of HT_.out (by kernel_rfl)) (fun _ _ _ h => h) (Or.inl ⟨by rfl, ?_⟩) ?_ ?_
  rotate_left
  · intro w'
    go_simp
    with_reducible rfl
  rotate_left
  · simp only [Act.put, List.setIfInBounds_toArray, List.set_cons_zero, List.set_cons_succ, i64_w, i32_w]
    rfl
  refine pure_ (i := 25) (N := some 50) (v := ?_) (a' := ?_) #[true, true, true, true, true, true, true, true, true, true, true, true, true, true, true, true, true, true, true, true, true, true, true, true, true, true, false, false, false, false, false, false, false, false, false, false, false, false, false, false, false, false, false, false, false, false, false, false] rfl rfl (any_of HT_.out (by kernel_rfl)) (fun _ _ _ h => h) (Or.inl ⟨by rfl, ?_⟩) ?_ ?_
  rotate_left
  · intro w'
    go_simp
    with_reducible rfl
  rotate_left
  · simp only [Act.put, List.setIfInBounds_toArray, List.set_cons_zero, List.set_cons_succ, i64_w, i32_w]
    rfl
  refine take_ (i := 26) (N := some 51) (v := ?_) (a' := ?_) #[true, true, true, true, true, true, true, true, true, true, true, true, true, true, true, true, true, true, true, true, true, true, true, true, true, true, true, false, false, false, false, false, false, false, false, false, false, false, false, false, false, false, false, false, false, false, false, false] rfl rfl (take_ofW HT_.out HW_.out (by kernel_rfl)) (fun _ _ _ h => h) (Or.inl ⟨by rfl, ?_⟩) hHeld ?_ ?_
  rotate_left
  · rintro w' ⟨s0, s1, s2, s3, s4, s5, s6, s7, s8, s9, s10, s11, s12, s13, s14, s15, s16⟩
    go_simp
    with_reducible rfl
  rotate_left
  · simp only [Act.put, List.setIfInBounds_toArray, List.set_cons_zero, List.set_cons_succ, i64_w, i32_w]
    rfl
  refine take_ (i := 27) (N := some 52) (v := ?_) (a' := ?_) #[true, true, true, true, true, true, true, true, true, true, true, true, true, true, true, true, true, true, true, true, true, true, true, true, true, true, true, true, false, false, false, false, false, false, false, false, false, false, false, false, false, false, false, false, false, false, false, false] rfl rfl (take_ofW HT_.out HW_.out (by kernel_rfl)) (fun _ _ _ h => h) (Or.inl ⟨by rfl, ?_⟩) hHeld ?_ ?_
  rotate_left
  · rintro w' ⟨s0, s1, s2, s3, s4, s5, s6, s7, s8, s9, s10, s11, s12, s13, s14, s15, s16⟩
    go_simp
    with_reducible rfl
  rotate_left
  · simp only [Act.put, List.setIfInBounds_toArray, List.set_cons_zero, List.set_cons_succ, i64_w, i32_w]
    rfl
  refine one_ (i := 28) (N := some 53) #[true, true, true, true, true, true, true, true, true, true, true, true, true, true, true, true, true, true, true, true, true, true, true, true, true, true, true, true, true, false, false, false, false, false, false, false, false, false, false, false, false, false, false, false, false, false, false, false] rfl rfl (one_of HT_.out (by kernel_rfl)) (by decide) (fun K hK => ?_)
  refine goes_ Tryd.func23 (by kernel_rfl) rfl #[.agg #[.int .u64 t743, .int .u64 t744, .int .u64 t745, .int .u64 t746, .int .i64 t747], .agg #[.int .u64 t759, .int .u64 t760, .int .u64 t761, .int .u64 t762]] (by rfl) rfl rfl (by (try simp only [List.map_toArray, List.map_cons, List.map_nil]); first | done | rfl | (simp only [List.length_drop, List.length_take]; rfl)) ?_
  with_reducible refine (stamp_Seen.calls t743 t744 t745 t746 t747 t759 t760 t761 t762 true _ A18.out).mono ?_
  rintro e w73 ⟨rfl, hb⟩
  refine ⟨_, rfl, ?_⟩
  replace BK739 := Kb_ BK739 hb
  replace BK740 := Kb_ BK740 hb
  replace BK741 := Kb_ BK741 hb
  replace BK748 := Kb_ BK748 hb
  replace BK753 := Kb_ BK753 hb
  replace BK758 := Kb_ BK758 hb
  replace BK763 := Kb_ BK763 hb
  replace HB := Ks_ HB hb
  (try clear hb)
  (try clear hb2)
  (try clear hk)
  (try clear hi)
  refine hK.out _ _ ⟨(blk_cell BK748.out 0).trans rfl, (blk_cell BK748.out 1).trans rfl, (blk_cell BK748.out 2).trans rfl, (blk_cell BK748.out 3).trans rfl, (blk_cell BK748.out 4).trans rfl, (blk_cell BK753.out 0).trans rfl, (blk_cell BK753.out 1).trans rfl, (blk_cell BK753.out 2).trans rfl, (blk_cell BK753.out 3).trans rfl, (blk_cell BK763.out 0).trans rfl, (blk_cell BK763.out 1).trans rfl, (blk_cell BK763.out 2).trans rfl, (blk_cell BK763.out 3).trans rfl, (blk_cell BK758.out 0).trans rfl, (blk_cell BK758.out 1).trans rfl, (blk_cell BK758.out 2).trans rfl, (blk_cell BK758.out 3).trans rfl⟩ (fun hHeld => ?_)
  clear hK K
  refine norm_ (a' := ?_) ?_ ?_
  rotate_left
  · show Act.put _ (some 53) _ = _
    simp only [Act.put, List.setIfInBounds_toArray, List.set_cons_zero, List.set_cons_succ, i64_w, i32_w]
    rfl
  refine pure_ (i := 29) (N := some 54) (v := ?_) (a' := ?_) #[true, true, true, true, true, true, true, true, true, true, true, true, true, true, true, true, true, true, true, true, true, true, true, true, true, true, true, true, true, true, false, false, false, false, false, false, false, false, false, false, false, false, false, false, false, false, false, false] rfl rfl (any_of HT_.out (by kernel_rfl)) (fun _ _ _ h => h) (Or.inl ⟨by rfl, ?_⟩) ?_ ?_
  rotate_left
  · intro w'
    go_simp
    with_reducible rfl
  rotate_left
  · simp only [Act.put, List.setIfInBounds_toArray, List.set_cons_zero, List.set_cons_succ, i64_w, i32_w]
    rfl
  refine pure_ (i := 30) (N := some 55) (v := ?_) (a' := ?_) #[true, true, true, true, true, true, true, true, true, true, true, true, true, true, true, true, true, true, true, true, true, true, true, true, true, true, true, true, true, true, true, false, false, false, false, false, false, false, false, false, false, false, false, false, false, false, false, false] rfl rfl (any_of HT_.out (by kernel_rfl)) (fun _ _ _ h => h) (Or.inl ⟨by rfl, ?_⟩) ?_ ?_
  rotate_left
  · intro w'
    go_simp
    with_reducible rfl
  rotate_left
  · simp only [Act.put, List.setIfInBounds_toArray, List.set_cons_zero, List.set_cons_succ, i64_w, i32_w]
    rfl
  refine pure_ (i := 31) (N := some 56) (v := ?_) (a' := ?_) #[true, true, true, true, true, true, true, true, true, true, true, true, true, true, true, true, true, true, true, true, true, true, true, true, true, true, true, true, true, true, true, true, false, false, false, false, false, false, false, false, false, false, false, false, false, false, false, false] rfl rfl (any_of HT_.out (by kernel_rfl)) (fun _ _ _ h => h) (Or.inl ⟨by rfl, ?_⟩) ?_ ?_
  rotate_left
  · intro w'
    go_simp
    with_reducible rfl
  rotate_left
  · simp only [Act.put, List.setIfInBounds_toArray, List.set_cons_zero, List.set_cons_succ, i64_w, i32_w]
    rfl
  refine take_ (i := 32) (N := some 57) (v := ?_) (a' := ?_) #[true, true, true, true, true, true, true, true, true, true, true, true, true, true, true, true, true, true, true, true, true, true, true, true, true, true, true, true, true, true, true, true, true, false, false, false, false, false, false, false, false, false, false, false, false, false, false, false] rfl rfl (take_ofW HT_.out HW_.out (by kernel_rfl)) (fun _ _ _ h => h) (Or.inl ⟨by rfl, ?_⟩) hHeld ?_ ?_
  rotate_left
  · rintro w' ⟨s0, s1, s2, s3, s4, s5, s6, s7, s8, s9, s10, s11, s12, s13, s14, s15, s16⟩
    go_simp
    with_reducible rfl
  rotate_left
  · simp only [Act.put, List.setIfInBounds_toArray, List.set_cons_zero, List.set_cons_succ, i64_w, i32_w]
    rfl
  refine take_ (i := 33) (N := some 58) (v := ?_) (a' := ?_) #[true, true, true, true, true, true, true, true, true, true, true, true, true, true, true, true, true, true, true, true, true, true, true, true, true, true, true, true, true, true, true, true, true, true, false, false, false, false, false, false, false, false, false, false, false, false, false, false] rfl rfl (take_ofW HT_.out HW_.out (by kernel_rfl)) (fun _ _ _ h => h) (Or.inl ⟨by rfl, ?_⟩) hHeld ?_ ?_
  rotate_left
  · rintro w' ⟨s0, s1, s2, s3, s4, s5, s6, s7, s8, s9, s10, s11, s12, s13, s14, s15, s16⟩
    go_simp
    with_reducible rfl
  rotate_left
  · simp only [Act.put, List.setIfInBounds_toArray, List.set_cons_zero, List.set_cons_succ, i64_w, i32_w]
    rfl
  refine take_ (i := 34) (N := some 59) (v := ?_) (a' := ?_) #[true, true, true, true, true, true, true, true, true, true, true, true, true, true, true, true, true, true, true, true, true, true, true, true, true, true, true, true, true, true, true, true, true, true, true, false, false, false, false, false, false, false, false, false, false, false, false, false] rfl rfl (take_ofW HT_.out HW_.out (by kernel_rfl)) (fun _ _ _ h => h) (Or.inl ⟨by rfl, ?_⟩) hHeld ?_ ?_
  rotate_left
  · rintro w' ⟨s0, s1, s2, s3, s4, s5, s6, s7, s8, s9, s10, s11, s12, s13, s14, s15, s16⟩
    go_simp
    with_reducible rfl
  rotate_left
  · simp only [Act.put, List.setIfInBounds_toArray, List.set_cons_zero, List.set_cons_succ, i64_w, i32_w]
    rfl
  refine take_ (i := 37) (N := some 62) (v := ?_) (a' := ?_) #[true, true, true, true, true, true, true, true, true, true, true, true, true, true, true, true, true, true, true, true, true, true, true, true, true, true, true, true, true, true, true, true, true, true, true, false, false, true, false, false, false, false, false, false, false, false, false, false] rfl rfl (take_ofW HT_.out HW_.out (by kernel_rfl)) (fun _ _ _ h => h) (Or.inl ⟨by rfl, ?_⟩) hHeld ?_ ?_
  rotate_left
  · rintro w' ⟨s0, s1, s2, s3, s4, s5, s6, s7, s8, s9, s10, s11, s12, s13, s14, s15, s16⟩
    go_simp
    with_reducible rfl
  rotate_left
  · simp only [Act.put, List.setIfInBounds_toArray, List.set_cons_zero, List.set_cons_succ, i64_w, i32_w]
    rfl
  refine take_ (i := 38) (N := some 63) (v := ?_) (a' := ?_) #[true, true, true, true, true, true, true, true, true, true, true, true, true, true, true, true, true, true, true, true, true, true, true, true, true, true, true, true, true, true, true, true, true, true, true, false, false, true, true, false, false, false, false, false, false, false, false, false] rfl rfl (take_ofW HT_.out HW_.out (by kernel_rfl)) (fun _ _ _ h => h) (Or.inl ⟨by rfl, ?_⟩) hHeld ?_ ?_
  rotate_left
  · rintro w' ⟨s0, s1, s2, s3, s4, s5, s6, s7, s8, s9, s10, s11, s12, s13, s14, s15, s16⟩
    go_simp
    with_reducible rfl
  rotate_left
  · simp only [Act.put, List.setIfInBounds_toArray, List.set_cons_zero, List.set_cons_succ, i64_w, i32_w]
    rfl
  refine one_ (i := 35) (N := some 60) #[true, true, true, true, true, true, true, true, true, true, true, true, true, true, true, true, true, true, true, true, true, true, true, true, true, true, true, true, true, true, true, true, true, true, true, true, false, true, true, false, false, false, false, false, false, false, false, false] rfl rfl (one_of HT_.out (by kernel_rfl)) (by decide) (fun K hK => ?_)
  refine goes_ Tryd.func34 (by kernel_rfl) rfl #[.agg #[.int .u64 t749, .int .u64 t750, .int .u64 t751, .int .u64 t752], .agg #[.int .u64 t754, .int .u64 t755, .int .u64 t756, .int .u64 t757]] (by rfl) rfl rfl (by (try simp only [List.map_toArray, List.map_cons, List.map_nil]); first | done | rfl | (simp only [List.length_drop, List.length_take]; rfl)) ?_
  with_reducible refine (vec_Meet.calls t749 t750 t751 t752 t754 t755 t756 t757 t773 t774 t775 t776 _ A20.out).mono ?_
  rintro e w74 ⟨rfl, hb⟩
  refine ⟨_, rfl, ?_⟩
  replace BK739 := Kb_ BK739 hb
  replace BK740 := Kb_ BK740 hb
  replace BK741 := Kb_ BK741 hb
  replace BK748 := Kb_ BK748 hb
  replace BK753 := Kb_ BK753 hb
  replace BK758 := Kb_ BK758 hb
  replace BK763 := Kb_ BK763 hb
  replace HB := Ks_ HB hb
  (try clear hb)
  (try clear hb2)
  (try clear hk)
  (try clear hi)
  refine hK.out _ _ ⟨(blk_cell BK748.out 0).trans rfl, (blk_cell BK748.out 1).trans rfl, (blk_cell BK748.out 2).trans rfl, (blk_cell BK748.out 3).trans rfl, (blk_cell BK748.out 4).trans rfl, (blk_cell BK753.out 0).trans rfl, (blk_cell BK753.out 1).trans rfl, (blk_cell BK753.out 2).trans rfl, (blk_cell BK753.out 3).trans rfl, (blk_cell BK763.out 0).trans rfl, (blk_cell BK763.out 1).trans rfl, (blk_cell BK763.out 2).trans rfl, (blk_cell BK763.out 3).trans rfl, (blk_cell BK758.out 0).trans rfl, (blk_cell BK758.out 1).trans rfl, (blk_cell BK758.out 2).trans rfl, (blk_cell BK758.out 3).trans rfl⟩ (fun hHeld => ?_)
  clear hK K
  refine norm_ (a' := ?_) ?_ ?_
  rotate_left
  · show Act.put _ (some 60) _ = _
    simp only [Act.put, List.setIfInBounds_toArray, List.set_cons_zero, List.set_cons_succ, i64_w, i32_w]
    rfl
  refine one_ (i := 36) (N := some 61) #[true, true, true, true, true, true, true, true, true, true, true, true, true, true, true, true, true, true, true, true, true, true, true, true, true, true, true, true, true, true, true, true, true, true, true, true, true, true, true, false, false, false, false, false, false, false, false, false] rfl rfl (one_of HT_.out (by kernel_rfl)) (by decide) (fun K hK => ?_)
  refine goes_ Tryd.func23 (by kernel_rfl) rfl #[.agg #[.int .u64 t743, .int .u64 t744, .int .u64 t745, .int .u64 t746, .int .i64 t747], .agg #[.int .u64 t773, .int .u64 t774, .int .u64 t775, .int .u64 t776]] (by rfl) rfl rfl (by (try simp only [List.map_toArray, List.map_cons, List.map_nil]); first | done | rfl | (simp only [List.length_drop, List.length_take]; rfl)) ?_
  with_reducible refine (stamp_Seen.calls t743 t744 t745 t746 t747 t773 t774 t775 t776 false _ A21.out).mono ?_
  rintro e w75 ⟨rfl, hb⟩
  refine ⟨_, rfl, ?_⟩
  replace BK739 := Kb_ BK739 hb
  replace BK740 := Kb_ BK740 hb
  replace BK741 := Kb_ BK741 hb
  replace BK748 := Kb_ BK748 hb
  replace BK753 := Kb_ BK753 hb
  replace BK758 := Kb_ BK758 hb
  replace BK763 := Kb_ BK763 hb
  replace HB := Ks_ HB hb
  (try clear hb)
  (try clear hb2)
  (try clear hk)
  (try clear hi)
  refine hK.out _ _ ⟨(blk_cell BK748.out 0).trans rfl, (blk_cell BK748.out 1).trans rfl, (blk_cell BK748.out 2).trans rfl, (blk_cell BK748.out 3).trans rfl, (blk_cell BK748.out 4).trans rfl, (blk_cell BK753.out 0).trans rfl, (blk_cell BK753.out 1).trans rfl, (blk_cell BK753.out 2).trans rfl, (blk_cell BK753.out 3).trans rfl, (blk_cell BK763.out 0).trans rfl, (blk_cell BK763.out 1).trans rfl, (blk_cell BK763.out 2).trans rfl, (blk_cell BK763.out 3).trans rfl, (blk_cell BK758.out 0).trans rfl, (blk_cell BK758.out 1).trans rfl, (blk_cell BK758.out 2).trans rfl, (blk_cell BK758.out 3).trans rfl⟩ (fun hHeld => ?_)
  clear hK K
  refine norm_ (a' := ?_) ?_ ?_
  rotate_left
  · show Act.put _ (some 61) _ = _
    simp only [Act.put, List.setIfInBounds_toArray, List.set_cons_zero, List.set_cons_succ, i64_w, i32_w]
    rfl
  refine one_ (i := 39) (N := some 64) #[true, true, true, true, true, true, true, true, true, true, true, true, true, true, true, true, true, true, true, true, true, true, true, true, true, true, true, true, true, true, true, true, true, true, true, true, true, true, true, true, false, false, false, false, false, false, false, false] rfl rfl (one_of HT_.out (by kernel_rfl)) (by decide) (fun K hK => ?_)
  refine goes_ Tryd.func23 (by kernel_rfl) rfl #[.agg #[.int .u64 t743, .int .u64 t744, .int .u64 t745, .int .u64 t746, .int .i64 t747], .agg #[.int .u64 t749, .int .u64 t750, .int .u64 t751, .int .u64 t752]] (by rfl) rfl rfl (by (try simp only [List.map_toArray, List.map_cons, List.map_nil]); first | done | rfl | (simp only [List.length_drop, List.length_take]; rfl)) ?_
  with_reducible refine (stamp_Seen.calls t743 t744 t745 t746 t747 t749 t750 t751 t752 false _ A22.out).mono ?_
  rintro e w76 ⟨rfl, hb⟩
  refine ⟨_, rfl, ?_⟩
  replace BK739 := Kb_ BK739 hb
  replace BK740 := Kb_ BK740 hb
  replace BK741 := Kb_ BK741 hb
  replace BK748 := Kb_ BK748 hb
  replace BK753 := Kb_ BK753 hb
  replace BK758 := Kb_ BK758 hb
  replace BK763 := Kb_ BK763 hb
  replace HB := Ks_ HB hb
  (try clear hb)
  (try clear hb2)
  (try clear hk)
  (try clear hi)
  refine hK.out _ _ ⟨(blk_cell BK748.out 0).trans rfl, (blk_cell BK748.out 1).trans rfl, (blk_cell BK748.out 2).trans rfl, (blk_cell BK748.out 3).trans rfl, (blk_cell BK748.out 4).trans rfl, (blk_cell BK753.out 0).trans rfl, (blk_cell BK753.out 1).trans rfl, (blk_cell BK753.out 2).trans rfl, (blk_cell BK753.out 3).trans rfl, (blk_cell BK763.out 0).trans rfl, (blk_cell BK763.out 1).trans rfl, (blk_cell BK763.out 2).trans rfl, (blk_cell BK763.out 3).trans rfl, (blk_cell BK758.out 0).trans rfl, (blk_cell BK758.out 1).trans rfl, (blk_cell BK758.out 2).trans rfl, (blk_cell BK758.out 3).trans rfl⟩ (fun hHeld => ?_)
  clear hK K
  refine norm_ (a' := ?_) ?_ ?_
  rotate_left
  · show Act.put _ (some 64) _ = _
    simp only [Act.put, List.setIfInBounds_toArray, List.set_cons_zero, List.set_cons_succ, i64_w, i32_w]
    rfl
  refine pure_ (i := 40) (N := some 65) (v := ?_) (a' := ?_) #[true, true, true, true, true, true, true, true, true, true, true, true, true, true, true, true, true, true, true, true, true, true, true, true, true, true, true, true, true, true, true, true, true, true, true, true, true, true, true, true, true, false, false, false, false, false, false, false] rfl rfl (any_of HT_.out (by kernel_rfl)) (fun _ _ _ h => h) (Or.inl ⟨by rfl, ?_⟩) ?_ ?_
  rotate_left
  · intro w'
    go_simp
    with_reducible rfl
  rotate_left
  · simp only [Act.put, List.setIfInBounds_toArray, List.set_cons_zero, List.set_cons_succ, i64_w, i32_w]
    rfl
  refine pure_ (i := 41) (N := some 66) (v := undef) (a' := ?_) #[true, true, true, true, true, true, true, true, true, true, true, true, true, true, true, true, true, true, true, true, true, true, true, true, true, true, true, true, true, true, true, true, true, true, true, true, true, true, true, true, true, true, false, false, false, false, false, false] rfl rfl (any_of HT_.out (by kernel_rfl)) (fun _ _ _ h => h) (Or.inr ⟨by rfl, rfl⟩) ?_ ?_
  rotate_left
  · simp only [Act.put, List.setIfInBounds_toArray, List.set_cons_zero, List.set_cons_succ, i64_w, i32_w]
    rfl
  refine pure_ (i := 42) (N := some 67) (v := undef) (a' := ?_) #[true, true, true, true, true, true, true, true, true, true, true, true, true, true, true, true, true, true, true, true, true, true, true, true, true, true, true, true, true, true, true, true, true, true, true, true, true, true, true, true, true, true, true, false, false, false, false, false] rfl rfl (any_of HT_.out (by kernel_rfl)) (fun _ _ _ h => h) (Or.inr ⟨by rfl, rfl⟩) ?_ ?_
  rotate_left
  · simp only [Act.put, List.setIfInBounds_toArray, List.set_cons_zero, List.set_cons_succ, i64_w, i32_w]
    rfl
  refine pure_ (i := 43) (N := some 68) (v := undef) (a' := ?_) #[true, true, true, true, true, true, true, true, true, true, true, true, true, true, true, true, true, true, true, true, true, true, true, true, true, true, true, true, true, true, true, true, true, true, true, true, true, true, true, true, true, true, true, true, false, false, false, false] rfl rfl (any_of HT_.out (by kernel_rfl)) (fun _ _ _ h => h) (Or.inr ⟨by rfl, rfl⟩) ?_ ?_
  rotate_left
  · simp only [Act.put, List.setIfInBounds_toArray, List.set_cons_zero, List.set_cons_succ, i64_w, i32_w]
    rfl
  refine pure_ (i := 44) (N := some 69) (v := ?_) (a' := ?_) #[true, true, true, true, true, true, true, true, true, true, true, true, true, true, true, true, true, true, true, true, true, true, true, true, true, true, true, true, true, true, true, true, true, true, true, true, true, true, true, true, true, true, true, true, true, false, false, false] rfl rfl (any_of HT_.out (by kernel_rfl)) (fun _ _ _ h => h) (Or.inl ⟨by rfl, ?_⟩) ?_ ?_
  rotate_left
  · intro w'
    go_simp
    with_reducible rfl
  rotate_left
  · simp only [Act.put, List.setIfInBounds_toArray, List.set_cons_zero, List.set_cons_succ, i64_w, i32_w]
    rfl
  refine pure_ (i := 45) (N := some 70) (v := ?_) (a' := ?_) #[true, true, true, true, true, true, true, true, true, true, true, true, true, true, true, true, true, true, true, true, true, true, true, true, true, true, true, true, true, true, true, true, true, true, true, true, true, true, true, true, true, true, true, true, true, true, false, false] rfl rfl (any_of HT_.out (by kernel_rfl)) (fun _ _ _ h => h) (Or.inl ⟨by rfl, ?_⟩) ?_ ?_
  rotate_left
  · intro w'
    go_simp
    with_reducible rfl
  rotate_left
  · simp only [Act.put, List.setIfInBounds_toArray, List.set_cons_zero, List.set_cons_succ, i64_w, i32_w]
    rfl
  refine pure_ (i := 46) (N := some 71) (v := ?_) (a' := ?_) #[true, true, true, true, true, true, true, true, true, true, true, true, true, true, true, true, true, true, true, true, true, true, true, true, true, true, true, true, true, true, true, true, true, true, true, true, true, true, true, true, true, true, true, true, true, true, true, false] rfl rfl (any_of HT_.out (by kernel_rfl)) (fun _ _ _ h => h) (Or.inl ⟨by rfl, ?_⟩) ?_ ?_
  rotate_left
  · intro w'
    go_simp
    with_reducible rfl
  rotate_left
  · simp only [Act.put, List.setIfInBounds_toArray, List.set_cons_zero, List.set_cons_succ, i64_w, i32_w]
    rfl
  refine pure_ (i := 47) (N := some 6) (v := ?_) (a' := ?_) #[true, true, true, true, true, true, true, true, true, true, true, true, true, true, true, true, true, true, true, true, true, true, true, true, true, true, true, true, true, true, true, true, true, true, true, true, true, true, true, true, true, true, true, true, true, true, true, true] rfl rfl (any_of HT_.out (by kernel_rfl)) (fun _ _ _ h => h) (Or.inl ⟨by rfl, ?_⟩) ?_ ?_
  rotate_left
  · intro w'
    go_simp
    with_reducible rfl
  rotate_left
  · simp only [Act.put, List.setIfInBounds_toArray, List.set_cons_zero, List.set_cons_succ, i64_w, i32_w]
    rfl
  refine done_ (done_of HT_.out (by kernel_rfl)) ?_
  try go_wp2
  go_ret
  exact ⟨by first | rfl | (simp [errW_none, errW_some] <;> rfl) | (simp [*, errW_none, errW_some] <;> rfl), by repeat (first | (with_reducible first | exact HB.out | apply below_alloc | apply pw_below_drewN | apply below_drew1 | refine below_set ?_ GE739.out | refine below_set ?_ GE740.out | refine below_set ?_ GE741.out | refine below_set ?_ GE748.out | refine below_set ?_ GE753.out | refine below_set ?_ GE758.out | refine below_set ?_ GE763.out) | exact HB.out)⟩

end Go.Proofs.YtdlagefpglhdoaaDoor.Q
