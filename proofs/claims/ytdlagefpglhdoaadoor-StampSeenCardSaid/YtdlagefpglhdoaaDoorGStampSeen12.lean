import Derived.Test.YtdlagefpglhdoaaDoorQx0
import Derived.Test.YtdlagefpglhdoaaDoorGStampSeen0
import Derived.Test.YtdlagefpglhdoaaDoorGStampSeen5
import Derived.Test.YtdlagefpglhdoaaDoorGStampSeen7
import Derived.Test.YtdlagefpglhdoaaDoorGStampSeen2
-- Written by this session's own driver (wip/hybrid.py) of the kit's printer; contracts marked FOREIGN are by hand.
namespace Go.Proofs.YtdlagefpglhdoaaDoor.Q
open Go.RowKit Go.Proofs.YtdlagefpglhdoaaDoorW.PrintWords Go.Proofs.YtdlagefpglhdoaaDoorW.PrintLast Go.Proofs.YtdlagefpglhdoaaDoorW.PrintMore
attribute [local go_sem] max2_int min2_int max_two min_two max_three min_three max_four min_four   -- for this text's walks alone
set_option linter.unusedVariables false
set_option linter.unusedSimpArgs false

/-! ### tenementlaw07_StampSeen_p3: function 8 -/
def tenementlaw07_StampSeen_p3.f (k : Nat) (a0_0 : Int) (a0_1 : Int) (a0_2 : Int) (a0_3 : Int) (a0_4 : Int) (a0_5 : Bool) (a1_0 : Int) (a1_1 : Int) (a1_2 : Int) (a1_3 : Int) (a1_4 : Bool) (a2_0 : Int) (a2_1 : Int) (a2_2 : Int) (a2_3 : Int) (a2_4 : Bool) : Option (Bool) := (tenementlaw07_examples.f k).bind fun t838 => (if t838 = true then ((tenementlaw07_Mark_mark.f k a0_0 a0_1 a0_2 a0_3 a0_4 true).bind fun bt839 => ((tenementlaw07_Vector_vector.f k a1_0 a1_1 a1_2 a1_3 a1_4).bind fun bt845 => ((tenementlaw07_Vector_vector.f k a2_0 a2_1 a2_2 a2_3 a2_4).bind fun bt850 => ((vec_Join.f bt845.1 bt845.2.1 bt845.2.2.1 bt845.2.2.2 bt850.1 bt850.2.1 bt850.2.2.1 bt850.2.2.2).bind fun bt855 => ((stamp_Seen.f bt839.1 bt839.2.1 bt839.2.2.1 bt839.2.2.2.1 bt839.2.2.2.2 bt839.1 bt839.2.1 bt839.2.2.1 bt839.2.2.2.1).bind fun t860 => (if t860 = true then ((stamp_Stamp_N.f bt839.1 bt839.2.1 bt839.2.2.1 bt839.2.2.2.1 bt839.2.2.2.2).bind fun t861 => ((vec_With.f bt839.1 bt839.2.1 bt839.2.2.1 bt839.2.2.2.1 bt839.2.2.2.2 (IntKind.u64.wrap (t861 - 1))).bind fun bt862 => ((stamp_Seen.f bt839.1 bt839.2.1 bt839.2.2.1 bt839.2.2.2.1 bt839.2.2.2.2 bt862.1 bt862.2.1 bt862.2.2.1 bt862.2.2.2).bind fun t866 => (if t866 = true then (none) else ((stamp_Seen.f bt839.1 bt839.2.1 bt839.2.2.1 bt839.2.2.2.1 bt839.2.2.2.2 bt845.1 bt845.2.1 bt845.2.2.1 bt845.2.2.2).bind fun t867 => (if t867 = true then (none) else ((vec_Meet.f bt845.1 bt845.2.1 bt845.2.2.1 bt845.2.2.2 bt850.1 bt850.2.1 bt850.2.2.1 bt850.2.2.2).bind fun bt876 => ((stamp_Seen.f bt839.1 bt839.2.1 bt839.2.2.1 bt839.2.2.2.1 bt839.2.2.2.2 bt876.1 bt876.2.1 bt876.2.2.1 bt876.2.2.2).bind fun t880 => ((stamp_Seen.f bt839.1 bt839.2.1 bt839.2.2.1 bt839.2.2.2.1 bt839.2.2.2.2 bt845.1 bt845.2.1 bt845.2.2.1 bt845.2.2.2).bind fun t881 => (if t881 = true then (none) else (if t880 = true then (none) else (some true)))))))))))) else (none))))))) else (none))
theorem tenementlaw07_StampSeen_p3.mono : ∀ a0 a1 a2 a3 a4 a5 a6 a7 a8 a9 a10 a11 a12 a13 a14 a15 k, LeO (tenementlaw07_StampSeen_p3.f k a0 a1 a2 a3 a4 a5 a6 a7 a8 a9 a10 a11 a12 a13 a14 a15) (tenementlaw07_StampSeen_p3.f (k + 1) a0 a1 a2 a3 a4 a5 a6 a7 a8 a9 a10 a11 a12 a13 a14 a15) := by
  intro a0 a1 a2 a3 a4 a5 a6 a7 a8 a9 a10 a11 a12 a13 a14 a15 k
  unfold tenementlaw07_StampSeen_p3.f
  repeat' first
      | (with_reducible exact tenementlaw07_Mark_mark.mono _ _ _ _ _ _ _)
      | (with_reducible exact tenementlaw07_Vector_vector.mono _ _ _ _ _ _)
      | (with_reducible exact tenementlaw07_examples.mono _)
      | (with_reducible exact LeO.refl _)
      | (with_reducible exact LeO.none _)
      | (with_reducible refine LeO.ite ?_ ?_)
      | (with_reducible refine LeO.bind ?_ (fun _ => ?_))
      | exact tenementlaw07_Mark_mark.mono _ _ _ _ _ _ _
      | exact tenementlaw07_Vector_vector.mono _ _ _ _ _ _
      | exact tenementlaw07_examples.mono _
      | exact LeO.none _
      | refine LeO.ite ?_ ?_
      | refine LeO.bind ?_ (fun _ => ?_)
def tenementlaw07_StampSeen_p3.T9 : Bool × List (List Nat × List Nat) := (true, [([], []), ([0], [0]), ([1], [1]), ([1], [1]), ([3, 1], [1, 3]), ([2, 4, 1, 1], [1, 2, 4]), ([1, 5], [1, 5]), ([6, 5], [6]), ([7], [7]), ([7], [7]), ([9, 7], [7, 9]), ([7], [7]), ([11, 7], [7, 11]), ([7], [7]), ([13, 7, 7], [7, 13]), ([14, 7], [7, 14]), ([10, 12, 15, 14, 7], [7, 10, 12, 15]), ([8, 16, 16, 7], [7, 8, 16]), ([17, 7], [7, 17]), ([7, 18], [7, 18]), ([19, 17], [19]), ([20], [20]), ([20], [20]), ([21, 22, 20, 20], [20, 21, 22]), ([23, 20], [20, 23]), ([24, 23, 20], [20, 24]), ([25], [25]), ([25], [25]), ([26, 27, 25, 25], [25, 26, 27]), ([25, 28, 20], [20, 25, 28]), ([20, 29], [20, 29]), ([30, 28], [30]), ([31], [31]), ([31], [31]), ([31], [31]), ([33, 34, 31, 31], [31, 33, 34]), ([32, 35, 35, 31], [31, 32, 35]), ([31], [31]), ([31], [31]), ([37, 38, 36, 31], [31, 37, 38]), ([39, 39, 31], [31, 39]), ([40], [40]), ([40], [40]), ([41, 42, 40, 40], [40, 41, 42]), ([40, 43, 31], [31, 40, 43]), ([36, 44, 31], [31, 36, 44]), ([31, 45], [31, 45]), ([46, 43, 0, 1, 2, 3, 4, 5, 6, 7, 8, 9, 10, 11, 12, 13, 14, 15, 16, 17, 18, 19, 20, 21, 22, 23, 24, 25, 26, 27, 28, 29, 30, 31, 32, 33, 34, 35, 36, 37, 38, 39, 40, 41, 42, 43, 44, 45, 46], [46])])
def tenementlaw07_StampSeen_p3.B9 : List Nat := [0, 1, 3, 3, 11, 31, 63, 127, 255, 255, 767, 255, 2303, 255, 8447, 24831, 65279, 131071, 262143, 524287, 1048575, 2097151, 2097151, 8388607, 16777215, 33554431, 67108863, 67108863, 268435455, 536870911, 1073741823, 2147483647, 4294967295, 4294967295, 4294967295, 30064771071, 68719476735, 4294967295, 4294967295, 549755813887, 1099511627775, 2199023255551, 2199023255551, 8796093022207, 17592186044415, 35184372088831, 70368744177663, 140737488355327]
theorem tenementlaw07_StampSeen_p3.tab9 : rtab .any (opsOf Tryd.f8 9) = tenementlaw07_StampSeen_p3.T9 := by kernel_rfl
theorem tenementlaw07_StampSeen_p3.bits9 : waitsOk tenementlaw07_StampSeen_p3.T9.2 tenementlaw07_StampSeen_p3.B9 = true := by kernel_rfl
set_option maxHeartbeats 8000000 in
set_option maxRecDepth 100000 in
theorem tenementlaw07_StampSeen_p3.calls (k : Nat) (a0_0 : Int) (a0_1 : Int) (a0_2 : Int) (a0_3 : Int) (a0_4 : Int) (a0_5 : Bool) (a1_0 : Int) (a1_1 : Int) (a1_2 : Int) (a1_3 : Int) (a1_4 : Bool) (a2_0 : Int) (a2_1 : Int) (a2_2 : Int) (a2_3 : Int) (a2_4 : Bool) (r : Bool) (w : World) (h : tenementlaw07_StampSeen_p3.f k a0_0 a0_1 a0_2 a0_3 a0_4 a0_5 a1_0 a1_1 a1_2 a1_3 a1_4 a2_0 a2_1 a2_2 a2_3 a2_4 = some r) :
    Calls Tryd.prog 8 #[.agg #[.int .u64 a0_0, .int .u64 a0_1, .int .u64 a0_2, .int .u64 a0_3, .int .i64 a0_4, .bool a0_5], .agg #[.int .u64 a1_0, .int .u64 a1_1, .int .u64 a1_2, .int .u64 a1_3, .bool a1_4], .agg #[.int .u64 a2_0, .int .u64 a2_1, .int .u64 a2_2, .int .u64 a2_3, .bool a2_4]] w fun e w' => e = .returned (.bool r) ∧ Below w.heap.size w w' := by
  have hu28 := Tryd.underlying28
  have hu30 := Tryd.underlying30
  have hu26 := Tryd.underlying26
  have hu24 := Tryd.underlying24
  have HB := Aside0.mk (Below.refl w.heap.size w)
  have H : ((tenementlaw07_examples.f k).bind fun t838 => (if t838 = true then ((tenementlaw07_Mark_mark.f k a0_0 a0_1 a0_2 a0_3 a0_4 true).bind fun bt839 => ((tenementlaw07_Vector_vector.f k a1_0 a1_1 a1_2 a1_3 a1_4).bind fun bt845 => ((tenementlaw07_Vector_vector.f k a2_0 a2_1 a2_2 a2_3 a2_4).bind fun bt850 => ((vec_Join.f bt845.1 bt845.2.1 bt845.2.2.1 bt845.2.2.2 bt850.1 bt850.2.1 bt850.2.2.1 bt850.2.2.2).bind fun bt855 => ((stamp_Seen.f bt839.1 bt839.2.1 bt839.2.2.1 bt839.2.2.2.1 bt839.2.2.2.2 bt839.1 bt839.2.1 bt839.2.2.1 bt839.2.2.2.1).bind fun t860 => (if t860 = true then ((stamp_Stamp_N.f bt839.1 bt839.2.1 bt839.2.2.1 bt839.2.2.2.1 bt839.2.2.2.2).bind fun t861 => ((vec_With.f bt839.1 bt839.2.1 bt839.2.2.1 bt839.2.2.2.1 bt839.2.2.2.2 (IntKind.u64.wrap (t861 - 1))).bind fun bt862 => ((stamp_Seen.f bt839.1 bt839.2.1 bt839.2.2.1 bt839.2.2.2.1 bt839.2.2.2.2 bt862.1 bt862.2.1 bt862.2.2.1 bt862.2.2.2).bind fun t866 => (if t866 = true then (none) else ((stamp_Seen.f bt839.1 bt839.2.1 bt839.2.2.1 bt839.2.2.2.1 bt839.2.2.2.2 bt845.1 bt845.2.1 bt845.2.2.1 bt845.2.2.2).bind fun t867 => (if t867 = true then (none) else ((vec_Meet.f bt845.1 bt845.2.1 bt845.2.2.1 bt845.2.2.2 bt850.1 bt850.2.1 bt850.2.2.1 bt850.2.2.2).bind fun bt876 => ((stamp_Seen.f bt839.1 bt839.2.1 bt839.2.2.1 bt839.2.2.2.1 bt839.2.2.2.2 bt876.1 bt876.2.1 bt876.2.2.1 bt876.2.2.2).bind fun t880 => ((stamp_Seen.f bt839.1 bt839.2.1 bt839.2.2.1 bt839.2.2.2.1 bt839.2.2.2.2 bt845.1 bt845.2.1 bt845.2.2.1 bt845.2.2.2).bind fun t881 => (if t881 = true then (none) else (if t880 = true then (none) else (some true)))))))))))) else (none))))))) else (none))) = some r := h
  clear h
  replace H := Option.bind_eq_some_iff.mp H
  obtain ⟨t838, A40, H⟩ := H
  replace H : (if t838 = true then ((tenementlaw07_Mark_mark.f k a0_0 a0_1 a0_2 a0_3 a0_4 true).bind fun bt839 => ((tenementlaw07_Vector_vector.f k a1_0 a1_1 a1_2 a1_3 a1_4).bind fun bt845 => ((tenementlaw07_Vector_vector.f k a2_0 a2_1 a2_2 a2_3 a2_4).bind fun bt850 => ((vec_Join.f bt845.1 bt845.2.1 bt845.2.2.1 bt845.2.2.2 bt850.1 bt850.2.1 bt850.2.2.1 bt850.2.2.2).bind fun bt855 => ((stamp_Seen.f bt839.1 bt839.2.1 bt839.2.2.1 bt839.2.2.2.1 bt839.2.2.2.2 bt839.1 bt839.2.1 bt839.2.2.1 bt839.2.2.2.1).bind fun t860 => (if t860 = true then ((stamp_Stamp_N.f bt839.1 bt839.2.1 bt839.2.2.1 bt839.2.2.2.1 bt839.2.2.2.2).bind fun t861 => ((vec_With.f bt839.1 bt839.2.1 bt839.2.2.1 bt839.2.2.2.1 bt839.2.2.2.2 (IntKind.u64.wrap (t861 - 1))).bind fun bt862 => ((stamp_Seen.f bt839.1 bt839.2.1 bt839.2.2.1 bt839.2.2.2.1 bt839.2.2.2.2 bt862.1 bt862.2.1 bt862.2.2.1 bt862.2.2.2).bind fun t866 => (if t866 = true then (none) else ((stamp_Seen.f bt839.1 bt839.2.1 bt839.2.2.1 bt839.2.2.2.1 bt839.2.2.2.2 bt845.1 bt845.2.1 bt845.2.2.1 bt845.2.2.2).bind fun t867 => (if t867 = true then (none) else ((vec_Meet.f bt845.1 bt845.2.1 bt845.2.2.1 bt845.2.2.2 bt850.1 bt850.2.1 bt850.2.2.1 bt850.2.2.2).bind fun bt876 => ((stamp_Seen.f bt839.1 bt839.2.1 bt839.2.2.1 bt839.2.2.2.1 bt839.2.2.2.2 bt876.1 bt876.2.1 bt876.2.2.1 bt876.2.2.2).bind fun t880 => ((stamp_Seen.f bt839.1 bt839.2.1 bt839.2.2.1 bt839.2.2.2.1 bt839.2.2.2.2 bt845.1 bt845.2.1 bt845.2.2.1 bt845.2.2.2).bind fun t881 => (if t881 = true then (none) else (if t880 = true then (none) else (some true)))))))))))) else (none))))))) else (none)) = some r := H
  have A4 := Aside0.mk A40
  clear A40
  by_cases c5 : t838 = true
  rotate_left
  · replace c5 := Bool.eq_false_iff.mpr c5
    subst c5
    have H1 : (none) = some r := by rw [if_neg (show ¬ (false = true) by decide)] at H; exact H
    clear H
    have H := H1
    clear H1
    exact absurd H (by simp)
  subst c5
  have H1 : ((tenementlaw07_Mark_mark.f k a0_0 a0_1 a0_2 a0_3 a0_4 true).bind fun bt839 => ((tenementlaw07_Vector_vector.f k a1_0 a1_1 a1_2 a1_3 a1_4).bind fun bt845 => ((tenementlaw07_Vector_vector.f k a2_0 a2_1 a2_2 a2_3 a2_4).bind fun bt850 => ((vec_Join.f bt845.1 bt845.2.1 bt845.2.2.1 bt845.2.2.2 bt850.1 bt850.2.1 bt850.2.2.1 bt850.2.2.2).bind fun bt855 => ((stamp_Seen.f bt839.1 bt839.2.1 bt839.2.2.1 bt839.2.2.2.1 bt839.2.2.2.2 bt839.1 bt839.2.1 bt839.2.2.1 bt839.2.2.2.1).bind fun t860 => (if t860 = true then ((stamp_Stamp_N.f bt839.1 bt839.2.1 bt839.2.2.1 bt839.2.2.2.1 bt839.2.2.2.2).bind fun t861 => ((vec_With.f bt839.1 bt839.2.1 bt839.2.2.1 bt839.2.2.2.1 bt839.2.2.2.2 (IntKind.u64.wrap (t861 - 1))).bind fun bt862 => ((stamp_Seen.f bt839.1 bt839.2.1 bt839.2.2.1 bt839.2.2.2.1 bt839.2.2.2.2 bt862.1 bt862.2.1 bt862.2.2.1 bt862.2.2.2).bind fun t866 => (if t866 = true then (none) else ((stamp_Seen.f bt839.1 bt839.2.1 bt839.2.2.1 bt839.2.2.2.1 bt839.2.2.2.2 bt845.1 bt845.2.1 bt845.2.2.1 bt845.2.2.2).bind fun t867 => (if t867 = true then (none) else ((vec_Meet.f bt845.1 bt845.2.1 bt845.2.2.1 bt845.2.2.2 bt850.1 bt850.2.1 bt850.2.2.1 bt850.2.2.2).bind fun bt876 => ((stamp_Seen.f bt839.1 bt839.2.1 bt839.2.2.1 bt839.2.2.2.1 bt839.2.2.2.2 bt876.1 bt876.2.1 bt876.2.2.1 bt876.2.2.2).bind fun t880 => ((stamp_Seen.f bt839.1 bt839.2.1 bt839.2.2.1 bt839.2.2.2.1 bt839.2.2.2.2 bt845.1 bt845.2.1 bt845.2.2.1 bt845.2.2.2).bind fun t881 => (if t881 = true then (none) else (if t880 = true then (none) else (some true)))))))))))) else (none))))))) = some r := by rw [if_pos rfl] at H; exact H
  clear H
  have H := H1
  clear H1
  replace H := Option.bind_eq_some_iff.mp H
  obtain ⟨⟨t839, t840, t841, t842, t843⟩, A60, H⟩ := H
  replace H : ((tenementlaw07_Vector_vector.f k a1_0 a1_1 a1_2 a1_3 a1_4).bind fun bt845 => ((tenementlaw07_Vector_vector.f k a2_0 a2_1 a2_2 a2_3 a2_4).bind fun bt850 => ((vec_Join.f bt845.1 bt845.2.1 bt845.2.2.1 bt845.2.2.2 bt850.1 bt850.2.1 bt850.2.2.1 bt850.2.2.2).bind fun bt855 => ((stamp_Seen.f t839 t840 t841 t842 t843 t839 t840 t841 t842).bind fun t860 => (if t860 = true then ((stamp_Stamp_N.f t839 t840 t841 t842 t843).bind fun t861 => ((vec_With.f t839 t840 t841 t842 t843 (IntKind.u64.wrap (t861 - 1))).bind fun bt862 => ((stamp_Seen.f t839 t840 t841 t842 t843 bt862.1 bt862.2.1 bt862.2.2.1 bt862.2.2.2).bind fun t866 => (if t866 = true then (none) else ((stamp_Seen.f t839 t840 t841 t842 t843 bt845.1 bt845.2.1 bt845.2.2.1 bt845.2.2.2).bind fun t867 => (if t867 = true then (none) else ((vec_Meet.f bt845.1 bt845.2.1 bt845.2.2.1 bt845.2.2.2 bt850.1 bt850.2.1 bt850.2.2.1 bt850.2.2.2).bind fun bt876 => ((stamp_Seen.f t839 t840 t841 t842 t843 bt876.1 bt876.2.1 bt876.2.2.1 bt876.2.2.2).bind fun t880 => ((stamp_Seen.f t839 t840 t841 t842 t843 bt845.1 bt845.2.1 bt845.2.2.1 bt845.2.2.2).bind fun t881 => (if t881 = true then (none) else (if t880 = true then (none) else (some true)))))))))))) else (none)))))) = some r := H
  have A6 := Aside0.mk A60
  clear A60
  replace H := Option.bind_eq_some_iff.mp H
  obtain ⟨⟨t845, t846, t847, t848⟩, A70, H⟩ := H
  replace H : ((tenementlaw07_Vector_vector.f k a2_0 a2_1 a2_2 a2_3 a2_4).bind fun bt850 => ((vec_Join.f t845 t846 t847 t848 bt850.1 bt850.2.1 bt850.2.2.1 bt850.2.2.2).bind fun bt855 => ((stamp_Seen.f t839 t840 t841 t842 t843 t839 t840 t841 t842).bind fun t860 => (if t860 = true then ((stamp_Stamp_N.f t839 t840 t841 t842 t843).bind fun t861 => ((vec_With.f t839 t840 t841 t842 t843 (IntKind.u64.wrap (t861 - 1))).bind fun bt862 => ((stamp_Seen.f t839 t840 t841 t842 t843 bt862.1 bt862.2.1 bt862.2.2.1 bt862.2.2.2).bind fun t866 => (if t866 = true then (none) else ((stamp_Seen.f t839 t840 t841 t842 t843 t845 t846 t847 t848).bind fun t867 => (if t867 = true then (none) else ((vec_Meet.f t845 t846 t847 t848 bt850.1 bt850.2.1 bt850.2.2.1 bt850.2.2.2).bind fun bt876 => ((stamp_Seen.f t839 t840 t841 t842 t843 bt876.1 bt876.2.1 bt876.2.2.1 bt876.2.2.2).bind fun t880 => ((stamp_Seen.f t839 t840 t841 t842 t843 t845 t846 t847 t848).bind fun t881 => (if t881 = true then (none) else (if t880 = true then (none) else (some true)))))))))))) else (none))))) = some r := H
  have A7 := Aside0.mk A70
  clear A70
  replace H := Option.bind_eq_some_iff.mp H
  obtain ⟨⟨t850, t851, t852, t853⟩, A80, H⟩ := H
  replace H : ((vec_Join.f t845 t846 t847 t848 t850 t851 t852 t853).bind fun bt855 => ((stamp_Seen.f t839 t840 t841 t842 t843 t839 t840 t841 t842).bind fun t860 => (if t860 = true then ((stamp_Stamp_N.f t839 t840 t841 t842 t843).bind fun t861 => ((vec_With.f t839 t840 t841 t842 t843 (IntKind.u64.wrap (t861 - 1))).bind fun bt862 => ((stamp_Seen.f t839 t840 t841 t842 t843 bt862.1 bt862.2.1 bt862.2.2.1 bt862.2.2.2).bind fun t866 => (if t866 = true then (none) else ((stamp_Seen.f t839 t840 t841 t842 t843 t845 t846 t847 t848).bind fun t867 => (if t867 = true then (none) else ((vec_Meet.f t845 t846 t847 t848 t850 t851 t852 t853).bind fun bt876 => ((stamp_Seen.f t839 t840 t841 t842 t843 bt876.1 bt876.2.1 bt876.2.2.1 bt876.2.2.2).bind fun t880 => ((stamp_Seen.f t839 t840 t841 t842 t843 t845 t846 t847 t848).bind fun t881 => (if t881 = true then (none) else (if t880 = true then (none) else (some true)))))))))))) else (none)))) = some r := H
  have A8 := Aside0.mk A80
  clear A80
  replace H := Option.bind_eq_some_iff.mp H
  obtain ⟨⟨t855, t856, t857, t858⟩, A90, H⟩ := H
  replace H : ((stamp_Seen.f t839 t840 t841 t842 t843 t839 t840 t841 t842).bind fun t860 => (if t860 = true then ((stamp_Stamp_N.f t839 t840 t841 t842 t843).bind fun t861 => ((vec_With.f t839 t840 t841 t842 t843 (IntKind.u64.wrap (t861 - 1))).bind fun bt862 => ((stamp_Seen.f t839 t840 t841 t842 t843 bt862.1 bt862.2.1 bt862.2.2.1 bt862.2.2.2).bind fun t866 => (if t866 = true then (none) else ((stamp_Seen.f t839 t840 t841 t842 t843 t845 t846 t847 t848).bind fun t867 => (if t867 = true then (none) else ((vec_Meet.f t845 t846 t847 t848 t850 t851 t852 t853).bind fun bt876 => ((stamp_Seen.f t839 t840 t841 t842 t843 bt876.1 bt876.2.1 bt876.2.2.1 bt876.2.2.2).bind fun t880 => ((stamp_Seen.f t839 t840 t841 t842 t843 t845 t846 t847 t848).bind fun t881 => (if t881 = true then (none) else (if t880 = true then (none) else (some true)))))))))))) else (none))) = some r := H
  have A9 := Aside0.mk A90
  clear A90
  replace H := Option.bind_eq_some_iff.mp H
  obtain ⟨t860, A100, H⟩ := H
  replace H : (if t860 = true then ((stamp_Stamp_N.f t839 t840 t841 t842 t843).bind fun t861 => ((vec_With.f t839 t840 t841 t842 t843 (IntKind.u64.wrap (t861 - 1))).bind fun bt862 => ((stamp_Seen.f t839 t840 t841 t842 t843 bt862.1 bt862.2.1 bt862.2.2.1 bt862.2.2.2).bind fun t866 => (if t866 = true then (none) else ((stamp_Seen.f t839 t840 t841 t842 t843 t845 t846 t847 t848).bind fun t867 => (if t867 = true then (none) else ((vec_Meet.f t845 t846 t847 t848 t850 t851 t852 t853).bind fun bt876 => ((stamp_Seen.f t839 t840 t841 t842 t843 bt876.1 bt876.2.1 bt876.2.2.1 bt876.2.2.2).bind fun t880 => ((stamp_Seen.f t839 t840 t841 t842 t843 t845 t846 t847 t848).bind fun t881 => (if t881 = true then (none) else (if t880 = true then (none) else (some true)))))))))))) else (none)) = some r := H
  have A10 := Aside0.mk A100
  clear A100
  by_cases c11 : t860 = true
  rotate_left
  · replace c11 := Bool.eq_false_iff.mpr c11
    subst c11
    have H1 : (none) = some r := by rw [if_neg (show ¬ (false = true) by decide)] at H; exact H
    clear H
    have H := H1
    clear H1
    exact absurd H (by simp)
  subst c11
  have H1 : ((stamp_Stamp_N.f t839 t840 t841 t842 t843).bind fun t861 => ((vec_With.f t839 t840 t841 t842 t843 (IntKind.u64.wrap (t861 - 1))).bind fun bt862 => ((stamp_Seen.f t839 t840 t841 t842 t843 bt862.1 bt862.2.1 bt862.2.2.1 bt862.2.2.2).bind fun t866 => (if t866 = true then (none) else ((stamp_Seen.f t839 t840 t841 t842 t843 t845 t846 t847 t848).bind fun t867 => (if t867 = true then (none) else ((vec_Meet.f t845 t846 t847 t848 t850 t851 t852 t853).bind fun bt876 => ((stamp_Seen.f t839 t840 t841 t842 t843 bt876.1 bt876.2.1 bt876.2.2.1 bt876.2.2.2).bind fun t880 => ((stamp_Seen.f t839 t840 t841 t842 t843 t845 t846 t847 t848).bind fun t881 => (if t881 = true then (none) else (if t880 = true then (none) else (some true)))))))))))) = some r := by rw [if_pos rfl] at H; exact H
  clear H
  have H := H1
  clear H1
  replace H := Option.bind_eq_some_iff.mp H
  obtain ⟨t861, A120, H⟩ := H
  replace H : ((vec_With.f t839 t840 t841 t842 t843 (IntKind.u64.wrap (t861 - 1))).bind fun bt862 => ((stamp_Seen.f t839 t840 t841 t842 t843 bt862.1 bt862.2.1 bt862.2.2.1 bt862.2.2.2).bind fun t866 => (if t866 = true then (none) else ((stamp_Seen.f t839 t840 t841 t842 t843 t845 t846 t847 t848).bind fun t867 => (if t867 = true then (none) else ((vec_Meet.f t845 t846 t847 t848 t850 t851 t852 t853).bind fun bt876 => ((stamp_Seen.f t839 t840 t841 t842 t843 bt876.1 bt876.2.1 bt876.2.2.1 bt876.2.2.2).bind fun t880 => ((stamp_Seen.f t839 t840 t841 t842 t843 t845 t846 t847 t848).bind fun t881 => (if t881 = true then (none) else (if t880 = true then (none) else (some true))))))))))) = some r := H
  have A12 := Aside0.mk A120
  clear A120
  replace H := Option.bind_eq_some_iff.mp H
  obtain ⟨⟨t862, t863, t864, t865⟩, A130, H⟩ := H
  replace H : ((stamp_Seen.f t839 t840 t841 t842 t843 t862 t863 t864 t865).bind fun t866 => (if t866 = true then (none) else ((stamp_Seen.f t839 t840 t841 t842 t843 t845 t846 t847 t848).bind fun t867 => (if t867 = true then (none) else ((vec_Meet.f t845 t846 t847 t848 t850 t851 t852 t853).bind fun bt876 => ((stamp_Seen.f t839 t840 t841 t842 t843 bt876.1 bt876.2.1 bt876.2.2.1 bt876.2.2.2).bind fun t880 => ((stamp_Seen.f t839 t840 t841 t842 t843 t845 t846 t847 t848).bind fun t881 => (if t881 = true then (none) else (if t880 = true then (none) else (some true)))))))))) = some r := H
  have A13 := Aside0.mk A130
  clear A130
  replace H := Option.bind_eq_some_iff.mp H
  obtain ⟨t866, A140, H⟩ := H
  replace H : (if t866 = true then (none) else ((stamp_Seen.f t839 t840 t841 t842 t843 t845 t846 t847 t848).bind fun t867 => (if t867 = true then (none) else ((vec_Meet.f t845 t846 t847 t848 t850 t851 t852 t853).bind fun bt876 => ((stamp_Seen.f t839 t840 t841 t842 t843 bt876.1 bt876.2.1 bt876.2.2.1 bt876.2.2.2).bind fun t880 => ((stamp_Seen.f t839 t840 t841 t842 t843 t845 t846 t847 t848).bind fun t881 => (if t881 = true then (none) else (if t880 = true then (none) else (some true))))))))) = some r := H
  have A14 := Aside0.mk A140
  clear A140
  by_cases c15 : t866 = true
  · subst c15
    have H1 : (none) = some r := by rw [if_pos rfl] at H; exact H
    clear H
    have H := H1
    clear H1
    exact absurd H (by simp)
  replace c15 := Bool.eq_false_iff.mpr c15
  subst c15
  have H1 : ((stamp_Seen.f t839 t840 t841 t842 t843 t845 t846 t847 t848).bind fun t867 => (if t867 = true then (none) else ((vec_Meet.f t845 t846 t847 t848 t850 t851 t852 t853).bind fun bt876 => ((stamp_Seen.f t839 t840 t841 t842 t843 bt876.1 bt876.2.1 bt876.2.2.1 bt876.2.2.2).bind fun t880 => ((stamp_Seen.f t839 t840 t841 t842 t843 t845 t846 t847 t848).bind fun t881 => (if t881 = true then (none) else (if t880 = true then (none) else (some true)))))))) = some r := by rw [if_neg (show ¬ (false = true) by decide)] at H; exact H
  clear H
  have H := H1
  clear H1
  replace H := Option.bind_eq_some_iff.mp H
  obtain ⟨t867, A160, H⟩ := H
  replace H : (if t867 = true then (none) else ((vec_Meet.f t845 t846 t847 t848 t850 t851 t852 t853).bind fun bt876 => ((stamp_Seen.f t839 t840 t841 t842 t843 bt876.1 bt876.2.1 bt876.2.2.1 bt876.2.2.2).bind fun t880 => ((stamp_Seen.f t839 t840 t841 t842 t843 t845 t846 t847 t848).bind fun t881 => (if t881 = true then (none) else (if t880 = true then (none) else (some true))))))) = some r := H
  have A16 := Aside0.mk A160
  clear A160
  by_cases c17 : t867 = true
  · subst c17
    have H1 : (none) = some r := by rw [if_pos rfl] at H; exact H
    clear H
    have H := H1
    clear H1
    exact absurd H (by simp)
  replace c17 := Bool.eq_false_iff.mpr c17
  subst c17
  have H1 : ((vec_Meet.f t845 t846 t847 t848 t850 t851 t852 t853).bind fun bt876 => ((stamp_Seen.f t839 t840 t841 t842 t843 bt876.1 bt876.2.1 bt876.2.2.1 bt876.2.2.2).bind fun t880 => ((stamp_Seen.f t839 t840 t841 t842 t843 t845 t846 t847 t848).bind fun t881 => (if t881 = true then (none) else (if t880 = true then (none) else (some true)))))) = some r := by rw [if_neg (show ¬ (false = true) by decide)] at H; exact H
  clear H
  have H := H1
  clear H1
  replace H := Option.bind_eq_some_iff.mp H
  obtain ⟨⟨t876, t877, t878, t879⟩, A180, H⟩ := H
  replace H : ((stamp_Seen.f t839 t840 t841 t842 t843 t876 t877 t878 t879).bind fun t880 => ((stamp_Seen.f t839 t840 t841 t842 t843 t845 t846 t847 t848).bind fun t881 => (if t881 = true then (none) else (if t880 = true then (none) else (some true))))) = some r := H
  have A18 := Aside0.mk A180
  clear A180
  replace H := Option.bind_eq_some_iff.mp H
  obtain ⟨t880, A190, H⟩ := H
  replace H : ((stamp_Seen.f t839 t840 t841 t842 t843 t845 t846 t847 t848).bind fun t881 => (if t881 = true then (none) else (if t880 = true then (none) else (some true)))) = some r := H
  have A19 := Aside0.mk A190
  clear A190
  replace H := Option.bind_eq_some_iff.mp H
  obtain ⟨t881, A200, H⟩ := H
  replace H : (if t881 = true then (none) else (if t880 = true then (none) else (some true))) = some r := H
  have A20 := Aside0.mk A200
  clear A200
  by_cases c21 : t881 = true
  · subst c21
    have H1 : (none) = some r := by rw [if_pos rfl] at H; exact H
    clear H
    have H := H1
    clear H1
    exact absurd H (by simp)
  replace c21 := Bool.eq_false_iff.mpr c21
  subst c21
  have H1 : (if t880 = true then (none) else (some true)) = some r := by rw [if_neg (show ¬ (false = true) by decide)] at H; exact H
  clear H
  have H := H1
  clear H1
  by_cases c22 : t880 = true
  · subst c22
    have H1 : (none) = some r := by rw [if_pos rfl] at H; exact H
    clear H
    have H := H1
    clear H1
    exact absurd H (by simp)
  replace c22 := Bool.eq_false_iff.mpr c22
  subst c22
  have H1 : (some true) = some r := by rw [if_neg (show ¬ (false = true) by decide)] at H; exact H
  clear H
  have H := H1
  clear H1
  obtain rfl := Option.some.inj H
  go_enter Tryd.func8, Tryd.ntmps8
  try go_wp2_with (first | ((with_reducible refine gate_dst (N := 3) rfl ?_); refine box_event ?hg (N := 3) ?hd (cs := #[.int .u64 a0_0, .int .u64 a0_1, .int .u64 a0_2, .int .u64 a0_3, .int .i64 a0_4, .bool a0_5]) (t := 28) ?hr ?_; (case hd => rfl); (case hg => rfl); (case hr => first | (go_simp; done) | (go_simp; rfl)); intro gb835 hg w23 hbox hb; have BK835 := Aside0.mk (hbox); have GW835 := Kw_ HB hg; have GE835 := GW835; replace HB := Ks_ HB hb; clear hb hbox hg) | ((with_reducible refine gate_dst (N := 4) rfl ?_); refine box_event ?hg (N := 4) ?hd (cs := #[.int .u64 a1_0, .int .u64 a1_1, .int .u64 a1_2, .int .u64 a1_3, .bool a1_4]) (t := 30) ?hr ?_; (case hd => rfl); (case hg => rfl); (case hr => first | (go_simp; done) | (go_simp; rfl)); intro gb836 hg w24 hbox hb; have BK836 := Aside0.mk (hbox); have GW836 := Kw_ HB hg; have GE836 := GW836; have NB835_836 := Kl_ BK835 hg; have NB836_835 := Kr_ BK835 hg; replace BK835 := Kb_ BK835 hb; replace HB := Ks_ HB hb; clear hb hbox hg) | ((with_reducible refine gate_dst (N := 5) rfl ?_); refine box_event ?hg (N := 5) ?hd (cs := #[.int .u64 a2_0, .int .u64 a2_1, .int .u64 a2_2, .int .u64 a2_3, .bool a2_4]) (t := 30) ?hr ?_; (case hd => rfl); (case hg => rfl); (case hr => first | (go_simp; done) | (go_simp; rfl)); intro gb837 hg w25 hbox hb; have BK837 := Aside0.mk (hbox); have GW837 := Kw_ HB hg; have GE837 := GW837; have NB835_837 := Kl_ BK835 hg; have NB837_835 := Kr_ BK835 hg; have NB836_837 := Kl_ BK836 hg; have NB837_836 := Kr_ BK836 hg; replace BK835 := Kb_ BK835 hb; replace BK836 := Kb_ BK836 hb; replace HB := Ks_ HB hb; clear hb hbox hg) | ((with_reducible refine gate_callee (f := 9) rfl ?_); refine goesL_ (some 12) rfl rfl Tryd.func9 (by kernel_rfl) rfl #[] rfl (by (try simp only [List.map_toArray, List.map_cons, List.map_nil]); first | done | rfl | (simp only [List.length_drop, List.length_take]; rfl)) ?_; (with_reducible refine (tenementlaw07_examples.calls k  true _ A4.out).mono ?_); rintro e w26 ⟨rfl, hb⟩; refine ⟨_, rfl, ?_⟩; replace BK835 := Kb_ BK835 hb; replace BK836 := Kb_ BK836 hb; replace BK837 := Kb_ BK837 hb; replace HB := Ks_ HB hb; (try clear hb); (try clear hb2); (try clear hk); (try clear hi); have hnb27 := NB835_836.out; have hnc27 := NB836_835.out; have hnb28 := NB835_837.out; have hnc28 := NB837_835.out; have hcz29_0 : w26.cell? ⟨gb835, 0, none⟩ = some (.int .u64 a0_0) := (blk_cell BK835.out 0).trans rfl; have hcz29_1 : w26.cell? ⟨gb835, 1, none⟩ = some (.int .u64 a0_1) := (blk_cell BK835.out 1).trans rfl; have hcz29_2 : w26.cell? ⟨gb835, 2, none⟩ = some (.int .u64 a0_2) := (blk_cell BK835.out 2).trans rfl; have hcz29_3 : w26.cell? ⟨gb835, 3, none⟩ = some (.int .u64 a0_3) := (blk_cell BK835.out 3).trans rfl; have hcz29_4 : w26.cell? ⟨gb835, 4, none⟩ = some (.int .i64 a0_4) := (blk_cell BK835.out 4).trans rfl; have hcz29_5 : w26.cell? ⟨gb835, 5, none⟩ = some (.bool a0_5) := (blk_cell BK835.out 5).trans rfl; have hfz29_0 := blk_frozen BK835.out 0; have hfz29_1 := blk_frozen BK835.out 1; have hfz29_2 := blk_frozen BK835.out 2; have hfz29_3 := blk_frozen BK835.out 3; have hfz29_4 := blk_frozen BK835.out 4; have hfz29_5 := blk_frozen BK835.out 5) | ((with_reducible refine gate_callee (f := 10) rfl ?_); refine goesL_ (some 17) rfl rfl Tryd.func10 (by kernel_rfl) rfl #[.agg #[.int .u64 a0_0, .int .u64 a0_1, .int .u64 a0_2, .int .u64 a0_3, .int .i64 a0_4, .bool true]] rfl (by (try simp only [List.map_toArray, List.map_cons, List.map_nil]); first | done | rfl | (simp only [List.length_drop, List.length_take]; rfl)) ?_; (with_reducible refine (tenementlaw07_Mark_mark.calls k a0_0 a0_1 a0_2 a0_3 a0_4 true t839 t840 t841 t842 t843 _ A6.out).mono ?_); rintro e w30 ⟨rfl, hb⟩; refine ⟨_, rfl, ?_⟩; replace BK835 := Aside0.mk (blk_below (g := gb835) (o := .cells #[.int .u64 a0_0, .int .u64 a0_1, .int .u64 a0_2, .int .u64 a0_3, .int .i64 a0_4, .bool true] 28 (0, 0)) (by (with_reducible repeat (first | refine blk_drewN ?_ _ | refine blk_drew ?_ | refine blk_alloc ?_ _)); refine blk_put (cs := #[.int .u64 a0_0, .int .u64 a0_1, .int .u64 a0_2, .int .u64 a0_3, .int .i64 a0_4, .bool a0_5]) ?_ 5 _ rfl; (with_reducible repeat (first | refine blk_drewN ?_ _ | refine blk_drew ?_ | refine blk_alloc ?_ _)); exact BK835.out) hb); replace BK836 := Kf_ BK836 NB836_835 hb; replace BK837 := Kf_ BK837 NB837_835 hb; replace HB := Kt_ HB GE835 hb; (try clear hb); (try clear hb2); (try clear hk); (try clear hi)) | ((with_reducible refine gate_dst (N := 8) rfl ?_); refine box_event ?hg (N := 8) ?hd (cs := #[.int .u64 0, .int .u64 0, .int .u64 0, .int .u64 0, .int .i64 0]) (t := 26) ?hr ?_; (case hd => rfl); (case hg => rfl); (case hr => first | (go_simp; done) | (go_simp; rfl)); intro gb844 hg w31 hbox hb; have BK844 := Aside0.mk (hbox); have GW844 := Kw_ HB hg; have GE844 := GW844; have NB835_844 := Kl_ BK835 hg; have NB844_835 := Kr_ BK835 hg; have NB836_844 := Kl_ BK836 hg; have NB844_836 := Kr_ BK836 hg; have NB837_844 := Kl_ BK837 hg; have NB844_837 := Kr_ BK837 hg; replace BK835 := Kb_ BK835 hb; replace BK836 := Kb_ BK836 hb; replace BK837 := Kb_ BK837 hb; replace HB := Ks_ HB hb; clear hb hbox hg; have hnb32 := NB844_835.out; have hnc32 := NB835_844.out; have hnb33 := NB844_836.out; have hnc33 := NB836_844.out; have hnb34 := NB844_837.out; have hnc34 := NB837_844.out; have hcz35_0 : w31.cell? ⟨gb844, 0, none⟩ = some (.int .u64 0) := (blk_cell BK844.out 0).trans rfl; have hcz35_1 : w31.cell? ⟨gb844, 1, none⟩ = some (.int .u64 0) := (blk_cell BK844.out 1).trans rfl; have hcz35_2 : w31.cell? ⟨gb844, 2, none⟩ = some (.int .u64 0) := (blk_cell BK844.out 2).trans rfl; have hcz35_3 : w31.cell? ⟨gb844, 3, none⟩ = some (.int .u64 0) := (blk_cell BK844.out 3).trans rfl; have hcz35_4 : w31.cell? ⟨gb844, 4, none⟩ = some (.int .i64 0) := (blk_cell BK844.out 4).trans rfl; have hfz35_0 := blk_frozen BK844.out 0; have hfz35_1 := blk_frozen BK844.out 1; have hfz35_2 := blk_frozen BK844.out 2; have hfz35_3 := blk_frozen BK844.out 3; have hfz35_4 := blk_frozen BK844.out 4; have hnb36 := NB836_837.out; have hnc36 := NB837_836.out; have hcz37_0 : w31.cell? ⟨gb836, 0, none⟩ = some (.int .u64 a1_0) := (blk_cell BK836.out 0).trans rfl; have hcz37_1 : w31.cell? ⟨gb836, 1, none⟩ = some (.int .u64 a1_1) := (blk_cell BK836.out 1).trans rfl; have hcz37_2 : w31.cell? ⟨gb836, 2, none⟩ = some (.int .u64 a1_2) := (blk_cell BK836.out 2).trans rfl; have hcz37_3 : w31.cell? ⟨gb836, 3, none⟩ = some (.int .u64 a1_3) := (blk_cell BK836.out 3).trans rfl; have hcz37_4 : w31.cell? ⟨gb836, 4, none⟩ = some (.bool a1_4) := (blk_cell BK836.out 4).trans rfl; have hfz37_0 := blk_frozen BK836.out 0; have hfz37_1 := blk_frozen BK836.out 1; have hfz37_2 := blk_frozen BK836.out 2; have hfz37_3 := blk_frozen BK836.out 3; have hfz37_4 := blk_frozen BK836.out 4) | ((with_reducible refine gate_callee (f := 11) rfl ?_); refine goesL_ (some 19) rfl rfl Tryd.func11 (by kernel_rfl) rfl #[.agg #[.int .u64 a1_0, .int .u64 a1_1, .int .u64 a1_2, .int .u64 a1_3, .bool a1_4]] rfl (by (try simp only [List.map_toArray, List.map_cons, List.map_nil]); first | done | rfl | (simp only [List.length_drop, List.length_take]; rfl)) ?_; (with_reducible refine (tenementlaw07_Vector_vector.calls k a1_0 a1_1 a1_2 a1_3 a1_4 t845 t846 t847 t848 _ A7.out).mono ?_); rintro e w38 ⟨rfl, hb⟩; refine ⟨_, rfl, ?_⟩; replace BK835 := Kf_ BK835 NB835_844 hb; replace BK836 := Kf_ BK836 NB836_844 hb; replace BK837 := Kf_ BK837 NB837_844 hb; replace BK844 := Aside0.mk (blk_below (g := gb844) (o := .cells #[.int .u64 t839, .int .u64 t840, .int .u64 t841, .int .u64 t842, .int .i64 t843] 26 (0, 0)) (by (with_reducible repeat (first | refine blk_drewN ?_ _ | refine blk_drew ?_ | refine blk_alloc ?_ _)); refine blk_put (cs := #[.int .u64 t839, .int .u64 t840, .int .u64 t841, .int .u64 t842, .int .i64 0]) ?_ 4 _ rfl; (with_reducible repeat (first | refine blk_drewN ?_ _ | refine blk_drew ?_ | refine blk_alloc ?_ _)); refine blk_put (cs := #[.int .u64 t839, .int .u64 t840, .int .u64 t841, .int .u64 0, .int .i64 0]) ?_ 3 _ rfl; (with_reducible repeat (first | refine blk_drewN ?_ _ | refine blk_drew ?_ | refine blk_alloc ?_ _)); refine blk_put (cs := #[.int .u64 t839, .int .u64 t840, .int .u64 0, .int .u64 0, .int .i64 0]) ?_ 2 _ rfl; (with_reducible repeat (first | refine blk_drewN ?_ _ | refine blk_drew ?_ | refine blk_alloc ?_ _)); refine blk_put (cs := #[.int .u64 t839, .int .u64 0, .int .u64 0, .int .u64 0, .int .i64 0]) ?_ 1 _ rfl; (with_reducible repeat (first | refine blk_drewN ?_ _ | refine blk_drew ?_ | refine blk_alloc ?_ _)); refine blk_put (cs := #[.int .u64 0, .int .u64 0, .int .u64 0, .int .u64 0, .int .i64 0]) ?_ 0 _ rfl; (with_reducible repeat (first | refine blk_drewN ?_ _ | refine blk_drew ?_ | refine blk_alloc ?_ _)); exact BK844.out) hb); replace HB := Kt_ HB GE844 hb; (try clear hb); (try clear hb2); (try clear hk); (try clear hi)) | ((with_reducible refine gate_dst (N := 9) rfl ?_); refine box_event ?hg (N := 9) ?hd (cs := #[.int .u64 0, .int .u64 0, .int .u64 0, .int .u64 0]) (t := 24) ?hr ?_; (case hd => rfl); (case hg => rfl); (case hr => first | (go_simp; done) | (go_simp; rfl)); intro gb849 hg w39 hbox hb; have BK849 := Aside0.mk (hbox); have GW849 := Kw_ HB hg; have GE849 := GW849; have NB835_849 := Kl_ BK835 hg; have NB849_835 := Kr_ BK835 hg; have NB836_849 := Kl_ BK836 hg; have NB849_836 := Kr_ BK836 hg; have NB837_849 := Kl_ BK837 hg; have NB849_837 := Kr_ BK837 hg; have NB844_849 := Kl_ BK844 hg; have NB849_844 := Kr_ BK844 hg; replace BK835 := Kb_ BK835 hb; replace BK836 := Kb_ BK836 hb; replace BK837 := Kb_ BK837 hb; replace BK844 := Kb_ BK844 hb; replace HB := Ks_ HB hb; clear hb hbox hg; have hnb40 := NB849_835.out; have hnc40 := NB835_849.out; have hnb41 := NB849_836.out; have hnc41 := NB836_849.out; have hnb42 := NB849_837.out; have hnc42 := NB837_849.out; have hnb43 := NB849_844.out; have hnc43 := NB844_849.out; have hcz44_0 : w39.cell? ⟨gb849, 0, none⟩ = some (.int .u64 0) := (blk_cell BK849.out 0).trans rfl; have hcz44_1 : w39.cell? ⟨gb849, 1, none⟩ = some (.int .u64 0) := (blk_cell BK849.out 1).trans rfl; have hcz44_2 : w39.cell? ⟨gb849, 2, none⟩ = some (.int .u64 0) := (blk_cell BK849.out 2).trans rfl; have hcz44_3 : w39.cell? ⟨gb849, 3, none⟩ = some (.int .u64 0) := (blk_cell BK849.out 3).trans rfl; have hfz44_0 := blk_frozen BK849.out 0; have hfz44_1 := blk_frozen BK849.out 1; have hfz44_2 := blk_frozen BK849.out 2; have hfz44_3 := blk_frozen BK849.out 3; have hcz45_0 : w39.cell? ⟨gb837, 0, none⟩ = some (.int .u64 a2_0) := (blk_cell BK837.out 0).trans rfl; have hcz45_1 : w39.cell? ⟨gb837, 1, none⟩ = some (.int .u64 a2_1) := (blk_cell BK837.out 1).trans rfl; have hcz45_2 : w39.cell? ⟨gb837, 2, none⟩ = some (.int .u64 a2_2) := (blk_cell BK837.out 2).trans rfl; have hcz45_3 : w39.cell? ⟨gb837, 3, none⟩ = some (.int .u64 a2_3) := (blk_cell BK837.out 3).trans rfl; have hcz45_4 : w39.cell? ⟨gb837, 4, none⟩ = some (.bool a2_4) := (blk_cell BK837.out 4).trans rfl; have hfz45_0 := blk_frozen BK837.out 0; have hfz45_1 := blk_frozen BK837.out 1; have hfz45_2 := blk_frozen BK837.out 2; have hfz45_3 := blk_frozen BK837.out 3; have hfz45_4 := blk_frozen BK837.out 4) | ((with_reducible refine gate_callee (f := 11) rfl ?_); refine goesL_ (some 21) rfl rfl Tryd.func11 (by kernel_rfl) rfl #[.agg #[.int .u64 a2_0, .int .u64 a2_1, .int .u64 a2_2, .int .u64 a2_3, .bool a2_4]] rfl (by (try simp only [List.map_toArray, List.map_cons, List.map_nil]); first | done | rfl | (simp only [List.length_drop, List.length_take]; rfl)) ?_; (with_reducible refine (tenementlaw07_Vector_vector.calls k a2_0 a2_1 a2_2 a2_3 a2_4 t850 t851 t852 t853 _ A8.out).mono ?_); rintro e w46 ⟨rfl, hb⟩; refine ⟨_, rfl, ?_⟩; replace BK835 := Kf_ BK835 NB835_849 hb; replace BK836 := Kf_ BK836 NB836_849 hb; replace BK837 := Kf_ BK837 NB837_849 hb; replace BK844 := Kf_ BK844 NB844_849 hb; replace BK849 := Aside0.mk (blk_below (g := gb849) (o := .cells #[.int .u64 t845, .int .u64 t846, .int .u64 t847, .int .u64 t848] 24 (0, 0)) (by (with_reducible repeat (first | refine blk_drewN ?_ _ | refine blk_drew ?_ | refine blk_alloc ?_ _)); refine blk_put (cs := #[.int .u64 t845, .int .u64 t846, .int .u64 t847, .int .u64 0]) ?_ 3 _ rfl; (with_reducible repeat (first | refine blk_drewN ?_ _ | refine blk_drew ?_ | refine blk_alloc ?_ _)); refine blk_put (cs := #[.int .u64 t845, .int .u64 t846, .int .u64 0, .int .u64 0]) ?_ 2 _ rfl; (with_reducible repeat (first | refine blk_drewN ?_ _ | refine blk_drew ?_ | refine blk_alloc ?_ _)); refine blk_put (cs := #[.int .u64 t845, .int .u64 0, .int .u64 0, .int .u64 0]) ?_ 1 _ rfl; (with_reducible repeat (first | refine blk_drewN ?_ _ | refine blk_drew ?_ | refine blk_alloc ?_ _)); refine blk_put (cs := #[.int .u64 0, .int .u64 0, .int .u64 0, .int .u64 0]) ?_ 0 _ rfl; (with_reducible repeat (first | refine blk_drewN ?_ _ | refine blk_drew ?_ | refine blk_alloc ?_ _)); exact BK849.out) hb); replace HB := Kt_ HB GE849 hb; (try clear hb); (try clear hb2); (try clear hk); (try clear hi)) | ((with_reducible refine gate_dst (N := 10) rfl ?_); refine box_event ?hg (N := 10) ?hd (cs := #[.int .u64 0, .int .u64 0, .int .u64 0, .int .u64 0]) (t := 24) ?hr ?_; (case hd => rfl); (case hg => rfl); (case hr => first | (go_simp; done) | (go_simp; rfl)); intro gb854 hg w47 hbox hb; have BK854 := Aside0.mk (hbox); have GW854 := Kw_ HB hg; have GE854 := GW854; have NB835_854 := Kl_ BK835 hg; have NB854_835 := Kr_ BK835 hg; have NB836_854 := Kl_ BK836 hg; have NB854_836 := Kr_ BK836 hg; have NB837_854 := Kl_ BK837 hg; have NB854_837 := Kr_ BK837 hg; have NB844_854 := Kl_ BK844 hg; have NB854_844 := Kr_ BK844 hg; have NB849_854 := Kl_ BK849 hg; have NB854_849 := Kr_ BK849 hg; replace BK835 := Kb_ BK835 hb; replace BK836 := Kb_ BK836 hb; replace BK837 := Kb_ BK837 hb; replace BK844 := Kb_ BK844 hb; replace BK849 := Kb_ BK849 hb; replace HB := Ks_ HB hb; clear hb hbox hg; have hnb48 := NB854_835.out; have hnc48 := NB835_854.out; have hnb49 := NB854_836.out; have hnc49 := NB836_854.out; have hnb50 := NB854_837.out; have hnc50 := NB837_854.out; have hnb51 := NB854_844.out; have hnc51 := NB844_854.out; have hnb52 := NB854_849.out; have hnc52 := NB849_854.out; have hcz53_0 : w47.cell? ⟨gb854, 0, none⟩ = some (.int .u64 0) := (blk_cell BK854.out 0).trans rfl; have hcz53_1 : w47.cell? ⟨gb854, 1, none⟩ = some (.int .u64 0) := (blk_cell BK854.out 1).trans rfl; have hcz53_2 : w47.cell? ⟨gb854, 2, none⟩ = some (.int .u64 0) := (blk_cell BK854.out 2).trans rfl; have hcz53_3 : w47.cell? ⟨gb854, 3, none⟩ = some (.int .u64 0) := (blk_cell BK854.out 3).trans rfl; have hfz53_0 := blk_frozen BK854.out 0; have hfz53_1 := blk_frozen BK854.out 1; have hfz53_2 := blk_frozen BK854.out 2; have hfz53_3 := blk_frozen BK854.out 3; have hcz54_0 : w47.cell? ⟨gb849, 0, none⟩ = some (.int .u64 t845) := (blk_cell BK849.out 0).trans rfl; have hcz54_1 : w47.cell? ⟨gb849, 1, none⟩ = some (.int .u64 t846) := (blk_cell BK849.out 1).trans rfl; have hcz54_2 : w47.cell? ⟨gb849, 2, none⟩ = some (.int .u64 t847) := (blk_cell BK849.out 2).trans rfl; have hcz54_3 : w47.cell? ⟨gb849, 3, none⟩ = some (.int .u64 t848) := (blk_cell BK849.out 3).trans rfl; have hfz54_0 := blk_frozen BK849.out 0; have hfz54_1 := blk_frozen BK849.out 1; have hfz54_2 := blk_frozen BK849.out 2; have hfz54_3 := blk_frozen BK849.out 3) | ((with_reducible refine gate_callee (f := 32) rfl ?_); refine goesL_ (some 24) rfl rfl Tryd.func32 (by kernel_rfl) rfl #[.agg #[.int .u64 t845, .int .u64 t846, .int .u64 t847, .int .u64 t848], .agg #[.int .u64 t850, .int .u64 t851, .int .u64 t852, .int .u64 t853]] rfl (by (try simp only [List.map_toArray, List.map_cons, List.map_nil]); first | done | rfl | (simp only [List.length_drop, List.length_take]; rfl)) ?_; (with_reducible refine (vec_Join.calls t845 t846 t847 t848 t850 t851 t852 t853 t855 t856 t857 t858 _ A9.out).mono ?_); rintro e w55 ⟨rfl, hb⟩; refine ⟨_, rfl, ?_⟩; replace BK835 := Kf_ BK835 NB835_854 hb; replace BK836 := Kf_ BK836 NB836_854 hb; replace BK837 := Kf_ BK837 NB837_854 hb; replace BK844 := Kf_ BK844 NB844_854 hb; replace BK849 := Kf_ BK849 NB849_854 hb; replace BK854 := Aside0.mk (blk_below (g := gb854) (o := .cells #[.int .u64 t850, .int .u64 t851, .int .u64 t852, .int .u64 t853] 24 (0, 0)) (by (with_reducible repeat (first | refine blk_drewN ?_ _ | refine blk_drew ?_ | refine blk_alloc ?_ _)); refine blk_put (cs := #[.int .u64 t850, .int .u64 t851, .int .u64 t852, .int .u64 0]) ?_ 3 _ rfl; (with_reducible repeat (first | refine blk_drewN ?_ _ | refine blk_drew ?_ | refine blk_alloc ?_ _)); refine blk_put (cs := #[.int .u64 t850, .int .u64 t851, .int .u64 0, .int .u64 0]) ?_ 2 _ rfl; (with_reducible repeat (first | refine blk_drewN ?_ _ | refine blk_drew ?_ | refine blk_alloc ?_ _)); refine blk_put (cs := #[.int .u64 t850, .int .u64 0, .int .u64 0, .int .u64 0]) ?_ 1 _ rfl; (with_reducible repeat (first | refine blk_drewN ?_ _ | refine blk_drew ?_ | refine blk_alloc ?_ _)); refine blk_put (cs := #[.int .u64 0, .int .u64 0, .int .u64 0, .int .u64 0]) ?_ 0 _ rfl; (with_reducible repeat (first | refine blk_drewN ?_ _ | refine blk_drew ?_ | refine blk_alloc ?_ _)); exact BK854.out) hb); replace HB := Kt_ HB GE854 hb; (try clear hb); (try clear hb2); (try clear hk); (try clear hi)) | ((with_reducible refine gate_dst (N := 11) rfl ?_); refine box_event ?hg (N := 11) ?hd (cs := #[.int .u64 0, .int .u64 0, .int .u64 0, .int .u64 0]) (t := 24) ?hr ?_; (case hd => rfl); (case hg => rfl); (case hr => first | (go_simp; done) | (go_simp; rfl)); intro gb859 hg w56 hbox hb; have BK859 := Aside0.mk (hbox); have GW859 := Kw_ HB hg; have GE859 := GW859; have NB835_859 := Kl_ BK835 hg; have NB859_835 := Kr_ BK835 hg; have NB836_859 := Kl_ BK836 hg; have NB859_836 := Kr_ BK836 hg; have NB837_859 := Kl_ BK837 hg; have NB859_837 := Kr_ BK837 hg; have NB844_859 := Kl_ BK844 hg; have NB859_844 := Kr_ BK844 hg; have NB849_859 := Kl_ BK849 hg; have NB859_849 := Kr_ BK849 hg; have NB854_859 := Kl_ BK854 hg; have NB859_854 := Kr_ BK854 hg; replace BK835 := Kb_ BK835 hb; replace BK836 := Kb_ BK836 hb; replace BK837 := Kb_ BK837 hb; replace BK844 := Kb_ BK844 hb; replace BK849 := Kb_ BK849 hb; replace BK854 := Kb_ BK854 hb; replace HB := Ks_ HB hb; clear hb hbox hg; have hnb57 := NB859_835.out; have hnc57 := NB835_859.out; have hnb58 := NB859_836.out; have hnc58 := NB836_859.out; have hnb59 := NB859_837.out; have hnc59 := NB837_859.out; have hnb60 := NB859_844.out; have hnc60 := NB844_859.out; have hnb61 := NB859_849.out; have hnc61 := NB849_859.out; have hnb62 := NB859_854.out; have hnc62 := NB854_859.out; have hcz63_0 : w56.cell? ⟨gb859, 0, none⟩ = some (.int .u64 0) := (blk_cell BK859.out 0).trans rfl; have hcz63_1 : w56.cell? ⟨gb859, 1, none⟩ = some (.int .u64 0) := (blk_cell BK859.out 1).trans rfl; have hcz63_2 : w56.cell? ⟨gb859, 2, none⟩ = some (.int .u64 0) := (blk_cell BK859.out 2).trans rfl; have hcz63_3 : w56.cell? ⟨gb859, 3, none⟩ = some (.int .u64 0) := (blk_cell BK859.out 3).trans rfl; have hfz63_0 := blk_frozen BK859.out 0; have hfz63_1 := blk_frozen BK859.out 1; have hfz63_2 := blk_frozen BK859.out 2; have hfz63_3 := blk_frozen BK859.out 3))
  have n0_ : Aside0 (((((w56.setCell ⟨gb859, 0, none⟩ (.int .u64 t855)).setCell ⟨gb859, 1, none⟩ (.int .u64 t856)).setCell ⟨gb859, 2, none⟩ (.int .u64 t857)).setCell ⟨gb859, 3, none⟩ (.int .u64 t858)).heap[gb835]? = some (.cells #[.int .u64 a0_0, .int .u64 a0_1, .int .u64 a0_2, .int .u64 a0_3, .int .i64 a0_4, .bool true] 28 (0, 0))) := ⟨by (repeat (first | (with_reducible first | refine blk_drewN ?_ _ | refine blk_drew ?_ | refine blk_alloc ?_ _) | refine blk_far ?_ NB835_859.out _)); exact BK835.out⟩
  have n1_ : Aside0 (((((w56.setCell ⟨gb859, 0, none⟩ (.int .u64 t855)).setCell ⟨gb859, 1, none⟩ (.int .u64 t856)).setCell ⟨gb859, 2, none⟩ (.int .u64 t857)).setCell ⟨gb859, 3, none⟩ (.int .u64 t858)).heap[gb836]? = some (.cells #[.int .u64 a1_0, .int .u64 a1_1, .int .u64 a1_2, .int .u64 a1_3, .bool a1_4] 30 (0, 0))) := ⟨by (repeat (first | (with_reducible first | refine blk_drewN ?_ _ | refine blk_drew ?_ | refine blk_alloc ?_ _) | refine blk_far ?_ NB836_859.out _)); exact BK836.out⟩
  have n2_ : Aside0 (((((w56.setCell ⟨gb859, 0, none⟩ (.int .u64 t855)).setCell ⟨gb859, 1, none⟩ (.int .u64 t856)).setCell ⟨gb859, 2, none⟩ (.int .u64 t857)).setCell ⟨gb859, 3, none⟩ (.int .u64 t858)).heap[gb837]? = some (.cells #[.int .u64 a2_0, .int .u64 a2_1, .int .u64 a2_2, .int .u64 a2_3, .bool a2_4] 30 (0, 0))) := ⟨by (repeat (first | (with_reducible first | refine blk_drewN ?_ _ | refine blk_drew ?_ | refine blk_alloc ?_ _) | refine blk_far ?_ NB837_859.out _)); exact BK837.out⟩
  have n3_ : Aside0 (((((w56.setCell ⟨gb859, 0, none⟩ (.int .u64 t855)).setCell ⟨gb859, 1, none⟩ (.int .u64 t856)).setCell ⟨gb859, 2, none⟩ (.int .u64 t857)).setCell ⟨gb859, 3, none⟩ (.int .u64 t858)).heap[gb844]? = some (.cells #[.int .u64 t839, .int .u64 t840, .int .u64 t841, .int .u64 t842, .int .i64 t843] 26 (0, 0))) := ⟨by (repeat (first | (with_reducible first | refine blk_drewN ?_ _ | refine blk_drew ?_ | refine blk_alloc ?_ _) | refine blk_far ?_ NB844_859.out _)); exact BK844.out⟩
  have n4_ : Aside0 (((((w56.setCell ⟨gb859, 0, none⟩ (.int .u64 t855)).setCell ⟨gb859, 1, none⟩ (.int .u64 t856)).setCell ⟨gb859, 2, none⟩ (.int .u64 t857)).setCell ⟨gb859, 3, none⟩ (.int .u64 t858)).heap[gb849]? = some (.cells #[.int .u64 t845, .int .u64 t846, .int .u64 t847, .int .u64 t848] 24 (0, 0))) := ⟨by (repeat (first | (with_reducible first | refine blk_drewN ?_ _ | refine blk_drew ?_ | refine blk_alloc ?_ _) | refine blk_far ?_ NB849_859.out _)); exact BK849.out⟩
  have n5_ : Aside0 (((((w56.setCell ⟨gb859, 0, none⟩ (.int .u64 t855)).setCell ⟨gb859, 1, none⟩ (.int .u64 t856)).setCell ⟨gb859, 2, none⟩ (.int .u64 t857)).setCell ⟨gb859, 3, none⟩ (.int .u64 t858)).heap[gb854]? = some (.cells #[.int .u64 t850, .int .u64 t851, .int .u64 t852, .int .u64 t853] 24 (0, 0))) := ⟨by (repeat (first | (with_reducible first | refine blk_drewN ?_ _ | refine blk_drew ?_ | refine blk_alloc ?_ _) | refine blk_far ?_ NB854_859.out _)); exact BK854.out⟩
  have n6_ : Aside0 (((((w56.setCell ⟨gb859, 0, none⟩ (.int .u64 t855)).setCell ⟨gb859, 1, none⟩ (.int .u64 t856)).setCell ⟨gb859, 2, none⟩ (.int .u64 t857)).setCell ⟨gb859, 3, none⟩ (.int .u64 t858)).heap[gb859]? = some (.cells #[.int .u64 t855, .int .u64 t856, .int .u64 t857, .int .u64 t858] 24 (0, 0))) := ⟨by (with_reducible repeat (first | refine blk_drewN ?_ _ | refine blk_drew ?_ | refine blk_alloc ?_ _)); refine blk_put (cs := #[.int .u64 t855, .int .u64 t856, .int .u64 t857, .int .u64 0]) ?_ 3 _ rfl; (with_reducible repeat (first | refine blk_drewN ?_ _ | refine blk_drew ?_ | refine blk_alloc ?_ _)); refine blk_put (cs := #[.int .u64 t855, .int .u64 t856, .int .u64 0, .int .u64 0]) ?_ 2 _ rfl; (with_reducible repeat (first | refine blk_drewN ?_ _ | refine blk_drew ?_ | refine blk_alloc ?_ _)); refine blk_put (cs := #[.int .u64 t855, .int .u64 0, .int .u64 0, .int .u64 0]) ?_ 1 _ rfl; (with_reducible repeat (first | refine blk_drewN ?_ _ | refine blk_drew ?_ | refine blk_alloc ?_ _)); refine blk_put (cs := #[.int .u64 0, .int .u64 0, .int .u64 0, .int .u64 0]) ?_ 0 _ rfl; (with_reducible repeat (first | refine blk_drewN ?_ _ | refine blk_drew ?_ | refine blk_alloc ?_ _)); exact BK859.out⟩
  have n7_ : Aside0 (Below w.heap.size w ((((w56.setCell ⟨gb859, 0, none⟩ (.int .u64 t855)).setCell ⟨gb859, 1, none⟩ (.int .u64 t856)).setCell ⟨gb859, 2, none⟩ (.int .u64 t857)).setCell ⟨gb859, 3, none⟩ (.int .u64 t858))) := ⟨by repeat (first | (with_reducible first | exact HB.out | apply below_alloc | apply pw_below_drewN | apply below_drew1 | refine below_set ?_ GE835.out | refine below_set ?_ GE836.out | refine below_set ?_ GE837.out | refine below_set ?_ GE844.out | refine below_set ?_ GE849.out | refine below_set ?_ GE854.out | refine below_set ?_ GE859.out) | exact HB.out)⟩
  (try clear BK835)
  (try clear BK836)
  (try clear BK837)
  (try clear BK844)
  (try clear BK849)
  (try clear BK854)
  (try clear BK859)
  (try clear HB)
  generalize ((((w56.setCell ⟨gb859, 0, none⟩ (.int .u64 t855)).setCell ⟨gb859, 1, none⟩ (.int .u64 t856)).setCell ⟨gb859, 2, none⟩ (.int .u64 t857)).setCell ⟨gb859, 3, none⟩ (.int .u64 t858)) = w64 at n0_ n1_ n2_ n3_ n4_ n5_ n6_ n7_ ⊢
  have BK835 := n0_
  have BK836 := n1_
  have BK837 := n2_
  have BK844 := n3_
  have BK849 := n4_
  have BK854 := n5_
  have BK859 := n6_
  have HB := n7_
  clear n0_ n1_ n2_ n3_ n4_ n5_ n6_ n7_
  replace BK835 := Kd_ BK835
  replace BK836 := Kd_ BK836
  replace BK837 := Kd_ BK837
  replace BK844 := Kd_ BK844
  replace BK849 := Kd_ BK849
  replace BK854 := Kd_ BK854
  replace BK859 := Kd_ BK859
  replace HB := Aside0.mk (below_drew1 HB.out)
  refine start_ (n := 48) (S := fun w' => w'.cell? ⟨gb844, 0, none⟩ = some (.int .u64 t839) ∧ w'.cell? ⟨gb844, 1, none⟩ = some (.int .u64 t840) ∧ w'.cell? ⟨gb844, 2, none⟩ = some (.int .u64 t841) ∧ w'.cell? ⟨gb844, 3, none⟩ = some (.int .u64 t842) ∧ w'.cell? ⟨gb844, 4, none⟩ = some (.int .i64 t843) ∧ w'.cell? ⟨gb849, 0, none⟩ = some (.int .u64 t845) ∧ w'.cell? ⟨gb849, 1, none⟩ = some (.int .u64 t846) ∧ w'.cell? ⟨gb849, 2, none⟩ = some (.int .u64 t847) ∧ w'.cell? ⟨gb849, 3, none⟩ = some (.int .u64 t848) ∧ w'.cell? ⟨gb854, 0, none⟩ = some (.int .u64 t850) ∧ w'.cell? ⟨gb854, 1, none⟩ = some (.int .u64 t851) ∧ w'.cell? ⟨gb854, 2, none⟩ = some (.int .u64 t852) ∧ w'.cell? ⟨gb854, 3, none⟩ = some (.int .u64 t853)) (ds := []) #[false, false, false, false, false, false, false, false, false, false, false, false, false, false, false, false, false, false, false, false, false, false, false, false, false, false, false, false, false, false, false, false, false, false, false, false, false, false, false, false, false, false, false, false, false, false, false, false] (by kernel_rfl) rfl rfl ⟨(blk_cell BK844.out 0).trans rfl, (blk_cell BK844.out 1).trans rfl, (blk_cell BK844.out 2).trans rfl, (blk_cell BK844.out 3).trans rfl, (blk_cell BK844.out 4).trans rfl, (blk_cell BK849.out 0).trans rfl, (blk_cell BK849.out 1).trans rfl, (blk_cell BK849.out 2).trans rfl, (blk_cell BK849.out 3).trans rfl, (blk_cell BK854.out 0).trans rfl, (blk_cell BK854.out 1).trans rfl, (blk_cell BK854.out 2).trans rfl, (blk_cell BK854.out 3).trans rfl⟩ (fun hHeld => ?_); refine with_tabW tenementlaw07_StampSeen_p3.tab9 tenementlaw07_StampSeen_p3.bits9 (fun HT_ HW_ => ?_)
  generalize w64.drew = w65 at BK835 BK836 BK837 BK844 BK849 BK854 BK859 HB hHeld ⊢
  refine pure_ (i := 0) (N := some 25) (v := ?_) (a' := ?_) #[true, false, false, false, false, false, false, false, false, false, false, false, false, false, false, false, false, false, false, false, false, false, false, false, false, false, false, false, false, false, false, false, false, false, false, false, false, false, false, false, false, false, false, false, false, false, false, false] rfl rfl (any_of HT_.out (by kernel_rfl)) (fun _ _ _ h => h) (Or.inl ⟨by rfl, ?_⟩) ?_ ?_
  rotate_left
  · intro w'
    go_simp
    with_reducible rfl
  rotate_left
  · simp only [Act.put, List.setIfInBounds_toArray, List.set_cons_zero, List.set_cons_succ, i64_w, i32_w]
    rfl
  refine pure_ (i := 1) (N := some 26) (v := ?_) (a' := ?_) #[true, true, false, false, false, false, false, false, false, false, false, false, false, false, false, false, false, false, false, false, false, false, false, false, false, false, false, false, false, false, false, false, false, false, false, false, false, false, false, false, false, false, false, false, false, false, false, false] rfl rfl (any_of HT_.out (by kernel_rfl)) (fun _ _ _ h => h) (Or.inl ⟨by rfl, ?_⟩) ?_ ?_
  rotate_left
  · intro w'
    go_simp
    with_reducible rfl
  rotate_left
  · simp only [Act.put, List.setIfInBounds_toArray, List.set_cons_zero, List.set_cons_succ, i64_w, i32_w]
    rfl
  refine pure_ (i := 3) (N := some 28) (v := ?_) (a' := ?_) #[true, true, false, true, false, false, false, false, false, false, false, false, false, false, false, false, false, false, false, false, false, false, false, false, false, false, false, false, false, false, false, false, false, false, false, false, false, false, false, false, false, false, false, false, false, false, false, false] rfl rfl (any_of HT_.out (by kernel_rfl)) (fun _ _ _ h => h) (Or.inl ⟨by rfl, ?_⟩) ?_ ?_
  rotate_left
  · intro w'
    go_simp
    with_reducible rfl
  rotate_left
  · simp only [Act.put, List.setIfInBounds_toArray, List.set_cons_zero, List.set_cons_succ, i64_w, i32_w]
    rfl
  refine take_ (i := 2) (N := some 27) (v := ?_) (a' := ?_) #[true, true, true, true, false, false, false, false, false, false, false, false, false, false, false, false, false, false, false, false, false, false, false, false, false, false, false, false, false, false, false, false, false, false, false, false, false, false, false, false, false, false, false, false, false, false, false, false] rfl rfl (take_ofW HT_.out HW_.out (by kernel_rfl)) (fun _ _ _ h => h) (Or.inl ⟨by rfl, ?_⟩) hHeld ?_ ?_
  rotate_left
  · rintro w' ⟨s0, s1, s2, s3, s4, s5, s6, s7, s8, s9, s10, s11, s12⟩
    go_simp
    with_reducible rfl
  rotate_left
  · simp only [Act.put, List.setIfInBounds_toArray, List.set_cons_zero, List.set_cons_succ, i64_w, i32_w]
    rfl
  refine take_ (i := 4) (N := some 29) (v := ?_) (a' := ?_) #[true, true, true, true, true, false, false, false, false, false, false, false, false, false, false, false, false, false, false, false, false, false, false, false, false, false, false, false, false, false, false, false, false, false, false, false, false, false, false, false, false, false, false, false, false, false, false, false] rfl rfl (take_ofW HT_.out HW_.out (by kernel_rfl)) (fun _ _ _ h => h) (Or.inl ⟨by rfl, ?_⟩) hHeld ?_ ?_
  rotate_left
  · rintro w' ⟨s0, s1, s2, s3, s4, s5, s6, s7, s8, s9, s10, s11, s12⟩
    go_simp
    with_reducible rfl
  rotate_left
  · simp only [Act.put, List.setIfInBounds_toArray, List.set_cons_zero, List.set_cons_succ, i64_w, i32_w]
    rfl
  refine one_ (i := 5) (N := some 30) #[true, true, true, true, true, true, false, false, false, false, false, false, false, false, false, false, false, false, false, false, false, false, false, false, false, false, false, false, false, false, false, false, false, false, false, false, false, false, false, false, false, false, false, false, false, false, false, false] rfl rfl (one_of HT_.out (by kernel_rfl)) (by decide) (fun K hK => ?_)
  refine goes_ Tryd.func23 (by kernel_rfl) rfl #[.agg #[.int .u64 t839, .int .u64 t840, .int .u64 t841, .int .u64 t842, .int .i64 t843], .agg #[.int .u64 t839, .int .u64 t840, .int .u64 t841, .int .u64 t842]] (by rfl) rfl rfl (by (try simp only [List.map_toArray, List.map_cons, List.map_nil]); first | done | rfl | (simp only [List.length_drop, List.length_take]; rfl)) ?_
  with_reducible refine (stamp_Seen.calls t839 t840 t841 t842 t843 t839 t840 t841 t842 true _ A10.out).mono ?_
  rintro e w66 ⟨rfl, hb⟩
  refine ⟨_, rfl, ?_⟩
  replace BK835 := Kb_ BK835 hb
  replace BK836 := Kb_ BK836 hb
  replace BK837 := Kb_ BK837 hb
  replace BK844 := Kb_ BK844 hb
  replace BK849 := Kb_ BK849 hb
  replace BK854 := Kb_ BK854 hb
  replace BK859 := Kb_ BK859 hb
  replace HB := Ks_ HB hb
  (try clear hb)
  (try clear hb2)
  (try clear hk)
  (try clear hi)
  refine hK.out _ _ ⟨(blk_cell BK844.out 0).trans rfl, (blk_cell BK844.out 1).trans rfl, (blk_cell BK844.out 2).trans rfl, (blk_cell BK844.out 3).trans rfl, (blk_cell BK844.out 4).trans rfl, (blk_cell BK849.out 0).trans rfl, (blk_cell BK849.out 1).trans rfl, (blk_cell BK849.out 2).trans rfl, (blk_cell BK849.out 3).trans rfl, (blk_cell BK854.out 0).trans rfl, (blk_cell BK854.out 1).trans rfl, (blk_cell BK854.out 2).trans rfl, (blk_cell BK854.out 3).trans rfl⟩ (fun hHeld => ?_)
  clear hK K
  refine norm_ (a' := ?_) ?_ ?_
  rotate_left
  · show Act.put _ (some 30) _ = _
    simp only [Act.put, List.setIfInBounds_toArray, List.set_cons_zero, List.set_cons_succ, i64_w, i32_w]
    rfl
  refine pure_ (i := 6) (N := some 31) (v := ?_) (a' := ?_) #[true, true, true, true, true, true, true, false, false, false, false, false, false, false, false, false, false, false, false, false, false, false, false, false, false, false, false, false, false, false, false, false, false, false, false, false, false, false, false, false, false, false, false, false, false, false, false, false] rfl rfl (any_of HT_.out (by kernel_rfl)) (fun _ _ _ h => h) (Or.inl ⟨by rfl, ?_⟩) ?_ ?_
  rotate_left
  · intro w'
    go_simp
    with_reducible rfl
  rotate_left
  · simp only [Act.put, List.setIfInBounds_toArray, List.set_cons_zero, List.set_cons_succ, i64_w, i32_w]
    rfl
  refine pure_ (i := 7) (N := some 32) (v := ?_) (a' := ?_) #[true, true, true, true, true, true, true, true, false, false, false, false, false, false, false, false, false, false, false, false, false, false, false, false, false, false, false, false, false, false, false, false, false, false, false, false, false, false, false, false, false, false, false, false, false, false, false, false] rfl rfl (any_of HT_.out (by kernel_rfl)) (fun _ _ _ h => h) (Or.inl ⟨by rfl, ?_⟩) ?_ ?_
  rotate_left
  · intro w'
    go_simp
    with_reducible rfl
  rotate_left
  · simp only [Act.put, List.setIfInBounds_toArray, List.set_cons_zero, List.set_cons_succ, i64_w, i32_w]
    rfl
  refine pure_ (i := 9) (N := some 34) (v := ?_) (a' := ?_) #[true, true, true, true, true, true, true, true, false, true, false, false, false, false, false, false, false, false, false, false, false, false, false, false, false, false, false, false, false, false, false, false, false, false, false, false, false, false, false, false, false, false, false, false, false, false, false, false] rfl rfl (any_of HT_.out (by kernel_rfl)) (fun _ _ _ h => h) (Or.inl ⟨by rfl, ?_⟩) ?_ ?_
  rotate_left
  · intro w'
    go_simp
    with_reducible rfl
  rotate_left
  · simp only [Act.put, List.setIfInBounds_toArray, List.set_cons_zero, List.set_cons_succ, i64_w, i32_w]
    rfl
  refine pure_ (i := 11) (N := some 36) (v := ?_) (a' := ?_) #[true, true, true, true, true, true, true, true, false, true, false, true, false, false, false, false, false, false, false, false, false, false, false, false, false, false, false, false, false, false, false, false, false, false, false, false, false, false, false, false, false, false, false, false, false, false, false, false] rfl rfl (any_of HT_.out (by kernel_rfl)) (fun _ _ _ h => h) (Or.inl ⟨by rfl, ?_⟩) ?_ ?_
  rotate_left
  · intro w'
    go_simp
    with_reducible rfl
  rotate_left
  · simp only [Act.put, List.setIfInBounds_toArray, List.set_cons_zero, List.set_cons_succ, i64_w, i32_w]
    rfl
  refine take_ (i := 8) (N := some 33) (v := ?_) (a' := ?_) #[true, true, true, true, true, true, true, true, true, true, false, true, false, false, false, false, false, false, false, false, false, false, false, false, false, false, false, false, false, false, false, false, false, false, false, false, false, false, false, false, false, false, false, false, false, false, false, false] rfl rfl (take_ofW HT_.out HW_.out (by kernel_rfl)) (fun _ _ _ h => h) (Or.inl ⟨by rfl, ?_⟩) hHeld ?_ ?_
  rotate_left
  · rintro w' ⟨s0, s1, s2, s3, s4, s5, s6, s7, s8, s9, s10, s11, s12⟩
    go_simp
    with_reducible rfl
  rotate_left
  · simp only [Act.put, List.setIfInBounds_toArray, List.set_cons_zero, List.set_cons_succ, i64_w, i32_w]
    rfl
  refine take_ (i := 10) (N := some 35) (v := ?_) (a' := ?_) #[true, true, true, true, true, true, true, true, true, true, true, true, false, false, false, false, false, false, false, false, false, false, false, false, false, false, false, false, false, false, false, false, false, false, false, false, false, false, false, false, false, false, false, false, false, false, false, false] rfl rfl (take_ofW HT_.out HW_.out (by kernel_rfl)) (fun _ _ _ h => h) (Or.inl ⟨by rfl, ?_⟩) hHeld ?_ ?_
  rotate_left
  · rintro w' ⟨s0, s1, s2, s3, s4, s5, s6, s7, s8, s9, s10, s11, s12⟩
    go_simp
    with_reducible rfl
  rotate_left
  · simp only [Act.put, List.setIfInBounds_toArray, List.set_cons_zero, List.set_cons_succ, i64_w, i32_w]
    rfl
  refine take_ (i := 12) (N := some 37) (v := ?_) (a' := ?_) #[true, true, true, true, true, true, true, true, true, true, true, true, true, false, false, false, false, false, false, false, false, false, false, false, false, false, false, false, false, false, false, false, false, false, false, false, false, false, false, false, false, false, false, false, false, false, false, false] rfl rfl (take_ofW HT_.out HW_.out (by kernel_rfl)) (fun _ _ _ h => h) (Or.inl ⟨by rfl, ?_⟩) hHeld ?_ ?_
  rotate_left
  · rintro w' ⟨s0, s1, s2, s3, s4, s5, s6, s7, s8, s9, s10, s11, s12⟩
    go_simp
    with_reducible rfl
  rotate_left
  · simp only [Act.put, List.setIfInBounds_toArray, List.set_cons_zero, List.set_cons_succ, i64_w, i32_w]
    rfl
  refine take_ (i := 13) (N := some 38) (v := ?_) (a' := ?_) #[true, true, true, true, true, true, true, true, true, true, true, true, true, true, false, false, false, false, false, false, false, false, false, false, false, false, false, false, false, false, false, false, false, false, false, false, false, false, false, false, false, false, false, false, false, false, false, false] rfl rfl (take_ofW HT_.out HW_.out (by kernel_rfl)) (fun _ _ _ h => h) (Or.inl ⟨by rfl, ?_⟩) hHeld ?_ ?_
  rotate_left
  · rintro w' ⟨s0, s1, s2, s3, s4, s5, s6, s7, s8, s9, s10, s11, s12⟩
    go_simp
    with_reducible rfl
  rotate_left
  · simp only [Act.put, List.setIfInBounds_toArray, List.set_cons_zero, List.set_cons_succ, i64_w, i32_w]
    rfl
  refine one_ (i := 14) (N := some 39) #[true, true, true, true, true, true, true, true, true, true, true, true, true, true, true, false, false, false, false, false, false, false, false, false, false, false, false, false, false, false, false, false, false, false, false, false, false, false, false, false, false, false, false, false, false, false, false, false] rfl rfl (one_of HT_.out (by kernel_rfl)) (by decide) (fun K hK => ?_)
  refine goes_ Tryd.func19 (by kernel_rfl) rfl #[.agg #[.int .u64 t839, .int .u64 t840, .int .u64 t841, .int .u64 t842, .int .i64 t843]] (by rfl) rfl rfl (by (try simp only [List.map_toArray, List.map_cons, List.map_nil]); first | done | rfl | (simp only [List.length_drop, List.length_take]; rfl)) ?_
  with_reducible refine (stamp_Stamp_N.calls t839 t840 t841 t842 t843 t861 _ A12.out).mono ?_
  rintro e w67 ⟨rfl, hb⟩
  refine ⟨_, rfl, ?_⟩
  replace BK835 := Kb_ BK835 hb
  replace BK836 := Kb_ BK836 hb
  replace BK837 := Kb_ BK837 hb
  replace BK844 := Kb_ BK844 hb
  replace BK849 := Kb_ BK849 hb
  replace BK854 := Kb_ BK854 hb
  replace BK859 := Kb_ BK859 hb
  replace HB := Ks_ HB hb
  (try clear hb)
  (try clear hb2)
  (try clear hk)
  (try clear hi)
  refine hK.out _ _ ⟨(blk_cell BK844.out 0).trans rfl, (blk_cell BK844.out 1).trans rfl, (blk_cell BK844.out 2).trans rfl, (blk_cell BK844.out 3).trans rfl, (blk_cell BK844.out 4).trans rfl, (blk_cell BK849.out 0).trans rfl, (blk_cell BK849.out 1).trans rfl, (blk_cell BK849.out 2).trans rfl, (blk_cell BK849.out 3).trans rfl, (blk_cell BK854.out 0).trans rfl, (blk_cell BK854.out 1).trans rfl, (blk_cell BK854.out 2).trans rfl, (blk_cell BK854.out 3).trans rfl⟩ (fun hHeld => ?_)
  clear hK K
  refine norm_ (a' := ?_) ?_ ?_
  rotate_left
  · show Act.put _ (some 39) _ = _
    simp only [Act.put, List.setIfInBounds_toArray, List.set_cons_zero, List.set_cons_succ, i64_w, i32_w]
    rfl
  refine pure_ (i := 15) (N := some 40) (v := ?_) (a' := ?_) #[true, true, true, true, true, true, true, true, true, true, true, true, true, true, true, true, false, false, false, false, false, false, false, false, false, false, false, false, false, false, false, false, false, false, false, false, false, false, false, false, false, false, false, false, false, false, false, false] rfl rfl (any_of HT_.out (by kernel_rfl)) (fun _ _ _ h => h) (Or.inl ⟨by rfl, ?_⟩) ?_ ?_
  rotate_left
  · intro w'
    go_simp
    with_reducible rfl
  rotate_left
  · simp only [Act.put, List.setIfInBounds_toArray, List.set_cons_zero, List.set_cons_succ, i64_w, i32_w]
    rfl
  refine one_ (i := 16) (N := some 41) #[true, true, true, true, true, true, true, true, true, true, true, true, true, true, true, true, true, false, false, false, false, false, false, false, false, false, false, false, false, false, false, false, false, false, false, false, false, false, false, false, false, false, false, false, false, false, false, false] rfl rfl (one_of HT_.out (by kernel_rfl)) (by decide) (fun K hK => ?_)
  refine goes_ Tryd.func33 (by kernel_rfl) rfl #[.agg #[.int .u64 t839, .int .u64 t840, .int .u64 t841, .int .u64 t842], .int .i64 t843, .int .u64 (IntKind.u64.wrap (t861 - 1))] (by rfl) rfl rfl (by (try simp only [List.map_toArray, List.map_cons, List.map_nil]); first | done | rfl | (simp only [List.length_drop, List.length_take]; rfl)) ?_
  with_reducible refine (vec_With.calls t839 t840 t841 t842 t843 (IntKind.u64.wrap (t861 - 1)) t862 t863 t864 t865 _ A13.out).mono ?_
  rintro e w68 ⟨rfl, hb⟩
  refine ⟨_, rfl, ?_⟩
  replace BK835 := Kb_ BK835 hb
  replace BK836 := Kb_ BK836 hb
  replace BK837 := Kb_ BK837 hb
  replace BK844 := Kb_ BK844 hb
  replace BK849 := Kb_ BK849 hb
  replace BK854 := Kb_ BK854 hb
  replace BK859 := Kb_ BK859 hb
  replace HB := Ks_ HB hb
  (try clear hb)
  (try clear hb2)
  (try clear hk)
  (try clear hi)
  refine hK.out _ _ ⟨(blk_cell BK844.out 0).trans rfl, (blk_cell BK844.out 1).trans rfl, (blk_cell BK844.out 2).trans rfl, (blk_cell BK844.out 3).trans rfl, (blk_cell BK844.out 4).trans rfl, (blk_cell BK849.out 0).trans rfl, (blk_cell BK849.out 1).trans rfl, (blk_cell BK849.out 2).trans rfl, (blk_cell BK849.out 3).trans rfl, (blk_cell BK854.out 0).trans rfl, (blk_cell BK854.out 1).trans rfl, (blk_cell BK854.out 2).trans rfl, (blk_cell BK854.out 3).trans rfl⟩ (fun hHeld => ?_)
  clear hK K
  refine norm_ (a' := ?_) ?_ ?_
  rotate_left
  · show Act.put _ (some 41) _ = _
    simp only [Act.put, List.setIfInBounds_toArray, List.set_cons_zero, List.set_cons_succ, i64_w, i32_w]
    rfl
  refine one_ (i := 17) (N := some 42) #[true, true, true, true, true, true, true, true, true, true, true, true, true, true, true, true, true, true, false, false, false, false, false, false, false, false, false, false, false, false, false, false, false, false, false, false, false, false, false, false, false, false, false, false, false, false, false, false] rfl rfl (one_of HT_.out (by kernel_rfl)) (by decide) (fun K hK => ?_)
  refine goes_ Tryd.func23 (by kernel_rfl) rfl #[.agg #[.int .u64 t839, .int .u64 t840, .int .u64 t841, .int .u64 t842, .int .i64 t843], .agg #[.int .u64 t862, .int .u64 t863, .int .u64 t864, .int .u64 t865]] (by rfl) rfl rfl (by (try simp only [List.map_toArray, List.map_cons, List.map_nil]); first | done | rfl | (simp only [List.length_drop, List.length_take]; rfl)) ?_
  with_reducible refine (stamp_Seen.calls t839 t840 t841 t842 t843 t862 t863 t864 t865 false _ A14.out).mono ?_
  rintro e w69 ⟨rfl, hb⟩
  refine ⟨_, rfl, ?_⟩
  replace BK835 := Kb_ BK835 hb
  replace BK836 := Kb_ BK836 hb
  replace BK837 := Kb_ BK837 hb
  replace BK844 := Kb_ BK844 hb
  replace BK849 := Kb_ BK849 hb
  replace BK854 := Kb_ BK854 hb
  replace BK859 := Kb_ BK859 hb
  replace HB := Ks_ HB hb
  (try clear hb)
  (try clear hb2)
  (try clear hk)
  (try clear hi)
  refine hK.out _ _ ⟨(blk_cell BK844.out 0).trans rfl, (blk_cell BK844.out 1).trans rfl, (blk_cell BK844.out 2).trans rfl, (blk_cell BK844.out 3).trans rfl, (blk_cell BK844.out 4).trans rfl, (blk_cell BK849.out 0).trans rfl, (blk_cell BK849.out 1).trans rfl, (blk_cell BK849.out 2).trans rfl, (blk_cell BK849.out 3).trans rfl, (blk_cell BK854.out 0).trans rfl, (blk_cell BK854.out 1).trans rfl, (blk_cell BK854.out 2).trans rfl, (blk_cell BK854.out 3).trans rfl⟩ (fun hHeld => ?_)
  clear hK K
  refine norm_ (a' := ?_) ?_ ?_
  rotate_left
  · show Act.put _ (some 42) _ = _
    simp only [Act.put, List.setIfInBounds_toArray, List.set_cons_zero, List.set_cons_succ, i64_w, i32_w]
    rfl
  refine pure_ (i := 18) (N := some 43) (v := ?_) (a' := ?_) #[true, true, true, true, true, true, true, true, true, true, true, true, true, true, true, true, true, true, true, false, false, false, false, false, false, false, false, false, false, false, false, false, false, false, false, false, false, false, false, false, false, false, false, false, false, false, false, false] rfl rfl (any_of HT_.out (by kernel_rfl)) (fun _ _ _ h => h) (Or.inl ⟨by rfl, ?_⟩) ?_ ?_
  rotate_left
  · intro w'
    go_simp
    with_reducible rfl
  rotate_left
  · simp only [Act.put, List.setIfInBounds_toArray, List.set_cons_zero, List.set_cons_succ, i64_w, i32_w]
    rfl
  refine pure_ (i := 19) (N := some 44) (v := ?_) (a' := ?_) #[true, true, true, true, true, true, true, true, true, true, true, true, true, true, true, true, true, true, true, true, false, false, false, false, false, false, false, false, false, false, false, false, false, false, false, false, false, false, false, false, false, false, false, false, false, false, false, false] rfl rfl (any_of HT_.out (by kernel_rfl)) (fun _ _ _ h => h) (Or.inl ⟨by rfl, ?_⟩) ?_ ?_
  rotate_left
  · intro w'
    go_simp
    with_reducible rfl
  rotate_left
  · simp only [Act.put, List.setIfInBounds_toArray, List.set_cons_zero, List.set_cons_succ, i64_w, i32_w]
    rfl
  refine pure_ (i := 20) (N := some 45) (v := ?_) (a' := ?_) #[true, true, true, true, true, true, true, true, true, true, true, true, true, true, true, true, true, true, true, true, true, false, false, false, false, false, false, false, false, false, false, false, false, false, false, false, false, false, false, false, false, false, false, false, false, false, false, false] rfl rfl (any_of HT_.out (by kernel_rfl)) (fun _ _ _ h => h) (Or.inl ⟨by rfl, ?_⟩) ?_ ?_
  rotate_left
  · intro w'
    go_simp
    with_reducible rfl
  rotate_left
  · simp only [Act.put, List.setIfInBounds_toArray, List.set_cons_zero, List.set_cons_succ, i64_w, i32_w]
    rfl
  refine take_ (i := 21) (N := some 46) (v := ?_) (a' := ?_) #[true, true, true, true, true, true, true, true, true, true, true, true, true, true, true, true, true, true, true, true, true, true, false, false, false, false, false, false, false, false, false, false, false, false, false, false, false, false, false, false, false, false, false, false, false, false, false, false] rfl rfl (take_ofW HT_.out HW_.out (by kernel_rfl)) (fun _ _ _ h => h) (Or.inl ⟨by rfl, ?_⟩) hHeld ?_ ?_
  rotate_left
  · rintro w' ⟨s0, s1, s2, s3, s4, s5, s6, s7, s8, s9, s10, s11, s12⟩
    go_simp
    with_reducible rfl
  rotate_left
  · simp only [Act.put, List.setIfInBounds_toArray, List.set_cons_zero, List.set_cons_succ, i64_w, i32_w]
    rfl
  refine take_ (i := 22) (N := some 47) (v := ?_) (a' := ?_) #[true, true, true, true, true, true, true, true, true, true, true, true, true, true, true, true, true, true, true, true, true, true, true, false, false, false, false, false, false, false, false, false, false, false, false, false, false, false, false, false, false, false, false, false, false, false, false, false] rfl rfl (take_ofW HT_.out HW_.out (by kernel_rfl)) (fun _ _ _ h => h) (Or.inl ⟨by rfl, ?_⟩) hHeld ?_ ?_
  rotate_left
  · rintro w' ⟨s0, s1, s2, s3, s4, s5, s6, s7, s8, s9, s10, s11, s12⟩
    go_simp
    with_reducible rfl
  rotate_left
  · simp only [Act.put, List.setIfInBounds_toArray, List.set_cons_zero, List.set_cons_succ, i64_w, i32_w]
    rfl
  refine one_ (i := 23) (N := some 48) #[true, true, true, true, true, true, true, true, true, true, true, true, true, true, true, true, true, true, true, true, true, true, true, true, false, false, false, false, false, false, false, false, false, false, false, false, false, false, false, false, false, false, false, false, false, false, false, false] rfl rfl (one_of HT_.out (by kernel_rfl)) (by decide) (fun K hK => ?_)
  refine goes_ Tryd.func23 (by kernel_rfl) rfl #[.agg #[.int .u64 t839, .int .u64 t840, .int .u64 t841, .int .u64 t842, .int .i64 t843], .agg #[.int .u64 t845, .int .u64 t846, .int .u64 t847, .int .u64 t848]] (by rfl) rfl rfl (by (try simp only [List.map_toArray, List.map_cons, List.map_nil]); first | done | rfl | (simp only [List.length_drop, List.length_take]; rfl)) ?_
  with_reducible refine (stamp_Seen.calls t839 t840 t841 t842 t843 t845 t846 t847 t848 false _ A16.out).mono ?_
  rintro e w70 ⟨rfl, hb⟩
  refine ⟨_, rfl, ?_⟩
  replace BK835 := Kb_ BK835 hb
  replace BK836 := Kb_ BK836 hb
  replace BK837 := Kb_ BK837 hb
  replace BK844 := Kb_ BK844 hb
  replace BK849 := Kb_ BK849 hb
  replace BK854 := Kb_ BK854 hb
  replace BK859 := Kb_ BK859 hb
  replace HB := Ks_ HB hb
  (try clear hb)
  (try clear hb2)
  (try clear hk)
  (try clear hi)
  refine hK.out _ _ ⟨(blk_cell BK844.out 0).trans rfl, (blk_cell BK844.out 1).trans rfl, (blk_cell BK844.out 2).trans rfl, (blk_cell BK844.out 3).trans rfl, (blk_cell BK844.out 4).trans rfl, (blk_cell BK849.out 0).trans rfl, (blk_cell BK849.out 1).trans rfl, (blk_cell BK849.out 2).trans rfl, (blk_cell BK849.out 3).trans rfl, (blk_cell BK854.out 0).trans rfl, (blk_cell BK854.out 1).trans rfl, (blk_cell BK854.out 2).trans rfl, (blk_cell BK854.out 3).trans rfl⟩ (fun hHeld => ?_)
  clear hK K
  refine norm_ (a' := ?_) ?_ ?_
  rotate_left
  · show Act.put _ (some 48) _ = _
    simp only [Act.put, List.setIfInBounds_toArray, List.set_cons_zero, List.set_cons_succ, i64_w, i32_w]
    rfl
  refine pure_ (i := 24) (N := some 49) (v := ?_) (a' := ?_) #[true, true, true, true, true, true, true, true, true, true, true, true, true, true, true, true, true, true, true, true, true, true, true, true, true, false, false, false, false, false, false, false, false, false, false, false, false, false, false, false, false, false, false, false, false, false, false, false] rfl rfl (any_of HT_.out (by kernel_rfl)) (fun _ _ _ h => h) (Or.inl ⟨by rfl, ?_⟩) ?_ ?_
  rotate_left
  · intro w'
    go_simp
    with_reducible rfl
  rotate_left
  · simp only [Act.put, List.setIfInBounds_toArray, List.set_cons_zero, List.set_cons_succ, i64_w, i32_w]
    rfl
  refine pure_ (i := 25) (N := some 50) (v := ?_) (a' := ?_) #[true, true, true, true, true, true, true, true, true, true, true, true, true, true, true, true, true, true, true, true, true, true, true, true, true, true, false, false, false, false, false, false, false, false, false, false, false, false, false, false, false, false, false, false, false, false, false, false] rfl rfl (any_of HT_.out (by kernel_rfl)) (fun _ _ _ h => h) (Or.inl ⟨by rfl, ?_⟩) ?_ ?_
  rotate_left
  · intro w'
    go_simp
    with_reducible rfl
  rotate_left
  · simp only [Act.put, List.setIfInBounds_toArray, List.set_cons_zero, List.set_cons_succ, i64_w, i32_w]
    rfl
  refine pure_ (i := 26) (N := some 51) (v := undef) (a' := ?_) #[true, true, true, true, true, true, true, true, true, true, true, true, true, true, true, true, true, true, true, true, true, true, true, true, true, true, true, false, false, false, false, false, false, false, false, false, false, false, false, false, false, false, false, false, false, false, false, false] rfl rfl (any_of HT_.out (by kernel_rfl)) (fun _ _ _ h => h) (Or.inr ⟨by rfl, rfl⟩) ?_ ?_
  rotate_left
  · simp only [Act.put, List.setIfInBounds_toArray, List.set_cons_zero, List.set_cons_succ, i64_w, i32_w]
    rfl
  refine pure_ (i := 27) (N := some 52) (v := undef) (a' := ?_) #[true, true, true, true, true, true, true, true, true, true, true, true, true, true, true, true, true, true, true, true, true, true, true, true, true, true, true, true, false, false, false, false, false, false, false, false, false, false, false, false, false, false, false, false, false, false, false, false] rfl rfl (any_of HT_.out (by kernel_rfl)) (fun _ _ _ h => h) (Or.inr ⟨by rfl, rfl⟩) ?_ ?_
  rotate_left
  · simp only [Act.put, List.setIfInBounds_toArray, List.set_cons_zero, List.set_cons_succ, i64_w, i32_w]
    rfl
  refine pure_ (i := 28) (N := some 53) (v := undef) (a' := ?_) #[true, true, true, true, true, true, true, true, true, true, true, true, true, true, true, true, true, true, true, true, true, true, true, true, true, true, true, true, true, false, false, false, false, false, false, false, false, false, false, false, false, false, false, false, false, false, false, false] rfl rfl (any_of HT_.out (by kernel_rfl)) (fun _ _ _ h => h) (Or.inr ⟨by rfl, rfl⟩) ?_ ?_
  rotate_left
  · simp only [Act.put, List.setIfInBounds_toArray, List.set_cons_zero, List.set_cons_succ, i64_w, i32_w]
    rfl
  refine pure_ (i := 29) (N := some 54) (v := ?_) (a' := ?_) #[true, true, true, true, true, true, true, true, true, true, true, true, true, true, true, true, true, true, true, true, true, true, true, true, true, true, true, true, true, true, false, false, false, false, false, false, false, false, false, false, false, false, false, false, false, false, false, false] rfl rfl (any_of HT_.out (by kernel_rfl)) (fun _ _ _ h => h) (Or.inl ⟨by rfl, ?_⟩) ?_ ?_
  rotate_left
  · intro w'
    go_simp
    with_reducible rfl
  rotate_left
  · simp only [Act.put, List.setIfInBounds_toArray, List.set_cons_zero, List.set_cons_succ, i64_w, i32_w]
    rfl
  refine pure_ (i := 30) (N := some 55) (v := ?_) (a' := ?_) #[true, true, true, true, true, true, true, true, true, true, true, true, true, true, true, true, true, true, true, true, true, true, true, true, true, true, true, true, true, true, true, false, false, false, false, false, false, false, false, false, false, false, false, false, false, false, false, false] rfl rfl (any_of HT_.out (by kernel_rfl)) (fun _ _ _ h => h) (Or.inl ⟨by rfl, ?_⟩) ?_ ?_
  rotate_left
  · intro w'
    go_simp
    with_reducible rfl
  rotate_left
  · simp only [Act.put, List.setIfInBounds_toArray, List.set_cons_zero, List.set_cons_succ, i64_w, i32_w]
    rfl
  refine pure_ (i := 31) (N := some 56) (v := ?_) (a' := ?_) #[true, true, true, true, true, true, true, true, true, true, true, true, true, true, true, true, true, true, true, true, true, true, true, true, true, true, true, true, true, true, true, true, false, false, false, false, false, false, false, false, false, false, false, false, false, false, false, false] rfl rfl (any_of HT_.out (by kernel_rfl)) (fun _ _ _ h => h) (Or.inl ⟨by rfl, ?_⟩) ?_ ?_
  rotate_left
  · intro w'
    go_simp
    with_reducible rfl
  rotate_left
  · simp only [Act.put, List.setIfInBounds_toArray, List.set_cons_zero, List.set_cons_succ, i64_w, i32_w]
    rfl
  refine take_ (i := 32) (N := some 57) (v := ?_) (a' := ?_) #[true, true, true, true, true, true, true, true, true, true, true, true, true, true, true, true, true, true, true, true, true, true, true, true, true, true, true, true, true, true, true, true, true, false, false, false, false, false, false, false, false, false, false, false, false, false, false, false] rfl rfl (take_ofW HT_.out HW_.out (by kernel_rfl)) (fun _ _ _ h => h) (Or.inl ⟨by rfl, ?_⟩) hHeld ?_ ?_
  rotate_left
  · rintro w' ⟨s0, s1, s2, s3, s4, s5, s6, s7, s8, s9, s10, s11, s12⟩
    go_simp
    with_reducible rfl
  rotate_left
  · simp only [Act.put, List.setIfInBounds_toArray, List.set_cons_zero, List.set_cons_succ, i64_w, i32_w]
    rfl
  refine take_ (i := 33) (N := some 58) (v := ?_) (a' := ?_) #[true, true, true, true, true, true, true, true, true, true, true, true, true, true, true, true, true, true, true, true, true, true, true, true, true, true, true, true, true, true, true, true, true, true, false, false, false, false, false, false, false, false, false, false, false, false, false, false] rfl rfl (take_ofW HT_.out HW_.out (by kernel_rfl)) (fun _ _ _ h => h) (Or.inl ⟨by rfl, ?_⟩) hHeld ?_ ?_
  rotate_left
  · rintro w' ⟨s0, s1, s2, s3, s4, s5, s6, s7, s8, s9, s10, s11, s12⟩
    go_simp
    with_reducible rfl
  rotate_left
  · simp only [Act.put, List.setIfInBounds_toArray, List.set_cons_zero, List.set_cons_succ, i64_w, i32_w]
    rfl
  refine take_ (i := 34) (N := some 59) (v := ?_) (a' := ?_) #[true, true, true, true, true, true, true, true, true, true, true, true, true, true, true, true, true, true, true, true, true, true, true, true, true, true, true, true, true, true, true, true, true, true, true, false, false, false, false, false, false, false, false, false, false, false, false, false] rfl rfl (take_ofW HT_.out HW_.out (by kernel_rfl)) (fun _ _ _ h => h) (Or.inl ⟨by rfl, ?_⟩) hHeld ?_ ?_
  rotate_left
  · rintro w' ⟨s0, s1, s2, s3, s4, s5, s6, s7, s8, s9, s10, s11, s12⟩
    go_simp
    with_reducible rfl
  rotate_left
  · simp only [Act.put, List.setIfInBounds_toArray, List.set_cons_zero, List.set_cons_succ, i64_w, i32_w]
    rfl
  refine take_ (i := 37) (N := some 62) (v := ?_) (a' := ?_) #[true, true, true, true, true, true, true, true, true, true, true, true, true, true, true, true, true, true, true, true, true, true, true, true, true, true, true, true, true, true, true, true, true, true, true, false, false, true, false, false, false, false, false, false, false, false, false, false] rfl rfl (take_ofW HT_.out HW_.out (by kernel_rfl)) (fun _ _ _ h => h) (Or.inl ⟨by rfl, ?_⟩) hHeld ?_ ?_
  rotate_left
  · rintro w' ⟨s0, s1, s2, s3, s4, s5, s6, s7, s8, s9, s10, s11, s12⟩
    go_simp
    with_reducible rfl
  rotate_left
  · simp only [Act.put, List.setIfInBounds_toArray, List.set_cons_zero, List.set_cons_succ, i64_w, i32_w]
    rfl
  refine take_ (i := 38) (N := some 63) (v := ?_) (a' := ?_) #[true, true, true, true, true, true, true, true, true, true, true, true, true, true, true, true, true, true, true, true, true, true, true, true, true, true, true, true, true, true, true, true, true, true, true, false, false, true, true, false, false, false, false, false, false, false, false, false] rfl rfl (take_ofW HT_.out HW_.out (by kernel_rfl)) (fun _ _ _ h => h) (Or.inl ⟨by rfl, ?_⟩) hHeld ?_ ?_
  rotate_left
  · rintro w' ⟨s0, s1, s2, s3, s4, s5, s6, s7, s8, s9, s10, s11, s12⟩
    go_simp
    with_reducible rfl
  rotate_left
  · simp only [Act.put, List.setIfInBounds_toArray, List.set_cons_zero, List.set_cons_succ, i64_w, i32_w]
    rfl
  refine one_ (i := 35) (N := some 60) #[true, true, true, true, true, true, true, true, true, true, true, true, true, true, true, true, true, true, true, true, true, true, true, true, true, true, true, true, true, true, true, true, true, true, true, true, false, true, true, false, false, false, false, false, false, false, false, false] rfl rfl (one_of HT_.out (by kernel_rfl)) (by decide) (fun K hK => ?_)
  refine goes_ Tryd.func34 (by kernel_rfl) rfl #[.agg #[.int .u64 t845, .int .u64 t846, .int .u64 t847, .int .u64 t848], .agg #[.int .u64 t850, .int .u64 t851, .int .u64 t852, .int .u64 t853]] (by rfl) rfl rfl (by (try simp only [List.map_toArray, List.map_cons, List.map_nil]); first | done | rfl | (simp only [List.length_drop, List.length_take]; rfl)) ?_
  with_reducible refine (vec_Meet.calls t845 t846 t847 t848 t850 t851 t852 t853 t876 t877 t878 t879 _ A18.out).mono ?_
  rintro e w71 ⟨rfl, hb⟩
  refine ⟨_, rfl, ?_⟩
  replace BK835 := Kb_ BK835 hb
  replace BK836 := Kb_ BK836 hb
  replace BK837 := Kb_ BK837 hb
  replace BK844 := Kb_ BK844 hb
  replace BK849 := Kb_ BK849 hb
  replace BK854 := Kb_ BK854 hb
  replace BK859 := Kb_ BK859 hb
  replace HB := Ks_ HB hb
  (try clear hb)
  (try clear hb2)
  (try clear hk)
  (try clear hi)
  refine hK.out _ _ ⟨(blk_cell BK844.out 0).trans rfl, (blk_cell BK844.out 1).trans rfl, (blk_cell BK844.out 2).trans rfl, (blk_cell BK844.out 3).trans rfl, (blk_cell BK844.out 4).trans rfl, (blk_cell BK849.out 0).trans rfl, (blk_cell BK849.out 1).trans rfl, (blk_cell BK849.out 2).trans rfl, (blk_cell BK849.out 3).trans rfl, (blk_cell BK854.out 0).trans rfl, (blk_cell BK854.out 1).trans rfl, (blk_cell BK854.out 2).trans rfl, (blk_cell BK854.out 3).trans rfl⟩ (fun hHeld => ?_)
  clear hK K
  refine norm_ (a' := ?_) ?_ ?_
  rotate_left
  · show Act.put _ (some 60) _ = _
    simp only [Act.put, List.setIfInBounds_toArray, List.set_cons_zero, List.set_cons_succ, i64_w, i32_w]
    rfl
  refine one_ (i := 36) (N := some 61) #[true, true, true, true, true, true, true, true, true, true, true, true, true, true, true, true, true, true, true, true, true, true, true, true, true, true, true, true, true, true, true, true, true, true, true, true, true, true, true, false, false, false, false, false, false, false, false, false] rfl rfl (one_of HT_.out (by kernel_rfl)) (by decide) (fun K hK => ?_)
  refine goes_ Tryd.func23 (by kernel_rfl) rfl #[.agg #[.int .u64 t839, .int .u64 t840, .int .u64 t841, .int .u64 t842, .int .i64 t843], .agg #[.int .u64 t876, .int .u64 t877, .int .u64 t878, .int .u64 t879]] (by rfl) rfl rfl (by (try simp only [List.map_toArray, List.map_cons, List.map_nil]); first | done | rfl | (simp only [List.length_drop, List.length_take]; rfl)) ?_
  with_reducible refine (stamp_Seen.calls t839 t840 t841 t842 t843 t876 t877 t878 t879 false _ A19.out).mono ?_
  rintro e w72 ⟨rfl, hb⟩
  refine ⟨_, rfl, ?_⟩
  replace BK835 := Kb_ BK835 hb
  replace BK836 := Kb_ BK836 hb
  replace BK837 := Kb_ BK837 hb
  replace BK844 := Kb_ BK844 hb
  replace BK849 := Kb_ BK849 hb
  replace BK854 := Kb_ BK854 hb
  replace BK859 := Kb_ BK859 hb
  replace HB := Ks_ HB hb
  (try clear hb)
  (try clear hb2)
  (try clear hk)
  (try clear hi)
  refine hK.out _ _ ⟨(blk_cell BK844.out 0).trans rfl, (blk_cell BK844.out 1).trans rfl, (blk_cell BK844.out 2).trans rfl, (blk_cell BK844.out 3).trans rfl, (blk_cell BK844.out 4).trans rfl, (blk_cell BK849.out 0).trans rfl, (blk_cell BK849.out 1).trans rfl, (blk_cell BK849.out 2).trans rfl, (blk_cell BK849.out 3).trans rfl, (blk_cell BK854.out 0).trans rfl, (blk_cell BK854.out 1).trans rfl, (blk_cell BK854.out 2).trans rfl, (blk_cell BK854.out 3).trans rfl⟩ (fun hHeld => ?_)
  clear hK K
  refine norm_ (a' := ?_) ?_ ?_
  rotate_left
  · show Act.put _ (some 61) _ = _
    simp only [Act.put, List.setIfInBounds_toArray, List.set_cons_zero, List.set_cons_succ, i64_w, i32_w]
    rfl
  refine one_ (i := 39) (N := some 64) #[true, true, true, true, true, true, true, true, true, true, true, true, true, true, true, true, true, true, true, true, true, true, true, true, true, true, true, true, true, true, true, true, true, true, true, true, true, true, true, true, false, false, false, false, false, false, false, false] rfl rfl (one_of HT_.out (by kernel_rfl)) (by decide) (fun K hK => ?_)
  refine goes_ Tryd.func23 (by kernel_rfl) rfl #[.agg #[.int .u64 t839, .int .u64 t840, .int .u64 t841, .int .u64 t842, .int .i64 t843], .agg #[.int .u64 t845, .int .u64 t846, .int .u64 t847, .int .u64 t848]] (by rfl) rfl rfl (by (try simp only [List.map_toArray, List.map_cons, List.map_nil]); first | done | rfl | (simp only [List.length_drop, List.length_take]; rfl)) ?_
  with_reducible refine (stamp_Seen.calls t839 t840 t841 t842 t843 t845 t846 t847 t848 false _ A20.out).mono ?_
  rintro e w73 ⟨rfl, hb⟩
  refine ⟨_, rfl, ?_⟩
  replace BK835 := Kb_ BK835 hb
  replace BK836 := Kb_ BK836 hb
  replace BK837 := Kb_ BK837 hb
  replace BK844 := Kb_ BK844 hb
  replace BK849 := Kb_ BK849 hb
  replace BK854 := Kb_ BK854 hb
  replace BK859 := Kb_ BK859 hb
  replace HB := Ks_ HB hb
  (try clear hb)
  (try clear hb2)
  (try clear hk)
  (try clear hi)
  refine hK.out _ _ ⟨(blk_cell BK844.out 0).trans rfl, (blk_cell BK844.out 1).trans rfl, (blk_cell BK844.out 2).trans rfl, (blk_cell BK844.out 3).trans rfl, (blk_cell BK844.out 4).trans rfl, (blk_cell BK849.out 0).trans rfl, (blk_cell BK849.out 1).trans rfl, (blk_cell BK849.out 2).trans rfl, (blk_cell BK849.out 3).trans rfl, (blk_cell BK854.out 0).trans rfl, (blk_cell BK854.out 1).trans rfl, (blk_cell BK854.out 2).trans rfl, (blk_cell BK854.out 3).trans rfl⟩ (fun hHeld => ?_)
  clear hK K
  refine norm_ (a' := ?_) ?_ ?_
  rotate_left
  · show Act.put _ (some 64) _ = _
    simp only [Act.put, List.setIfInBounds_toArray, List.set_cons_zero, List.set_cons_succ, i64_w, i32_w]
    rfl
  refine pure_ (i := 40) (N := some 65) (v := ?_) (a' := ?_) #[true, true, true, true, true, true, true, true, true, true, true, true, true, true, true, true, true, true, true, true, true, true, true, true, true, true, true, true, true, true, true, true, true, true, true, true, true, true, true, true, true, false, false, false, false, false, false, false] rfl rfl (any_of HT_.out (by kernel_rfl)) (fun _ _ _ h => h) (Or.inl ⟨by rfl, ?_⟩) ?_ ?_
  rotate_left
  · intro w'
    go_simp
    with_reducible rfl
  rotate_left
  · simp only [Act.put, List.setIfInBounds_toArray, List.set_cons_zero, List.set_cons_succ, i64_w, i32_w]
    rfl
  refine pure_ (i := 41) (N := some 66) (v := undef) (a' := ?_) #[true, true, true, true, true, true, true, true, true, true, true, true, true, true, true, true, true, true, true, true, true, true, true, true, true, true, true, true, true, true, true, true, true, true, true, true, true, true, true, true, true, true, false, false, false, false, false, false] rfl rfl (any_of HT_.out (by kernel_rfl)) (fun _ _ _ h => h) (Or.inr ⟨by rfl, rfl⟩) ?_ ?_
  rotate_left
  · simp only [Act.put, List.setIfInBounds_toArray, List.set_cons_zero, List.set_cons_succ, i64_w, i32_w]
    rfl
  refine pure_ (i := 42) (N := some 67) (v := undef) (a' := ?_) #[true, true, true, true, true, true, true, true, true, true, true, true, true, true, true, true, true, true, true, true, true, true, true, true, true, true, true, true, true, true, true, true, true, true, true, true, true, true, true, true, true, true, true, false, false, false, false, false] rfl rfl (any_of HT_.out (by kernel_rfl)) (fun _ _ _ h => h) (Or.inr ⟨by rfl, rfl⟩) ?_ ?_
  rotate_left
  · simp only [Act.put, List.setIfInBounds_toArray, List.set_cons_zero, List.set_cons_succ, i64_w, i32_w]
    rfl
  refine pure_ (i := 43) (N := some 68) (v := undef) (a' := ?_) #[true, true, true, true, true, true, true, true, true, true, true, true, true, true, true, true, true, true, true, true, true, true, true, true, true, true, true, true, true, true, true, true, true, true, true, true, true, true, true, true, true, true, true, true, false, false, false, false] rfl rfl (any_of HT_.out (by kernel_rfl)) (fun _ _ _ h => h) (Or.inr ⟨by rfl, rfl⟩) ?_ ?_
  rotate_left
  · simp only [Act.put, List.setIfInBounds_toArray, List.set_cons_zero, List.set_cons_succ, i64_w, i32_w]
    rfl
  refine pure_ (i := 44) (N := some 69) (v := ?_) (a' := ?_) #[true, true, true, true, true, true, true, true, true, true, true, true, true, true, true, true, true, true, true, true, true, true, true, true, true, true, true, true, true, true, true, true, true, true, true, true, true, true, true, true, true, true, true, true, true, false, false, false] rfl rfl (any_of HT_.out (by kernel_rfl)) (fun _ _ _ h => h) (Or.inl ⟨by rfl, ?_⟩) ?_ ?_
  rotate_left
  · intro w'
    go_simp
    with_reducible rfl
  rotate_left
  · simp only [Act.put, List.setIfInBounds_toArray, List.set_cons_zero, List.set_cons_succ, i64_w, i32_w]
    rfl
  refine pure_ (i := 45) (N := some 70) (v := ?_) (a' := ?_) #[true, true, true, true, true, true, true, true, true, true, true, true, true, true, true, true, true, true, true, true, true, true, true, true, true, true, true, true, true, true, true, true, true, true, true, true, true, true, true, true, true, true, true, true, true, true, false, false] rfl rfl (any_of HT_.out (by kernel_rfl)) (fun _ _ _ h => h) (Or.inl ⟨by rfl, ?_⟩) ?_ ?_
  rotate_left
  · intro w'
    go_simp
    with_reducible rfl
  rotate_left
  · simp only [Act.put, List.setIfInBounds_toArray, List.set_cons_zero, List.set_cons_succ, i64_w, i32_w]
    rfl
  refine pure_ (i := 46) (N := some 71) (v := ?_) (a' := ?_) #[true, true, true, true, true, true, true, true, true, true, true, true, true, true, true, true, true, true, true, true, true, true, true, true, true, true, true, true, true, true, true, true, true, true, true, true, true, true, true, true, true, true, true, true, true, true, true, false] rfl rfl (any_of HT_.out (by kernel_rfl)) (fun _ _ _ h => h) (Or.inl ⟨by rfl, ?_⟩) ?_ ?_
  rotate_left
  · intro w'
    go_simp
    with_reducible rfl
  rotate_left
  · simp only [Act.put, List.setIfInBounds_toArray, List.set_cons_zero, List.set_cons_succ, i64_w, i32_w]
    rfl
  refine pure_ (i := 47) (N := some 6) (v := ?_) (a' := ?_) #[true, true, true, true, true, true, true, true, true, true, true, true, true, true, true, true, true, true, true, true, true, true, true, true, true, true, true, true, true, true, true, true, true, true, true, true, true, true, true, true, true, true, true, true, true, true, true, true] rfl rfl (any_of HT_.out (by kernel_rfl)) (fun _ _ _ h => h) (Or.inl ⟨by rfl, ?_⟩) ?_ ?_
  rotate_left
  · intro w'
    go_simp
    with_reducible rfl
  rotate_left
  · simp only [Act.put, List.setIfInBounds_toArray, List.set_cons_zero, List.set_cons_succ, i64_w, i32_w]
    rfl
  refine done_ (done_of HT_.out (by kernel_rfl)) ?_
  try go_wp2
  go_ret
  exact ⟨by first | rfl | (simp [errW_none, errW_some] <;> rfl) | (simp [*, errW_none, errW_some] <;> rfl), by repeat (first | (with_reducible first | exact HB.out | apply below_alloc | apply pw_below_drewN | apply below_drew1 | refine below_set ?_ GE835.out | refine below_set ?_ GE836.out | refine below_set ?_ GE837.out | refine below_set ?_ GE844.out | refine below_set ?_ GE849.out | refine below_set ?_ GE854.out | refine below_set ?_ GE859.out) | exact HB.out)⟩

end Go.Proofs.YtdlagefpglhdoaaDoor.Q
