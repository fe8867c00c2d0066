import Derived.Test.YtdlagefpglhdoaaDoorQx0
import Derived.Test.YtdlagefpglhdoaaDoorGStampSeen0
import Derived.Test.YtdlagefpglhdoaaDoorGStampSeen5
import Derived.Test.YtdlagefpglhdoaaDoorGStampSeen7
import Derived.Test.YtdlagefpglhdoaaDoorGStampSeen2
-- Written by this session's own driver (wip/hybrid.py) of the kit's printer; contracts marked FOREIGN are by hand.
namespace Go.Proofs.YtdlagefpglhdoaaDoor.Q
open Go.RowKit Go.Proofs.YtdlagefpglhdoaaDoorW.PrintWords Go.Proofs.YtdlagefpglhdoaaDoorW.PrintLast Go.Proofs.YtdlagefpglhdoaaDoorW.PrintMore
attribute [local go_sem] max2_int min2_int max_two min_two max_three min_three max_four min_four   -- for this text's walks alone
set_option linter.unusedVariables false
set_option linter.unusedSimpArgs false

/-! ### tenementlaw07_StampSeen_p0: function 8 -/
def tenementlaw07_StampSeen_p0.f (k : Nat) (a0_0 : Int) (a0_1 : Int) (a0_2 : Int) (a0_3 : Int) (a0_4 : Int) (a0_5 : Bool) (a1_0 : Int) (a1_1 : Int) (a1_2 : Int) (a1_3 : Int) (a1_4 : Bool) (a2_0 : Int) (a2_1 : Int) (a2_2 : Int) (a2_3 : Int) (a2_4 : Bool) : Option (Bool) := (tenementlaw07_examples.f k).bind fun t694 => (if t694 = true then ((tenementlaw07_Mark_mark.f k a0_0 a0_1 a0_2 a0_3 a0_4 true).bind fun bt695 => ((tenementlaw07_Vector_vector.f k a1_0 a1_1 a1_2 a1_3 a1_4).bind fun bt701 => ((tenementlaw07_Vector_vector.f k a2_0 a2_1 a2_2 a2_3 a2_4).bind fun bt706 => ((vec_Join.f bt701.1 bt701.2.1 bt701.2.2.1 bt701.2.2.2 bt706.1 bt706.2.1 bt706.2.2.1 bt706.2.2.2).bind fun bt711 => ((stamp_Seen.f bt695.1 bt695.2.1 bt695.2.2.1 bt695.2.2.2.1 bt695.2.2.2.2 bt695.1 bt695.2.1 bt695.2.2.1 bt695.2.2.2.1).bind fun t716 => (if t716 = true then ((stamp_Stamp_N.f bt695.1 bt695.2.1 bt695.2.2.1 bt695.2.2.2.1 bt695.2.2.2.2).bind fun t717 => ((vec_With.f bt695.1 bt695.2.1 bt695.2.2.1 bt695.2.2.2.1 bt695.2.2.2.2 (IntKind.u64.wrap (t717 - 1))).bind fun bt718 => ((stamp_Seen.f bt695.1 bt695.2.1 bt695.2.2.1 bt695.2.2.2.1 bt695.2.2.2.2 bt718.1 bt718.2.1 bt718.2.2.1 bt718.2.2.2).bind fun t722 => (if t722 = true then (none) else ((stamp_Seen.f bt695.1 bt695.2.1 bt695.2.2.1 bt695.2.2.2.1 bt695.2.2.2.2 bt701.1 bt701.2.1 bt701.2.2.1 bt701.2.2.2).bind fun t723 => (if t723 = true then ((stamp_Seen.f bt695.1 bt695.2.1 bt695.2.2.1 bt695.2.2.2.1 bt695.2.2.2.2 bt711.1 bt711.2.1 bt711.2.2.1 bt711.2.2.2).bind fun t724 => (if t724 = true then ((vec_Meet.f bt701.1 bt701.2.1 bt701.2.2.1 bt701.2.2.2 bt706.1 bt706.2.1 bt706.2.2.1 bt706.2.2.2).bind fun bt725 => ((stamp_Seen.f bt695.1 bt695.2.1 bt695.2.2.1 bt695.2.2.2.1 bt695.2.2.2.2 bt725.1 bt725.2.1 bt725.2.2.1 bt725.2.2.2).bind fun t729 => ((stamp_Seen.f bt695.1 bt695.2.1 bt695.2.2.1 bt695.2.2.2.1 bt695.2.2.2.2 bt701.1 bt701.2.1 bt701.2.2.1 bt701.2.2.2).bind fun t730 => (if t730 = true then ((stamp_Seen.f bt695.1 bt695.2.1 bt695.2.2.1 bt695.2.2.2.1 bt695.2.2.2.2 bt706.1 bt706.2.1 bt706.2.2.1 bt706.2.2.2).bind fun t731 => (if t729 = t731 then (some true) else (none))) else (none))))) else (none))) else (none))))))) else (none))))))) else (none))
theorem tenementlaw07_StampSeen_p0.mono : ∀ a0 a1 a2 a3 a4 a5 a6 a7 a8 a9 a10 a11 a12 a13 a14 a15 k, LeO (tenementlaw07_StampSeen_p0.f k a0 a1 a2 a3 a4 a5 a6 a7 a8 a9 a10 a11 a12 a13 a14 a15) (tenementlaw07_StampSeen_p0.f (k + 1) a0 a1 a2 a3 a4 a5 a6 a7 a8 a9 a10 a11 a12 a13 a14 a15) := by
  intro a0 a1 a2 a3 a4 a5 a6 a7 a8 a9 a10 a11 a12 a13 a14 a15 k
  unfold tenementlaw07_StampSeen_p0.f
  repeat' first
      | (with_reducible exact tenementlaw07_Mark_mark.mono _ _ _ _ _ _ _)
      | (with_reducible exact tenementlaw07_Vector_vector.mono _ _ _ _ _ _)
      | (with_reducible exact tenementlaw07_examples.mono _)
      | (with_reducible exact LeO.refl _)
      | (with_reducible exact LeO.none _)
      | (with_reducible refine LeO.ite ?_ ?_)
      | (with_reducible refine LeO.bind ?_ (fun _ => ?_))
      | exact tenementlaw07_Mark_mark.mono _ _ _ _ _ _ _
      | exact tenementlaw07_Vector_vector.mono _ _ _ _ _ _
      | exact tenementlaw07_examples.mono _
      | exact LeO.none _
      | refine LeO.ite ?_ ?_
      | refine LeO.bind ?_ (fun _ => ?_)
def tenementlaw07_StampSeen_p0.T9 : Bool × List (List Nat × List Nat) := (true, [([], []), ([0], [0]), ([1], [1]), ([1], [1]), ([3, 1], [1, 3]), ([2, 4, 1, 1], [1, 2, 4]), ([1, 5], [1, 5]), ([6, 5], [6]), ([7], [7]), ([7], [7]), ([9, 7], [7, 9]), ([7], [7]), ([11, 7], [7, 11]), ([7], [7]), ([13, 7, 7], [7, 13]), ([14, 7], [7, 14]), ([10, 12, 15, 14, 7], [7, 10, 12, 15]), ([8, 16, 16, 7], [7, 8, 16]), ([17, 7], [7, 17]), ([7, 18], [7, 18]), ([19, 17], [19]), ([20], [20]), ([20], [20]), ([21, 22, 20, 20], [20, 21, 22]), ([23, 20], [20, 23]), ([24, 23, 20], [20, 24]), ([25], [25]), ([25], [25]), ([26, 27, 25, 25], [25, 26, 27]), ([25, 28, 20], [20, 25, 28]), ([20, 29], [20, 29]), ([30, 28], [30]), ([31], [31]), ([31], [31]), ([31], [31]), ([33, 34, 31, 31], [31, 33, 34]), ([32, 35, 35, 31], [31, 32, 35]), ([31], [31]), ([31], [31]), ([37, 38, 36, 31], [31, 37, 38]), ([39, 39, 31], [31, 39]), ([40], [40]), ([40], [40]), ([41, 42, 40, 40], [40, 41, 42]), ([40, 43, 31], [31, 40, 43]), ([36, 44, 31], [31, 36, 44]), ([31, 45], [31, 45]), ([46, 43, 0, 1, 2, 3, 4, 5, 6, 7, 8, 9, 10, 11, 12, 13, 14, 15, 16, 17, 18, 19, 20, 21, 22, 23, 24, 25, 26, 27, 28, 29, 30, 31, 32, 33, 34, 35, 36, 37, 38, 39, 40, 41, 42, 43, 44, 45, 46], [46])])
def tenementlaw07_StampSeen_p0.B9 : List Nat := [0, 1, 3, 3, 11, 31, 63, 127, 255, 255, 767, 255, 2303, 255, 8447, 24831, 65279, 131071, 262143, 524287, 1048575, 2097151, 2097151, 8388607, 16777215, 33554431, 67108863, 67108863, 268435455, 536870911, 1073741823, 2147483647, 4294967295, 4294967295, 4294967295, 30064771071, 68719476735, 4294967295, 4294967295, 549755813887, 1099511627775, 2199023255551, 2199023255551, 8796093022207, 17592186044415, 35184372088831, 70368744177663, 140737488355327]
theorem tenementlaw07_StampSeen_p0.tab9 : rtab .any (opsOf Tryd.f8 9) = tenementlaw07_StampSeen_p0.T9 := by kernel_rfl
theorem tenementlaw07_StampSeen_p0.bits9 : waitsOk tenementlaw07_StampSeen_p0.T9.2 tenementlaw07_StampSeen_p0.B9 = true := by kernel_rfl
set_option maxHeartbeats 8000000 in
set_option maxRecDepth 100000 in
theorem tenementlaw07_StampSeen_p0.calls (k : Nat) (a0_0 : Int) (a0_1 : Int) (a0_2 : Int) (a0_3 : Int) (a0_4 : Int) (a0_5 : Bool) (a1_0 : Int) (a1_1 : Int) (a1_2 : Int) (a1_3 : Int) (a1_4 : Bool) (a2_0 : Int) (a2_1 : Int) (a2_2 : Int) (a2_3 : Int) (a2_4 : Bool) (r : Bool) (w : World) (h : tenementlaw07_StampSeen_p0.f k a0_0 a0_1 a0_2 a0_3 a0_4 a0_5 a1_0 a1_1 a1_2 a1_3 a1_4 a2_0 a2_1 a2_2 a2_3 a2_4 = some r) :
    Calls Tryd.prog 8 #[.agg #[.int .u64 a0_0, .int .u64 a0_1, .int .u64 a0_2, .int .u64 a0_3, .int .i64 a0_4, .bool a0_5], .agg #[.int .u64 a1_0, .int .u64 a1_1, .int .u64 a1_2, .int .u64 a1_3, .bool a1_4], .agg #[.int .u64 a2_0, .int .u64 a2_1, .int .u64 a2_2, .int .u64 a2_3, .bool a2_4]] w fun e w' => e = .returned (.bool r) ∧ Below w.heap.size w w' := by
  have hu28 := Tryd.underlying28
  have hu30 := Tryd.underlying30
  have hu26 := Tryd.underlying26
  have hu24 := Tryd.underlying24
  have HB := Aside0.mk (Below.refl w.heap.size w)
  have H : ((tenementlaw07_examples.f k).bind fun t694 => (if t694 = true then ((tenementlaw07_Mark_mark.f k a0_0 a0_1 a0_2 a0_3 a0_4 true).bind fun bt695 => ((tenementlaw07_Vector_vector.f k a1_0 a1_1 a1_2 a1_3 a1_4).bind fun bt701 => ((tenementlaw07_Vector_vector.f k a2_0 a2_1 a2_2 a2_3 a2_4).bind fun bt706 => ((vec_Join.f bt701.1 bt701.2.1 bt701.2.2.1 bt701.2.2.2 bt706.1 bt706.2.1 bt706.2.2.1 bt706.2.2.2).bind fun bt711 => ((stamp_Seen.f bt695.1 bt695.2.1 bt695.2.2.1 bt695.2.2.2.1 bt695.2.2.2.2 bt695.1 bt695.2.1 bt695.2.2.1 bt695.2.2.2.1).bind fun t716 => (if t716 = true then ((stamp_Stamp_N.f bt695.1 bt695.2.1 bt695.2.2.1 bt695.2.2.2.1 bt695.2.2.2.2).bind fun t717 => ((vec_With.f bt695.1 bt695.2.1 bt695.2.2.1 bt695.2.2.2.1 bt695.2.2.2.2 (IntKind.u64.wrap (t717 - 1))).bind fun bt718 => ((stamp_Seen.f bt695.1 bt695.2.1 bt695.2.2.1 bt695.2.2.2.1 bt695.2.2.2.2 bt718.1 bt718.2.1 bt718.2.2.1 bt718.2.2.2).bind fun t722 => (if t722 = true then (none) else ((stamp_Seen.f bt695.1 bt695.2.1 bt695.2.2.1 bt695.2.2.2.1 bt695.2.2.2.2 bt701.1 bt701.2.1 bt701.2.2.1 bt701.2.2.2).bind fun t723 => (if t723 = true then ((stamp_Seen.f bt695.1 bt695.2.1 bt695.2.2.1 bt695.2.2.2.1 bt695.2.2.2.2 bt711.1 bt711.2.1 bt711.2.2.1 bt711.2.2.2).bind fun t724 => (if t724 = true then ((vec_Meet.f bt701.1 bt701.2.1 bt701.2.2.1 bt701.2.2.2 bt706.1 bt706.2.1 bt706.2.2.1 bt706.2.2.2).bind fun bt725 => ((stamp_Seen.f bt695.1 bt695.2.1 bt695.2.2.1 bt695.2.2.2.1 bt695.2.2.2.2 bt725.1 bt725.2.1 bt725.2.2.1 bt725.2.2.2).bind fun t729 => ((stamp_Seen.f bt695.1 bt695.2.1 bt695.2.2.1 bt695.2.2.2.1 bt695.2.2.2.2 bt701.1 bt701.2.1 bt701.2.2.1 bt701.2.2.2).bind fun t730 => (if t730 = true then ((stamp_Seen.f bt695.1 bt695.2.1 bt695.2.2.1 bt695.2.2.2.1 bt695.2.2.2.2 bt706.1 bt706.2.1 bt706.2.2.1 bt706.2.2.2).bind fun t731 => (if t729 = t731 then (some true) else (none))) else (none))))) else (none))) else (none))))))) else (none))))))) else (none))) = some r := h
  clear h
  replace H := Option.bind_eq_some_iff.mp H
  obtain ⟨t694, A40, H⟩ := H
  replace H : (if t694 = true then ((tenementlaw07_Mark_mark.f k a0_0 a0_1 a0_2 a0_3 a0_4 true).bind fun bt695 => ((tenementlaw07_Vector_vector.f k a1_0 a1_1 a1_2 a1_3 a1_4).bind fun bt701 => ((tenementlaw07_Vector_vector.f k a2_0 a2_1 a2_2 a2_3 a2_4).bind fun bt706 => ((vec_Join.f bt701.1 bt701.2.1 bt701.2.2.1 bt701.2.2.2 bt706.1 bt706.2.1 bt706.2.2.1 bt706.2.2.2).bind fun bt711 => ((stamp_Seen.f bt695.1 bt695.2.1 bt695.2.2.1 bt695.2.2.2.1 bt695.2.2.2.2 bt695.1 bt695.2.1 bt695.2.2.1 bt695.2.2.2.1).bind fun t716 => (if t716 = true then ((stamp_Stamp_N.f bt695.1 bt695.2.1 bt695.2.2.1 bt695.2.2.2.1 bt695.2.2.2.2).bind fun t717 => ((vec_With.f bt695.1 bt695.2.1 bt695.2.2.1 bt695.2.2.2.1 bt695.2.2.2.2 (IntKind.u64.wrap (t717 - 1))).bind fun bt718 => ((stamp_Seen.f bt695.1 bt695.2.1 bt695.2.2.1 bt695.2.2.2.1 bt695.2.2.2.2 bt718.1 bt718.2.1 bt718.2.2.1 bt718.2.2.2).bind fun t722 => (if t722 = true then (none) else ((stamp_Seen.f bt695.1 bt695.2.1 bt695.2.2.1 bt695.2.2.2.1 bt695.2.2.2.2 bt701.1 bt701.2.1 bt701.2.2.1 bt701.2.2.2).bind fun t723 => (if t723 = true then ((stamp_Seen.f bt695.1 bt695.2.1 bt695.2.2.1 bt695.2.2.2.1 bt695.2.2.2.2 bt711.1 bt711.2.1 bt711.2.2.1 bt711.2.2.2).bind fun t724 => (if t724 = true then ((vec_Meet.f bt701.1 bt701.2.1 bt701.2.2.1 bt701.2.2.2 bt706.1 bt706.2.1 bt706.2.2.1 bt706.2.2.2).bind fun bt725 => ((stamp_Seen.f bt695.1 bt695.2.1 bt695.2.2.1 bt695.2.2.2.1 bt695.2.2.2.2 bt725.1 bt725.2.1 bt725.2.2.1 bt725.2.2.2).bind fun t729 => ((stamp_Seen.f bt695.1 bt695.2.1 bt695.2.2.1 bt695.2.2.2.1 bt695.2.2.2.2 bt701.1 bt701.2.1 bt701.2.2.1 bt701.2.2.2).bind fun t730 => (if t730 = true then ((stamp_Seen.f bt695.1 bt695.2.1 bt695.2.2.1 bt695.2.2.2.1 bt695.2.2.2.2 bt706.1 bt706.2.1 bt706.2.2.1 bt706.2.2.2).bind fun t731 => (if t729 = t731 then (some true) else (none))) else (none))))) else (none))) else (none))))))) else (none))))))) else (none)) = some r := H
  have A4 := Aside0.mk A40
  clear A40
  by_cases c5 : t694 = true
  rotate_left
  · replace c5 := Bool.eq_false_iff.mpr c5
    subst c5
    have H1 : (none) = some r := by rw [if_neg (show ¬ (false = true) by decide)] at H; exact H
    clear H
    have H := H1
    clear H1
    exact absurd H (by simp)
  subst c5
  have H1 : ((tenementlaw07_Mark_mark.f k a0_0 a0_1 a0_2 a0_3 a0_4 true).bind fun bt695 => ((tenementlaw07_Vector_vector.f k a1_0 a1_1 a1_2 a1_3 a1_4).bind fun bt701 => ((tenementlaw07_Vector_vector.f k a2_0 a2_1 a2_2 a2_3 a2_4).bind fun bt706 => ((vec_Join.f bt701.1 bt701.2.1 bt701.2.2.1 bt701.2.2.2 bt706.1 bt706.2.1 bt706.2.2.1 bt706.2.2.2).bind fun bt711 => ((stamp_Seen.f bt695.1 bt695.2.1 bt695.2.2.1 bt695.2.2.2.1 bt695.2.2.2.2 bt695.1 bt695.2.1 bt695.2.2.1 bt695.2.2.2.1).bind fun t716 => (if t716 = true then ((stamp_Stamp_N.f bt695.1 bt695.2.1 bt695.2.2.1 bt695.2.2.2.1 bt695.2.2.2.2).bind fun t717 => ((vec_With.f bt695.1 bt695.2.1 bt695.2.2.1 bt695.2.2.2.1 bt695.2.2.2.2 (IntKind.u64.wrap (t717 - 1))).bind fun bt718 => ((stamp_Seen.f bt695.1 bt695.2.1 bt695.2.2.1 bt695.2.2.2.1 bt695.2.2.2.2 bt718.1 bt718.2.1 bt718.2.2.1 bt718.2.2.2).bind fun t722 => (if t722 = true then (none) else ((stamp_Seen.f bt695.1 bt695.2.1 bt695.2.2.1 bt695.2.2.2.1 bt695.2.2.2.2 bt701.1 bt701.2.1 bt701.2.2.1 bt701.2.2.2).bind fun t723 => (if t723 = true then ((stamp_Seen.f bt695.1 bt695.2.1 bt695.2.2.1 bt695.2.2.2.1 bt695.2.2.2.2 bt711.1 bt711.2.1 bt711.2.2.1 bt711.2.2.2).bind fun t724 => (if t724 = true then ((vec_Meet.f bt701.1 bt701.2.1 bt701.2.2.1 bt701.2.2.2 bt706.1 bt706.2.1 bt706.2.2.1 bt706.2.2.2).bind fun bt725 => ((stamp_Seen.f bt695.1 bt695.2.1 bt695.2.2.1 bt695.2.2.2.1 bt695.2.2.2.2 bt725.1 bt725.2.1 bt725.2.2.1 bt725.2.2.2).bind fun t729 => ((stamp_Seen.f bt695.1 bt695.2.1 bt695.2.2.1 bt695.2.2.2.1 bt695.2.2.2.2 bt701.1 bt701.2.1 bt701.2.2.1 bt701.2.2.2).bind fun t730 => (if t730 = true then ((stamp_Seen.f bt695.1 bt695.2.1 bt695.2.2.1 bt695.2.2.2.1 bt695.2.2.2.2 bt706.1 bt706.2.1 bt706.2.2.1 bt706.2.2.2).bind fun t731 => (if t729 = t731 then (some true) else (none))) else (none))))) else (none))) else (none))))))) else (none))))))) = some r := by rw [if_pos rfl] at H; exact H
  clear H
  have H := H1
  clear H1
  replace H := Option.bind_eq_some_iff.mp H
  obtain ⟨⟨t695, t696, t697, t698, t699⟩, A60, H⟩ := H
  replace H : ((tenementlaw07_Vector_vector.f k a1_0 a1_1 a1_2 a1_3 a1_4).bind fun bt701 => ((tenementlaw07_Vector_vector.f k a2_0 a2_1 a2_2 a2_3 a2_4).bind fun bt706 => ((vec_Join.f bt701.1 bt701.2.1 bt701.2.2.1 bt701.2.2.2 bt706.1 bt706.2.1 bt706.2.2.1 bt706.2.2.2).bind fun bt711 => ((stamp_Seen.f t695 t696 t697 t698 t699 t695 t696 t697 t698).bind fun t716 => (if t716 = true then ((stamp_Stamp_N.f t695 t696 t697 t698 t699).bind fun t717 => ((vec_With.f t695 t696 t697 t698 t699 (IntKind.u64.wrap (t717 - 1))).bind fun bt718 => ((stamp_Seen.f t695 t696 t697 t698 t699 bt718.1 bt718.2.1 bt718.2.2.1 bt718.2.2.2).bind fun t722 => (if t722 = true then (none) else ((stamp_Seen.f t695 t696 t697 t698 t699 bt701.1 bt701.2.1 bt701.2.2.1 bt701.2.2.2).bind fun t723 => (if t723 = true then ((stamp_Seen.f t695 t696 t697 t698 t699 bt711.1 bt711.2.1 bt711.2.2.1 bt711.2.2.2).bind fun t724 => (if t724 = true then ((vec_Meet.f bt701.1 bt701.2.1 bt701.2.2.1 bt701.2.2.2 bt706.1 bt706.2.1 bt706.2.2.1 bt706.2.2.2).bind fun bt725 => ((stamp_Seen.f t695 t696 t697 t698 t699 bt725.1 bt725.2.1 bt725.2.2.1 bt725.2.2.2).bind fun t729 => ((stamp_Seen.f t695 t696 t697 t698 t699 bt701.1 bt701.2.1 bt701.2.2.1 bt701.2.2.2).bind fun t730 => (if t730 = true then ((stamp_Seen.f t695 t696 t697 t698 t699 bt706.1 bt706.2.1 bt706.2.2.1 bt706.2.2.2).bind fun t731 => (if t729 = t731 then (some true) else (none))) else (none))))) else (none))) else (none))))))) else (none)))))) = some r := H
  have A6 := Aside0.mk A60
  clear A60
  replace H := Option.bind_eq_some_iff.mp H
  obtain ⟨⟨t701, t702, t703, t704⟩, A70, H⟩ := H
  replace H : ((tenementlaw07_Vector_vector.f k a2_0 a2_1 a2_2 a2_3 a2_4).bind fun bt706 => ((vec_Join.f t701 t702 t703 t704 bt706.1 bt706.2.1 bt706.2.2.1 bt706.2.2.2).bind fun bt711 => ((stamp_Seen.f t695 t696 t697 t698 t699 t695 t696 t697 t698).bind fun t716 => (if t716 = true then ((stamp_Stamp_N.f t695 t696 t697 t698 t699).bind fun t717 => ((vec_With.f t695 t696 t697 t698 t699 (IntKind.u64.wrap (t717 - 1))).bind fun bt718 => ((stamp_Seen.f t695 t696 t697 t698 t699 bt718.1 bt718.2.1 bt718.2.2.1 bt718.2.2.2).bind fun t722 => (if t722 = true then (none) else ((stamp_Seen.f t695 t696 t697 t698 t699 t701 t702 t703 t704).bind fun t723 => (if t723 = true then ((stamp_Seen.f t695 t696 t697 t698 t699 bt711.1 bt711.2.1 bt711.2.2.1 bt711.2.2.2).bind fun t724 => (if t724 = true then ((vec_Meet.f t701 t702 t703 t704 bt706.1 bt706.2.1 bt706.2.2.1 bt706.2.2.2).bind fun bt725 => ((stamp_Seen.f t695 t696 t697 t698 t699 bt725.1 bt725.2.1 bt725.2.2.1 bt725.2.2.2).bind fun t729 => ((stamp_Seen.f t695 t696 t697 t698 t699 t701 t702 t703 t704).bind fun t730 => (if t730 = true then ((stamp_Seen.f t695 t696 t697 t698 t699 bt706.1 bt706.2.1 bt706.2.2.1 bt706.2.2.2).bind fun t731 => (if t729 = t731 then (some true) else (none))) else (none))))) else (none))) else (none))))))) else (none))))) = some r := H
  have A7 := Aside0.mk A70
  clear A70
  replace H := Option.bind_eq_some_iff.mp H
  obtain ⟨⟨t706, t707, t708, t709⟩, A80, H⟩ := H
  replace H : ((vec_Join.f t701 t702 t703 t704 t706 t707 t708 t709).bind fun bt711 => ((stamp_Seen.f t695 t696 t697 t698 t699 t695 t696 t697 t698).bind fun t716 => (if t716 = true then ((stamp_Stamp_N.f t695 t696 t697 t698 t699).bind fun t717 => ((vec_With.f t695 t696 t697 t698 t699 (IntKind.u64.wrap (t717 - 1))).bind fun bt718 => ((stamp_Seen.f t695 t696 t697 t698 t699 bt718.1 bt718.2.1 bt718.2.2.1 bt718.2.2.2).bind fun t722 => (if t722 = true then (none) else ((stamp_Seen.f t695 t696 t697 t698 t699 t701 t702 t703 t704).bind fun t723 => (if t723 = true then ((stamp_Seen.f t695 t696 t697 t698 t699 bt711.1 bt711.2.1 bt711.2.2.1 bt711.2.2.2).bind fun t724 => (if t724 = true then ((vec_Meet.f t701 t702 t703 t704 t706 t707 t708 t709).bind fun bt725 => ((stamp_Seen.f t695 t696 t697 t698 t699 bt725.1 bt725.2.1 bt725.2.2.1 bt725.2.2.2).bind fun t729 => ((stamp_Seen.f t695 t696 t697 t698 t699 t701 t702 t703 t704).bind fun t730 => (if t730 = true then ((stamp_Seen.f t695 t696 t697 t698 t699 t706 t707 t708 t709).bind fun t731 => (if t729 = t731 then (some true) else (none))) else (none))))) else (none))) else (none))))))) else (none)))) = some r := H
  have A8 := Aside0.mk A80
  clear A80
  replace H := Option.bind_eq_some_iff.mp H
  obtain ⟨⟨t711, t712, t713, t714⟩, A90, H⟩ := H
  replace H : ((stamp_Seen.f t695 t696 t697 t698 t699 t695 t696 t697 t698).bind fun t716 => (if t716 = true then ((stamp_Stamp_N.f t695 t696 t697 t698 t699).bind fun t717 => ((vec_With.f t695 t696 t697 t698 t699 (IntKind.u64.wrap (t717 - 1))).bind fun bt718 => ((stamp_Seen.f t695 t696 t697 t698 t699 bt718.1 bt718.2.1 bt718.2.2.1 bt718.2.2.2).bind fun t722 => (if t722 = true then (none) else ((stamp_Seen.f t695 t696 t697 t698 t699 t701 t702 t703 t704).bind fun t723 => (if t723 = true then ((stamp_Seen.f t695 t696 t697 t698 t699 t711 t712 t713 t714).bind fun t724 => (if t724 = true then ((vec_Meet.f t701 t702 t703 t704 t706 t707 t708 t709).bind fun bt725 => ((stamp_Seen.f t695 t696 t697 t698 t699 bt725.1 bt725.2.1 bt725.2.2.1 bt725.2.2.2).bind fun t729 => ((stamp_Seen.f t695 t696 t697 t698 t699 t701 t702 t703 t704).bind fun t730 => (if t730 = true then ((stamp_Seen.f t695 t696 t697 t698 t699 t706 t707 t708 t709).bind fun t731 => (if t729 = t731 then (some true) else (none))) else (none))))) else (none))) else (none))))))) else (none))) = some r := H
  have A9 := Aside0.mk A90
  clear A90
  replace H := Option.bind_eq_some_iff.mp H
  obtain ⟨t716, A100, H⟩ := H
  replace H : (if t716 = true then ((stamp_Stamp_N.f t695 t696 t697 t698 t699).bind fun t717 => ((vec_With.f t695 t696 t697 t698 t699 (IntKind.u64.wrap (t717 - 1))).bind fun bt718 => ((stamp_Seen.f t695 t696 t697 t698 t699 bt718.1 bt718.2.1 bt718.2.2.1 bt718.2.2.2).bind fun t722 => (if t722 = true then (none) else ((stamp_Seen.f t695 t696 t697 t698 t699 t701 t702 t703 t704).bind fun t723 => (if t723 = true then ((stamp_Seen.f t695 t696 t697 t698 t699 t711 t712 t713 t714).bind fun t724 => (if t724 = true then ((vec_Meet.f t701 t702 t703 t704 t706 t707 t708 t709).bind fun bt725 => ((stamp_Seen.f t695 t696 t697 t698 t699 bt725.1 bt725.2.1 bt725.2.2.1 bt725.2.2.2).bind fun t729 => ((stamp_Seen.f t695 t696 t697 t698 t699 t701 t702 t703 t704).bind fun t730 => (if t730 = true then ((stamp_Seen.f t695 t696 t697 t698 t699 t706 t707 t708 t709).bind fun t731 => (if t729 = t731 then (some true) else (none))) else (none))))) else (none))) else (none))))))) else (none)) = some r := H
  have A10 := Aside0.mk A100
  clear A100
  by_cases c11 : t716 = true
  rotate_left
  · replace c11 := Bool.eq_false_iff.mpr c11
    subst c11
    have H1 : (none) = some r := by rw [if_neg (show ¬ (false = true) by decide)] at H; exact H
    clear H
    have H := H1
    clear H1
    exact absurd H (by simp)
  subst c11
  have H1 : ((stamp_Stamp_N.f t695 t696 t697 t698 t699).bind fun t717 => ((vec_With.f t695 t696 t697 t698 t699 (IntKind.u64.wrap (t717 - 1))).bind fun bt718 => ((stamp_Seen.f t695 t696 t697 t698 t699 bt718.1 bt718.2.1 bt718.2.2.1 bt718.2.2.2).bind fun t722 => (if t722 = true then (none) else ((stamp_Seen.f t695 t696 t697 t698 t699 t701 t702 t703 t704).bind fun t723 => (if t723 = true then ((stamp_Seen.f t695 t696 t697 t698 t699 t711 t712 t713 t714).bind fun t724 => (if t724 = true then ((vec_Meet.f t701 t702 t703 t704 t706 t707 t708 t709).bind fun bt725 => ((stamp_Seen.f t695 t696 t697 t698 t699 bt725.1 bt725.2.1 bt725.2.2.1 bt725.2.2.2).bind fun t729 => ((stamp_Seen.f t695 t696 t697 t698 t699 t701 t702 t703 t704).bind fun t730 => (if t730 = true then ((stamp_Seen.f t695 t696 t697 t698 t699 t706 t707 t708 t709).bind fun t731 => (if t729 = t731 then (some true) else (none))) else (none))))) else (none))) else (none))))))) = some r := by rw [if_pos rfl] at H; exact H
  clear H
  have H := H1
  clear H1
  replace H := Option.bind_eq_some_iff.mp H
  obtain ⟨t717, A120, H⟩ := H
  replace H : ((vec_With.f t695 t696 t697 t698 t699 (IntKind.u64.wrap (t717 - 1))).bind fun bt718 => ((stamp_Seen.f t695 t696 t697 t698 t699 bt718.1 bt718.2.1 bt718.2.2.1 bt718.2.2.2).bind fun t722 => (if t722 = true then (none) else ((stamp_Seen.f t695 t696 t697 t698 t699 t701 t702 t703 t704).bind fun t723 => (if t723 = true then ((stamp_Seen.f t695 t696 t697 t698 t699 t711 t712 t713 t714).bind fun t724 => (if t724 = true then ((vec_Meet.f t701 t702 t703 t704 t706 t707 t708 t709).bind fun bt725 => ((stamp_Seen.f t695 t696 t697 t698 t699 bt725.1 bt725.2.1 bt725.2.2.1 bt725.2.2.2).bind fun t729 => ((stamp_Seen.f t695 t696 t697 t698 t699 t701 t702 t703 t704).bind fun t730 => (if t730 = true then ((stamp_Seen.f t695 t696 t697 t698 t699 t706 t707 t708 t709).bind fun t731 => (if t729 = t731 then (some true) else (none))) else (none))))) else (none))) else (none)))))) = some r := H
  have A12 := Aside0.mk A120
  clear A120
  replace H := Option.bind_eq_some_iff.mp H
  obtain ⟨⟨t718, t719, t720, t721⟩, A130, H⟩ := H
  replace H : ((stamp_Seen.f t695 t696 t697 t698 t699 t718 t719 t720 t721).bind fun t722 => (if t722 = true then (none) else ((stamp_Seen.f t695 t696 t697 t698 t699 t701 t702 t703 t704).bind fun t723 => (if t723 = true then ((stamp_Seen.f t695 t696 t697 t698 t699 t711 t712 t713 t714).bind fun t724 => (if t724 = true then ((vec_Meet.f t701 t702 t703 t704 t706 t707 t708 t709).bind fun bt725 => ((stamp_Seen.f t695 t696 t697 t698 t699 bt725.1 bt725.2.1 bt725.2.2.1 bt725.2.2.2).bind fun t729 => ((stamp_Seen.f t695 t696 t697 t698 t699 t701 t702 t703 t704).bind fun t730 => (if t730 = true then ((stamp_Seen.f t695 t696 t697 t698 t699 t706 t707 t708 t709).bind fun t731 => (if t729 = t731 then (some true) else (none))) else (none))))) else (none))) else (none))))) = some r := H
  have A13 := Aside0.mk A130
  clear A130
  replace H := Option.bind_eq_some_iff.mp H
  obtain ⟨t722, A140, H⟩ := H
  replace H : (if t722 = true then (none) else ((stamp_Seen.f t695 t696 t697 t698 t699 t701 t702 t703 t704).bind fun t723 => (if t723 = true then ((stamp_Seen.f t695 t696 t697 t698 t699 t711 t712 t713 t714).bind fun t724 => (if t724 = true then ((vec_Meet.f t701 t702 t703 t704 t706 t707 t708 t709).bind fun bt725 => ((stamp_Seen.f t695 t696 t697 t698 t699 bt725.1 bt725.2.1 bt725.2.2.1 bt725.2.2.2).bind fun t729 => ((stamp_Seen.f t695 t696 t697 t698 t699 t701 t702 t703 t704).bind fun t730 => (if t730 = true then ((stamp_Seen.f t695 t696 t697 t698 t699 t706 t707 t708 t709).bind fun t731 => (if t729 = t731 then (some true) else (none))) else (none))))) else (none))) else (none)))) = some r := H
  have A14 := Aside0.mk A140
  clear A140
  by_cases c15 : t722 = true
  · subst c15
    have H1 : (none) = some r := by rw [if_pos rfl] at H; exact H
    clear H
    have H := H1
    clear H1
    exact absurd H (by simp)
  replace c15 := Bool.eq_false_iff.mpr c15
  subst c15
  have H1 : ((stamp_Seen.f t695 t696 t697 t698 t699 t701 t702 t703 t704).bind fun t723 => (if t723 = true then ((stamp_Seen.f t695 t696 t697 t698 t699 t711 t712 t713 t714).bind fun t724 => (if t724 = true then ((vec_Meet.f t701 t702 t703 t704 t706 t707 t708 t709).bind fun bt725 => ((stamp_Seen.f t695 t696 t697 t698 t699 bt725.1 bt725.2.1 bt725.2.2.1 bt725.2.2.2).bind fun t729 => ((stamp_Seen.f t695 t696 t697 t698 t699 t701 t702 t703 t704).bind fun t730 => (if t730 = true then ((stamp_Seen.f t695 t696 t697 t698 t699 t706 t707 t708 t709).bind fun t731 => (if t729 = t731 then (some true) else (none))) else (none))))) else (none))) else (none))) = some r := by rw [if_neg (show ¬ (false = true) by decide)] at H; exact H
  clear H
  have H := H1
  clear H1
  replace H := Option.bind_eq_some_iff.mp H
  obtain ⟨t723, A160, H⟩ := H
  replace H : (if t723 = true then ((stamp_Seen.f t695 t696 t697 t698 t699 t711 t712 t713 t714).bind fun t724 => (if t724 = true then ((vec_Meet.f t701 t702 t703 t704 t706 t707 t708 t709).bind fun bt725 => ((stamp_Seen.f t695 t696 t697 t698 t699 bt725.1 bt725.2.1 bt725.2.2.1 bt725.2.2.2).bind fun t729 => ((stamp_Seen.f t695 t696 t697 t698 t699 t701 t702 t703 t704).bind fun t730 => (if t730 = true then ((stamp_Seen.f t695 t696 t697 t698 t699 t706 t707 t708 t709).bind fun t731 => (if t729 = t731 then (some true) else (none))) else (none))))) else (none))) else (none)) = some r := H
  have A16 := Aside0.mk A160
  clear A160
  by_cases c17 : t723 = true
  rotate_left
  · replace c17 := Bool.eq_false_iff.mpr c17
    subst c17
    have H1 : (none) = some r := by rw [if_neg (show ¬ (false = true) by decide)] at H; exact H
    clear H
    have H := H1
    clear H1
    exact absurd H (by simp)
  subst c17
  have H1 : ((stamp_Seen.f t695 t696 t697 t698 t699 t711 t712 t713 t714).bind fun t724 => (if t724 = true then ((vec_Meet.f t701 t702 t703 t704 t706 t707 t708 t709).bind fun bt725 => ((stamp_Seen.f t695 t696 t697 t698 t699 bt725.1 bt725.2.1 bt725.2.2.1 bt725.2.2.2).bind fun t729 => ((stamp_Seen.f t695 t696 t697 t698 t699 t701 t702 t703 t704).bind fun t730 => (if t730 = true then ((stamp_Seen.f t695 t696 t697 t698 t699 t706 t707 t708 t709).bind fun t731 => (if t729 = t731 then (some true) else (none))) else (none))))) else (none))) = some r := by rw [if_pos rfl] at H; exact H
  clear H
  have H := H1
  clear H1
  replace H := Option.bind_eq_some_iff.mp H
  obtain ⟨t724, A180, H⟩ := H
  replace H : (if t724 = true then ((vec_Meet.f t701 t702 t703 t704 t706 t707 t708 t709).bind fun bt725 => ((stamp_Seen.f t695 t696 t697 t698 t699 bt725.1 bt725.2.1 bt725.2.2.1 bt725.2.2.2).bind fun t729 => ((stamp_Seen.f t695 t696 t697 t698 t699 t701 t702 t703 t704).bind fun t730 => (if t730 = true then ((stamp_Seen.f t695 t696 t697 t698 t699 t706 t707 t708 t709).bind fun t731 => (if t729 = t731 then (some true) else (none))) else (none))))) else (none)) = some r := H
  have A18 := Aside0.mk A180
  clear A180
  by_cases c19 : t724 = true
  rotate_left
  · replace c19 := Bool.eq_false_iff.mpr c19
    subst c19
    have H1 : (none) = some r := by rw [if_neg (show ¬ (false = true) by decide)] at H; exact H
    clear H
    have H := H1
    clear H1
    exact absurd H (by simp)
  subst c19
  have H1 : ((vec_Meet.f t701 t702 t703 t704 t706 t707 t708 t709).bind fun bt725 => ((stamp_Seen.f t695 t696 t697 t698 t699 bt725.1 bt725.2.1 bt725.2.2.1 bt725.2.2.2).bind fun t729 => ((stamp_Seen.f t695 t696 t697 t698 t699 t701 t702 t703 t704).bind fun t730 => (if t730 = true then ((stamp_Seen.f t695 t696 t697 t698 t699 t706 t707 t708 t709).bind fun t731 => (if t729 = t731 then (some true) else (none))) else (none))))) = some r := by rw [if_pos rfl] at H; exact H
  clear H
  have H := H1
  clear H1
  replace H := Option.bind_eq_some_iff.mp H
  obtain ⟨⟨t725, t726, t727, t728⟩, A200, H⟩ := H
  replace H : ((stamp_Seen.f t695 t696 t697 t698 t699 t725 t726 t727 t728).bind fun t729 => ((stamp_Seen.f t695 t696 t697 t698 t699 t701 t702 t703 t704).bind fun t730 => (if t730 = true then ((stamp_Seen.f t695 t696 t697 t698 t699 t706 t707 t708 t709).bind fun t731 => (if t729 = t731 then (some true) else (none))) else (none)))) = some r := H
  have A20 := Aside0.mk A200
  clear A200
  replace H := Option.bind_eq_some_iff.mp H
  obtain ⟨t729, A210, H⟩ := H
  replace H : ((stamp_Seen.f t695 t696 t697 t698 t699 t701 t702 t703 t704).bind fun t730 => (if t730 = true then ((stamp_Seen.f t695 t696 t697 t698 t699 t706 t707 t708 t709).bind fun t731 => (if t729 = t731 then (some true) else (none))) else (none))) = some r := H
  have A21 := Aside0.mk A210
  clear A210
  replace H := Option.bind_eq_some_iff.mp H
  obtain ⟨t730, A220, H⟩ := H
  replace H : (if t730 = true then ((stamp_Seen.f t695 t696 t697 t698 t699 t706 t707 t708 t709).bind fun t731 => (if t729 = t731 then (some true) else (none))) else (none)) = some r := H
  have A22 := Aside0.mk A220
  clear A220
  by_cases c23 : t730 = true
  rotate_left
  · replace c23 := Bool.eq_false_iff.mpr c23
    subst c23
    have H1 : (none) = some r := by rw [if_neg (show ¬ (false = true) by decide)] at H; exact H
    clear H
    have H := H1
    clear H1
    exact absurd H (by simp)
  subst c23
  have H1 : ((stamp_Seen.f t695 t696 t697 t698 t699 t706 t707 t708 t709).bind fun t731 => (if t729 = t731 then (some true) else (none))) = some r := by rw [if_pos rfl] at H; exact H
  clear H
  have H := H1
  clear H1
  replace H := Option.bind_eq_some_iff.mp H
  obtain ⟨t731, A240, H⟩ := H
  replace H : (if t729 = t731 then (some true) else (none)) = some r := H
  have A24 := Aside0.mk A240
  clear A240
  by_cases c25 : t729 = t731
  rotate_left
  · rw [if_neg c25] at H
    exact absurd H (by simp)
  subst c25
  have H1 : (some true) = some r := by rw [if_pos rfl] at H; exact H
  clear H
  have H := H1
  clear H1
  obtain rfl := Option.some.inj H
  go_enter Tryd.func8, Tryd.ntmps8
  try go_wp2_with (first | ((with_reducible refine gate_dst (N := 3) rfl ?_); refine box_event ?hg (N := 3) ?hd (cs := #[.int .u64 a0_0, .int .u64 a0_1, .int .u64 a0_2, .int .u64 a0_3, .int .i64 a0_4, .bool a0_5]) (t := 28) ?hr ?_; (case hd => rfl); (case hg => rfl); (case hr => first | (go_simp; done) | (go_simp; rfl)); intro gb691 hg w26 hbox hb; have BK691 := Aside0.mk (hbox); have GW691 := Kw_ HB hg; have GE691 := GW691; replace HB := Ks_ HB hb; clear hb hbox hg) | ((with_reducible refine gate_dst (N := 4) rfl ?_); refine box_event ?hg (N := 4) ?hd (cs := #[.int .u64 a1_0, .int .u64 a1_1, .int .u64 a1_2, .int .u64 a1_3, .bool a1_4]) (t := 30) ?hr ?_; (case hd => rfl); (case hg => rfl); (case hr => first | (go_simp; done) | (go_simp; rfl)); intro gb692 hg w27 hbox hb; have BK692 := Aside0.mk (hbox); have GW692 := Kw_ HB hg; have GE692 := GW692; have NB691_692 := Kl_ BK691 hg; have NB692_691 := Kr_ BK691 hg; replace BK691 := Kb_ BK691 hb; replace HB := Ks_ HB hb; clear hb hbox hg) | ((with_reducible refine gate_dst (N := 5) rfl ?_); refine box_event ?hg (N := 5) ?hd (cs := #[.int .u64 a2_0, .int .u64 a2_1, .int .u64 a2_2, .int .u64 a2_3, .bool a2_4]) (t := 30) ?hr ?_; (case hd => rfl); (case hg => rfl); (case hr => first | (go_simp; done) | (go_simp; rfl)); intro gb693 hg w28 hbox hb; have BK693 := Aside0.mk (hbox); have GW693 := Kw_ HB hg; have GE693 := GW693; have NB691_693 := Kl_ BK691 hg; have NB693_691 := Kr_ BK691 hg; have NB692_693 := Kl_ BK692 hg; have NB693_692 := Kr_ BK692 hg; replace BK691 := Kb_ BK691 hb; replace BK692 := Kb_ BK692 hb; replace HB := Ks_ HB hb; clear hb hbox hg) | ((with_reducible refine gate_callee (f := 9) rfl ?_); refine goesL_ (some 12) rfl rfl Tryd.func9 (by kernel_rfl) rfl #[] rfl (by (try simp only [List.map_toArray, List.map_cons, List.map_nil]); first | done | rfl | (simp only [List.length_drop, List.length_take]; rfl)) ?_; (with_reducible refine (tenementlaw07_examples.calls k  true _ A4.out).mono ?_); rintro e w29 ⟨rfl, hb⟩; refine ⟨_, rfl, ?_⟩; replace BK691 := Kb_ BK691 hb; replace BK692 := Kb_ BK692 hb; replace BK693 := Kb_ BK693 hb; replace HB := Ks_ HB hb; (try clear hb); (try clear hb2); (try clear hk); (try clear hi); have hnb30 := NB691_692.out; have hnc30 := NB692_691.out; have hnb31 := NB691_693.out; have hnc31 := NB693_691.out; have hcz32_0 : w29.cell? ⟨gb691, 0, none⟩ = some (.int .u64 a0_0) := (blk_cell BK691.out 0).trans rfl; have hcz32_1 : w29.cell? ⟨gb691, 1, none⟩ = some (.int .u64 a0_1) := (blk_cell BK691.out 1).trans rfl; have hcz32_2 : w29.cell? ⟨gb691, 2, none⟩ = some (.int .u64 a0_2) := (blk_cell BK691.out 2).trans rfl; have hcz32_3 : w29.cell? ⟨gb691, 3, none⟩ = some (.int .u64 a0_3) := (blk_cell BK691.out 3).trans rfl; have hcz32_4 : w29.cell? ⟨gb691, 4, none⟩ = some (.int .i64 a0_4) := (blk_cell BK691.out 4).trans rfl; have hcz32_5 : w29.cell? ⟨gb691, 5, none⟩ = some (.bool a0_5) := (blk_cell BK691.out 5).trans rfl; have hfz32_0 := blk_frozen BK691.out 0; have hfz32_1 := blk_frozen BK691.out 1; have hfz32_2 := blk_frozen BK691.out 2; have hfz32_3 := blk_frozen BK691.out 3; have hfz32_4 := blk_frozen BK691.out 4; have hfz32_5 := blk_frozen BK691.out 5) | ((with_reducible refine gate_callee (f := 10) rfl ?_); refine goesL_ (some 17) rfl rfl Tryd.func10 (by kernel_rfl) rfl #[.agg #[.int .u64 a0_0, .int .u64 a0_1, .int .u64 a0_2, .int .u64 a0_3, .int .i64 a0_4, .bool true]] rfl (by (try simp only [List.map_toArray, List.map_cons, List.map_nil]); first | done | rfl | (simp only [List.length_drop, List.length_take]; rfl)) ?_; (with_reducible refine (tenementlaw07_Mark_mark.calls k a0_0 a0_1 a0_2 a0_3 a0_4 true t695 t696 t697 t698 t699 _ A6.out).mono ?_); rintro e w33 ⟨rfl, hb⟩; refine ⟨_, rfl, ?_⟩; replace BK691 := Aside0.mk (blk_below (g := gb691) (o := .cells #[.int .u64 a0_0, .int .u64 a0_1, .int .u64 a0_2, .int .u64 a0_3, .int .i64 a0_4, .bool true] 28 (0, 0)) (by (with_reducible repeat (first | refine blk_drewN ?_ _ | refine blk_drew ?_ | refine blk_alloc ?_ _)); refine blk_put (cs := #[.int .u64 a0_0, .int .u64 a0_1, .int .u64 a0_2, .int .u64 a0_3, .int .i64 a0_4, .bool a0_5]) ?_ 5 _ rfl; (with_reducible repeat (first | refine blk_drewN ?_ _ | refine blk_drew ?_ | refine blk_alloc ?_ _)); exact BK691.out) hb); replace BK692 := Kf_ BK692 NB692_691 hb; replace BK693 := Kf_ BK693 NB693_691 hb; replace HB := Kt_ HB GE691 hb; (try clear hb); (try clear hb2); (try clear hk); (try clear hi)) | ((with_reducible refine gate_dst (N := 8) rfl ?_); refine box_event ?hg (N := 8) ?hd (cs := #[.int .u64 0, .int .u64 0, .int .u64 0, .int .u64 0, .int .i64 0]) (t := 26) ?hr ?_; (case hd => rfl); (case hg => rfl); (case hr => first | (go_simp; done) | (go_simp; rfl)); intro gb700 hg w34 hbox hb; have BK700 := Aside0.mk (hbox); have GW700 := Kw_ HB hg; have GE700 := GW700; have NB691_700 := Kl_ BK691 hg; have NB700_691 := Kr_ BK691 hg; have NB692_700 := Kl_ BK692 hg; have NB700_692 := Kr_ BK692 hg; have NB693_700 := Kl_ BK693 hg; have NB700_693 := Kr_ BK693 hg; replace BK691 := Kb_ BK691 hb; replace BK692 := Kb_ BK692 hb; replace BK693 := Kb_ BK693 hb; replace HB := Ks_ HB hb; clear hb hbox hg; have hnb35 := NB700_691.out; have hnc35 := NB691_700.out; have hnb36 := NB700_692.out; have hnc36 := NB692_700.out; have hnb37 := NB700_693.out; have hnc37 := NB693_700.out; have hcz38_0 : w34.cell? ⟨gb700, 0, none⟩ = some (.int .u64 0) := (blk_cell BK700.out 0).trans rfl; have hcz38_1 : w34.cell? ⟨gb700, 1, none⟩ = some (.int .u64 0) := (blk_cell BK700.out 1).trans rfl; have hcz38_2 : w34.cell? ⟨gb700, 2, none⟩ = some (.int .u64 0) := (blk_cell BK700.out 2).trans rfl; have hcz38_3 : w34.cell? ⟨gb700, 3, none⟩ = some (.int .u64 0) := (blk_cell BK700.out 3).trans rfl; have hcz38_4 : w34.cell? ⟨gb700, 4, none⟩ = some (.int .i64 0) := (blk_cell BK700.out 4).trans rfl; have hfz38_0 := blk_frozen BK700.out 0; have hfz38_1 := blk_frozen BK700.out 1; have hfz38_2 := blk_frozen BK700.out 2; have hfz38_3 := blk_frozen BK700.out 3; have hfz38_4 := blk_frozen BK700.out 4; have hnb39 := NB692_693.out; have hnc39 := NB693_692.out; have hcz40_0 : w34.cell? ⟨gb692, 0, none⟩ = some (.int .u64 a1_0) := (blk_cell BK692.out 0).trans rfl; have hcz40_1 : w34.cell? ⟨gb692, 1, none⟩ = some (.int .u64 a1_1) := (blk_cell BK692.out 1).trans rfl; have hcz40_2 : w34.cell? ⟨gb692, 2, none⟩ = some (.int .u64 a1_2) := (blk_cell BK692.out 2).trans rfl; have hcz40_3 : w34.cell? ⟨gb692, 3, none⟩ = some (.int .u64 a1_3) := (blk_cell BK692.out 3).trans rfl; have hcz40_4 : w34.cell? ⟨gb692, 4, none⟩ = some (.bool a1_4) := (blk_cell BK692.out 4).trans rfl; have hfz40_0 := blk_frozen BK692.out 0; have hfz40_1 := blk_frozen BK692.out 1; have hfz40_2 := blk_frozen BK692.out 2; have hfz40_3 := blk_frozen BK692.out 3; have hfz40_4 := blk_frozen BK692.out 4) | ((with_reducible refine gate_callee (f := 11) rfl ?_); refine goesL_ (some 19) rfl rfl Tryd.func11 (by kernel_rfl) rfl #[.agg #[.int .u64 a1_0, .int .u64 a1_1, .int .u64 a1_2, .int .u64 a1_3, .bool a1_4]] rfl (by (try simp only [List.map_toArray, List.map_cons, List.map_nil]); first | done | rfl | (simp only [List.length_drop, List.length_take]; rfl)) ?_; (with_reducible refine (tenementlaw07_Vector_vector.calls k a1_0 a1_1 a1_2 a1_3 a1_4 t701 t702 t703 t704 _ A7.out).mono ?_); rintro e w41 ⟨rfl, hb⟩; refine ⟨_, rfl, ?_⟩; replace BK691 := Kf_ BK691 NB691_700 hb; replace BK692 := Kf_ BK692 NB692_700 hb; replace BK693 := Kf_ BK693 NB693_700 hb; replace BK700 := Aside0.mk (blk_below (g := gb700) (o := .cells #[.int .u64 t695, .int .u64 t696, .int .u64 t697, .int .u64 t698, .int .i64 t699] 26 (0, 0)) (by (with_reducible repeat (first | refine blk_drewN ?_ _ | refine blk_drew ?_ | refine blk_alloc ?_ _)); refine blk_put (cs := #[.int .u64 t695, .int .u64 t696, .int .u64 t697, .int .u64 t698, .int .i64 0]) ?_ 4 _ rfl; (with_reducible repeat (first | refine blk_drewN ?_ _ | refine blk_drew ?_ | refine blk_alloc ?_ _)); refine blk_put (cs := #[.int .u64 t695, .int .u64 t696, .int .u64 t697, .int .u64 0, .int .i64 0]) ?_ 3 _ rfl; (with_reducible repeat (first | refine blk_drewN ?_ _ | refine blk_drew ?_ | refine blk_alloc ?_ _)); refine blk_put (cs := #[.int .u64 t695, .int .u64 t696, .int .u64 0, .int .u64 0, .int .i64 0]) ?_ 2 _ rfl; (with_reducible repeat (first | refine blk_drewN ?_ _ | refine blk_drew ?_ | refine blk_alloc ?_ _)); refine blk_put (cs := #[.int .u64 t695, .int .u64 0, .int .u64 0, .int .u64 0, .int .i64 0]) ?_ 1 _ rfl; (with_reducible repeat (first | refine blk_drewN ?_ _ | refine blk_drew ?_ | refine blk_alloc ?_ _)); refine blk_put (cs := #[.int .u64 0, .int .u64 0, .int .u64 0, .int .u64 0, .int .i64 0]) ?_ 0 _ rfl; (with_reducible repeat (first | refine blk_drewN ?_ _ | refine blk_drew ?_ | refine blk_alloc ?_ _)); exact BK700.out) hb); replace HB := Kt_ HB GE700 hb; (try clear hb); (try clear hb2); (try clear hk); (try clear hi)) | ((with_reducible refine gate_dst (N := 9) rfl ?_); refine box_event ?hg (N := 9) ?hd (cs := #[.int .u64 0, .int .u64 0, .int .u64 0, .int .u64 0]) (t := 24) ?hr ?_; (case hd => rfl); (case hg => rfl); (case hr => first | (go_simp; done) | (go_simp; rfl)); intro gb705 hg w42 hbox hb; have BK705 := Aside0.mk (hbox); have GW705 := Kw_ HB hg; have GE705 := GW705; have NB691_705 := Kl_ BK691 hg; have NB705_691 := Kr_ BK691 hg; have NB692_705 := Kl_ BK692 hg; have NB705_692 := Kr_ BK692 hg; have NB693_705 := Kl_ BK693 hg; have NB705_693 := Kr_ BK693 hg; have NB700_705 := Kl_ BK700 hg; have NB705_700 := Kr_ BK700 hg; replace BK691 := Kb_ BK691 hb; replace BK692 := Kb_ BK692 hb; replace BK693 := Kb_ BK693 hb; replace BK700 := Kb_ BK700 hb; replace HB := Ks_ HB hb; clear hb hbox hg; have hnb43 := NB705_691.out; have hnc43 := NB691_705.out; have hnb44 := NB705_692.out; have hnc44 := NB692_705.out; have hnb45 := NB705_693.out; have hnc45 := NB693_705.out; have hnb46 := NB705_700.out; have hnc46 := NB700_705.out; have hcz47_0 : w42.cell? ⟨gb705, 0, none⟩ = some (.int .u64 0) := (blk_cell BK705.out 0).trans rfl; have hcz47_1 : w42.cell? ⟨gb705, 1, none⟩ = some (.int .u64 0) := (blk_cell BK705.out 1).trans rfl; have hcz47_2 : w42.cell? ⟨gb705, 2, none⟩ = some (.int .u64 0) := (blk_cell BK705.out 2).trans rfl; have hcz47_3 : w42.cell? ⟨gb705, 3, none⟩ = some (.int .u64 0) := (blk_cell BK705.out 3).trans rfl; have hfz47_0 := blk_frozen BK705.out 0; have hfz47_1 := blk_frozen BK705.out 1; have hfz47_2 := blk_frozen BK705.out 2; have hfz47_3 := blk_frozen BK705.out 3; have hcz48_0 : w42.cell? ⟨gb693, 0, none⟩ = some (.int .u64 a2_0) := (blk_cell BK693.out 0).trans rfl; have hcz48_1 : w42.cell? ⟨gb693, 1, none⟩ = some (.int .u64 a2_1) := (blk_cell BK693.out 1).trans rfl; have hcz48_2 : w42.cell? ⟨gb693, 2, none⟩ = some (.int .u64 a2_2) := (blk_cell BK693.out 2).trans rfl; have hcz48_3 : w42.cell? ⟨gb693, 3, none⟩ = some (.int .u64 a2_3) := (blk_cell BK693.out 3).trans rfl; have hcz48_4 : w42.cell? ⟨gb693, 4, none⟩ = some (.bool a2_4) := (blk_cell BK693.out 4).trans rfl; have hfz48_0 := blk_frozen BK693.out 0; have hfz48_1 := blk_frozen BK693.out 1; have hfz48_2 := blk_frozen BK693.out 2; have hfz48_3 := blk_frozen BK693.out 3; have hfz48_4 := blk_frozen BK693.out 4) | ((with_reducible refine gate_callee (f := 11) rfl ?_); refine goesL_ (some 21) rfl rfl Tryd.func11 (by kernel_rfl) rfl #[.agg #[.int .u64 a2_0, .int .u64 a2_1, .int .u64 a2_2, .int .u64 a2_3, .bool a2_4]] rfl (by (try simp only [List.map_toArray, List.map_cons, List.map_nil]); first | done | rfl | (simp only [List.length_drop, List.length_take]; rfl)) ?_; (with_reducible refine (tenementlaw07_Vector_vector.calls k a2_0 a2_1 a2_2 a2_3 a2_4 t706 t707 t708 t709 _ A8.out).mono ?_); rintro e w49 ⟨rfl, hb⟩; refine ⟨_, rfl, ?_⟩; replace BK691 := Kf_ BK691 NB691_705 hb; replace BK692 := Kf_ BK692 NB692_705 hb; replace BK693 := Kf_ BK693 NB693_705 hb; replace BK700 := Kf_ BK700 NB700_705 hb; replace BK705 := Aside0.mk (blk_below (g := gb705) (o := .cells #[.int .u64 t701, .int .u64 t702, .int .u64 t703, .int .u64 t704] 24 (0, 0)) (by (with_reducible repeat (first | refine blk_drewN ?_ _ | refine blk_drew ?_ | refine blk_alloc ?_ _)); refine blk_put (cs := #[.int .u64 t701, .int .u64 t702, .int .u64 t703, .int .u64 0]) ?_ 3 _ rfl; (with_reducible repeat (first | refine blk_drewN ?_ _ | refine blk_drew ?_ | refine blk_alloc ?_ _)); refine blk_put (cs := #[.int .u64 t701, .int .u64 t702, .int .u64 0, .int .u64 0]) ?_ 2 _ rfl; (with_reducible repeat (first | refine blk_drewN ?_ _ | refine blk_drew ?_ | refine blk_alloc ?_ _)); refine blk_put (cs := #[.int .u64 t701, .int .u64 0, .int .u64 0, .int .u64 0]) ?_ 1 _ rfl; (with_reducible repeat (first | refine blk_drewN ?_ _ | refine blk_drew ?_ | refine blk_alloc ?_ _)); refine blk_put (cs := #[.int .u64 0, .int .u64 0, .int .u64 0, .int .u64 0]) ?_ 0 _ rfl; (with_reducible repeat (first | refine blk_drewN ?_ _ | refine blk_drew ?_ | refine blk_alloc ?_ _)); exact BK705.out) hb); replace HB := Kt_ HB GE705 hb; (try clear hb); (try clear hb2); (try clear hk); (try clear hi)) | ((with_reducible refine gate_dst (N := 10) rfl ?_); refine box_event ?hg (N := 10) ?hd (cs := #[.int .u64 0, .int .u64 0, .int .u64 0, .int .u64 0]) (t := 24) ?hr ?_; (case hd => rfl); (case hg => rfl); (case hr => first | (go_simp; done) | (go_simp; rfl)); intro gb710 hg w50 hbox hb; have BK710 := Aside0.mk (hbox); have GW710 := Kw_ HB hg; have GE710 := GW710; have NB691_710 := Kl_ BK691 hg; have NB710_691 := Kr_ BK691 hg; have NB692_710 := Kl_ BK692 hg; have NB710_692 := Kr_ BK692 hg; have NB693_710 := Kl_ BK693 hg; have NB710_693 := Kr_ BK693 hg; have NB700_710 := Kl_ BK700 hg; have NB710_700 := Kr_ BK700 hg; have NB705_710 := Kl_ BK705 hg; have NB710_705 := Kr_ BK705 hg; replace BK691 := Kb_ BK691 hb; replace BK692 := Kb_ BK692 hb; replace BK693 := Kb_ BK693 hb; replace BK700 := Kb_ BK700 hb; replace BK705 := Kb_ BK705 hb; replace HB := Ks_ HB hb; clear hb hbox hg; have hnb51 := NB710_691.out; have hnc51 := NB691_710.out; have hnb52 := NB710_692.out; have hnc52 := NB692_710.out; have hnb53 := NB710_693.out; have hnc53 := NB693_710.out; have hnb54 := NB710_700.out; have hnc54 := NB700_710.out; have hnb55 := NB710_705.out; have hnc55 := NB705_710.out; have hcz56_0 : w50.cell? ⟨gb710, 0, none⟩ = some (.int .u64 0) := (blk_cell BK710.out 0).trans rfl; have hcz56_1 : w50.cell? ⟨gb710, 1, none⟩ = some (.int .u64 0) := (blk_cell BK710.out 1).trans rfl; have hcz56_2 : w50.cell? ⟨gb710, 2, none⟩ = some (.int .u64 0) := (blk_cell BK710.out 2).trans rfl; have hcz56_3 : w50.cell? ⟨gb710, 3, none⟩ = some (.int .u64 0) := (blk_cell BK710.out 3).trans rfl; have hfz56_0 := blk_frozen BK710.out 0; have hfz56_1 := blk_frozen BK710.out 1; have hfz56_2 := blk_frozen BK710.out 2; have hfz56_3 := blk_frozen BK710.out 3; have hcz57_0 : w50.cell? ⟨gb705, 0, none⟩ = some (.int .u64 t701) := (blk_cell BK705.out 0).trans rfl; have hcz57_1 : w50.cell? ⟨gb705, 1, none⟩ = some (.int .u64 t702) := (blk_cell BK705.out 1).trans rfl; have hcz57_2 : w50.cell? ⟨gb705, 2, none⟩ = some (.int .u64 t703) := (blk_cell BK705.out 2).trans rfl; have hcz57_3 : w50.cell? ⟨gb705, 3, none⟩ = some (.int .u64 t704) := (blk_cell BK705.out 3).trans rfl; have hfz57_0 := blk_frozen BK705.out 0; have hfz57_1 := blk_frozen BK705.out 1; have hfz57_2 := blk_frozen BK705.out 2; have hfz57_3 := blk_frozen BK705.out 3) | ((with_reducible refine gate_callee (f := 32) rfl ?_); refine goesL_ (some 24) rfl rfl Tryd.func32 (by kernel_rfl) rfl #[.agg #[.int .u64 t701, .int .u64 t702, .int .u64 t703, .int .u64 t704], .agg #[.int .u64 t706, .int .u64 t707, .int .u64 t708, .int .u64 t709]] rfl (by (try simp only [List.map_toArray, List.map_cons, List.map_nil]); first | done | rfl | (simp only [List.length_drop, List.length_take]; rfl)) ?_; (with_reducible refine (vec_Join.calls t701 t702 t703 t704 t706 t707 t708 t709 t711 t712 t713 t714 _ A9.out).mono ?_); rintro e w58 ⟨rfl, hb⟩; refine ⟨_, rfl, ?_⟩; replace BK691 := Kf_ BK691 NB691_710 hb; replace BK692 := Kf_ BK692 NB692_710 hb; replace BK693 := Kf_ BK693 NB693_710 hb; replace BK700 := Kf_ BK700 NB700_710 hb; replace BK705 := Kf_ BK705 NB705_710 hb; replace BK710 := Aside0.mk (blk_below (g := gb710) (o := .cells #[.int .u64 t706, .int .u64 t707, .int .u64 t708, .int .u64 t709] 24 (0, 0)) (by (with_reducible repeat (first | refine blk_drewN ?_ _ | refine blk_drew ?_ | refine blk_alloc ?_ _)); refine blk_put (cs := #[.int .u64 t706, .int .u64 t707, .int .u64 t708, .int .u64 0]) ?_ 3 _ rfl; (with_reducible repeat (first | refine blk_drewN ?_ _ | refine blk_drew ?_ | refine blk_alloc ?_ _)); refine blk_put (cs := #[.int .u64 t706, .int .u64 t707, .int .u64 0, .int .u64 0]) ?_ 2 _ rfl; (with_reducible repeat (first | refine blk_drewN ?_ _ | refine blk_drew ?_ | refine blk_alloc ?_ _)); refine blk_put (cs := #[.int .u64 t706, .int .u64 0, .int .u64 0, .int .u64 0]) ?_ 1 _ rfl; (with_reducible repeat (first | refine blk_drewN ?_ _ | refine blk_drew ?_ | refine blk_alloc ?_ _)); refine blk_put (cs := #[.int .u64 0, .int .u64 0, .int .u64 0, .int .u64 0]) ?_ 0 _ rfl; (with_reducible repeat (first | refine blk_drewN ?_ _ | refine blk_drew ?_ | refine blk_alloc ?_ _)); exact BK710.out) hb); replace HB := Kt_ HB GE710 hb; (try clear hb); (try clear hb2); (try clear hk); (try clear hi)) | ((with_reducible refine gate_dst (N := 11) rfl ?_); refine box_event ?hg (N := 11) ?hd (cs := #[.int .u64 0, .int .u64 0, .int .u64 0, .int .u64 0]) (t := 24) ?hr ?_; (case hd => rfl); (case hg => rfl); (case hr => first | (go_simp; done) | (go_simp; rfl)); intro gb715 hg w59 hbox hb; have BK715 := Aside0.mk (hbox); have GW715 := Kw_ HB hg; have GE715 := GW715; have NB691_715 := Kl_ BK691 hg; have NB715_691 := Kr_ BK691 hg; have NB692_715 := Kl_ BK692 hg; have NB715_692 := Kr_ BK692 hg; have NB693_715 := Kl_ BK693 hg; have NB715_693 := Kr_ BK693 hg; have NB700_715 := Kl_ BK700 hg; have NB715_700 := Kr_ BK700 hg; have NB705_715 := Kl_ BK705 hg; have NB715_705 := Kr_ BK705 hg; have NB710_715 := Kl_ BK710 hg; have NB715_710 := Kr_ BK710 hg; replace BK691 := Kb_ BK691 hb; replace BK692 := Kb_ BK692 hb; replace BK693 := Kb_ BK693 hb; replace BK700 := Kb_ BK700 hb; replace BK705 := Kb_ BK705 hb; replace BK710 := Kb_ BK710 hb; replace HB := Ks_ HB hb; clear hb hbox hg; have hnb60 := NB715_691.out; have hnc60 := NB691_715.out; have hnb61 := NB715_692.out; have hnc61 := NB692_715.out; have hnb62 := NB715_693.out; have hnc62 := NB693_715.out; have hnb63 := NB715_700.out; have hnc63 := NB700_715.out; have hnb64 := NB715_705.out; have hnc64 := NB705_715.out; have hnb65 := NB715_710.out; have hnc65 := NB710_715.out; have hcz66_0 : w59.cell? ⟨gb715, 0, none⟩ = some (.int .u64 0) := (blk_cell BK715.out 0).trans rfl; have hcz66_1 : w59.cell? ⟨gb715, 1, none⟩ = some (.int .u64 0) := (blk_cell BK715.out 1).trans rfl; have hcz66_2 : w59.cell? ⟨gb715, 2, none⟩ = some (.int .u64 0) := (blk_cell BK715.out 2).trans rfl; have hcz66_3 : w59.cell? ⟨gb715, 3, none⟩ = some (.int .u64 0) := (blk_cell BK715.out 3).trans rfl; have hfz66_0 := blk_frozen BK715.out 0; have hfz66_1 := blk_frozen BK715.out 1; have hfz66_2 := blk_frozen BK715.out 2; have hfz66_3 := blk_frozen BK715.out 3))
  have n0_ : Aside0 (((((w59.setCell ⟨gb715, 0, none⟩ (.int .u64 t711)).setCell ⟨gb715, 1, none⟩ (.int .u64 t712)).setCell ⟨gb715, 2, none⟩ (.int .u64 t713)).setCell ⟨gb715, 3, none⟩ (.int .u64 t714)).heap[gb691]? = some (.cells #[.int .u64 a0_0, .int .u64 a0_1, .int .u64 a0_2, .int .u64 a0_3, .int .i64 a0_4, .bool true] 28 (0, 0))) := ⟨by (repeat (first | (with_reducible first | refine blk_drewN ?_ _ | refine blk_drew ?_ | refine blk_alloc ?_ _) | refine blk_far ?_ NB691_715.out _)); exact BK691.out⟩
  have n1_ : Aside0 (((((w59.setCell ⟨gb715, 0, none⟩ (.int .u64 t711)).setCell ⟨gb715, 1, none⟩ (.int .u64 t712)).setCell ⟨gb715, 2, none⟩ (.int .u64 t713)).setCell ⟨gb715, 3, none⟩ (.int .u64 t714)).heap[gb692]? = some (.cells #[.int .u64 a1_0, .int .u64 a1_1, .int .u64 a1_2, .int .u64 a1_3, .bool a1_4] 30 (0, 0))) := ⟨by (repeat (first | (with_reducible first | refine blk_drewN ?_ _ | refine blk_drew ?_ | refine blk_alloc ?_ _) | refine blk_far ?_ NB692_715.out _)); exact BK692.out⟩
  have n2_ : Aside0 (((((w59.setCell ⟨gb715, 0, none⟩ (.int .u64 t711)).setCell ⟨gb715, 1, none⟩ (.int .u64 t712)).setCell ⟨gb715, 2, none⟩ (.int .u64 t713)).setCell ⟨gb715, 3, none⟩ (.int .u64 t714)).heap[gb693]? = some (.cells #[.int .u64 a2_0, .int .u64 a2_1, .int .u64 a2_2, .int .u64 a2_3, .bool a2_4] 30 (0, 0))) := ⟨by (repeat (first | (with_reducible first | refine blk_drewN ?_ _ | refine blk_drew ?_ | refine blk_alloc ?_ _) | refine blk_far ?_ NB693_715.out _)); exact BK693.out⟩
  have n3_ : Aside0 (((((w59.setCell ⟨gb715, 0, none⟩ (.int .u64 t711)).setCell ⟨gb715, 1, none⟩ (.int .u64 t712)).setCell ⟨gb715, 2, none⟩ (.int .u64 t713)).setCell ⟨gb715, 3, none⟩ (.int .u64 t714)).heap[gb700]? = some (.cells #[.int .u64 t695, .int .u64 t696, .int .u64 t697, .int .u64 t698, .int .i64 t699] 26 (0, 0))) := ⟨by (repeat (first | (with_reducible first | refine blk_drewN ?_ _ | refine blk_drew ?_ | refine blk_alloc ?_ _) | refine blk_far ?_ NB700_715.out _)); exact BK700.out⟩
  have n4_ : Aside0 (((((w59.setCell ⟨gb715, 0, none⟩ (.int .u64 t711)).setCell ⟨gb715, 1, none⟩ (.int .u64 t712)).setCell ⟨gb715, 2, none⟩ (.int .u64 t713)).setCell ⟨gb715, 3, none⟩ (.int .u64 t714)).heap[gb705]? = some (.cells #[.int .u64 t701, .int .u64 t702, .int .u64 t703, .int .u64 t704] 24 (0, 0))) := ⟨by (repeat (first | (with_reducible first | refine blk_drewN ?_ _ | refine blk_drew ?_ | refine blk_alloc ?_ _) | refine blk_far ?_ NB705_715.out _)); exact BK705.out⟩
  have n5_ : Aside0 (((((w59.setCell ⟨gb715, 0, none⟩ (.int .u64 t711)).setCell ⟨gb715, 1, none⟩ (.int .u64 t712)).setCell ⟨gb715, 2, none⟩ (.int .u64 t713)).setCell ⟨gb715, 3, none⟩ (.int .u64 t714)).heap[gb710]? = some (.cells #[.int .u64 t706, .int .u64 t707, .int .u64 t708, .int .u64 t709] 24 (0, 0))) := ⟨by (repeat (first | (with_reducible first | refine blk_drewN ?_ _ | refine blk_drew ?_ | refine blk_alloc ?_ _) | refine blk_far ?_ NB710_715.out _)); exact BK710.out⟩
  have n6_ : Aside0 (((((w59.setCell ⟨gb715, 0, none⟩ (.int .u64 t711)).setCell ⟨gb715, 1, none⟩ (.int .u64 t712)).setCell ⟨gb715, 2, none⟩ (.int .u64 t713)).setCell ⟨gb715, 3, none⟩ (.int .u64 t714)).heap[gb715]? = some (.cells #[.int .u64 t711, .int .u64 t712, .int .u64 t713, .int .u64 t714] 24 (0, 0))) := ⟨by (with_reducible repeat (first | refine blk_drewN ?_ _ | refine blk_drew ?_ | refine blk_alloc ?_ _)); refine blk_put (cs := #[.int .u64 t711, .int .u64 t712, .int .u64 t713, .int .u64 0]) ?_ 3 _ rfl; (with_reducible repeat (first | refine blk_drewN ?_ _ | refine blk_drew ?_ | refine blk_alloc ?_ _)); refine blk_put (cs := #[.int .u64 t711, .int .u64 t712, .int .u64 0, .int .u64 0]) ?_ 2 _ rfl; (with_reducible repeat (first | refine blk_drewN ?_ _ | refine blk_drew ?_ | refine blk_alloc ?_ _)); refine blk_put (cs := #[.int .u64 t711, .int .u64 0, .int .u64 0, .int .u64 0]) ?_ 1 _ rfl; (with_reducible repeat (first | refine blk_drewN ?_ _ | refine blk_drew ?_ | refine blk_alloc ?_ _)); refine blk_put (cs := #[.int .u64 0, .int .u64 0, .int .u64 0, .int .u64 0]) ?_ 0 _ rfl; (with_reducible repeat (first | refine blk_drewN ?_ _ | refine blk_drew ?_ | refine blk_alloc ?_ _)); exact BK715.out⟩
  have n7_ : Aside0 (Below w.heap.size w ((((w59.setCell ⟨gb715, 0, none⟩ (.int .u64 t711)).setCell ⟨gb715, 1, none⟩ (.int .u64 t712)).setCell ⟨gb715, 2, none⟩ (.int .u64 t713)).setCell ⟨gb715, 3, none⟩ (.int .u64 t714))) := ⟨by repeat (first | (with_reducible first | exact HB.out | apply below_alloc | apply pw_below_drewN | apply below_drew1 | refine below_set ?_ GE691.out | refine below_set ?_ GE692.out | refine below_set ?_ GE693.out | refine below_set ?_ GE700.out | refine below_set ?_ GE705.out | refine below_set ?_ GE710.out | refine below_set ?_ GE715.out) | exact HB.out)⟩
  (try clear BK691)
  (try clear BK692)
  (try clear BK693)
  (try clear BK700)
  (try clear BK705)
  (try clear BK710)
  (try clear BK715)
  (try clear HB)
  generalize ((((w59.setCell ⟨gb715, 0, none⟩ (.int .u64 t711)).setCell ⟨gb715, 1, none⟩ (.int .u64 t712)).setCell ⟨gb715, 2, none⟩ (.int .u64 t713)).setCell ⟨gb715, 3, none⟩ (.int .u64 t714)) = w67 at n0_ n1_ n2_ n3_ n4_ n5_ n6_ n7_ ⊢
  have BK691 := n0_
  have BK692 := n1_
  have BK693 := n2_
  have BK700 := n3_
  have BK705 := n4_
  have BK710 := n5_
  have BK715 := n6_
  have HB := n7_
  clear n0_ n1_ n2_ n3_ n4_ n5_ n6_ n7_
  replace BK691 := Kd_ BK691
  replace BK692 := Kd_ BK692
  replace BK693 := Kd_ BK693
  replace BK700 := Kd_ BK700
  replace BK705 := Kd_ BK705
  replace BK710 := Kd_ BK710
  replace BK715 := Kd_ BK715
  replace HB := Aside0.mk (below_drew1 HB.out)
  refine start_ (n := 48) (S := fun w' => w'.cell? ⟨gb700, 0, none⟩ = some (.int .u64 t695) ∧ w'.cell? ⟨gb700, 1, none⟩ = some (.int .u64 t696) ∧ w'.cell? ⟨gb700, 2, none⟩ = some (.int .u64 t697) ∧ w'.cell? ⟨gb700, 3, none⟩ = some (.int .u64 t698) ∧ w'.cell? ⟨gb700, 4, none⟩ = some (.int .i64 t699) ∧ w'.cell? ⟨gb705, 0, none⟩ = some (.int .u64 t701) ∧ w'.cell? ⟨gb705, 1, none⟩ = some (.int .u64 t702) ∧ w'.cell? ⟨gb705, 2, none⟩ = some (.int .u64 t703) ∧ w'.cell? ⟨gb705, 3, none⟩ = some (.int .u64 t704) ∧ w'.cell? ⟨gb715, 0, none⟩ = some (.int .u64 t711) ∧ w'.cell? ⟨gb715, 1, none⟩ = some (.int .u64 t712) ∧ w'.cell? ⟨gb715, 2, none⟩ = some (.int .u64 t713) ∧ w'.cell? ⟨gb715, 3, none⟩ = some (.int .u64 t714) ∧ w'.cell? ⟨gb710, 0, none⟩ = some (.int .u64 t706) ∧ w'.cell? ⟨gb710, 1, none⟩ = some (.int .u64 t707) ∧ w'.cell? ⟨gb710, 2, none⟩ = some (.int .u64 t708) ∧ w'.cell? ⟨gb710, 3, none⟩ = some (.int .u64 t709)) (ds := []) #[false, false, false, false, false, false, false, false, false, false, false, false, false, false, false, false, false, false, false, false, false, false, false, false, false, false, false, false, false, false, false, false, false, false, false, false, false, false, false, false, false, false, false, false, false, false, false, false] (by kernel_rfl) rfl rfl ⟨(blk_cell BK700.out 0).trans rfl, (blk_cell BK700.out 1).trans rfl, (blk_cell BK700.out 2).trans rfl, (blk_cell BK700.out 3).trans rfl, (blk_cell BK700.out 4).trans rfl, (blk_cell BK705.out 0).trans rfl, (blk_cell BK705.out 1).trans rfl, (blk_cell BK705.out 2).trans rfl, (blk_cell BK705.out 3).trans rfl, (blk_cell BK715.out 0).trans rfl, (blk_cell BK715.out 1).trans rfl, (blk_cell BK715.out 2).trans rfl, (blk_cell BK715.out 3).trans rfl, (blk_cell BK710.out 0).trans rfl, (blk_cell BK710.out 1).trans rfl, (blk_cell BK710.out 2).trans rfl, (blk_cell BK710.out 3).trans rfl⟩ (fun hHeld => ?_); refine with_tabW tenementlaw07_StampSeen_p0.tab9 tenementlaw07_StampSeen_p0.bits9 (fun HT_ HW_ => ?_)
  generalize w67.drew = w68 at BK691 BK692 BK693 BK700 BK705 BK710 BK715 HB hHeld ⊢
  refine pure_ (i := 0) (N := some 25) (v := ?_) (a' := ?_) #[true, false, false, false, false, false, false, false, false, false, false, false, false, false, false, false, false, false, false, false, false, false, false, false, false, false, false, false, false, false, false, false, false, false, false, false, false, false, false, false, false, false, false, false, false, false, false, false] rfl rfl (any_of HT_.out (by kernel_rfl)) (fun _ _ _ h => h) (Or.inl ⟨by rfl, ?_⟩) ?_ ?_
  rotate_left
  · intro w'
    go_simp
    with_reducible rfl
  rotate_left
  · simp only [Act.put, List.setIfInBounds_toArray, List.set_cons_zero, List.set_cons_succ, i64_w, i32_w]
    rfl
  refine pure_ (i := 1) (N := some 26) (v := ?_) (a' := ?_) #[true, true, false, false, false, false, false, false, false, false, false, false, false, false, false, false, false, false, false, false, false, false, false, false, false, false, false, false, false, false, false, false, false, false, false, false, false, false, false, false, false, false, false, false, false, false, false, false] rfl rfl (any_of HT_.out (by kernel_rfl)) (fun _ _ _ h => h) (Or.inl ⟨by rfl, ?_⟩) ?_ ?_
  rotate_left
  · intro w'
    go_simp
    with_reducible rfl
  rotate_left
  · simp only [Act.put, List.setIfInBounds_toArray, List.set_cons_zero, List.set_cons_succ, i64_w, i32_w]
    rfl
  refine pure_ (i := 3) (N := some 28) (v := ?_) (a' := ?_) #[true, true, false, true, false, false, false, false, false, false, false, false, false, false, false, false, false, false, false, false, false, false, false, false, false, false, false, false, false, false, false, false, false, false, false, false, false, false, false, false, false, false, false, false, false, false, false, false] rfl rfl (any_of HT_.out (by kernel_rfl)) (fun _ _ _ h => h) (Or.inl ⟨by rfl, ?_⟩) ?_ ?_
  rotate_left
  · intro w'
    go_simp
    with_reducible rfl
  rotate_left
  · simp only [Act.put, List.setIfInBounds_toArray, List.set_cons_zero, List.set_cons_succ, i64_w, i32_w]
    rfl
  refine take_ (i := 2) (N := some 27) (v := ?_) (a' := ?_) #[true, true, true, true, false, false, false, false, false, false, false, false, false, false, false, false, false, false, false, false, false, false, false, false, false, false, false, false, false, false, false, false, false, false, false, false, false, false, false, false, false, false, false, false, false, false, false, false] rfl rfl (take_ofW HT_.out HW_.out (by kernel_rfl)) (fun _ _ _ h => h) (Or.inl ⟨by rfl, ?_⟩) hHeld ?_ ?_
  rotate_left
  · rintro w' ⟨s0, s1, s2, s3, s4, s5, s6, s7, s8, s9, s10, s11, s12, s13, s14, s15, s16⟩
    go_simp
    with_reducible rfl
  rotate_left
  · simp only [Act.put, List.setIfInBounds_toArray, List.set_cons_zero, List.set_cons_succ, i64_w, i32_w]
    rfl
  refine take_ (i := 4) (N := some 29) (v := ?_) (a' := ?_) #[true, true, true, true, true, false, false, false, false, false, false, false, false, false, false, false, false, false, false, false, false, false, false, false, false, false, false, false, false, false, false, false, false, false, false, false, false, false, false, false, false, false, false, false, false, false, false, false] rfl rfl (take_ofW HT_.out HW_.out (by kernel_rfl)) (fun _ _ _ h => h) (Or.inl ⟨by rfl, ?_⟩) hHeld ?_ ?_
  rotate_left
  · rintro w' ⟨s0, s1, s2, s3, s4, s5, s6, s7, s8, s9, s10, s11, s12, s13, s14, s15, s16⟩
    go_simp
    with_reducible rfl
  rotate_left
  · simp only [Act.put, List.setIfInBounds_toArray, List.set_cons_zero, List.set_cons_succ, i64_w, i32_w]
    rfl
  refine one_ (i := 5) (N := some 30) #[true, true, true, true, true, true, false, false, false, false, false, false, false, false, false, false, false, false, false, false, false, false, false, false, false, false, false, false, false, false, false, false, false, false, false, false, false, false, false, false, false, false, false, false, false, false, false, false] rfl rfl (one_of HT_.out (by kernel_rfl)) (by decide) (fun K hK => ?_)
  refine goes_ Tryd.func23 (by kernel_rfl) rfl #[.agg #[.int .u64 t695, .int .u64 t696, .int .u64 t697, .int .u64 t698, .int .i64 t699], .agg #[.int .u64 t695, .int .u64 t696, .int .u64 t697, .int .u64 t698]] (by rfl) rfl rfl (by (try simp only [List.map_toArray, List.map_cons, List.map_nil]); first | done | rfl | (simp only [List.length_drop, List.length_take]; rfl)) ?_
  with_reducible refine (stamp_Seen.calls t695 t696 t697 t698 t699 t695 t696 t697 t698 true _ A10.out).mono ?_
  rintro e w69 ⟨rfl, hb⟩
  refine ⟨_, rfl, ?_⟩
  replace BK691 := Kb_ BK691 hb
  replace BK692 := Kb_ BK692 hb
  replace BK693 := Kb_ BK693 hb
  replace BK700 := Kb_ BK700 hb
  replace BK705 := Kb_ BK705 hb
  replace BK710 := Kb_ BK710 hb
  replace BK715 := Kb_ BK715 hb
  replace HB := Ks_ HB hb
  (try clear hb)
  (try clear hb2)
  (try clear hk)
  (try clear hi)
  refine hK.out _ _ ⟨(blk_cell BK700.out 0).trans rfl, (blk_cell BK700.out 1).trans rfl, (blk_cell BK700.out 2).trans rfl, (blk_cell BK700.out 3).trans rfl, (blk_cell BK700.out 4).trans rfl, (blk_cell BK705.out 0).trans rfl, (blk_cell BK705.out 1).trans rfl, (blk_cell BK705.out 2).trans rfl, (blk_cell BK705.out 3).trans rfl, (blk_cell BK715.out 0).trans rfl, (blk_cell BK715.out 1).trans rfl, (blk_cell BK715.out 2).trans rfl, (blk_cell BK715.out 3).trans rfl, (blk_cell BK710.out 0).trans rfl, (blk_cell BK710.out 1).trans rfl, (blk_cell BK710.out 2).trans rfl, (blk_cell BK710.out 3).trans rfl⟩ (fun hHeld => ?_)
  clear hK K
  refine norm_ (a' := ?_) ?_ ?_
  rotate_left
  · show Act.put _ (some 30) _ = _
    simp only [Act.put, List.setIfInBounds_toArray, List.set_cons_zero, List.set_cons_succ, i64_w, i32_w]
    rfl
  refine pure_ (i := 6) (N := some 31) (v := ?_) (a' := ?_) #[true, true, true, true, true, true, true, false, false, false, false, false, false, false, false, false, false, false, false, false, false, false, false, false, false, false, false, false, false, false, false, false, false, false, false, false, false, false, false, false, false, false, false, false, false, false, false, false] rfl rfl (any_of HT_.out (by kernel_rfl)) (fun _ _ _ h => h) (Or.inl ⟨by rfl, ?_⟩) ?_ ?_
  rotate_left
  · intro w'
    go_simp
    with_reducible rfl
  rotate_left
  · simp only [Act.put, List.setIfInBounds_toArray, List.set_cons_zero, List.set_cons_succ, i64_w, i32_w]
    rfl
  refine pure_ (i := 7) (N := some 32) (v := ?_) (a' := ?_) #[true, true, true, true, true, true, true, true, false, false, false, false, false, false, false, false, false, false, false, false, false, false, false, false, false, false, false, false, false, false, false, false, false, false, false, false, false, false, false, false, false, false, false, false, false, false, false, false] rfl rfl (any_of HT_.out (by kernel_rfl)) (fun _ _ _ h => h) (Or.inl ⟨by rfl, ?_⟩) ?_ ?_
  rotate_left
  · intro w'
    go_simp
    with_reducible rfl
  rotate_left
  · simp only [Act.put, List.setIfInBounds_toArray, List.set_cons_zero, List.set_cons_succ, i64_w, i32_w]
    rfl
  refine pure_ (i := 9) (N := some 34) (v := ?_) (a' := ?_) #[true, true, true, true, true, true, true, true, false, true, false, false, false, false, false, false, false, false, false, false, false, false, false, false, false, false, false, false, false, false, false, false, false, false, false, false, false, false, false, false, false, false, false, false, false, false, false, false] rfl rfl (any_of HT_.out (by kernel_rfl)) (fun _ _ _ h => h) (Or.inl ⟨by rfl, ?_⟩) ?_ ?_
  rotate_left
  · intro w'
    go_simp
    with_reducible rfl
  rotate_left
  · simp only [Act.put, List.setIfInBounds_toArray, List.set_cons_zero, List.set_cons_succ, i64_w, i32_w]
    rfl
  refine pure_ (i := 11) (N := some 36) (v := ?_) (a' := ?_) #[true, true, true, true, true, true, true, true, false, true, false, true, false, false, false, false, false, false, false, false, false, false, false, false, false, false, false, false, false, false, false, false, false, false, false, false, false, false, false, false, false, false, false, false, false, false, false, false] rfl rfl (any_of HT_.out (by kernel_rfl)) (fun _ _ _ h => h) (Or.inl ⟨by rfl, ?_⟩) ?_ ?_
  rotate_left
  · intro w'
    go_simp
    with_reducible rfl
  rotate_left
  · simp only [Act.put, List.setIfInBounds_toArray, List.set_cons_zero, List.set_cons_succ, i64_w, i32_w]
    rfl
  refine take_ (i := 8) (N := some 33) (v := ?_) (a' := ?_) #[true, true, true, true, true, true, true, true, true, true, false, true, false, false, false, false, false, false, false, false, false, false, false, false, false, false, false, false, false, false, false, false, false, false, false, false, false, false, false, false, false, false, false, false, false, false, false, false] rfl rfl (take_ofW HT_.out HW_.out (by kernel_rfl)) (fun _ _ _ h => h) (Or.inl ⟨by rfl, ?_⟩) hHeld ?_ ?_
  rotate_left
  · rintro w' ⟨s0, s1, s2, s3, s4, s5, s6, s7, s8, s9, s10, s11, s12, s13, s14, s15, s16⟩
    go_simp
    with_reducible rfl
  rotate_left
  · simp only [Act.put, List.setIfInBounds_toArray, List.set_cons_zero, List.set_cons_succ, i64_w, i32_w]
    rfl
  refine take_ (i := 10) (N := some 35) (v := ?_) (a' := ?_) #[true, true, true, true, true, true, true, true, true, true, true, true, false, false, false, false, false, false, false, false, false, false, false, false, false, false, false, false, false, false, false, false, false, false, false, false, false, false, false, false, false, false, false, false, false, false, false, false] rfl rfl (take_ofW HT_.out HW_.out (by kernel_rfl)) (fun _ _ _ h => h) (Or.inl ⟨by rfl, ?_⟩) hHeld ?_ ?_
  rotate_left
  · rintro w' ⟨s0, s1, s2, s3, s4, s5, s6, s7, s8, s9, s10, s11, s12, s13, s14, s15, s16⟩
    go_simp
    with_reducible rfl
  rotate_left
  · simp only [Act.put, List.setIfInBounds_toArray, List.set_cons_zero, List.set_cons_succ, i64_w, i32_w]
    rfl
  refine take_ (i := 12) (N := some 37) (v := ?_) (a' := ?_) #[true, true, true, true, true, true, true, true, true, true, true, true, true, false, false, false, false, false, false, false, false, false, false, false, false, false, false, false, false, false, false, false, false, false, false, false, false, false, false, false, false, false, false, false, false, false, false, false] rfl rfl (take_ofW HT_.out HW_.out (by kernel_rfl)) (fun _ _ _ h => h) (Or.inl ⟨by rfl, ?_⟩) hHeld ?_ ?_
  rotate_left
  · rintro w' ⟨s0, s1, s2, s3, s4, s5, s6, s7, s8, s9, s10, s11, s12, s13, s14, s15, s16⟩
    go_simp
    with_reducible rfl
  rotate_left
  · simp only [Act.put, List.setIfInBounds_toArray, List.set_cons_zero, List.set_cons_succ, i64_w, i32_w]
    rfl
  refine take_ (i := 13) (N := some 38) (v := ?_) (a' := ?_) #[true, true, true, true, true, true, true, true, true, true, true, true, true, true, false, false, false, false, false, false, false, false, false, false, false, false, false, false, false, false, false, false, false, false, false, false, false, false, false, false, false, false, false, false, false, false, false, false] rfl rfl (take_ofW HT_.out HW_.out (by kernel_rfl)) (fun _ _ _ h => h) (Or.inl ⟨by rfl, ?_⟩) hHeld ?_ ?_
  rotate_left
  · rintro w' ⟨s0, s1, s2, s3, s4, s5, s6, s7, s8, s9, s10, s11, s12, s13, s14, s15, s16⟩
    go_simp
    with_reducible rfl
  rotate_left
  · simp only [Act.put, List.setIfInBounds_toArray, List.set_cons_zero, List.set_cons_succ, i64_w, i32_w]
    rfl
  refine one_ (i := 14) (N := some 39) #[true, true, true, true, true, true, true, true, true, true, true, true, true, true, true, false, false, false, false, false, false, false, false, false, false, false, false, false, false, false, false, false, false, false, false, false, false, false, false, false, false, false, false, false, false, false, false, false] rfl rfl (one_of HT_.out (by kernel_rfl)) (by decide) (fun K hK => ?_)
  refine goes_ Tryd.func19 (by kernel_rfl) rfl #[.agg #[.int .u64 t695, .int .u64 t696, .int .u64 t697, .int .u64 t698, .int .i64 t699]] (by rfl) rfl rfl (by (try simp only [List.map_toArray, List.map_cons, List.map_nil]); first | done | rfl | (simp only [List.length_drop, List.length_take]; rfl)) ?_
  with_reducible refine (stamp_Stamp_N.calls t695 t696 t697 t698 t699 t717 _ A12.out).mono ?_
  rintro e w70 ⟨rfl, hb⟩
  refine ⟨_, rfl, ?_⟩
  replace BK691 := Kb_ BK691 hb
  replace BK692 := Kb_ BK692 hb
  replace BK693 := Kb_ BK693 hb
  replace BK700 := Kb_ BK700 hb
  replace BK705 := Kb_ BK705 hb
  replace BK710 := Kb_ BK710 hb
  replace BK715 := Kb_ BK715 hb
  replace HB := Ks_ HB hb
  (try clear hb)
  (try clear hb2)
  (try clear hk)
  (try clear hi)
  refine hK.out _ _ ⟨(blk_cell BK700.out 0).trans rfl, (blk_cell BK700.out 1).trans rfl, (blk_cell BK700.out 2).trans rfl, (blk_cell BK700.out 3).trans rfl, (blk_cell BK700.out 4).trans rfl, (blk_cell BK705.out 0).trans rfl, (blk_cell BK705.out 1).trans rfl, (blk_cell BK705.out 2).trans rfl, (blk_cell BK705.out 3).trans rfl, (blk_cell BK715.out 0).trans rfl, (blk_cell BK715.out 1).trans rfl, (blk_cell BK715.out 2).trans rfl, (blk_cell BK715.out 3).trans rfl, (blk_cell BK710.out 0).trans rfl, (blk_cell BK710.out 1).trans rfl, (blk_cell BK710.out 2).trans rfl, (blk_cell BK710.out 3).trans rfl⟩ (fun hHeld => ?_)
  clear hK K
  refine norm_ (a' := ?_) ?_ ?_
  rotate_left
  · show Act.put _ (some 39) _ = _
    simp only [Act.put, List.setIfInBounds_toArray, List.set_cons_zero, List.set_cons_succ, i64_w, i32_w]
    rfl
  refine pure_ (i := 15) (N := some 40) (v := ?_) (a' := ?_) #[true, true, true, true, true, true, true, true, true, true, true, true, true, true, true, true, false, false, false, false, false, false, false, false, false, false, false, false, false, false, false, false, false, false, false, false, false, false, false, false, false, false, false, false, false, false, false, false] rfl rfl (any_of HT_.out (by kernel_rfl)) (fun _ _ _ h => h) (Or.inl ⟨by rfl, ?_⟩) ?_ ?_
  rotate_left
  · intro w'
    go_simp
    with_reducible rfl
  rotate_left
  · simp only [Act.put, List.setIfInBounds_toArray, List.set_cons_zero, List.set_cons_succ, i64_w, i32_w]
    rfl
  refine one_ (i := 16) (N := some 41) #[true, true, true, true, true, true, true, true, true, true, true, true, true, true, true, true, true, false, false, false, false, false, false, false, false, false, false, false, false, false, false, false, false, false, false, false, false, false, false, false, false, false, false, false, false, false, false, false] rfl rfl (one_of HT_.out (by kernel_rfl)) (by decide) (fun K hK => ?_)
  refine goes_ Tryd.func33 (by kernel_rfl) rfl #[.agg #[.int .u64 t695, .int .u64 t696, .int .u64 t697, .int .u64 t698], .int .i64 t699, .int .u64 (IntKind.u64.wrap (t717 - 1))] (by rfl) rfl rfl (by (try simp only [List.map_toArray, List.map_cons, List.map_nil]); first | done | rfl | (simp only [List.length_drop, List.length_take]; rfl)) ?_
  with_reducible refine (vec_With.calls t695 t696 t697 t698 t699 (IntKind.u64.wrap (t717 - 1)) t718 t719 t720 t721 _ A13.out).mono ?_
  rintro e w71 ⟨rfl, hb⟩
  refine ⟨_, rfl, ?_⟩
  replace BK691 := Kb_ BK691 hb
  replace BK692 := Kb_ BK692 hb
  replace BK693 := Kb_ BK693 hb
  replace BK700 := Kb_ BK700 hb
  replace BK705 := Kb_ BK705 hb
  replace BK710 := Kb_ BK710 hb
  replace BK715 := Kb_ BK715 hb
  replace HB := Ks_ HB hb
  (try clear hb)
  (try clear hb2)
  (try clear hk)
  (try clear hi)
  refine hK.out _ _ ⟨(blk_cell BK700.out 0).trans rfl, (blk_cell BK700.out 1).trans rfl, (blk_cell BK700.out 2).trans rfl, (blk_cell BK700.out 3).trans rfl, (blk_cell BK700.out 4).trans rfl, (blk_cell BK705.out 0).trans rfl, (blk_cell BK705.out 1).trans rfl, (blk_cell BK705.out 2).trans rfl, (blk_cell BK705.out 3).trans rfl, (blk_cell BK715.out 0).trans rfl, (blk_cell BK715.out 1).trans rfl, (blk_cell BK715.out 2).trans rfl, (blk_cell BK715.out 3).trans rfl, (blk_cell BK710.out 0).trans rfl, (blk_cell BK710.out 1).trans rfl, (blk_cell BK710.out 2).trans rfl, (blk_cell BK710.out 3).trans rfl⟩ (fun hHeld => ?_)
  clear hK K
  refine norm_ (a' := ?_) ?_ ?_
  rotate_left
  · show Act.put _ (some 41) _ = _
    simp only [Act.put, List.setIfInBounds_toArray, List.set_cons_zero, List.set_cons_succ, i64_w, i32_w]
    rfl
  refine one_ (i := 17) (N := some 42) #[true, true, true, true, true, true, true, true, true, true, true, true, true, true, true, true, true, true, false, false, false, false, false, false, false, false, false, false, false, false, false, false, false, false, false, false, false, false, false, false, false, false, false, false, false, false, false, false] rfl rfl (one_of HT_.out (by kernel_rfl)) (by decide) (fun K hK => ?_)
  refine goes_ Tryd.func23 (by kernel_rfl) rfl #[.agg #[.int .u64 t695, .int .u64 t696, .int .u64 t697, .int .u64 t698, .int .i64 t699], .agg #[.int .u64 t718, .int .u64 t719, .int .u64 t720, .int .u64 t721]] (by rfl) rfl rfl (by (try simp only [List.map_toArray, List.map_cons, List.map_nil]); first | done | rfl | (simp only [List.length_drop, List.length_take]; rfl)) ?_
  with_reducible refine (stamp_Seen.calls t695 t696 t697 t698 t699 t718 t719 t720 t721 false _ A14.out).mono ?_
  rintro e w72 ⟨rfl, hb⟩
  refine ⟨_, rfl, ?_⟩
  replace BK691 := Kb_ BK691 hb
  replace BK692 := Kb_ BK692 hb
  replace BK693 := Kb_ BK693 hb
  replace BK700 := Kb_ BK700 hb
  replace BK705 := Kb_ BK705 hb
  replace BK710 := Kb_ BK710 hb
  replace BK715 := Kb_ BK715 hb
  replace HB := Ks_ HB hb
  (try clear hb)
  (try clear hb2)
  (try clear hk)
  (try clear hi)
  refine hK.out _ _ ⟨(blk_cell BK700.out 0).trans rfl, (blk_cell BK700.out 1).trans rfl, (blk_cell BK700.out 2).trans rfl, (blk_cell BK700.out 3).trans rfl, (blk_cell BK700.out 4).trans rfl, (blk_cell BK705.out 0).trans rfl, (blk_cell BK705.out 1).trans rfl, (blk_cell BK705.out 2).trans rfl, (blk_cell BK705.out 3).trans rfl, (blk_cell BK715.out 0).trans rfl, (blk_cell BK715.out 1).trans rfl, (blk_cell BK715.out 2).trans rfl, (blk_cell BK715.out 3).trans rfl, (blk_cell BK710.out 0).trans rfl, (blk_cell BK710.out 1).trans rfl, (blk_cell BK710.out 2).trans rfl, (blk_cell BK710.out 3).trans rfl⟩ (fun hHeld => ?_)
  clear hK K
  refine norm_ (a' := ?_) ?_ ?_
  rotate_left
  · show Act.put _ (some 42) _ = _
    simp only [Act.put, List.setIfInBounds_toArray, List.set_cons_zero, List.set_cons_succ, i64_w, i32_w]
    rfl
  refine pure_ (i := 18) (N := some 43) (v := ?_) (a' := ?_) #[true, true, true, true, true, true, true, true, true, true, true, true, true, true, true, true, true, true, true, false, false, false, false, false, false, false, false, false, false, false, false, false, false, false, false, false, false, false, false, false, false, false, false, false, false, false, false, false] rfl rfl (any_of HT_.out (by kernel_rfl)) (fun _ _ _ h => h) (Or.inl ⟨by rfl, ?_⟩) ?_ ?_
  rotate_left
  · intro w'
    go_simp
    with_reducible rfl
  rotate_left
  · simp only [Act.put, List.setIfInBounds_toArray, List.set_cons_zero, List.set_cons_succ, i64_w, i32_w]
    rfl
  refine pure_ (i := 19) (N := some 44) (v := ?_) (a' := ?_) #[true, true, true, true, true, true, true, true, true, true, true, true, true, true, true, true, true, true, true, true, false, false, false, false, false, false, false, false, false, false, false, false, false, false, false, false, false, false, false, false, false, false, false, false, false, false, false, false] rfl rfl (any_of HT_.out (by kernel_rfl)) (fun _ _ _ h => h) (Or.inl ⟨by rfl, ?_⟩) ?_ ?_
  rotate_left
  · intro w'
    go_simp
    with_reducible rfl
  rotate_left
  · simp only [Act.put, List.setIfInBounds_toArray, List.set_cons_zero, List.set_cons_succ, i64_w, i32_w]
    rfl
  refine pure_ (i := 20) (N := some 45) (v := ?_) (a' := ?_) #[true, true, true, true, true, true, true, true, true, true, true, true, true, true, true, true, true, true, true, true, true, false, false, false, false, false, false, false, false, false, false, false, false, false, false, false, false, false, false, false, false, false, false, false, false, false, false, false] rfl rfl (any_of HT_.out (by kernel_rfl)) (fun _ _ _ h => h) (Or.inl ⟨by rfl, ?_⟩) ?_ ?_
  rotate_left
  · intro w'
    go_simp
    with_reducible rfl
  rotate_left
  · simp only [Act.put, List.setIfInBounds_toArray, List.set_cons_zero, List.set_cons_succ, i64_w, i32_w]
    rfl
  refine take_ (i := 21) (N := some 46) (v := ?_) (a' := ?_) #[true, true, true, true, true, true, true, true, true, true, true, true, true, true, true, true, true, true, true, true, true, true, false, false, false, false, false, false, false, false, false, false, false, false, false, false, false, false, false, false, false, false, false, false, false, false, false, false] rfl rfl (take_ofW HT_.out HW_.out (by kernel_rfl)) (fun _ _ _ h => h) (Or.inl ⟨by rfl, ?_⟩) hHeld ?_ ?_
  rotate_left
  · rintro w' ⟨s0, s1, s2, s3, s4, s5, s6, s7, s8, s9, s10, s11, s12, s13, s14, s15, s16⟩
    go_simp
    with_reducible rfl
  rotate_left
  · simp only [Act.put, List.setIfInBounds_toArray, List.set_cons_zero, List.set_cons_succ, i64_w, i32_w]
    rfl
  refine take_ (i := 22) (N := some 47) (v := ?_) (a' := ?_) #[true, true, true, true, true, true, true, true, true, true, true, true, true, true, true, true, true, true, true, true, true, true, true, false, false, false, false, false, false, false, false, false, false, false, false, false, false, false, false, false, false, false, false, false, false, false, false, false] rfl rfl (take_ofW HT_.out HW_.out (by kernel_rfl)) (fun _ _ _ h => h) (Or.inl ⟨by rfl, ?_⟩) hHeld ?_ ?_
  rotate_left
  · rintro w' ⟨s0, s1, s2, s3, s4, s5, s6, s7, s8, s9, s10, s11, s12, s13, s14, s15, s16⟩
    go_simp
    with_reducible rfl
  rotate_left
  · simp only [Act.put, List.setIfInBounds_toArray, List.set_cons_zero, List.set_cons_succ, i64_w, i32_w]
    rfl
  refine one_ (i := 23) (N := some 48) #[true, true, true, true, true, true, true, true, true, true, true, true, true, true, true, true, true, true, true, true, true, true, true, true, false, false, false, false, false, false, false, false, false, false, false, false, false, false, false, false, false, false, false, false, false, false, false, false] rfl rfl (one_of HT_.out (by kernel_rfl)) (by decide) (fun K hK => ?_)
  refine goes_ Tryd.func23 (by kernel_rfl) rfl #[.agg #[.int .u64 t695, .int .u64 t696, .int .u64 t697, .int .u64 t698, .int .i64 t699], .agg #[.int .u64 t701, .int .u64 t702, .int .u64 t703, .int .u64 t704]] (by rfl) rfl rfl (by (try simp only [List.map_toArray, List.map_cons, List.map_nil]); first | done | rfl | (simp only [List.length_drop, List.length_take]; rfl)) ?_
  with_reducible refine (stamp_Seen.calls t695 t696 t697 t698 t699 t701 t702 t703 t704 true _ A16.out).mono ?_
  rintro e w73 ⟨rfl, hb⟩
  refine ⟨_, rfl, ?_⟩
  replace BK691 := Kb_ BK691 hb
  replace BK692 := Kb_ BK692 hb
  replace BK693 := Kb_ BK693 hb
  replace BK700 := Kb_ BK700 hb
  replace BK705 := Kb_ BK705 hb
  replace BK710 := Kb_ BK710 hb
  replace BK715 := Kb_ BK715 hb
  replace HB := Ks_ HB hb
  (try clear hb)
  (try clear hb2)
  (try clear hk)
  (try clear hi)
  refine hK.out _ _ ⟨(blk_cell BK700.out 0).trans rfl, (blk_cell BK700.out 1).trans rfl, (blk_cell BK700.out 2).trans rfl, (blk_cell BK700.out 3).trans rfl, (blk_cell BK700.out 4).trans rfl, (blk_cell BK705.out 0).trans rfl, (blk_cell BK705.out 1).trans rfl, (blk_cell BK705.out 2).trans rfl, (blk_cell BK705.out 3).trans rfl, (blk_cell BK715.out 0).trans rfl, (blk_cell BK715.out 1).trans rfl, (blk_cell BK715.out 2).trans rfl, (blk_cell BK715.out 3).trans rfl, (blk_cell BK710.out 0).trans rfl, (blk_cell BK710.out 1).trans rfl, (blk_cell BK710.out 2).trans rfl, (blk_cell BK710.out 3).trans rfl⟩ (fun hHeld => ?_)
  clear hK K
  refine norm_ (a' := ?_) ?_ ?_
  rotate_left
  · show Act.put _ (some 48) _ = _
    simp only [Act.put, List.setIfInBounds_toArray, List.set_cons_zero, List.set_cons_succ, i64_w, i32_w]
    rfl
  refine pure_ (i := 24) (N := some 49) (v := ?_) (a' := ?_) #[true, true, true, true, true, true, true, true, true, true, true, true, true, true, true, true, true, true, true, true, true, true, true, true, true, false, false, false, false, false, false, false, false, false, false, false, false, false, false, false, false, false, false, false, false, false, false, false] rfl rfl (any_of HT_.out (by kernel_rfl)) (fun _ _ _ h => h) (Or.inl ⟨by rfl, ?_⟩) ?_ ?_
  rotate_left
  · intro w'
    go_simp
    with_reducible rfl
  rotate_left
  · simp only [Act.put, List.setIfInBounds_toArray, List.set_cons_zero, List.set_cons_succ, i64_w, i32_w]
    rfl
  refine pure_ (i := 25) (N := some 50) (v := ?_) (a' := ?_) #[true, true, true, true, true, true, true, true, true, true, true, true, true, true, true, true, true, true, true, true, true, true, true, true, true, true, false, false, false, false, false, false, false, false, false, false, false, false, false, false, false, false, false, false, false, false, false, false] rfl rfl (any_of HT_.out (by kernel_rfl)) (fun _ _ _ h => h) (Or.inl ⟨by rfl, ?_⟩) ?_ ?_
  rotate_left
  · intro w'
    go_simp
    with_reducible rfl
  rotate_left
  · simp only [Act.put, List.setIfInBounds_toArray, List.set_cons_zero, List.set_cons_succ, i64_w, i32_w]
    rfl
  refine take_ (i := 26) (N := some 51) (v := ?_) (a' := ?_) #[true, true, true, true, true, true, true, true, true, true, true, true, true, true, true, true, true, true, true, true, true, true, true, true, true, true, true, false, false, false, false, false, false, false, false, false, false, false, false, false, false, false, false, false, false, false, false, false] rfl rfl (take_ofW HT_.out HW_.out (by kernel_rfl)) (fun _ _ _ h => h) (Or.inl ⟨by rfl, ?_⟩) hHeld ?_ ?_
  rotate_left
  · rintro w' ⟨s0, s1, s2, s3, s4, s5, s6, s7, s8, s9, s10, s11, s12, s13, s14, s15, s16⟩
    go_simp
    with_reducible rfl
  rotate_left
  · simp only [Act.put, List.setIfInBounds_toArray, List.set_cons_zero, List.set_cons_succ, i64_w, i32_w]
    rfl
  refine take_ (i := 27) (N := some 52) (v := ?_) (a' := ?_) #[true, true, true, true, true, true, true, true, true, true, true, true, true, true, true, true, true, true, true, true, true, true, true, true, true, true, true, true, false, false, false, false, false, false, false, false, false, false, false, false, false, false, false, false, false, false, false, false] rfl rfl (take_ofW HT_.out HW_.out (by kernel_rfl)) (fun _ _ _ h => h) (Or.inl ⟨by rfl, ?_⟩) hHeld ?_ ?_
  rotate_left
  · rintro w' ⟨s0, s1, s2, s3, s4, s5, s6, s7, s8, s9, s10, s11, s12, s13, s14, s15, s16⟩
    go_simp
    with_reducible rfl
  rotate_left
  · simp only [Act.put, List.setIfInBounds_toArray, List.set_cons_zero, List.set_cons_succ, i64_w, i32_w]
    rfl
  refine one_ (i := 28) (N := some 53) #[true, true, true, true, true, true, true, true, true, true, true, true, true, true, true, true, true, true, true, true, true, true, true, true, true, true, true, true, true, false, false, false, false, false, false, false, false, false, false, false, false, false, false, false, false, false, false, false] rfl rfl (one_of HT_.out (by kernel_rfl)) (by decide) (fun K hK => ?_)
  refine goes_ Tryd.func23 (by kernel_rfl) rfl #[.agg #[.int .u64 t695, .int .u64 t696, .int .u64 t697, .int .u64 t698, .int .i64 t699], .agg #[.int .u64 t711, .int .u64 t712, .int .u64 t713, .int .u64 t714]] (by rfl) rfl rfl (by (try simp only [List.map_toArray, List.map_cons, List.map_nil]); first | done | rfl | (simp only [List.length_drop, List.length_take]; rfl)) ?_
  with_reducible refine (stamp_Seen.calls t695 t696 t697 t698 t699 t711 t712 t713 t714 true _ A18.out).mono ?_
  rintro e w74 ⟨rfl, hb⟩
  refine ⟨_, rfl, ?_⟩
  replace BK691 := Kb_ BK691 hb
  replace BK692 := Kb_ BK692 hb
  replace BK693 := Kb_ BK693 hb
  replace BK700 := Kb_ BK700 hb
  replace BK705 := Kb_ BK705 hb
  replace BK710 := Kb_ BK710 hb
  replace BK715 := Kb_ BK715 hb
  replace HB := Ks_ HB hb
  (try clear hb)
  (try clear hb2)
  (try clear hk)
  (try clear hi)
  refine hK.out _ _ ⟨(blk_cell BK700.out 0).trans rfl, (blk_cell BK700.out 1).trans rfl, (blk_cell BK700.out 2).trans rfl, (blk_cell BK700.out 3).trans rfl, (blk_cell BK700.out 4).trans rfl, (blk_cell BK705.out 0).trans rfl, (blk_cell BK705.out 1).trans rfl, (blk_cell BK705.out 2).trans rfl, (blk_cell BK705.out 3).trans rfl, (blk_cell BK715.out 0).trans rfl, (blk_cell BK715.out 1).trans rfl, (blk_cell BK715.out 2).trans rfl, (blk_cell BK715.out 3).trans rfl, (blk_cell BK710.out 0).trans rfl, (blk_cell BK710.out 1).trans rfl, (blk_cell BK710.out 2).trans rfl, (blk_cell BK710.out 3).trans rfl⟩ (fun hHeld => ?_)
  clear hK K
  refine norm_ (a' := ?_) ?_ ?_
  rotate_left
  · show Act.put _ (some 53) _ = _
    simp only [Act.put, List.setIfInBounds_toArray, List.set_cons_zero, List.set_cons_succ, i64_w, i32_w]
    rfl
  refine pure_ (i := 29) (N := some 54) (v := ?_) (a' := ?_) #[true, true, true, true, true, true, true, true, true, true, true, true, true, true, true, true, true, true, true, true, true, true, true, true, true, true, true, true, true, true, false, false, false, false, false, false, false, false, false, false, false, false, false, false, false, false, false, false] rfl rfl (any_of HT_.out (by kernel_rfl)) (fun _ _ _ h => h) (Or.inl ⟨by rfl, ?_⟩) ?_ ?_
  rotate_left
  · intro w'
    go_simp
    with_reducible rfl
  rotate_left
  · simp only [Act.put, List.setIfInBounds_toArray, List.set_cons_zero, List.set_cons_succ, i64_w, i32_w]
    rfl
  refine pure_ (i := 30) (N := some 55) (v := ?_) (a' := ?_) #[true, true, true, true, true, true, true, true, true, true, true, true, true, true, true, true, true, true, true, true, true, true, true, true, true, true, true, true, true, true, true, false, false, false, false, false, false, false, false, false, false, false, false, false, false, false, false, false] rfl rfl (any_of HT_.out (by kernel_rfl)) (fun _ _ _ h => h) (Or.inl ⟨by rfl, ?_⟩) ?_ ?_
  rotate_left
  · intro w'
    go_simp
    with_reducible rfl
  rotate_left
  · simp only [Act.put, List.setIfInBounds_toArray, List.set_cons_zero, List.set_cons_succ, i64_w, i32_w]
    rfl
  refine pure_ (i := 31) (N := some 56) (v := ?_) (a' := ?_) #[true, true, true, true, true, true, true, true, true, true, true, true, true, true, true, true, true, true, true, true, true, true, true, true, true, true, true, true, true, true, true, true, false, false, false, false, false, false, false, false, false, false, false, false, false, false, false, false] rfl rfl (any_of HT_.out (by kernel_rfl)) (fun _ _ _ h => h) (Or.inl ⟨by rfl, ?_⟩) ?_ ?_
  rotate_left
  · intro w'
    go_simp
    with_reducible rfl
  rotate_left
  · simp only [Act.put, List.setIfInBounds_toArray, List.set_cons_zero, List.set_cons_succ, i64_w, i32_w]
    rfl
  refine take_ (i := 32) (N := some 57) (v := ?_) (a' := ?_) #[true, true, true, true, true, true, true, true, true, true, true, true, true, true, true, true, true, true, true, true, true, true, true, true, true, true, true, true, true, true, true, true, true, false, false, false, false, false, false, false, false, false, false, false, false, false, false, false] rfl rfl (take_ofW HT_.out HW_.out (by kernel_rfl)) (fun _ _ _ h => h) (Or.inl ⟨by rfl, ?_⟩) hHeld ?_ ?_
  rotate_left
  · rintro w' ⟨s0, s1, s2, s3, s4, s5, s6, s7, s8, s9, s10, s11, s12, s13, s14, s15, s16⟩
    go_simp
    with_reducible rfl
  rotate_left
  · simp only [Act.put, List.setIfInBounds_toArray, List.set_cons_zero, List.set_cons_succ, i64_w, i32_w]
    rfl
  refine take_ (i := 33) (N := some 58) (v := ?_) (a' := ?_) #[true, true, true, true, true, true, true, true, true, true, true, true, true, true, true, true, true, true, true, true, true, true, true, true, true, true, true, true, true, true, true, true, true, true, false, false, false, false, false, false, false, false, false, false, false, false, false, false] rfl rfl (take_ofW HT_.out HW_.out (by kernel_rfl)) (fun _ _ _ h => h) (Or.inl ⟨by rfl, ?_⟩) hHeld ?_ ?_
  rotate_left
  · rintro w' ⟨s0, s1, s2, s3, s4, s5, s6, s7, s8, s9, s10, s11, s12, s13, s14, s15, s16⟩
    go_simp
    with_reducible rfl
  rotate_left
  · simp only [Act.put, List.setIfInBounds_toArray, List.set_cons_zero, List.set_cons_succ, i64_w, i32_w]
    rfl
  refine take_ (i := 34) (N := some 59) (v := ?_) (a' := ?_) #[true, true, true, true, true, true, true, true, true, true, true, true, true, true, true, true, true, true, true, true, true, true, true, true, true, true, true, true, true, true, true, true, true, true, true, false, false, false, false, false, false, false, false, false, false, false, false, false] rfl rfl (take_ofW HT_.out HW_.out (by kernel_rfl)) (fun _ _ _ h => h) (Or.inl ⟨by rfl, ?_⟩) hHeld ?_ ?_
  rotate_left
  · rintro w' ⟨s0, s1, s2, s3, s4, s5, s6, s7, s8, s9, s10, s11, s12, s13, s14, s15, s16⟩
    go_simp
    with_reducible rfl
  rotate_left
  · simp only [Act.put, List.setIfInBounds_toArray, List.set_cons_zero, List.set_cons_succ, i64_w, i32_w]
    rfl
  refine take_ (i := 37) (N := some 62) (v := ?_) (a' := ?_) #[true, true, true, true, true, true, true, true, true, true, true, true, true, true, true, true, true, true, true, true, true, true, true, true, true, true, true, true, true, true, true, true, true, true, true, false, false, true, false, false, false, false, false, false, false, false, false, false] rfl rfl (take_ofW HT_.out HW_.out (by kernel_rfl)) (fun _ _ _ h => h) (Or.inl ⟨by rfl, ?_⟩) hHeld ?_ ?_
  rotate_left
  · rintro w' ⟨s0, s1, s2, s3, s4, s5, s6, s7, s8, s9, s10, s11, s12, s13, s14, s15, s16⟩
    go_simp
    with_reducible rfl
  rotate_left
  · simp only [Act.put, List.setIfInBounds_toArray, List.set_cons_zero, List.set_cons_succ, i64_w, i32_w]
    rfl
  refine take_ (i := 38) (N := some 63) (v := ?_) (a' := ?_) #[true, true, true, true, true, true, true, true, true, true, true, true, true, true, true, true, true, true, true, true, true, true, true, true, true, true, true, true, true, true, true, true, true, true, true, false, false, true, true, false, false, false, false, false, false, false, false, false] rfl rfl (take_ofW HT_.out HW_.out (by kernel_rfl)) (fun _ _ _ h => h) (Or.inl ⟨by rfl, ?_⟩) hHeld ?_ ?_
  rotate_left
  · rintro w' ⟨s0, s1, s2, s3, s4, s5, s6, s7, s8, s9, s10, s11, s12, s13, s14, s15, s16⟩
    go_simp
    with_reducible rfl
  rotate_left
  · simp only [Act.put, List.setIfInBounds_toArray, List.set_cons_zero, List.set_cons_succ, i64_w, i32_w]
    rfl
  refine one_ (i := 35) (N := some 60) #[true, true, true, true, true, true, true, true, true, true, true, true, true, true, true, true, true, true, true, true, true, true, true, true, true, true, true, true, true, true, true, true, true, true, true, true, false, true, true, false, false, false, false, false, false, false, false, false] rfl rfl (one_of HT_.out (by kernel_rfl)) (by decide) (fun K hK => ?_)
  refine goes_ Tryd.func34 (by kernel_rfl) rfl #[.agg #[.int .u64 t701, .int .u64 t702, .int .u64 t703, .int .u64 t704], .agg #[.int .u64 t706, .int .u64 t707, .int .u64 t708, .int .u64 t709]] (by rfl) rfl rfl (by (try simp only [List.map_toArray, List.map_cons, List.map_nil]); first | done | rfl | (simp only [List.length_drop, List.length_take]; rfl)) ?_
  with_reducible refine (vec_Meet.calls t701 t702 t703 t704 t706 t707 t708 t709 t725 t726 t727 t728 _ A20.out).mono ?_
  rintro e w75 ⟨rfl, hb⟩
  refine ⟨_, rfl, ?_⟩
  replace BK691 := Kb_ BK691 hb
  replace BK692 := Kb_ BK692 hb
  replace BK693 := Kb_ BK693 hb
  replace BK700 := Kb_ BK700 hb
  replace BK705 := Kb_ BK705 hb
  replace BK710 := Kb_ BK710 hb
  replace BK715 := Kb_ BK715 hb
  replace HB := Ks_ HB hb
  (try clear hb)
  (try clear hb2)
  (try clear hk)
  (try clear hi)
  refine hK.out _ _ ⟨(blk_cell BK700.out 0).trans rfl, (blk_cell BK700.out 1).trans rfl, (blk_cell BK700.out 2).trans rfl, (blk_cell BK700.out 3).trans rfl, (blk_cell BK700.out 4).trans rfl, (blk_cell BK705.out 0).trans rfl, (blk_cell BK705.out 1).trans rfl, (blk_cell BK705.out 2).trans rfl, (blk_cell BK705.out 3).trans rfl, (blk_cell BK715.out 0).trans rfl, (blk_cell BK715.out 1).trans rfl, (blk_cell BK715.out 2).trans rfl, (blk_cell BK715.out 3).trans rfl, (blk_cell BK710.out 0).trans rfl, (blk_cell BK710.out 1).trans rfl, (blk_cell BK710.out 2).trans rfl, (blk_cell BK710.out 3).trans rfl⟩ (fun hHeld => ?_)
  clear hK K
  refine norm_ (a' := ?_) ?_ ?_
  rotate_left
  · show Act.put _ (some 60) _ = _
    simp only [Act.put, List.setIfInBounds_toArray, List.set_cons_zero, List.set_cons_succ, i64_w, i32_w]
    rfl
  refine one_ (i := 36) (N := some 61) #[true, true, true, true, true, true, true, true, true, true, true, true, true, true, true, true, true, true, true, true, true, true, true, true, true, true, true, true, true, true, true, true, true, true, true, true, true, true, true, false, false, false, false, false, false, false, false, false] rfl rfl (one_of HT_.out (by kernel_rfl)) (by decide) (fun K hK => ?_)
  refine goes_ Tryd.func23 (by kernel_rfl) rfl #[.agg #[.int .u64 t695, .int .u64 t696, .int .u64 t697, .int .u64 t698, .int .i64 t699], .agg #[.int .u64 t725, .int .u64 t726, .int .u64 t727, .int .u64 t728]] (by rfl) rfl rfl (by (try simp only [List.map_toArray, List.map_cons, List.map_nil]); first | done | rfl | (simp only [List.length_drop, List.length_take]; rfl)) ?_
  with_reducible refine (stamp_Seen.calls t695 t696 t697 t698 t699 t725 t726 t727 t728 t729 _ A21.out).mono ?_
  rintro e w76 ⟨rfl, hb⟩
  refine ⟨_, rfl, ?_⟩
  replace BK691 := Kb_ BK691 hb
  replace BK692 := Kb_ BK692 hb
  replace BK693 := Kb_ BK693 hb
  replace BK700 := Kb_ BK700 hb
  replace BK705 := Kb_ BK705 hb
  replace BK710 := Kb_ BK710 hb
  replace BK715 := Kb_ BK715 hb
  replace HB := Ks_ HB hb
  (try clear hb)
  (try clear hb2)
  (try clear hk)
  (try clear hi)
  refine hK.out _ _ ⟨(blk_cell BK700.out 0).trans rfl, (blk_cell BK700.out 1).trans rfl, (blk_cell BK700.out 2).trans rfl, (blk_cell BK700.out 3).trans rfl, (blk_cell BK700.out 4).trans rfl, (blk_cell BK705.out 0).trans rfl, (blk_cell BK705.out 1).trans rfl, (blk_cell BK705.out 2).trans rfl, (blk_cell BK705.out 3).trans rfl, (blk_cell BK715.out 0).trans rfl, (blk_cell BK715.out 1).trans rfl, (blk_cell BK715.out 2).trans rfl, (blk_cell BK715.out 3).trans rfl, (blk_cell BK710.out 0).trans rfl, (blk_cell BK710.out 1).trans rfl, (blk_cell BK710.out 2).trans rfl, (blk_cell BK710.out 3).trans rfl⟩ (fun hHeld => ?_)
  clear hK K
  refine norm_ (a' := ?_) ?_ ?_
  rotate_left
  · show Act.put _ (some 61) _ = _
    simp only [Act.put, List.setIfInBounds_toArray, List.set_cons_zero, List.set_cons_succ, i64_w, i32_w]
    rfl
  refine one_ (i := 39) (N := some 64) #[true, true, true, true, true, true, true, true, true, true, true, true, true, true, true, true, true, true, true, true, true, true, true, true, true, true, true, true, true, true, true, true, true, true, true, true, true, true, true, true, false, false, false, false, false, false, false, false] rfl rfl (one_of HT_.out (by kernel_rfl)) (by decide) (fun K hK => ?_)
  refine goes_ Tryd.func23 (by kernel_rfl) rfl #[.agg #[.int .u64 t695, .int .u64 t696, .int .u64 t697, .int .u64 t698, .int .i64 t699], .agg #[.int .u64 t701, .int .u64 t702, .int .u64 t703, .int .u64 t704]] (by rfl) rfl rfl (by (try simp only [List.map_toArray, List.map_cons, List.map_nil]); first | done | rfl | (simp only [List.length_drop, List.length_take]; rfl)) ?_
  with_reducible refine (stamp_Seen.calls t695 t696 t697 t698 t699 t701 t702 t703 t704 true _ A22.out).mono ?_
  rintro e w77 ⟨rfl, hb⟩
  refine ⟨_, rfl, ?_⟩
  replace BK691 := Kb_ BK691 hb
  replace BK692 := Kb_ BK692 hb
  replace BK693 := Kb_ BK693 hb
  replace BK700 := Kb_ BK700 hb
  replace BK705 := Kb_ BK705 hb
  replace BK710 := Kb_ BK710 hb
  replace BK715 := Kb_ BK715 hb
  replace HB := Ks_ HB hb
  (try clear hb)
  (try clear hb2)
  (try clear hk)
  (try clear hi)
  refine hK.out _ _ ⟨(blk_cell BK700.out 0).trans rfl, (blk_cell BK700.out 1).trans rfl, (blk_cell BK700.out 2).trans rfl, (blk_cell BK700.out 3).trans rfl, (blk_cell BK700.out 4).trans rfl, (blk_cell BK705.out 0).trans rfl, (blk_cell BK705.out 1).trans rfl, (blk_cell BK705.out 2).trans rfl, (blk_cell BK705.out 3).trans rfl, (blk_cell BK715.out 0).trans rfl, (blk_cell BK715.out 1).trans rfl, (blk_cell BK715.out 2).trans rfl, (blk_cell BK715.out 3).trans rfl, (blk_cell BK710.out 0).trans rfl, (blk_cell BK710.out 1).trans rfl, (blk_cell BK710.out 2).trans rfl, (blk_cell BK710.out 3).trans rfl⟩ (fun hHeld => ?_)
  clear hK K
  refine norm_ (a' := ?_) ?_ ?_
  rotate_left
  · show Act.put _ (some 64) _ = _
    simp only [Act.put, List.setIfInBounds_toArray, List.set_cons_zero, List.set_cons_succ, i64_w, i32_w]
    rfl
  refine pure_ (i := 40) (N := some 65) (v := ?_) (a' := ?_) #[true, true, true, true, true, true, true, true, true, true, true, true, true, true, true, true, true, true, true, true, true, true, true, true, true, true, true, true, true, true, true, true, true, true, true, true, true, true, true, true, true, false, false, false, false, false, false, false] rfl rfl (any_of HT_.out (by kernel_rfl)) (fun _ _ _ h => h) (Or.inl ⟨by rfl, ?_⟩) ?_ ?_
  rotate_left
  · intro w'
    go_simp
    with_reducible rfl
  rotate_left
  · simp only [Act.put, List.setIfInBounds_toArray, List.set_cons_zero, List.set_cons_succ, i64_w, i32_w]
    rfl
  refine take_ (i := 41) (N := some 66) (v := ?_) (a' := ?_) #[true, true, true, true, true, true, true, true, true, true, true, true, true, true, true, true, true, true, true, true, true, true, true, true, true, true, true, true, true, true, true, true, true, true, true, true, true, true, true, true, true, true, false, false, false, false, false, false] rfl rfl (take_ofW HT_.out HW_.out (by kernel_rfl)) (fun _ _ _ h => h) (Or.inl ⟨by rfl, ?_⟩) hHeld ?_ ?_
  rotate_left
  · rintro w' ⟨s0, s1, s2, s3, s4, s5, s6, s7, s8, s9, s10, s11, s12, s13, s14, s15, s16⟩
    go_simp
    with_reducible rfl
  rotate_left
  · simp only [Act.put, List.setIfInBounds_toArray, List.set_cons_zero, List.set_cons_succ, i64_w, i32_w]
    rfl
  refine take_ (i := 42) (N := some 67) (v := ?_) (a' := ?_) #[true, true, true, true, true, true, true, true, true, true, true, true, true, true, true, true, true, true, true, true, true, true, true, true, true, true, true, true, true, true, true, true, true, true, true, true, true, true, true, true, true, true, true, false, false, false, false, false] rfl rfl (take_ofW HT_.out HW_.out (by kernel_rfl)) (fun _ _ _ h => h) (Or.inl ⟨by rfl, ?_⟩) hHeld ?_ ?_
  rotate_left
  · rintro w' ⟨s0, s1, s2, s3, s4, s5, s6, s7, s8, s9, s10, s11, s12, s13, s14, s15, s16⟩
    go_simp
    with_reducible rfl
  rotate_left
  · simp only [Act.put, List.setIfInBounds_toArray, List.set_cons_zero, List.set_cons_succ, i64_w, i32_w]
    rfl
  refine one_ (i := 43) (N := some 68) #[true, true, true, true, true, true, true, true, true, true, true, true, true, true, true, true, true, true, true, true, true, true, true, true, true, true, true, true, true, true, true, true, true, true, true, true, true, true, true, true, true, true, true, true, false, false, false, false] rfl rfl (one_of HT_.out (by kernel_rfl)) (by decide) (fun K hK => ?_)
  refine goes_ Tryd.func23 (by kernel_rfl) rfl #[.agg #[.int .u64 t695, .int .u64 t696, .int .u64 t697, .int .u64 t698, .int .i64 t699], .agg #[.int .u64 t706, .int .u64 t707, .int .u64 t708, .int .u64 t709]] (by rfl) rfl rfl (by (try simp only [List.map_toArray, List.map_cons, List.map_nil]); first | done | rfl | (simp only [List.length_drop, List.length_take]; rfl)) ?_
  with_reducible refine (stamp_Seen.calls t695 t696 t697 t698 t699 t706 t707 t708 t709 t729 _ A24.out).mono ?_
  rintro e w78 ⟨rfl, hb⟩
  refine ⟨_, rfl, ?_⟩
  replace BK691 := Kb_ BK691 hb
  replace BK692 := Kb_ BK692 hb
  replace BK693 := Kb_ BK693 hb
  replace BK700 := Kb_ BK700 hb
  replace BK705 := Kb_ BK705 hb
  replace BK710 := Kb_ BK710 hb
  replace BK715 := Kb_ BK715 hb
  replace HB := Ks_ HB hb
  (try clear hb)
  (try clear hb2)
  (try clear hk)
  (try clear hi)
  refine hK.out _ _ ⟨(blk_cell BK700.out 0).trans rfl, (blk_cell BK700.out 1).trans rfl, (blk_cell BK700.out 2).trans rfl, (blk_cell BK700.out 3).trans rfl, (blk_cell BK700.out 4).trans rfl, (blk_cell BK705.out 0).trans rfl, (blk_cell BK705.out 1).trans rfl, (blk_cell BK705.out 2).trans rfl, (blk_cell BK705.out 3).trans rfl, (blk_cell BK715.out 0).trans rfl, (blk_cell BK715.out 1).trans rfl, (blk_cell BK715.out 2).trans rfl, (blk_cell BK715.out 3).trans rfl, (blk_cell BK710.out 0).trans rfl, (blk_cell BK710.out 1).trans rfl, (blk_cell BK710.out 2).trans rfl, (blk_cell BK710.out 3).trans rfl⟩ (fun hHeld => ?_)
  clear hK K
  refine norm_ (a' := ?_) ?_ ?_
  rotate_left
  · show Act.put _ (some 68) _ = _
    simp only [Act.put, List.setIfInBounds_toArray, List.set_cons_zero, List.set_cons_succ, i64_w, i32_w]
    rfl
  refine pure_ (i := 44) (N := some 69) (v := ?_) (a' := ?_) #[true, true, true, true, true, true, true, true, true, true, true, true, true, true, true, true, true, true, true, true, true, true, true, true, true, true, true, true, true, true, true, true, true, true, true, true, true, true, true, true, true, true, true, true, true, false, false, false] rfl rfl (any_of HT_.out (by kernel_rfl)) (fun _ _ _ h => h) (Or.inl ⟨by rfl, ?_⟩) ?_ ?_
  rotate_left
  · intro w'
    go_simp
    with_reducible rfl
  rotate_left
  · simp only [Act.put, List.setIfInBounds_toArray, List.set_cons_zero, List.set_cons_succ, i64_w, i32_w]
    rfl
  refine pure_ (i := 45) (N := some 70) (v := ?_) (a' := ?_) #[true, true, true, true, true, true, true, true, true, true, true, true, true, true, true, true, true, true, true, true, true, true, true, true, true, true, true, true, true, true, true, true, true, true, true, true, true, true, true, true, true, true, true, true, true, true, false, false] rfl rfl (any_of HT_.out (by kernel_rfl)) (fun _ _ _ h => h) (Or.inl ⟨by rfl, ?_⟩) ?_ ?_
  rotate_left
  · intro w'
    go_simp
    with_reducible rfl
  rotate_left
  · simp only [Act.put, List.setIfInBounds_toArray, List.set_cons_zero, List.set_cons_succ, i64_w, i32_w]
    rfl
  refine pure_ (i := 46) (N := some 71) (v := ?_) (a' := ?_) #[true, true, true, true, true, true, true, true, true, true, true, true, true, true, true, true, true, true, true, true, true, true, true, true, true, true, true, true, true, true, true, true, true, true, true, true, true, true, true, true, true, true, true, true, true, true, true, false] rfl rfl (any_of HT_.out (by kernel_rfl)) (fun _ _ _ h => h) (Or.inl ⟨by rfl, ?_⟩) ?_ ?_
  rotate_left
  · intro w'
    go_simp
    with_reducible rfl
  rotate_left
  · simp only [Act.put, List.setIfInBounds_toArray, List.set_cons_zero, List.set_cons_succ, i64_w, i32_w]
    rfl
  refine pure_ (i := 47) (N := some 6) (v := ?_) (a' := ?_) #[true, true, true, true, true, true, true, true, true, true, true, true, true, true, true, true, true, true, true, true, true, true, true, true, true, true, true, true, true, true, true, true, true, true, true, true, true, true, true, true, true, true, true, true, true, true, true, true] rfl rfl (any_of HT_.out (by kernel_rfl)) (fun _ _ _ h => h) (Or.inl ⟨by rfl, ?_⟩) ?_ ?_
  rotate_left
  · intro w'
    go_simp
    with_reducible rfl
  rotate_left
  · simp only [Act.put, List.setIfInBounds_toArray, List.set_cons_zero, List.set_cons_succ, i64_w, i32_w]
    rfl
  refine done_ (done_of HT_.out (by kernel_rfl)) ?_
  try go_wp2
  go_ret
  exact ⟨by first | rfl | (simp [errW_none, errW_some] <;> rfl) | (simp [*, errW_none, errW_some] <;> rfl), by repeat (first | (with_reducible first | exact HB.out | apply below_alloc | apply pw_below_drewN | apply below_drew1 | refine below_set ?_ GE691.out | refine below_set ?_ GE692.out | refine below_set ?_ GE693.out | refine below_set ?_ GE700.out | refine below_set ?_ GE705.out | refine below_set ?_ GE710.out | refine below_set ?_ GE715.out) | exact HB.out)⟩

end Go.Proofs.YtdlagefpglhdoaaDoor.Q
