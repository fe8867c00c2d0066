import Derived.Test.YtplgbkobpanbfaaQx0
import Derived.Test.YtplgbkobpanbfaaGGateReads0
import Derived.Test.YtplgbkobpanbfaaGGateReads1
import Derived.Test.YtplgbkobpanbfaaGGateReads2
import Derived.Test.YtplgbkobpanbfaaGGateReads3
import Derived.Test.YtplgbkobpanbfaaGGateReads7
import Derived.Test.YtplgbkobpanbfaaGGateReads8
import Derived.Test.YtplgbkobpanbfaaGGateReads4
import Derived.Test.YtplgbkobpanbfaaGGateReads10
import Derived.Test.YtplgbkobpanbfaaGGateReads12
-- Written by this session's own driver (wip/hybrid.py) of the kit's printer; contracts marked FOREIGN are by hand.
namespace Go.Proofs.Ytplgbkobpanbfaa.Q
open Go.RowKit Go.Proofs.YtplgbkobpanbfaaW.PrintWords Go.Proofs.YtplgbkobpanbfaaW.PrintLast Go.Proofs.YtplgbkobpanbfaaW.PrintMore
attribute [local go_sem] max2_int min2_int max_two min_two max_three min_three max_four min_four   -- for this text's walks alone
set_option linter.unusedVariables false
set_option linter.unusedSimpArgs false

attribute [local go_sem] ixA46_0 ixA46_1 ixA46_2 ixA46_3   -- for this text's walks alone
attribute [local go_sem high] eqA36 eqA48
/-! ### tenementlaw19_GateReads: function 4 -/
def tenementlaw19_GateReads.j0 : Nat → ByteArray → Bool → Option (Bool)
  | 0, _, _ => none
  | k + 1, x3, x15 => (gate_Get.f k x3).bind fun bt420 => ((tenementref19_Get.f k x3).bind fun bt430 => ((gate_Read.f k x3).bind fun bt440 => ((tenementref19_Read.f k x3).bind fun bt449 => (if x15 = true then ((tenementlaw19_refRequest.f bt420.1 bt420.2.1 bt420.2.2.1 bt420.2.2.2.1 bt420.2.2.2.2.1 bt420.2.2.2.2.2.1 bt420.2.2.2.2.2.2.1 bt420.2.2.2.2.2.2.2.1).bind fun bt458 => (if (bt458.1.toList == bt430.1.toList && (bt458.2.1 == bt430.2.1 && (bt458.2.2.1 == bt430.2.2.1 && (bt458.2.2.2.1 == bt430.2.2.2.1 && (bt458.2.2.2.2.1 == bt430.2.2.2.2.1 && (bt458.2.2.2.2.2.1.toList == bt430.2.2.2.2.2.1.toList && (bt458.2.2.2.2.2.2.1.toList == bt430.2.2.2.2.2.2.1.toList && (bt458.2.2.2.2.2.2.2.toList == bt430.2.2.2.2.2.2.2.1.toList)))))))) = true then (if bt420.2.2.2.2.2.2.2.2 = bt430.2.2.2.2.2.2.2.2 then ((tenementlaw19_refResponse.f bt440.1 bt440.2.1 bt440.2.2.1 bt440.2.2.2.1 bt440.2.2.2.2.1 bt440.2.2.2.2.2.1 bt440.2.2.2.2.2.2.1).bind fun bt466 => (if (bt466.1 == bt449.1 && (bt466.2.1.toList == bt449.2.1.toList && (bt466.2.2.1 == bt449.2.2.1 && ((bt466.2.2.2.1 == bt449.2.2.2.1 && (bt466.2.2.2.2.1 == bt449.2.2.2.2.1 && (bt466.2.2.2.2.2.1 == bt449.2.2.2.2.2.1 && (bt466.2.2.2.2.2.2 == bt449.2.2.2.2.2.2.1)))))))) = true then (if bt440.2.2.2.2.2.2.2 = bt449.2.2.2.2.2.2.2 then (some true) else (none)) else (none))) else (none)) else (none))) else (none)))))
def tenementlaw19_GateReads.f (k : Nat) (a0_0 : ByteArray) (a0_1 : Int) (a0_2 : Int) (a0_3 : Int) (a0_4 : Int) (a0_5 : ByteArray) (a0_6 : ByteArray) (a0_7 : ByteArray) (a0_8 : Bool) (a1 : ByteArray) (a2_0 : Int) (a2_1 : Int) (a2_2 : Int) (a2_3 : Int) (a2_4 : Bool) (a3 : ByteArray) (a4 : Int) (a5 : Int) (a6 : Int) : Option (Bool) := (tenementlaw19_examples.f k).bind fun t394 => (if t394 = true then ((tenementlaw19_Asked_request.f a0_0 a0_1 a0_2 a0_3 a0_4 a0_5 a0_6 a0_7 true).bind fun bt395 => ((tenementlaw19_refRequest.f bt395.1 bt395.2.1 bt395.2.2.1 bt395.2.2.2.1 bt395.2.2.2.2.1 bt395.2.2.2.2.2.1 bt395.2.2.2.2.2.2.1 bt395.2.2.2.2.2.2.2).bind fun bt403 => ((tenementref19_Put.f k bt403.1 bt403.2.1 bt403.2.2.1 bt403.2.2.2.1 bt403.2.2.2.2.1 bt403.2.2.2.2.2.1 bt403.2.2.2.2.2.2.1 bt403.2.2.2.2.2.2.2).bind fun bt411 => ((tenementlaw19_Vector_vector.f k a2_0 a2_1 a2_2 a2_3 a2_4).bind fun bt413 => ((tenementref19_Answer.f k (wrap64 (a6)) a1 ((Int.tmod a6 2) == 1) bt413.1 bt413.2.1 bt413.2.2.1 bt413.2.2.2).bind fun t417 => (if (Int.tmod a4 6) = 0 then (tenementlaw19_GateReads.j0 k bt411.1 t394) else (if (Int.tmod a4 6) = 1 then ((tenementlaw19_bend.f bt411.1 a5 a6).bind fun t418 => (tenementlaw19_GateReads.j0 k t418 t394)) else (if (Int.tmod a4 6) = 2 then (if bt411.1.size + a3.size ≤ 9223372036854775807 then (tenementlaw19_GateReads.j0 k (bt411.1 ++ a3) t394) else (none)) else (if (Int.tmod a4 6) = 3 then (tenementlaw19_GateReads.j0 k t417 t394) else (if (Int.tmod a4 6) = 4 then ((tenementlaw19_bend.f t417 a5 a6).bind fun t419 => (tenementlaw19_GateReads.j0 k t419 t394)) else (tenementlaw19_GateReads.j0 k a3 t394))))))))))) else (none))
theorem tenementlaw19_GateReads.mono_l : ∀ k, (∀ y0 y1, LeO (tenementlaw19_GateReads.j0 k y0 y1) (tenementlaw19_GateReads.j0 (k + 1) y0 y1))
  | 0 => fun _ _ r h => by simp [tenementlaw19_GateReads.j0] at h
  | k + 1 => by
    have ih0 := tenementlaw19_GateReads.mono_l k
    · intro y0 y1
      unfold tenementlaw19_GateReads.j0
      repeat' first
      | (with_reducible exact ih0 _ _)
      | (with_reducible exact gate_Get.mono _ _)
      | (with_reducible exact gate_Read.mono _ _)
      | (with_reducible exact tenementlaw19_Vector_vector.mono _ _ _ _ _ _)
      | (with_reducible exact tenementlaw19_examples.mono _)
      | (with_reducible exact tenementref19_Answer.mono _ _ _ _ _ _ _ _)
      | (with_reducible exact tenementref19_Get.mono _ _)
      | (with_reducible exact tenementref19_Put.mono _ _ _ _ _ _ _ _ _)
      | (with_reducible exact tenementref19_Read.mono _ _)
      | (with_reducible exact LeO.refl _)
      | (with_reducible exact LeO.none _)
      | (with_reducible refine LeO.ite ?_ ?_)
      | (with_reducible refine LeO.bind ?_ (fun _ => ?_))
      | exact ih0 _ _
      | exact gate_Get.mono _ _
      | exact gate_Read.mono _ _
      | exact tenementlaw19_Vector_vector.mono _ _ _ _ _ _
      | exact tenementlaw19_examples.mono _
      | exact tenementref19_Answer.mono _ _ _ _ _ _ _ _
      | exact tenementref19_Get.mono _ _
      | exact tenementref19_Put.mono _ _ _ _ _ _ _ _ _
      | exact tenementref19_Read.mono _ _
      | exact LeO.none _
      | refine LeO.ite ?_ ?_
      | refine LeO.bind ?_ (fun _ => ?_)
theorem tenementlaw19_GateReads.mono : ∀ a0 a1 a2 a3 a4 a5 a6 a7 a8 a9 a10 a11 a12 a13 a14 a15 a16 a17 a18 k, LeO (tenementlaw19_GateReads.f k a0 a1 a2 a3 a4 a5 a6 a7 a8 a9 a10 a11 a12 a13 a14 a15 a16 a17 a18) (tenementlaw19_GateReads.f (k + 1) a0 a1 a2 a3 a4 a5 a6 a7 a8 a9 a10 a11 a12 a13 a14 a15 a16 a17 a18) := by
  intro a0 a1 a2 a3 a4 a5 a6 a7 a8 a9 a10 a11 a12 a13 a14 a15 a16 a17 a18 k
  have ih0 := tenementlaw19_GateReads.mono_l k
  unfold tenementlaw19_GateReads.f
  repeat' first
      | (with_reducible exact ih0 _ _)
      | (with_reducible exact gate_Get.mono _ _)
      | (with_reducible exact gate_Read.mono _ _)
      | (with_reducible exact tenementlaw19_Vector_vector.mono _ _ _ _ _ _)
      | (with_reducible exact tenementlaw19_examples.mono _)
      | (with_reducible exact tenementref19_Answer.mono _ _ _ _ _ _ _ _)
      | (with_reducible exact tenementref19_Get.mono _ _)
      | (with_reducible exact tenementref19_Put.mono _ _ _ _ _ _ _ _ _)
      | (with_reducible exact tenementref19_Read.mono _ _)
      | (with_reducible exact LeO.refl _)
      | (with_reducible exact LeO.none _)
      | (with_reducible refine LeO.ite ?_ ?_)
      | (with_reducible refine LeO.bind ?_ (fun _ => ?_))
      | exact ih0 _ _
      | exact gate_Get.mono _ _
      | exact gate_Read.mono _ _
      | exact tenementlaw19_Vector_vector.mono _ _ _ _ _ _
      | exact tenementlaw19_examples.mono _
      | exact tenementref19_Answer.mono _ _ _ _ _ _ _ _
      | exact tenementref19_Get.mono _ _
      | exact tenementref19_Put.mono _ _ _ _ _ _ _ _ _
      | exact tenementref19_Read.mono _ _
      | exact LeO.none _
      | refine LeO.ite ?_ ?_
      | refine LeO.bind ?_ (fun _ => ?_)
def tenementlaw19_GateReads.T22 : Bool × List (List Nat × List Nat) := (true, [([], []), ([0], [0]), ([1], [1]), ([2, 1, 1], [1, 2]), ([1], [1]), ([3, 4, 1], [1, 3, 4]), ([1, 5], [1, 5]), ([6, 3], [6]), ([7], [7]), ([7], [7]), ([8, 9, 7], [7, 8, 9]), ([7, 10], [7, 10]), ([11, 7], [11]), ([12], [12]), ([13, 12, 12], [12, 13]), ([12], [12]), ([14, 15, 12], [12, 14, 15]), ([12, 16], [12, 16]), ([17, 14], [17]), ([18], [18]), ([18], [18]), ([19, 20, 18], [18, 19, 20]), ([18, 21], [18, 21]), ([22, 18, 0, 1, 2, 3, 4, 5, 6, 7, 8, 9, 10, 11, 12, 13, 14, 15, 16, 17, 18, 19, 20, 21, 22], [22])])
def tenementlaw19_GateReads.B22 : List Nat := [0, 1, 3, 7, 3, 31, 63, 127, 255, 255, 1023, 2047, 4095, 8191, 16383, 8191, 65535, 131071, 262143, 524287, 524287, 2097151, 4194303, 8388607]
theorem tenementlaw19_GateReads.tab22 : rtab .any (opsOf Try.f4 22) = tenementlaw19_GateReads.T22 := by kernel_rfl
theorem tenementlaw19_GateReads.bits22 : waitsOk tenementlaw19_GateReads.T22.2 tenementlaw19_GateReads.B22 = true := by kernel_rfl
set_option maxHeartbeats 8000000 in
set_option maxRecDepth 100000 in
theorem tenementlaw19_GateReads.calls (k : Nat) (a0_0 : ByteArray) (a0_1 : Int) (a0_2 : Int) (a0_3 : Int) (a0_4 : Int) (a0_5 : ByteArray) (a0_6 : ByteArray) (a0_7 : ByteArray) (a0_8 : Bool) (a1 : ByteArray) (a2_0 : Int) (a2_1 : Int) (a2_2 : Int) (a2_3 : Int) (a2_4 : Bool) (a3 : ByteArray) (a4 : Int) (a5 : Int) (a6 : Int) (r : Bool) (w : World) (h : tenementlaw19_GateReads.f k a0_0 a0_1 a0_2 a0_3 a0_4 a0_5 a0_6 a0_7 a0_8 a1 a2_0 a2_1 a2_2 a2_3 a2_4 a3 a4 a5 a6 = some r) :
    Calls Try.prog 4 #[.agg #[.string a0_0, .int .i64 a0_1, .int .i64 a0_2, .int .i64 a0_3, .int .i64 a0_4, .string a0_5, .string a0_6, .string a0_7, .bool a0_8], .string a1, .agg #[.int .u64 a2_0, .int .u64 a2_1, .int .u64 a2_2, .int .u64 a2_3, .bool a2_4], .string a3, .int .u8 a4, .int .i64 a5, .int .u8 a6] w fun e w' => e = .returned (.bool r) ∧ Below w.heap.size w w' := by
  have hu25 := Try.underlying25
  have hu30 := Try.underlying30
  have hu48 := Try.underlying48
  have hu23 := Try.underlying23
  have hu36 := Try.underlying36
  have hu41 := Try.underlying41
  have HB := Aside0.mk (Below.refl w.heap.size w)
  have H : ((tenementlaw19_examples.f k).bind fun t394 => (if t394 = true then ((tenementlaw19_Asked_request.f a0_0 a0_1 a0_2 a0_3 a0_4 a0_5 a0_6 a0_7 true).bind fun bt395 => ((tenementlaw19_refRequest.f bt395.1 bt395.2.1 bt395.2.2.1 bt395.2.2.2.1 bt395.2.2.2.2.1 bt395.2.2.2.2.2.1 bt395.2.2.2.2.2.2.1 bt395.2.2.2.2.2.2.2).bind fun bt403 => ((tenementref19_Put.f k bt403.1 bt403.2.1 bt403.2.2.1 bt403.2.2.2.1 bt403.2.2.2.2.1 bt403.2.2.2.2.2.1 bt403.2.2.2.2.2.2.1 bt403.2.2.2.2.2.2.2).bind fun bt411 => ((tenementlaw19_Vector_vector.f k a2_0 a2_1 a2_2 a2_3 a2_4).bind fun bt413 => ((tenementref19_Answer.f k (wrap64 (a6)) a1 ((Int.tmod a6 2) == 1) bt413.1 bt413.2.1 bt413.2.2.1 bt413.2.2.2).bind fun t417 => (if (Int.tmod a4 6) = 0 then (tenementlaw19_GateReads.j0 k bt411.1 t394) else (if (Int.tmod a4 6) = 1 then ((tenementlaw19_bend.f bt411.1 a5 a6).bind fun t418 => (tenementlaw19_GateReads.j0 k t418 t394)) else (if (Int.tmod a4 6) = 2 then (if bt411.1.size + a3.size ≤ 9223372036854775807 then (tenementlaw19_GateReads.j0 k (bt411.1 ++ a3) t394) else (none)) else (if (Int.tmod a4 6) = 3 then (tenementlaw19_GateReads.j0 k t417 t394) else (if (Int.tmod a4 6) = 4 then ((tenementlaw19_bend.f t417 a5 a6).bind fun t419 => (tenementlaw19_GateReads.j0 k t419 t394)) else (tenementlaw19_GateReads.j0 k a3 t394))))))))))) else (none))) = some r := h
  (try (have Hs_ := H; simp only [ByteArray.size_append, Int.natCast_add] at Hs_))
  clear h
  replace H := Option.bind_eq_some_iff.mp H
  obtain ⟨t394, A80, H⟩ := H
  replace H : (if t394 = true then ((tenementlaw19_Asked_request.f a0_0 a0_1 a0_2 a0_3 a0_4 a0_5 a0_6 a0_7 true).bind fun bt395 => ((tenementlaw19_refRequest.f bt395.1 bt395.2.1 bt395.2.2.1 bt395.2.2.2.1 bt395.2.2.2.2.1 bt395.2.2.2.2.2.1 bt395.2.2.2.2.2.2.1 bt395.2.2.2.2.2.2.2).bind fun bt403 => ((tenementref19_Put.f k bt403.1 bt403.2.1 bt403.2.2.1 bt403.2.2.2.1 bt403.2.2.2.2.1 bt403.2.2.2.2.2.1 bt403.2.2.2.2.2.2.1 bt403.2.2.2.2.2.2.2).bind fun bt411 => ((tenementlaw19_Vector_vector.f k a2_0 a2_1 a2_2 a2_3 a2_4).bind fun bt413 => ((tenementref19_Answer.f k (wrap64 (a6)) a1 ((Int.tmod a6 2) == 1) bt413.1 bt413.2.1 bt413.2.2.1 bt413.2.2.2).bind fun t417 => (if (Int.tmod a4 6) = 0 then (tenementlaw19_GateReads.j0 k bt411.1 t394) else (if (Int.tmod a4 6) = 1 then ((tenementlaw19_bend.f bt411.1 a5 a6).bind fun t418 => (tenementlaw19_GateReads.j0 k t418 t394)) else (if (Int.tmod a4 6) = 2 then (if bt411.1.size + a3.size ≤ 9223372036854775807 then (tenementlaw19_GateReads.j0 k (bt411.1 ++ a3) t394) else (none)) else (if (Int.tmod a4 6) = 3 then (tenementlaw19_GateReads.j0 k t417 t394) else (if (Int.tmod a4 6) = 4 then ((tenementlaw19_bend.f t417 a5 a6).bind fun t419 => (tenementlaw19_GateReads.j0 k t419 t394)) else (tenementlaw19_GateReads.j0 k a3 t394))))))))))) else (none)) = some r := H
  have A8 := Aside0.mk A80
  clear A80
  by_cases c9 : t394 = true
  rotate_left
  · replace c9 := Bool.eq_false_iff.mpr c9
    subst c9
    have H1 : (none) = some r := by rw [if_neg (show ¬ (false = true) by decide)] at H; exact H
    clear H
    have H := H1
    clear H1
    exact absurd H (by simp)
  subst c9
  have H1 : ((tenementlaw19_Asked_request.f a0_0 a0_1 a0_2 a0_3 a0_4 a0_5 a0_6 a0_7 true).bind fun bt395 => ((tenementlaw19_refRequest.f bt395.1 bt395.2.1 bt395.2.2.1 bt395.2.2.2.1 bt395.2.2.2.2.1 bt395.2.2.2.2.2.1 bt395.2.2.2.2.2.2.1 bt395.2.2.2.2.2.2.2).bind fun bt403 => ((tenementref19_Put.f k bt403.1 bt403.2.1 bt403.2.2.1 bt403.2.2.2.1 bt403.2.2.2.2.1 bt403.2.2.2.2.2.1 bt403.2.2.2.2.2.2.1 bt403.2.2.2.2.2.2.2).bind fun bt411 => ((tenementlaw19_Vector_vector.f k a2_0 a2_1 a2_2 a2_3 a2_4).bind fun bt413 => ((tenementref19_Answer.f k (wrap64 (a6)) a1 ((Int.tmod a6 2) == 1) bt413.1 bt413.2.1 bt413.2.2.1 bt413.2.2.2).bind fun t417 => (if (Int.tmod a4 6) = 0 then (tenementlaw19_GateReads.j0 k bt411.1 true) else (if (Int.tmod a4 6) = 1 then ((tenementlaw19_bend.f bt411.1 a5 a6).bind fun t418 => (tenementlaw19_GateReads.j0 k t418 true)) else (if (Int.tmod a4 6) = 2 then (if bt411.1.size + a3.size ≤ 9223372036854775807 then (tenementlaw19_GateReads.j0 k (bt411.1 ++ a3) true) else (none)) else (if (Int.tmod a4 6) = 3 then (tenementlaw19_GateReads.j0 k t417 true) else (if (Int.tmod a4 6) = 4 then ((tenementlaw19_bend.f t417 a5 a6).bind fun t419 => (tenementlaw19_GateReads.j0 k t419 true)) else (tenementlaw19_GateReads.j0 k a3 true))))))))))) = some r := by rw [if_pos rfl] at H; exact H
  clear H
  have H := H1
  clear H1
  replace H := Option.bind_eq_some_iff.mp H
  obtain ⟨⟨t395, t396, t397, t398, t399, t400, t401, t402⟩, A100, H⟩ := H
  replace H : ((tenementlaw19_refRequest.f t395 t396 t397 t398 t399 t400 t401 t402).bind fun bt403 => ((tenementref19_Put.f k bt403.1 bt403.2.1 bt403.2.2.1 bt403.2.2.2.1 bt403.2.2.2.2.1 bt403.2.2.2.2.2.1 bt403.2.2.2.2.2.2.1 bt403.2.2.2.2.2.2.2).bind fun bt411 => ((tenementlaw19_Vector_vector.f k a2_0 a2_1 a2_2 a2_3 a2_4).bind fun bt413 => ((tenementref19_Answer.f k (wrap64 (a6)) a1 ((Int.tmod a6 2) == 1) bt413.1 bt413.2.1 bt413.2.2.1 bt413.2.2.2).bind fun t417 => (if (Int.tmod a4 6) = 0 then (tenementlaw19_GateReads.j0 k bt411.1 true) else (if (Int.tmod a4 6) = 1 then ((tenementlaw19_bend.f bt411.1 a5 a6).bind fun t418 => (tenementlaw19_GateReads.j0 k t418 true)) else (if (Int.tmod a4 6) = 2 then (if bt411.1.size + a3.size ≤ 9223372036854775807 then (tenementlaw19_GateReads.j0 k (bt411.1 ++ a3) true) else (none)) else (if (Int.tmod a4 6) = 3 then (tenementlaw19_GateReads.j0 k t417 true) else (if (Int.tmod a4 6) = 4 then ((tenementlaw19_bend.f t417 a5 a6).bind fun t419 => (tenementlaw19_GateReads.j0 k t419 true)) else (tenementlaw19_GateReads.j0 k a3 true)))))))))) = some r := H
  have A10 := Aside0.mk A100
  clear A100
  replace H := Option.bind_eq_some_iff.mp H
  obtain ⟨⟨t403, t404, t405, t406, t407, t408, t409, t410⟩, A110, H⟩ := H
  replace H : ((tenementref19_Put.f k t403 t404 t405 t406 t407 t408 t409 t410).bind fun bt411 => ((tenementlaw19_Vector_vector.f k a2_0 a2_1 a2_2 a2_3 a2_4).bind fun bt413 => ((tenementref19_Answer.f k (wrap64 (a6)) a1 ((Int.tmod a6 2) == 1) bt413.1 bt413.2.1 bt413.2.2.1 bt413.2.2.2).bind fun t417 => (if (Int.tmod a4 6) = 0 then (tenementlaw19_GateReads.j0 k bt411.1 true) else (if (Int.tmod a4 6) = 1 then ((tenementlaw19_bend.f bt411.1 a5 a6).bind fun t418 => (tenementlaw19_GateReads.j0 k t418 true)) else (if (Int.tmod a4 6) = 2 then (if bt411.1.size + a3.size ≤ 9223372036854775807 then (tenementlaw19_GateReads.j0 k (bt411.1 ++ a3) true) else (none)) else (if (Int.tmod a4 6) = 3 then (tenementlaw19_GateReads.j0 k t417 true) else (if (Int.tmod a4 6) = 4 then ((tenementlaw19_bend.f t417 a5 a6).bind fun t419 => (tenementlaw19_GateReads.j0 k t419 true)) else (tenementlaw19_GateReads.j0 k a3 true))))))))) = some r := H
  have A11 := Aside0.mk A110
  clear A110
  replace H := Option.bind_eq_some_iff.mp H
  obtain ⟨⟨t411, t412⟩, A120, H⟩ := H
  replace H : ((tenementlaw19_Vector_vector.f k a2_0 a2_1 a2_2 a2_3 a2_4).bind fun bt413 => ((tenementref19_Answer.f k (wrap64 (a6)) a1 ((Int.tmod a6 2) == 1) bt413.1 bt413.2.1 bt413.2.2.1 bt413.2.2.2).bind fun t417 => (if (Int.tmod a4 6) = 0 then (tenementlaw19_GateReads.j0 k t411 true) else (if (Int.tmod a4 6) = 1 then ((tenementlaw19_bend.f t411 a5 a6).bind fun t418 => (tenementlaw19_GateReads.j0 k t418 true)) else (if (Int.tmod a4 6) = 2 then (if t411.size + a3.size ≤ 9223372036854775807 then (tenementlaw19_GateReads.j0 k (t411 ++ a3) true) else (none)) else (if (Int.tmod a4 6) = 3 then (tenementlaw19_GateReads.j0 k t417 true) else (if (Int.tmod a4 6) = 4 then ((tenementlaw19_bend.f t417 a5 a6).bind fun t419 => (tenementlaw19_GateReads.j0 k t419 true)) else (tenementlaw19_GateReads.j0 k a3 true)))))))) = some r := H
  have A12 := Aside0.mk A120
  clear A120
  replace H := Option.bind_eq_some_iff.mp H
  obtain ⟨⟨t413, t414, t415, t416⟩, A130, H⟩ := H
  replace H : ((tenementref19_Answer.f k (wrap64 (a6)) a1 ((Int.tmod a6 2) == 1) t413 t414 t415 t416).bind fun t417 => (if (Int.tmod a4 6) = 0 then (tenementlaw19_GateReads.j0 k t411 true) else (if (Int.tmod a4 6) = 1 then ((tenementlaw19_bend.f t411 a5 a6).bind fun t418 => (tenementlaw19_GateReads.j0 k t418 true)) else (if (Int.tmod a4 6) = 2 then (if t411.size + a3.size ≤ 9223372036854775807 then (tenementlaw19_GateReads.j0 k (t411 ++ a3) true) else (none)) else (if (Int.tmod a4 6) = 3 then (tenementlaw19_GateReads.j0 k t417 true) else (if (Int.tmod a4 6) = 4 then ((tenementlaw19_bend.f t417 a5 a6).bind fun t419 => (tenementlaw19_GateReads.j0 k t419 true)) else (tenementlaw19_GateReads.j0 k a3 true))))))) = some r := H
  have A13 := Aside0.mk A130
  clear A130
  replace H := Option.bind_eq_some_iff.mp H
  obtain ⟨t417, A140, H⟩ := H
  replace H : (if (Int.tmod a4 6) = 0 then (tenementlaw19_GateReads.j0 k t411 true) else (if (Int.tmod a4 6) = 1 then ((tenementlaw19_bend.f t411 a5 a6).bind fun t418 => (tenementlaw19_GateReads.j0 k t418 true)) else (if (Int.tmod a4 6) = 2 then (if t411.size + a3.size ≤ 9223372036854775807 then (tenementlaw19_GateReads.j0 k (t411 ++ a3) true) else (none)) else (if (Int.tmod a4 6) = 3 then (tenementlaw19_GateReads.j0 k t417 true) else (if (Int.tmod a4 6) = 4 then ((tenementlaw19_bend.f t417 a5 a6).bind fun t419 => (tenementlaw19_GateReads.j0 k t419 true)) else (tenementlaw19_GateReads.j0 k a3 true)))))) = some r := H
  have A14 := Aside0.mk A140
  clear A140
  have HC15 := Aside0.mk H
  clear H
  go_enter Try.func4, Try.ntmps4
  go_upto_block 0 with (first | ((with_reducible refine gate_dst (N := 7) rfl ?_); refine box_event ?hg (N := 7) ?hd (cs := #[.string a0_0, .int .i64 a0_1, .int .i64 a0_2, .int .i64 a0_3, .int .i64 a0_4, .string a0_5, .string a0_6, .string a0_7, .bool a0_8]) (t := 25) ?hr ?_; (case hd => rfl); (case hg => rfl); (case hr => first | (go_simp; done) | (go_simp; rfl)); intro gb392 hg w16 hbox hb; have BK392 := Aside0.mk (hbox); have GW392 := Kw_ HB hg; have GE392 := GW392; replace HB := Ks_ HB hb; clear hb hbox hg) | ((with_reducible refine gate_dst (N := 9) rfl ?_); refine box_event ?hg (N := 9) ?hd (cs := #[.int .u64 a2_0, .int .u64 a2_1, .int .u64 a2_2, .int .u64 a2_3, .bool a2_4]) (t := 30) ?hr ?_; (case hd => rfl); (case hg => rfl); (case hr => first | (go_simp; done) | (go_simp; rfl)); intro gb393 hg w17 hbox hb; have BK393 := Aside0.mk (hbox); have GW393 := Kw_ HB hg; have GE393 := GW393; have NB392_393 := Kl_ BK392 hg; have NB393_392 := Kr_ BK392 hg; replace BK392 := Kb_ BK392 hb; replace HB := Ks_ HB hb; clear hb hbox hg) | ((with_reducible refine gate_callee (f := 9) rfl ?_); refine goesL_ (some 27) rfl rfl Try.func9 (by kernel_rfl) rfl #[] rfl (by (try simp only [List.map_toArray, List.map_cons, List.map_nil]); first | done | rfl | (simp only [List.length_drop, List.length_take]; rfl)) ?_; (with_reducible refine (tenementlaw19_examples.calls k  true _ A8.out).mono ?_); rintro e w18 ⟨rfl, hb⟩; refine ⟨_, rfl, ?_⟩; replace BK392 := Kb_ BK392 hb; replace BK393 := Kb_ BK393 hb; replace HB := Ks_ HB hb; (try clear hb); (try clear hb2); (try clear hk); (try clear hi); have hnb19 := NB392_393.out; have hnc19 := NB393_392.out; obtain ⟨hcz20_0, hcz20_1, hcz20_2, hcz20_3, hcz20_4, hcz20_5, hcz20_6, hcz20_7, hcz20_8, hfz20_0, hfz20_1, hfz20_2, hfz20_3, hfz20_4, hfz20_5, hfz20_6, hfz20_7, hfz20_8⟩ := Ke9_ BK392.out) | ((with_reducible refine gate_callee (f := 10) rfl ?_); refine goesL_ (some 33) rfl rfl Try.func10 (by kernel_rfl) rfl #[.agg #[.string a0_0, .int .i64 a0_1, .int .i64 a0_2, .int .i64 a0_3, .int .i64 a0_4, .string a0_5, .string a0_6, .string a0_7, .bool true]] rfl (by (try simp only [List.map_toArray, List.map_cons, List.map_nil]); first | done | rfl | (simp only [List.length_drop, List.length_take]; rfl)) ?_; (with_reducible refine (tenementlaw19_Asked_request.calls a0_0 a0_1 a0_2 a0_3 a0_4 a0_5 a0_6 a0_7 true t395 t396 t397 t398 t399 t400 t401 t402 _ A10.out).mono ?_); rintro e w21 ⟨rfl, hb⟩; refine ⟨_, rfl, ?_⟩; replace BK392 := Aside0.mk (blk_below (g := gb392) (o := .cells #[.string a0_0, .int .i64 a0_1, .int .i64 a0_2, .int .i64 a0_3, .int .i64 a0_4, .string a0_5, .string a0_6, .string a0_7, .bool true] 25 (0, 0)) (by (with_reducible repeat (first | refine blk_drewN ?_ _ | refine blk_drew ?_ | refine blk_alloc ?_ _)); refine blk_put (cs := #[.string a0_0, .int .i64 a0_1, .int .i64 a0_2, .int .i64 a0_3, .int .i64 a0_4, .string a0_5, .string a0_6, .string a0_7, .bool a0_8]) ?_ 8 _ rfl; (with_reducible repeat (first | refine blk_drewN ?_ _ | refine blk_drew ?_ | refine blk_alloc ?_ _)); exact BK392.out) hb); replace BK393 := Kf_ BK393 NB393_392 hb; replace HB := Kt_ HB GE392 hb; (try clear hb); (try clear hb2); (try clear hk); (try clear hi)) | ((with_reducible refine gate_callee (f := 13) rfl ?_); refine goesL_ (some 34) rfl rfl Try.func13 (by kernel_rfl) rfl #[.agg #[.string t395, .int .i64 t396, .int .i64 t397, .int .i64 t398, .int .i64 t399, .string t400, .string t401, .string t402]] rfl (by (try simp only [List.map_toArray, List.map_cons, List.map_nil]); first | done | rfl | (simp only [List.length_drop, List.length_take]; rfl)) ?_; (with_reducible refine (tenementlaw19_refRequest.calls t395 t396 t397 t398 t399 t400 t401 t402 t403 t404 t405 t406 t407 t408 t409 t410 _ A11.out).mono ?_); rintro e w22 ⟨rfl, hb⟩; refine ⟨_, rfl, ?_⟩; replace BK392 := Kb_ BK392 hb; replace BK393 := Kb_ BK393 hb; replace HB := Ks_ HB hb; (try clear hb); (try clear hb2); (try clear hk); (try clear hi)) | ((with_reducible refine gate_callee (f := 12) rfl ?_); refine goesL_ (some 35) rfl rfl Try.func12 (by kernel_rfl) rfl #[.agg #[.string t403, .int .i64 t404, .int .i64 t405, .int .i64 t406, .int .i64 t407, .string t408, .string t409, .string t410]] rfl (by (try simp only [List.map_toArray, List.map_cons, List.map_nil]); first | done | rfl | (simp only [List.length_drop, List.length_take]; rfl)) ?_; (with_reducible refine (tenementref19_Put.calls k t403 t404 t405 t406 t407 t408 t409 t410 t411 t412 _ A12.out).mono ?_); rintro e w23 ⟨rfl, hb⟩; refine ⟨_, rfl, ?_⟩; replace BK392 := Kb_ BK392 hb; replace BK393 := Kb_ BK393 hb; replace HB := Ks_ HB hb; (try clear hb); (try clear hb2); (try clear hk); (try clear hi); obtain ⟨hcz24_0, hcz24_1, hcz24_2, hcz24_3, hcz24_4, hfz24_0, hfz24_1, hfz24_2, hfz24_3, hfz24_4⟩ := Ke5_ BK393.out) | ((with_reducible refine gate_callee (f := 14) rfl ?_); refine goesL_ (some 45) rfl rfl Try.func14 (by kernel_rfl) rfl #[.agg #[.int .u64 a2_0, .int .u64 a2_1, .int .u64 a2_2, .int .u64 a2_3, .bool a2_4]] rfl (by (try simp only [List.map_toArray, List.map_cons, List.map_nil]); first | done | rfl | (simp only [List.length_drop, List.length_take]; rfl)) ?_; (with_reducible refine (tenementlaw19_Vector_vector.calls k a2_0 a2_1 a2_2 a2_3 a2_4 t413 t414 t415 t416 _ A13.out).mono ?_); rintro e w25 ⟨rfl, hb⟩; refine ⟨_, rfl, ?_⟩; replace BK392 := Kb_ BK392 hb; replace BK393 := Kb_ BK393 hb; replace HB := Ks_ HB hb; (try clear hb); (try clear hb2); (try clear hk); (try clear hi)) | ((with_reducible refine gate_callee (f := 18) rfl ?_); refine goesL_ (some 47) rfl rfl Try.func18 (by kernel_rfl) rfl #[.agg #[.int .i64 (wrap64 (a6)), .string a1, .bool ((Int.tmod a6 2) == 1), .int .u64 t413, .int .u64 t414, .int .u64 t415, .int .u64 t416]] rfl (by (try simp only [List.map_toArray, List.map_cons, List.map_nil]); first | done | rfl | (simp only [List.length_drop, List.length_take]; rfl)) ?_; (with_reducible refine (tenementref19_Answer.calls k (wrap64 (a6)) a1 ((Int.tmod a6 2) == 1) t413 t414 t415 t416 t417 _ A14.out).mono ?_); rintro e w26 ⟨rfl, hb⟩; refine ⟨_, rfl, ?_⟩; replace BK392 := Kb_ BK392 hb; replace BK393 := Kb_ BK393 hb; replace HB := Ks_ HB hb; (try clear hb); (try clear hb2); (try clear hk); (try clear hi)))
  (try simp only [Act.put, List.setIfInBounds_toArray, List.set_cons_zero, List.set_cons_succ])
  go_cut [3] (fun v3 wc => ∃ (kq : Nat) (x3_14 : ByteArray), v3 = .string x3_14 ∧ Aside0 (tenementlaw19_GateReads.j0 kq x3_14 true = some r) ∧ Aside0 (kq ≤ k) ∧ Aside0 (wc.heap[gb392]? = some (.cells #[.string a0_0, .int .i64 a0_1, .int .i64 a0_2, .int .i64 a0_3, .int .i64 a0_4, .string a0_5, .string a0_6, .string a0_7, .bool true] 25 (0, 0))) ∧ Aside0 (wc.heap[gb393]? = some (.cells #[.int .u64 a2_0, .int .u64 a2_1, .int .u64 a2_2, .int .u64 a2_3, .bool a2_4] 30 (0, 0))) ∧ Aside0 (Below w.heap.size w wc))
  case first =>
    have H := HC15.out
    clear HC15
    by_cases c27 : (Int.tmod a4 6) = 0
    · rw [if_pos c27] at H
      have c27b0 : ((Int.tmod a4 6) == 0) = true := beq_iff_eq.mpr c27
      have c27b1 : ((Int.tmod a4 6) != 0) = false := bne_eq_false_iff_eq.mpr c27
      clear c27
      (first | rw [c27b0] | (simp only [i64_w, i32_w]; rw [c27b0]) | skip)
      have H' := Aside0.mk H
      clear H
      go_wp2
      go_meet
      case rel => exact ⟨_, (t411), (by first | rfl | (simp; done) | (simp [*]; done)), H', ⟨by first | omega | exact Nat.le_refl _⟩, ⟨by (with_reducible repeat (first | refine blk_drewN ?_ _ | refine blk_drew ?_ | refine blk_alloc ?_ _)); exact BK392.out⟩, ⟨by (with_reducible repeat (first | refine blk_drewN ?_ _ | refine blk_drew ?_ | refine blk_alloc ?_ _)); exact BK393.out⟩, ⟨by repeat (first | (with_reducible first | exact HB.out | apply below_alloc | apply pw_below_drewN | apply below_drew1 | refine below_set ?_ GE392.out | refine below_set ?_ GE393.out) | exact HB.out)⟩⟩
    rw [if_neg c27] at H
    have c27b0 : ((Int.tmod a4 6) == 0) = false := beq_eq_false_iff_ne.mpr c27
    have c27b1 : ((Int.tmod a4 6) != 0) = true := bne_iff_ne.mpr c27
    (first | rw [c27b0] | (simp only [i64_w, i32_w]; rw [c27b0]) | skip)
    by_cases c28 : (Int.tmod a4 6) = 1
    · rw [if_pos c28] at H
      have c28b0 : ((Int.tmod a4 6) == 1) = true := beq_iff_eq.mpr c28
      have c28b1 : ((Int.tmod a4 6) != 1) = false := bne_eq_false_iff_eq.mpr c28
      clear c28
      replace H := Option.bind_eq_some_iff.mp H
      obtain ⟨t418, A290, H⟩ := H
      replace H : (tenementlaw19_GateReads.j0 k t418 true) = some r := H
      have A29 := Aside0.mk A290
      clear A290
      have H' := Aside0.mk H
      clear H
      go_wp2_with (first | ((with_reducible refine gate_callee (f := 20) rfl ?_); refine goesL_ (some 58) rfl rfl Try.func20 (by kernel_rfl) rfl #[.string t411, .int .i64 a5, .int .u8 a6] rfl (by (try simp only [List.map_toArray, List.map_cons, List.map_nil]); first | done | rfl | (simp only [List.length_drop, List.length_take]; rfl)) ?_; (with_reducible refine (tenementlaw19_bend.calls t411 a5 a6 t418 _ A29.out).mono ?_); rintro e w30 ⟨rfl, hb⟩; refine ⟨_, rfl, ?_⟩; replace BK392 := Kb_ BK392 hb; replace BK393 := Kb_ BK393 hb; replace HB := Ks_ HB hb; (try clear hb); (try clear hb2); (try clear hk); (try clear hi)))
      go_meet
      case rel => exact ⟨_, (t418), (by first | rfl | (simp; done) | (simp [*]; done)), H', ⟨by first | omega | exact Nat.le_refl _⟩, ⟨by (with_reducible repeat (first | refine blk_drewN ?_ _ | refine blk_drew ?_ | refine blk_alloc ?_ _)); exact BK392.out⟩, ⟨by (with_reducible repeat (first | refine blk_drewN ?_ _ | refine blk_drew ?_ | refine blk_alloc ?_ _)); exact BK393.out⟩, ⟨by repeat (first | (with_reducible first | exact HB.out | apply below_alloc | apply pw_below_drewN | apply below_drew1 | refine below_set ?_ GE392.out | refine below_set ?_ GE393.out) | exact HB.out)⟩⟩
    rw [if_neg c28] at H
    have c28b0 : ((Int.tmod a4 6) == 1) = false := beq_eq_false_iff_ne.mpr c28
    have c28b1 : ((Int.tmod a4 6) != 1) = true := bne_iff_ne.mpr c28
    by_cases c31 : (Int.tmod a4 6) = 2
    · rw [if_pos c31] at H
      have c31b0 : ((Int.tmod a4 6) == 2) = true := beq_iff_eq.mpr c31
      have c31b1 : ((Int.tmod a4 6) != 2) = false := bne_eq_false_iff_eq.mpr c31
      clear c31
      by_cases c32 : t411.size + a3.size ≤ 9223372036854775807
      rotate_left
      · rw [if_neg c32] at H
        exact absurd H (by simp)
      rw [if_pos c32] at H
      have c32b0 := eq_true c32
      have c32b1 : decide (t411.size + a3.size ≤ 9223372036854775807) = true := decide_eq_true c32
      try have c32b2 : (9223372036854775807 < t411.size + a3.size) = False := eq_false (Nat.not_lt.2 c32)
      have H' := Aside0.mk H
      clear H
      go_wp2
      go_meet
      case rel => exact ⟨_, (t411 ++ a3), (by first | rfl | (simp; done) | (simp [*]; done)), H', ⟨by first | omega | exact Nat.le_refl _⟩, ⟨by (with_reducible repeat (first | refine blk_drewN ?_ _ | refine blk_drew ?_ | refine blk_alloc ?_ _)); exact BK392.out⟩, ⟨by (with_reducible repeat (first | refine blk_drewN ?_ _ | refine blk_drew ?_ | refine blk_alloc ?_ _)); exact BK393.out⟩, ⟨by repeat (first | (with_reducible first | exact HB.out | apply below_alloc | apply pw_below_drewN | apply below_drew1 | refine below_set ?_ GE392.out | refine below_set ?_ GE393.out) | exact HB.out)⟩⟩
    rw [if_neg c31] at H
    have c31b0 : ((Int.tmod a4 6) == 2) = false := beq_eq_false_iff_ne.mpr c31
    have c31b1 : ((Int.tmod a4 6) != 2) = true := bne_iff_ne.mpr c31
    by_cases c33 : (Int.tmod a4 6) = 3
    · rw [if_pos c33] at H
      have c33b0 : ((Int.tmod a4 6) == 3) = true := beq_iff_eq.mpr c33
      have c33b1 : ((Int.tmod a4 6) != 3) = false := bne_eq_false_iff_eq.mpr c33
      clear c33
      have H' := Aside0.mk H
      clear H
      go_wp2
      go_meet
      case rel => exact ⟨_, (t417), (by first | rfl | (simp; done) | (simp [*]; done)), H', ⟨by first | omega | exact Nat.le_refl _⟩, ⟨by (with_reducible repeat (first | refine blk_drewN ?_ _ | refine blk_drew ?_ | refine blk_alloc ?_ _)); exact BK392.out⟩, ⟨by (with_reducible repeat (first | refine blk_drewN ?_ _ | refine blk_drew ?_ | refine blk_alloc ?_ _)); exact BK393.out⟩, ⟨by repeat (first | (with_reducible first | exact HB.out | apply below_alloc | apply pw_below_drewN | apply below_drew1 | refine below_set ?_ GE392.out | refine below_set ?_ GE393.out) | exact HB.out)⟩⟩
    rw [if_neg c33] at H
    have c33b0 : ((Int.tmod a4 6) == 3) = false := beq_eq_false_iff_ne.mpr c33
    have c33b1 : ((Int.tmod a4 6) != 3) = true := bne_iff_ne.mpr c33
    by_cases c34 : (Int.tmod a4 6) = 4
    rotate_left
    · rw [if_neg c34] at H
      have c34b0 : ((Int.tmod a4 6) == 4) = false := beq_eq_false_iff_ne.mpr c34
      have c34b1 : ((Int.tmod a4 6) != 4) = true := bne_iff_ne.mpr c34
      have H' := Aside0.mk H
      clear H
      go_wp2
      go_meet
      case rel => exact ⟨_, (a3), (by first | rfl | (simp; done) | (simp [*]; done)), H', ⟨by first | omega | exact Nat.le_refl _⟩, ⟨by (with_reducible repeat (first | refine blk_drewN ?_ _ | refine blk_drew ?_ | refine blk_alloc ?_ _)); exact BK392.out⟩, ⟨by (with_reducible repeat (first | refine blk_drewN ?_ _ | refine blk_drew ?_ | refine blk_alloc ?_ _)); exact BK393.out⟩, ⟨by repeat (first | (with_reducible first | exact HB.out | apply below_alloc | apply pw_below_drewN | apply below_drew1 | refine below_set ?_ GE392.out | refine below_set ?_ GE393.out) | exact HB.out)⟩⟩
    rw [if_pos c34] at H
    have c34b0 : ((Int.tmod a4 6) == 4) = true := beq_iff_eq.mpr c34
    have c34b1 : ((Int.tmod a4 6) != 4) = false := bne_eq_false_iff_eq.mpr c34
    clear c34
    replace H := Option.bind_eq_some_iff.mp H
    obtain ⟨t419, A350, H⟩ := H
    replace H : (tenementlaw19_GateReads.j0 k t419 true) = some r := H
    have A35 := Aside0.mk A350
    clear A350
    have H' := Aside0.mk H
    clear H
    go_wp2_with (first | ((with_reducible refine gate_callee (f := 20) rfl ?_); refine goesL_ (some 72) rfl rfl Try.func20 (by kernel_rfl) rfl #[.string t417, .int .i64 a5, .int .u8 a6] rfl (by (try simp only [List.map_toArray, List.map_cons, List.map_nil]); first | done | rfl | (simp only [List.length_drop, List.length_take]; rfl)) ?_; (with_reducible refine (tenementlaw19_bend.calls t417 a5 a6 t419 _ A35.out).mono ?_); rintro e w36 ⟨rfl, hb⟩; refine ⟨_, rfl, ?_⟩; replace BK392 := Kb_ BK392 hb; replace BK393 := Kb_ BK393 hb; replace HB := Ks_ HB hb; (try clear hb); (try clear hb2); (try clear hk); (try clear hi)))
    go_meet
    case rel => exact ⟨_, (t419), (by first | rfl | (simp; done) | (simp [*]; done)), H', ⟨by first | omega | exact Nat.le_refl _⟩, ⟨by (with_reducible repeat (first | refine blk_drewN ?_ _ | refine blk_drew ?_ | refine blk_alloc ?_ _)); exact BK392.out⟩, ⟨by (with_reducible repeat (first | refine blk_drewN ?_ _ | refine blk_drew ?_ | refine blk_alloc ?_ _)); exact BK393.out⟩, ⟨by repeat (first | (with_reducible first | exact HB.out | apply below_alloc | apply pw_below_drewN | apply below_drew1 | refine below_set ?_ GE392.out | refine below_set ?_ GE393.out) | exact HB.out)⟩⟩
  case rest =>
    clear HC15
    try clear c1
    try clear c2
    try clear p2
    try clear c3
    try clear c4
    try clear p6
    try clear c9
    try clear c10
    try clear c12
    try clear c13
    try clear c14
    try clear c18
    try clear c19
    try clear c20
    try clear c27
    try clear c27b0
    try clear c27b1
    try clear c28
    try clear c28b0
    try clear c28b1
    try clear c31
    try clear c31b0
    try clear c31b1
    try clear c32
    try clear c32b0
    try clear c32b1
    try clear c32b2
    try clear c33
    try clear c33b0
    try clear c33b1
    try clear c34
    try clear c34b0
    try clear c34b1
    try clear hcz20_0
    try clear hcz20_1
    try clear hcz20_2
    try clear hcz20_3
    try clear hcz20_4
    try clear hcz20_5
    try clear hcz20_6
    try clear hcz20_7
    try clear hcz20_8
    try clear hcz24_0
    try clear hcz24_1
    try clear hcz24_2
    try clear hcz24_3
    try clear hcz24_4
    try clear hfz20_0
    try clear hfz20_1
    try clear hfz20_2
    try clear hfz20_3
    try clear hfz20_4
    try clear hfz20_5
    try clear hfz20_6
    try clear hfz20_7
    try clear hfz20_8
    try clear hfz24_0
    try clear hfz24_1
    try clear hfz24_2
    try clear hfz24_3
    try clear hfz24_4
    obtain ⟨kq, x3_14, rfl, HA, HJ14, BK392, BK393, HB⟩ := hcut
    cases kq with
    | zero => exact absurd HA.out (by simp [tenementlaw19_GateReads.j0])
    | succ kj14 =>
      have H := HA.out
      clear HA
      simp only [tenementlaw19_GateReads.j0] at H
      replace H := Option.bind_eq_some_iff.mp H
      obtain ⟨⟨t420, t421, t422, t423, t424, t425, t426, t427, t428⟩, A370, H⟩ := H
      replace H : ((tenementref19_Get.f kj14 x3_14).bind fun bt430 => ((gate_Read.f kj14 x3_14).bind fun bt440 => ((tenementref19_Read.f kj14 x3_14).bind fun bt449 => (if true = true then ((tenementlaw19_refRequest.f t420 t421 t422 t423 t424 t425 t426 t427).bind fun bt458 => (if (bt458.1.toList == bt430.1.toList && (bt458.2.1 == bt430.2.1 && (bt458.2.2.1 == bt430.2.2.1 && (bt458.2.2.2.1 == bt430.2.2.2.1 && (bt458.2.2.2.2.1 == bt430.2.2.2.2.1 && (bt458.2.2.2.2.2.1.toList == bt430.2.2.2.2.2.1.toList && (bt458.2.2.2.2.2.2.1.toList == bt430.2.2.2.2.2.2.1.toList && (bt458.2.2.2.2.2.2.2.toList == bt430.2.2.2.2.2.2.2.1.toList)))))))) = true then (if t428 = bt430.2.2.2.2.2.2.2.2 then ((tenementlaw19_refResponse.f bt440.1 bt440.2.1 bt440.2.2.1 bt440.2.2.2.1 bt440.2.2.2.2.1 bt440.2.2.2.2.2.1 bt440.2.2.2.2.2.2.1).bind fun bt466 => (if (bt466.1 == bt449.1 && (bt466.2.1.toList == bt449.2.1.toList && (bt466.2.2.1 == bt449.2.2.1 && ((bt466.2.2.2.1 == bt449.2.2.2.1 && (bt466.2.2.2.2.1 == bt449.2.2.2.2.1 && (bt466.2.2.2.2.2.1 == bt449.2.2.2.2.2.1 && (bt466.2.2.2.2.2.2 == bt449.2.2.2.2.2.2.1)))))))) = true then (if bt440.2.2.2.2.2.2.2 = bt449.2.2.2.2.2.2.2 then (some true) else (none)) else (none))) else (none)) else (none))) else (none))))) = some r := H
      have A37 := Aside0.mk A370
      clear A370
      replace H := Option.bind_eq_some_iff.mp H
      obtain ⟨⟨t430, t431, t432, t433, t434, t435, t436, t437, t438⟩, A380, H⟩ := H
      replace H : ((gate_Read.f kj14 x3_14).bind fun bt440 => ((tenementref19_Read.f kj14 x3_14).bind fun bt449 => (if true = true then ((tenementlaw19_refRequest.f t420 t421 t422 t423 t424 t425 t426 t427).bind fun bt458 => (if (bt458.1.toList == t430.toList && (bt458.2.1 == t431 && (bt458.2.2.1 == t432 && (bt458.2.2.2.1 == t433 && (bt458.2.2.2.2.1 == t434 && (bt458.2.2.2.2.2.1.toList == t435.toList && (bt458.2.2.2.2.2.2.1.toList == t436.toList && (bt458.2.2.2.2.2.2.2.toList == t437.toList)))))))) = true then (if t428 = t438 then ((tenementlaw19_refResponse.f bt440.1 bt440.2.1 bt440.2.2.1 bt440.2.2.2.1 bt440.2.2.2.2.1 bt440.2.2.2.2.2.1 bt440.2.2.2.2.2.2.1).bind fun bt466 => (if (bt466.1 == bt449.1 && (bt466.2.1.toList == bt449.2.1.toList && (bt466.2.2.1 == bt449.2.2.1 && ((bt466.2.2.2.1 == bt449.2.2.2.1 && (bt466.2.2.2.2.1 == bt449.2.2.2.2.1 && (bt466.2.2.2.2.2.1 == bt449.2.2.2.2.2.1 && (bt466.2.2.2.2.2.2 == bt449.2.2.2.2.2.2.1)))))))) = true then (if bt440.2.2.2.2.2.2.2 = bt449.2.2.2.2.2.2.2 then (some true) else (none)) else (none))) else (none)) else (none))) else (none)))) = some r := H
      have A38 := Aside0.mk A380
      clear A380
      replace H := Option.bind_eq_some_iff.mp H
      obtain ⟨⟨t440, t441, t442, t443, t444, t445, t446, t447⟩, A390, H⟩ := H
      replace H : ((tenementref19_Read.f kj14 x3_14).bind fun bt449 => (if true = true then ((tenementlaw19_refRequest.f t420 t421 t422 t423 t424 t425 t426 t427).bind fun bt458 => (if (bt458.1.toList == t430.toList && (bt458.2.1 == t431 && (bt458.2.2.1 == t432 && (bt458.2.2.2.1 == t433 && (bt458.2.2.2.2.1 == t434 && (bt458.2.2.2.2.2.1.toList == t435.toList && (bt458.2.2.2.2.2.2.1.toList == t436.toList && (bt458.2.2.2.2.2.2.2.toList == t437.toList)))))))) = true then (if t428 = t438 then ((tenementlaw19_refResponse.f t440 t441 t442 t443 t444 t445 t446).bind fun bt466 => (if (bt466.1 == bt449.1 && (bt466.2.1.toList == bt449.2.1.toList && (bt466.2.2.1 == bt449.2.2.1 && ((bt466.2.2.2.1 == bt449.2.2.2.1 && (bt466.2.2.2.2.1 == bt449.2.2.2.2.1 && (bt466.2.2.2.2.2.1 == bt449.2.2.2.2.2.1 && (bt466.2.2.2.2.2.2 == bt449.2.2.2.2.2.2.1)))))))) = true then (if t447 = bt449.2.2.2.2.2.2.2 then (some true) else (none)) else (none))) else (none)) else (none))) else (none))) = some r := H
      have A39 := Aside0.mk A390
      clear A390
      replace H := Option.bind_eq_some_iff.mp H
      obtain ⟨⟨t449, t450, t451, t452, t453, t454, t455, t456⟩, A400, H⟩ := H
      replace H : (if true = true then ((tenementlaw19_refRequest.f t420 t421 t422 t423 t424 t425 t426 t427).bind fun bt458 => (if (bt458.1.toList == t430.toList && (bt458.2.1 == t431 && (bt458.2.2.1 == t432 && (bt458.2.2.2.1 == t433 && (bt458.2.2.2.2.1 == t434 && (bt458.2.2.2.2.2.1.toList == t435.toList && (bt458.2.2.2.2.2.2.1.toList == t436.toList && (bt458.2.2.2.2.2.2.2.toList == t437.toList)))))))) = true then (if t428 = t438 then ((tenementlaw19_refResponse.f t440 t441 t442 t443 t444 t445 t446).bind fun bt466 => (if (bt466.1 == t449 && (bt466.2.1.toList == t450.toList && (bt466.2.2.1 == t451 && ((bt466.2.2.2.1 == t452 && (bt466.2.2.2.2.1 == t453 && (bt466.2.2.2.2.2.1 == t454 && (bt466.2.2.2.2.2.2 == t455)))))))) = true then (if t447 = t456 then (some true) else (none)) else (none))) else (none)) else (none))) else (none)) = some r := H
      have A40 := Aside0.mk A400
      clear A400
      replace H : ((tenementlaw19_refRequest.f t420 t421 t422 t423 t424 t425 t426 t427).bind fun bt458 => (if (bt458.1.toList == t430.toList && (bt458.2.1 == t431 && (bt458.2.2.1 == t432 && (bt458.2.2.2.1 == t433 && (bt458.2.2.2.2.1 == t434 && (bt458.2.2.2.2.2.1.toList == t435.toList && (bt458.2.2.2.2.2.2.1.toList == t436.toList && (bt458.2.2.2.2.2.2.2.toList == t437.toList)))))))) = true then (if t428 = t438 then ((tenementlaw19_refResponse.f t440 t441 t442 t443 t444 t445 t446).bind fun bt466 => (if (bt466.1 == t449 && (bt466.2.1.toList == t450.toList && (bt466.2.2.1 == t451 && ((bt466.2.2.2.1 == t452 && (bt466.2.2.2.2.1 == t453 && (bt466.2.2.2.2.2.1 == t454 && (bt466.2.2.2.2.2.2 == t455)))))))) = true then (if t447 = t456 then (some true) else (none)) else (none))) else (none)) else (none))) = some r := by first | (rw [if_pos rfl] at H; exact H) | (rw [if_pos trivial] at H; exact H)
      replace H := Option.bind_eq_some_iff.mp H
      obtain ⟨⟨t458, t459, t460, t461, t462, t463, t464, t465⟩, A410, H⟩ := H
      replace H : (if (t458.toList == t430.toList && (t459 == t431 && (t460 == t432 && (t461 == t433 && (t462 == t434 && (t463.toList == t435.toList && (t464.toList == t436.toList && (t465.toList == t437.toList)))))))) = true then (if t428 = t438 then ((tenementlaw19_refResponse.f t440 t441 t442 t443 t444 t445 t446).bind fun bt466 => (if (bt466.1 == t449 && (bt466.2.1.toList == t450.toList && (bt466.2.2.1 == t451 && ((bt466.2.2.2.1 == t452 && (bt466.2.2.2.2.1 == t453 && (bt466.2.2.2.2.2.1 == t454 && (bt466.2.2.2.2.2.2 == t455)))))))) = true then (if t447 = t456 then (some true) else (none)) else (none))) else (none)) else (none)) = some r := H
      have A41 := Aside0.mk A410
      clear A410
      by_cases c42 : (t458.toList == t430.toList && (t459 == t431 && (t460 == t432 && (t461 == t433 && (t462 == t434 && (t463.toList == t435.toList && (t464.toList == t436.toList && (t465.toList == t437.toList)))))))) = true
      rotate_left
      · rw [if_neg c42] at H
        exact absurd H (by simp)
      rw [if_pos c42] at H
      have c42b0 : (t458.toList == t430.toList && (t459 == t431 && (t460 == t432 && (t461 == t433 && (t462 == t434 && (t463.toList == t435.toList && (t464.toList == t436.toList && (t465.toList == t437.toList)))))))) = true := c42
      (try (have c42b1 : decide (t458.toList = t430.toList && (t459 == t431 && (t460 == t432 && (t461 == t433 && (t462 == t434 && (t463.toList == t435.toList && (t464.toList == t436.toList && (t465.toList == t437.toList)))))))) = true := by simpa using c42))
      (try (have c42b2 : (t458.toList == t430.toList && (t459 == t431 && (t460 == t432 && (t461 == t433 && (t462 == t434 && (t463.toList == t435.toList && (t464.toList == t436.toList && (t465.toList == t437.toList)))))))) = true := by simpa using c42))
      clear c42
      by_cases c43 : t428 = t438
      rotate_left
      · rw [if_neg c43] at H
        exact absurd H (by simp)
      rw [if_pos c43] at H
      have c43b0 : (t428 == t438) = true := beq_iff_eq.mpr c43
      have c43b1 : (t428 != t438) = false := bne_eq_false_iff_eq.mpr c43
      clear c43
      replace H := Option.bind_eq_some_iff.mp H
      obtain ⟨⟨t466, t467, t468, t469, t470, t471, t472⟩, A440, H⟩ := H
      replace H : (if (t466 == t449 && (t467.toList == t450.toList && (t468 == t451 && ((t469 == t452 && (t470 == t453 && (t471 == t454 && (t472 == t455)))))))) = true then (if t447 = t456 then (some true) else (none)) else (none)) = some r := H
      have A44 := Aside0.mk A440
      clear A440
      by_cases c45 : (t466 == t449 && (t467.toList == t450.toList && (t468 == t451 && ((t469 == t452 && (t470 == t453 && (t471 == t454 && (t472 == t455)))))))) = true
      rotate_left
      · rw [if_neg c45] at H
        exact absurd H (by simp)
      rw [if_pos c45] at H
      have c45b0 : (t466 == t449 && (t467.toList == t450.toList && (t468 == t451 && ((t469 == t452 && (t470 == t453 && (t471 == t454 && (t472 == t455)))))))) = true := c45
      (try (have c45b1 : decide (t466 = t449 && (t467.toList == t450.toList && (t468 == t451 && ((t469 == t452 && (t470 == t453 && (t471 == t454 && (t472 == t455)))))))) = true := by simpa using c45))
      (try (have c45b2 : (t466 == t449 && (t467.toList == t450.toList && (t468 == t451 && ((t469 == t452 && (t470 == t453 && (t471 == t454 && (t472 == t455)))))))) = true := by simpa using c45))
      clear c45
      by_cases c46 : t447 = t456
      rotate_left
      · rw [if_neg c46] at H
        exact absurd H (by simp)
      subst c46
      have H1 : (some true) = some r := by rw [if_pos rfl] at H; exact H
      clear H
      have H := H1
      clear H1
      obtain rfl := Option.some.inj H
      try go_wp2_with (first | ((with_reducible refine gate_callee (f := 21) rfl ?_); refine goesL_ (some 75) rfl rfl Try.func21 (by kernel_rfl) rfl #[.string x3_14] rfl (by (try simp only [List.map_toArray, List.map_cons, List.map_nil]); first | done | rfl | (simp only [List.length_drop, List.length_take]; rfl)) ?_; (with_reducible refine (gate_Get.calls kj14 x3_14 t420 t421 t422 t423 t424 t425 t426 t427 t428 _ A37.out).mono ?_); rintro e w47 ⟨rfl, hb⟩; refine ⟨_, rfl, ?_⟩; replace BK392 := Kb_ BK392 hb; replace BK393 := Kb_ BK393 hb; replace HB := Ks_ HB hb; (try clear hb); (try clear hb2); (try clear hk); (try clear hi)) | ((with_reducible refine gate_dst (N := 19) rfl ?_); refine box_event ?hg (N := 19) ?hd (cs := #[.string (⟨#[]⟩ : ByteArray), .int .i64 0, .int .i64 0, .int .i64 0, .int .i64 0, .string (⟨#[]⟩ : ByteArray), .string (⟨#[]⟩ : ByteArray), .string (⟨#[]⟩ : ByteArray)]) (t := 23) ?hr ?_; (case hd => rfl); (case hg => rfl); (case hr => first | (go_simp; done) | (go_simp; rfl)); intro gb429 hg w48 hbox hb; have BK429 := Aside0.mk (hbox); have GW429 := Kw_ HB hg; have GE429 := GW429; have NB392_429 := Kl_ BK392 hg; have NB429_392 := Kr_ BK392 hg; have NB393_429 := Kl_ BK393 hg; have NB429_393 := Kr_ BK393 hg; replace BK392 := Kb_ BK392 hb; replace BK393 := Kb_ BK393 hb; replace HB := Ks_ HB hb; clear hb hbox hg; have hnb49 := NB429_392.out; have hnc49 := NB392_429.out; have hnb50 := NB429_393.out; have hnc50 := NB393_429.out; obtain ⟨hcz51_0, hcz51_1, hcz51_2, hcz51_3, hcz51_4, hcz51_5, hcz51_6, hcz51_7, hfz51_0, hfz51_1, hfz51_2, hfz51_3, hfz51_4, hfz51_5, hfz51_6, hfz51_7⟩ := Ke8_ BK429.out) | ((with_reducible refine gate_callee (f := 22) rfl ?_); refine goesL_ (some 80) rfl rfl Try.func22 (by kernel_rfl) rfl #[.string x3_14] rfl (by (try simp only [List.map_toArray, List.map_cons, List.map_nil]); first | done | rfl | (simp only [List.length_drop, List.length_take]; rfl)) ?_; (with_reducible refine (tenementref19_Get.calls kj14 x3_14 t430 t431 t432 t433 t434 t435 t436 t437 t438 _ A38.out).mono ?_); rintro e w52 ⟨rfl, hb⟩; refine ⟨_, rfl, ?_⟩; replace BK392 := Kf_ BK392 NB392_429 hb; replace BK393 := Kf_ BK393 NB393_429 hb; replace BK429 := Aside0.mk (blk_below (g := gb429) (o := .cells #[.string t420, .int .i64 t421, .int .i64 t422, .int .i64 t423, .int .i64 t424, .string t425, .string t426, .string t427] 23 (0, 0)) (by (with_reducible repeat (first | refine blk_drewN ?_ _ | refine blk_drew ?_ | refine blk_alloc ?_ _)); refine blk_put (cs := #[.string t420, .int .i64 t421, .int .i64 t422, .int .i64 t423, .int .i64 t424, .string t425, .string t426, .string (⟨#[]⟩ : ByteArray)]) ?_ 7 _ rfl; (with_reducible repeat (first | refine blk_drewN ?_ _ | refine blk_drew ?_ | refine blk_alloc ?_ _)); refine blk_put (cs := #[.string t420, .int .i64 t421, .int .i64 t422, .int .i64 t423, .int .i64 t424, .string t425, .string (⟨#[]⟩ : ByteArray), .string (⟨#[]⟩ : ByteArray)]) ?_ 6 _ rfl; (with_reducible repeat (first | refine blk_drewN ?_ _ | refine blk_drew ?_ | refine blk_alloc ?_ _)); refine blk_put (cs := #[.string t420, .int .i64 t421, .int .i64 t422, .int .i64 t423, .int .i64 t424, .string (⟨#[]⟩ : ByteArray), .string (⟨#[]⟩ : ByteArray), .string (⟨#[]⟩ : ByteArray)]) ?_ 5 _ rfl; (with_reducible repeat (first | refine blk_drewN ?_ _ | refine blk_drew ?_ | refine blk_alloc ?_ _)); refine blk_put (cs := #[.string t420, .int .i64 t421, .int .i64 t422, .int .i64 t423, .int .i64 0, .string (⟨#[]⟩ : ByteArray), .string (⟨#[]⟩ : ByteArray), .string (⟨#[]⟩ : ByteArray)]) ?_ 4 _ rfl; (with_reducible repeat (first | refine blk_drewN ?_ _ | refine blk_drew ?_ | refine blk_alloc ?_ _)); refine blk_put (cs := #[.string t420, .int .i64 t421, .int .i64 t422, .int .i64 0, .int .i64 0, .string (⟨#[]⟩ : ByteArray), .string (⟨#[]⟩ : ByteArray), .string (⟨#[]⟩ : ByteArray)]) ?_ 3 _ rfl; (with_reducible repeat (first | refine blk_drewN ?_ _ | refine blk_drew ?_ | refine blk_alloc ?_ _)); refine blk_put (cs := #[.string t420, .int .i64 t421, .int .i64 0, .int .i64 0, .int .i64 0, .string (⟨#[]⟩ : ByteArray), .string (⟨#[]⟩ : ByteArray), .string (⟨#[]⟩ : ByteArray)]) ?_ 2 _ rfl; (with_reducible repeat (first | refine blk_drewN ?_ _ | refine blk_drew ?_ | refine blk_alloc ?_ _)); refine blk_put (cs := #[.string t420, .int .i64 0, .int .i64 0, .int .i64 0, .int .i64 0, .string (⟨#[]⟩ : ByteArray), .string (⟨#[]⟩ : ByteArray), .string (⟨#[]⟩ : ByteArray)]) ?_ 1 _ rfl; (with_reducible repeat (first | refine blk_drewN ?_ _ | refine blk_drew ?_ | refine blk_alloc ?_ _)); refine blk_put (cs := #[.string (⟨#[]⟩ : ByteArray), .int .i64 0, .int .i64 0, .int .i64 0, .int .i64 0, .string (⟨#[]⟩ : ByteArray), .string (⟨#[]⟩ : ByteArray), .string (⟨#[]⟩ : ByteArray)]) ?_ 0 _ rfl; (with_reducible repeat (first | refine blk_drewN ?_ _ | refine blk_drew ?_ | refine blk_alloc ?_ _)); exact BK429.out) hb); replace HB := Kt_ HB GE429 hb; (try clear hb); (try clear hb2); (try clear hk); (try clear hi)) | ((with_reducible refine gate_dst (N := 21) rfl ?_); refine box_event ?hg (N := 21) ?hd (cs := #[.string (⟨#[]⟩ : ByteArray), .int .i64 0, .int .i64 0, .int .i64 0, .int .i64 0, .string (⟨#[]⟩ : ByteArray), .string (⟨#[]⟩ : ByteArray), .string (⟨#[]⟩ : ByteArray)]) (t := 36) ?hr ?_; (case hd => rfl); (case hg => rfl); (case hr => first | (go_simp; done) | (go_simp; rfl)); intro gb439 hg w53 hbox hb; have BK439 := Aside0.mk (hbox); have GW439 := Kw_ HB hg; have GE439 := GW439; have NB392_439 := Kl_ BK392 hg; have NB439_392 := Kr_ BK392 hg; have NB393_439 := Kl_ BK393 hg; have NB439_393 := Kr_ BK393 hg; have NB429_439 := Kl_ BK429 hg; have NB439_429 := Kr_ BK429 hg; replace BK392 := Kb_ BK392 hb; replace BK393 := Kb_ BK393 hb; replace BK429 := Kb_ BK429 hb; replace HB := Ks_ HB hb; clear hb hbox hg; have hnb54 := NB439_392.out; have hnc54 := NB392_439.out; have hnb55 := NB439_393.out; have hnc55 := NB393_439.out; have hnb56 := NB439_429.out; have hnc56 := NB429_439.out; obtain ⟨hcz57_0, hcz57_1, hcz57_2, hcz57_3, hcz57_4, hcz57_5, hcz57_6, hcz57_7, hfz57_0, hfz57_1, hfz57_2, hfz57_3, hfz57_4, hfz57_5, hfz57_6, hfz57_7⟩ := Ke8_ BK439.out) | ((with_reducible refine gate_callee (f := 23) rfl ?_); refine goesL_ (some 85) rfl rfl Try.func23 (by kernel_rfl) rfl #[.string x3_14] rfl (by (try simp only [List.map_toArray, List.map_cons, List.map_nil]); first | done | rfl | (simp only [List.length_drop, List.length_take]; rfl)) ?_; (with_reducible refine (gate_Read.calls kj14 x3_14 t440 t441 t442 t443 t444 t445 t446 t447 _ A39.out).mono ?_); rintro e w58 ⟨rfl, hb⟩; refine ⟨_, rfl, ?_⟩; replace BK392 := Kf_ BK392 NB392_439 hb; replace BK393 := Kf_ BK393 NB393_439 hb; replace BK429 := Kf_ BK429 NB429_439 hb; replace BK439 := Aside0.mk (blk_below (g := gb439) (o := .cells #[.string t430, .int .i64 t431, .int .i64 t432, .int .i64 t433, .int .i64 t434, .string t435, .string t436, .string t437] 36 (0, 0)) (by (with_reducible repeat (first | refine blk_drewN ?_ _ | refine blk_drew ?_ | refine blk_alloc ?_ _)); refine blk_put (cs := #[.string t430, .int .i64 t431, .int .i64 t432, .int .i64 t433, .int .i64 t434, .string t435, .string t436, .string (⟨#[]⟩ : ByteArray)]) ?_ 7 _ rfl; (with_reducible repeat (first | refine blk_drewN ?_ _ | refine blk_drew ?_ | refine blk_alloc ?_ _)); refine blk_put (cs := #[.string t430, .int .i64 t431, .int .i64 t432, .int .i64 t433, .int .i64 t434, .string t435, .string (⟨#[]⟩ : ByteArray), .string (⟨#[]⟩ : ByteArray)]) ?_ 6 _ rfl; (with_reducible repeat (first | refine blk_drewN ?_ _ | refine blk_drew ?_ | refine blk_alloc ?_ _)); refine blk_put (cs := #[.string t430, .int .i64 t431, .int .i64 t432, .int .i64 t433, .int .i64 t434, .string (⟨#[]⟩ : ByteArray), .string (⟨#[]⟩ : ByteArray), .string (⟨#[]⟩ : ByteArray)]) ?_ 5 _ rfl; (with_reducible repeat (first | refine blk_drewN ?_ _ | refine blk_drew ?_ | refine blk_alloc ?_ _)); refine blk_put (cs := #[.string t430, .int .i64 t431, .int .i64 t432, .int .i64 t433, .int .i64 0, .string (⟨#[]⟩ : ByteArray), .string (⟨#[]⟩ : ByteArray), .string (⟨#[]⟩ : ByteArray)]) ?_ 4 _ rfl; (with_reducible repeat (first | refine blk_drewN ?_ _ | refine blk_drew ?_ | refine blk_alloc ?_ _)); refine blk_put (cs := #[.string t430, .int .i64 t431, .int .i64 t432, .int .i64 0, .int .i64 0, .string (⟨#[]⟩ : ByteArray), .string (⟨#[]⟩ : ByteArray), .string (⟨#[]⟩ : ByteArray)]) ?_ 3 _ rfl; (with_reducible repeat (first | refine blk_drewN ?_ _ | refine blk_drew ?_ | refine blk_alloc ?_ _)); refine blk_put (cs := #[.string t430, .int .i64 t431, .int .i64 0, .int .i64 0, .int .i64 0, .string (⟨#[]⟩ : ByteArray), .string (⟨#[]⟩ : ByteArray), .string (⟨#[]⟩ : ByteArray)]) ?_ 2 _ rfl; (with_reducible repeat (first | refine blk_drewN ?_ _ | refine blk_drew ?_ | refine blk_alloc ?_ _)); refine blk_put (cs := #[.string t430, .int .i64 0, .int .i64 0, .int .i64 0, .int .i64 0, .string (⟨#[]⟩ : ByteArray), .string (⟨#[]⟩ : ByteArray), .string (⟨#[]⟩ : ByteArray)]) ?_ 1 _ rfl; (with_reducible repeat (first | refine blk_drewN ?_ _ | refine blk_drew ?_ | refine blk_alloc ?_ _)); refine blk_put (cs := #[.string (⟨#[]⟩ : ByteArray), .int .i64 0, .int .i64 0, .int .i64 0, .int .i64 0, .string (⟨#[]⟩ : ByteArray), .string (⟨#[]⟩ : ByteArray), .string (⟨#[]⟩ : ByteArray)]) ?_ 0 _ rfl; (with_reducible repeat (first | refine blk_drewN ?_ _ | refine blk_drew ?_ | refine blk_alloc ?_ _)); exact BK439.out) hb); replace HB := Kt_ HB GE439 hb; (try clear hb); (try clear hb2); (try clear hk); (try clear hi)) | ((with_reducible refine gate_dst (N := 23) rfl ?_); refine box_event ?hg (N := 23) ?hd (cs := #[.int .i64 0, .string (⟨#[]⟩ : ByteArray), .bool false, .int .u64 0, .int .u64 0, .int .u64 0, .int .u64 0]) (t := 41) ?hr ?_; (case hd => rfl); (case hg => rfl); (case hr => first | (go_simp; done) | (go_simp; rfl)); intro gb448 hg w59 hbox hb; have BK448 := Aside0.mk (hbox); have GW448 := Kw_ HB hg; have GE448 := GW448; have NB392_448 := Kl_ BK392 hg; have NB448_392 := Kr_ BK392 hg; have NB393_448 := Kl_ BK393 hg; have NB448_393 := Kr_ BK393 hg; have NB429_448 := Kl_ BK429 hg; have NB448_429 := Kr_ BK429 hg; have NB439_448 := Kl_ BK439 hg; have NB448_439 := Kr_ BK439 hg; replace BK392 := Kb_ BK392 hb; replace BK393 := Kb_ BK393 hb; replace BK429 := Kb_ BK429 hb; replace BK439 := Kb_ BK439 hb; replace HB := Ks_ HB hb; clear hb hbox hg; have hnb60 := NB448_392.out; have hnc60 := NB392_448.out; have hnb61 := NB448_393.out; have hnc61 := NB393_448.out; have hnb62 := NB448_429.out; have hnc62 := NB429_448.out; have hnb63 := NB448_439.out; have hnc63 := NB439_448.out; obtain ⟨hcz64_0, hcz64_1, hcz64_2, hcz64_3, hcz64_4, hcz64_5, hcz64_6, hfz64_0, hfz64_1, hfz64_2, hfz64_3, hfz64_4, hfz64_5, hfz64_6⟩ := Ke7_ BK448.out) | ((with_reducible refine gate_callee (f := 24) rfl ?_); refine goesL_ (some 90) rfl rfl Try.func24 (by kernel_rfl) rfl #[.string x3_14] rfl (by (try simp only [List.map_toArray, List.map_cons, List.map_nil]); first | done | rfl | (simp only [List.length_drop, List.length_take]; rfl)) ?_; (with_reducible refine (tenementref19_Read.calls kj14 x3_14 t449 t450 t451 t452 t453 t454 t455 t447 _ A40.out).mono ?_); rintro e w65 ⟨rfl, hb⟩; refine ⟨_, rfl, ?_⟩; replace BK392 := Kf_ BK392 NB392_448 hb; replace BK393 := Kf_ BK393 NB393_448 hb; replace BK429 := Kf_ BK429 NB429_448 hb; replace BK439 := Kf_ BK439 NB439_448 hb; replace BK448 := Aside0.mk (blk_below (g := gb448) (o := .cells #[.int .i64 t440, .string t441, .bool t442, .int .u64 t443, .int .u64 t444, .int .u64 t445, .int .u64 t446] 41 (0, 0)) (by (with_reducible repeat (first | refine blk_drewN ?_ _ | refine blk_drew ?_ | refine blk_alloc ?_ _)); refine blk_put (cs := #[.int .i64 t440, .string t441, .bool t442, .int .u64 t443, .int .u64 t444, .int .u64 t445, .int .u64 0]) ?_ 6 _ rfl; (with_reducible repeat (first | refine blk_drewN ?_ _ | refine blk_drew ?_ | refine blk_alloc ?_ _)); refine blk_put (cs := #[.int .i64 t440, .string t441, .bool t442, .int .u64 t443, .int .u64 t444, .int .u64 0, .int .u64 0]) ?_ 5 _ rfl; (with_reducible repeat (first | refine blk_drewN ?_ _ | refine blk_drew ?_ | refine blk_alloc ?_ _)); refine blk_put (cs := #[.int .i64 t440, .string t441, .bool t442, .int .u64 t443, .int .u64 0, .int .u64 0, .int .u64 0]) ?_ 4 _ rfl; (with_reducible repeat (first | refine blk_drewN ?_ _ | refine blk_drew ?_ | refine blk_alloc ?_ _)); refine blk_put (cs := #[.int .i64 t440, .string t441, .bool t442, .int .u64 0, .int .u64 0, .int .u64 0, .int .u64 0]) ?_ 3 _ rfl; (with_reducible repeat (first | refine blk_drewN ?_ _ | refine blk_drew ?_ | refine blk_alloc ?_ _)); refine blk_put (cs := #[.int .i64 t440, .string t441, .bool false, .int .u64 0, .int .u64 0, .int .u64 0, .int .u64 0]) ?_ 2 _ rfl; (with_reducible repeat (first | refine blk_drewN ?_ _ | refine blk_drew ?_ | refine blk_alloc ?_ _)); refine blk_put (cs := #[.int .i64 t440, .string (⟨#[]⟩ : ByteArray), .bool false, .int .u64 0, .int .u64 0, .int .u64 0, .int .u64 0]) ?_ 1 _ rfl; (with_reducible repeat (first | refine blk_drewN ?_ _ | refine blk_drew ?_ | refine blk_alloc ?_ _)); refine blk_put (cs := #[.int .i64 0, .string (⟨#[]⟩ : ByteArray), .bool false, .int .u64 0, .int .u64 0, .int .u64 0, .int .u64 0]) ?_ 0 _ rfl; (with_reducible repeat (first | refine blk_drewN ?_ _ | refine blk_drew ?_ | refine blk_alloc ?_ _)); exact BK448.out) hb); replace HB := Kt_ HB GE448 hb; (try clear hb); (try clear hb2); (try clear hk); (try clear hi)) | ((with_reducible refine gate_dst (N := 25) rfl ?_); refine box_event ?hg (N := 25) ?hd (cs := #[.int .i64 0, .string (⟨#[]⟩ : ByteArray), .bool false, .int .u64 0, .int .u64 0, .int .u64 0, .int .u64 0]) (t := 48) ?hr ?_; (case hd => rfl); (case hg => rfl); (case hr => first | (go_simp; done) | (go_simp; rfl)); intro gb457 hg w66 hbox hb; have BK457 := Aside0.mk (hbox); have GW457 := Kw_ HB hg; have GE457 := GW457; have NB392_457 := Kl_ BK392 hg; have NB457_392 := Kr_ BK392 hg; have NB393_457 := Kl_ BK393 hg; have NB457_393 := Kr_ BK393 hg; have NB429_457 := Kl_ BK429 hg; have NB457_429 := Kr_ BK429 hg; have NB439_457 := Kl_ BK439 hg; have NB457_439 := Kr_ BK439 hg; have NB448_457 := Kl_ BK448 hg; have NB457_448 := Kr_ BK448 hg; replace BK392 := Kb_ BK392 hb; replace BK393 := Kb_ BK393 hb; replace BK429 := Kb_ BK429 hb; replace BK439 := Kb_ BK439 hb; replace BK448 := Kb_ BK448 hb; replace HB := Ks_ HB hb; clear hb hbox hg; have hnb67 := NB457_392.out; have hnc67 := NB392_457.out; have hnb68 := NB457_393.out; have hnc68 := NB393_457.out; have hnb69 := NB457_429.out; have hnc69 := NB429_457.out; have hnb70 := NB457_439.out; have hnc70 := NB439_457.out; have hnb71 := NB457_448.out; have hnc71 := NB448_457.out; obtain ⟨hcz72_0, hcz72_1, hcz72_2, hcz72_3, hcz72_4, hcz72_5, hcz72_6, hfz72_0, hfz72_1, hfz72_2, hfz72_3, hfz72_4, hfz72_5, hfz72_6⟩ := Ke7_ BK457.out))
      have n0_ : Aside0 ((((((((w66.setCell ⟨gb457, 0, none⟩ (.int .i64 t449)).setCell ⟨gb457, 1, none⟩ (.string t450)).setCell ⟨gb457, 2, none⟩ (.bool t451)).setCell ⟨gb457, 3, none⟩ (.int .u64 t452)).setCell ⟨gb457, 4, none⟩ (.int .u64 t453)).setCell ⟨gb457, 5, none⟩ (.int .u64 t454)).setCell ⟨gb457, 6, none⟩ (.int .u64 t455)).heap[gb392]? = some (.cells #[.string a0_0, .int .i64 a0_1, .int .i64 a0_2, .int .i64 a0_3, .int .i64 a0_4, .string a0_5, .string a0_6, .string a0_7, .bool true] 25 (0, 0))) := ⟨by (repeat (first | (with_reducible first | refine blk_drewN ?_ _ | refine blk_drew ?_ | refine blk_alloc ?_ _) | refine blk_far ?_ NB392_457.out _)); exact BK392.out⟩
      have n1_ : Aside0 ((((((((w66.setCell ⟨gb457, 0, none⟩ (.int .i64 t449)).setCell ⟨gb457, 1, none⟩ (.string t450)).setCell ⟨gb457, 2, none⟩ (.bool t451)).setCell ⟨gb457, 3, none⟩ (.int .u64 t452)).setCell ⟨gb457, 4, none⟩ (.int .u64 t453)).setCell ⟨gb457, 5, none⟩ (.int .u64 t454)).setCell ⟨gb457, 6, none⟩ (.int .u64 t455)).heap[gb393]? = some (.cells #[.int .u64 a2_0, .int .u64 a2_1, .int .u64 a2_2, .int .u64 a2_3, .bool a2_4] 30 (0, 0))) := ⟨by (repeat (first | (with_reducible first | refine blk_drewN ?_ _ | refine blk_drew ?_ | refine blk_alloc ?_ _) | refine blk_far ?_ NB393_457.out _)); exact BK393.out⟩
      have n2_ : Aside0 ((((((((w66.setCell ⟨gb457, 0, none⟩ (.int .i64 t449)).setCell ⟨gb457, 1, none⟩ (.string t450)).setCell ⟨gb457, 2, none⟩ (.bool t451)).setCell ⟨gb457, 3, none⟩ (.int .u64 t452)).setCell ⟨gb457, 4, none⟩ (.int .u64 t453)).setCell ⟨gb457, 5, none⟩ (.int .u64 t454)).setCell ⟨gb457, 6, none⟩ (.int .u64 t455)).heap[gb429]? = some (.cells #[.string t420, .int .i64 t421, .int .i64 t422, .int .i64 t423, .int .i64 t424, .string t425, .string t426, .string t427] 23 (0, 0))) := ⟨by (repeat (first | (with_reducible first | refine blk_drewN ?_ _ | refine blk_drew ?_ | refine blk_alloc ?_ _) | refine blk_far ?_ NB429_457.out _)); exact BK429.out⟩
      have n3_ : Aside0 ((((((((w66.setCell ⟨gb457, 0, none⟩ (.int .i64 t449)).setCell ⟨gb457, 1, none⟩ (.string t450)).setCell ⟨gb457, 2, none⟩ (.bool t451)).setCell ⟨gb457, 3, none⟩ (.int .u64 t452)).setCell ⟨gb457, 4, none⟩ (.int .u64 t453)).setCell ⟨gb457, 5, none⟩ (.int .u64 t454)).setCell ⟨gb457, 6, none⟩ (.int .u64 t455)).heap[gb439]? = some (.cells #[.string t430, .int .i64 t431, .int .i64 t432, .int .i64 t433, .int .i64 t434, .string t435, .string t436, .string t437] 36 (0, 0))) := ⟨by (repeat (first | (with_reducible first | refine blk_drewN ?_ _ | refine blk_drew ?_ | refine blk_alloc ?_ _) | refine blk_far ?_ NB439_457.out _)); exact BK439.out⟩
      have n4_ : Aside0 ((((((((w66.setCell ⟨gb457, 0, none⟩ (.int .i64 t449)).setCell ⟨gb457, 1, none⟩ (.string t450)).setCell ⟨gb457, 2, none⟩ (.bool t451)).setCell ⟨gb457, 3, none⟩ (.int .u64 t452)).setCell ⟨gb457, 4, none⟩ (.int .u64 t453)).setCell ⟨gb457, 5, none⟩ (.int .u64 t454)).setCell ⟨gb457, 6, none⟩ (.int .u64 t455)).heap[gb448]? = some (.cells #[.int .i64 t440, .string t441, .bool t442, .int .u64 t443, .int .u64 t444, .int .u64 t445, .int .u64 t446] 41 (0, 0))) := ⟨by (repeat (first | (with_reducible first | refine blk_drewN ?_ _ | refine blk_drew ?_ | refine blk_alloc ?_ _) | refine blk_far ?_ NB448_457.out _)); exact BK448.out⟩
      have n5_ : Aside0 ((((((((w66.setCell ⟨gb457, 0, none⟩ (.int .i64 t449)).setCell ⟨gb457, 1, none⟩ (.string t450)).setCell ⟨gb457, 2, none⟩ (.bool t451)).setCell ⟨gb457, 3, none⟩ (.int .u64 t452)).setCell ⟨gb457, 4, none⟩ (.int .u64 t453)).setCell ⟨gb457, 5, none⟩ (.int .u64 t454)).setCell ⟨gb457, 6, none⟩ (.int .u64 t455)).heap[gb457]? = some (.cells #[.int .i64 t449, .string t450, .bool t451, .int .u64 t452, .int .u64 t453, .int .u64 t454, .int .u64 t455] 48 (0, 0))) := ⟨by (with_reducible repeat (first | refine blk_drewN ?_ _ | refine blk_drew ?_ | refine blk_alloc ?_ _)); refine blk_put (cs := #[.int .i64 t449, .string t450, .bool t451, .int .u64 t452, .int .u64 t453, .int .u64 t454, .int .u64 0]) ?_ 6 _ rfl; (with_reducible repeat (first | refine blk_drewN ?_ _ | refine blk_drew ?_ | refine blk_alloc ?_ _)); refine blk_put (cs := #[.int .i64 t449, .string t450, .bool t451, .int .u64 t452, .int .u64 t453, .int .u64 0, .int .u64 0]) ?_ 5 _ rfl; (with_reducible repeat (first | refine blk_drewN ?_ _ | refine blk_drew ?_ | refine blk_alloc ?_ _)); refine blk_put (cs := #[.int .i64 t449, .string t450, .bool t451, .int .u64 t452, .int .u64 0, .int .u64 0, .int .u64 0]) ?_ 4 _ rfl; (with_reducible repeat (first | refine blk_drewN ?_ _ | refine blk_drew ?_ | refine blk_alloc ?_ _)); refine blk_put (cs := #[.int .i64 t449, .string t450, .bool t451, .int .u64 0, .int .u64 0, .int .u64 0, .int .u64 0]) ?_ 3 _ rfl; (with_reducible repeat (first | refine blk_drewN ?_ _ | refine blk_drew ?_ | refine blk_alloc ?_ _)); refine blk_put (cs := #[.int .i64 t449, .string t450, .bool false, .int .u64 0, .int .u64 0, .int .u64 0, .int .u64 0]) ?_ 2 _ rfl; (with_reducible repeat (first | refine blk_drewN ?_ _ | refine blk_drew ?_ | refine blk_alloc ?_ _)); refine blk_put (cs := #[.int .i64 t449, .string (⟨#[]⟩ : ByteArray), .bool false, .int .u64 0, .int .u64 0, .int .u64 0, .int .u64 0]) ?_ 1 _ rfl; (with_reducible repeat (first | refine blk_drewN ?_ _ | refine blk_drew ?_ | refine blk_alloc ?_ _)); refine blk_put (cs := #[.int .i64 0, .string (⟨#[]⟩ : ByteArray), .bool false, .int .u64 0, .int .u64 0, .int .u64 0, .int .u64 0]) ?_ 0 _ rfl; (with_reducible repeat (first | refine blk_drewN ?_ _ | refine blk_drew ?_ | refine blk_alloc ?_ _)); exact BK457.out⟩
      have n6_ : Aside0 (Below w.heap.size w (((((((w66.setCell ⟨gb457, 0, none⟩ (.int .i64 t449)).setCell ⟨gb457, 1, none⟩ (.string t450)).setCell ⟨gb457, 2, none⟩ (.bool t451)).setCell ⟨gb457, 3, none⟩ (.int .u64 t452)).setCell ⟨gb457, 4, none⟩ (.int .u64 t453)).setCell ⟨gb457, 5, none⟩ (.int .u64 t454)).setCell ⟨gb457, 6, none⟩ (.int .u64 t455))) := ⟨by repeat (first | (with_reducible first | exact HB.out | apply below_alloc | apply pw_below_drewN | apply below_drew1 | refine below_set ?_ GE392.out | refine below_set ?_ GE393.out | refine below_set ?_ GE429.out | refine below_set ?_ GE439.out | refine below_set ?_ GE448.out | refine below_set ?_ GE457.out) | exact HB.out)⟩
      (try clear BK392)
      (try clear BK393)
      (try clear BK429)
      (try clear BK439)
      (try clear BK448)
      (try clear BK457)
      (try clear HB)
      generalize (((((((w66.setCell ⟨gb457, 0, none⟩ (.int .i64 t449)).setCell ⟨gb457, 1, none⟩ (.string t450)).setCell ⟨gb457, 2, none⟩ (.bool t451)).setCell ⟨gb457, 3, none⟩ (.int .u64 t452)).setCell ⟨gb457, 4, none⟩ (.int .u64 t453)).setCell ⟨gb457, 5, none⟩ (.int .u64 t454)).setCell ⟨gb457, 6, none⟩ (.int .u64 t455)) = w73 at n0_ n1_ n2_ n3_ n4_ n5_ n6_ ⊢
      have BK392 := n0_
      have BK393 := n1_
      have BK429 := n2_
      have BK439 := n3_
      have BK448 := n4_
      have BK457 := n5_
      have HB := n6_
      clear n0_ n1_ n2_ n3_ n4_ n5_ n6_
      replace BK392 := Kd_ BK392
      replace BK393 := Kd_ BK393
      replace BK429 := Kd_ BK429
      replace BK439 := Kd_ BK439
      replace BK448 := Kd_ BK448
      replace BK457 := Kd_ BK457
      replace HB := Aside0.mk (below_drew1 HB.out)
      refine start_ (n := 24) (S := fun w' => w'.cell? ⟨gb429, 0, none⟩ = some (.string t420) ∧ w'.cell? ⟨gb429, 1, none⟩ = some (.int .i64 t421) ∧ w'.cell? ⟨gb429, 2, none⟩ = some (.int .i64 t422) ∧ w'.cell? ⟨gb429, 3, none⟩ = some (.int .i64 t423) ∧ w'.cell? ⟨gb429, 4, none⟩ = some (.int .i64 t424) ∧ w'.cell? ⟨gb429, 5, none⟩ = some (.string t425) ∧ w'.cell? ⟨gb429, 6, none⟩ = some (.string t426) ∧ w'.cell? ⟨gb429, 7, none⟩ = some (.string t427) ∧ w'.cell? ⟨gb439, 0, none⟩ = some (.string t430) ∧ w'.cell? ⟨gb439, 1, none⟩ = some (.int .i64 t431) ∧ w'.cell? ⟨gb439, 2, none⟩ = some (.int .i64 t432) ∧ w'.cell? ⟨gb439, 3, none⟩ = some (.int .i64 t433) ∧ w'.cell? ⟨gb439, 4, none⟩ = some (.int .i64 t434) ∧ w'.cell? ⟨gb439, 5, none⟩ = some (.string t435) ∧ w'.cell? ⟨gb439, 6, none⟩ = some (.string t436) ∧ w'.cell? ⟨gb439, 7, none⟩ = some (.string t437) ∧ w'.cell? ⟨gb448, 0, none⟩ = some (.int .i64 t440) ∧ w'.cell? ⟨gb448, 1, none⟩ = some (.string t441) ∧ w'.cell? ⟨gb448, 2, none⟩ = some (.bool t442) ∧ w'.cell? ⟨gb448, 3, none⟩ = some (.int .u64 t443) ∧ w'.cell? ⟨gb448, 4, none⟩ = some (.int .u64 t444) ∧ w'.cell? ⟨gb448, 5, none⟩ = some (.int .u64 t445) ∧ w'.cell? ⟨gb448, 6, none⟩ = some (.int .u64 t446) ∧ w'.cell? ⟨gb457, 0, none⟩ = some (.int .i64 t449) ∧ w'.cell? ⟨gb457, 1, none⟩ = some (.string t450) ∧ w'.cell? ⟨gb457, 2, none⟩ = some (.bool t451) ∧ w'.cell? ⟨gb457, 3, none⟩ = some (.int .u64 t452) ∧ w'.cell? ⟨gb457, 4, none⟩ = some (.int .u64 t453) ∧ w'.cell? ⟨gb457, 5, none⟩ = some (.int .u64 t454) ∧ w'.cell? ⟨gb457, 6, none⟩ = some (.int .u64 t455)) (ds := []) #[false, false, false, false, false, false, false, false, false, false, false, false, false, false, false, false, false, false, false, false, false, false, false, false] (by kernel_rfl) rfl rfl ⟨(blk_cell BK429.out 0).trans rfl, (blk_cell BK429.out 1).trans rfl, (blk_cell BK429.out 2).trans rfl, (blk_cell BK429.out 3).trans rfl, (blk_cell BK429.out 4).trans rfl, (blk_cell BK429.out 5).trans rfl, (blk_cell BK429.out 6).trans rfl, (blk_cell BK429.out 7).trans rfl, (blk_cell BK439.out 0).trans rfl, (blk_cell BK439.out 1).trans rfl, (blk_cell BK439.out 2).trans rfl, (blk_cell BK439.out 3).trans rfl, (blk_cell BK439.out 4).trans rfl, (blk_cell BK439.out 5).trans rfl, (blk_cell BK439.out 6).trans rfl, (blk_cell BK439.out 7).trans rfl, (blk_cell BK448.out 0).trans rfl, (blk_cell BK448.out 1).trans rfl, (blk_cell BK448.out 2).trans rfl, (blk_cell BK448.out 3).trans rfl, (blk_cell BK448.out 4).trans rfl, (blk_cell BK448.out 5).trans rfl, (blk_cell BK448.out 6).trans rfl, (blk_cell BK457.out 0).trans rfl, (blk_cell BK457.out 1).trans rfl, (blk_cell BK457.out 2).trans rfl, (blk_cell BK457.out 3).trans rfl, (blk_cell BK457.out 4).trans rfl, (blk_cell BK457.out 5).trans rfl, (blk_cell BK457.out 6).trans rfl⟩ (fun hHeld => ?_); refine with_tabW tenementlaw19_GateReads.tab22 tenementlaw19_GateReads.bits22 (fun HT_ HW_ => ?_)
      generalize w73.drew = w74 at BK392 BK393 BK429 BK439 BK448 BK457 HB hHeld ⊢
      refine pure_ (i := 0) (N := some 93) (v := ?_) (a' := ?_) #[true, false, false, false, false, false, false, false, false, false, false, false, false, false, false, false, false, false, false, false, false, false, false, false] rfl rfl (any_of HT_.out (by kernel_rfl)) (fun _ _ _ h => h) (Or.inl ⟨by rfl, ?_⟩) ?_ ?_
      rotate_left
      · intro w'
        go_simp
        with_reducible rfl
      rotate_left
      · simp only [Act.put, List.setIfInBounds_toArray, List.set_cons_zero, List.set_cons_succ, i64_w, i32_w]
        rfl
      refine pure_ (i := 1) (N := some 94) (v := ?_) (a' := ?_) #[true, true, false, false, false, false, false, false, false, false, false, false, false, false, false, false, false, false, false, false, false, false, false, false] rfl rfl (any_of HT_.out (by kernel_rfl)) (fun _ _ _ h => h) (Or.inl ⟨by rfl, ?_⟩) ?_ ?_
      rotate_left
      · intro w'
        go_simp
        with_reducible rfl
      rotate_left
      · simp only [Act.put, List.setIfInBounds_toArray, List.set_cons_zero, List.set_cons_succ, i64_w, i32_w]
        rfl
      refine take_ (i := 2) (N := some 95) (v := ?_) (a' := ?_) #[true, true, true, false, false, false, false, false, false, false, false, false, false, false, false, false, false, false, false, false, false, false, false, false] rfl rfl (take_ofW HT_.out HW_.out (by kernel_rfl)) (fun _ _ _ h => h) (Or.inl ⟨by rfl, ?_⟩) hHeld ?_ ?_
      rotate_left
      · rintro w' ⟨s0, s1, s2, s3, s4, s5, s6, s7, s8, s9, s10, s11, s12, s13, s14, s15, s16, s17, s18, s19, s20, s21, s22, s23, s24, s25, s26, s27, s28, s29⟩
        go_simp
        with_reducible rfl
      rotate_left
      · simp only [Act.put, List.setIfInBounds_toArray, List.set_cons_zero, List.set_cons_succ, i64_w, i32_w]
        rfl
      refine take_ (i := 4) (N := some 97) (v := ?_) (a' := ?_) #[true, true, true, false, true, false, false, false, false, false, false, false, false, false, false, false, false, false, false, false, false, false, false, false] rfl rfl (take_ofW HT_.out HW_.out (by kernel_rfl)) (fun _ _ _ h => h) (Or.inl ⟨by rfl, ?_⟩) hHeld ?_ ?_
      rotate_left
      · rintro w' ⟨s0, s1, s2, s3, s4, s5, s6, s7, s8, s9, s10, s11, s12, s13, s14, s15, s16, s17, s18, s19, s20, s21, s22, s23, s24, s25, s26, s27, s28, s29⟩
        go_simp
        with_reducible rfl
      rotate_left
      · simp only [Act.put, List.setIfInBounds_toArray, List.set_cons_zero, List.set_cons_succ, i64_w, i32_w]
        rfl
      refine one_ (i := 3) (N := some 96) #[true, true, true, true, true, false, false, false, false, false, false, false, false, false, false, false, false, false, false, false, false, false, false, false] rfl rfl (one_of HT_.out (by kernel_rfl)) (by decide) (fun K hK => ?_)
      refine goes_ Try.func13 (by kernel_rfl) rfl #[.agg #[.string t420, .int .i64 t421, .int .i64 t422, .int .i64 t423, .int .i64 t424, .string t425, .string t426, .string t427]] (by rfl) rfl rfl (by (try simp only [List.map_toArray, List.map_cons, List.map_nil]); first | done | rfl | (simp only [List.length_drop, List.length_take]; rfl)) ?_
      with_reducible refine (tenementlaw19_refRequest.calls t420 t421 t422 t423 t424 t425 t426 t427 t458 t459 t460 t461 t462 t463 t464 t465 _ A41.out).mono ?_
      rintro e w75 ⟨rfl, hb⟩
      refine ⟨_, rfl, ?_⟩
      replace BK392 := Kb_ BK392 hb
      replace BK393 := Kb_ BK393 hb
      replace BK429 := Kb_ BK429 hb
      replace BK439 := Kb_ BK439 hb
      replace BK448 := Kb_ BK448 hb
      replace BK457 := Kb_ BK457 hb
      replace HB := Ks_ HB hb
      (try clear hb)
      (try clear hb2)
      (try clear hk)
      (try clear hi)
      refine hK.out _ _ ⟨(blk_cell BK429.out 0).trans rfl, (blk_cell BK429.out 1).trans rfl, (blk_cell BK429.out 2).trans rfl, (blk_cell BK429.out 3).trans rfl, (blk_cell BK429.out 4).trans rfl, (blk_cell BK429.out 5).trans rfl, (blk_cell BK429.out 6).trans rfl, (blk_cell BK429.out 7).trans rfl, (blk_cell BK439.out 0).trans rfl, (blk_cell BK439.out 1).trans rfl, (blk_cell BK439.out 2).trans rfl, (blk_cell BK439.out 3).trans rfl, (blk_cell BK439.out 4).trans rfl, (blk_cell BK439.out 5).trans rfl, (blk_cell BK439.out 6).trans rfl, (blk_cell BK439.out 7).trans rfl, (blk_cell BK448.out 0).trans rfl, (blk_cell BK448.out 1).trans rfl, (blk_cell BK448.out 2).trans rfl, (blk_cell BK448.out 3).trans rfl, (blk_cell BK448.out 4).trans rfl, (blk_cell BK448.out 5).trans rfl, (blk_cell BK448.out 6).trans rfl, (blk_cell BK457.out 0).trans rfl, (blk_cell BK457.out 1).trans rfl, (blk_cell BK457.out 2).trans rfl, (blk_cell BK457.out 3).trans rfl, (blk_cell BK457.out 4).trans rfl, (blk_cell BK457.out 5).trans rfl, (blk_cell BK457.out 6).trans rfl⟩ (fun hHeld => ?_)
      clear hK K
      refine norm_ (a' := ?_) ?_ ?_
      rotate_left
      · show Act.put _ (some 96) _ = _
        simp only [Act.put, List.setIfInBounds_toArray, List.set_cons_zero, List.set_cons_succ, i64_w, i32_w]
        rfl
      refine pure_ (i := 5) (N := some 98) (v := ?_) (a' := ?_) #[true, true, true, true, true, true, false, false, false, false, false, false, false, false, false, false, false, false, false, false, false, false, false, false] rfl rfl (any_of HT_.out (by kernel_rfl)) (fun _ _ _ h => h) (Or.inl ⟨by rfl, ?_⟩) ?_ ?_
      rotate_left
      · intro w'
        go_simp
        with_reducible rfl
      rotate_left
      · simp only [Act.put, List.setIfInBounds_toArray, List.set_cons_zero, List.set_cons_succ, i64_w, i32_w]
        rfl
      refine pure_ (i := 6) (N := some 99) (v := ?_) (a' := ?_) #[true, true, true, true, true, true, true, false, false, false, false, false, false, false, false, false, false, false, false, false, false, false, false, false] rfl rfl (any_of HT_.out (by kernel_rfl)) (fun _ _ _ h => h) (Or.inl ⟨by rfl, ?_⟩) ?_ ?_
      rotate_left
      · intro w'
        go_simp
        with_reducible rfl
      rotate_left
      · simp only [Act.put, List.setIfInBounds_toArray, List.set_cons_zero, List.set_cons_succ, i64_w, i32_w]
        rfl
      refine pure_ (i := 7) (N := some 100) (v := ?_) (a' := ?_) #[true, true, true, true, true, true, true, true, false, false, false, false, false, false, false, false, false, false, false, false, false, false, false, false] rfl rfl (any_of HT_.out (by kernel_rfl)) (fun _ _ _ h => h) (Or.inl ⟨by rfl, ?_⟩) ?_ ?_
      rotate_left
      · intro w'
        go_simp
        with_reducible rfl
      rotate_left
      · simp only [Act.put, List.setIfInBounds_toArray, List.set_cons_zero, List.set_cons_succ, i64_w, i32_w]
        rfl
      refine pure_ (i := 8) (N := some 101) (v := ?_) (a' := ?_) #[true, true, true, true, true, true, true, true, true, false, false, false, false, false, false, false, false, false, false, false, false, false, false, false] rfl rfl (any_of HT_.out (by kernel_rfl)) (fun _ _ _ h => h) (Or.inl ⟨by rfl, ?_⟩) ?_ ?_
      rotate_left
      · intro w'
        go_simp
        with_reducible rfl
      rotate_left
      · simp only [Act.put, List.setIfInBounds_toArray, List.set_cons_zero, List.set_cons_succ, i64_w, i32_w]
        rfl
      refine pure_ (i := 9) (N := some 102) (v := ?_) (a' := ?_) #[true, true, true, true, true, true, true, true, true, true, false, false, false, false, false, false, false, false, false, false, false, false, false, false] rfl rfl (any_of HT_.out (by kernel_rfl)) (fun _ _ _ h => h) (Or.inl ⟨by rfl, ?_⟩) ?_ ?_
      rotate_left
      · intro w'
        go_simp
        with_reducible rfl
      rotate_left
      · simp only [Act.put, List.setIfInBounds_toArray, List.set_cons_zero, List.set_cons_succ, i64_w, i32_w]
        rfl
      refine pure_ (i := 10) (N := some 103) (v := ?_) (a' := ?_) #[true, true, true, true, true, true, true, true, true, true, true, false, false, false, false, false, false, false, false, false, false, false, false, false] rfl rfl (any_of HT_.out (by kernel_rfl)) (fun _ _ _ h => h) (Or.inl ⟨by rfl, ?_⟩) ?_ ?_
      rotate_left
      · intro w'
        go_simp
        with_reducible rfl
      rotate_left
      · simp only [Act.put, List.setIfInBounds_toArray, List.set_cons_zero, List.set_cons_succ, i64_w, i32_w]
        rfl
      refine pure_ (i := 11) (N := some 104) (v := ?_) (a' := ?_) #[true, true, true, true, true, true, true, true, true, true, true, true, false, false, false, false, false, false, false, false, false, false, false, false] rfl rfl (any_of HT_.out (by kernel_rfl)) (fun _ _ _ h => h) (Or.inl ⟨by rfl, ?_⟩) ?_ ?_
      rotate_left
      · intro w'
        go_simp
        with_reducible rfl
      rotate_left
      · simp only [Act.put, List.setIfInBounds_toArray, List.set_cons_zero, List.set_cons_succ, i64_w, i32_w]
        rfl
      refine pure_ (i := 12) (N := some 105) (v := ?_) (a' := ?_) #[true, true, true, true, true, true, true, true, true, true, true, true, true, false, false, false, false, false, false, false, false, false, false, false] rfl rfl (any_of HT_.out (by kernel_rfl)) (fun _ _ _ h => h) (Or.inl ⟨by rfl, ?_⟩) ?_ ?_
      rotate_left
      · intro w'
        go_simp
        with_reducible rfl
      rotate_left
      · simp only [Act.put, List.setIfInBounds_toArray, List.set_cons_zero, List.set_cons_succ, i64_w, i32_w]
        rfl
      refine take_ (i := 13) (N := some 106) (v := ?_) (a' := ?_) #[true, true, true, true, true, true, true, true, true, true, true, true, true, true, false, false, false, false, false, false, false, false, false, false] rfl rfl (take_ofW HT_.out HW_.out (by kernel_rfl)) (fun _ _ _ h => h) (Or.inl ⟨by rfl, ?_⟩) hHeld ?_ ?_
      rotate_left
      · rintro w' ⟨s0, s1, s2, s3, s4, s5, s6, s7, s8, s9, s10, s11, s12, s13, s14, s15, s16, s17, s18, s19, s20, s21, s22, s23, s24, s25, s26, s27, s28, s29⟩
        go_simp
        with_reducible rfl
      rotate_left
      · simp only [Act.put, List.setIfInBounds_toArray, List.set_cons_zero, List.set_cons_succ, i64_w, i32_w]
        rfl
      refine take_ (i := 15) (N := some 108) (v := ?_) (a' := ?_) #[true, true, true, true, true, true, true, true, true, true, true, true, true, true, false, true, false, false, false, false, false, false, false, false] rfl rfl (take_ofW HT_.out HW_.out (by kernel_rfl)) (fun _ _ _ h => h) (Or.inl ⟨by rfl, ?_⟩) hHeld ?_ ?_
      rotate_left
      · rintro w' ⟨s0, s1, s2, s3, s4, s5, s6, s7, s8, s9, s10, s11, s12, s13, s14, s15, s16, s17, s18, s19, s20, s21, s22, s23, s24, s25, s26, s27, s28, s29⟩
        go_simp
        with_reducible rfl
      rotate_left
      · simp only [Act.put, List.setIfInBounds_toArray, List.set_cons_zero, List.set_cons_succ, i64_w, i32_w]
        rfl
      refine one_ (i := 14) (N := some 107) #[true, true, true, true, true, true, true, true, true, true, true, true, true, true, true, true, false, false, false, false, false, false, false, false] rfl rfl (one_of HT_.out (by kernel_rfl)) (by decide) (fun K hK => ?_)
      refine goes_ Try.func19 (by kernel_rfl) rfl #[.agg #[.int .i64 t440, .string t441, .bool t442, .int .u64 t443, .int .u64 t444, .int .u64 t445, .int .u64 t446]] (by rfl) rfl rfl (by (try simp only [List.map_toArray, List.map_cons, List.map_nil]); first | done | rfl | (simp only [List.length_drop, List.length_take]; rfl)) ?_
      with_reducible refine (tenementlaw19_refResponse.calls t440 t441 t442 t443 t444 t445 t446 t466 t467 t468 t469 t470 t471 t472 _ A44.out).mono ?_
      rintro e w76 ⟨rfl, hb⟩
      refine ⟨_, rfl, ?_⟩
      replace BK392 := Kb_ BK392 hb
      replace BK393 := Kb_ BK393 hb
      replace BK429 := Kb_ BK429 hb
      replace BK439 := Kb_ BK439 hb
      replace BK448 := Kb_ BK448 hb
      replace BK457 := Kb_ BK457 hb
      replace HB := Ks_ HB hb
      (try clear hb)
      (try clear hb2)
      (try clear hk)
      (try clear hi)
      refine hK.out _ _ ⟨(blk_cell BK429.out 0).trans rfl, (blk_cell BK429.out 1).trans rfl, (blk_cell BK429.out 2).trans rfl, (blk_cell BK429.out 3).trans rfl, (blk_cell BK429.out 4).trans rfl, (blk_cell BK429.out 5).trans rfl, (blk_cell BK429.out 6).trans rfl, (blk_cell BK429.out 7).trans rfl, (blk_cell BK439.out 0).trans rfl, (blk_cell BK439.out 1).trans rfl, (blk_cell BK439.out 2).trans rfl, (blk_cell BK439.out 3).trans rfl, (blk_cell BK439.out 4).trans rfl, (blk_cell BK439.out 5).trans rfl, (blk_cell BK439.out 6).trans rfl, (blk_cell BK439.out 7).trans rfl, (blk_cell BK448.out 0).trans rfl, (blk_cell BK448.out 1).trans rfl, (blk_cell BK448.out 2).trans rfl, (blk_cell BK448.out 3).trans rfl, (blk_cell BK448.out 4).trans rfl, (blk_cell BK448.out 5).trans rfl, (blk_cell BK448.out 6).trans rfl, (blk_cell BK457.out 0).trans rfl, (blk_cell BK457.out 1).trans rfl, (blk_cell BK457.out 2).trans rfl, (blk_cell BK457.out 3).trans rfl, (blk_cell BK457.out 4).trans rfl, (blk_cell BK457.out 5).trans rfl, (blk_cell BK457.out 6).trans rfl⟩ (fun hHeld => ?_)
      clear hK K
      refine norm_ (a' := ?_) ?_ ?_
      rotate_left
      · show Act.put _ (some 107) _ = _
        simp only [Act.put, List.setIfInBounds_toArray, List.set_cons_zero, List.set_cons_succ, i64_w, i32_w]
        rfl
      refine pure_ (i := 16) (N := some 109) (v := ?_) (a' := ?_) #[true, true, true, true, true, true, true, true, true, true, true, true, true, true, true, true, true, false, false, false, false, false, false, false] rfl rfl (any_of HT_.out (by kernel_rfl)) (fun _ _ _ h => h) (Or.inl ⟨by rfl, ?_⟩) ?_ ?_
      rotate_left
      · intro w'
        go_simp
        with_reducible rfl
      rotate_left
      · simp only [Act.put, List.setIfInBounds_toArray, List.set_cons_zero, List.set_cons_succ, i64_w, i32_w]
        rfl
      refine pure_ (i := 17) (N := some 110) (v := ?_) (a' := ?_) #[true, true, true, true, true, true, true, true, true, true, true, true, true, true, true, true, true, true, false, false, false, false, false, false] rfl rfl (any_of HT_.out (by kernel_rfl)) (fun _ _ _ h => h) (Or.inl ⟨by rfl, ?_⟩) ?_ ?_
      rotate_left
      · intro w'
        go_simp
        with_reducible rfl
      rotate_left
      · simp only [Act.put, List.setIfInBounds_toArray, List.set_cons_zero, List.set_cons_succ, i64_w, i32_w]
        rfl
      refine pure_ (i := 18) (N := some 111) (v := ?_) (a' := ?_) #[true, true, true, true, true, true, true, true, true, true, true, true, true, true, true, true, true, true, true, false, false, false, false, false] rfl rfl (any_of HT_.out (by kernel_rfl)) (fun _ _ _ h => h) (Or.inl ⟨by rfl, ?_⟩) ?_ ?_
      rotate_left
      · intro w'
        go_simp
        with_reducible rfl
      rotate_left
      · simp only [Act.put, List.setIfInBounds_toArray, List.set_cons_zero, List.set_cons_succ, i64_w, i32_w]
        rfl
      refine pure_ (i := 19) (N := some 112) (v := ?_) (a' := ?_) #[true, true, true, true, true, true, true, true, true, true, true, true, true, true, true, true, true, true, true, true, false, false, false, false] rfl rfl (any_of HT_.out (by kernel_rfl)) (fun _ _ _ h => h) (Or.inl ⟨by rfl, ?_⟩) ?_ ?_
      rotate_left
      · intro w'
        go_simp
        with_reducible rfl
      rotate_left
      · simp only [Act.put, List.setIfInBounds_toArray, List.set_cons_zero, List.set_cons_succ, i64_w, i32_w]
        rfl
      refine pure_ (i := 20) (N := some 113) (v := ?_) (a' := ?_) #[true, true, true, true, true, true, true, true, true, true, true, true, true, true, true, true, true, true, true, true, true, false, false, false] rfl rfl (any_of HT_.out (by kernel_rfl)) (fun _ _ _ h => h) (Or.inl ⟨by rfl, ?_⟩) ?_ ?_
      rotate_left
      · intro w'
        go_simp
        with_reducible rfl
      rotate_left
      · simp only [Act.put, List.setIfInBounds_toArray, List.set_cons_zero, List.set_cons_succ, i64_w, i32_w]
        rfl
      refine pure_ (i := 21) (N := some 114) (v := ?_) (a' := ?_) #[true, true, true, true, true, true, true, true, true, true, true, true, true, true, true, true, true, true, true, true, true, true, false, false] rfl rfl (any_of HT_.out (by kernel_rfl)) (fun _ _ _ h => h) (Or.inl ⟨by rfl, ?_⟩) ?_ ?_
      rotate_left
      · intro w'
        go_simp
        with_reducible rfl
      rotate_left
      · simp only [Act.put, List.setIfInBounds_toArray, List.set_cons_zero, List.set_cons_succ, i64_w, i32_w]
        rfl
      refine pure_ (i := 22) (N := some 115) (v := ?_) (a' := ?_) #[true, true, true, true, true, true, true, true, true, true, true, true, true, true, true, true, true, true, true, true, true, true, true, false] rfl rfl (any_of HT_.out (by kernel_rfl)) (fun _ _ _ h => h) (Or.inl ⟨by rfl, ?_⟩) ?_ ?_
      rotate_left
      · intro w'
        go_simp
        with_reducible rfl
      rotate_left
      · simp only [Act.put, List.setIfInBounds_toArray, List.set_cons_zero, List.set_cons_succ, i64_w, i32_w]
        rfl
      refine pure_ (i := 23) (N := some 14) (v := ?_) (a' := ?_) #[true, true, true, true, true, true, true, true, true, true, true, true, true, true, true, true, true, true, true, true, true, true, true, true] rfl rfl (any_of HT_.out (by kernel_rfl)) (fun _ _ _ h => h) (Or.inl ⟨by rfl, ?_⟩) ?_ ?_
      rotate_left
      · intro w'
        go_simp
        with_reducible rfl
      rotate_left
      · simp only [Act.put, List.setIfInBounds_toArray, List.set_cons_zero, List.set_cons_succ, i64_w, i32_w]
        rfl
      refine done_ (done_of HT_.out (by kernel_rfl)) ?_
      try go_wp2
      go_ret
      exact ⟨by first | rfl | (simp [errW_none, errW_some] <;> rfl) | (simp [*, errW_none, errW_some] <;> rfl), by repeat (first | (with_reducible first | exact HB.out | apply below_alloc | apply pw_below_drewN | apply below_drew1 | refine below_set ?_ GE392.out | refine below_set ?_ GE393.out | refine below_set ?_ GE429.out | refine below_set ?_ GE439.out | refine below_set ?_ GE448.out | refine below_set ?_ GE457.out) | exact HB.out)⟩

end Go.Proofs.Ytplgbkobpanbfaa.Q
