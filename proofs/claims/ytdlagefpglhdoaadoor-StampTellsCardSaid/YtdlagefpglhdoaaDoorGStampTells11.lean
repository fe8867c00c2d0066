import Derived.Test.YtdlagefpglhdoaaDoorQx0
import Derived.Test.YtdlagefpglhdoaaDoorGStampTells0
import Derived.Test.YtdlagefpglhdoaaDoorGStampTells1
import Derived.Test.YtdlagefpglhdoaaDoorGStampTells7
import Derived.Test.YtdlagefpglhdoaaDoorGStampTells9
import Derived.Test.YtdlagefpglhdoaaDoorGStampTells2
import Derived.Test.YtdlagefpglhdoaaDoorGStampTells3
import Derived.Test.YtdlagefpglhdoaaDoorGStampTells4
-- Written by this session's own driver (wip/hybrid.py) of the kit's printer; contracts marked FOREIGN are by hand.
namespace Go.Proofs.YtdlagefpglhdoaaDoor.Q
open Go.RowKit Go.Proofs.YtdlagefpglhdoaaDoorW.PrintWords Go.Proofs.YtdlagefpglhdoaaDoorW.PrintLast Go.Proofs.YtdlagefpglhdoaaDoorW.PrintMore
attribute [local go_sem] max2_int min2_int max_two min_two max_three min_three max_four min_four   -- for this text's walks alone
set_option linter.unusedVariables false
set_option linter.unusedSimpArgs false

attribute [local go_sem] ixA37_0 ixA37_1 ixA37_2 ixA37_3   -- for this text's walks alone
attribute [local go_sem high] eqA39
/-! ### tenementlaw07_StampTells: function 3 -/
def tenementlaw07_StampTells.f (k : Nat) (a0_0 : Int) (a0_1 : Int) (a0_2 : Int) (a0_3 : Int) (a0_4 : Int) (a0_5 : Bool) (a1_0 : Int) (a1_1 : Int) (a1_2 : Int) (a1_3 : Int) (a1_4 : Int) (a1_5 : Bool) (a2_0 : Int) (a2_1 : Int) (a2_2 : Int) (a2_3 : Int) (a2_4 : Bool) : Option (Bool) := (tenementlaw07_examples.f k).bind fun t277 => (if t277 = true then ((tenementlaw07_Mark_mark.f k a0_0 a0_1 a0_2 a0_3 a0_4 a0_5).bind fun bt278 => ((tenementlaw07_Mark_mark.f k a1_0 a1_1 a1_2 a1_3 a1_4 a1_5).bind fun bt284 => ((tenementlaw07_Vector_vector.f k a2_0 a2_1 a2_2 a2_3 a2_4).bind fun bt290 => ((stamp_Put.f k bt278.1 bt278.2.1 bt278.2.2.1 bt278.2.2.2.1 bt278.2.2.2.2).bind fun bt295 => ((tenementlaw07_refStamp.f bt278.1 bt278.2.1 bt278.2.2.1 bt278.2.2.2.1 bt278.2.2.2.2).bind fun bt297 => ((tenementref07_Put.f k bt297.1 bt297.2.1 bt297.2.2.1 bt297.2.2.2.1 bt297.2.2.2.2).bind fun bt302 => ((stamp_Later.f k bt278.1 bt278.2.1 bt278.2.2.1 bt278.2.2.2.1 bt278.2.2.2.2 bt284.1 bt284.2.1 bt284.2.2.1 bt284.2.2.2.1 bt284.2.2.2.2).bind fun bt304 => ((tenementlaw07_refStamp.f bt304.1 bt304.2.1 bt304.2.2.1 bt304.2.2.2.1 bt304.2.2.2.2).bind fun bt309 => ((tenementlaw07_refStamp.f bt278.1 bt278.2.1 bt278.2.2.1 bt278.2.2.2.1 bt278.2.2.2.2).bind fun bt314 => ((tenementlaw07_refStamp.f bt284.1 bt284.2.1 bt284.2.2.1 bt284.2.2.2.1 bt284.2.2.2.2).bind fun bt319 => ((tenementref07_Later.f k bt314.1 bt314.2.1 bt314.2.2.1 bt314.2.2.2.1 bt314.2.2.2.2 bt319.1 bt319.2.1 bt319.2.2.1 bt319.2.2.2.1 bt319.2.2.2.2).bind fun bt324 => (if ((bt309.1 == bt324.1 && (bt309.2.1 == bt324.2.1 && (bt309.2.2.1 == bt324.2.2.1 && (bt309.2.2.2.1 == bt324.2.2.2.1)))) && (bt309.2.2.2.2 == bt324.2.2.2.2)) = true then ((stamp_Right.f bt278.1 bt278.2.1 bt278.2.2.1 bt278.2.2.2.1 bt278.2.2.2.2).bind fun t329 => ((tenementlaw07_refStamp.f bt278.1 bt278.2.1 bt278.2.2.1 bt278.2.2.2.1 bt278.2.2.2.2).bind fun bt330 => ((tenementref07_Right.f k bt330.1 bt330.2.1 bt330.2.2.1 bt330.2.2.2.1 bt330.2.2.2.2).bind fun t335 => (if t329 = t335 then ((stamp_Stamp_N.f bt278.1 bt278.2.1 bt278.2.2.1 bt278.2.2.2.1 bt278.2.2.2.2).bind fun t336 => ((tenementlaw07_refStamp.f bt278.1 bt278.2.1 bt278.2.2.1 bt278.2.2.2.1 bt278.2.2.2.2).bind fun bt337 => ((tenementref07_Stamp_N.f bt337.1 bt337.2.1 bt337.2.2.1 bt337.2.2.2.1 bt337.2.2.2.2).bind fun t342 => (if t336 = t342 then ((stamp_Order.f k bt278.1 bt278.2.1 bt278.2.2.1 bt278.2.2.2.1 bt278.2.2.2.2 bt284.1 bt284.2.1 bt284.2.2.1 bt284.2.2.2.1 bt284.2.2.2.2).bind fun t343 => ((tenementlaw07_refStamp.f bt278.1 bt278.2.1 bt278.2.2.1 bt278.2.2.2.1 bt278.2.2.2.2).bind fun bt344 => ((tenementlaw07_refStamp.f bt284.1 bt284.2.1 bt284.2.2.1 bt284.2.2.2.1 bt284.2.2.2.2).bind fun bt349 => ((tenementref07_Order.f k bt344.1 bt344.2.1 bt344.2.2.1 bt344.2.2.2.1 bt344.2.2.2.2 bt349.1 bt349.2.1 bt349.2.2.1 bt349.2.2.2.1 bt349.2.2.2.2).bind fun t354 => (if t343 = t354 then ((stamp_Seen.f bt278.1 bt278.2.1 bt278.2.2.1 bt278.2.2.2.1 bt278.2.2.2.2 bt290.1 bt290.2.1 bt290.2.2.1 bt290.2.2.2).bind fun t355 => ((tenementlaw07_refStamp.f bt278.1 bt278.2.1 bt278.2.2.1 bt278.2.2.2.1 bt278.2.2.2.2).bind fun bt356 => ((tenementref07_Seen.f k bt356.1 bt356.2.1 bt356.2.2.1 bt356.2.2.2.1 bt356.2.2.2.2 bt290.1 bt290.2.1 bt290.2.2.1 bt290.2.2.2).bind fun t361 => (if t355 = t361 then (if bt295.1.toList = bt302.1.toList then (if bt295.2 = bt302.2 then ((BigStamp.f bt278.1 bt278.2.1 bt278.2.2.1 bt278.2.2.2.1 bt278.2.2.2.2).bind fun t362 => ((tenementlaw07_refStamp.f bt278.1 bt278.2.1 bt278.2.2.1 bt278.2.2.2.1 bt278.2.2.2.2).bind fun bt363 => ((tenementref07_Text.f k bt363.1 bt363.2.1 bt363.2.2.1 bt363.2.2.2.1 bt363.2.2.2.2).bind fun t368 => (if t362.toList = t368.toList then (some true) else (none))))) else (none)) else (none)) else (none))))) else (none)))))) else (none))))) else (none))))) else (none))))))))))))) else (none))
theorem tenementlaw07_StampTells.mono : ∀ a0 a1 a2 a3 a4 a5 a6 a7 a8 a9 a10 a11 a12 a13 a14 a15 a16 k, LeO (tenementlaw07_StampTells.f k a0 a1 a2 a3 a4 a5 a6 a7 a8 a9 a10 a11 a12 a13 a14 a15 a16) (tenementlaw07_StampTells.f (k + 1) a0 a1 a2 a3 a4 a5 a6 a7 a8 a9 a10 a11 a12 a13 a14 a15 a16) := by
  intro a0 a1 a2 a3 a4 a5 a6 a7 a8 a9 a10 a11 a12 a13 a14 a15 a16 k
  unfold tenementlaw07_StampTells.f
  repeat' first
      | (with_reducible exact stamp_Later.mono _ _ _ _ _ _ _ _ _ _ _)
      | (with_reducible exact stamp_Order.mono _ _ _ _ _ _ _ _ _ _ _)
      | (with_reducible exact stamp_Put.mono _ _ _ _ _ _)
      | (with_reducible exact tenementlaw07_Mark_mark.mono _ _ _ _ _ _ _)
      | (with_reducible exact tenementlaw07_Vector_vector.mono _ _ _ _ _ _)
      | (with_reducible exact tenementlaw07_examples.mono _)
      | (with_reducible exact tenementref07_Later.mono _ _ _ _ _ _ _ _ _ _ _)
      | (with_reducible exact tenementref07_Order.mono _ _ _ _ _ _ _ _ _ _ _)
      | (with_reducible exact tenementref07_Put.mono _ _ _ _ _ _)
      | (with_reducible exact tenementref07_Right.mono _ _ _ _ _ _)
      | (with_reducible exact tenementref07_Seen.mono _ _ _ _ _ _ _ _ _ _)
      | (with_reducible exact tenementref07_Text.mono _ _ _ _ _ _)
      | (with_reducible exact LeO.refl _)
      | (with_reducible exact LeO.none _)
      | (with_reducible refine LeO.ite ?_ ?_)
      | (with_reducible refine LeO.bind ?_ (fun _ => ?_))
      | exact stamp_Later.mono _ _ _ _ _ _ _ _ _ _ _
      | exact stamp_Order.mono _ _ _ _ _ _ _ _ _ _ _
      | exact stamp_Put.mono _ _ _ _ _ _
      | exact tenementlaw07_Mark_mark.mono _ _ _ _ _ _ _
      | exact tenementlaw07_Vector_vector.mono _ _ _ _ _ _
      | exact tenementlaw07_examples.mono _
      | exact tenementref07_Later.mono _ _ _ _ _ _ _ _ _ _ _
      | exact tenementref07_Order.mono _ _ _ _ _ _ _ _ _ _ _
      | exact tenementref07_Put.mono _ _ _ _ _ _
      | exact tenementref07_Right.mono _ _ _ _ _ _
      | exact tenementref07_Seen.mono _ _ _ _ _ _ _ _ _ _
      | exact tenementref07_Text.mono _ _ _ _ _ _
      | exact LeO.none _
      | refine LeO.ite ?_ ?_
      | refine LeO.bind ?_ (fun _ => ?_)
def tenementlaw07_StampTells.T9 : Bool × List (List Nat × List Nat) := (true, [([], []), ([], []), ([0, 1], [0, 1]), ([2, 2], [2]), ([], []), ([4, 3], [4]), ([], []), ([6, 5], [6]), ([5, 7, 7], [5, 7]), ([3, 8], [3, 8]), ([9, 8, 0, 1, 2, 3, 4, 5, 6, 7, 8, 9], [9])])
def tenementlaw07_StampTells.B9 : List Nat := [0, 0, 3, 7, 0, 31, 0, 127, 255, 511, 1023]
theorem tenementlaw07_StampTells.tab9 : rtab .any (opsOf Tryd.f3 9) = tenementlaw07_StampTells.T9 := by kernel_rfl
theorem tenementlaw07_StampTells.bits9 : waitsOk tenementlaw07_StampTells.T9.2 tenementlaw07_StampTells.B9 = true := by kernel_rfl
def tenementlaw07_StampTells.T10 : Bool × List (List Nat × List Nat) := (true, [([], []), ([0], [0]), ([1], [1]), ([1, 2], [1, 2]), ([3, 1], [3]), ([4], [4]), ([5, 4, 4], [4, 5]), ([4], [4]), ([7, 6, 4], [4, 7]), ([8, 8, 4], [4, 8]), ([6, 9, 4], [4, 6, 9]), ([4, 10], [4, 10]), ([11, 9], [11]), ([12], [12]), ([13, 12, 12], [12, 13]), ([12], [12]), ([15, 14, 12], [12, 15]), ([16, 16, 12], [12, 16]), ([14, 17, 12], [12, 14, 17]), ([12, 18], [12, 18]), ([19, 17], [19]), ([20], [20]), ([20], [20]), ([21, 22, 20, 20], [20, 21, 22]), ([20], [20]), ([24, 23, 20], [20, 24]), ([20], [20]), ([26, 25, 20], [20, 26]), ([25, 27, 27, 20], [20, 25, 27]), ([23, 28, 20], [20, 23, 28]), ([20, 29], [20, 29]), ([30, 28], [30]), ([31], [31]), ([31], [31]), ([32, 33, 31, 31], [31, 32, 33]), ([31], [31]), ([35, 34, 31], [31, 35]), ([31], [31]), ([36, 37, 36, 31], [31, 36, 37]), ([34, 38, 31], [31, 34, 38]), ([31, 39], [31, 39]), ([40, 38], [40]), ([41], [41]), ([41], [41]), ([42, 43, 41], [41, 42, 43]), ([41, 44], [41, 44]), ([45, 41], [45]), ([46], [46]), ([46], [46]), ([47, 48, 46], [46, 47, 48]), ([46, 49], [46, 49]), ([50, 46], [50]), ([51], [51]), ([52, 51, 51], [51, 52]), ([51], [51]), ([54, 53, 51], [51, 54]), ([55, 55, 51], [51, 55]), ([53, 56, 51], [51, 53, 56]), ([51, 57], [51, 57]), ([58, 56, 0, 1, 2, 3, 4, 5, 6, 7, 8, 9, 10, 11, 12, 13, 14, 15, 16, 17, 18, 19, 20, 21, 22, 23, 24, 25, 26, 27, 28, 29, 30, 31, 32, 33, 34, 35, 36, 37, 38, 39, 40, 41, 42, 43, 44, 45, 46, 47, 48, 49, 50, 51, 52, 53, 54, 55, 56, 57, 58], [58])])
def tenementlaw07_StampTells.B10 : List Nat := [0, 1, 3, 7, 15, 31, 63, 31, 255, 511, 1023, 2047, 4095, 8191, 16383, 8191, 65535, 131071, 262143, 524287, 1048575, 2097151, 2097151, 8388607, 2097151, 33554431, 2097151, 134217727, 268435455, 536870911, 1073741823, 2147483647, 4294967295, 4294967295, 17179869183, 4294967295, 68719476735, 4294967295, 274877906943, 549755813887, 1099511627775, 2199023255551, 4398046511103, 4398046511103, 17592186044415, 35184372088831, 70368744177663, 140737488355327, 140737488355327, 562949953421311, 1125899906842623, 2251799813685247, 4503599627370495, 9007199254740991, 4503599627370495, 36028797018963967, 72057594037927935, 144115188075855871, 288230376151711743, 576460752303423487]
theorem tenementlaw07_StampTells.tab10 : rtab .any (opsOf Tryd.f3 10) = tenementlaw07_StampTells.T10 := by kernel_rfl
theorem tenementlaw07_StampTells.bits10 : waitsOk tenementlaw07_StampTells.T10.2 tenementlaw07_StampTells.B10 = true := by kernel_rfl
set_option maxHeartbeats 8000000 in
set_option maxRecDepth 100000 in
theorem tenementlaw07_StampTells.calls (k : Nat) (a0_0 : Int) (a0_1 : Int) (a0_2 : Int) (a0_3 : Int) (a0_4 : Int) (a0_5 : Bool) (a1_0 : Int) (a1_1 : Int) (a1_2 : Int) (a1_3 : Int) (a1_4 : Int) (a1_5 : Bool) (a2_0 : Int) (a2_1 : Int) (a2_2 : Int) (a2_3 : Int) (a2_4 : Bool) (r : Bool) (w : World) (HT : BigText.Tab w) (h : tenementlaw07_StampTells.f k a0_0 a0_1 a0_2 a0_3 a0_4 a0_5 a1_0 a1_1 a1_2 a1_3 a1_4 a1_5 a2_0 a2_1 a2_2 a2_3 a2_4 = some r) :
    Calls Tryd.prog 3 #[.agg #[.int .u64 a0_0, .int .u64 a0_1, .int .u64 a0_2, .int .u64 a0_3, .int .i64 a0_4, .bool a0_5], .agg #[.int .u64 a1_0, .int .u64 a1_1, .int .u64 a1_2, .int .u64 a1_3, .int .i64 a1_4, .bool a1_5], .agg #[.int .u64 a2_0, .int .u64 a2_1, .int .u64 a2_2, .int .u64 a2_3, .bool a2_4]] w fun e w' => e = .returned (.bool r) ∧ Below w.heap.size w w' := by
  have hu28 := Tryd.underlying28
  have hu30 := Tryd.underlying30
  have hu26 := Tryd.underlying26
  have hu24 := Tryd.underlying24
  have HB := Aside0.mk (Below.refl w.heap.size w)
  have H : ((tenementlaw07_examples.f k).bind fun t277 => (if t277 = true then ((tenementlaw07_Mark_mark.f k a0_0 a0_1 a0_2 a0_3 a0_4 a0_5).bind fun bt278 => ((tenementlaw07_Mark_mark.f k a1_0 a1_1 a1_2 a1_3 a1_4 a1_5).bind fun bt284 => ((tenementlaw07_Vector_vector.f k a2_0 a2_1 a2_2 a2_3 a2_4).bind fun bt290 => ((stamp_Put.f k bt278.1 bt278.2.1 bt278.2.2.1 bt278.2.2.2.1 bt278.2.2.2.2).bind fun bt295 => ((tenementlaw07_refStamp.f bt278.1 bt278.2.1 bt278.2.2.1 bt278.2.2.2.1 bt278.2.2.2.2).bind fun bt297 => ((tenementref07_Put.f k bt297.1 bt297.2.1 bt297.2.2.1 bt297.2.2.2.1 bt297.2.2.2.2).bind fun bt302 => ((stamp_Later.f k bt278.1 bt278.2.1 bt278.2.2.1 bt278.2.2.2.1 bt278.2.2.2.2 bt284.1 bt284.2.1 bt284.2.2.1 bt284.2.2.2.1 bt284.2.2.2.2).bind fun bt304 => ((tenementlaw07_refStamp.f bt304.1 bt304.2.1 bt304.2.2.1 bt304.2.2.2.1 bt304.2.2.2.2).bind fun bt309 => ((tenementlaw07_refStamp.f bt278.1 bt278.2.1 bt278.2.2.1 bt278.2.2.2.1 bt278.2.2.2.2).bind fun bt314 => ((tenementlaw07_refStamp.f bt284.1 bt284.2.1 bt284.2.2.1 bt284.2.2.2.1 bt284.2.2.2.2).bind fun bt319 => ((tenementref07_Later.f k bt314.1 bt314.2.1 bt314.2.2.1 bt314.2.2.2.1 bt314.2.2.2.2 bt319.1 bt319.2.1 bt319.2.2.1 bt319.2.2.2.1 bt319.2.2.2.2).bind fun bt324 => (if ((bt309.1 == bt324.1 && (bt309.2.1 == bt324.2.1 && (bt309.2.2.1 == bt324.2.2.1 && (bt309.2.2.2.1 == bt324.2.2.2.1)))) && (bt309.2.2.2.2 == bt324.2.2.2.2)) = true then ((stamp_Right.f bt278.1 bt278.2.1 bt278.2.2.1 bt278.2.2.2.1 bt278.2.2.2.2).bind fun t329 => ((tenementlaw07_refStamp.f bt278.1 bt278.2.1 bt278.2.2.1 bt278.2.2.2.1 bt278.2.2.2.2).bind fun bt330 => ((tenementref07_Right.f k bt330.1 bt330.2.1 bt330.2.2.1 bt330.2.2.2.1 bt330.2.2.2.2).bind fun t335 => (if t329 = t335 then ((stamp_Stamp_N.f bt278.1 bt278.2.1 bt278.2.2.1 bt278.2.2.2.1 bt278.2.2.2.2).bind fun t336 => ((tenementlaw07_refStamp.f bt278.1 bt278.2.1 bt278.2.2.1 bt278.2.2.2.1 bt278.2.2.2.2).bind fun bt337 => ((tenementref07_Stamp_N.f bt337.1 bt337.2.1 bt337.2.2.1 bt337.2.2.2.1 bt337.2.2.2.2).bind fun t342 => (if t336 = t342 then ((stamp_Order.f k bt278.1 bt278.2.1 bt278.2.2.1 bt278.2.2.2.1 bt278.2.2.2.2 bt284.1 bt284.2.1 bt284.2.2.1 bt284.2.2.2.1 bt284.2.2.2.2).bind fun t343 => ((tenementlaw07_refStamp.f bt278.1 bt278.2.1 bt278.2.2.1 bt278.2.2.2.1 bt278.2.2.2.2).bind fun bt344 => ((tenementlaw07_refStamp.f bt284.1 bt284.2.1 bt284.2.2.1 bt284.2.2.2.1 bt284.2.2.2.2).bind fun bt349 => ((tenementref07_Order.f k bt344.1 bt344.2.1 bt344.2.2.1 bt344.2.2.2.1 bt344.2.2.2.2 bt349.1 bt349.2.1 bt349.2.2.1 bt349.2.2.2.1 bt349.2.2.2.2).bind fun t354 => (if t343 = t354 then ((stamp_Seen.f bt278.1 bt278.2.1 bt278.2.2.1 bt278.2.2.2.1 bt278.2.2.2.2 bt290.1 bt290.2.1 bt290.2.2.1 bt290.2.2.2).bind fun t355 => ((tenementlaw07_refStamp.f bt278.1 bt278.2.1 bt278.2.2.1 bt278.2.2.2.1 bt278.2.2.2.2).bind fun bt356 => ((tenementref07_Seen.f k bt356.1 bt356.2.1 bt356.2.2.1 bt356.2.2.2.1 bt356.2.2.2.2 bt290.1 bt290.2.1 bt290.2.2.1 bt290.2.2.2).bind fun t361 => (if t355 = t361 then (if bt295.1.toList = bt302.1.toList then (if bt295.2 = bt302.2 then ((BigStamp.f bt278.1 bt278.2.1 bt278.2.2.1 bt278.2.2.2.1 bt278.2.2.2.2).bind fun t362 => ((tenementlaw07_refStamp.f bt278.1 bt278.2.1 bt278.2.2.1 bt278.2.2.2.1 bt278.2.2.2.2).bind fun bt363 => ((tenementref07_Text.f k bt363.1 bt363.2.1 bt363.2.2.1 bt363.2.2.2.1 bt363.2.2.2.2).bind fun t368 => (if t362.toList = t368.toList then (some true) else (none))))) else (none)) else (none)) else (none))))) else (none)))))) else (none))))) else (none))))) else (none))))))))))))) else (none))) = some r := h
  clear h
  replace H := Option.bind_eq_some_iff.mp H
  obtain ⟨t277, A40, H⟩ := H
  replace H : (if t277 = true then ((tenementlaw07_Mark_mark.f k a0_0 a0_1 a0_2 a0_3 a0_4 a0_5).bind fun bt278 => ((tenementlaw07_Mark_mark.f k a1_0 a1_1 a1_2 a1_3 a1_4 a1_5).bind fun bt284 => ((tenementlaw07_Vector_vector.f k a2_0 a2_1 a2_2 a2_3 a2_4).bind fun bt290 => ((stamp_Put.f k bt278.1 bt278.2.1 bt278.2.2.1 bt278.2.2.2.1 bt278.2.2.2.2).bind fun bt295 => ((tenementlaw07_refStamp.f bt278.1 bt278.2.1 bt278.2.2.1 bt278.2.2.2.1 bt278.2.2.2.2).bind fun bt297 => ((tenementref07_Put.f k bt297.1 bt297.2.1 bt297.2.2.1 bt297.2.2.2.1 bt297.2.2.2.2).bind fun bt302 => ((stamp_Later.f k bt278.1 bt278.2.1 bt278.2.2.1 bt278.2.2.2.1 bt278.2.2.2.2 bt284.1 bt284.2.1 bt284.2.2.1 bt284.2.2.2.1 bt284.2.2.2.2).bind fun bt304 => ((tenementlaw07_refStamp.f bt304.1 bt304.2.1 bt304.2.2.1 bt304.2.2.2.1 bt304.2.2.2.2).bind fun bt309 => ((tenementlaw07_refStamp.f bt278.1 bt278.2.1 bt278.2.2.1 bt278.2.2.2.1 bt278.2.2.2.2).bind fun bt314 => ((tenementlaw07_refStamp.f bt284.1 bt284.2.1 bt284.2.2.1 bt284.2.2.2.1 bt284.2.2.2.2).bind fun bt319 => ((tenementref07_Later.f k bt314.1 bt314.2.1 bt314.2.2.1 bt314.2.2.2.1 bt314.2.2.2.2 bt319.1 bt319.2.1 bt319.2.2.1 bt319.2.2.2.1 bt319.2.2.2.2).bind fun bt324 => (if ((bt309.1 == bt324.1 && (bt309.2.1 == bt324.2.1 && (bt309.2.2.1 == bt324.2.2.1 && (bt309.2.2.2.1 == bt324.2.2.2.1)))) && (bt309.2.2.2.2 == bt324.2.2.2.2)) = true then ((stamp_Right.f bt278.1 bt278.2.1 bt278.2.2.1 bt278.2.2.2.1 bt278.2.2.2.2).bind fun t329 => ((tenementlaw07_refStamp.f bt278.1 bt278.2.1 bt278.2.2.1 bt278.2.2.2.1 bt278.2.2.2.2).bind fun bt330 => ((tenementref07_Right.f k bt330.1 bt330.2.1 bt330.2.2.1 bt330.2.2.2.1 bt330.2.2.2.2).bind fun t335 => (if t329 = t335 then ((stamp_Stamp_N.f bt278.1 bt278.2.1 bt278.2.2.1 bt278.2.2.2.1 bt278.2.2.2.2).bind fun t336 => ((tenementlaw07_refStamp.f bt278.1 bt278.2.1 bt278.2.2.1 bt278.2.2.2.1 bt278.2.2.2.2).bind fun bt337 => ((tenementref07_Stamp_N.f bt337.1 bt337.2.1 bt337.2.2.1 bt337.2.2.2.1 bt337.2.2.2.2).bind fun t342 => (if t336 = t342 then ((stamp_Order.f k bt278.1 bt278.2.1 bt278.2.2.1 bt278.2.2.2.1 bt278.2.2.2.2 bt284.1 bt284.2.1 bt284.2.2.1 bt284.2.2.2.1 bt284.2.2.2.2).bind fun t343 => ((tenementlaw07_refStamp.f bt278.1 bt278.2.1 bt278.2.2.1 bt278.2.2.2.1 bt278.2.2.2.2).bind fun bt344 => ((tenementlaw07_refStamp.f bt284.1 bt284.2.1 bt284.2.2.1 bt284.2.2.2.1 bt284.2.2.2.2).bind fun bt349 => ((tenementref07_Order.f k bt344.1 bt344.2.1 bt344.2.2.1 bt344.2.2.2.1 bt344.2.2.2.2 bt349.1 bt349.2.1 bt349.2.2.1 bt349.2.2.2.1 bt349.2.2.2.2).bind fun t354 => (if t343 = t354 then ((stamp_Seen.f bt278.1 bt278.2.1 bt278.2.2.1 bt278.2.2.2.1 bt278.2.2.2.2 bt290.1 bt290.2.1 bt290.2.2.1 bt290.2.2.2).bind fun t355 => ((tenementlaw07_refStamp.f bt278.1 bt278.2.1 bt278.2.2.1 bt278.2.2.2.1 bt278.2.2.2.2).bind fun bt356 => ((tenementref07_Seen.f k bt356.1 bt356.2.1 bt356.2.2.1 bt356.2.2.2.1 bt356.2.2.2.2 bt290.1 bt290.2.1 bt290.2.2.1 bt290.2.2.2).bind fun t361 => (if t355 = t361 then (if bt295.1.toList = bt302.1.toList then (if bt295.2 = bt302.2 then ((BigStamp.f bt278.1 bt278.2.1 bt278.2.2.1 bt278.2.2.2.1 bt278.2.2.2.2).bind fun t362 => ((tenementlaw07_refStamp.f bt278.1 bt278.2.1 bt278.2.2.1 bt278.2.2.2.1 bt278.2.2.2.2).bind fun bt363 => ((tenementref07_Text.f k bt363.1 bt363.2.1 bt363.2.2.1 bt363.2.2.2.1 bt363.2.2.2.2).bind fun t368 => (if t362.toList = t368.toList then (some true) else (none))))) else (none)) else (none)) else (none))))) else (none)))))) else (none))))) else (none))))) else (none))))))))))))) else (none)) = some r := H
  have A4 := Aside0.mk A40
  clear A40
  by_cases c5 : t277 = true
  rotate_left
  · replace c5 := Bool.eq_false_iff.mpr c5
    subst c5
    have H1 : (none) = some r := by rw [if_neg (show ¬ (false = true) by decide)] at H; exact H
    clear H
    have H := H1
    clear H1
    exact absurd H (by simp)
  subst c5
  have H1 : ((tenementlaw07_Mark_mark.f k a0_0 a0_1 a0_2 a0_3 a0_4 a0_5).bind fun bt278 => ((tenementlaw07_Mark_mark.f k a1_0 a1_1 a1_2 a1_3 a1_4 a1_5).bind fun bt284 => ((tenementlaw07_Vector_vector.f k a2_0 a2_1 a2_2 a2_3 a2_4).bind fun bt290 => ((stamp_Put.f k bt278.1 bt278.2.1 bt278.2.2.1 bt278.2.2.2.1 bt278.2.2.2.2).bind fun bt295 => ((tenementlaw07_refStamp.f bt278.1 bt278.2.1 bt278.2.2.1 bt278.2.2.2.1 bt278.2.2.2.2).bind fun bt297 => ((tenementref07_Put.f k bt297.1 bt297.2.1 bt297.2.2.1 bt297.2.2.2.1 bt297.2.2.2.2).bind fun bt302 => ((stamp_Later.f k bt278.1 bt278.2.1 bt278.2.2.1 bt278.2.2.2.1 bt278.2.2.2.2 bt284.1 bt284.2.1 bt284.2.2.1 bt284.2.2.2.1 bt284.2.2.2.2).bind fun bt304 => ((tenementlaw07_refStamp.f bt304.1 bt304.2.1 bt304.2.2.1 bt304.2.2.2.1 bt304.2.2.2.2).bind fun bt309 => ((tenementlaw07_refStamp.f bt278.1 bt278.2.1 bt278.2.2.1 bt278.2.2.2.1 bt278.2.2.2.2).bind fun bt314 => ((tenementlaw07_refStamp.f bt284.1 bt284.2.1 bt284.2.2.1 bt284.2.2.2.1 bt284.2.2.2.2).bind fun bt319 => ((tenementref07_Later.f k bt314.1 bt314.2.1 bt314.2.2.1 bt314.2.2.2.1 bt314.2.2.2.2 bt319.1 bt319.2.1 bt319.2.2.1 bt319.2.2.2.1 bt319.2.2.2.2).bind fun bt324 => (if ((bt309.1 == bt324.1 && (bt309.2.1 == bt324.2.1 && (bt309.2.2.1 == bt324.2.2.1 && (bt309.2.2.2.1 == bt324.2.2.2.1)))) && (bt309.2.2.2.2 == bt324.2.2.2.2)) = true then ((stamp_Right.f bt278.1 bt278.2.1 bt278.2.2.1 bt278.2.2.2.1 bt278.2.2.2.2).bind fun t329 => ((tenementlaw07_refStamp.f bt278.1 bt278.2.1 bt278.2.2.1 bt278.2.2.2.1 bt278.2.2.2.2).bind fun bt330 => ((tenementref07_Right.f k bt330.1 bt330.2.1 bt330.2.2.1 bt330.2.2.2.1 bt330.2.2.2.2).bind fun t335 => (if t329 = t335 then ((stamp_Stamp_N.f bt278.1 bt278.2.1 bt278.2.2.1 bt278.2.2.2.1 bt278.2.2.2.2).bind fun t336 => ((tenementlaw07_refStamp.f bt278.1 bt278.2.1 bt278.2.2.1 bt278.2.2.2.1 bt278.2.2.2.2).bind fun bt337 => ((tenementref07_Stamp_N.f bt337.1 bt337.2.1 bt337.2.2.1 bt337.2.2.2.1 bt337.2.2.2.2).bind fun t342 => (if t336 = t342 then ((stamp_Order.f k bt278.1 bt278.2.1 bt278.2.2.1 bt278.2.2.2.1 bt278.2.2.2.2 bt284.1 bt284.2.1 bt284.2.2.1 bt284.2.2.2.1 bt284.2.2.2.2).bind fun t343 => ((tenementlaw07_refStamp.f bt278.1 bt278.2.1 bt278.2.2.1 bt278.2.2.2.1 bt278.2.2.2.2).bind fun bt344 => ((tenementlaw07_refStamp.f bt284.1 bt284.2.1 bt284.2.2.1 bt284.2.2.2.1 bt284.2.2.2.2).bind fun bt349 => ((tenementref07_Order.f k bt344.1 bt344.2.1 bt344.2.2.1 bt344.2.2.2.1 bt344.2.2.2.2 bt349.1 bt349.2.1 bt349.2.2.1 bt349.2.2.2.1 bt349.2.2.2.2).bind fun t354 => (if t343 = t354 then ((stamp_Seen.f bt278.1 bt278.2.1 bt278.2.2.1 bt278.2.2.2.1 bt278.2.2.2.2 bt290.1 bt290.2.1 bt290.2.2.1 bt290.2.2.2).bind fun t355 => ((tenementlaw07_refStamp.f bt278.1 bt278.2.1 bt278.2.2.1 bt278.2.2.2.1 bt278.2.2.2.2).bind fun bt356 => ((tenementref07_Seen.f k bt356.1 bt356.2.1 bt356.2.2.1 bt356.2.2.2.1 bt356.2.2.2.2 bt290.1 bt290.2.1 bt290.2.2.1 bt290.2.2.2).bind fun t361 => (if t355 = t361 then (if bt295.1.toList = bt302.1.toList then (if bt295.2 = bt302.2 then ((BigStamp.f bt278.1 bt278.2.1 bt278.2.2.1 bt278.2.2.2.1 bt278.2.2.2.2).bind fun t362 => ((tenementlaw07_refStamp.f bt278.1 bt278.2.1 bt278.2.2.1 bt278.2.2.2.1 bt278.2.2.2.2).bind fun bt363 => ((tenementref07_Text.f k bt363.1 bt363.2.1 bt363.2.2.1 bt363.2.2.2.1 bt363.2.2.2.2).bind fun t368 => (if t362.toList = t368.toList then (some true) else (none))))) else (none)) else (none)) else (none))))) else (none)))))) else (none))))) else (none))))) else (none))))))))))))) = some r := by rw [if_pos rfl] at H; exact H
  clear H
  have H := H1
  clear H1
  replace H := Option.bind_eq_some_iff.mp H
  obtain ⟨⟨t278, t279, t280, t281, t282⟩, A60, H⟩ := H
  replace H : ((tenementlaw07_Mark_mark.f k a1_0 a1_1 a1_2 a1_3 a1_4 a1_5).bind fun bt284 => ((tenementlaw07_Vector_vector.f k a2_0 a2_1 a2_2 a2_3 a2_4).bind fun bt290 => ((stamp_Put.f k t278 t279 t280 t281 t282).bind fun bt295 => ((tenementlaw07_refStamp.f t278 t279 t280 t281 t282).bind fun bt297 => ((tenementref07_Put.f k bt297.1 bt297.2.1 bt297.2.2.1 bt297.2.2.2.1 bt297.2.2.2.2).bind fun bt302 => ((stamp_Later.f k t278 t279 t280 t281 t282 bt284.1 bt284.2.1 bt284.2.2.1 bt284.2.2.2.1 bt284.2.2.2.2).bind fun bt304 => ((tenementlaw07_refStamp.f bt304.1 bt304.2.1 bt304.2.2.1 bt304.2.2.2.1 bt304.2.2.2.2).bind fun bt309 => ((tenementlaw07_refStamp.f t278 t279 t280 t281 t282).bind fun bt314 => ((tenementlaw07_refStamp.f bt284.1 bt284.2.1 bt284.2.2.1 bt284.2.2.2.1 bt284.2.2.2.2).bind fun bt319 => ((tenementref07_Later.f k bt314.1 bt314.2.1 bt314.2.2.1 bt314.2.2.2.1 bt314.2.2.2.2 bt319.1 bt319.2.1 bt319.2.2.1 bt319.2.2.2.1 bt319.2.2.2.2).bind fun bt324 => (if ((bt309.1 == bt324.1 && (bt309.2.1 == bt324.2.1 && (bt309.2.2.1 == bt324.2.2.1 && (bt309.2.2.2.1 == bt324.2.2.2.1)))) && (bt309.2.2.2.2 == bt324.2.2.2.2)) = true then ((stamp_Right.f t278 t279 t280 t281 t282).bind fun t329 => ((tenementlaw07_refStamp.f t278 t279 t280 t281 t282).bind fun bt330 => ((tenementref07_Right.f k bt330.1 bt330.2.1 bt330.2.2.1 bt330.2.2.2.1 bt330.2.2.2.2).bind fun t335 => (if t329 = t335 then ((stamp_Stamp_N.f t278 t279 t280 t281 t282).bind fun t336 => ((tenementlaw07_refStamp.f t278 t279 t280 t281 t282).bind fun bt337 => ((tenementref07_Stamp_N.f bt337.1 bt337.2.1 bt337.2.2.1 bt337.2.2.2.1 bt337.2.2.2.2).bind fun t342 => (if t336 = t342 then ((stamp_Order.f k t278 t279 t280 t281 t282 bt284.1 bt284.2.1 bt284.2.2.1 bt284.2.2.2.1 bt284.2.2.2.2).bind fun t343 => ((tenementlaw07_refStamp.f t278 t279 t280 t281 t282).bind fun bt344 => ((tenementlaw07_refStamp.f bt284.1 bt284.2.1 bt284.2.2.1 bt284.2.2.2.1 bt284.2.2.2.2).bind fun bt349 => ((tenementref07_Order.f k bt344.1 bt344.2.1 bt344.2.2.1 bt344.2.2.2.1 bt344.2.2.2.2 bt349.1 bt349.2.1 bt349.2.2.1 bt349.2.2.2.1 bt349.2.2.2.2).bind fun t354 => (if t343 = t354 then ((stamp_Seen.f t278 t279 t280 t281 t282 bt290.1 bt290.2.1 bt290.2.2.1 bt290.2.2.2).bind fun t355 => ((tenementlaw07_refStamp.f t278 t279 t280 t281 t282).bind fun bt356 => ((tenementref07_Seen.f k bt356.1 bt356.2.1 bt356.2.2.1 bt356.2.2.2.1 bt356.2.2.2.2 bt290.1 bt290.2.1 bt290.2.2.1 bt290.2.2.2).bind fun t361 => (if t355 = t361 then (if bt295.1.toList = bt302.1.toList then (if bt295.2 = bt302.2 then ((BigStamp.f t278 t279 t280 t281 t282).bind fun t362 => ((tenementlaw07_refStamp.f t278 t279 t280 t281 t282).bind fun bt363 => ((tenementref07_Text.f k bt363.1 bt363.2.1 bt363.2.2.1 bt363.2.2.2.1 bt363.2.2.2.2).bind fun t368 => (if t362.toList = t368.toList then (some true) else (none))))) else (none)) else (none)) else (none))))) else (none)))))) else (none))))) else (none))))) else (none)))))))))))) = some r := H
  have A6 := Aside0.mk A60
  clear A60
  replace H := Option.bind_eq_some_iff.mp H
  obtain ⟨⟨t284, t285, t286, t287, t288⟩, A70, H⟩ := H
  replace H : ((tenementlaw07_Vector_vector.f k a2_0 a2_1 a2_2 a2_3 a2_4).bind fun bt290 => ((stamp_Put.f k t278 t279 t280 t281 t282).bind fun bt295 => ((tenementlaw07_refStamp.f t278 t279 t280 t281 t282).bind fun bt297 => ((tenementref07_Put.f k bt297.1 bt297.2.1 bt297.2.2.1 bt297.2.2.2.1 bt297.2.2.2.2).bind fun bt302 => ((stamp_Later.f k t278 t279 t280 t281 t282 t284 t285 t286 t287 t288).bind fun bt304 => ((tenementlaw07_refStamp.f bt304.1 bt304.2.1 bt304.2.2.1 bt304.2.2.2.1 bt304.2.2.2.2).bind fun bt309 => ((tenementlaw07_refStamp.f t278 t279 t280 t281 t282).bind fun bt314 => ((tenementlaw07_refStamp.f t284 t285 t286 t287 t288).bind fun bt319 => ((tenementref07_Later.f k bt314.1 bt314.2.1 bt314.2.2.1 bt314.2.2.2.1 bt314.2.2.2.2 bt319.1 bt319.2.1 bt319.2.2.1 bt319.2.2.2.1 bt319.2.2.2.2).bind fun bt324 => (if ((bt309.1 == bt324.1 && (bt309.2.1 == bt324.2.1 && (bt309.2.2.1 == bt324.2.2.1 && (bt309.2.2.2.1 == bt324.2.2.2.1)))) && (bt309.2.2.2.2 == bt324.2.2.2.2)) = true then ((stamp_Right.f t278 t279 t280 t281 t282).bind fun t329 => ((tenementlaw07_refStamp.f t278 t279 t280 t281 t282).bind fun bt330 => ((tenementref07_Right.f k bt330.1 bt330.2.1 bt330.2.2.1 bt330.2.2.2.1 bt330.2.2.2.2).bind fun t335 => (if t329 = t335 then ((stamp_Stamp_N.f t278 t279 t280 t281 t282).bind fun t336 => ((tenementlaw07_refStamp.f t278 t279 t280 t281 t282).bind fun bt337 => ((tenementref07_Stamp_N.f bt337.1 bt337.2.1 bt337.2.2.1 bt337.2.2.2.1 bt337.2.2.2.2).bind fun t342 => (if t336 = t342 then ((stamp_Order.f k t278 t279 t280 t281 t282 t284 t285 t286 t287 t288).bind fun t343 => ((tenementlaw07_refStamp.f t278 t279 t280 t281 t282).bind fun bt344 => ((tenementlaw07_refStamp.f t284 t285 t286 t287 t288).bind fun bt349 => ((tenementref07_Order.f k bt344.1 bt344.2.1 bt344.2.2.1 bt344.2.2.2.1 bt344.2.2.2.2 bt349.1 bt349.2.1 bt349.2.2.1 bt349.2.2.2.1 bt349.2.2.2.2).bind fun t354 => (if t343 = t354 then ((stamp_Seen.f t278 t279 t280 t281 t282 bt290.1 bt290.2.1 bt290.2.2.1 bt290.2.2.2).bind fun t355 => ((tenementlaw07_refStamp.f t278 t279 t280 t281 t282).bind fun bt356 => ((tenementref07_Seen.f k bt356.1 bt356.2.1 bt356.2.2.1 bt356.2.2.2.1 bt356.2.2.2.2 bt290.1 bt290.2.1 bt290.2.2.1 bt290.2.2.2).bind fun t361 => (if t355 = t361 then (if bt295.1.toList = bt302.1.toList then (if bt295.2 = bt302.2 then ((BigStamp.f t278 t279 t280 t281 t282).bind fun t362 => ((tenementlaw07_refStamp.f t278 t279 t280 t281 t282).bind fun bt363 => ((tenementref07_Text.f k bt363.1 bt363.2.1 bt363.2.2.1 bt363.2.2.2.1 bt363.2.2.2.2).bind fun t368 => (if t362.toList = t368.toList then (some true) else (none))))) else (none)) else (none)) else (none))))) else (none)))))) else (none))))) else (none))))) else (none))))))))))) = some r := H
  have A7 := Aside0.mk A70
  clear A70
  replace H := Option.bind_eq_some_iff.mp H
  obtain ⟨⟨t290, t291, t292, t293⟩, A80, H⟩ := H
  replace H : ((stamp_Put.f k t278 t279 t280 t281 t282).bind fun bt295 => ((tenementlaw07_refStamp.f t278 t279 t280 t281 t282).bind fun bt297 => ((tenementref07_Put.f k bt297.1 bt297.2.1 bt297.2.2.1 bt297.2.2.2.1 bt297.2.2.2.2).bind fun bt302 => ((stamp_Later.f k t278 t279 t280 t281 t282 t284 t285 t286 t287 t288).bind fun bt304 => ((tenementlaw07_refStamp.f bt304.1 bt304.2.1 bt304.2.2.1 bt304.2.2.2.1 bt304.2.2.2.2).bind fun bt309 => ((tenementlaw07_refStamp.f t278 t279 t280 t281 t282).bind fun bt314 => ((tenementlaw07_refStamp.f t284 t285 t286 t287 t288).bind fun bt319 => ((tenementref07_Later.f k bt314.1 bt314.2.1 bt314.2.2.1 bt314.2.2.2.1 bt314.2.2.2.2 bt319.1 bt319.2.1 bt319.2.2.1 bt319.2.2.2.1 bt319.2.2.2.2).bind fun bt324 => (if ((bt309.1 == bt324.1 && (bt309.2.1 == bt324.2.1 && (bt309.2.2.1 == bt324.2.2.1 && (bt309.2.2.2.1 == bt324.2.2.2.1)))) && (bt309.2.2.2.2 == bt324.2.2.2.2)) = true then ((stamp_Right.f t278 t279 t280 t281 t282).bind fun t329 => ((tenementlaw07_refStamp.f t278 t279 t280 t281 t282).bind fun bt330 => ((tenementref07_Right.f k bt330.1 bt330.2.1 bt330.2.2.1 bt330.2.2.2.1 bt330.2.2.2.2).bind fun t335 => (if t329 = t335 then ((stamp_Stamp_N.f t278 t279 t280 t281 t282).bind fun t336 => ((tenementlaw07_refStamp.f t278 t279 t280 t281 t282).bind fun bt337 => ((tenementref07_Stamp_N.f bt337.1 bt337.2.1 bt337.2.2.1 bt337.2.2.2.1 bt337.2.2.2.2).bind fun t342 => (if t336 = t342 then ((stamp_Order.f k t278 t279 t280 t281 t282 t284 t285 t286 t287 t288).bind fun t343 => ((tenementlaw07_refStamp.f t278 t279 t280 t281 t282).bind fun bt344 => ((tenementlaw07_refStamp.f t284 t285 t286 t287 t288).bind fun bt349 => ((tenementref07_Order.f k bt344.1 bt344.2.1 bt344.2.2.1 bt344.2.2.2.1 bt344.2.2.2.2 bt349.1 bt349.2.1 bt349.2.2.1 bt349.2.2.2.1 bt349.2.2.2.2).bind fun t354 => (if t343 = t354 then ((stamp_Seen.f t278 t279 t280 t281 t282 t290 t291 t292 t293).bind fun t355 => ((tenementlaw07_refStamp.f t278 t279 t280 t281 t282).bind fun bt356 => ((tenementref07_Seen.f k bt356.1 bt356.2.1 bt356.2.2.1 bt356.2.2.2.1 bt356.2.2.2.2 t290 t291 t292 t293).bind fun t361 => (if t355 = t361 then (if bt295.1.toList = bt302.1.toList then (if bt295.2 = bt302.2 then ((BigStamp.f t278 t279 t280 t281 t282).bind fun t362 => ((tenementlaw07_refStamp.f t278 t279 t280 t281 t282).bind fun bt363 => ((tenementref07_Text.f k bt363.1 bt363.2.1 bt363.2.2.1 bt363.2.2.2.1 bt363.2.2.2.2).bind fun t368 => (if t362.toList = t368.toList then (some true) else (none))))) else (none)) else (none)) else (none))))) else (none)))))) else (none))))) else (none))))) else (none)))))))))) = some r := H
  have A8 := Aside0.mk A80
  clear A80
  replace H := Option.bind_eq_some_iff.mp H
  obtain ⟨⟨t295, t296⟩, A90, H⟩ := H
  replace H : ((tenementlaw07_refStamp.f t278 t279 t280 t281 t282).bind fun bt297 => ((tenementref07_Put.f k bt297.1 bt297.2.1 bt297.2.2.1 bt297.2.2.2.1 bt297.2.2.2.2).bind fun bt302 => ((stamp_Later.f k t278 t279 t280 t281 t282 t284 t285 t286 t287 t288).bind fun bt304 => ((tenementlaw07_refStamp.f bt304.1 bt304.2.1 bt304.2.2.1 bt304.2.2.2.1 bt304.2.2.2.2).bind fun bt309 => ((tenementlaw07_refStamp.f t278 t279 t280 t281 t282).bind fun bt314 => ((tenementlaw07_refStamp.f t284 t285 t286 t287 t288).bind fun bt319 => ((tenementref07_Later.f k bt314.1 bt314.2.1 bt314.2.2.1 bt314.2.2.2.1 bt314.2.2.2.2 bt319.1 bt319.2.1 bt319.2.2.1 bt319.2.2.2.1 bt319.2.2.2.2).bind fun bt324 => (if ((bt309.1 == bt324.1 && (bt309.2.1 == bt324.2.1 && (bt309.2.2.1 == bt324.2.2.1 && (bt309.2.2.2.1 == bt324.2.2.2.1)))) && (bt309.2.2.2.2 == bt324.2.2.2.2)) = true then ((stamp_Right.f t278 t279 t280 t281 t282).bind fun t329 => ((tenementlaw07_refStamp.f t278 t279 t280 t281 t282).bind fun bt330 => ((tenementref07_Right.f k bt330.1 bt330.2.1 bt330.2.2.1 bt330.2.2.2.1 bt330.2.2.2.2).bind fun t335 => (if t329 = t335 then ((stamp_Stamp_N.f t278 t279 t280 t281 t282).bind fun t336 => ((tenementlaw07_refStamp.f t278 t279 t280 t281 t282).bind fun bt337 => ((tenementref07_Stamp_N.f bt337.1 bt337.2.1 bt337.2.2.1 bt337.2.2.2.1 bt337.2.2.2.2).bind fun t342 => (if t336 = t342 then ((stamp_Order.f k t278 t279 t280 t281 t282 t284 t285 t286 t287 t288).bind fun t343 => ((tenementlaw07_refStamp.f t278 t279 t280 t281 t282).bind fun bt344 => ((tenementlaw07_refStamp.f t284 t285 t286 t287 t288).bind fun bt349 => ((tenementref07_Order.f k bt344.1 bt344.2.1 bt344.2.2.1 bt344.2.2.2.1 bt344.2.2.2.2 bt349.1 bt349.2.1 bt349.2.2.1 bt349.2.2.2.1 bt349.2.2.2.2).bind fun t354 => (if t343 = t354 then ((stamp_Seen.f t278 t279 t280 t281 t282 t290 t291 t292 t293).bind fun t355 => ((tenementlaw07_refStamp.f t278 t279 t280 t281 t282).bind fun bt356 => ((tenementref07_Seen.f k bt356.1 bt356.2.1 bt356.2.2.1 bt356.2.2.2.1 bt356.2.2.2.2 t290 t291 t292 t293).bind fun t361 => (if t355 = t361 then (if t295.toList = bt302.1.toList then (if t296 = bt302.2 then ((BigStamp.f t278 t279 t280 t281 t282).bind fun t362 => ((tenementlaw07_refStamp.f t278 t279 t280 t281 t282).bind fun bt363 => ((tenementref07_Text.f k bt363.1 bt363.2.1 bt363.2.2.1 bt363.2.2.2.1 bt363.2.2.2.2).bind fun t368 => (if t362.toList = t368.toList then (some true) else (none))))) else (none)) else (none)) else (none))))) else (none)))))) else (none))))) else (none))))) else (none))))))))) = some r := H
  have A9 := Aside0.mk A90
  clear A90
  replace H := Option.bind_eq_some_iff.mp H
  obtain ⟨⟨t297, t298, t299, t300, t301⟩, A100, H⟩ := H
  replace H : ((tenementref07_Put.f k t297 t298 t299 t300 t301).bind fun bt302 => ((stamp_Later.f k t278 t279 t280 t281 t282 t284 t285 t286 t287 t288).bind fun bt304 => ((tenementlaw07_refStamp.f bt304.1 bt304.2.1 bt304.2.2.1 bt304.2.2.2.1 bt304.2.2.2.2).bind fun bt309 => ((tenementlaw07_refStamp.f t278 t279 t280 t281 t282).bind fun bt314 => ((tenementlaw07_refStamp.f t284 t285 t286 t287 t288).bind fun bt319 => ((tenementref07_Later.f k bt314.1 bt314.2.1 bt314.2.2.1 bt314.2.2.2.1 bt314.2.2.2.2 bt319.1 bt319.2.1 bt319.2.2.1 bt319.2.2.2.1 bt319.2.2.2.2).bind fun bt324 => (if ((bt309.1 == bt324.1 && (bt309.2.1 == bt324.2.1 && (bt309.2.2.1 == bt324.2.2.1 && (bt309.2.2.2.1 == bt324.2.2.2.1)))) && (bt309.2.2.2.2 == bt324.2.2.2.2)) = true then ((stamp_Right.f t278 t279 t280 t281 t282).bind fun t329 => ((tenementlaw07_refStamp.f t278 t279 t280 t281 t282).bind fun bt330 => ((tenementref07_Right.f k bt330.1 bt330.2.1 bt330.2.2.1 bt330.2.2.2.1 bt330.2.2.2.2).bind fun t335 => (if t329 = t335 then ((stamp_Stamp_N.f t278 t279 t280 t281 t282).bind fun t336 => ((tenementlaw07_refStamp.f t278 t279 t280 t281 t282).bind fun bt337 => ((tenementref07_Stamp_N.f bt337.1 bt337.2.1 bt337.2.2.1 bt337.2.2.2.1 bt337.2.2.2.2).bind fun t342 => (if t336 = t342 then ((stamp_Order.f k t278 t279 t280 t281 t282 t284 t285 t286 t287 t288).bind fun t343 => ((tenementlaw07_refStamp.f t278 t279 t280 t281 t282).bind fun bt344 => ((tenementlaw07_refStamp.f t284 t285 t286 t287 t288).bind fun bt349 => ((tenementref07_Order.f k bt344.1 bt344.2.1 bt344.2.2.1 bt344.2.2.2.1 bt344.2.2.2.2 bt349.1 bt349.2.1 bt349.2.2.1 bt349.2.2.2.1 bt349.2.2.2.2).bind fun t354 => (if t343 = t354 then ((stamp_Seen.f t278 t279 t280 t281 t282 t290 t291 t292 t293).bind fun t355 => ((tenementlaw07_refStamp.f t278 t279 t280 t281 t282).bind fun bt356 => ((tenementref07_Seen.f k bt356.1 bt356.2.1 bt356.2.2.1 bt356.2.2.2.1 bt356.2.2.2.2 t290 t291 t292 t293).bind fun t361 => (if t355 = t361 then (if t295.toList = bt302.1.toList then (if t296 = bt302.2 then ((BigStamp.f t278 t279 t280 t281 t282).bind fun t362 => ((tenementlaw07_refStamp.f t278 t279 t280 t281 t282).bind fun bt363 => ((tenementref07_Text.f k bt363.1 bt363.2.1 bt363.2.2.1 bt363.2.2.2.1 bt363.2.2.2.2).bind fun t368 => (if t362.toList = t368.toList then (some true) else (none))))) else (none)) else (none)) else (none))))) else (none)))))) else (none))))) else (none))))) else (none)))))))) = some r := H
  have A10 := Aside0.mk A100
  clear A100
  replace H := Option.bind_eq_some_iff.mp H
  obtain ⟨⟨t302, t303⟩, A110, H⟩ := H
  replace H : ((stamp_Later.f k t278 t279 t280 t281 t282 t284 t285 t286 t287 t288).bind fun bt304 => ((tenementlaw07_refStamp.f bt304.1 bt304.2.1 bt304.2.2.1 bt304.2.2.2.1 bt304.2.2.2.2).bind fun bt309 => ((tenementlaw07_refStamp.f t278 t279 t280 t281 t282).bind fun bt314 => ((tenementlaw07_refStamp.f t284 t285 t286 t287 t288).bind fun bt319 => ((tenementref07_Later.f k bt314.1 bt314.2.1 bt314.2.2.1 bt314.2.2.2.1 bt314.2.2.2.2 bt319.1 bt319.2.1 bt319.2.2.1 bt319.2.2.2.1 bt319.2.2.2.2).bind fun bt324 => (if ((bt309.1 == bt324.1 && (bt309.2.1 == bt324.2.1 && (bt309.2.2.1 == bt324.2.2.1 && (bt309.2.2.2.1 == bt324.2.2.2.1)))) && (bt309.2.2.2.2 == bt324.2.2.2.2)) = true then ((stamp_Right.f t278 t279 t280 t281 t282).bind fun t329 => ((tenementlaw07_refStamp.f t278 t279 t280 t281 t282).bind fun bt330 => ((tenementref07_Right.f k bt330.1 bt330.2.1 bt330.2.2.1 bt330.2.2.2.1 bt330.2.2.2.2).bind fun t335 => (if t329 = t335 then ((stamp_Stamp_N.f t278 t279 t280 t281 t282).bind fun t336 => ((tenementlaw07_refStamp.f t278 t279 t280 t281 t282).bind fun bt337 => ((tenementref07_Stamp_N.f bt337.1 bt337.2.1 bt337.2.2.1 bt337.2.2.2.1 bt337.2.2.2.2).bind fun t342 => (if t336 = t342 then ((stamp_Order.f k t278 t279 t280 t281 t282 t284 t285 t286 t287 t288).bind fun t343 => ((tenementlaw07_refStamp.f t278 t279 t280 t281 t282).bind fun bt344 => ((tenementlaw07_refStamp.f t284 t285 t286 t287 t288).bind fun bt349 => ((tenementref07_Order.f k bt344.1 bt344.2.1 bt344.2.2.1 bt344.2.2.2.1 bt344.2.2.2.2 bt349.1 bt349.2.1 bt349.2.2.1 bt349.2.2.2.1 bt349.2.2.2.2).bind fun t354 => (if t343 = t354 then ((stamp_Seen.f t278 t279 t280 t281 t282 t290 t291 t292 t293).bind fun t355 => ((tenementlaw07_refStamp.f t278 t279 t280 t281 t282).bind fun bt356 => ((tenementref07_Seen.f k bt356.1 bt356.2.1 bt356.2.2.1 bt356.2.2.2.1 bt356.2.2.2.2 t290 t291 t292 t293).bind fun t361 => (if t355 = t361 then (if t295.toList = t302.toList then (if t296 = t303 then ((BigStamp.f t278 t279 t280 t281 t282).bind fun t362 => ((tenementlaw07_refStamp.f t278 t279 t280 t281 t282).bind fun bt363 => ((tenementref07_Text.f k bt363.1 bt363.2.1 bt363.2.2.1 bt363.2.2.2.1 bt363.2.2.2.2).bind fun t368 => (if t362.toList = t368.toList then (some true) else (none))))) else (none)) else (none)) else (none))))) else (none)))))) else (none))))) else (none))))) else (none))))))) = some r := H
  have A11 := Aside0.mk A110
  clear A110
  replace H := Option.bind_eq_some_iff.mp H
  obtain ⟨⟨t304, t305, t306, t307, t308⟩, A120, H⟩ := H
  replace H : ((tenementlaw07_refStamp.f t304 t305 t306 t307 t308).bind fun bt309 => ((tenementlaw07_refStamp.f t278 t279 t280 t281 t282).bind fun bt314 => ((tenementlaw07_refStamp.f t284 t285 t286 t287 t288).bind fun bt319 => ((tenementref07_Later.f k bt314.1 bt314.2.1 bt314.2.2.1 bt314.2.2.2.1 bt314.2.2.2.2 bt319.1 bt319.2.1 bt319.2.2.1 bt319.2.2.2.1 bt319.2.2.2.2).bind fun bt324 => (if ((bt309.1 == bt324.1 && (bt309.2.1 == bt324.2.1 && (bt309.2.2.1 == bt324.2.2.1 && (bt309.2.2.2.1 == bt324.2.2.2.1)))) && (bt309.2.2.2.2 == bt324.2.2.2.2)) = true then ((stamp_Right.f t278 t279 t280 t281 t282).bind fun t329 => ((tenementlaw07_refStamp.f t278 t279 t280 t281 t282).bind fun bt330 => ((tenementref07_Right.f k bt330.1 bt330.2.1 bt330.2.2.1 bt330.2.2.2.1 bt330.2.2.2.2).bind fun t335 => (if t329 = t335 then ((stamp_Stamp_N.f t278 t279 t280 t281 t282).bind fun t336 => ((tenementlaw07_refStamp.f t278 t279 t280 t281 t282).bind fun bt337 => ((tenementref07_Stamp_N.f bt337.1 bt337.2.1 bt337.2.2.1 bt337.2.2.2.1 bt337.2.2.2.2).bind fun t342 => (if t336 = t342 then ((stamp_Order.f k t278 t279 t280 t281 t282 t284 t285 t286 t287 t288).bind fun t343 => ((tenementlaw07_refStamp.f t278 t279 t280 t281 t282).bind fun bt344 => ((tenementlaw07_refStamp.f t284 t285 t286 t287 t288).bind fun bt349 => ((tenementref07_Order.f k bt344.1 bt344.2.1 bt344.2.2.1 bt344.2.2.2.1 bt344.2.2.2.2 bt349.1 bt349.2.1 bt349.2.2.1 bt349.2.2.2.1 bt349.2.2.2.2).bind fun t354 => (if t343 = t354 then ((stamp_Seen.f t278 t279 t280 t281 t282 t290 t291 t292 t293).bind fun t355 => ((tenementlaw07_refStamp.f t278 t279 t280 t281 t282).bind fun bt356 => ((tenementref07_Seen.f k bt356.1 bt356.2.1 bt356.2.2.1 bt356.2.2.2.1 bt356.2.2.2.2 t290 t291 t292 t293).bind fun t361 => (if t355 = t361 then (if t295.toList = t302.toList then (if t296 = t303 then ((BigStamp.f t278 t279 t280 t281 t282).bind fun t362 => ((tenementlaw07_refStamp.f t278 t279 t280 t281 t282).bind fun bt363 => ((tenementref07_Text.f k bt363.1 bt363.2.1 bt363.2.2.1 bt363.2.2.2.1 bt363.2.2.2.2).bind fun t368 => (if t362.toList = t368.toList then (some true) else (none))))) else (none)) else (none)) else (none))))) else (none)))))) else (none))))) else (none))))) else (none)))))) = some r := H
  have A12 := Aside0.mk A120
  clear A120
  replace H := Option.bind_eq_some_iff.mp H
  obtain ⟨⟨t309, t310, t311, t312, t313⟩, A130, H⟩ := H
  replace H : ((tenementlaw07_refStamp.f t278 t279 t280 t281 t282).bind fun bt314 => ((tenementlaw07_refStamp.f t284 t285 t286 t287 t288).bind fun bt319 => ((tenementref07_Later.f k bt314.1 bt314.2.1 bt314.2.2.1 bt314.2.2.2.1 bt314.2.2.2.2 bt319.1 bt319.2.1 bt319.2.2.1 bt319.2.2.2.1 bt319.2.2.2.2).bind fun bt324 => (if ((t309 == bt324.1 && (t310 == bt324.2.1 && (t311 == bt324.2.2.1 && (t312 == bt324.2.2.2.1)))) && (t313 == bt324.2.2.2.2)) = true then ((stamp_Right.f t278 t279 t280 t281 t282).bind fun t329 => ((tenementlaw07_refStamp.f t278 t279 t280 t281 t282).bind fun bt330 => ((tenementref07_Right.f k bt330.1 bt330.2.1 bt330.2.2.1 bt330.2.2.2.1 bt330.2.2.2.2).bind fun t335 => (if t329 = t335 then ((stamp_Stamp_N.f t278 t279 t280 t281 t282).bind fun t336 => ((tenementlaw07_refStamp.f t278 t279 t280 t281 t282).bind fun bt337 => ((tenementref07_Stamp_N.f bt337.1 bt337.2.1 bt337.2.2.1 bt337.2.2.2.1 bt337.2.2.2.2).bind fun t342 => (if t336 = t342 then ((stamp_Order.f k t278 t279 t280 t281 t282 t284 t285 t286 t287 t288).bind fun t343 => ((tenementlaw07_refStamp.f t278 t279 t280 t281 t282).bind fun bt344 => ((tenementlaw07_refStamp.f t284 t285 t286 t287 t288).bind fun bt349 => ((tenementref07_Order.f k bt344.1 bt344.2.1 bt344.2.2.1 bt344.2.2.2.1 bt344.2.2.2.2 bt349.1 bt349.2.1 bt349.2.2.1 bt349.2.2.2.1 bt349.2.2.2.2).bind fun t354 => (if t343 = t354 then ((stamp_Seen.f t278 t279 t280 t281 t282 t290 t291 t292 t293).bind fun t355 => ((tenementlaw07_refStamp.f t278 t279 t280 t281 t282).bind fun bt356 => ((tenementref07_Seen.f k bt356.1 bt356.2.1 bt356.2.2.1 bt356.2.2.2.1 bt356.2.2.2.2 t290 t291 t292 t293).bind fun t361 => (if t355 = t361 then (if t295.toList = t302.toList then (if t296 = t303 then ((BigStamp.f t278 t279 t280 t281 t282).bind fun t362 => ((tenementlaw07_refStamp.f t278 t279 t280 t281 t282).bind fun bt363 => ((tenementref07_Text.f k bt363.1 bt363.2.1 bt363.2.2.1 bt363.2.2.2.1 bt363.2.2.2.2).bind fun t368 => (if t362.toList = t368.toList then (some true) else (none))))) else (none)) else (none)) else (none))))) else (none)))))) else (none))))) else (none))))) else (none))))) = some r := H
  have A13 := Aside0.mk A130
  clear A130
  replace H := Option.bind_eq_some_iff.mp H
  obtain ⟨⟨t314, t315, t316, t317, t318⟩, A140, H⟩ := H
  replace H : ((tenementlaw07_refStamp.f t284 t285 t286 t287 t288).bind fun bt319 => ((tenementref07_Later.f k t314 t315 t316 t317 t318 bt319.1 bt319.2.1 bt319.2.2.1 bt319.2.2.2.1 bt319.2.2.2.2).bind fun bt324 => (if ((t309 == bt324.1 && (t310 == bt324.2.1 && (t311 == bt324.2.2.1 && (t312 == bt324.2.2.2.1)))) && (t313 == bt324.2.2.2.2)) = true then ((stamp_Right.f t278 t279 t280 t281 t282).bind fun t329 => ((tenementlaw07_refStamp.f t278 t279 t280 t281 t282).bind fun bt330 => ((tenementref07_Right.f k bt330.1 bt330.2.1 bt330.2.2.1 bt330.2.2.2.1 bt330.2.2.2.2).bind fun t335 => (if t329 = t335 then ((stamp_Stamp_N.f t278 t279 t280 t281 t282).bind fun t336 => ((tenementlaw07_refStamp.f t278 t279 t280 t281 t282).bind fun bt337 => ((tenementref07_Stamp_N.f bt337.1 bt337.2.1 bt337.2.2.1 bt337.2.2.2.1 bt337.2.2.2.2).bind fun t342 => (if t336 = t342 then ((stamp_Order.f k t278 t279 t280 t281 t282 t284 t285 t286 t287 t288).bind fun t343 => ((tenementlaw07_refStamp.f t278 t279 t280 t281 t282).bind fun bt344 => ((tenementlaw07_refStamp.f t284 t285 t286 t287 t288).bind fun bt349 => ((tenementref07_Order.f k bt344.1 bt344.2.1 bt344.2.2.1 bt344.2.2.2.1 bt344.2.2.2.2 bt349.1 bt349.2.1 bt349.2.2.1 bt349.2.2.2.1 bt349.2.2.2.2).bind fun t354 => (if t343 = t354 then ((stamp_Seen.f t278 t279 t280 t281 t282 t290 t291 t292 t293).bind fun t355 => ((tenementlaw07_refStamp.f t278 t279 t280 t281 t282).bind fun bt356 => ((tenementref07_Seen.f k bt356.1 bt356.2.1 bt356.2.2.1 bt356.2.2.2.1 bt356.2.2.2.2 t290 t291 t292 t293).bind fun t361 => (if t355 = t361 then (if t295.toList = t302.toList then (if t296 = t303 then ((BigStamp.f t278 t279 t280 t281 t282).bind fun t362 => ((tenementlaw07_refStamp.f t278 t279 t280 t281 t282).bind fun bt363 => ((tenementref07_Text.f k bt363.1 bt363.2.1 bt363.2.2.1 bt363.2.2.2.1 bt363.2.2.2.2).bind fun t368 => (if t362.toList = t368.toList then (some true) else (none))))) else (none)) else (none)) else (none))))) else (none)))))) else (none))))) else (none))))) else (none)))) = some r := H
  have A14 := Aside0.mk A140
  clear A140
  replace H := Option.bind_eq_some_iff.mp H
  obtain ⟨⟨t319, t320, t321, t322, t323⟩, A150, H⟩ := H
  replace H : ((tenementref07_Later.f k t314 t315 t316 t317 t318 t319 t320 t321 t322 t323).bind fun bt324 => (if ((t309 == bt324.1 && (t310 == bt324.2.1 && (t311 == bt324.2.2.1 && (t312 == bt324.2.2.2.1)))) && (t313 == bt324.2.2.2.2)) = true then ((stamp_Right.f t278 t279 t280 t281 t282).bind fun t329 => ((tenementlaw07_refStamp.f t278 t279 t280 t281 t282).bind fun bt330 => ((tenementref07_Right.f k bt330.1 bt330.2.1 bt330.2.2.1 bt330.2.2.2.1 bt330.2.2.2.2).bind fun t335 => (if t329 = t335 then ((stamp_Stamp_N.f t278 t279 t280 t281 t282).bind fun t336 => ((tenementlaw07_refStamp.f t278 t279 t280 t281 t282).bind fun bt337 => ((tenementref07_Stamp_N.f bt337.1 bt337.2.1 bt337.2.2.1 bt337.2.2.2.1 bt337.2.2.2.2).bind fun t342 => (if t336 = t342 then ((stamp_Order.f k t278 t279 t280 t281 t282 t284 t285 t286 t287 t288).bind fun t343 => ((tenementlaw07_refStamp.f t278 t279 t280 t281 t282).bind fun bt344 => ((tenementlaw07_refStamp.f t284 t285 t286 t287 t288).bind fun bt349 => ((tenementref07_Order.f k bt344.1 bt344.2.1 bt344.2.2.1 bt344.2.2.2.1 bt344.2.2.2.2 bt349.1 bt349.2.1 bt349.2.2.1 bt349.2.2.2.1 bt349.2.2.2.2).bind fun t354 => (if t343 = t354 then ((stamp_Seen.f t278 t279 t280 t281 t282 t290 t291 t292 t293).bind fun t355 => ((tenementlaw07_refStamp.f t278 t279 t280 t281 t282).bind fun bt356 => ((tenementref07_Seen.f k bt356.1 bt356.2.1 bt356.2.2.1 bt356.2.2.2.1 bt356.2.2.2.2 t290 t291 t292 t293).bind fun t361 => (if t355 = t361 then (if t295.toList = t302.toList then (if t296 = t303 then ((BigStamp.f t278 t279 t280 t281 t282).bind fun t362 => ((tenementlaw07_refStamp.f t278 t279 t280 t281 t282).bind fun bt363 => ((tenementref07_Text.f k bt363.1 bt363.2.1 bt363.2.2.1 bt363.2.2.2.1 bt363.2.2.2.2).bind fun t368 => (if t362.toList = t368.toList then (some true) else (none))))) else (none)) else (none)) else (none))))) else (none)))))) else (none))))) else (none))))) else (none))) = some r := H
  have A15 := Aside0.mk A150
  clear A150
  replace H := Option.bind_eq_some_iff.mp H
  obtain ⟨⟨t324, t325, t326, t327, t328⟩, A160, H⟩ := H
  replace H : (if ((t309 == t324 && (t310 == t325 && (t311 == t326 && (t312 == t327)))) && (t313 == t328)) = true then ((stamp_Right.f t278 t279 t280 t281 t282).bind fun t329 => ((tenementlaw07_refStamp.f t278 t279 t280 t281 t282).bind fun bt330 => ((tenementref07_Right.f k bt330.1 bt330.2.1 bt330.2.2.1 bt330.2.2.2.1 bt330.2.2.2.2).bind fun t335 => (if t329 = t335 then ((stamp_Stamp_N.f t278 t279 t280 t281 t282).bind fun t336 => ((tenementlaw07_refStamp.f t278 t279 t280 t281 t282).bind fun bt337 => ((tenementref07_Stamp_N.f bt337.1 bt337.2.1 bt337.2.2.1 bt337.2.2.2.1 bt337.2.2.2.2).bind fun t342 => (if t336 = t342 then ((stamp_Order.f k t278 t279 t280 t281 t282 t284 t285 t286 t287 t288).bind fun t343 => ((tenementlaw07_refStamp.f t278 t279 t280 t281 t282).bind fun bt344 => ((tenementlaw07_refStamp.f t284 t285 t286 t287 t288).bind fun bt349 => ((tenementref07_Order.f k bt344.1 bt344.2.1 bt344.2.2.1 bt344.2.2.2.1 bt344.2.2.2.2 bt349.1 bt349.2.1 bt349.2.2.1 bt349.2.2.2.1 bt349.2.2.2.2).bind fun t354 => (if t343 = t354 then ((stamp_Seen.f t278 t279 t280 t281 t282 t290 t291 t292 t293).bind fun t355 => ((tenementlaw07_refStamp.f t278 t279 t280 t281 t282).bind fun bt356 => ((tenementref07_Seen.f k bt356.1 bt356.2.1 bt356.2.2.1 bt356.2.2.2.1 bt356.2.2.2.2 t290 t291 t292 t293).bind fun t361 => (if t355 = t361 then (if t295.toList = t302.toList then (if t296 = t303 then ((BigStamp.f t278 t279 t280 t281 t282).bind fun t362 => ((tenementlaw07_refStamp.f t278 t279 t280 t281 t282).bind fun bt363 => ((tenementref07_Text.f k bt363.1 bt363.2.1 bt363.2.2.1 bt363.2.2.2.1 bt363.2.2.2.2).bind fun t368 => (if t362.toList = t368.toList then (some true) else (none))))) else (none)) else (none)) else (none))))) else (none)))))) else (none))))) else (none))))) else (none)) = some r := H
  have A16 := Aside0.mk A160
  clear A160
  by_cases c17 : ((t309 == t324 && (t310 == t325 && (t311 == t326 && (t312 == t327)))) && (t313 == t328)) = true
  rotate_left
  · rw [if_neg c17] at H
    exact absurd H (by simp)
  rw [if_pos c17] at H
  have c17b0 : ((t309 == t324 && (t310 == t325 && (t311 == t326 && (t312 == t327)))) && (t313 == t328)) = true := c17
  clear c17
  replace H := Option.bind_eq_some_iff.mp H
  obtain ⟨t329, A180, H⟩ := H
  replace H : ((tenementlaw07_refStamp.f t278 t279 t280 t281 t282).bind fun bt330 => ((tenementref07_Right.f k bt330.1 bt330.2.1 bt330.2.2.1 bt330.2.2.2.1 bt330.2.2.2.2).bind fun t335 => (if t329 = t335 then ((stamp_Stamp_N.f t278 t279 t280 t281 t282).bind fun t336 => ((tenementlaw07_refStamp.f t278 t279 t280 t281 t282).bind fun bt337 => ((tenementref07_Stamp_N.f bt337.1 bt337.2.1 bt337.2.2.1 bt337.2.2.2.1 bt337.2.2.2.2).bind fun t342 => (if t336 = t342 then ((stamp_Order.f k t278 t279 t280 t281 t282 t284 t285 t286 t287 t288).bind fun t343 => ((tenementlaw07_refStamp.f t278 t279 t280 t281 t282).bind fun bt344 => ((tenementlaw07_refStamp.f t284 t285 t286 t287 t288).bind fun bt349 => ((tenementref07_Order.f k bt344.1 bt344.2.1 bt344.2.2.1 bt344.2.2.2.1 bt344.2.2.2.2 bt349.1 bt349.2.1 bt349.2.2.1 bt349.2.2.2.1 bt349.2.2.2.2).bind fun t354 => (if t343 = t354 then ((stamp_Seen.f t278 t279 t280 t281 t282 t290 t291 t292 t293).bind fun t355 => ((tenementlaw07_refStamp.f t278 t279 t280 t281 t282).bind fun bt356 => ((tenementref07_Seen.f k bt356.1 bt356.2.1 bt356.2.2.1 bt356.2.2.2.1 bt356.2.2.2.2 t290 t291 t292 t293).bind fun t361 => (if t355 = t361 then (if t295.toList = t302.toList then (if t296 = t303 then ((BigStamp.f t278 t279 t280 t281 t282).bind fun t362 => ((tenementlaw07_refStamp.f t278 t279 t280 t281 t282).bind fun bt363 => ((tenementref07_Text.f k bt363.1 bt363.2.1 bt363.2.2.1 bt363.2.2.2.1 bt363.2.2.2.2).bind fun t368 => (if t362.toList = t368.toList then (some true) else (none))))) else (none)) else (none)) else (none))))) else (none)))))) else (none))))) else (none)))) = some r := H
  have A18 := Aside0.mk A180
  clear A180
  replace H := Option.bind_eq_some_iff.mp H
  obtain ⟨⟨t330, t331, t332, t333, t334⟩, A190, H⟩ := H
  replace H : ((tenementref07_Right.f k t330 t331 t332 t333 t334).bind fun t335 => (if t329 = t335 then ((stamp_Stamp_N.f t278 t279 t280 t281 t282).bind fun t336 => ((tenementlaw07_refStamp.f t278 t279 t280 t281 t282).bind fun bt337 => ((tenementref07_Stamp_N.f bt337.1 bt337.2.1 bt337.2.2.1 bt337.2.2.2.1 bt337.2.2.2.2).bind fun t342 => (if t336 = t342 then ((stamp_Order.f k t278 t279 t280 t281 t282 t284 t285 t286 t287 t288).bind fun t343 => ((tenementlaw07_refStamp.f t278 t279 t280 t281 t282).bind fun bt344 => ((tenementlaw07_refStamp.f t284 t285 t286 t287 t288).bind fun bt349 => ((tenementref07_Order.f k bt344.1 bt344.2.1 bt344.2.2.1 bt344.2.2.2.1 bt344.2.2.2.2 bt349.1 bt349.2.1 bt349.2.2.1 bt349.2.2.2.1 bt349.2.2.2.2).bind fun t354 => (if t343 = t354 then ((stamp_Seen.f t278 t279 t280 t281 t282 t290 t291 t292 t293).bind fun t355 => ((tenementlaw07_refStamp.f t278 t279 t280 t281 t282).bind fun bt356 => ((tenementref07_Seen.f k bt356.1 bt356.2.1 bt356.2.2.1 bt356.2.2.2.1 bt356.2.2.2.2 t290 t291 t292 t293).bind fun t361 => (if t355 = t361 then (if t295.toList = t302.toList then (if t296 = t303 then ((BigStamp.f t278 t279 t280 t281 t282).bind fun t362 => ((tenementlaw07_refStamp.f t278 t279 t280 t281 t282).bind fun bt363 => ((tenementref07_Text.f k bt363.1 bt363.2.1 bt363.2.2.1 bt363.2.2.2.1 bt363.2.2.2.2).bind fun t368 => (if t362.toList = t368.toList then (some true) else (none))))) else (none)) else (none)) else (none))))) else (none)))))) else (none))))) else (none))) = some r := H
  have A19 := Aside0.mk A190
  clear A190
  replace H := Option.bind_eq_some_iff.mp H
  obtain ⟨t335, A200, H⟩ := H
  replace H : (if t329 = t335 then ((stamp_Stamp_N.f t278 t279 t280 t281 t282).bind fun t336 => ((tenementlaw07_refStamp.f t278 t279 t280 t281 t282).bind fun bt337 => ((tenementref07_Stamp_N.f bt337.1 bt337.2.1 bt337.2.2.1 bt337.2.2.2.1 bt337.2.2.2.2).bind fun t342 => (if t336 = t342 then ((stamp_Order.f k t278 t279 t280 t281 t282 t284 t285 t286 t287 t288).bind fun t343 => ((tenementlaw07_refStamp.f t278 t279 t280 t281 t282).bind fun bt344 => ((tenementlaw07_refStamp.f t284 t285 t286 t287 t288).bind fun bt349 => ((tenementref07_Order.f k bt344.1 bt344.2.1 bt344.2.2.1 bt344.2.2.2.1 bt344.2.2.2.2 bt349.1 bt349.2.1 bt349.2.2.1 bt349.2.2.2.1 bt349.2.2.2.2).bind fun t354 => (if t343 = t354 then ((stamp_Seen.f t278 t279 t280 t281 t282 t290 t291 t292 t293).bind fun t355 => ((tenementlaw07_refStamp.f t278 t279 t280 t281 t282).bind fun bt356 => ((tenementref07_Seen.f k bt356.1 bt356.2.1 bt356.2.2.1 bt356.2.2.2.1 bt356.2.2.2.2 t290 t291 t292 t293).bind fun t361 => (if t355 = t361 then (if t295.toList = t302.toList then (if t296 = t303 then ((BigStamp.f t278 t279 t280 t281 t282).bind fun t362 => ((tenementlaw07_refStamp.f t278 t279 t280 t281 t282).bind fun bt363 => ((tenementref07_Text.f k bt363.1 bt363.2.1 bt363.2.2.1 bt363.2.2.2.1 bt363.2.2.2.2).bind fun t368 => (if t362.toList = t368.toList then (some true) else (none))))) else (none)) else (none)) else (none))))) else (none)))))) else (none))))) else (none)) = some r := H
  have A20 := Aside0.mk A200
  clear A200
  by_cases c21 : t329 = t335
  rotate_left
  · rw [if_neg c21] at H
    exact absurd H (by simp)
  subst c21
  have H1 : ((stamp_Stamp_N.f t278 t279 t280 t281 t282).bind fun t336 => ((tenementlaw07_refStamp.f t278 t279 t280 t281 t282).bind fun bt337 => ((tenementref07_Stamp_N.f bt337.1 bt337.2.1 bt337.2.2.1 bt337.2.2.2.1 bt337.2.2.2.2).bind fun t342 => (if t336 = t342 then ((stamp_Order.f k t278 t279 t280 t281 t282 t284 t285 t286 t287 t288).bind fun t343 => ((tenementlaw07_refStamp.f t278 t279 t280 t281 t282).bind fun bt344 => ((tenementlaw07_refStamp.f t284 t285 t286 t287 t288).bind fun bt349 => ((tenementref07_Order.f k bt344.1 bt344.2.1 bt344.2.2.1 bt344.2.2.2.1 bt344.2.2.2.2 bt349.1 bt349.2.1 bt349.2.2.1 bt349.2.2.2.1 bt349.2.2.2.2).bind fun t354 => (if t343 = t354 then ((stamp_Seen.f t278 t279 t280 t281 t282 t290 t291 t292 t293).bind fun t355 => ((tenementlaw07_refStamp.f t278 t279 t280 t281 t282).bind fun bt356 => ((tenementref07_Seen.f k bt356.1 bt356.2.1 bt356.2.2.1 bt356.2.2.2.1 bt356.2.2.2.2 t290 t291 t292 t293).bind fun t361 => (if t355 = t361 then (if t295.toList = t302.toList then (if t296 = t303 then ((BigStamp.f t278 t279 t280 t281 t282).bind fun t362 => ((tenementlaw07_refStamp.f t278 t279 t280 t281 t282).bind fun bt363 => ((tenementref07_Text.f k bt363.1 bt363.2.1 bt363.2.2.1 bt363.2.2.2.1 bt363.2.2.2.2).bind fun t368 => (if t362.toList = t368.toList then (some true) else (none))))) else (none)) else (none)) else (none))))) else (none)))))) else (none))))) = some r := by rw [if_pos rfl] at H; exact H
  clear H
  have H := H1
  clear H1
  replace H := Option.bind_eq_some_iff.mp H
  obtain ⟨t336, A220, H⟩ := H
  replace H : ((tenementlaw07_refStamp.f t278 t279 t280 t281 t282).bind fun bt337 => ((tenementref07_Stamp_N.f bt337.1 bt337.2.1 bt337.2.2.1 bt337.2.2.2.1 bt337.2.2.2.2).bind fun t342 => (if t336 = t342 then ((stamp_Order.f k t278 t279 t280 t281 t282 t284 t285 t286 t287 t288).bind fun t343 => ((tenementlaw07_refStamp.f t278 t279 t280 t281 t282).bind fun bt344 => ((tenementlaw07_refStamp.f t284 t285 t286 t287 t288).bind fun bt349 => ((tenementref07_Order.f k bt344.1 bt344.2.1 bt344.2.2.1 bt344.2.2.2.1 bt344.2.2.2.2 bt349.1 bt349.2.1 bt349.2.2.1 bt349.2.2.2.1 bt349.2.2.2.2).bind fun t354 => (if t343 = t354 then ((stamp_Seen.f t278 t279 t280 t281 t282 t290 t291 t292 t293).bind fun t355 => ((tenementlaw07_refStamp.f t278 t279 t280 t281 t282).bind fun bt356 => ((tenementref07_Seen.f k bt356.1 bt356.2.1 bt356.2.2.1 bt356.2.2.2.1 bt356.2.2.2.2 t290 t291 t292 t293).bind fun t361 => (if t355 = t361 then (if t295.toList = t302.toList then (if t296 = t303 then ((BigStamp.f t278 t279 t280 t281 t282).bind fun t362 => ((tenementlaw07_refStamp.f t278 t279 t280 t281 t282).bind fun bt363 => ((tenementref07_Text.f k bt363.1 bt363.2.1 bt363.2.2.1 bt363.2.2.2.1 bt363.2.2.2.2).bind fun t368 => (if t362.toList = t368.toList then (some true) else (none))))) else (none)) else (none)) else (none))))) else (none)))))) else (none)))) = some r := H
  have A22 := Aside0.mk A220
  clear A220
  replace H := Option.bind_eq_some_iff.mp H
  obtain ⟨⟨t337, t338, t339, t340, t341⟩, A230, H⟩ := H
  replace H : ((tenementref07_Stamp_N.f t337 t338 t339 t340 t341).bind fun t342 => (if t336 = t342 then ((stamp_Order.f k t278 t279 t280 t281 t282 t284 t285 t286 t287 t288).bind fun t343 => ((tenementlaw07_refStamp.f t278 t279 t280 t281 t282).bind fun bt344 => ((tenementlaw07_refStamp.f t284 t285 t286 t287 t288).bind fun bt349 => ((tenementref07_Order.f k bt344.1 bt344.2.1 bt344.2.2.1 bt344.2.2.2.1 bt344.2.2.2.2 bt349.1 bt349.2.1 bt349.2.2.1 bt349.2.2.2.1 bt349.2.2.2.2).bind fun t354 => (if t343 = t354 then ((stamp_Seen.f t278 t279 t280 t281 t282 t290 t291 t292 t293).bind fun t355 => ((tenementlaw07_refStamp.f t278 t279 t280 t281 t282).bind fun bt356 => ((tenementref07_Seen.f k bt356.1 bt356.2.1 bt356.2.2.1 bt356.2.2.2.1 bt356.2.2.2.2 t290 t291 t292 t293).bind fun t361 => (if t355 = t361 then (if t295.toList = t302.toList then (if t296 = t303 then ((BigStamp.f t278 t279 t280 t281 t282).bind fun t362 => ((tenementlaw07_refStamp.f t278 t279 t280 t281 t282).bind fun bt363 => ((tenementref07_Text.f k bt363.1 bt363.2.1 bt363.2.2.1 bt363.2.2.2.1 bt363.2.2.2.2).bind fun t368 => (if t362.toList = t368.toList then (some true) else (none))))) else (none)) else (none)) else (none))))) else (none)))))) else (none))) = some r := H
  have A23 := Aside0.mk A230
  clear A230
  replace H := Option.bind_eq_some_iff.mp H
  obtain ⟨t342, A240, H⟩ := H
  replace H : (if t336 = t342 then ((stamp_Order.f k t278 t279 t280 t281 t282 t284 t285 t286 t287 t288).bind fun t343 => ((tenementlaw07_refStamp.f t278 t279 t280 t281 t282).bind fun bt344 => ((tenementlaw07_refStamp.f t284 t285 t286 t287 t288).bind fun bt349 => ((tenementref07_Order.f k bt344.1 bt344.2.1 bt344.2.2.1 bt344.2.2.2.1 bt344.2.2.2.2 bt349.1 bt349.2.1 bt349.2.2.1 bt349.2.2.2.1 bt349.2.2.2.2).bind fun t354 => (if t343 = t354 then ((stamp_Seen.f t278 t279 t280 t281 t282 t290 t291 t292 t293).bind fun t355 => ((tenementlaw07_refStamp.f t278 t279 t280 t281 t282).bind fun bt356 => ((tenementref07_Seen.f k bt356.1 bt356.2.1 bt356.2.2.1 bt356.2.2.2.1 bt356.2.2.2.2 t290 t291 t292 t293).bind fun t361 => (if t355 = t361 then (if t295.toList = t302.toList then (if t296 = t303 then ((BigStamp.f t278 t279 t280 t281 t282).bind fun t362 => ((tenementlaw07_refStamp.f t278 t279 t280 t281 t282).bind fun bt363 => ((tenementref07_Text.f k bt363.1 bt363.2.1 bt363.2.2.1 bt363.2.2.2.1 bt363.2.2.2.2).bind fun t368 => (if t362.toList = t368.toList then (some true) else (none))))) else (none)) else (none)) else (none))))) else (none)))))) else (none)) = some r := H
  have A24 := Aside0.mk A240
  clear A240
  by_cases c25 : t336 = t342
  rotate_left
  · rw [if_neg c25] at H
    exact absurd H (by simp)
  rw [if_pos c25] at H
  have c25b0 : (t336 == t342) = true := beq_iff_eq.mpr c25
  have c25b1 : (t336 != t342) = false := bne_eq_false_iff_eq.mpr c25
  clear c25
  replace H := Option.bind_eq_some_iff.mp H
  obtain ⟨t343, A260, H⟩ := H
  replace H : ((tenementlaw07_refStamp.f t278 t279 t280 t281 t282).bind fun bt344 => ((tenementlaw07_refStamp.f t284 t285 t286 t287 t288).bind fun bt349 => ((tenementref07_Order.f k bt344.1 bt344.2.1 bt344.2.2.1 bt344.2.2.2.1 bt344.2.2.2.2 bt349.1 bt349.2.1 bt349.2.2.1 bt349.2.2.2.1 bt349.2.2.2.2).bind fun t354 => (if t343 = t354 then ((stamp_Seen.f t278 t279 t280 t281 t282 t290 t291 t292 t293).bind fun t355 => ((tenementlaw07_refStamp.f t278 t279 t280 t281 t282).bind fun bt356 => ((tenementref07_Seen.f k bt356.1 bt356.2.1 bt356.2.2.1 bt356.2.2.2.1 bt356.2.2.2.2 t290 t291 t292 t293).bind fun t361 => (if t355 = t361 then (if t295.toList = t302.toList then (if t296 = t303 then ((BigStamp.f t278 t279 t280 t281 t282).bind fun t362 => ((tenementlaw07_refStamp.f t278 t279 t280 t281 t282).bind fun bt363 => ((tenementref07_Text.f k bt363.1 bt363.2.1 bt363.2.2.1 bt363.2.2.2.1 bt363.2.2.2.2).bind fun t368 => (if t362.toList = t368.toList then (some true) else (none))))) else (none)) else (none)) else (none))))) else (none))))) = some r := H
  have A26 := Aside0.mk A260
  clear A260
  replace H := Option.bind_eq_some_iff.mp H
  obtain ⟨⟨t344, t345, t346, t347, t348⟩, A270, H⟩ := H
  replace H : ((tenementlaw07_refStamp.f t284 t285 t286 t287 t288).bind fun bt349 => ((tenementref07_Order.f k t344 t345 t346 t347 t348 bt349.1 bt349.2.1 bt349.2.2.1 bt349.2.2.2.1 bt349.2.2.2.2).bind fun t354 => (if t343 = t354 then ((stamp_Seen.f t278 t279 t280 t281 t282 t290 t291 t292 t293).bind fun t355 => ((tenementlaw07_refStamp.f t278 t279 t280 t281 t282).bind fun bt356 => ((tenementref07_Seen.f k bt356.1 bt356.2.1 bt356.2.2.1 bt356.2.2.2.1 bt356.2.2.2.2 t290 t291 t292 t293).bind fun t361 => (if t355 = t361 then (if t295.toList = t302.toList then (if t296 = t303 then ((BigStamp.f t278 t279 t280 t281 t282).bind fun t362 => ((tenementlaw07_refStamp.f t278 t279 t280 t281 t282).bind fun bt363 => ((tenementref07_Text.f k bt363.1 bt363.2.1 bt363.2.2.1 bt363.2.2.2.1 bt363.2.2.2.2).bind fun t368 => (if t362.toList = t368.toList then (some true) else (none))))) else (none)) else (none)) else (none))))) else (none)))) = some r := H
  have A27 := Aside0.mk A270
  clear A270
  replace H := Option.bind_eq_some_iff.mp H
  obtain ⟨⟨t349, t350, t351, t352, t353⟩, A280, H⟩ := H
  replace H : ((tenementref07_Order.f k t344 t345 t346 t347 t348 t349 t350 t351 t352 t353).bind fun t354 => (if t343 = t354 then ((stamp_Seen.f t278 t279 t280 t281 t282 t290 t291 t292 t293).bind fun t355 => ((tenementlaw07_refStamp.f t278 t279 t280 t281 t282).bind fun bt356 => ((tenementref07_Seen.f k bt356.1 bt356.2.1 bt356.2.2.1 bt356.2.2.2.1 bt356.2.2.2.2 t290 t291 t292 t293).bind fun t361 => (if t355 = t361 then (if t295.toList = t302.toList then (if t296 = t303 then ((BigStamp.f t278 t279 t280 t281 t282).bind fun t362 => ((tenementlaw07_refStamp.f t278 t279 t280 t281 t282).bind fun bt363 => ((tenementref07_Text.f k bt363.1 bt363.2.1 bt363.2.2.1 bt363.2.2.2.1 bt363.2.2.2.2).bind fun t368 => (if t362.toList = t368.toList then (some true) else (none))))) else (none)) else (none)) else (none))))) else (none))) = some r := H
  have A28 := Aside0.mk A280
  clear A280
  replace H := Option.bind_eq_some_iff.mp H
  obtain ⟨t354, A290, H⟩ := H
  replace H : (if t343 = t354 then ((stamp_Seen.f t278 t279 t280 t281 t282 t290 t291 t292 t293).bind fun t355 => ((tenementlaw07_refStamp.f t278 t279 t280 t281 t282).bind fun bt356 => ((tenementref07_Seen.f k bt356.1 bt356.2.1 bt356.2.2.1 bt356.2.2.2.1 bt356.2.2.2.2 t290 t291 t292 t293).bind fun t361 => (if t355 = t361 then (if t295.toList = t302.toList then (if t296 = t303 then ((BigStamp.f t278 t279 t280 t281 t282).bind fun t362 => ((tenementlaw07_refStamp.f t278 t279 t280 t281 t282).bind fun bt363 => ((tenementref07_Text.f k bt363.1 bt363.2.1 bt363.2.2.1 bt363.2.2.2.1 bt363.2.2.2.2).bind fun t368 => (if t362.toList = t368.toList then (some true) else (none))))) else (none)) else (none)) else (none))))) else (none)) = some r := H
  have A29 := Aside0.mk A290
  clear A290
  by_cases c30 : t343 = t354
  rotate_left
  · rw [if_neg c30] at H
    exact absurd H (by simp)
  rw [if_pos c30] at H
  have c30b0 : (t343 == t354) = true := beq_iff_eq.mpr c30
  have c30b1 : (t343 != t354) = false := bne_eq_false_iff_eq.mpr c30
  clear c30
  replace H := Option.bind_eq_some_iff.mp H
  obtain ⟨t355, A310, H⟩ := H
  replace H : ((tenementlaw07_refStamp.f t278 t279 t280 t281 t282).bind fun bt356 => ((tenementref07_Seen.f k bt356.1 bt356.2.1 bt356.2.2.1 bt356.2.2.2.1 bt356.2.2.2.2 t290 t291 t292 t293).bind fun t361 => (if t355 = t361 then (if t295.toList = t302.toList then (if t296 = t303 then ((BigStamp.f t278 t279 t280 t281 t282).bind fun t362 => ((tenementlaw07_refStamp.f t278 t279 t280 t281 t282).bind fun bt363 => ((tenementref07_Text.f k bt363.1 bt363.2.1 bt363.2.2.1 bt363.2.2.2.1 bt363.2.2.2.2).bind fun t368 => (if t362.toList = t368.toList then (some true) else (none))))) else (none)) else (none)) else (none)))) = some r := H
  have A31 := Aside0.mk A310
  clear A310
  replace H := Option.bind_eq_some_iff.mp H
  obtain ⟨⟨t356, t357, t358, t359, t360⟩, A320, H⟩ := H
  replace H : ((tenementref07_Seen.f k t356 t357 t358 t359 t360 t290 t291 t292 t293).bind fun t361 => (if t355 = t361 then (if t295.toList = t302.toList then (if t296 = t303 then ((BigStamp.f t278 t279 t280 t281 t282).bind fun t362 => ((tenementlaw07_refStamp.f t278 t279 t280 t281 t282).bind fun bt363 => ((tenementref07_Text.f k bt363.1 bt363.2.1 bt363.2.2.1 bt363.2.2.2.1 bt363.2.2.2.2).bind fun t368 => (if t362.toList = t368.toList then (some true) else (none))))) else (none)) else (none)) else (none))) = some r := H
  have A32 := Aside0.mk A320
  clear A320
  replace H := Option.bind_eq_some_iff.mp H
  obtain ⟨t361, A330, H⟩ := H
  replace H : (if t355 = t361 then (if t295.toList = t302.toList then (if t296 = t303 then ((BigStamp.f t278 t279 t280 t281 t282).bind fun t362 => ((tenementlaw07_refStamp.f t278 t279 t280 t281 t282).bind fun bt363 => ((tenementref07_Text.f k bt363.1 bt363.2.1 bt363.2.2.1 bt363.2.2.2.1 bt363.2.2.2.2).bind fun t368 => (if t362.toList = t368.toList then (some true) else (none))))) else (none)) else (none)) else (none)) = some r := H
  have A33 := Aside0.mk A330
  clear A330
  by_cases c34 : t355 = t361
  rotate_left
  · rw [if_neg c34] at H
    exact absurd H (by simp)
  subst c34
  have H1 : (if t295.toList = t302.toList then (if t296 = t303 then ((BigStamp.f t278 t279 t280 t281 t282).bind fun t362 => ((tenementlaw07_refStamp.f t278 t279 t280 t281 t282).bind fun bt363 => ((tenementref07_Text.f k bt363.1 bt363.2.1 bt363.2.2.1 bt363.2.2.2.1 bt363.2.2.2.2).bind fun t368 => (if t362.toList = t368.toList then (some true) else (none))))) else (none)) else (none)) = some r := by rw [if_pos rfl] at H; exact H
  clear H
  have H := H1
  clear H1
  by_cases c35 : t295.toList = t302.toList
  rotate_left
  · rw [if_neg c35] at H
    exact absurd H (by simp)
  rw [if_pos c35] at H
  have c35b0 : (t295.toList == t302.toList) = true := beq_iff_eq.mpr c35
  have c35b1 : (t295.toList != t302.toList) = false := bne_eq_false_iff_eq.mpr c35
  clear c35
  by_cases c36 : t296 = t303
  rotate_left
  · rw [if_neg c36] at H
    exact absurd H (by simp)
  subst c36
  have H1 : ((BigStamp.f t278 t279 t280 t281 t282).bind fun t362 => ((tenementlaw07_refStamp.f t278 t279 t280 t281 t282).bind fun bt363 => ((tenementref07_Text.f k bt363.1 bt363.2.1 bt363.2.2.1 bt363.2.2.2.1 bt363.2.2.2.2).bind fun t368 => (if t362.toList = t368.toList then (some true) else (none))))) = some r := by rw [if_pos rfl] at H; exact H
  clear H
  have H := H1
  clear H1
  replace H := Option.bind_eq_some_iff.mp H
  obtain ⟨t362, A370, H⟩ := H
  replace H : ((tenementlaw07_refStamp.f t278 t279 t280 t281 t282).bind fun bt363 => ((tenementref07_Text.f k bt363.1 bt363.2.1 bt363.2.2.1 bt363.2.2.2.1 bt363.2.2.2.2).bind fun t368 => (if t362.toList = t368.toList then (some true) else (none)))) = some r := H
  have A37 := Aside0.mk A370
  clear A370
  replace H := Option.bind_eq_some_iff.mp H
  obtain ⟨⟨t363, t364, t365, t366, t367⟩, A380, H⟩ := H
  replace H : ((tenementref07_Text.f k t363 t364 t365 t366 t367).bind fun t368 => (if t362.toList = t368.toList then (some true) else (none))) = some r := H
  have A38 := Aside0.mk A380
  clear A380
  replace H := Option.bind_eq_some_iff.mp H
  obtain ⟨t368, A390, H⟩ := H
  replace H : (if t362.toList = t368.toList then (some true) else (none)) = some r := H
  have A39 := Aside0.mk A390
  clear A390
  by_cases c40 : t362.toList = t368.toList
  rotate_left
  · rw [if_neg c40] at H
    exact absurd H (by simp)
  rw [if_pos c40] at H
  have c40b0 : (t362.toList == t368.toList) = true := beq_iff_eq.mpr c40
  have c40b1 : (t362.toList != t368.toList) = false := bne_eq_false_iff_eq.mpr c40
  clear c40
  obtain rfl := Option.some.inj H
  go_enter Tryd.func3, Tryd.ntmps3
  try go_wp2_with (first | ((with_reducible refine gate_dst (N := 3) rfl ?_); refine box_event ?hg (N := 3) ?hd (cs := #[.int .u64 a0_0, .int .u64 a0_1, .int .u64 a0_2, .int .u64 a0_3, .int .i64 a0_4, .bool a0_5]) (t := 28) ?hr ?_; (case hd => rfl); (case hg => rfl); (case hr => first | (go_simp; done) | (go_simp; rfl)); intro gb274 hg w41 hbox hb; have BK274 := Aside0.mk (hbox); have GW274 := Kw_ HB hg; have GE274 := GW274; replace HB := Ks_ HB hb; clear hb hbox hg) | ((with_reducible refine gate_dst (N := 4) rfl ?_); refine box_event ?hg (N := 4) ?hd (cs := #[.int .u64 a1_0, .int .u64 a1_1, .int .u64 a1_2, .int .u64 a1_3, .int .i64 a1_4, .bool a1_5]) (t := 28) ?hr ?_; (case hd => rfl); (case hg => rfl); (case hr => first | (go_simp; done) | (go_simp; rfl)); intro gb275 hg w42 hbox hb; have BK275 := Aside0.mk (hbox); have GW275 := Kw_ HB hg; have GE275 := GW275; have NB274_275 := Kl_ BK274 hg; have NB275_274 := Kr_ BK274 hg; replace BK274 := Kb_ BK274 hb; replace HB := Ks_ HB hb; clear hb hbox hg) | ((with_reducible refine gate_dst (N := 5) rfl ?_); refine box_event ?hg (N := 5) ?hd (cs := #[.int .u64 a2_0, .int .u64 a2_1, .int .u64 a2_2, .int .u64 a2_3, .bool a2_4]) (t := 30) ?hr ?_; (case hd => rfl); (case hg => rfl); (case hr => first | (go_simp; done) | (go_simp; rfl)); intro gb276 hg w43 hbox hb; have BK276 := Aside0.mk (hbox); have GW276 := Kw_ HB hg; have GE276 := GW276; have NB274_276 := Kl_ BK274 hg; have NB276_274 := Kr_ BK274 hg; have NB275_276 := Kl_ BK275 hg; have NB276_275 := Kr_ BK275 hg; replace BK274 := Kb_ BK274 hb; replace BK275 := Kb_ BK275 hb; replace HB := Ks_ HB hb; clear hb hbox hg) | ((with_reducible refine gate_callee (f := 9) rfl ?_); refine goesL_ (some 16) rfl rfl Tryd.func9 (by kernel_rfl) rfl #[] rfl (by (try simp only [List.map_toArray, List.map_cons, List.map_nil]); first | done | rfl | (simp only [List.length_drop, List.length_take]; rfl)) ?_; (with_reducible refine (tenementlaw07_examples.calls k  true _ A4.out).mono ?_); rintro e w44 ⟨rfl, hb⟩; refine ⟨_, rfl, ?_⟩; replace BK274 := Kb_ BK274 hb; replace BK275 := Kb_ BK275 hb; replace BK276 := Kb_ BK276 hb; replace HB := Ks_ HB hb; (try clear hb); (try clear hb2); (try clear hk); (try clear hi); have hnb45 := NB274_275.out; have hnc45 := NB275_274.out; have hnb46 := NB274_276.out; have hnc46 := NB276_274.out; obtain ⟨hcz47_0, hcz47_1, hcz47_2, hcz47_3, hcz47_4, hcz47_5, hfz47_0, hfz47_1, hfz47_2, hfz47_3, hfz47_4, hfz47_5⟩ := Ke6_ BK274.out) | ((with_reducible refine gate_callee (f := 10) rfl ?_); refine goesL_ (some 20) rfl rfl Tryd.func10 (by kernel_rfl) rfl #[.agg #[.int .u64 a0_0, .int .u64 a0_1, .int .u64 a0_2, .int .u64 a0_3, .int .i64 a0_4, .bool a0_5]] rfl (by (try simp only [List.map_toArray, List.map_cons, List.map_nil]); first | done | rfl | (simp only [List.length_drop, List.length_take]; rfl)) ?_; (with_reducible refine (tenementlaw07_Mark_mark.calls k a0_0 a0_1 a0_2 a0_3 a0_4 a0_5 t278 t279 t280 t281 t282 _ A6.out).mono ?_); rintro e w48 ⟨rfl, hb⟩; refine ⟨_, rfl, ?_⟩; replace BK274 := Kb_ BK274 hb; replace BK275 := Kb_ BK275 hb; replace BK276 := Kb_ BK276 hb; replace HB := Ks_ HB hb; (try clear hb); (try clear hb2); (try clear hk); (try clear hi)) | ((with_reducible refine gate_dst (N := 8) rfl ?_); refine box_event ?hg (N := 8) ?hd (cs := #[.int .u64 0, .int .u64 0, .int .u64 0, .int .u64 0, .int .i64 0]) (t := 26) ?hr ?_; (case hd => rfl); (case hg => rfl); (case hr => first | (go_simp; done) | (go_simp; rfl)); intro gb283 hg w49 hbox hb; have BK283 := Aside0.mk (hbox); have GW283 := Kw_ HB hg; have GE283 := GW283; have NB274_283 := Kl_ BK274 hg; have NB283_274 := Kr_ BK274 hg; have NB275_283 := Kl_ BK275 hg; have NB283_275 := Kr_ BK275 hg; have NB276_283 := Kl_ BK276 hg; have NB283_276 := Kr_ BK276 hg; replace BK274 := Kb_ BK274 hb; replace BK275 := Kb_ BK275 hb; replace BK276 := Kb_ BK276 hb; replace HB := Ks_ HB hb; clear hb hbox hg; have hnb50 := NB283_274.out; have hnc50 := NB274_283.out; have hnb51 := NB283_275.out; have hnc51 := NB275_283.out; have hnb52 := NB283_276.out; have hnc52 := NB276_283.out; obtain ⟨hcz53_0, hcz53_1, hcz53_2, hcz53_3, hcz53_4, hfz53_0, hfz53_1, hfz53_2, hfz53_3, hfz53_4⟩ := Ke5_ BK283.out; have hnb54 := NB275_276.out; have hnc54 := NB276_275.out; obtain ⟨hcz55_0, hcz55_1, hcz55_2, hcz55_3, hcz55_4, hcz55_5, hfz55_0, hfz55_1, hfz55_2, hfz55_3, hfz55_4, hfz55_5⟩ := Ke6_ BK275.out) | ((with_reducible refine gate_callee (f := 10) rfl ?_); refine goesL_ (some 22) rfl rfl Tryd.func10 (by kernel_rfl) rfl #[.agg #[.int .u64 a1_0, .int .u64 a1_1, .int .u64 a1_2, .int .u64 a1_3, .int .i64 a1_4, .bool a1_5]] rfl (by (try simp only [List.map_toArray, List.map_cons, List.map_nil]); first | done | rfl | (simp only [List.length_drop, List.length_take]; rfl)) ?_; (with_reducible refine (tenementlaw07_Mark_mark.calls k a1_0 a1_1 a1_2 a1_3 a1_4 a1_5 t284 t285 t286 t287 t288 _ A7.out).mono ?_); rintro e w56 ⟨rfl, hb⟩; refine ⟨_, rfl, ?_⟩; replace BK274 := Kf_ BK274 NB274_283 hb; replace BK275 := Kf_ BK275 NB275_283 hb; replace BK276 := Kf_ BK276 NB276_283 hb; replace BK283 := Aside0.mk (blk_below (g := gb283) (o := .cells #[.int .u64 t278, .int .u64 t279, .int .u64 t280, .int .u64 t281, .int .i64 t282] 26 (0, 0)) (by (with_reducible repeat (first | refine blk_drewN ?_ _ | refine blk_drew ?_ | refine blk_alloc ?_ _)); refine blk_put (cs := #[.int .u64 t278, .int .u64 t279, .int .u64 t280, .int .u64 t281, .int .i64 0]) ?_ 4 _ rfl; (with_reducible repeat (first | refine blk_drewN ?_ _ | refine blk_drew ?_ | refine blk_alloc ?_ _)); refine blk_put (cs := #[.int .u64 t278, .int .u64 t279, .int .u64 t280, .int .u64 0, .int .i64 0]) ?_ 3 _ rfl; (with_reducible repeat (first | refine blk_drewN ?_ _ | refine blk_drew ?_ | refine blk_alloc ?_ _)); refine blk_put (cs := #[.int .u64 t278, .int .u64 t279, .int .u64 0, .int .u64 0, .int .i64 0]) ?_ 2 _ rfl; (with_reducible repeat (first | refine blk_drewN ?_ _ | refine blk_drew ?_ | refine blk_alloc ?_ _)); refine blk_put (cs := #[.int .u64 t278, .int .u64 0, .int .u64 0, .int .u64 0, .int .i64 0]) ?_ 1 _ rfl; (with_reducible repeat (first | refine blk_drewN ?_ _ | refine blk_drew ?_ | refine blk_alloc ?_ _)); refine blk_put (cs := #[.int .u64 0, .int .u64 0, .int .u64 0, .int .u64 0, .int .i64 0]) ?_ 0 _ rfl; (with_reducible repeat (first | refine blk_drewN ?_ _ | refine blk_drew ?_ | refine blk_alloc ?_ _)); exact BK283.out) hb); replace HB := Kt_ HB GE283 hb; (try clear hb); (try clear hb2); (try clear hk); (try clear hi)) | ((with_reducible refine gate_dst (N := 9) rfl ?_); refine box_event ?hg (N := 9) ?hd (cs := #[.int .u64 0, .int .u64 0, .int .u64 0, .int .u64 0, .int .i64 0]) (t := 26) ?hr ?_; (case hd => rfl); (case hg => rfl); (case hr => first | (go_simp; done) | (go_simp; rfl)); intro gb289 hg w57 hbox hb; have BK289 := Aside0.mk (hbox); have GW289 := Kw_ HB hg; have GE289 := GW289; have NB274_289 := Kl_ BK274 hg; have NB289_274 := Kr_ BK274 hg; have NB275_289 := Kl_ BK275 hg; have NB289_275 := Kr_ BK275 hg; have NB276_289 := Kl_ BK276 hg; have NB289_276 := Kr_ BK276 hg; have NB283_289 := Kl_ BK283 hg; have NB289_283 := Kr_ BK283 hg; replace BK274 := Kb_ BK274 hb; replace BK275 := Kb_ BK275 hb; replace BK276 := Kb_ BK276 hb; replace BK283 := Kb_ BK283 hb; replace HB := Ks_ HB hb; clear hb hbox hg; have hnb58 := NB289_274.out; have hnc58 := NB274_289.out; have hnb59 := NB289_275.out; have hnc59 := NB275_289.out; have hnb60 := NB289_276.out; have hnc60 := NB276_289.out; have hnb61 := NB289_283.out; have hnc61 := NB283_289.out; obtain ⟨hcz62_0, hcz62_1, hcz62_2, hcz62_3, hcz62_4, hfz62_0, hfz62_1, hfz62_2, hfz62_3, hfz62_4⟩ := Ke5_ BK289.out; obtain ⟨hcz63_0, hcz63_1, hcz63_2, hcz63_3, hcz63_4, hfz63_0, hfz63_1, hfz63_2, hfz63_3, hfz63_4⟩ := Ke5_ BK276.out) | ((with_reducible refine gate_callee (f := 11) rfl ?_); refine goesL_ (some 24) rfl rfl Tryd.func11 (by kernel_rfl) rfl #[.agg #[.int .u64 a2_0, .int .u64 a2_1, .int .u64 a2_2, .int .u64 a2_3, .bool a2_4]] rfl (by (try simp only [List.map_toArray, List.map_cons, List.map_nil]); first | done | rfl | (simp only [List.length_drop, List.length_take]; rfl)) ?_; (with_reducible refine (tenementlaw07_Vector_vector.calls k a2_0 a2_1 a2_2 a2_3 a2_4 t290 t291 t292 t293 _ A8.out).mono ?_); rintro e w64 ⟨rfl, hb⟩; refine ⟨_, rfl, ?_⟩; replace BK274 := Kf_ BK274 NB274_289 hb; replace BK275 := Kf_ BK275 NB275_289 hb; replace BK276 := Kf_ BK276 NB276_289 hb; replace BK283 := Kf_ BK283 NB283_289 hb; replace BK289 := Aside0.mk (blk_below (g := gb289) (o := .cells #[.int .u64 t284, .int .u64 t285, .int .u64 t286, .int .u64 t287, .int .i64 t288] 26 (0, 0)) (by (with_reducible repeat (first | refine blk_drewN ?_ _ | refine blk_drew ?_ | refine blk_alloc ?_ _)); refine blk_put (cs := #[.int .u64 t284, .int .u64 t285, .int .u64 t286, .int .u64 t287, .int .i64 0]) ?_ 4 _ rfl; (with_reducible repeat (first | refine blk_drewN ?_ _ | refine blk_drew ?_ | refine blk_alloc ?_ _)); refine blk_put (cs := #[.int .u64 t284, .int .u64 t285, .int .u64 t286, .int .u64 0, .int .i64 0]) ?_ 3 _ rfl; (with_reducible repeat (first | refine blk_drewN ?_ _ | refine blk_drew ?_ | refine blk_alloc ?_ _)); refine blk_put (cs := #[.int .u64 t284, .int .u64 t285, .int .u64 0, .int .u64 0, .int .i64 0]) ?_ 2 _ rfl; (with_reducible repeat (first | refine blk_drewN ?_ _ | refine blk_drew ?_ | refine blk_alloc ?_ _)); refine blk_put (cs := #[.int .u64 t284, .int .u64 0, .int .u64 0, .int .u64 0, .int .i64 0]) ?_ 1 _ rfl; (with_reducible repeat (first | refine blk_drewN ?_ _ | refine blk_drew ?_ | refine blk_alloc ?_ _)); refine blk_put (cs := #[.int .u64 0, .int .u64 0, .int .u64 0, .int .u64 0, .int .i64 0]) ?_ 0 _ rfl; (with_reducible repeat (first | refine blk_drewN ?_ _ | refine blk_drew ?_ | refine blk_alloc ?_ _)); exact BK289.out) hb); replace HB := Kt_ HB GE289 hb; (try clear hb); (try clear hb2); (try clear hk); (try clear hi)) | ((with_reducible refine gate_dst (N := 10) rfl ?_); refine box_event ?hg (N := 10) ?hd (cs := #[.int .u64 0, .int .u64 0, .int .u64 0, .int .u64 0]) (t := 24) ?hr ?_; (case hd => rfl); (case hg => rfl); (case hr => first | (go_simp; done) | (go_simp; rfl)); intro gb294 hg w65 hbox hb; have BK294 := Aside0.mk (hbox); have GW294 := Kw_ HB hg; have GE294 := GW294; have NB274_294 := Kl_ BK274 hg; have NB294_274 := Kr_ BK274 hg; have NB275_294 := Kl_ BK275 hg; have NB294_275 := Kr_ BK275 hg; have NB276_294 := Kl_ BK276 hg; have NB294_276 := Kr_ BK276 hg; have NB283_294 := Kl_ BK283 hg; have NB294_283 := Kr_ BK283 hg; have NB289_294 := Kl_ BK289 hg; have NB294_289 := Kr_ BK289 hg; replace BK274 := Kb_ BK274 hb; replace BK275 := Kb_ BK275 hb; replace BK276 := Kb_ BK276 hb; replace BK283 := Kb_ BK283 hb; replace BK289 := Kb_ BK289 hb; replace HB := Ks_ HB hb; clear hb hbox hg; have hnb66 := NB294_274.out; have hnc66 := NB274_294.out; have hnb67 := NB294_275.out; have hnc67 := NB275_294.out; have hnb68 := NB294_276.out; have hnc68 := NB276_294.out; have hnb69 := NB294_283.out; have hnc69 := NB283_294.out; have hnb70 := NB294_289.out; have hnc70 := NB289_294.out; obtain ⟨hcz71_0, hcz71_1, hcz71_2, hcz71_3, hfz71_0, hfz71_1, hfz71_2, hfz71_3⟩ := Ke4_ BK294.out; obtain ⟨hcz72_0, hcz72_1, hcz72_2, hcz72_3, hcz72_4, hfz72_0, hfz72_1, hfz72_2, hfz72_3, hfz72_4⟩ := Ke5_ BK283.out) | ((with_reducible refine gate_callee (f := 12) rfl ?_); refine goesL_ (some 27) rfl rfl Tryd.func12 (by kernel_rfl) rfl #[.agg #[.int .u64 t278, .int .u64 t279, .int .u64 t280, .int .u64 t281, .int .i64 t282]] rfl (by (try simp only [List.map_toArray, List.map_cons, List.map_nil]); first | done | rfl | (simp only [List.length_drop, List.length_take]; rfl)) ?_; (with_reducible refine (stamp_Put.calls k t278 t279 t280 t281 t282 t295 t296 _ A9.out).mono ?_); rintro e w73 ⟨rfl, hb⟩; refine ⟨_, rfl, ?_⟩; replace BK274 := Kf_ BK274 NB274_294 hb; replace BK275 := Kf_ BK275 NB275_294 hb; replace BK276 := Kf_ BK276 NB276_294 hb; replace BK283 := Kf_ BK283 NB283_294 hb; replace BK289 := Kf_ BK289 NB289_294 hb; replace BK294 := Aside0.mk (blk_below (g := gb294) (o := .cells #[.int .u64 t290, .int .u64 t291, .int .u64 t292, .int .u64 t293] 24 (0, 0)) (by (with_reducible repeat (first | refine blk_drewN ?_ _ | refine blk_drew ?_ | refine blk_alloc ?_ _)); refine blk_put (cs := #[.int .u64 t290, .int .u64 t291, .int .u64 t292, .int .u64 0]) ?_ 3 _ rfl; (with_reducible repeat (first | refine blk_drewN ?_ _ | refine blk_drew ?_ | refine blk_alloc ?_ _)); refine blk_put (cs := #[.int .u64 t290, .int .u64 t291, .int .u64 0, .int .u64 0]) ?_ 2 _ rfl; (with_reducible repeat (first | refine blk_drewN ?_ _ | refine blk_drew ?_ | refine blk_alloc ?_ _)); refine blk_put (cs := #[.int .u64 t290, .int .u64 0, .int .u64 0, .int .u64 0]) ?_ 1 _ rfl; (with_reducible repeat (first | refine blk_drewN ?_ _ | refine blk_drew ?_ | refine blk_alloc ?_ _)); refine blk_put (cs := #[.int .u64 0, .int .u64 0, .int .u64 0, .int .u64 0]) ?_ 0 _ rfl; (with_reducible repeat (first | refine blk_drewN ?_ _ | refine blk_drew ?_ | refine blk_alloc ?_ _)); exact BK294.out) hb); replace HB := Kt_ HB GE294 hb; (try clear hb); (try clear hb2); (try clear hk); (try clear hi); obtain ⟨hcz74_0, hcz74_1, hcz74_2, hcz74_3, hcz74_4, hfz74_0, hfz74_1, hfz74_2, hfz74_3, hfz74_4⟩ := Ke5_ BK283.out) | ((with_reducible refine gate_callee (f := 14) rfl ?_); refine goesL_ (some 32) rfl rfl Tryd.func14 (by kernel_rfl) rfl #[.agg #[.int .u64 t278, .int .u64 t279, .int .u64 t280, .int .u64 t281, .int .i64 t282]] rfl (by (try simp only [List.map_toArray, List.map_cons, List.map_nil]); first | done | rfl | (simp only [List.length_drop, List.length_take]; rfl)) ?_; (with_reducible refine (tenementlaw07_refStamp.calls t278 t279 t280 t281 t282 t297 t298 t299 t300 t301 _ A10.out).mono ?_); rintro e w75 ⟨rfl, hb⟩; refine ⟨_, rfl, ?_⟩; replace BK274 := Kb_ BK274 hb; replace BK275 := Kb_ BK275 hb; replace BK276 := Kb_ BK276 hb; replace BK283 := Kb_ BK283 hb; replace BK289 := Kb_ BK289 hb; replace BK294 := Kb_ BK294 hb; replace HB := Ks_ HB hb; (try clear hb); (try clear hb2); (try clear hk); (try clear hi)) | ((with_reducible refine gate_callee (f := 13) rfl ?_); refine goesL_ (some 33) rfl rfl Tryd.func13 (by kernel_rfl) rfl #[.agg #[.int .u64 t297, .int .u64 t298, .int .u64 t299, .int .u64 t300, .int .i64 t301]] rfl (by (try simp only [List.map_toArray, List.map_cons, List.map_nil]); first | done | rfl | (simp only [List.length_drop, List.length_take]; rfl)) ?_; (with_reducible refine (tenementref07_Put.calls k t297 t298 t299 t300 t301 t302 t296 _ A11.out).mono ?_); rintro e w76 ⟨rfl, hb⟩; refine ⟨_, rfl, ?_⟩; replace BK274 := Kb_ BK274 hb; replace BK275 := Kb_ BK275 hb; replace BK276 := Kb_ BK276 hb; replace BK283 := Kb_ BK283 hb; replace BK289 := Kb_ BK289 hb; replace BK294 := Kb_ BK294 hb; replace HB := Ks_ HB hb; (try clear hb); (try clear hb2); (try clear hk); (try clear hi)))
  replace BK274 := Kd_ BK274
  replace BK275 := Kd_ BK275
  replace BK276 := Kd_ BK276
  replace BK283 := Kd_ BK283
  replace BK289 := Kd_ BK289
  replace BK294 := Kd_ BK294
  replace HB := Aside0.mk (below_drew1 HB.out)
  refine start_ (n := 11) (S := fun w' => w'.cell? ⟨gb283, 0, none⟩ = some (.int .u64 t278) ∧ w'.cell? ⟨gb283, 1, none⟩ = some (.int .u64 t279) ∧ w'.cell? ⟨gb283, 2, none⟩ = some (.int .u64 t280) ∧ w'.cell? ⟨gb283, 3, none⟩ = some (.int .u64 t281) ∧ w'.cell? ⟨gb283, 4, none⟩ = some (.int .i64 t282) ∧ w'.cell? ⟨gb289, 0, none⟩ = some (.int .u64 t284) ∧ w'.cell? ⟨gb289, 1, none⟩ = some (.int .u64 t285) ∧ w'.cell? ⟨gb289, 2, none⟩ = some (.int .u64 t286) ∧ w'.cell? ⟨gb289, 3, none⟩ = some (.int .u64 t287) ∧ w'.cell? ⟨gb289, 4, none⟩ = some (.int .i64 t288)) (ds := []) #[false, false, false, false, false, false, false, false, false, false, false] (by kernel_rfl) rfl rfl ⟨(blk_cell BK283.out 0).trans rfl, (blk_cell BK283.out 1).trans rfl, (blk_cell BK283.out 2).trans rfl, (blk_cell BK283.out 3).trans rfl, (blk_cell BK283.out 4).trans rfl, (blk_cell BK289.out 0).trans rfl, (blk_cell BK289.out 1).trans rfl, (blk_cell BK289.out 2).trans rfl, (blk_cell BK289.out 3).trans rfl, (blk_cell BK289.out 4).trans rfl⟩ (fun hHeld => ?_); refine with_tabW tenementlaw07_StampTells.tab9 tenementlaw07_StampTells.bits9 (fun HT_ HW_ => ?_)
  generalize w76.drew = w77 at BK274 BK275 BK276 BK283 BK289 BK294 HB hHeld ⊢
  refine take_ (i := 0) (N := some 36) (v := ?_) (a' := ?_) #[true, false, false, false, false, false, false, false, false, false, false] rfl rfl (take_ofW HT_.out HW_.out (by kernel_rfl)) (fun _ _ _ h => h) (Or.inl ⟨by rfl, ?_⟩) hHeld ?_ ?_
  rotate_left
  · rintro w' ⟨s0, s1, s2, s3, s4, s5, s6, s7, s8, s9⟩
    go_simp
    with_reducible rfl
  rotate_left
  · simp only [Act.put, List.setIfInBounds_toArray, List.set_cons_zero, List.set_cons_succ, i64_w, i32_w]
    rfl
  refine take_ (i := 1) (N := some 37) (v := ?_) (a' := ?_) #[true, true, false, false, false, false, false, false, false, false, false] rfl rfl (take_ofW HT_.out HW_.out (by kernel_rfl)) (fun _ _ _ h => h) (Or.inl ⟨by rfl, ?_⟩) hHeld ?_ ?_
  rotate_left
  · rintro w' ⟨s0, s1, s2, s3, s4, s5, s6, s7, s8, s9⟩
    go_simp
    with_reducible rfl
  rotate_left
  · simp only [Act.put, List.setIfInBounds_toArray, List.set_cons_zero, List.set_cons_succ, i64_w, i32_w]
    rfl
  refine take_ (i := 4) (N := some 40) (v := ?_) (a' := ?_) #[true, true, false, false, true, false, false, false, false, false, false] rfl rfl (take_ofW HT_.out HW_.out (by kernel_rfl)) (fun _ _ _ h => h) (Or.inl ⟨by rfl, ?_⟩) hHeld ?_ ?_
  rotate_left
  · rintro w' ⟨s0, s1, s2, s3, s4, s5, s6, s7, s8, s9⟩
    go_simp
    with_reducible rfl
  rotate_left
  · simp only [Act.put, List.setIfInBounds_toArray, List.set_cons_zero, List.set_cons_succ, i64_w, i32_w]
    rfl
  refine take_ (i := 6) (N := some 42) (v := ?_) (a' := ?_) #[true, true, false, false, true, false, true, false, false, false, false] rfl rfl (take_ofW HT_.out HW_.out (by kernel_rfl)) (fun _ _ _ h => h) (Or.inl ⟨by rfl, ?_⟩) hHeld ?_ ?_
  rotate_left
  · rintro w' ⟨s0, s1, s2, s3, s4, s5, s6, s7, s8, s9⟩
    go_simp
    with_reducible rfl
  rotate_left
  · simp only [Act.put, List.setIfInBounds_toArray, List.set_cons_zero, List.set_cons_succ, i64_w, i32_w]
    rfl
  refine one_ (i := 2) (N := some 38) #[true, true, true, false, true, false, true, false, false, false, false] rfl rfl (one_of HT_.out (by kernel_rfl)) (by decide) (fun K hK => ?_)
  refine goes_ Tryd.func15 (by kernel_rfl) rfl #[.agg #[.int .u64 t278, .int .u64 t279, .int .u64 t280, .int .u64 t281, .int .i64 t282], .agg #[.int .u64 t284, .int .u64 t285, .int .u64 t286, .int .u64 t287, .int .i64 t288]] (by rfl) rfl rfl (by (try simp only [List.map_toArray, List.map_cons, List.map_nil]); first | done | rfl | (simp only [List.length_drop, List.length_take]; rfl)) ?_
  with_reducible refine (stamp_Later.calls k t278 t279 t280 t281 t282 t284 t285 t286 t287 t288 t304 t305 t306 t307 t308 _ A12.out).mono ?_
  rintro e w78 ⟨rfl, hb⟩
  refine ⟨_, rfl, ?_⟩
  replace BK274 := Kb_ BK274 hb
  replace BK275 := Kb_ BK275 hb
  replace BK276 := Kb_ BK276 hb
  replace BK283 := Kb_ BK283 hb
  replace BK289 := Kb_ BK289 hb
  replace BK294 := Kb_ BK294 hb
  replace HB := Ks_ HB hb
  (try clear hb)
  (try clear hb2)
  (try clear hk)
  (try clear hi)
  refine hK.out _ _ ⟨(blk_cell BK283.out 0).trans rfl, (blk_cell BK283.out 1).trans rfl, (blk_cell BK283.out 2).trans rfl, (blk_cell BK283.out 3).trans rfl, (blk_cell BK283.out 4).trans rfl, (blk_cell BK289.out 0).trans rfl, (blk_cell BK289.out 1).trans rfl, (blk_cell BK289.out 2).trans rfl, (blk_cell BK289.out 3).trans rfl, (blk_cell BK289.out 4).trans rfl⟩ (fun hHeld => ?_)
  clear hK K
  refine norm_ (a' := ?_) ?_ ?_
  rotate_left
  · show Act.put _ (some 38) _ = _
    simp only [Act.put, List.setIfInBounds_toArray, List.set_cons_zero, List.set_cons_succ, i64_w, i32_w]
    rfl
  refine one_ (i := 3) (N := some 39) #[true, true, true, true, true, false, true, false, false, false, false] rfl rfl (one_of HT_.out (by kernel_rfl)) (by decide) (fun K hK => ?_)
  refine goes_ Tryd.func14 (by kernel_rfl) rfl #[.agg #[.int .u64 t304, .int .u64 t305, .int .u64 t306, .int .u64 t307, .int .i64 t308]] (by rfl) rfl rfl (by (try simp only [List.map_toArray, List.map_cons, List.map_nil]); first | done | rfl | (simp only [List.length_drop, List.length_take]; rfl)) ?_
  with_reducible refine (tenementlaw07_refStamp.calls t304 t305 t306 t307 t308 t309 t310 t311 t312 t313 _ A13.out).mono ?_
  rintro e w79 ⟨rfl, hb⟩
  refine ⟨_, rfl, ?_⟩
  replace BK274 := Kb_ BK274 hb
  replace BK275 := Kb_ BK275 hb
  replace BK276 := Kb_ BK276 hb
  replace BK283 := Kb_ BK283 hb
  replace BK289 := Kb_ BK289 hb
  replace BK294 := Kb_ BK294 hb
  replace HB := Ks_ HB hb
  (try clear hb)
  (try clear hb2)
  (try clear hk)
  (try clear hi)
  refine hK.out _ _ ⟨(blk_cell BK283.out 0).trans rfl, (blk_cell BK283.out 1).trans rfl, (blk_cell BK283.out 2).trans rfl, (blk_cell BK283.out 3).trans rfl, (blk_cell BK283.out 4).trans rfl, (blk_cell BK289.out 0).trans rfl, (blk_cell BK289.out 1).trans rfl, (blk_cell BK289.out 2).trans rfl, (blk_cell BK289.out 3).trans rfl, (blk_cell BK289.out 4).trans rfl⟩ (fun hHeld => ?_)
  clear hK K
  refine norm_ (a' := ?_) ?_ ?_
  rotate_left
  · show Act.put _ (some 39) _ = _
    simp only [Act.put, List.setIfInBounds_toArray, List.set_cons_zero, List.set_cons_succ, i64_w, i32_w]
    rfl
  refine one_ (i := 5) (N := some 41) #[true, true, true, true, true, true, true, false, false, false, false] rfl rfl (one_of HT_.out (by kernel_rfl)) (by decide) (fun K hK => ?_)
  refine goes_ Tryd.func14 (by kernel_rfl) rfl #[.agg #[.int .u64 t278, .int .u64 t279, .int .u64 t280, .int .u64 t281, .int .i64 t282]] (by rfl) rfl rfl (by (try simp only [List.map_toArray, List.map_cons, List.map_nil]); first | done | rfl | (simp only [List.length_drop, List.length_take]; rfl)) ?_
  with_reducible refine (tenementlaw07_refStamp.calls t278 t279 t280 t281 t282 t314 t315 t316 t317 t318 _ A14.out).mono ?_
  rintro e w80 ⟨rfl, hb⟩
  refine ⟨_, rfl, ?_⟩
  replace BK274 := Kb_ BK274 hb
  replace BK275 := Kb_ BK275 hb
  replace BK276 := Kb_ BK276 hb
  replace BK283 := Kb_ BK283 hb
  replace BK289 := Kb_ BK289 hb
  replace BK294 := Kb_ BK294 hb
  replace HB := Ks_ HB hb
  (try clear hb)
  (try clear hb2)
  (try clear hk)
  (try clear hi)
  refine hK.out _ _ ⟨(blk_cell BK283.out 0).trans rfl, (blk_cell BK283.out 1).trans rfl, (blk_cell BK283.out 2).trans rfl, (blk_cell BK283.out 3).trans rfl, (blk_cell BK283.out 4).trans rfl, (blk_cell BK289.out 0).trans rfl, (blk_cell BK289.out 1).trans rfl, (blk_cell BK289.out 2).trans rfl, (blk_cell BK289.out 3).trans rfl, (blk_cell BK289.out 4).trans rfl⟩ (fun hHeld => ?_)
  clear hK K
  refine norm_ (a' := ?_) ?_ ?_
  rotate_left
  · show Act.put _ (some 41) _ = _
    simp only [Act.put, List.setIfInBounds_toArray, List.set_cons_zero, List.set_cons_succ, i64_w, i32_w]
    rfl
  refine one_ (i := 7) (N := some 43) #[true, true, true, true, true, true, true, true, false, false, false] rfl rfl (one_of HT_.out (by kernel_rfl)) (by decide) (fun K hK => ?_)
  refine goes_ Tryd.func14 (by kernel_rfl) rfl #[.agg #[.int .u64 t284, .int .u64 t285, .int .u64 t286, .int .u64 t287, .int .i64 t288]] (by rfl) rfl rfl (by (try simp only [List.map_toArray, List.map_cons, List.map_nil]); first | done | rfl | (simp only [List.length_drop, List.length_take]; rfl)) ?_
  with_reducible refine (tenementlaw07_refStamp.calls t284 t285 t286 t287 t288 t319 t320 t321 t322 t323 _ A15.out).mono ?_
  rintro e w81 ⟨rfl, hb⟩
  refine ⟨_, rfl, ?_⟩
  replace BK274 := Kb_ BK274 hb
  replace BK275 := Kb_ BK275 hb
  replace BK276 := Kb_ BK276 hb
  replace BK283 := Kb_ BK283 hb
  replace BK289 := Kb_ BK289 hb
  replace BK294 := Kb_ BK294 hb
  replace HB := Ks_ HB hb
  (try clear hb)
  (try clear hb2)
  (try clear hk)
  (try clear hi)
  refine hK.out _ _ ⟨(blk_cell BK283.out 0).trans rfl, (blk_cell BK283.out 1).trans rfl, (blk_cell BK283.out 2).trans rfl, (blk_cell BK283.out 3).trans rfl, (blk_cell BK283.out 4).trans rfl, (blk_cell BK289.out 0).trans rfl, (blk_cell BK289.out 1).trans rfl, (blk_cell BK289.out 2).trans rfl, (blk_cell BK289.out 3).trans rfl, (blk_cell BK289.out 4).trans rfl⟩ (fun hHeld => ?_)
  clear hK K
  refine norm_ (a' := ?_) ?_ ?_
  rotate_left
  · show Act.put _ (some 43) _ = _
    simp only [Act.put, List.setIfInBounds_toArray, List.set_cons_zero, List.set_cons_succ, i64_w, i32_w]
    rfl
  refine one_ (i := 8) (N := some 44) #[true, true, true, true, true, true, true, true, true, false, false] rfl rfl (one_of HT_.out (by kernel_rfl)) (by decide) (fun K hK => ?_)
  refine goes_ Tryd.func16 (by kernel_rfl) rfl #[.agg #[.int .u64 t314, .int .u64 t315, .int .u64 t316, .int .u64 t317, .int .i64 t318], .agg #[.int .u64 t319, .int .u64 t320, .int .u64 t321, .int .u64 t322, .int .i64 t323]] (by rfl) rfl rfl (by (try simp only [List.map_toArray, List.map_cons, List.map_nil]); first | done | rfl | (simp only [List.length_drop, List.length_take]; rfl)) ?_
  with_reducible refine (tenementref07_Later.calls k t314 t315 t316 t317 t318 t319 t320 t321 t322 t323 t324 t325 t326 t327 t328 _ A16.out).mono ?_
  rintro e w82 ⟨rfl, hb⟩
  refine ⟨_, rfl, ?_⟩
  replace BK274 := Kb_ BK274 hb
  replace BK275 := Kb_ BK275 hb
  replace BK276 := Kb_ BK276 hb
  replace BK283 := Kb_ BK283 hb
  replace BK289 := Kb_ BK289 hb
  replace BK294 := Kb_ BK294 hb
  replace HB := Ks_ HB hb
  (try clear hb)
  (try clear hb2)
  (try clear hk)
  (try clear hi)
  refine hK.out _ _ ⟨(blk_cell BK283.out 0).trans rfl, (blk_cell BK283.out 1).trans rfl, (blk_cell BK283.out 2).trans rfl, (blk_cell BK283.out 3).trans rfl, (blk_cell BK283.out 4).trans rfl, (blk_cell BK289.out 0).trans rfl, (blk_cell BK289.out 1).trans rfl, (blk_cell BK289.out 2).trans rfl, (blk_cell BK289.out 3).trans rfl, (blk_cell BK289.out 4).trans rfl⟩ (fun hHeld => ?_)
  clear hK K
  refine norm_ (a' := ?_) ?_ ?_
  rotate_left
  · show Act.put _ (some 44) _ = _
    simp only [Act.put, List.setIfInBounds_toArray, List.set_cons_zero, List.set_cons_succ, i64_w, i32_w]
    rfl
  refine pure_ (i := 9) (N := some 45) (v := ?_) (a' := ?_) #[true, true, true, true, true, true, true, true, true, true, false] rfl rfl (any_of HT_.out (by kernel_rfl)) (fun _ _ _ h => h) (Or.inl ⟨by rfl, ?_⟩) ?_ ?_
  rotate_left
  · intro w'
    go_simp
    with_reducible rfl
  rotate_left
  · simp only [Act.put, List.setIfInBounds_toArray, List.set_cons_zero, List.set_cons_succ, i64_w, i32_w]
    rfl
  refine pure_ (i := 10) (N := some 15) (v := ?_) (a' := ?_) #[true, true, true, true, true, true, true, true, true, true, true] rfl rfl (any_of HT_.out (by kernel_rfl)) (fun _ _ _ h => h) (Or.inl ⟨by rfl, ?_⟩) ?_ ?_
  rotate_left
  · intro w'
    go_simp
    with_reducible rfl
  rotate_left
  · simp only [Act.put, List.setIfInBounds_toArray, List.set_cons_zero, List.set_cons_succ, i64_w, i32_w]
    rfl
  refine done_ (done_of HT_.out (by kernel_rfl)) ?_
  try go_wp2
  replace BK274 := Kd_ BK274
  replace BK275 := Kd_ BK275
  replace BK276 := Kd_ BK276
  replace BK283 := Kd_ BK283
  replace BK289 := Kd_ BK289
  replace BK294 := Kd_ BK294
  replace HB := Aside0.mk (below_drew1 HB.out)
  refine start_ (n := 60) (S := fun w' => w'.cell? ⟨gb283, 0, none⟩ = some (.int .u64 t278) ∧ w'.cell? ⟨gb283, 1, none⟩ = some (.int .u64 t279) ∧ w'.cell? ⟨gb283, 2, none⟩ = some (.int .u64 t280) ∧ w'.cell? ⟨gb283, 3, none⟩ = some (.int .u64 t281) ∧ w'.cell? ⟨gb283, 4, none⟩ = some (.int .i64 t282) ∧ w'.cell? ⟨gb289, 0, none⟩ = some (.int .u64 t284) ∧ w'.cell? ⟨gb289, 1, none⟩ = some (.int .u64 t285) ∧ w'.cell? ⟨gb289, 2, none⟩ = some (.int .u64 t286) ∧ w'.cell? ⟨gb289, 3, none⟩ = some (.int .u64 t287) ∧ w'.cell? ⟨gb289, 4, none⟩ = some (.int .i64 t288) ∧ w'.cell? ⟨gb294, 0, none⟩ = some (.int .u64 t290) ∧ w'.cell? ⟨gb294, 1, none⟩ = some (.int .u64 t291) ∧ w'.cell? ⟨gb294, 2, none⟩ = some (.int .u64 t292) ∧ w'.cell? ⟨gb294, 3, none⟩ = some (.int .u64 t293)) (ds := []) #[false, false, false, false, false, false, false, false, false, false, false, false, false, false, false, false, false, false, false, false, false, false, false, false, false, false, false, false, false, false, false, false, false, false, false, false, false, false, false, false, false, false, false, false, false, false, false, false, false, false, false, false, false, false, false, false, false, false, false, false] (by kernel_rfl) rfl rfl ⟨(blk_cell BK283.out 0).trans rfl, (blk_cell BK283.out 1).trans rfl, (blk_cell BK283.out 2).trans rfl, (blk_cell BK283.out 3).trans rfl, (blk_cell BK283.out 4).trans rfl, (blk_cell BK289.out 0).trans rfl, (blk_cell BK289.out 1).trans rfl, (blk_cell BK289.out 2).trans rfl, (blk_cell BK289.out 3).trans rfl, (blk_cell BK289.out 4).trans rfl, (blk_cell BK294.out 0).trans rfl, (blk_cell BK294.out 1).trans rfl, (blk_cell BK294.out 2).trans rfl, (blk_cell BK294.out 3).trans rfl⟩ (fun hHeld => ?_); refine with_tabW tenementlaw07_StampTells.tab10 tenementlaw07_StampTells.bits10 (fun HT_ HW_ => ?_)
  generalize w82.drew = w83 at BK274 BK275 BK276 BK283 BK289 BK294 HB hHeld ⊢
  refine pure_ (i := 0) (N := some 46) (v := ?_) (a' := ?_) #[true, false, false, false, false, false, false, false, false, false, false, false, false, false, false, false, false, false, false, false, false, false, false, false, false, false, false, false, false, false, false, false, false, false, false, false, false, false, false, false, false, false, false, false, false, false, false, false, false, false, false, false, false, false, false, false, false, false, false, false] rfl rfl (any_of HT_.out (by kernel_rfl)) (fun _ _ _ h => h) (Or.inl ⟨by rfl, ?_⟩) ?_ ?_
  rotate_left
  · intro w'
    go_simp
    with_reducible rfl
  rotate_left
  · simp only [Act.put, List.setIfInBounds_toArray, List.set_cons_zero, List.set_cons_succ, i64_w, i32_w]
    rfl
  refine pure_ (i := 1) (N := some 47) (v := ?_) (a' := ?_) #[true, true, false, false, false, false, false, false, false, false, false, false, false, false, false, false, false, false, false, false, false, false, false, false, false, false, false, false, false, false, false, false, false, false, false, false, false, false, false, false, false, false, false, false, false, false, false, false, false, false, false, false, false, false, false, false, false, false, false, false] rfl rfl (any_of HT_.out (by kernel_rfl)) (fun _ _ _ h => h) (Or.inl ⟨by rfl, ?_⟩) ?_ ?_
  rotate_left
  · intro w'
    go_simp
    with_reducible rfl
  rotate_left
  · simp only [Act.put, List.setIfInBounds_toArray, List.set_cons_zero, List.set_cons_succ, i64_w, i32_w]
    rfl
  refine pure_ (i := 2) (N := some 48) (v := ?_) (a' := ?_) #[true, true, true, false, false, false, false, false, false, false, false, false, false, false, false, false, false, false, false, false, false, false, false, false, false, false, false, false, false, false, false, false, false, false, false, false, false, false, false, false, false, false, false, false, false, false, false, false, false, false, false, false, false, false, false, false, false, false, false, false] rfl rfl (any_of HT_.out (by kernel_rfl)) (fun _ _ _ h => h) (Or.inl ⟨by rfl, ?_⟩) ?_ ?_
  rotate_left
  · intro w'
    go_simp
    with_reducible rfl
  rotate_left
  · simp only [Act.put, List.setIfInBounds_toArray, List.set_cons_zero, List.set_cons_succ, i64_w, i32_w]
    rfl
  refine pure_ (i := 3) (N := some 49) (v := ?_) (a' := ?_) #[true, true, true, true, false, false, false, false, false, false, false, false, false, false, false, false, false, false, false, false, false, false, false, false, false, false, false, false, false, false, false, false, false, false, false, false, false, false, false, false, false, false, false, false, false, false, false, false, false, false, false, false, false, false, false, false, false, false, false, false] rfl rfl (any_of HT_.out (by kernel_rfl)) (fun _ _ _ h => h) (Or.inl ⟨by rfl, ?_⟩) ?_ ?_
  rotate_left
  · intro w'
    go_simp
    with_reducible rfl
  rotate_left
  · simp only [Act.put, List.setIfInBounds_toArray, List.set_cons_zero, List.set_cons_succ, i64_w, i32_w]
    rfl
  refine pure_ (i := 4) (N := some 50) (v := ?_) (a' := ?_) #[true, true, true, true, true, false, false, false, false, false, false, false, false, false, false, false, false, false, false, false, false, false, false, false, false, false, false, false, false, false, false, false, false, false, false, false, false, false, false, false, false, false, false, false, false, false, false, false, false, false, false, false, false, false, false, false, false, false, false, false] rfl rfl (any_of HT_.out (by kernel_rfl)) (fun _ _ _ h => h) (Or.inl ⟨by rfl, ?_⟩) ?_ ?_
  rotate_left
  · intro w'
    go_simp
    with_reducible rfl
  rotate_left
  · simp only [Act.put, List.setIfInBounds_toArray, List.set_cons_zero, List.set_cons_succ, i64_w, i32_w]
    rfl
  refine take_ (i := 5) (N := some 51) (v := ?_) (a' := ?_) #[true, true, true, true, true, true, false, false, false, false, false, false, false, false, false, false, false, false, false, false, false, false, false, false, false, false, false, false, false, false, false, false, false, false, false, false, false, false, false, false, false, false, false, false, false, false, false, false, false, false, false, false, false, false, false, false, false, false, false, false] rfl rfl (take_ofW HT_.out HW_.out (by kernel_rfl)) (fun _ _ _ h => h) (Or.inl ⟨by rfl, ?_⟩) hHeld ?_ ?_
  rotate_left
  · rintro w' ⟨s0, s1, s2, s3, s4, s5, s6, s7, s8, s9, s10, s11, s12, s13⟩
    go_simp
    with_reducible rfl
  rotate_left
  · simp only [Act.put, List.setIfInBounds_toArray, List.set_cons_zero, List.set_cons_succ, i64_w, i32_w]
    rfl
  refine take_ (i := 7) (N := some 53) (v := ?_) (a' := ?_) #[true, true, true, true, true, true, false, true, false, false, false, false, false, false, false, false, false, false, false, false, false, false, false, false, false, false, false, false, false, false, false, false, false, false, false, false, false, false, false, false, false, false, false, false, false, false, false, false, false, false, false, false, false, false, false, false, false, false, false, false] rfl rfl (take_ofW HT_.out HW_.out (by kernel_rfl)) (fun _ _ _ h => h) (Or.inl ⟨by rfl, ?_⟩) hHeld ?_ ?_
  rotate_left
  · rintro w' ⟨s0, s1, s2, s3, s4, s5, s6, s7, s8, s9, s10, s11, s12, s13⟩
    go_simp
    with_reducible rfl
  rotate_left
  · simp only [Act.put, List.setIfInBounds_toArray, List.set_cons_zero, List.set_cons_succ, i64_w, i32_w]
    rfl
  refine one_ (i := 6) (N := some 52) #[true, true, true, true, true, true, true, true, false, false, false, false, false, false, false, false, false, false, false, false, false, false, false, false, false, false, false, false, false, false, false, false, false, false, false, false, false, false, false, false, false, false, false, false, false, false, false, false, false, false, false, false, false, false, false, false, false, false, false, false] rfl rfl (one_of HT_.out (by kernel_rfl)) (by decide) (fun K hK => ?_)
  refine goes_ Tryd.func17 (by kernel_rfl) rfl #[.agg #[.int .u64 t278, .int .u64 t279, .int .u64 t280, .int .u64 t281, .int .i64 t282]] (by rfl) rfl rfl (by (try simp only [List.map_toArray, List.map_cons, List.map_nil]); first | done | rfl | (simp only [List.length_drop, List.length_take]; rfl)) ?_
  with_reducible refine (stamp_Right.calls t278 t279 t280 t281 t282 t329 _ A18.out).mono ?_
  rintro e w84 ⟨rfl, hb⟩
  refine ⟨_, rfl, ?_⟩
  replace BK274 := Kb_ BK274 hb
  replace BK275 := Kb_ BK275 hb
  replace BK276 := Kb_ BK276 hb
  replace BK283 := Kb_ BK283 hb
  replace BK289 := Kb_ BK289 hb
  replace BK294 := Kb_ BK294 hb
  replace HB := Ks_ HB hb
  (try clear hb)
  (try clear hb2)
  (try clear hk)
  (try clear hi)
  refine hK.out _ _ ⟨(blk_cell BK283.out 0).trans rfl, (blk_cell BK283.out 1).trans rfl, (blk_cell BK283.out 2).trans rfl, (blk_cell BK283.out 3).trans rfl, (blk_cell BK283.out 4).trans rfl, (blk_cell BK289.out 0).trans rfl, (blk_cell BK289.out 1).trans rfl, (blk_cell BK289.out 2).trans rfl, (blk_cell BK289.out 3).trans rfl, (blk_cell BK289.out 4).trans rfl, (blk_cell BK294.out 0).trans rfl, (blk_cell BK294.out 1).trans rfl, (blk_cell BK294.out 2).trans rfl, (blk_cell BK294.out 3).trans rfl⟩ (fun hHeld => ?_)
  clear hK K
  refine norm_ (a' := ?_) ?_ ?_
  rotate_left
  · show Act.put _ (some 52) _ = _
    simp only [Act.put, List.setIfInBounds_toArray, List.set_cons_zero, List.set_cons_succ, i64_w, i32_w]
    rfl
  refine one_ (i := 8) (N := some 54) #[true, true, true, true, true, true, true, true, true, false, false, false, false, false, false, false, false, false, false, false, false, false, false, false, false, false, false, false, false, false, false, false, false, false, false, false, false, false, false, false, false, false, false, false, false, false, false, false, false, false, false, false, false, false, false, false, false, false, false, false] rfl rfl (one_of HT_.out (by kernel_rfl)) (by decide) (fun K hK => ?_)
  refine goes_ Tryd.func14 (by kernel_rfl) rfl #[.agg #[.int .u64 t278, .int .u64 t279, .int .u64 t280, .int .u64 t281, .int .i64 t282]] (by rfl) rfl rfl (by (try simp only [List.map_toArray, List.map_cons, List.map_nil]); first | done | rfl | (simp only [List.length_drop, List.length_take]; rfl)) ?_
  with_reducible refine (tenementlaw07_refStamp.calls t278 t279 t280 t281 t282 t330 t331 t332 t333 t334 _ A19.out).mono ?_
  rintro e w85 ⟨rfl, hb⟩
  refine ⟨_, rfl, ?_⟩
  replace BK274 := Kb_ BK274 hb
  replace BK275 := Kb_ BK275 hb
  replace BK276 := Kb_ BK276 hb
  replace BK283 := Kb_ BK283 hb
  replace BK289 := Kb_ BK289 hb
  replace BK294 := Kb_ BK294 hb
  replace HB := Ks_ HB hb
  (try clear hb)
  (try clear hb2)
  (try clear hk)
  (try clear hi)
  refine hK.out _ _ ⟨(blk_cell BK283.out 0).trans rfl, (blk_cell BK283.out 1).trans rfl, (blk_cell BK283.out 2).trans rfl, (blk_cell BK283.out 3).trans rfl, (blk_cell BK283.out 4).trans rfl, (blk_cell BK289.out 0).trans rfl, (blk_cell BK289.out 1).trans rfl, (blk_cell BK289.out 2).trans rfl, (blk_cell BK289.out 3).trans rfl, (blk_cell BK289.out 4).trans rfl, (blk_cell BK294.out 0).trans rfl, (blk_cell BK294.out 1).trans rfl, (blk_cell BK294.out 2).trans rfl, (blk_cell BK294.out 3).trans rfl⟩ (fun hHeld => ?_)
  clear hK K
  refine norm_ (a' := ?_) ?_ ?_
  rotate_left
  · show Act.put _ (some 54) _ = _
    simp only [Act.put, List.setIfInBounds_toArray, List.set_cons_zero, List.set_cons_succ, i64_w, i32_w]
    rfl
  refine one_ (i := 9) (N := some 55) #[true, true, true, true, true, true, true, true, true, true, false, false, false, false, false, false, false, false, false, false, false, false, false, false, false, false, false, false, false, false, false, false, false, false, false, false, false, false, false, false, false, false, false, false, false, false, false, false, false, false, false, false, false, false, false, false, false, false, false, false] rfl rfl (one_of HT_.out (by kernel_rfl)) (by decide) (fun K hK => ?_)
  refine goes_ Tryd.func18 (by kernel_rfl) rfl #[.agg #[.int .u64 t330, .int .u64 t331, .int .u64 t332, .int .u64 t333, .int .i64 t334]] (by rfl) rfl rfl (by (try simp only [List.map_toArray, List.map_cons, List.map_nil]); first | done | rfl | (simp only [List.length_drop, List.length_take]; rfl)) ?_
  with_reducible refine (tenementref07_Right.calls k t330 t331 t332 t333 t334 t329 _ A20.out).mono ?_
  rintro e w86 ⟨rfl, hb⟩
  refine ⟨_, rfl, ?_⟩
  replace BK274 := Kb_ BK274 hb
  replace BK275 := Kb_ BK275 hb
  replace BK276 := Kb_ BK276 hb
  replace BK283 := Kb_ BK283 hb
  replace BK289 := Kb_ BK289 hb
  replace BK294 := Kb_ BK294 hb
  replace HB := Ks_ HB hb
  (try clear hb)
  (try clear hb2)
  (try clear hk)
  (try clear hi)
  refine hK.out _ _ ⟨(blk_cell BK283.out 0).trans rfl, (blk_cell BK283.out 1).trans rfl, (blk_cell BK283.out 2).trans rfl, (blk_cell BK283.out 3).trans rfl, (blk_cell BK283.out 4).trans rfl, (blk_cell BK289.out 0).trans rfl, (blk_cell BK289.out 1).trans rfl, (blk_cell BK289.out 2).trans rfl, (blk_cell BK289.out 3).trans rfl, (blk_cell BK289.out 4).trans rfl, (blk_cell BK294.out 0).trans rfl, (blk_cell BK294.out 1).trans rfl, (blk_cell BK294.out 2).trans rfl, (blk_cell BK294.out 3).trans rfl⟩ (fun hHeld => ?_)
  clear hK K
  refine norm_ (a' := ?_) ?_ ?_
  rotate_left
  · show Act.put _ (some 55) _ = _
    simp only [Act.put, List.setIfInBounds_toArray, List.set_cons_zero, List.set_cons_succ, i64_w, i32_w]
    rfl
  refine pure_ (i := 10) (N := some 56) (v := ?_) (a' := ?_) #[true, true, true, true, true, true, true, true, true, true, true, false, false, false, false, false, false, false, false, false, false, false, false, false, false, false, false, false, false, false, false, false, false, false, false, false, false, false, false, false, false, false, false, false, false, false, false, false, false, false, false, false, false, false, false, false, false, false, false, false] rfl rfl (any_of HT_.out (by kernel_rfl)) (fun _ _ _ h => h) (Or.inl ⟨by rfl, ?_⟩) ?_ ?_
  rotate_left
  · intro w'
    go_simp
    with_reducible rfl
  rotate_left
  · simp only [Act.put, List.setIfInBounds_toArray, List.set_cons_zero, List.set_cons_succ, i64_w, i32_w]
    rfl
  refine pure_ (i := 11) (N := some 57) (v := ?_) (a' := ?_) #[true, true, true, true, true, true, true, true, true, true, true, true, false, false, false, false, false, false, false, false, false, false, false, false, false, false, false, false, false, false, false, false, false, false, false, false, false, false, false, false, false, false, false, false, false, false, false, false, false, false, false, false, false, false, false, false, false, false, false, false] rfl rfl (any_of HT_.out (by kernel_rfl)) (fun _ _ _ h => h) (Or.inl ⟨by rfl, ?_⟩) ?_ ?_
  rotate_left
  · intro w'
    go_simp
    with_reducible rfl
  rotate_left
  · simp only [Act.put, List.setIfInBounds_toArray, List.set_cons_zero, List.set_cons_succ, i64_w, i32_w]
    rfl
  refine pure_ (i := 12) (N := some 58) (v := ?_) (a' := ?_) #[true, true, true, true, true, true, true, true, true, true, true, true, true, false, false, false, false, false, false, false, false, false, false, false, false, false, false, false, false, false, false, false, false, false, false, false, false, false, false, false, false, false, false, false, false, false, false, false, false, false, false, false, false, false, false, false, false, false, false, false] rfl rfl (any_of HT_.out (by kernel_rfl)) (fun _ _ _ h => h) (Or.inl ⟨by rfl, ?_⟩) ?_ ?_
  rotate_left
  · intro w'
    go_simp
    with_reducible rfl
  rotate_left
  · simp only [Act.put, List.setIfInBounds_toArray, List.set_cons_zero, List.set_cons_succ, i64_w, i32_w]
    rfl
  refine take_ (i := 13) (N := some 59) (v := ?_) (a' := ?_) #[true, true, true, true, true, true, true, true, true, true, true, true, true, true, false, false, false, false, false, false, false, false, false, false, false, false, false, false, false, false, false, false, false, false, false, false, false, false, false, false, false, false, false, false, false, false, false, false, false, false, false, false, false, false, false, false, false, false, false, false] rfl rfl (take_ofW HT_.out HW_.out (by kernel_rfl)) (fun _ _ _ h => h) (Or.inl ⟨by rfl, ?_⟩) hHeld ?_ ?_
  rotate_left
  · rintro w' ⟨s0, s1, s2, s3, s4, s5, s6, s7, s8, s9, s10, s11, s12, s13⟩
    go_simp
    with_reducible rfl
  rotate_left
  · simp only [Act.put, List.setIfInBounds_toArray, List.set_cons_zero, List.set_cons_succ, i64_w, i32_w]
    rfl
  refine take_ (i := 15) (N := some 61) (v := ?_) (a' := ?_) #[true, true, true, true, true, true, true, true, true, true, true, true, true, true, false, true, false, false, false, false, false, false, false, false, false, false, false, false, false, false, false, false, false, false, false, false, false, false, false, false, false, false, false, false, false, false, false, false, false, false, false, false, false, false, false, false, false, false, false, false] rfl rfl (take_ofW HT_.out HW_.out (by kernel_rfl)) (fun _ _ _ h => h) (Or.inl ⟨by rfl, ?_⟩) hHeld ?_ ?_
  rotate_left
  · rintro w' ⟨s0, s1, s2, s3, s4, s5, s6, s7, s8, s9, s10, s11, s12, s13⟩
    go_simp
    with_reducible rfl
  rotate_left
  · simp only [Act.put, List.setIfInBounds_toArray, List.set_cons_zero, List.set_cons_succ, i64_w, i32_w]
    rfl
  refine one_ (i := 14) (N := some 60) #[true, true, true, true, true, true, true, true, true, true, true, true, true, true, true, true, false, false, false, false, false, false, false, false, false, false, false, false, false, false, false, false, false, false, false, false, false, false, false, false, false, false, false, false, false, false, false, false, false, false, false, false, false, false, false, false, false, false, false, false] rfl rfl (one_of HT_.out (by kernel_rfl)) (by decide) (fun K hK => ?_)
  refine goes_ Tryd.func19 (by kernel_rfl) rfl #[.agg #[.int .u64 t278, .int .u64 t279, .int .u64 t280, .int .u64 t281, .int .i64 t282]] (by rfl) rfl rfl (by (try simp only [List.map_toArray, List.map_cons, List.map_nil]); first | done | rfl | (simp only [List.length_drop, List.length_take]; rfl)) ?_
  with_reducible refine (stamp_Stamp_N.calls t278 t279 t280 t281 t282 t336 _ A22.out).mono ?_
  rintro e w87 ⟨rfl, hb⟩
  refine ⟨_, rfl, ?_⟩
  replace BK274 := Kb_ BK274 hb
  replace BK275 := Kb_ BK275 hb
  replace BK276 := Kb_ BK276 hb
  replace BK283 := Kb_ BK283 hb
  replace BK289 := Kb_ BK289 hb
  replace BK294 := Kb_ BK294 hb
  replace HB := Ks_ HB hb
  (try clear hb)
  (try clear hb2)
  (try clear hk)
  (try clear hi)
  refine hK.out _ _ ⟨(blk_cell BK283.out 0).trans rfl, (blk_cell BK283.out 1).trans rfl, (blk_cell BK283.out 2).trans rfl, (blk_cell BK283.out 3).trans rfl, (blk_cell BK283.out 4).trans rfl, (blk_cell BK289.out 0).trans rfl, (blk_cell BK289.out 1).trans rfl, (blk_cell BK289.out 2).trans rfl, (blk_cell BK289.out 3).trans rfl, (blk_cell BK289.out 4).trans rfl, (blk_cell BK294.out 0).trans rfl, (blk_cell BK294.out 1).trans rfl, (blk_cell BK294.out 2).trans rfl, (blk_cell BK294.out 3).trans rfl⟩ (fun hHeld => ?_)
  clear hK K
  refine norm_ (a' := ?_) ?_ ?_
  rotate_left
  · show Act.put _ (some 60) _ = _
    simp only [Act.put, List.setIfInBounds_toArray, List.set_cons_zero, List.set_cons_succ, i64_w, i32_w]
    rfl
  refine one_ (i := 16) (N := some 62) #[true, true, true, true, true, true, true, true, true, true, true, true, true, true, true, true, true, false, false, false, false, false, false, false, false, false, false, false, false, false, false, false, false, false, false, false, false, false, false, false, false, false, false, false, false, false, false, false, false, false, false, false, false, false, false, false, false, false, false, false] rfl rfl (one_of HT_.out (by kernel_rfl)) (by decide) (fun K hK => ?_)
  refine goes_ Tryd.func14 (by kernel_rfl) rfl #[.agg #[.int .u64 t278, .int .u64 t279, .int .u64 t280, .int .u64 t281, .int .i64 t282]] (by rfl) rfl rfl (by (try simp only [List.map_toArray, List.map_cons, List.map_nil]); first | done | rfl | (simp only [List.length_drop, List.length_take]; rfl)) ?_
  with_reducible refine (tenementlaw07_refStamp.calls t278 t279 t280 t281 t282 t337 t338 t339 t340 t341 _ A23.out).mono ?_
  rintro e w88 ⟨rfl, hb⟩
  refine ⟨_, rfl, ?_⟩
  replace BK274 := Kb_ BK274 hb
  replace BK275 := Kb_ BK275 hb
  replace BK276 := Kb_ BK276 hb
  replace BK283 := Kb_ BK283 hb
  replace BK289 := Kb_ BK289 hb
  replace BK294 := Kb_ BK294 hb
  replace HB := Ks_ HB hb
  (try clear hb)
  (try clear hb2)
  (try clear hk)
  (try clear hi)
  refine hK.out _ _ ⟨(blk_cell BK283.out 0).trans rfl, (blk_cell BK283.out 1).trans rfl, (blk_cell BK283.out 2).trans rfl, (blk_cell BK283.out 3).trans rfl, (blk_cell BK283.out 4).trans rfl, (blk_cell BK289.out 0).trans rfl, (blk_cell BK289.out 1).trans rfl, (blk_cell BK289.out 2).trans rfl, (blk_cell BK289.out 3).trans rfl, (blk_cell BK289.out 4).trans rfl, (blk_cell BK294.out 0).trans rfl, (blk_cell BK294.out 1).trans rfl, (blk_cell BK294.out 2).trans rfl, (blk_cell BK294.out 3).trans rfl⟩ (fun hHeld => ?_)
  clear hK K
  refine norm_ (a' := ?_) ?_ ?_
  rotate_left
  · show Act.put _ (some 62) _ = _
    simp only [Act.put, List.setIfInBounds_toArray, List.set_cons_zero, List.set_cons_succ, i64_w, i32_w]
    rfl
  refine one_ (i := 17) (N := some 63) #[true, true, true, true, true, true, true, true, true, true, true, true, true, true, true, true, true, true, false, false, false, false, false, false, false, false, false, false, false, false, false, false, false, false, false, false, false, false, false, false, false, false, false, false, false, false, false, false, false, false, false, false, false, false, false, false, false, false, false, false] rfl rfl (one_of HT_.out (by kernel_rfl)) (by decide) (fun K hK => ?_)
  refine goes_ Tryd.func20 (by kernel_rfl) rfl #[.agg #[.int .u64 t337, .int .u64 t338, .int .u64 t339, .int .u64 t340, .int .i64 t341]] (by rfl) rfl rfl (by (try simp only [List.map_toArray, List.map_cons, List.map_nil]); first | done | rfl | (simp only [List.length_drop, List.length_take]; rfl)) ?_
  with_reducible refine (tenementref07_Stamp_N.calls t337 t338 t339 t340 t341 t342 _ A24.out).mono ?_
  rintro e w89 ⟨rfl, hb⟩
  refine ⟨_, rfl, ?_⟩
  replace BK274 := Kb_ BK274 hb
  replace BK275 := Kb_ BK275 hb
  replace BK276 := Kb_ BK276 hb
  replace BK283 := Kb_ BK283 hb
  replace BK289 := Kb_ BK289 hb
  replace BK294 := Kb_ BK294 hb
  replace HB := Ks_ HB hb
  (try clear hb)
  (try clear hb2)
  (try clear hk)
  (try clear hi)
  refine hK.out _ _ ⟨(blk_cell BK283.out 0).trans rfl, (blk_cell BK283.out 1).trans rfl, (blk_cell BK283.out 2).trans rfl, (blk_cell BK283.out 3).trans rfl, (blk_cell BK283.out 4).trans rfl, (blk_cell BK289.out 0).trans rfl, (blk_cell BK289.out 1).trans rfl, (blk_cell BK289.out 2).trans rfl, (blk_cell BK289.out 3).trans rfl, (blk_cell BK289.out 4).trans rfl, (blk_cell BK294.out 0).trans rfl, (blk_cell BK294.out 1).trans rfl, (blk_cell BK294.out 2).trans rfl, (blk_cell BK294.out 3).trans rfl⟩ (fun hHeld => ?_)
  clear hK K
  refine norm_ (a' := ?_) ?_ ?_
  rotate_left
  · show Act.put _ (some 63) _ = _
    simp only [Act.put, List.setIfInBounds_toArray, List.set_cons_zero, List.set_cons_succ, i64_w, i32_w]
    rfl
  refine pure_ (i := 18) (N := some 64) (v := ?_) (a' := ?_) #[true, true, true, true, true, true, true, true, true, true, true, true, true, true, true, true, true, true, true, false, false, false, false, false, false, false, false, false, false, false, false, false, false, false, false, false, false, false, false, false, false, false, false, false, false, false, false, false, false, false, false, false, false, false, false, false, false, false, false, false] rfl rfl (any_of HT_.out (by kernel_rfl)) (fun _ _ _ h => h) (Or.inl ⟨by rfl, ?_⟩) ?_ ?_
  rotate_left
  · intro w'
    go_simp
    with_reducible rfl
  rotate_left
  · simp only [Act.put, List.setIfInBounds_toArray, List.set_cons_zero, List.set_cons_succ, i64_w, i32_w]
    rfl
  refine pure_ (i := 19) (N := some 65) (v := ?_) (a' := ?_) #[true, true, true, true, true, true, true, true, true, true, true, true, true, true, true, true, true, true, true, true, false, false, false, false, false, false, false, false, false, false, false, false, false, false, false, false, false, false, false, false, false, false, false, false, false, false, false, false, false, false, false, false, false, false, false, false, false, false, false, false] rfl rfl (any_of HT_.out (by kernel_rfl)) (fun _ _ _ h => h) (Or.inl ⟨by rfl, ?_⟩) ?_ ?_
  rotate_left
  · intro w'
    go_simp
    with_reducible rfl
  rotate_left
  · simp only [Act.put, List.setIfInBounds_toArray, List.set_cons_zero, List.set_cons_succ, i64_w, i32_w]
    rfl
  refine pure_ (i := 20) (N := some 66) (v := ?_) (a' := ?_) #[true, true, true, true, true, true, true, true, true, true, true, true, true, true, true, true, true, true, true, true, true, false, false, false, false, false, false, false, false, false, false, false, false, false, false, false, false, false, false, false, false, false, false, false, false, false, false, false, false, false, false, false, false, false, false, false, false, false, false, false] rfl rfl (any_of HT_.out (by kernel_rfl)) (fun _ _ _ h => h) (Or.inl ⟨by rfl, ?_⟩) ?_ ?_
  rotate_left
  · intro w'
    go_simp
    with_reducible rfl
  rotate_left
  · simp only [Act.put, List.setIfInBounds_toArray, List.set_cons_zero, List.set_cons_succ, i64_w, i32_w]
    rfl
  refine take_ (i := 21) (N := some 67) (v := ?_) (a' := ?_) #[true, true, true, true, true, true, true, true, true, true, true, true, true, true, true, true, true, true, true, true, true, true, false, false, false, false, false, false, false, false, false, false, false, false, false, false, false, false, false, false, false, false, false, false, false, false, false, false, false, false, false, false, false, false, false, false, false, false, false, false] rfl rfl (take_ofW HT_.out HW_.out (by kernel_rfl)) (fun _ _ _ h => h) (Or.inl ⟨by rfl, ?_⟩) hHeld ?_ ?_
  rotate_left
  · rintro w' ⟨s0, s1, s2, s3, s4, s5, s6, s7, s8, s9, s10, s11, s12, s13⟩
    go_simp
    with_reducible rfl
  rotate_left
  · simp only [Act.put, List.setIfInBounds_toArray, List.set_cons_zero, List.set_cons_succ, i64_w, i32_w]
    rfl
  refine take_ (i := 22) (N := some 68) (v := ?_) (a' := ?_) #[true, true, true, true, true, true, true, true, true, true, true, true, true, true, true, true, true, true, true, true, true, true, true, false, false, false, false, false, false, false, false, false, false, false, false, false, false, false, false, false, false, false, false, false, false, false, false, false, false, false, false, false, false, false, false, false, false, false, false, false] rfl rfl (take_ofW HT_.out HW_.out (by kernel_rfl)) (fun _ _ _ h => h) (Or.inl ⟨by rfl, ?_⟩) hHeld ?_ ?_
  rotate_left
  · rintro w' ⟨s0, s1, s2, s3, s4, s5, s6, s7, s8, s9, s10, s11, s12, s13⟩
    go_simp
    with_reducible rfl
  rotate_left
  · simp only [Act.put, List.setIfInBounds_toArray, List.set_cons_zero, List.set_cons_succ, i64_w, i32_w]
    rfl
  refine take_ (i := 24) (N := some 70) (v := ?_) (a' := ?_) #[true, true, true, true, true, true, true, true, true, true, true, true, true, true, true, true, true, true, true, true, true, true, true, false, true, false, false, false, false, false, false, false, false, false, false, false, false, false, false, false, false, false, false, false, false, false, false, false, false, false, false, false, false, false, false, false, false, false, false, false] rfl rfl (take_ofW HT_.out HW_.out (by kernel_rfl)) (fun _ _ _ h => h) (Or.inl ⟨by rfl, ?_⟩) hHeld ?_ ?_
  rotate_left
  · rintro w' ⟨s0, s1, s2, s3, s4, s5, s6, s7, s8, s9, s10, s11, s12, s13⟩
    go_simp
    with_reducible rfl
  rotate_left
  · simp only [Act.put, List.setIfInBounds_toArray, List.set_cons_zero, List.set_cons_succ, i64_w, i32_w]
    rfl
  refine take_ (i := 26) (N := some 72) (v := ?_) (a' := ?_) #[true, true, true, true, true, true, true, true, true, true, true, true, true, true, true, true, true, true, true, true, true, true, true, false, true, false, true, false, false, false, false, false, false, false, false, false, false, false, false, false, false, false, false, false, false, false, false, false, false, false, false, false, false, false, false, false, false, false, false, false] rfl rfl (take_ofW HT_.out HW_.out (by kernel_rfl)) (fun _ _ _ h => h) (Or.inl ⟨by rfl, ?_⟩) hHeld ?_ ?_
  rotate_left
  · rintro w' ⟨s0, s1, s2, s3, s4, s5, s6, s7, s8, s9, s10, s11, s12, s13⟩
    go_simp
    with_reducible rfl
  rotate_left
  · simp only [Act.put, List.setIfInBounds_toArray, List.set_cons_zero, List.set_cons_succ, i64_w, i32_w]
    rfl
  refine one_ (i := 23) (N := some 69) #[true, true, true, true, true, true, true, true, true, true, true, true, true, true, true, true, true, true, true, true, true, true, true, true, true, false, true, false, false, false, false, false, false, false, false, false, false, false, false, false, false, false, false, false, false, false, false, false, false, false, false, false, false, false, false, false, false, false, false, false] rfl rfl (one_of HT_.out (by kernel_rfl)) (by decide) (fun K hK => ?_)
  refine goes_ Tryd.func21 (by kernel_rfl) rfl #[.agg #[.int .u64 t278, .int .u64 t279, .int .u64 t280, .int .u64 t281, .int .i64 t282], .agg #[.int .u64 t284, .int .u64 t285, .int .u64 t286, .int .u64 t287, .int .i64 t288]] (by rfl) rfl rfl (by (try simp only [List.map_toArray, List.map_cons, List.map_nil]); first | done | rfl | (simp only [List.length_drop, List.length_take]; rfl)) ?_
  with_reducible refine (stamp_Order.calls k t278 t279 t280 t281 t282 t284 t285 t286 t287 t288 t343 _ A26.out).mono ?_
  rintro e w90 ⟨rfl, hb⟩
  refine ⟨_, rfl, ?_⟩
  replace BK274 := Kb_ BK274 hb
  replace BK275 := Kb_ BK275 hb
  replace BK276 := Kb_ BK276 hb
  replace BK283 := Kb_ BK283 hb
  replace BK289 := Kb_ BK289 hb
  replace BK294 := Kb_ BK294 hb
  replace HB := Ks_ HB hb
  (try clear hb)
  (try clear hb2)
  (try clear hk)
  (try clear hi)
  refine hK.out _ _ ⟨(blk_cell BK283.out 0).trans rfl, (blk_cell BK283.out 1).trans rfl, (blk_cell BK283.out 2).trans rfl, (blk_cell BK283.out 3).trans rfl, (blk_cell BK283.out 4).trans rfl, (blk_cell BK289.out 0).trans rfl, (blk_cell BK289.out 1).trans rfl, (blk_cell BK289.out 2).trans rfl, (blk_cell BK289.out 3).trans rfl, (blk_cell BK289.out 4).trans rfl, (blk_cell BK294.out 0).trans rfl, (blk_cell BK294.out 1).trans rfl, (blk_cell BK294.out 2).trans rfl, (blk_cell BK294.out 3).trans rfl⟩ (fun hHeld => ?_)
  clear hK K
  refine norm_ (a' := ?_) ?_ ?_
  rotate_left
  · show Act.put _ (some 69) _ = _
    simp only [Act.put, List.setIfInBounds_toArray, List.set_cons_zero, List.set_cons_succ, i64_w, i32_w]
    rfl
  refine one_ (i := 25) (N := some 71) #[true, true, true, true, true, true, true, true, true, true, true, true, true, true, true, true, true, true, true, true, true, true, true, true, true, true, true, false, false, false, false, false, false, false, false, false, false, false, false, false, false, false, false, false, false, false, false, false, false, false, false, false, false, false, false, false, false, false, false, false] rfl rfl (one_of HT_.out (by kernel_rfl)) (by decide) (fun K hK => ?_)
  refine goes_ Tryd.func14 (by kernel_rfl) rfl #[.agg #[.int .u64 t278, .int .u64 t279, .int .u64 t280, .int .u64 t281, .int .i64 t282]] (by rfl) rfl rfl (by (try simp only [List.map_toArray, List.map_cons, List.map_nil]); first | done | rfl | (simp only [List.length_drop, List.length_take]; rfl)) ?_
  with_reducible refine (tenementlaw07_refStamp.calls t278 t279 t280 t281 t282 t344 t345 t346 t347 t348 _ A27.out).mono ?_
  rintro e w91 ⟨rfl, hb⟩
  refine ⟨_, rfl, ?_⟩
  replace BK274 := Kb_ BK274 hb
  replace BK275 := Kb_ BK275 hb
  replace BK276 := Kb_ BK276 hb
  replace BK283 := Kb_ BK283 hb
  replace BK289 := Kb_ BK289 hb
  replace BK294 := Kb_ BK294 hb
  replace HB := Ks_ HB hb
  (try clear hb)
  (try clear hb2)
  (try clear hk)
  (try clear hi)
  refine hK.out _ _ ⟨(blk_cell BK283.out 0).trans rfl, (blk_cell BK283.out 1).trans rfl, (blk_cell BK283.out 2).trans rfl, (blk_cell BK283.out 3).trans rfl, (blk_cell BK283.out 4).trans rfl, (blk_cell BK289.out 0).trans rfl, (blk_cell BK289.out 1).trans rfl, (blk_cell BK289.out 2).trans rfl, (blk_cell BK289.out 3).trans rfl, (blk_cell BK289.out 4).trans rfl, (blk_cell BK294.out 0).trans rfl, (blk_cell BK294.out 1).trans rfl, (blk_cell BK294.out 2).trans rfl, (blk_cell BK294.out 3).trans rfl⟩ (fun hHeld => ?_)
  clear hK K
  refine norm_ (a' := ?_) ?_ ?_
  rotate_left
  · show Act.put _ (some 71) _ = _
    simp only [Act.put, List.setIfInBounds_toArray, List.set_cons_zero, List.set_cons_succ, i64_w, i32_w]
    rfl
  refine one_ (i := 27) (N := some 73) #[true, true, true, true, true, true, true, true, true, true, true, true, true, true, true, true, true, true, true, true, true, true, true, true, true, true, true, true, false, false, false, false, false, false, false, false, false, false, false, false, false, false, false, false, false, false, false, false, false, false, false, false, false, false, false, false, false, false, false, false] rfl rfl (one_of HT_.out (by kernel_rfl)) (by decide) (fun K hK => ?_)
  refine goes_ Tryd.func14 (by kernel_rfl) rfl #[.agg #[.int .u64 t284, .int .u64 t285, .int .u64 t286, .int .u64 t287, .int .i64 t288]] (by rfl) rfl rfl (by (try simp only [List.map_toArray, List.map_cons, List.map_nil]); first | done | rfl | (simp only [List.length_drop, List.length_take]; rfl)) ?_
  with_reducible refine (tenementlaw07_refStamp.calls t284 t285 t286 t287 t288 t349 t350 t351 t352 t353 _ A28.out).mono ?_
  rintro e w92 ⟨rfl, hb⟩
  refine ⟨_, rfl, ?_⟩
  replace BK274 := Kb_ BK274 hb
  replace BK275 := Kb_ BK275 hb
  replace BK276 := Kb_ BK276 hb
  replace BK283 := Kb_ BK283 hb
  replace BK289 := Kb_ BK289 hb
  replace BK294 := Kb_ BK294 hb
  replace HB := Ks_ HB hb
  (try clear hb)
  (try clear hb2)
  (try clear hk)
  (try clear hi)
  refine hK.out _ _ ⟨(blk_cell BK283.out 0).trans rfl, (blk_cell BK283.out 1).trans rfl, (blk_cell BK283.out 2).trans rfl, (blk_cell BK283.out 3).trans rfl, (blk_cell BK283.out 4).trans rfl, (blk_cell BK289.out 0).trans rfl, (blk_cell BK289.out 1).trans rfl, (blk_cell BK289.out 2).trans rfl, (blk_cell BK289.out 3).trans rfl, (blk_cell BK289.out 4).trans rfl, (blk_cell BK294.out 0).trans rfl, (blk_cell BK294.out 1).trans rfl, (blk_cell BK294.out 2).trans rfl, (blk_cell BK294.out 3).trans rfl⟩ (fun hHeld => ?_)
  clear hK K
  refine norm_ (a' := ?_) ?_ ?_
  rotate_left
  · show Act.put _ (some 73) _ = _
    simp only [Act.put, List.setIfInBounds_toArray, List.set_cons_zero, List.set_cons_succ, i64_w, i32_w]
    rfl
  refine one_ (i := 28) (N := some 74) #[true, true, true, true, true, true, true, true, true, true, true, true, true, true, true, true, true, true, true, true, true, true, true, true, true, true, true, true, true, false, false, false, false, false, false, false, false, false, false, false, false, false, false, false, false, false, false, false, false, false, false, false, false, false, false, false, false, false, false, false] rfl rfl (one_of HT_.out (by kernel_rfl)) (by decide) (fun K hK => ?_)
  refine goes_ Tryd.func22 (by kernel_rfl) rfl #[.agg #[.int .u64 t344, .int .u64 t345, .int .u64 t346, .int .u64 t347, .int .i64 t348], .agg #[.int .u64 t349, .int .u64 t350, .int .u64 t351, .int .u64 t352, .int .i64 t353]] (by rfl) rfl rfl (by (try simp only [List.map_toArray, List.map_cons, List.map_nil]); first | done | rfl | (simp only [List.length_drop, List.length_take]; rfl)) ?_
  with_reducible refine (tenementref07_Order.calls k t344 t345 t346 t347 t348 t349 t350 t351 t352 t353 t354 _ A29.out).mono ?_
  rintro e w93 ⟨rfl, hb⟩
  refine ⟨_, rfl, ?_⟩
  replace BK274 := Kb_ BK274 hb
  replace BK275 := Kb_ BK275 hb
  replace BK276 := Kb_ BK276 hb
  replace BK283 := Kb_ BK283 hb
  replace BK289 := Kb_ BK289 hb
  replace BK294 := Kb_ BK294 hb
  replace HB := Ks_ HB hb
  (try clear hb)
  (try clear hb2)
  (try clear hk)
  (try clear hi)
  refine hK.out _ _ ⟨(blk_cell BK283.out 0).trans rfl, (blk_cell BK283.out 1).trans rfl, (blk_cell BK283.out 2).trans rfl, (blk_cell BK283.out 3).trans rfl, (blk_cell BK283.out 4).trans rfl, (blk_cell BK289.out 0).trans rfl, (blk_cell BK289.out 1).trans rfl, (blk_cell BK289.out 2).trans rfl, (blk_cell BK289.out 3).trans rfl, (blk_cell BK289.out 4).trans rfl, (blk_cell BK294.out 0).trans rfl, (blk_cell BK294.out 1).trans rfl, (blk_cell BK294.out 2).trans rfl, (blk_cell BK294.out 3).trans rfl⟩ (fun hHeld => ?_)
  clear hK K
  refine norm_ (a' := ?_) ?_ ?_
  rotate_left
  · show Act.put _ (some 74) _ = _
    simp only [Act.put, List.setIfInBounds_toArray, List.set_cons_zero, List.set_cons_succ, i64_w, i32_w]
    rfl
  refine pure_ (i := 29) (N := some 75) (v := ?_) (a' := ?_) #[true, true, true, true, true, true, true, true, true, true, true, true, true, true, true, true, true, true, true, true, true, true, true, true, true, true, true, true, true, true, false, false, false, false, false, false, false, false, false, false, false, false, false, false, false, false, false, false, false, false, false, false, false, false, false, false, false, false, false, false] rfl rfl (any_of HT_.out (by kernel_rfl)) (fun _ _ _ h => h) (Or.inl ⟨by rfl, ?_⟩) ?_ ?_
  rotate_left
  · intro w'
    go_simp
    with_reducible rfl
  rotate_left
  · simp only [Act.put, List.setIfInBounds_toArray, List.set_cons_zero, List.set_cons_succ, i64_w, i32_w]
    rfl
  refine pure_ (i := 30) (N := some 76) (v := ?_) (a' := ?_) #[true, true, true, true, true, true, true, true, true, true, true, true, true, true, true, true, true, true, true, true, true, true, true, true, true, true, true, true, true, true, true, false, false, false, false, false, false, false, false, false, false, false, false, false, false, false, false, false, false, false, false, false, false, false, false, false, false, false, false, false] rfl rfl (any_of HT_.out (by kernel_rfl)) (fun _ _ _ h => h) (Or.inl ⟨by rfl, ?_⟩) ?_ ?_
  rotate_left
  · intro w'
    go_simp
    with_reducible rfl
  rotate_left
  · simp only [Act.put, List.setIfInBounds_toArray, List.set_cons_zero, List.set_cons_succ, i64_w, i32_w]
    rfl
  refine pure_ (i := 31) (N := some 77) (v := ?_) (a' := ?_) #[true, true, true, true, true, true, true, true, true, true, true, true, true, true, true, true, true, true, true, true, true, true, true, true, true, true, true, true, true, true, true, true, false, false, false, false, false, false, false, false, false, false, false, false, false, false, false, false, false, false, false, false, false, false, false, false, false, false, false, false] rfl rfl (any_of HT_.out (by kernel_rfl)) (fun _ _ _ h => h) (Or.inl ⟨by rfl, ?_⟩) ?_ ?_
  rotate_left
  · intro w'
    go_simp
    with_reducible rfl
  rotate_left
  · simp only [Act.put, List.setIfInBounds_toArray, List.set_cons_zero, List.set_cons_succ, i64_w, i32_w]
    rfl
  refine take_ (i := 32) (N := some 78) (v := ?_) (a' := ?_) #[true, true, true, true, true, true, true, true, true, true, true, true, true, true, true, true, true, true, true, true, true, true, true, true, true, true, true, true, true, true, true, true, true, false, false, false, false, false, false, false, false, false, false, false, false, false, false, false, false, false, false, false, false, false, false, false, false, false, false, false] rfl rfl (take_ofW HT_.out HW_.out (by kernel_rfl)) (fun _ _ _ h => h) (Or.inl ⟨by rfl, ?_⟩) hHeld ?_ ?_
  rotate_left
  · rintro w' ⟨s0, s1, s2, s3, s4, s5, s6, s7, s8, s9, s10, s11, s12, s13⟩
    go_simp
    with_reducible rfl
  rotate_left
  · simp only [Act.put, List.setIfInBounds_toArray, List.set_cons_zero, List.set_cons_succ, i64_w, i32_w]
    rfl
  refine take_ (i := 33) (N := some 79) (v := ?_) (a' := ?_) #[true, true, true, true, true, true, true, true, true, true, true, true, true, true, true, true, true, true, true, true, true, true, true, true, true, true, true, true, true, true, true, true, true, true, false, false, false, false, false, false, false, false, false, false, false, false, false, false, false, false, false, false, false, false, false, false, false, false, false, false] rfl rfl (take_ofW HT_.out HW_.out (by kernel_rfl)) (fun _ _ _ h => h) (Or.inl ⟨by rfl, ?_⟩) hHeld ?_ ?_
  rotate_left
  · rintro w' ⟨s0, s1, s2, s3, s4, s5, s6, s7, s8, s9, s10, s11, s12, s13⟩
    go_simp
    with_reducible rfl
  rotate_left
  · simp only [Act.put, List.setIfInBounds_toArray, List.set_cons_zero, List.set_cons_succ, i64_w, i32_w]
    rfl
  refine take_ (i := 35) (N := some 81) (v := ?_) (a' := ?_) #[true, true, true, true, true, true, true, true, true, true, true, true, true, true, true, true, true, true, true, true, true, true, true, true, true, true, true, true, true, true, true, true, true, true, false, true, false, false, false, false, false, false, false, false, false, false, false, false, false, false, false, false, false, false, false, false, false, false, false, false] rfl rfl (take_ofW HT_.out HW_.out (by kernel_rfl)) (fun _ _ _ h => h) (Or.inl ⟨by rfl, ?_⟩) hHeld ?_ ?_
  rotate_left
  · rintro w' ⟨s0, s1, s2, s3, s4, s5, s6, s7, s8, s9, s10, s11, s12, s13⟩
    go_simp
    with_reducible rfl
  rotate_left
  · simp only [Act.put, List.setIfInBounds_toArray, List.set_cons_zero, List.set_cons_succ, i64_w, i32_w]
    rfl
  refine take_ (i := 37) (N := some 83) (v := ?_) (a' := ?_) #[true, true, true, true, true, true, true, true, true, true, true, true, true, true, true, true, true, true, true, true, true, true, true, true, true, true, true, true, true, true, true, true, true, true, false, true, false, true, false, false, false, false, false, false, false, false, false, false, false, false, false, false, false, false, false, false, false, false, false, false] rfl rfl (take_ofW HT_.out HW_.out (by kernel_rfl)) (fun _ _ _ h => h) (Or.inl ⟨by rfl, ?_⟩) hHeld ?_ ?_
  rotate_left
  · rintro w' ⟨s0, s1, s2, s3, s4, s5, s6, s7, s8, s9, s10, s11, s12, s13⟩
    go_simp
    with_reducible rfl
  rotate_left
  · simp only [Act.put, List.setIfInBounds_toArray, List.set_cons_zero, List.set_cons_succ, i64_w, i32_w]
    rfl
  refine one_ (i := 34) (N := some 80) #[true, true, true, true, true, true, true, true, true, true, true, true, true, true, true, true, true, true, true, true, true, true, true, true, true, true, true, true, true, true, true, true, true, true, true, true, false, true, false, false, false, false, false, false, false, false, false, false, false, false, false, false, false, false, false, false, false, false, false, false] rfl rfl (one_of HT_.out (by kernel_rfl)) (by decide) (fun K hK => ?_)
  refine goes_ Tryd.func23 (by kernel_rfl) rfl #[.agg #[.int .u64 t278, .int .u64 t279, .int .u64 t280, .int .u64 t281, .int .i64 t282], .agg #[.int .u64 t290, .int .u64 t291, .int .u64 t292, .int .u64 t293]] (by rfl) rfl rfl (by (try simp only [List.map_toArray, List.map_cons, List.map_nil]); first | done | rfl | (simp only [List.length_drop, List.length_take]; rfl)) ?_
  with_reducible refine (stamp_Seen.calls t278 t279 t280 t281 t282 t290 t291 t292 t293 t355 _ A31.out).mono ?_
  rintro e w94 ⟨rfl, hb⟩
  refine ⟨_, rfl, ?_⟩
  replace BK274 := Kb_ BK274 hb
  replace BK275 := Kb_ BK275 hb
  replace BK276 := Kb_ BK276 hb
  replace BK283 := Kb_ BK283 hb
  replace BK289 := Kb_ BK289 hb
  replace BK294 := Kb_ BK294 hb
  replace HB := Ks_ HB hb
  (try clear hb)
  (try clear hb2)
  (try clear hk)
  (try clear hi)
  refine hK.out _ _ ⟨(blk_cell BK283.out 0).trans rfl, (blk_cell BK283.out 1).trans rfl, (blk_cell BK283.out 2).trans rfl, (blk_cell BK283.out 3).trans rfl, (blk_cell BK283.out 4).trans rfl, (blk_cell BK289.out 0).trans rfl, (blk_cell BK289.out 1).trans rfl, (blk_cell BK289.out 2).trans rfl, (blk_cell BK289.out 3).trans rfl, (blk_cell BK289.out 4).trans rfl, (blk_cell BK294.out 0).trans rfl, (blk_cell BK294.out 1).trans rfl, (blk_cell BK294.out 2).trans rfl, (blk_cell BK294.out 3).trans rfl⟩ (fun hHeld => ?_)
  clear hK K
  refine norm_ (a' := ?_) ?_ ?_
  rotate_left
  · show Act.put _ (some 80) _ = _
    simp only [Act.put, List.setIfInBounds_toArray, List.set_cons_zero, List.set_cons_succ, i64_w, i32_w]
    rfl
  refine one_ (i := 36) (N := some 82) #[true, true, true, true, true, true, true, true, true, true, true, true, true, true, true, true, true, true, true, true, true, true, true, true, true, true, true, true, true, true, true, true, true, true, true, true, true, true, false, false, false, false, false, false, false, false, false, false, false, false, false, false, false, false, false, false, false, false, false, false] rfl rfl (one_of HT_.out (by kernel_rfl)) (by decide) (fun K hK => ?_)
  refine goes_ Tryd.func14 (by kernel_rfl) rfl #[.agg #[.int .u64 t278, .int .u64 t279, .int .u64 t280, .int .u64 t281, .int .i64 t282]] (by rfl) rfl rfl (by (try simp only [List.map_toArray, List.map_cons, List.map_nil]); first | done | rfl | (simp only [List.length_drop, List.length_take]; rfl)) ?_
  with_reducible refine (tenementlaw07_refStamp.calls t278 t279 t280 t281 t282 t356 t357 t358 t359 t360 _ A32.out).mono ?_
  rintro e w95 ⟨rfl, hb⟩
  refine ⟨_, rfl, ?_⟩
  replace BK274 := Kb_ BK274 hb
  replace BK275 := Kb_ BK275 hb
  replace BK276 := Kb_ BK276 hb
  replace BK283 := Kb_ BK283 hb
  replace BK289 := Kb_ BK289 hb
  replace BK294 := Kb_ BK294 hb
  replace HB := Ks_ HB hb
  (try clear hb)
  (try clear hb2)
  (try clear hk)
  (try clear hi)
  refine hK.out _ _ ⟨(blk_cell BK283.out 0).trans rfl, (blk_cell BK283.out 1).trans rfl, (blk_cell BK283.out 2).trans rfl, (blk_cell BK283.out 3).trans rfl, (blk_cell BK283.out 4).trans rfl, (blk_cell BK289.out 0).trans rfl, (blk_cell BK289.out 1).trans rfl, (blk_cell BK289.out 2).trans rfl, (blk_cell BK289.out 3).trans rfl, (blk_cell BK289.out 4).trans rfl, (blk_cell BK294.out 0).trans rfl, (blk_cell BK294.out 1).trans rfl, (blk_cell BK294.out 2).trans rfl, (blk_cell BK294.out 3).trans rfl⟩ (fun hHeld => ?_)
  clear hK K
  refine norm_ (a' := ?_) ?_ ?_
  rotate_left
  · show Act.put _ (some 82) _ = _
    simp only [Act.put, List.setIfInBounds_toArray, List.set_cons_zero, List.set_cons_succ, i64_w, i32_w]
    rfl
  refine one_ (i := 38) (N := some 84) #[true, true, true, true, true, true, true, true, true, true, true, true, true, true, true, true, true, true, true, true, true, true, true, true, true, true, true, true, true, true, true, true, true, true, true, true, true, true, true, false, false, false, false, false, false, false, false, false, false, false, false, false, false, false, false, false, false, false, false, false] rfl rfl (one_of HT_.out (by kernel_rfl)) (by decide) (fun K hK => ?_)
  refine goes_ Tryd.func24 (by kernel_rfl) rfl #[.agg #[.int .u64 t356, .int .u64 t357, .int .u64 t358, .int .u64 t359, .int .i64 t360], .agg #[.int .u64 t290, .int .u64 t291, .int .u64 t292, .int .u64 t293]] (by rfl) rfl rfl (by (try simp only [List.map_toArray, List.map_cons, List.map_nil]); first | done | rfl | (simp only [List.length_drop, List.length_take]; rfl)) ?_
  with_reducible refine (tenementref07_Seen.calls k t356 t357 t358 t359 t360 t290 t291 t292 t293 t355 _ A33.out).mono ?_
  rintro e w96 ⟨rfl, hb⟩
  refine ⟨_, rfl, ?_⟩
  replace BK274 := Kb_ BK274 hb
  replace BK275 := Kb_ BK275 hb
  replace BK276 := Kb_ BK276 hb
  replace BK283 := Kb_ BK283 hb
  replace BK289 := Kb_ BK289 hb
  replace BK294 := Kb_ BK294 hb
  replace HB := Ks_ HB hb
  (try clear hb)
  (try clear hb2)
  (try clear hk)
  (try clear hi)
  refine hK.out _ _ ⟨(blk_cell BK283.out 0).trans rfl, (blk_cell BK283.out 1).trans rfl, (blk_cell BK283.out 2).trans rfl, (blk_cell BK283.out 3).trans rfl, (blk_cell BK283.out 4).trans rfl, (blk_cell BK289.out 0).trans rfl, (blk_cell BK289.out 1).trans rfl, (blk_cell BK289.out 2).trans rfl, (blk_cell BK289.out 3).trans rfl, (blk_cell BK289.out 4).trans rfl, (blk_cell BK294.out 0).trans rfl, (blk_cell BK294.out 1).trans rfl, (blk_cell BK294.out 2).trans rfl, (blk_cell BK294.out 3).trans rfl⟩ (fun hHeld => ?_)
  clear hK K
  refine norm_ (a' := ?_) ?_ ?_
  rotate_left
  · show Act.put _ (some 84) _ = _
    simp only [Act.put, List.setIfInBounds_toArray, List.set_cons_zero, List.set_cons_succ, i64_w, i32_w]
    rfl
  refine pure_ (i := 39) (N := some 85) (v := ?_) (a' := ?_) #[true, true, true, true, true, true, true, true, true, true, true, true, true, true, true, true, true, true, true, true, true, true, true, true, true, true, true, true, true, true, true, true, true, true, true, true, true, true, true, true, false, false, false, false, false, false, false, false, false, false, false, false, false, false, false, false, false, false, false, false] rfl rfl (any_of HT_.out (by kernel_rfl)) (fun _ _ _ h => h) (Or.inl ⟨by rfl, ?_⟩) ?_ ?_
  rotate_left
  · intro w'
    go_simp
    with_reducible rfl
  rotate_left
  · simp only [Act.put, List.setIfInBounds_toArray, List.set_cons_zero, List.set_cons_succ, i64_w, i32_w]
    rfl
  refine pure_ (i := 40) (N := some 86) (v := ?_) (a' := ?_) #[true, true, true, true, true, true, true, true, true, true, true, true, true, true, true, true, true, true, true, true, true, true, true, true, true, true, true, true, true, true, true, true, true, true, true, true, true, true, true, true, true, false, false, false, false, false, false, false, false, false, false, false, false, false, false, false, false, false, false, false] rfl rfl (any_of HT_.out (by kernel_rfl)) (fun _ _ _ h => h) (Or.inl ⟨by rfl, ?_⟩) ?_ ?_
  rotate_left
  · intro w'
    go_simp
    with_reducible rfl
  rotate_left
  · simp only [Act.put, List.setIfInBounds_toArray, List.set_cons_zero, List.set_cons_succ, i64_w, i32_w]
    rfl
  refine pure_ (i := 41) (N := some 87) (v := ?_) (a' := ?_) #[true, true, true, true, true, true, true, true, true, true, true, true, true, true, true, true, true, true, true, true, true, true, true, true, true, true, true, true, true, true, true, true, true, true, true, true, true, true, true, true, true, true, false, false, false, false, false, false, false, false, false, false, false, false, false, false, false, false, false, false] rfl rfl (any_of HT_.out (by kernel_rfl)) (fun _ _ _ h => h) (Or.inl ⟨by rfl, ?_⟩) ?_ ?_
  rotate_left
  · intro w'
    go_simp
    with_reducible rfl
  rotate_left
  · simp only [Act.put, List.setIfInBounds_toArray, List.set_cons_zero, List.set_cons_succ, i64_w, i32_w]
    rfl
  refine pure_ (i := 42) (N := some 88) (v := ?_) (a' := ?_) #[true, true, true, true, true, true, true, true, true, true, true, true, true, true, true, true, true, true, true, true, true, true, true, true, true, true, true, true, true, true, true, true, true, true, true, true, true, true, true, true, true, true, true, false, false, false, false, false, false, false, false, false, false, false, false, false, false, false, false, false] rfl rfl (any_of HT_.out (by kernel_rfl)) (fun _ _ _ h => h) (Or.inl ⟨by rfl, ?_⟩) ?_ ?_
  rotate_left
  · intro w'
    go_simp
    with_reducible rfl
  rotate_left
  · simp only [Act.put, List.setIfInBounds_toArray, List.set_cons_zero, List.set_cons_succ, i64_w, i32_w]
    rfl
  refine pure_ (i := 43) (N := some 89) (v := ?_) (a' := ?_) #[true, true, true, true, true, true, true, true, true, true, true, true, true, true, true, true, true, true, true, true, true, true, true, true, true, true, true, true, true, true, true, true, true, true, true, true, true, true, true, true, true, true, true, true, false, false, false, false, false, false, false, false, false, false, false, false, false, false, false, false] rfl rfl (any_of HT_.out (by kernel_rfl)) (fun _ _ _ h => h) (Or.inl ⟨by rfl, ?_⟩) ?_ ?_
  rotate_left
  · intro w'
    go_simp
    with_reducible rfl
  rotate_left
  · simp only [Act.put, List.setIfInBounds_toArray, List.set_cons_zero, List.set_cons_succ, i64_w, i32_w]
    rfl
  refine pure_ (i := 44) (N := some 90) (v := ?_) (a' := ?_) #[true, true, true, true, true, true, true, true, true, true, true, true, true, true, true, true, true, true, true, true, true, true, true, true, true, true, true, true, true, true, true, true, true, true, true, true, true, true, true, true, true, true, true, true, true, false, false, false, false, false, false, false, false, false, false, false, false, false, false, false] rfl rfl (any_of HT_.out (by kernel_rfl)) (fun _ _ _ h => h) (Or.inl ⟨by rfl, ?_⟩) ?_ ?_
  rotate_left
  · intro w'
    go_simp
    with_reducible rfl
  rotate_left
  · simp only [Act.put, List.setIfInBounds_toArray, List.set_cons_zero, List.set_cons_succ, i64_w, i32_w]
    rfl
  refine pure_ (i := 45) (N := some 91) (v := ?_) (a' := ?_) #[true, true, true, true, true, true, true, true, true, true, true, true, true, true, true, true, true, true, true, true, true, true, true, true, true, true, true, true, true, true, true, true, true, true, true, true, true, true, true, true, true, true, true, true, true, true, false, false, false, false, false, false, false, false, false, false, false, false, false, false] rfl rfl (any_of HT_.out (by kernel_rfl)) (fun _ _ _ h => h) (Or.inl ⟨by rfl, ?_⟩) ?_ ?_
  rotate_left
  · intro w'
    go_simp
    with_reducible rfl
  rotate_left
  · simp only [Act.put, List.setIfInBounds_toArray, List.set_cons_zero, List.set_cons_succ, i64_w, i32_w]
    rfl
  refine pure_ (i := 46) (N := some 92) (v := ?_) (a' := ?_) #[true, true, true, true, true, true, true, true, true, true, true, true, true, true, true, true, true, true, true, true, true, true, true, true, true, true, true, true, true, true, true, true, true, true, true, true, true, true, true, true, true, true, true, true, true, true, true, false, false, false, false, false, false, false, false, false, false, false, false, false] rfl rfl (any_of HT_.out (by kernel_rfl)) (fun _ _ _ h => h) (Or.inl ⟨by rfl, ?_⟩) ?_ ?_
  rotate_left
  · intro w'
    go_simp
    with_reducible rfl
  rotate_left
  · simp only [Act.put, List.setIfInBounds_toArray, List.set_cons_zero, List.set_cons_succ, i64_w, i32_w]
    rfl
  refine pure_ (i := 47) (N := some 93) (v := ?_) (a' := ?_) #[true, true, true, true, true, true, true, true, true, true, true, true, true, true, true, true, true, true, true, true, true, true, true, true, true, true, true, true, true, true, true, true, true, true, true, true, true, true, true, true, true, true, true, true, true, true, true, true, false, false, false, false, false, false, false, false, false, false, false, false] rfl rfl (any_of HT_.out (by kernel_rfl)) (fun _ _ _ h => h) (Or.inl ⟨by rfl, ?_⟩) ?_ ?_
  rotate_left
  · intro w'
    go_simp
    with_reducible rfl
  rotate_left
  · simp only [Act.put, List.setIfInBounds_toArray, List.set_cons_zero, List.set_cons_succ, i64_w, i32_w]
    rfl
  refine pure_ (i := 48) (N := some 94) (v := ?_) (a' := ?_) #[true, true, true, true, true, true, true, true, true, true, true, true, true, true, true, true, true, true, true, true, true, true, true, true, true, true, true, true, true, true, true, true, true, true, true, true, true, true, true, true, true, true, true, true, true, true, true, true, true, false, false, false, false, false, false, false, false, false, false, false] rfl rfl (any_of HT_.out (by kernel_rfl)) (fun _ _ _ h => h) (Or.inl ⟨by rfl, ?_⟩) ?_ ?_
  rotate_left
  · intro w'
    go_simp
    with_reducible rfl
  rotate_left
  · simp only [Act.put, List.setIfInBounds_toArray, List.set_cons_zero, List.set_cons_succ, i64_w, i32_w]
    rfl
  refine pure_ (i := 49) (N := some 95) (v := ?_) (a' := ?_) #[true, true, true, true, true, true, true, true, true, true, true, true, true, true, true, true, true, true, true, true, true, true, true, true, true, true, true, true, true, true, true, true, true, true, true, true, true, true, true, true, true, true, true, true, true, true, true, true, true, true, false, false, false, false, false, false, false, false, false, false] rfl rfl (any_of HT_.out (by kernel_rfl)) (fun _ _ _ h => h) (Or.inl ⟨by rfl, ?_⟩) ?_ ?_
  rotate_left
  · intro w'
    go_simp
    with_reducible rfl
  rotate_left
  · simp only [Act.put, List.setIfInBounds_toArray, List.set_cons_zero, List.set_cons_succ, i64_w, i32_w]
    rfl
  refine pure_ (i := 50) (N := some 96) (v := ?_) (a' := ?_) #[true, true, true, true, true, true, true, true, true, true, true, true, true, true, true, true, true, true, true, true, true, true, true, true, true, true, true, true, true, true, true, true, true, true, true, true, true, true, true, true, true, true, true, true, true, true, true, true, true, true, true, false, false, false, false, false, false, false, false, false] rfl rfl (any_of HT_.out (by kernel_rfl)) (fun _ _ _ h => h) (Or.inl ⟨by rfl, ?_⟩) ?_ ?_
  rotate_left
  · intro w'
    go_simp
    with_reducible rfl
  rotate_left
  · simp only [Act.put, List.setIfInBounds_toArray, List.set_cons_zero, List.set_cons_succ, i64_w, i32_w]
    rfl
  refine pure_ (i := 51) (N := some 97) (v := ?_) (a' := ?_) #[true, true, true, true, true, true, true, true, true, true, true, true, true, true, true, true, true, true, true, true, true, true, true, true, true, true, true, true, true, true, true, true, true, true, true, true, true, true, true, true, true, true, true, true, true, true, true, true, true, true, true, true, false, false, false, false, false, false, false, false] rfl rfl (any_of HT_.out (by kernel_rfl)) (fun _ _ _ h => h) (Or.inl ⟨by rfl, ?_⟩) ?_ ?_
  rotate_left
  · intro w'
    go_simp
    with_reducible rfl
  rotate_left
  · simp only [Act.put, List.setIfInBounds_toArray, List.set_cons_zero, List.set_cons_succ, i64_w, i32_w]
    rfl
  refine take_ (i := 52) (N := some 98) (v := ?_) (a' := ?_) #[true, true, true, true, true, true, true, true, true, true, true, true, true, true, true, true, true, true, true, true, true, true, true, true, true, true, true, true, true, true, true, true, true, true, true, true, true, true, true, true, true, true, true, true, true, true, true, true, true, true, true, true, true, false, false, false, false, false, false, false] rfl rfl (take_ofW HT_.out HW_.out (by kernel_rfl)) (fun _ _ _ h => h) (Or.inl ⟨by rfl, ?_⟩) hHeld ?_ ?_
  rotate_left
  · rintro w' ⟨s0, s1, s2, s3, s4, s5, s6, s7, s8, s9, s10, s11, s12, s13⟩
    go_simp
    with_reducible rfl
  rotate_left
  · simp only [Act.put, List.setIfInBounds_toArray, List.set_cons_zero, List.set_cons_succ, i64_w, i32_w]
    rfl
  refine take_ (i := 54) (N := some 100) (v := ?_) (a' := ?_) #[true, true, true, true, true, true, true, true, true, true, true, true, true, true, true, true, true, true, true, true, true, true, true, true, true, true, true, true, true, true, true, true, true, true, true, true, true, true, true, true, true, true, true, true, true, true, true, true, true, true, true, true, true, false, true, false, false, false, false, false] rfl rfl (take_ofW HT_.out HW_.out (by kernel_rfl)) (fun _ _ _ h => h) (Or.inl ⟨by rfl, ?_⟩) hHeld ?_ ?_
  rotate_left
  · rintro w' ⟨s0, s1, s2, s3, s4, s5, s6, s7, s8, s9, s10, s11, s12, s13⟩
    go_simp
    with_reducible rfl
  rotate_left
  · simp only [Act.put, List.setIfInBounds_toArray, List.set_cons_zero, List.set_cons_succ, i64_w, i32_w]
    rfl
  refine one_ (i := 53) (N := some 99) #[true, true, true, true, true, true, true, true, true, true, true, true, true, true, true, true, true, true, true, true, true, true, true, true, true, true, true, true, true, true, true, true, true, true, true, true, true, true, true, true, true, true, true, true, true, true, true, true, true, true, true, true, true, true, true, false, false, false, false, false] rfl rfl (one_of HT_.out (by kernel_rfl)) (by decide) (fun K hK => ?_)
  refine goes_ Tryd.func25 (by kernel_rfl) rfl #[.agg #[.int .u64 t278, .int .u64 t279, .int .u64 t280, .int .u64 t281, .int .i64 t282]] (by rfl) rfl rfl (by (try simp only [List.map_toArray, List.map_cons, List.map_nil]); first | done | rfl | (simp only [List.length_drop, List.length_take]; rfl)) ?_
  refine (BigStamp.callsT w HT _ (by repeat (first | (with_reducible first | exact HB.out | apply below_alloc | apply pw_below_drewN | apply below_drew1 | refine below_set ?_ GE274.out | refine below_set ?_ GE275.out | refine below_set ?_ GE276.out | refine below_set ?_ GE283.out | refine below_set ?_ GE289.out | refine below_set ?_ GE294.out) | exact HB.out)) t278 t279 t280 t281 t282 t362 A37.out).mono ?_
  rintro e w97 ⟨rfl, hb⟩
  refine ⟨_, rfl, ?_⟩
  replace BK274 := Kb_ BK274 hb
  replace BK275 := Kb_ BK275 hb
  replace BK276 := Kb_ BK276 hb
  replace BK283 := Kb_ BK283 hb
  replace BK289 := Kb_ BK289 hb
  replace BK294 := Kb_ BK294 hb
  replace HB := Ks_ HB hb
  (try clear hb)
  (try clear hb2)
  (try clear hk)
  (try clear hi)
  refine hK.out _ _ ⟨(blk_cell BK283.out 0).trans rfl, (blk_cell BK283.out 1).trans rfl, (blk_cell BK283.out 2).trans rfl, (blk_cell BK283.out 3).trans rfl, (blk_cell BK283.out 4).trans rfl, (blk_cell BK289.out 0).trans rfl, (blk_cell BK289.out 1).trans rfl, (blk_cell BK289.out 2).trans rfl, (blk_cell BK289.out 3).trans rfl, (blk_cell BK289.out 4).trans rfl, (blk_cell BK294.out 0).trans rfl, (blk_cell BK294.out 1).trans rfl, (blk_cell BK294.out 2).trans rfl, (blk_cell BK294.out 3).trans rfl⟩ (fun hHeld => ?_)
  clear hK K
  refine norm_ (a' := ?_) ?_ ?_
  rotate_left
  · show Act.put _ (some 99) _ = _
    simp only [Act.put, List.setIfInBounds_toArray, List.set_cons_zero, List.set_cons_succ, i64_w, i32_w]
    rfl
  refine one_ (i := 55) (N := some 101) #[true, true, true, true, true, true, true, true, true, true, true, true, true, true, true, true, true, true, true, true, true, true, true, true, true, true, true, true, true, true, true, true, true, true, true, true, true, true, true, true, true, true, true, true, true, true, true, true, true, true, true, true, true, true, true, true, false, false, false, false] rfl rfl (one_of HT_.out (by kernel_rfl)) (by decide) (fun K hK => ?_)
  refine goes_ Tryd.func14 (by kernel_rfl) rfl #[.agg #[.int .u64 t278, .int .u64 t279, .int .u64 t280, .int .u64 t281, .int .i64 t282]] (by rfl) rfl rfl (by (try simp only [List.map_toArray, List.map_cons, List.map_nil]); first | done | rfl | (simp only [List.length_drop, List.length_take]; rfl)) ?_
  with_reducible refine (tenementlaw07_refStamp.calls t278 t279 t280 t281 t282 t363 t364 t365 t366 t367 _ A38.out).mono ?_
  rintro e w98 ⟨rfl, hb⟩
  refine ⟨_, rfl, ?_⟩
  replace BK274 := Kb_ BK274 hb
  replace BK275 := Kb_ BK275 hb
  replace BK276 := Kb_ BK276 hb
  replace BK283 := Kb_ BK283 hb
  replace BK289 := Kb_ BK289 hb
  replace BK294 := Kb_ BK294 hb
  replace HB := Ks_ HB hb
  (try clear hb)
  (try clear hb2)
  (try clear hk)
  (try clear hi)
  refine hK.out _ _ ⟨(blk_cell BK283.out 0).trans rfl, (blk_cell BK283.out 1).trans rfl, (blk_cell BK283.out 2).trans rfl, (blk_cell BK283.out 3).trans rfl, (blk_cell BK283.out 4).trans rfl, (blk_cell BK289.out 0).trans rfl, (blk_cell BK289.out 1).trans rfl, (blk_cell BK289.out 2).trans rfl, (blk_cell BK289.out 3).trans rfl, (blk_cell BK289.out 4).trans rfl, (blk_cell BK294.out 0).trans rfl, (blk_cell BK294.out 1).trans rfl, (blk_cell BK294.out 2).trans rfl, (blk_cell BK294.out 3).trans rfl⟩ (fun hHeld => ?_)
  clear hK K
  refine norm_ (a' := ?_) ?_ ?_
  rotate_left
  · show Act.put _ (some 101) _ = _
    simp only [Act.put, List.setIfInBounds_toArray, List.set_cons_zero, List.set_cons_succ, i64_w, i32_w]
    rfl
  refine one_ (i := 56) (N := some 102) #[true, true, true, true, true, true, true, true, true, true, true, true, true, true, true, true, true, true, true, true, true, true, true, true, true, true, true, true, true, true, true, true, true, true, true, true, true, true, true, true, true, true, true, true, true, true, true, true, true, true, true, true, true, true, true, true, true, false, false, false] rfl rfl (one_of HT_.out (by kernel_rfl)) (by decide) (fun K hK => ?_)
  refine goes_ Tryd.func26 (by kernel_rfl) rfl #[.agg #[.int .u64 t363, .int .u64 t364, .int .u64 t365, .int .u64 t366, .int .i64 t367]] (by rfl) rfl rfl (by (try simp only [List.map_toArray, List.map_cons, List.map_nil]); first | done | rfl | (simp only [List.length_drop, List.length_take]; rfl)) ?_
  with_reducible refine (tenementref07_Text.calls k t363 t364 t365 t366 t367 t368 _ A39.out).mono ?_
  rintro e w99 ⟨rfl, hb⟩
  refine ⟨_, rfl, ?_⟩
  replace BK274 := Kb_ BK274 hb
  replace BK275 := Kb_ BK275 hb
  replace BK276 := Kb_ BK276 hb
  replace BK283 := Kb_ BK283 hb
  replace BK289 := Kb_ BK289 hb
  replace BK294 := Kb_ BK294 hb
  replace HB := Ks_ HB hb
  (try clear hb)
  (try clear hb2)
  (try clear hk)
  (try clear hi)
  refine hK.out _ _ ⟨(blk_cell BK283.out 0).trans rfl, (blk_cell BK283.out 1).trans rfl, (blk_cell BK283.out 2).trans rfl, (blk_cell BK283.out 3).trans rfl, (blk_cell BK283.out 4).trans rfl, (blk_cell BK289.out 0).trans rfl, (blk_cell BK289.out 1).trans rfl, (blk_cell BK289.out 2).trans rfl, (blk_cell BK289.out 3).trans rfl, (blk_cell BK289.out 4).trans rfl, (blk_cell BK294.out 0).trans rfl, (blk_cell BK294.out 1).trans rfl, (blk_cell BK294.out 2).trans rfl, (blk_cell BK294.out 3).trans rfl⟩ (fun hHeld => ?_)
  clear hK K
  refine norm_ (a' := ?_) ?_ ?_
  rotate_left
  · show Act.put _ (some 102) _ = _
    simp only [Act.put, List.setIfInBounds_toArray, List.set_cons_zero, List.set_cons_succ, i64_w, i32_w]
    rfl
  refine pure_ (i := 57) (N := some 103) (v := ?_) (a' := ?_) #[true, true, true, true, true, true, true, true, true, true, true, true, true, true, true, true, true, true, true, true, true, true, true, true, true, true, true, true, true, true, true, true, true, true, true, true, true, true, true, true, true, true, true, true, true, true, true, true, true, true, true, true, true, true, true, true, true, true, false, false] rfl rfl (any_of HT_.out (by kernel_rfl)) (fun _ _ _ h => h) (Or.inl ⟨by rfl, ?_⟩) ?_ ?_
  rotate_left
  · intro w'
    go_simp
    with_reducible rfl
  rotate_left
  · simp only [Act.put, List.setIfInBounds_toArray, List.set_cons_zero, List.set_cons_succ, i64_w, i32_w]
    rfl
  refine pure_ (i := 58) (N := some 104) (v := ?_) (a' := ?_) #[true, true, true, true, true, true, true, true, true, true, true, true, true, true, true, true, true, true, true, true, true, true, true, true, true, true, true, true, true, true, true, true, true, true, true, true, true, true, true, true, true, true, true, true, true, true, true, true, true, true, true, true, true, true, true, true, true, true, true, false] rfl rfl (any_of HT_.out (by kernel_rfl)) (fun _ _ _ h => h) (Or.inl ⟨by rfl, ?_⟩) ?_ ?_
  rotate_left
  · intro w'
    go_simp
    with_reducible rfl
  rotate_left
  · simp only [Act.put, List.setIfInBounds_toArray, List.set_cons_zero, List.set_cons_succ, i64_w, i32_w]
    rfl
  refine pure_ (i := 59) (N := some 6) (v := ?_) (a' := ?_) #[true, true, true, true, true, true, true, true, true, true, true, true, true, true, true, true, true, true, true, true, true, true, true, true, true, true, true, true, true, true, true, true, true, true, true, true, true, true, true, true, true, true, true, true, true, true, true, true, true, true, true, true, true, true, true, true, true, true, true, true] rfl rfl (any_of HT_.out (by kernel_rfl)) (fun _ _ _ h => h) (Or.inl ⟨by rfl, ?_⟩) ?_ ?_
  rotate_left
  · intro w'
    go_simp
    with_reducible rfl
  rotate_left
  · simp only [Act.put, List.setIfInBounds_toArray, List.set_cons_zero, List.set_cons_succ, i64_w, i32_w]
    rfl
  refine done_ (done_of HT_.out (by kernel_rfl)) ?_
  try go_wp2
  go_ret
  exact ⟨by first | rfl | (simp [errW_none, errW_some] <;> rfl) | (simp [*, errW_none, errW_some] <;> rfl), by repeat (first | (with_reducible first | exact HB.out | apply below_alloc | apply pw_below_drewN | apply below_drew1 | refine below_set ?_ GE274.out | refine below_set ?_ GE275.out | refine below_set ?_ GE276.out | refine below_set ?_ GE283.out | refine below_set ?_ GE289.out | refine below_set ?_ GE294.out) | exact HB.out)⟩

end Go.Proofs.YtdlagefpglhdoaaDoor.Q
