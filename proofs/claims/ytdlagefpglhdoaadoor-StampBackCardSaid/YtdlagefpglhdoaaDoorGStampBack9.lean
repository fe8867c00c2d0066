import Derived.Test.YtdlagefpglhdoaaDoorQx0
import Derived.Test.YtdlagefpglhdoaaDoorGStampBack0
import Derived.Test.YtdlagefpglhdoaaDoorGStampBack4
import Derived.Test.YtdlagefpglhdoaaDoorGStampBack5
import Derived.Test.YtdlagefpglhdoaaDoorGStampBack7
-- Written by this session's own driver (wip/hybrid.py) of the kit's printer; contracts marked FOREIGN are by hand.
namespace Go.Proofs.YtdlagefpglhdoaaDoor.Q
open Go.RowKit Go.Proofs.YtdlagefpglhdoaaDoorW.PrintWords Go.Proofs.YtdlagefpglhdoaaDoorW.PrintLast Go.Proofs.YtdlagefpglhdoaaDoorW.PrintMore
attribute [local go_sem] max2_int min2_int max_two min_two max_three min_three max_four min_four   -- for this text's walks alone
set_option linter.unusedVariables false
set_option linter.unusedSimpArgs false

attribute [local go_sem high] eqA26
/-! ### tenementlaw07_StampBack: function 6 -/
def tenementlaw07_StampBack.f (k : Nat) (a0_0 : Int) (a0_1 : Int) (a0_2 : Int) (a0_3 : Int) (a0_4 : Int) (a0_5 : Bool) (a1_0 : Int) (a1_1 : Int) (a1_2 : Int) (a1_3 : Int) (a1_4 : Int) (a1_5 : Bool) (a2 : ByteArray) (a3 : Int) : Option (Bool) := (tenementlaw07_examples.f k).bind fun t582 => (if t582 = true then ((tenementlaw07_Mark_mark.f k a0_0 a0_1 a0_2 a0_3 a0_4 true).bind fun bt583 => ((tenementlaw07_Mark_mark.f k a1_0 a1_1 a1_2 a1_3 a1_4 true).bind fun bt589 => ((stamp_Put.f k bt583.1 bt583.2.1 bt583.2.2.1 bt583.2.2.2.1 bt583.2.2.2.2).bind fun bt595 => ((stamp_Put.f k bt589.1 bt589.2.1 bt589.2.2.1 bt589.2.2.2.1 bt589.2.2.2.2).bind fun bt597 => (if bt595.1.toList = ([] : List UInt8) then (none) else (if bt595.1.size + a2.size ≤ 9223372036854775807 then ((stamp_Get.f k (bt595.1 ++ a2) false).bind fun bt599 => (if (bt595.1.size : Int) = 0 then (none) else (if 0 ≤ (Int.tmod (wrap64 (a3)) (bt595.1.size : Int)) then (if (Int.tmod (wrap64 (a3)) (bt595.1.size : Int)) ≤ (bt595.1.size : Int) then ((stamp_Get.f k (bt595.1.extract 0 ((Int.tmod (wrap64 (a3)) (bt595.1.size : Int)) : Int).toNat) false).bind fun bt608 => (if bt595.2 = true then (if bt597.2 = true then (if ((bt599.1 == bt583.1 && (bt599.2.1 == bt583.2.1 && (bt599.2.2.1 == bt583.2.2.1 && (bt599.2.2.2.1 == bt583.2.2.2.1)))) && (bt599.2.2.2.2.1 == bt583.2.2.2.2)) = true then (if bt599.2.2.2.2.2.1.toList = a2.toList then (if bt599.2.2.2.2.2.2 = true then (none) else (if bt608.2.2.2.2.2.2 = true then (if bt595.1.toList = bt597.1.toList then (if ((bt583.1 == bt589.1 && (bt583.2.1 == bt589.2.1 && (bt583.2.2.1 == bt589.2.2.1 && (bt583.2.2.2.1 == bt589.2.2.2.1)))) && (bt583.2.2.2.2 == bt589.2.2.2.2)) = true then ((BigStamp.f bt583.1 bt583.2.1 bt583.2.2.1 bt583.2.2.2.1 bt583.2.2.2.2).bind fun t617 => ((BigStamp.f bt589.1 bt589.2.1 bt589.2.2.1 bt589.2.2.2.1 bt589.2.2.2.2).bind fun t618 => (if t617.toList = t618.toList then (some true) else (none)))) else (none)) else (if ((bt583.1 == bt589.1 && (bt583.2.1 == bt589.2.1 && (bt583.2.2.1 == bt589.2.2.1 && (bt583.2.2.2.1 == bt589.2.2.2.1)))) && (bt583.2.2.2.2 == bt589.2.2.2.2)) = true then (none) else ((BigStamp.f bt583.1 bt583.2.1 bt583.2.2.1 bt583.2.2.2.1 bt583.2.2.2.2).bind fun t619 => ((BigStamp.f bt589.1 bt589.2.1 bt589.2.2.1 bt589.2.2.2.1 bt589.2.2.2.2).bind fun t620 => (if t619.toList = t620.toList then (none) else (some true)))))) else (none))) else (none)) else (none)) else (none)) else (none))) else (none)) else (none)))) else (none))))))) else (none))
theorem tenementlaw07_StampBack.mono : ∀ a0 a1 a2 a3 a4 a5 a6 a7 a8 a9 a10 a11 a12 a13 k, LeO (tenementlaw07_StampBack.f k a0 a1 a2 a3 a4 a5 a6 a7 a8 a9 a10 a11 a12 a13) (tenementlaw07_StampBack.f (k + 1) a0 a1 a2 a3 a4 a5 a6 a7 a8 a9 a10 a11 a12 a13) := by
  intro a0 a1 a2 a3 a4 a5 a6 a7 a8 a9 a10 a11 a12 a13 k
  unfold tenementlaw07_StampBack.f
  repeat' first
      | (with_reducible exact stamp_Get.mono _ _ _)
      | (with_reducible exact stamp_Put.mono _ _ _ _ _ _)
      | (with_reducible exact tenementlaw07_Mark_mark.mono _ _ _ _ _ _ _)
      | (with_reducible exact tenementlaw07_examples.mono _)
      | (with_reducible exact LeO.refl _)
      | (with_reducible exact LeO.none _)
      | (with_reducible refine LeO.ite ?_ ?_)
      | (with_reducible refine LeO.bind ?_ (fun _ => ?_))
      | exact stamp_Get.mono _ _ _
      | exact stamp_Put.mono _ _ _ _ _ _
      | exact tenementlaw07_Mark_mark.mono _ _ _ _ _ _ _
      | exact tenementlaw07_examples.mono _
      | exact LeO.none _
      | refine LeO.ite ?_ ?_
      | refine LeO.bind ?_ (fun _ => ?_)
def tenementlaw07_StampBack.T14 : Bool × List (List Nat × List Nat) := (true, [([], []), ([0], [0]), ([1], [1]), ([1, 2], [1, 2]), ([3, 1], [3]), ([4], [4]), ([4, 5], [4, 5]), ([6, 4], [6]), ([7], [7]), ([7], [7]), ([8, 9, 7], [7, 8, 9]), ([7, 10], [7, 10]), ([11, 7], [11]), ([12], [12]), ([13, 12], [12, 13]), ([12], [12]), ([14, 15, 12], [12, 14, 15]), ([12, 16], [12, 16]), ([17, 12], [17]), ([18], [18]), ([19, 18], [18, 19]), ([20, 18], [18, 20]), ([18, 21], [18, 21]), ([22, 18], [22]), ([23], [23]), ([24, 23], [23, 24]), ([23, 25], [23, 25]), ([26, 23], [26]), ([27], [27]), ([27], [27]), ([28, 29, 27], [27, 28, 29]), ([27], [27]), ([27], [27]), ([31, 32, 27], [27, 31, 32]), ([30, 33, 27], [27, 30, 33]), ([27, 34], [27, 34]), ([35, 27], [35]), ([36], [36]), ([37, 36, 36], [36, 37]), ([36], [36]), ([39, 38, 36], [36, 39]), ([38, 40, 36], [36, 38, 40]), ([36], [36]), ([36], [36]), ([42, 43, 36], [36, 42, 43]), ([41, 44, 36], [36, 41, 44]), ([36, 45], [36, 45]), ([46, 40, 0, 1, 2, 3, 4, 5, 6, 7, 8, 9, 10, 11, 12, 13, 14, 15, 16, 17, 18, 19, 20, 21, 22, 23, 24, 25, 26, 27, 28, 29, 30, 31, 32, 33, 34, 35, 36, 37, 38, 39, 40, 41, 42, 43, 44, 45, 46], [46])])
def tenementlaw07_StampBack.B14 : List Nat := [0, 1, 3, 7, 15, 31, 63, 127, 255, 255, 1023, 2047, 4095, 8191, 16383, 8191, 65535, 131071, 262143, 524287, 1048575, 2097151, 4194303, 8388607, 16777215, 33554431, 67108863, 134217727, 268435455, 268435455, 1073741823, 268435455, 268435455, 6710886399, 17179869183, 34359738367, 68719476735, 137438953471, 274877906943, 137438953471, 1099511627775, 2199023255551, 137438953471, 137438953471, 13331578486783, 35184372088831, 70368744177663, 140737488355327]
theorem tenementlaw07_StampBack.tab14 : rtab .any (opsOf Tryd.f6 14) = tenementlaw07_StampBack.T14 := by kernel_rfl
theorem tenementlaw07_StampBack.bits14 : waitsOk tenementlaw07_StampBack.T14.2 tenementlaw07_StampBack.B14 = true := by kernel_rfl
set_option maxHeartbeats 8000000 in
set_option maxRecDepth 100000 in
theorem tenementlaw07_StampBack.calls (k : Nat) (a0_0 : Int) (a0_1 : Int) (a0_2 : Int) (a0_3 : Int) (a0_4 : Int) (a0_5 : Bool) (a1_0 : Int) (a1_1 : Int) (a1_2 : Int) (a1_3 : Int) (a1_4 : Int) (a1_5 : Bool) (a2 : ByteArray) (a3 : Int) (r : Bool) (w : World) (HT : BigText.Tab w) (h : tenementlaw07_StampBack.f k a0_0 a0_1 a0_2 a0_3 a0_4 a0_5 a1_0 a1_1 a1_2 a1_3 a1_4 a1_5 a2 a3 = some r) :
    Calls Tryd.prog 6 #[.agg #[.int .u64 a0_0, .int .u64 a0_1, .int .u64 a0_2, .int .u64 a0_3, .int .i64 a0_4, .bool a0_5], .agg #[.int .u64 a1_0, .int .u64 a1_1, .int .u64 a1_2, .int .u64 a1_3, .int .i64 a1_4, .bool a1_5], .string a2, .int .u8 a3] w fun e w' => e = .returned (.bool r) ∧ Below w.heap.size w w' := by
  have hu28 := Tryd.underlying28
  have hu26 := Tryd.underlying26
  have hu55 := Tryd.underlying55
  have HB := Aside0.mk (Below.refl w.heap.size w)
  have H : ((tenementlaw07_examples.f k).bind fun t582 => (if t582 = true then ((tenementlaw07_Mark_mark.f k a0_0 a0_1 a0_2 a0_3 a0_4 true).bind fun bt583 => ((tenementlaw07_Mark_mark.f k a1_0 a1_1 a1_2 a1_3 a1_4 true).bind fun bt589 => ((stamp_Put.f k bt583.1 bt583.2.1 bt583.2.2.1 bt583.2.2.2.1 bt583.2.2.2.2).bind fun bt595 => ((stamp_Put.f k bt589.1 bt589.2.1 bt589.2.2.1 bt589.2.2.2.1 bt589.2.2.2.2).bind fun bt597 => (if bt595.1.toList = ([] : List UInt8) then (none) else (if bt595.1.size + a2.size ≤ 9223372036854775807 then ((stamp_Get.f k (bt595.1 ++ a2) false).bind fun bt599 => (if (bt595.1.size : Int) = 0 then (none) else (if 0 ≤ (Int.tmod (wrap64 (a3)) (bt595.1.size : Int)) then (if (Int.tmod (wrap64 (a3)) (bt595.1.size : Int)) ≤ (bt595.1.size : Int) then ((stamp_Get.f k (bt595.1.extract 0 ((Int.tmod (wrap64 (a3)) (bt595.1.size : Int)) : Int).toNat) false).bind fun bt608 => (if bt595.2 = true then (if bt597.2 = true then (if ((bt599.1 == bt583.1 && (bt599.2.1 == bt583.2.1 && (bt599.2.2.1 == bt583.2.2.1 && (bt599.2.2.2.1 == bt583.2.2.2.1)))) && (bt599.2.2.2.2.1 == bt583.2.2.2.2)) = true then (if bt599.2.2.2.2.2.1.toList = a2.toList then (if bt599.2.2.2.2.2.2 = true then (none) else (if bt608.2.2.2.2.2.2 = true then (if bt595.1.toList = bt597.1.toList then (if ((bt583.1 == bt589.1 && (bt583.2.1 == bt589.2.1 && (bt583.2.2.1 == bt589.2.2.1 && (bt583.2.2.2.1 == bt589.2.2.2.1)))) && (bt583.2.2.2.2 == bt589.2.2.2.2)) = true then ((BigStamp.f bt583.1 bt583.2.1 bt583.2.2.1 bt583.2.2.2.1 bt583.2.2.2.2).bind fun t617 => ((BigStamp.f bt589.1 bt589.2.1 bt589.2.2.1 bt589.2.2.2.1 bt589.2.2.2.2).bind fun t618 => (if t617.toList = t618.toList then (some true) else (none)))) else (none)) else (if ((bt583.1 == bt589.1 && (bt583.2.1 == bt589.2.1 && (bt583.2.2.1 == bt589.2.2.1 && (bt583.2.2.2.1 == bt589.2.2.2.1)))) && (bt583.2.2.2.2 == bt589.2.2.2.2)) = true then (none) else ((BigStamp.f bt583.1 bt583.2.1 bt583.2.2.1 bt583.2.2.2.1 bt583.2.2.2.2).bind fun t619 => ((BigStamp.f bt589.1 bt589.2.1 bt589.2.2.1 bt589.2.2.2.1 bt589.2.2.2.2).bind fun t620 => (if t619.toList = t620.toList then (none) else (some true)))))) else (none))) else (none)) else (none)) else (none)) else (none))) else (none)) else (none)))) else (none))))))) else (none))) = some r := h
  clear h
  replace H := Option.bind_eq_some_iff.mp H
  obtain ⟨t582, A50, H⟩ := H
  replace H : (if t582 = true then ((tenementlaw07_Mark_mark.f k a0_0 a0_1 a0_2 a0_3 a0_4 true).bind fun bt583 => ((tenementlaw07_Mark_mark.f k a1_0 a1_1 a1_2 a1_3 a1_4 true).bind fun bt589 => ((stamp_Put.f k bt583.1 bt583.2.1 bt583.2.2.1 bt583.2.2.2.1 bt583.2.2.2.2).bind fun bt595 => ((stamp_Put.f k bt589.1 bt589.2.1 bt589.2.2.1 bt589.2.2.2.1 bt589.2.2.2.2).bind fun bt597 => (if bt595.1.toList = ([] : List UInt8) then (none) else (if bt595.1.size + a2.size ≤ 9223372036854775807 then ((stamp_Get.f k (bt595.1 ++ a2) false).bind fun bt599 => (if (bt595.1.size : Int) = 0 then (none) else (if 0 ≤ (Int.tmod (wrap64 (a3)) (bt595.1.size : Int)) then (if (Int.tmod (wrap64 (a3)) (bt595.1.size : Int)) ≤ (bt595.1.size : Int) then ((stamp_Get.f k (bt595.1.extract 0 ((Int.tmod (wrap64 (a3)) (bt595.1.size : Int)) : Int).toNat) false).bind fun bt608 => (if bt595.2 = true then (if bt597.2 = true then (if ((bt599.1 == bt583.1 && (bt599.2.1 == bt583.2.1 && (bt599.2.2.1 == bt583.2.2.1 && (bt599.2.2.2.1 == bt583.2.2.2.1)))) && (bt599.2.2.2.2.1 == bt583.2.2.2.2)) = true then (if bt599.2.2.2.2.2.1.toList = a2.toList then (if bt599.2.2.2.2.2.2 = true then (none) else (if bt608.2.2.2.2.2.2 = true then (if bt595.1.toList = bt597.1.toList then (if ((bt583.1 == bt589.1 && (bt583.2.1 == bt589.2.1 && (bt583.2.2.1 == bt589.2.2.1 && (bt583.2.2.2.1 == bt589.2.2.2.1)))) && (bt583.2.2.2.2 == bt589.2.2.2.2)) = true then ((BigStamp.f bt583.1 bt583.2.1 bt583.2.2.1 bt583.2.2.2.1 bt583.2.2.2.2).bind fun t617 => ((BigStamp.f bt589.1 bt589.2.1 bt589.2.2.1 bt589.2.2.2.1 bt589.2.2.2.2).bind fun t618 => (if t617.toList = t618.toList then (some true) else (none)))) else (none)) else (if ((bt583.1 == bt589.1 && (bt583.2.1 == bt589.2.1 && (bt583.2.2.1 == bt589.2.2.1 && (bt583.2.2.2.1 == bt589.2.2.2.1)))) && (bt583.2.2.2.2 == bt589.2.2.2.2)) = true then (none) else ((BigStamp.f bt583.1 bt583.2.1 bt583.2.2.1 bt583.2.2.2.1 bt583.2.2.2.2).bind fun t619 => ((BigStamp.f bt589.1 bt589.2.1 bt589.2.2.1 bt589.2.2.2.1 bt589.2.2.2.2).bind fun t620 => (if t619.toList = t620.toList then (none) else (some true)))))) else (none))) else (none)) else (none)) else (none)) else (none))) else (none)) else (none)))) else (none))))))) else (none)) = some r := H
  have A5 := Aside0.mk A50
  clear A50
  by_cases c6 : t582 = true
  rotate_left
  · replace c6 := Bool.eq_false_iff.mpr c6
    subst c6
    have H1 : (none) = some r := by rw [if_neg (show ¬ (false = true) by decide)] at H; exact H
    clear H
    have H := H1
    clear H1
    exact absurd H (by simp)
  subst c6
  have H1 : ((tenementlaw07_Mark_mark.f k a0_0 a0_1 a0_2 a0_3 a0_4 true).bind fun bt583 => ((tenementlaw07_Mark_mark.f k a1_0 a1_1 a1_2 a1_3 a1_4 true).bind fun bt589 => ((stamp_Put.f k bt583.1 bt583.2.1 bt583.2.2.1 bt583.2.2.2.1 bt583.2.2.2.2).bind fun bt595 => ((stamp_Put.f k bt589.1 bt589.2.1 bt589.2.2.1 bt589.2.2.2.1 bt589.2.2.2.2).bind fun bt597 => (if bt595.1.toList = ([] : List UInt8) then (none) else (if bt595.1.size + a2.size ≤ 9223372036854775807 then ((stamp_Get.f k (bt595.1 ++ a2) false).bind fun bt599 => (if (bt595.1.size : Int) = 0 then (none) else (if 0 ≤ (Int.tmod (wrap64 (a3)) (bt595.1.size : Int)) then (if (Int.tmod (wrap64 (a3)) (bt595.1.size : Int)) ≤ (bt595.1.size : Int) then ((stamp_Get.f k (bt595.1.extract 0 ((Int.tmod (wrap64 (a3)) (bt595.1.size : Int)) : Int).toNat) false).bind fun bt608 => (if bt595.2 = true then (if bt597.2 = true then (if ((bt599.1 == bt583.1 && (bt599.2.1 == bt583.2.1 && (bt599.2.2.1 == bt583.2.2.1 && (bt599.2.2.2.1 == bt583.2.2.2.1)))) && (bt599.2.2.2.2.1 == bt583.2.2.2.2)) = true then (if bt599.2.2.2.2.2.1.toList = a2.toList then (if bt599.2.2.2.2.2.2 = true then (none) else (if bt608.2.2.2.2.2.2 = true then (if bt595.1.toList = bt597.1.toList then (if ((bt583.1 == bt589.1 && (bt583.2.1 == bt589.2.1 && (bt583.2.2.1 == bt589.2.2.1 && (bt583.2.2.2.1 == bt589.2.2.2.1)))) && (bt583.2.2.2.2 == bt589.2.2.2.2)) = true then ((BigStamp.f bt583.1 bt583.2.1 bt583.2.2.1 bt583.2.2.2.1 bt583.2.2.2.2).bind fun t617 => ((BigStamp.f bt589.1 bt589.2.1 bt589.2.2.1 bt589.2.2.2.1 bt589.2.2.2.2).bind fun t618 => (if t617.toList = t618.toList then (some true) else (none)))) else (none)) else (if ((bt583.1 == bt589.1 && (bt583.2.1 == bt589.2.1 && (bt583.2.2.1 == bt589.2.2.1 && (bt583.2.2.2.1 == bt589.2.2.2.1)))) && (bt583.2.2.2.2 == bt589.2.2.2.2)) = true then (none) else ((BigStamp.f bt583.1 bt583.2.1 bt583.2.2.1 bt583.2.2.2.1 bt583.2.2.2.2).bind fun t619 => ((BigStamp.f bt589.1 bt589.2.1 bt589.2.2.1 bt589.2.2.2.1 bt589.2.2.2.2).bind fun t620 => (if t619.toList = t620.toList then (none) else (some true)))))) else (none))) else (none)) else (none)) else (none)) else (none))) else (none)) else (none)))) else (none))))))) = some r := by rw [if_pos rfl] at H; exact H
  clear H
  have H := H1
  clear H1
  replace H := Option.bind_eq_some_iff.mp H
  obtain ⟨⟨t583, t584, t585, t586, t587⟩, A70, H⟩ := H
  replace H : ((tenementlaw07_Mark_mark.f k a1_0 a1_1 a1_2 a1_3 a1_4 true).bind fun bt589 => ((stamp_Put.f k t583 t584 t585 t586 t587).bind fun bt595 => ((stamp_Put.f k bt589.1 bt589.2.1 bt589.2.2.1 bt589.2.2.2.1 bt589.2.2.2.2).bind fun bt597 => (if bt595.1.toList = ([] : List UInt8) then (none) else (if bt595.1.size + a2.size ≤ 9223372036854775807 then ((stamp_Get.f k (bt595.1 ++ a2) false).bind fun bt599 => (if (bt595.1.size : Int) = 0 then (none) else (if 0 ≤ (Int.tmod (wrap64 (a3)) (bt595.1.size : Int)) then (if (Int.tmod (wrap64 (a3)) (bt595.1.size : Int)) ≤ (bt595.1.size : Int) then ((stamp_Get.f k (bt595.1.extract 0 ((Int.tmod (wrap64 (a3)) (bt595.1.size : Int)) : Int).toNat) false).bind fun bt608 => (if bt595.2 = true then (if bt597.2 = true then (if ((bt599.1 == t583 && (bt599.2.1 == t584 && (bt599.2.2.1 == t585 && (bt599.2.2.2.1 == t586)))) && (bt599.2.2.2.2.1 == t587)) = true then (if bt599.2.2.2.2.2.1.toList = a2.toList then (if bt599.2.2.2.2.2.2 = true then (none) else (if bt608.2.2.2.2.2.2 = true then (if bt595.1.toList = bt597.1.toList then (if ((t583 == bt589.1 && (t584 == bt589.2.1 && (t585 == bt589.2.2.1 && (t586 == bt589.2.2.2.1)))) && (t587 == bt589.2.2.2.2)) = true then ((BigStamp.f t583 t584 t585 t586 t587).bind fun t617 => ((BigStamp.f bt589.1 bt589.2.1 bt589.2.2.1 bt589.2.2.2.1 bt589.2.2.2.2).bind fun t618 => (if t617.toList = t618.toList then (some true) else (none)))) else (none)) else (if ((t583 == bt589.1 && (t584 == bt589.2.1 && (t585 == bt589.2.2.1 && (t586 == bt589.2.2.2.1)))) && (t587 == bt589.2.2.2.2)) = true then (none) else ((BigStamp.f t583 t584 t585 t586 t587).bind fun t619 => ((BigStamp.f bt589.1 bt589.2.1 bt589.2.2.1 bt589.2.2.2.1 bt589.2.2.2.2).bind fun t620 => (if t619.toList = t620.toList then (none) else (some true)))))) else (none))) else (none)) else (none)) else (none)) else (none))) else (none)) else (none)))) else (none)))))) = some r := H
  have A7 := Aside0.mk A70
  clear A70
  replace H := Option.bind_eq_some_iff.mp H
  obtain ⟨⟨t589, t590, t591, t592, t593⟩, A80, H⟩ := H
  replace H : ((stamp_Put.f k t583 t584 t585 t586 t587).bind fun bt595 => ((stamp_Put.f k t589 t590 t591 t592 t593).bind fun bt597 => (if bt595.1.toList = ([] : List UInt8) then (none) else (if bt595.1.size + a2.size ≤ 9223372036854775807 then ((stamp_Get.f k (bt595.1 ++ a2) false).bind fun bt599 => (if (bt595.1.size : Int) = 0 then (none) else (if 0 ≤ (Int.tmod (wrap64 (a3)) (bt595.1.size : Int)) then (if (Int.tmod (wrap64 (a3)) (bt595.1.size : Int)) ≤ (bt595.1.size : Int) then ((stamp_Get.f k (bt595.1.extract 0 ((Int.tmod (wrap64 (a3)) (bt595.1.size : Int)) : Int).toNat) false).bind fun bt608 => (if bt595.2 = true then (if bt597.2 = true then (if ((bt599.1 == t583 && (bt599.2.1 == t584 && (bt599.2.2.1 == t585 && (bt599.2.2.2.1 == t586)))) && (bt599.2.2.2.2.1 == t587)) = true then (if bt599.2.2.2.2.2.1.toList = a2.toList then (if bt599.2.2.2.2.2.2 = true then (none) else (if bt608.2.2.2.2.2.2 = true then (if bt595.1.toList = bt597.1.toList then (if ((t583 == t589 && (t584 == t590 && (t585 == t591 && (t586 == t592)))) && (t587 == t593)) = true then ((BigStamp.f t583 t584 t585 t586 t587).bind fun t617 => ((BigStamp.f t589 t590 t591 t592 t593).bind fun t618 => (if t617.toList = t618.toList then (some true) else (none)))) else (none)) else (if ((t583 == t589 && (t584 == t590 && (t585 == t591 && (t586 == t592)))) && (t587 == t593)) = true then (none) else ((BigStamp.f t583 t584 t585 t586 t587).bind fun t619 => ((BigStamp.f t589 t590 t591 t592 t593).bind fun t620 => (if t619.toList = t620.toList then (none) else (some true)))))) else (none))) else (none)) else (none)) else (none)) else (none))) else (none)) else (none)))) else (none))))) = some r := H
  have A8 := Aside0.mk A80
  clear A80
  replace H := Option.bind_eq_some_iff.mp H
  obtain ⟨⟨t595, t596⟩, A90, H⟩ := H
  replace H : ((stamp_Put.f k t589 t590 t591 t592 t593).bind fun bt597 => (if t595.toList = ([] : List UInt8) then (none) else (if t595.size + a2.size ≤ 9223372036854775807 then ((stamp_Get.f k (t595 ++ a2) false).bind fun bt599 => (if (t595.size : Int) = 0 then (none) else (if 0 ≤ (Int.tmod (wrap64 (a3)) (t595.size : Int)) then (if (Int.tmod (wrap64 (a3)) (t595.size : Int)) ≤ (t595.size : Int) then ((stamp_Get.f k (t595.extract 0 ((Int.tmod (wrap64 (a3)) (t595.size : Int)) : Int).toNat) false).bind fun bt608 => (if t596 = true then (if bt597.2 = true then (if ((bt599.1 == t583 && (bt599.2.1 == t584 && (bt599.2.2.1 == t585 && (bt599.2.2.2.1 == t586)))) && (bt599.2.2.2.2.1 == t587)) = true then (if bt599.2.2.2.2.2.1.toList = a2.toList then (if bt599.2.2.2.2.2.2 = true then (none) else (if bt608.2.2.2.2.2.2 = true then (if t595.toList = bt597.1.toList then (if ((t583 == t589 && (t584 == t590 && (t585 == t591 && (t586 == t592)))) && (t587 == t593)) = true then ((BigStamp.f t583 t584 t585 t586 t587).bind fun t617 => ((BigStamp.f t589 t590 t591 t592 t593).bind fun t618 => (if t617.toList = t618.toList then (some true) else (none)))) else (none)) else (if ((t583 == t589 && (t584 == t590 && (t585 == t591 && (t586 == t592)))) && (t587 == t593)) = true then (none) else ((BigStamp.f t583 t584 t585 t586 t587).bind fun t619 => ((BigStamp.f t589 t590 t591 t592 t593).bind fun t620 => (if t619.toList = t620.toList then (none) else (some true)))))) else (none))) else (none)) else (none)) else (none)) else (none))) else (none)) else (none)))) else (none)))) = some r := H
  have A9 := Aside0.mk A90
  clear A90
  replace H := Option.bind_eq_some_iff.mp H
  obtain ⟨⟨t597, t598⟩, A100, H⟩ := H
  replace H : (if t595.toList = ([] : List UInt8) then (none) else (if t595.size + a2.size ≤ 9223372036854775807 then ((stamp_Get.f k (t595 ++ a2) false).bind fun bt599 => (if (t595.size : Int) = 0 then (none) else (if 0 ≤ (Int.tmod (wrap64 (a3)) (t595.size : Int)) then (if (Int.tmod (wrap64 (a3)) (t595.size : Int)) ≤ (t595.size : Int) then ((stamp_Get.f k (t595.extract 0 ((Int.tmod (wrap64 (a3)) (t595.size : Int)) : Int).toNat) false).bind fun bt608 => (if t596 = true then (if t598 = true then (if ((bt599.1 == t583 && (bt599.2.1 == t584 && (bt599.2.2.1 == t585 && (bt599.2.2.2.1 == t586)))) && (bt599.2.2.2.2.1 == t587)) = true then (if bt599.2.2.2.2.2.1.toList = a2.toList then (if bt599.2.2.2.2.2.2 = true then (none) else (if bt608.2.2.2.2.2.2 = true then (if t595.toList = t597.toList then (if ((t583 == t589 && (t584 == t590 && (t585 == t591 && (t586 == t592)))) && (t587 == t593)) = true then ((BigStamp.f t583 t584 t585 t586 t587).bind fun t617 => ((BigStamp.f t589 t590 t591 t592 t593).bind fun t618 => (if t617.toList = t618.toList then (some true) else (none)))) else (none)) else (if ((t583 == t589 && (t584 == t590 && (t585 == t591 && (t586 == t592)))) && (t587 == t593)) = true then (none) else ((BigStamp.f t583 t584 t585 t586 t587).bind fun t619 => ((BigStamp.f t589 t590 t591 t592 t593).bind fun t620 => (if t619.toList = t620.toList then (none) else (some true)))))) else (none))) else (none)) else (none)) else (none)) else (none))) else (none)) else (none)))) else (none))) = some r := H
  have A10 := Aside0.mk A100
  clear A100
  by_cases c11 : t595.toList = ([] : List UInt8)
  · rw [if_pos c11] at H
    exact absurd H (by simp)
  rw [if_neg c11] at H
  have c11b0 : (t595.toList == ([] : List UInt8)) = false := beq_eq_false_iff_ne.mpr c11
  have c11b1 : (t595.toList != ([] : List UInt8)) = true := bne_iff_ne.mpr c11
  by_cases c12 : t595.size + a2.size ≤ 9223372036854775807
  rotate_left
  · rw [if_neg c12] at H
    exact absurd H (by simp)
  rw [if_pos c12] at H
  have c12b0 := eq_true c12
  have c12b1 : decide (t595.size + a2.size ≤ 9223372036854775807) = true := decide_eq_true c12
  try have c12b2 : (9223372036854775807 < t595.size + a2.size) = False := eq_false (Nat.not_lt.2 c12)
  replace H := Option.bind_eq_some_iff.mp H
  obtain ⟨⟨t599, t600, t601, t602, t603, t604, t605⟩, A130, H⟩ := H
  replace H : (if (t595.size : Int) = 0 then (none) else (if 0 ≤ (Int.tmod (wrap64 (a3)) (t595.size : Int)) then (if (Int.tmod (wrap64 (a3)) (t595.size : Int)) ≤ (t595.size : Int) then ((stamp_Get.f k (t595.extract 0 ((Int.tmod (wrap64 (a3)) (t595.size : Int)) : Int).toNat) false).bind fun bt608 => (if t596 = true then (if t598 = true then (if ((t599 == t583 && (t600 == t584 && (t601 == t585 && (t602 == t586)))) && (t603 == t587)) = true then (if t604.toList = a2.toList then (if t605 = true then (none) else (if bt608.2.2.2.2.2.2 = true then (if t595.toList = t597.toList then (if ((t583 == t589 && (t584 == t590 && (t585 == t591 && (t586 == t592)))) && (t587 == t593)) = true then ((BigStamp.f t583 t584 t585 t586 t587).bind fun t617 => ((BigStamp.f t589 t590 t591 t592 t593).bind fun t618 => (if t617.toList = t618.toList then (some true) else (none)))) else (none)) else (if ((t583 == t589 && (t584 == t590 && (t585 == t591 && (t586 == t592)))) && (t587 == t593)) = true then (none) else ((BigStamp.f t583 t584 t585 t586 t587).bind fun t619 => ((BigStamp.f t589 t590 t591 t592 t593).bind fun t620 => (if t619.toList = t620.toList then (none) else (some true)))))) else (none))) else (none)) else (none)) else (none)) else (none))) else (none)) else (none))) = some r := H
  have A13 := Aside0.mk A130
  clear A130
  by_cases c14 : (t595.size : Int) = 0
  · rw [if_pos c14] at H
    exact absurd H (by simp)
  rw [if_neg c14] at H
  have c14b0 : ((t595.size : Int) == 0) = false := beq_eq_false_iff_ne.mpr c14
  have c14b1 : ((t595.size : Int) != 0) = true := bne_iff_ne.mpr c14
  obtain ⟨ji15, hji15⟩ : ∃ j_ : Int, (Int.tmod (wrap64 (a3)) (t595.size : Int)) = j_ := ⟨_, rfl⟩
  replace H : (if 0 ≤ (ji15) then (if (ji15) ≤ (t595.size : Int) then ((stamp_Get.f k (t595.extract 0 ((ji15) : Int).toNat) false).bind fun bt608 => (if t596 = true then (if t598 = true then (if ((t599 == t583 && (t600 == t584 && (t601 == t585 && (t602 == t586)))) && (t603 == t587)) = true then (if t604.toList = a2.toList then (if t605 = true then (none) else (if bt608.2.2.2.2.2.2 = true then (if t595.toList = t597.toList then (if ((t583 == t589 && (t584 == t590 && (t585 == t591 && (t586 == t592)))) && (t587 == t593)) = true then ((BigStamp.f t583 t584 t585 t586 t587).bind fun t617 => ((BigStamp.f t589 t590 t591 t592 t593).bind fun t618 => (if t617.toList = t618.toList then (some true) else (none)))) else (none)) else (if ((t583 == t589 && (t584 == t590 && (t585 == t591 && (t586 == t592)))) && (t587 == t593)) = true then (none) else ((BigStamp.f t583 t584 t585 t586 t587).bind fun t619 => ((BigStamp.f t589 t590 t591 t592 t593).bind fun t620 => (if t619.toList = t620.toList then (none) else (some true)))))) else (none))) else (none)) else (none)) else (none)) else (none))) else (none)) else (none)) = some r := by first | (rw [hji15] at H; exact H) | (simp only [hji15] at H ⊢; exact H)
  (try rw [hji15] at A5)
  (try rw [hji15] at A7)
  (try rw [hji15] at A8)
  (try rw [hji15] at A9)
  (try rw [hji15] at A10)
  (try rw [hji15] at A13)
  by_cases c16 : 0 ≤ (ji15)
  rotate_left
  · rw [if_neg c16] at H
    exact absurd H (by simp)
  rw [if_pos c16] at H
  have c16b0 := eq_true c16
  have c16b1 : decide (0 ≤ (ji15)) = true := decide_eq_true c16
  clear c16
  by_cases c17 : (ji15) ≤ (t595.size : Int)
  rotate_left
  · rw [if_neg c17] at H
    exact absurd H (by simp)
  rw [if_pos c17] at H
  have c17b0 := eq_true c17
  have c17b1 : decide ((ji15) ≤ (t595.size : Int)) = true := decide_eq_true c17
  clear c17
  replace H := Option.bind_eq_some_iff.mp H
  obtain ⟨⟨t608, t609, t610, t611, t612, t613, t614⟩, A180, H⟩ := H
  replace H : (if t596 = true then (if t598 = true then (if ((t599 == t583 && (t600 == t584 && (t601 == t585 && (t602 == t586)))) && (t603 == t587)) = true then (if t604.toList = a2.toList then (if t605 = true then (none) else (if t614 = true then (if t595.toList = t597.toList then (if ((t583 == t589 && (t584 == t590 && (t585 == t591 && (t586 == t592)))) && (t587 == t593)) = true then ((BigStamp.f t583 t584 t585 t586 t587).bind fun t617 => ((BigStamp.f t589 t590 t591 t592 t593).bind fun t618 => (if t617.toList = t618.toList then (some true) else (none)))) else (none)) else (if ((t583 == t589 && (t584 == t590 && (t585 == t591 && (t586 == t592)))) && (t587 == t593)) = true then (none) else ((BigStamp.f t583 t584 t585 t586 t587).bind fun t619 => ((BigStamp.f t589 t590 t591 t592 t593).bind fun t620 => (if t619.toList = t620.toList then (none) else (some true)))))) else (none))) else (none)) else (none)) else (none)) else (none)) = some r := H
  have A18 := Aside0.mk A180
  clear A180
  by_cases c19 : t596 = true
  rotate_left
  · replace c19 := Bool.eq_false_iff.mpr c19
    subst c19
    have H1 : (none) = some r := by rw [if_neg (show ¬ (false = true) by decide)] at H; exact H
    clear H
    have H := H1
    clear H1
    exact absurd H (by simp)
  subst c19
  have H1 : (if t598 = true then (if ((t599 == t583 && (t600 == t584 && (t601 == t585 && (t602 == t586)))) && (t603 == t587)) = true then (if t604.toList = a2.toList then (if t605 = true then (none) else (if t614 = true then (if t595.toList = t597.toList then (if ((t583 == t589 && (t584 == t590 && (t585 == t591 && (t586 == t592)))) && (t587 == t593)) = true then ((BigStamp.f t583 t584 t585 t586 t587).bind fun t617 => ((BigStamp.f t589 t590 t591 t592 t593).bind fun t618 => (if t617.toList = t618.toList then (some true) else (none)))) else (none)) else (if ((t583 == t589 && (t584 == t590 && (t585 == t591 && (t586 == t592)))) && (t587 == t593)) = true then (none) else ((BigStamp.f t583 t584 t585 t586 t587).bind fun t619 => ((BigStamp.f t589 t590 t591 t592 t593).bind fun t620 => (if t619.toList = t620.toList then (none) else (some true)))))) else (none))) else (none)) else (none)) else (none)) = some r := by rw [if_pos rfl] at H; exact H
  clear H
  have H := H1
  clear H1
  by_cases c20 : t598 = true
  rotate_left
  · replace c20 := Bool.eq_false_iff.mpr c20
    subst c20
    have H1 : (none) = some r := by rw [if_neg (show ¬ (false = true) by decide)] at H; exact H
    clear H
    have H := H1
    clear H1
    exact absurd H (by simp)
  subst c20
  have H1 : (if ((t599 == t583 && (t600 == t584 && (t601 == t585 && (t602 == t586)))) && (t603 == t587)) = true then (if t604.toList = a2.toList then (if t605 = true then (none) else (if t614 = true then (if t595.toList = t597.toList then (if ((t583 == t589 && (t584 == t590 && (t585 == t591 && (t586 == t592)))) && (t587 == t593)) = true then ((BigStamp.f t583 t584 t585 t586 t587).bind fun t617 => ((BigStamp.f t589 t590 t591 t592 t593).bind fun t618 => (if t617.toList = t618.toList then (some true) else (none)))) else (none)) else (if ((t583 == t589 && (t584 == t590 && (t585 == t591 && (t586 == t592)))) && (t587 == t593)) = true then (none) else ((BigStamp.f t583 t584 t585 t586 t587).bind fun t619 => ((BigStamp.f t589 t590 t591 t592 t593).bind fun t620 => (if t619.toList = t620.toList then (none) else (some true)))))) else (none))) else (none)) else (none)) = some r := by rw [if_pos rfl] at H; exact H
  clear H
  have H := H1
  clear H1
  by_cases c21 : ((t599 == t583 && (t600 == t584 && (t601 == t585 && (t602 == t586)))) && (t603 == t587)) = true
  rotate_left
  · rw [if_neg c21] at H
    exact absurd H (by simp)
  rw [if_pos c21] at H
  have c21b0 : ((t599 == t583 && (t600 == t584 && (t601 == t585 && (t602 == t586)))) && (t603 == t587)) = true := c21
  clear c21
  by_cases c22 : t604.toList = a2.toList
  rotate_left
  · rw [if_neg c22] at H
    exact absurd H (by simp)
  rw [if_pos c22] at H
  have c22b0 : (t604.toList == a2.toList) = true := beq_iff_eq.mpr c22
  have c22b1 : (t604.toList != a2.toList) = false := bne_eq_false_iff_eq.mpr c22
  clear c22
  by_cases c23 : t605 = true
  · subst c23
    have H1 : (none) = some r := by rw [if_pos rfl] at H; exact H
    clear H
    have H := H1
    clear H1
    exact absurd H (by simp)
  replace c23 := Bool.eq_false_iff.mpr c23
  subst c23
  have H1 : (if t614 = true then (if t595.toList = t597.toList then (if ((t583 == t589 && (t584 == t590 && (t585 == t591 && (t586 == t592)))) && (t587 == t593)) = true then ((BigStamp.f t583 t584 t585 t586 t587).bind fun t617 => ((BigStamp.f t589 t590 t591 t592 t593).bind fun t618 => (if t617.toList = t618.toList then (some true) else (none)))) else (none)) else (if ((t583 == t589 && (t584 == t590 && (t585 == t591 && (t586 == t592)))) && (t587 == t593)) = true then (none) else ((BigStamp.f t583 t584 t585 t586 t587).bind fun t619 => ((BigStamp.f t589 t590 t591 t592 t593).bind fun t620 => (if t619.toList = t620.toList then (none) else (some true)))))) else (none)) = some r := by rw [if_neg (show ¬ (false = true) by decide)] at H; exact H
  clear H
  have H := H1
  clear H1
  by_cases c24 : t614 = true
  rotate_left
  · replace c24 := Bool.eq_false_iff.mpr c24
    subst c24
    have H1 : (none) = some r := by rw [if_neg (show ¬ (false = true) by decide)] at H; exact H
    clear H
    have H := H1
    clear H1
    exact absurd H (by simp)
  subst c24
  have H1 : (if t595.toList = t597.toList then (if ((t583 == t589 && (t584 == t590 && (t585 == t591 && (t586 == t592)))) && (t587 == t593)) = true then ((BigStamp.f t583 t584 t585 t586 t587).bind fun t617 => ((BigStamp.f t589 t590 t591 t592 t593).bind fun t618 => (if t617.toList = t618.toList then (some true) else (none)))) else (none)) else (if ((t583 == t589 && (t584 == t590 && (t585 == t591 && (t586 == t592)))) && (t587 == t593)) = true then (none) else ((BigStamp.f t583 t584 t585 t586 t587).bind fun t619 => ((BigStamp.f t589 t590 t591 t592 t593).bind fun t620 => (if t619.toList = t620.toList then (none) else (some true)))))) = some r := by rw [if_pos rfl] at H; exact H
  clear H
  have H := H1
  clear H1
  by_cases c25 : t595.toList = t597.toList
  · rw [if_pos c25] at H
    have c25b0 : (t595.toList == t597.toList) = true := beq_iff_eq.mpr c25
    have c25b1 : (t595.toList != t597.toList) = false := bne_eq_false_iff_eq.mpr c25
    clear c25
    by_cases c26 : ((t583 == t589 && (t584 == t590 && (t585 == t591 && (t586 == t592)))) && (t587 == t593)) = true
    rotate_left
    · rw [if_neg c26] at H
      exact absurd H (by simp)
    rw [if_pos c26] at H
    have c26b0 : ((t583 == t589 && (t584 == t590 && (t585 == t591 && (t586 == t592)))) && (t587 == t593)) = true := c26
    clear c26
    replace H := Option.bind_eq_some_iff.mp H
    obtain ⟨t617, A270, H⟩ := H
    replace H : ((BigStamp.f t589 t590 t591 t592 t593).bind fun t618 => (if t617.toList = t618.toList then (some true) else (none))) = some r := H
    have A27 := Aside0.mk A270
    clear A270
    replace H := Option.bind_eq_some_iff.mp H
    obtain ⟨t618, A280, H⟩ := H
    replace H : (if t617.toList = t618.toList then (some true) else (none)) = some r := H
    have A28 := Aside0.mk A280
    clear A280
    by_cases c29 : t617.toList = t618.toList
    rotate_left
    · rw [if_neg c29] at H
      exact absurd H (by simp)
    rw [if_pos c29] at H
    have c29b0 : (t617.toList == t618.toList) = true := beq_iff_eq.mpr c29
    have c29b1 : (t617.toList != t618.toList) = false := bne_eq_false_iff_eq.mpr c29
    clear c29
    obtain rfl := Option.some.inj H
    go_enter Tryd.func6, Tryd.ntmps6
    try go_wp2_with (first | ((with_reducible refine gate_dst (N := 4) rfl ?_); refine box_event ?hg (N := 4) ?hd (cs := #[.int .u64 a0_0, .int .u64 a0_1, .int .u64 a0_2, .int .u64 a0_3, .int .i64 a0_4, .bool a0_5]) (t := 28) ?hr ?_; (case hd => rfl); (case hg => rfl); (case hr => first | (go_simp; done) | (go_simp; rfl)); intro gb580 hg w30 hbox hb; have BK580 := Aside0.mk (hbox); have GW580 := Kw_ HB hg; have GE580 := GW580; replace HB := Ks_ HB hb; clear hb hbox hg) | ((with_reducible refine gate_dst (N := 5) rfl ?_); refine box_event ?hg (N := 5) ?hd (cs := #[.int .u64 a1_0, .int .u64 a1_1, .int .u64 a1_2, .int .u64 a1_3, .int .i64 a1_4, .bool a1_5]) (t := 28) ?hr ?_; (case hd => rfl); (case hg => rfl); (case hr => first | (go_simp; done) | (go_simp; rfl)); intro gb581 hg w31 hbox hb; have BK581 := Aside0.mk (hbox); have GW581 := Kw_ HB hg; have GE581 := GW581; have NB580_581 := Kl_ BK580 hg; have NB581_580 := Kr_ BK580 hg; replace BK580 := Kb_ BK580 hb; replace HB := Ks_ HB hb; clear hb hbox hg) | ((with_reducible refine gate_callee (f := 9) rfl ?_); refine goesL_ (some 20) rfl rfl Tryd.func9 (by kernel_rfl) rfl #[] rfl (by (try simp only [List.map_toArray, List.map_cons, List.map_nil]); first | done | rfl | (simp only [List.length_drop, List.length_take]; rfl)) ?_; (with_reducible refine (tenementlaw07_examples.calls k  true _ A5.out).mono ?_); rintro e w32 ⟨rfl, hb⟩; refine ⟨_, rfl, ?_⟩; replace BK580 := Kb_ BK580 hb; replace BK581 := Kb_ BK581 hb; replace HB := Ks_ HB hb; (try clear hb); (try clear hb2); (try clear hk); (try clear hi); have hnb33 := NB580_581.out; have hnc33 := NB581_580.out; have hcz34_0 : w32.cell? ⟨gb580, 0, none⟩ = some (.int .u64 a0_0) := (blk_cell BK580.out 0).trans rfl; have hcz34_1 : w32.cell? ⟨gb580, 1, none⟩ = some (.int .u64 a0_1) := (blk_cell BK580.out 1).trans rfl; have hcz34_2 : w32.cell? ⟨gb580, 2, none⟩ = some (.int .u64 a0_2) := (blk_cell BK580.out 2).trans rfl; have hcz34_3 : w32.cell? ⟨gb580, 3, none⟩ = some (.int .u64 a0_3) := (blk_cell BK580.out 3).trans rfl; have hcz34_4 : w32.cell? ⟨gb580, 4, none⟩ = some (.int .i64 a0_4) := (blk_cell BK580.out 4).trans rfl; have hcz34_5 : w32.cell? ⟨gb580, 5, none⟩ = some (.bool a0_5) := (blk_cell BK580.out 5).trans rfl; have hfz34_0 := blk_frozen BK580.out 0; have hfz34_1 := blk_frozen BK580.out 1; have hfz34_2 := blk_frozen BK580.out 2; have hfz34_3 := blk_frozen BK580.out 3; have hfz34_4 := blk_frozen BK580.out 4; have hfz34_5 := blk_frozen BK580.out 5; have hcz35_0 : w32.cell? ⟨gb581, 0, none⟩ = some (.int .u64 a1_0) := (blk_cell BK581.out 0).trans rfl; have hcz35_1 : w32.cell? ⟨gb581, 1, none⟩ = some (.int .u64 a1_1) := (blk_cell BK581.out 1).trans rfl; have hcz35_2 : w32.cell? ⟨gb581, 2, none⟩ = some (.int .u64 a1_2) := (blk_cell BK581.out 2).trans rfl; have hcz35_3 : w32.cell? ⟨gb581, 3, none⟩ = some (.int .u64 a1_3) := (blk_cell BK581.out 3).trans rfl; have hcz35_4 : w32.cell? ⟨gb581, 4, none⟩ = some (.int .i64 a1_4) := (blk_cell BK581.out 4).trans rfl; have hcz35_5 : w32.cell? ⟨gb581, 5, none⟩ = some (.bool a1_5) := (blk_cell BK581.out 5).trans rfl; have hfz35_0 := blk_frozen BK581.out 0; have hfz35_1 := blk_frozen BK581.out 1; have hfz35_2 := blk_frozen BK581.out 2; have hfz35_3 := blk_frozen BK581.out 3; have hfz35_4 := blk_frozen BK581.out 4; have hfz35_5 := blk_frozen BK581.out 5) | ((with_reducible refine gate_callee (f := 10) rfl ?_); refine goesL_ (some 26) rfl rfl Tryd.func10 (by kernel_rfl) rfl #[.agg #[.int .u64 a0_0, .int .u64 a0_1, .int .u64 a0_2, .int .u64 a0_3, .int .i64 a0_4, .bool true]] rfl (by (try simp only [List.map_toArray, List.map_cons, List.map_nil]); first | done | rfl | (simp only [List.length_drop, List.length_take]; rfl)) ?_; (with_reducible refine (tenementlaw07_Mark_mark.calls k a0_0 a0_1 a0_2 a0_3 a0_4 true t583 t584 t585 t586 t587 _ A7.out).mono ?_); rintro e w36 ⟨rfl, hb⟩; refine ⟨_, rfl, ?_⟩; replace BK580 := Aside0.mk (blk_below (g := gb580) (o := .cells #[.int .u64 a0_0, .int .u64 a0_1, .int .u64 a0_2, .int .u64 a0_3, .int .i64 a0_4, .bool true] 28 (0, 0)) (by (repeat (first | (with_reducible first | refine blk_drewN ?_ _ | refine blk_drew ?_ | refine blk_alloc ?_ _) | refine blk_far ?_ NB580_581.out _)); refine blk_put (cs := #[.int .u64 a0_0, .int .u64 a0_1, .int .u64 a0_2, .int .u64 a0_3, .int .i64 a0_4, .bool a0_5]) ?_ 5 _ rfl; (with_reducible repeat (first | refine blk_drewN ?_ _ | refine blk_drew ?_ | refine blk_alloc ?_ _)); exact BK580.out) hb); replace BK581 := Aside0.mk (blk_below (g := gb581) (o := .cells #[.int .u64 a1_0, .int .u64 a1_1, .int .u64 a1_2, .int .u64 a1_3, .int .i64 a1_4, .bool true] 28 (0, 0)) (by (with_reducible repeat (first | refine blk_drewN ?_ _ | refine blk_drew ?_ | refine blk_alloc ?_ _)); refine blk_put (cs := #[.int .u64 a1_0, .int .u64 a1_1, .int .u64 a1_2, .int .u64 a1_3, .int .i64 a1_4, .bool a1_5]) ?_ 5 _ rfl; (repeat (first | (with_reducible first | refine blk_drewN ?_ _ | refine blk_drew ?_ | refine blk_alloc ?_ _) | refine blk_far ?_ NB581_580.out _)); exact BK581.out) hb); replace HB := Aside0.mk (below_step (by repeat (first | (with_reducible first | exact HB.out | apply below_alloc | apply pw_below_drewN | apply below_drew1 | refine below_set ?_ GE580.out | refine below_set ?_ GE581.out) | exact HB.out)) hb); (try clear hb); (try clear hb2); (try clear hk); (try clear hi)) | ((with_reducible refine gate_dst (N := 10) rfl ?_); refine box_event ?hg (N := 10) ?hd (cs := #[.int .u64 0, .int .u64 0, .int .u64 0, .int .u64 0, .int .i64 0]) (t := 26) ?hr ?_; (case hd => rfl); (case hg => rfl); (case hr => first | (go_simp; done) | (go_simp; rfl)); intro gb588 hg w37 hbox hb; have BK588 := Aside0.mk (hbox); have GW588 := Kw_ HB hg; have GE588 := GW588; have NB580_588 := Kl_ BK580 hg; have NB588_580 := Kr_ BK580 hg; have NB581_588 := Kl_ BK581 hg; have NB588_581 := Kr_ BK581 hg; replace BK580 := Kb_ BK580 hb; replace BK581 := Kb_ BK581 hb; replace HB := Ks_ HB hb; clear hb hbox hg; have hnb38 := NB588_580.out; have hnc38 := NB580_588.out; have hnb39 := NB588_581.out; have hnc39 := NB581_588.out; have hcz40_0 : w37.cell? ⟨gb588, 0, none⟩ = some (.int .u64 0) := (blk_cell BK588.out 0).trans rfl; have hcz40_1 : w37.cell? ⟨gb588, 1, none⟩ = some (.int .u64 0) := (blk_cell BK588.out 1).trans rfl; have hcz40_2 : w37.cell? ⟨gb588, 2, none⟩ = some (.int .u64 0) := (blk_cell BK588.out 2).trans rfl; have hcz40_3 : w37.cell? ⟨gb588, 3, none⟩ = some (.int .u64 0) := (blk_cell BK588.out 3).trans rfl; have hcz40_4 : w37.cell? ⟨gb588, 4, none⟩ = some (.int .i64 0) := (blk_cell BK588.out 4).trans rfl; have hfz40_0 := blk_frozen BK588.out 0; have hfz40_1 := blk_frozen BK588.out 1; have hfz40_2 := blk_frozen BK588.out 2; have hfz40_3 := blk_frozen BK588.out 3; have hfz40_4 := blk_frozen BK588.out 4; have hcz41_0 : w37.cell? ⟨gb581, 0, none⟩ = some (.int .u64 a1_0) := (blk_cell BK581.out 0).trans rfl; have hcz41_1 : w37.cell? ⟨gb581, 1, none⟩ = some (.int .u64 a1_1) := (blk_cell BK581.out 1).trans rfl; have hcz41_2 : w37.cell? ⟨gb581, 2, none⟩ = some (.int .u64 a1_2) := (blk_cell BK581.out 2).trans rfl; have hcz41_3 : w37.cell? ⟨gb581, 3, none⟩ = some (.int .u64 a1_3) := (blk_cell BK581.out 3).trans rfl; have hcz41_4 : w37.cell? ⟨gb581, 4, none⟩ = some (.int .i64 a1_4) := (blk_cell BK581.out 4).trans rfl; have hcz41_5 : w37.cell? ⟨gb581, 5, none⟩ = some (.bool true) := (blk_cell BK581.out 5).trans rfl; have hfz41_0 := blk_frozen BK581.out 0; have hfz41_1 := blk_frozen BK581.out 1; have hfz41_2 := blk_frozen BK581.out 2; have hfz41_3 := blk_frozen BK581.out 3; have hfz41_4 := blk_frozen BK581.out 4; have hfz41_5 := blk_frozen BK581.out 5) | ((with_reducible refine gate_callee (f := 10) rfl ?_); refine goesL_ (some 28) rfl rfl Tryd.func10 (by kernel_rfl) rfl #[.agg #[.int .u64 a1_0, .int .u64 a1_1, .int .u64 a1_2, .int .u64 a1_3, .int .i64 a1_4, .bool true]] rfl (by (try simp only [List.map_toArray, List.map_cons, List.map_nil]); first | done | rfl | (simp only [List.length_drop, List.length_take]; rfl)) ?_; (with_reducible refine (tenementlaw07_Mark_mark.calls k a1_0 a1_1 a1_2 a1_3 a1_4 true t589 t590 t591 t592 t593 _ A8.out).mono ?_); rintro e w42 ⟨rfl, hb⟩; refine ⟨_, rfl, ?_⟩; replace BK580 := Kf_ BK580 NB580_588 hb; replace BK581 := Kf_ BK581 NB581_588 hb; replace BK588 := Aside0.mk (blk_below (g := gb588) (o := .cells #[.int .u64 t583, .int .u64 t584, .int .u64 t585, .int .u64 t586, .int .i64 t587] 26 (0, 0)) (by (with_reducible repeat (first | refine blk_drewN ?_ _ | refine blk_drew ?_ | refine blk_alloc ?_ _)); refine blk_put (cs := #[.int .u64 t583, .int .u64 t584, .int .u64 t585, .int .u64 t586, .int .i64 0]) ?_ 4 _ rfl; (with_reducible repeat (first | refine blk_drewN ?_ _ | refine blk_drew ?_ | refine blk_alloc ?_ _)); refine blk_put (cs := #[.int .u64 t583, .int .u64 t584, .int .u64 t585, .int .u64 0, .int .i64 0]) ?_ 3 _ rfl; (with_reducible repeat (first | refine blk_drewN ?_ _ | refine blk_drew ?_ | refine blk_alloc ?_ _)); refine blk_put (cs := #[.int .u64 t583, .int .u64 t584, .int .u64 0, .int .u64 0, .int .i64 0]) ?_ 2 _ rfl; (with_reducible repeat (first | refine blk_drewN ?_ _ | refine blk_drew ?_ | refine blk_alloc ?_ _)); refine blk_put (cs := #[.int .u64 t583, .int .u64 0, .int .u64 0, .int .u64 0, .int .i64 0]) ?_ 1 _ rfl; (with_reducible repeat (first | refine blk_drewN ?_ _ | refine blk_drew ?_ | refine blk_alloc ?_ _)); refine blk_put (cs := #[.int .u64 0, .int .u64 0, .int .u64 0, .int .u64 0, .int .i64 0]) ?_ 0 _ rfl; (with_reducible repeat (first | refine blk_drewN ?_ _ | refine blk_drew ?_ | refine blk_alloc ?_ _)); exact BK588.out) hb); replace HB := Kt_ HB GE588 hb; (try clear hb); (try clear hb2); (try clear hk); (try clear hi)) | ((with_reducible refine gate_dst (N := 11) rfl ?_); refine box_event ?hg (N := 11) ?hd (cs := #[.int .u64 0, .int .u64 0, .int .u64 0, .int .u64 0, .int .i64 0]) (t := 26) ?hr ?_; (case hd => rfl); (case hg => rfl); (case hr => first | (go_simp; done) | (go_simp; rfl)); intro gb594 hg w43 hbox hb; have BK594 := Aside0.mk (hbox); have GW594 := Kw_ HB hg; have GE594 := GW594; have NB580_594 := Kl_ BK580 hg; have NB594_580 := Kr_ BK580 hg; have NB581_594 := Kl_ BK581 hg; have NB594_581 := Kr_ BK581 hg; have NB588_594 := Kl_ BK588 hg; have NB594_588 := Kr_ BK588 hg; replace BK580 := Kb_ BK580 hb; replace BK581 := Kb_ BK581 hb; replace BK588 := Kb_ BK588 hb; replace HB := Ks_ HB hb; clear hb hbox hg; have hnb44 := NB594_580.out; have hnc44 := NB580_594.out; have hnb45 := NB594_581.out; have hnc45 := NB581_594.out; have hnb46 := NB594_588.out; have hnc46 := NB588_594.out; have hcz47_0 : w43.cell? ⟨gb594, 0, none⟩ = some (.int .u64 0) := (blk_cell BK594.out 0).trans rfl; have hcz47_1 : w43.cell? ⟨gb594, 1, none⟩ = some (.int .u64 0) := (blk_cell BK594.out 1).trans rfl; have hcz47_2 : w43.cell? ⟨gb594, 2, none⟩ = some (.int .u64 0) := (blk_cell BK594.out 2).trans rfl; have hcz47_3 : w43.cell? ⟨gb594, 3, none⟩ = some (.int .u64 0) := (blk_cell BK594.out 3).trans rfl; have hcz47_4 : w43.cell? ⟨gb594, 4, none⟩ = some (.int .i64 0) := (blk_cell BK594.out 4).trans rfl; have hfz47_0 := blk_frozen BK594.out 0; have hfz47_1 := blk_frozen BK594.out 1; have hfz47_2 := blk_frozen BK594.out 2; have hfz47_3 := blk_frozen BK594.out 3; have hfz47_4 := blk_frozen BK594.out 4; have hcz48_0 : w43.cell? ⟨gb588, 0, none⟩ = some (.int .u64 t583) := (blk_cell BK588.out 0).trans rfl; have hcz48_1 : w43.cell? ⟨gb588, 1, none⟩ = some (.int .u64 t584) := (blk_cell BK588.out 1).trans rfl; have hcz48_2 : w43.cell? ⟨gb588, 2, none⟩ = some (.int .u64 t585) := (blk_cell BK588.out 2).trans rfl; have hcz48_3 : w43.cell? ⟨gb588, 3, none⟩ = some (.int .u64 t586) := (blk_cell BK588.out 3).trans rfl; have hcz48_4 : w43.cell? ⟨gb588, 4, none⟩ = some (.int .i64 t587) := (blk_cell BK588.out 4).trans rfl; have hfz48_0 := blk_frozen BK588.out 0; have hfz48_1 := blk_frozen BK588.out 1; have hfz48_2 := blk_frozen BK588.out 2; have hfz48_3 := blk_frozen BK588.out 3; have hfz48_4 := blk_frozen BK588.out 4) | ((with_reducible refine gate_callee (f := 12) rfl ?_); refine goesL_ (some 31) rfl rfl Tryd.func12 (by kernel_rfl) rfl #[.agg #[.int .u64 t583, .int .u64 t584, .int .u64 t585, .int .u64 t586, .int .i64 t587]] rfl (by (try simp only [List.map_toArray, List.map_cons, List.map_nil]); first | done | rfl | (simp only [List.length_drop, List.length_take]; rfl)) ?_; (with_reducible refine (stamp_Put.calls k t583 t584 t585 t586 t587 t595 true _ A9.out).mono ?_); rintro e w49 ⟨rfl, hb⟩; refine ⟨_, rfl, ?_⟩; replace BK580 := Kf_ BK580 NB580_594 hb; replace BK581 := Kf_ BK581 NB581_594 hb; replace BK588 := Kf_ BK588 NB588_594 hb; replace BK594 := Aside0.mk (blk_below (g := gb594) (o := .cells #[.int .u64 t589, .int .u64 t590, .int .u64 t591, .int .u64 t592, .int .i64 t593] 26 (0, 0)) (by (with_reducible repeat (first | refine blk_drewN ?_ _ | refine blk_drew ?_ | refine blk_alloc ?_ _)); refine blk_put (cs := #[.int .u64 t589, .int .u64 t590, .int .u64 t591, .int .u64 t592, .int .i64 0]) ?_ 4 _ rfl; (with_reducible repeat (first | refine blk_drewN ?_ _ | refine blk_drew ?_ | refine blk_alloc ?_ _)); refine blk_put (cs := #[.int .u64 t589, .int .u64 t590, .int .u64 t591, .int .u64 0, .int .i64 0]) ?_ 3 _ rfl; (with_reducible repeat (first | refine blk_drewN ?_ _ | refine blk_drew ?_ | refine blk_alloc ?_ _)); refine blk_put (cs := #[.int .u64 t589, .int .u64 t590, .int .u64 0, .int .u64 0, .int .i64 0]) ?_ 2 _ rfl; (with_reducible repeat (first | refine blk_drewN ?_ _ | refine blk_drew ?_ | refine blk_alloc ?_ _)); refine blk_put (cs := #[.int .u64 t589, .int .u64 0, .int .u64 0, .int .u64 0, .int .i64 0]) ?_ 1 _ rfl; (with_reducible repeat (first | refine blk_drewN ?_ _ | refine blk_drew ?_ | refine blk_alloc ?_ _)); refine blk_put (cs := #[.int .u64 0, .int .u64 0, .int .u64 0, .int .u64 0, .int .i64 0]) ?_ 0 _ rfl; (with_reducible repeat (first | refine blk_drewN ?_ _ | refine blk_drew ?_ | refine blk_alloc ?_ _)); exact BK594.out) hb); replace HB := Kt_ HB GE594 hb; (try clear hb); (try clear hb2); (try clear hk); (try clear hi); have hcz50_0 : w49.cell? ⟨gb594, 0, none⟩ = some (.int .u64 t589) := (blk_cell BK594.out 0).trans rfl; have hcz50_1 : w49.cell? ⟨gb594, 1, none⟩ = some (.int .u64 t590) := (blk_cell BK594.out 1).trans rfl; have hcz50_2 : w49.cell? ⟨gb594, 2, none⟩ = some (.int .u64 t591) := (blk_cell BK594.out 2).trans rfl; have hcz50_3 : w49.cell? ⟨gb594, 3, none⟩ = some (.int .u64 t592) := (blk_cell BK594.out 3).trans rfl; have hcz50_4 : w49.cell? ⟨gb594, 4, none⟩ = some (.int .i64 t593) := (blk_cell BK594.out 4).trans rfl; have hfz50_0 := blk_frozen BK594.out 0; have hfz50_1 := blk_frozen BK594.out 1; have hfz50_2 := blk_frozen BK594.out 2; have hfz50_3 := blk_frozen BK594.out 3; have hfz50_4 := blk_frozen BK594.out 4) | ((with_reducible refine gate_callee (f := 12) rfl ?_); refine goesL_ (some 36) rfl rfl Tryd.func12 (by kernel_rfl) rfl #[.agg #[.int .u64 t589, .int .u64 t590, .int .u64 t591, .int .u64 t592, .int .i64 t593]] rfl (by (try simp only [List.map_toArray, List.map_cons, List.map_nil]); first | done | rfl | (simp only [List.length_drop, List.length_take]; rfl)) ?_; (with_reducible refine (stamp_Put.calls k t589 t590 t591 t592 t593 t597 true _ A10.out).mono ?_); rintro e w51 ⟨rfl, hb⟩; refine ⟨_, rfl, ?_⟩; replace BK580 := Kb_ BK580 hb; replace BK581 := Kb_ BK581 hb; replace BK588 := Kb_ BK588 hb; replace BK594 := Kb_ BK594 hb; replace HB := Ks_ HB hb; (try clear hb); (try clear hb2); (try clear hk); (try clear hi)) | ((with_reducible refine gate_callee (f := 28) rfl ?_); refine goesL_ (some 46) rfl rfl Tryd.func28 (by kernel_rfl) rfl #[.agg #[.string (t595 ++ a2), .bool false]] rfl (by (try simp only [List.map_toArray, List.map_cons, List.map_nil]); first | done | rfl | (simp only [List.length_drop, List.length_take]; rfl)) ?_; (with_reducible refine (stamp_Get.calls k (t595 ++ a2) false t599 t600 t601 t602 t603 t604 false _ A13.out).mono ?_); rintro e w52 ⟨rfl, hb⟩; refine ⟨_, rfl, ?_⟩; replace BK580 := Kb_ BK580 hb; replace BK581 := Kb_ BK581 hb; replace BK588 := Kb_ BK588 hb; replace BK594 := Kb_ BK594 hb; replace HB := Ks_ HB hb; (try clear hb); (try clear hb2); (try clear hk); (try clear hi)) | ((with_reducible refine gate_dst (N := 16) rfl ?_); refine box_event ?hg (N := 16) ?hd (cs := #[.int .u64 0, .int .u64 0, .int .u64 0, .int .u64 0, .int .i64 0]) (t := 26) ?hr ?_; (case hd => rfl); (case hg => rfl); (case hr => first | (go_simp; done) | (go_simp; rfl)); intro gb606 hg w53 hbox hb; have BK606 := Aside0.mk (hbox); have GW606 := Kw_ HB hg; have GE606 := GW606; have NB580_606 := Kl_ BK580 hg; have NB606_580 := Kr_ BK580 hg; have NB581_606 := Kl_ BK581 hg; have NB606_581 := Kr_ BK581 hg; have NB588_606 := Kl_ BK588 hg; have NB606_588 := Kr_ BK588 hg; have NB594_606 := Kl_ BK594 hg; have NB606_594 := Kr_ BK594 hg; replace BK580 := Kb_ BK580 hb; replace BK581 := Kb_ BK581 hb; replace BK588 := Kb_ BK588 hb; replace BK594 := Kb_ BK594 hb; replace HB := Ks_ HB hb; clear hb hbox hg) | ((with_reducible refine gate_dst (N := 17) rfl ?_); refine box_event ?hg (N := 17) ?hd (cs := #[.string (⟨#[]⟩ : ByteArray), .bool false]) (t := 55) ?hr ?_; (case hd => rfl); (case hg => rfl); (case hr => first | (go_simp; done) | (go_simp; rfl)); intro gb607 hg w54 hbox hb; have BK607 := Aside0.mk (hbox); have GW607 := Kw_ HB hg; have GE607 := GW607; have NB580_607 := Kl_ BK580 hg; have NB607_580 := Kr_ BK580 hg; have NB581_607 := Kl_ BK581 hg; have NB607_581 := Kr_ BK581 hg; have NB588_607 := Kl_ BK588 hg; have NB607_588 := Kr_ BK588 hg; have NB594_607 := Kl_ BK594 hg; have NB607_594 := Kr_ BK594 hg; have NB606_607 := Kl_ BK606 hg; have NB607_606 := Kr_ BK606 hg; replace BK580 := Kb_ BK580 hb; replace BK581 := Kb_ BK581 hb; replace BK588 := Kb_ BK588 hb; replace BK594 := Kb_ BK594 hb; replace BK606 := Kb_ BK606 hb; replace HB := Ks_ HB hb; clear hb hbox hg; have hnb55 := NB606_580.out; have hnc55 := NB580_606.out; have hnb56 := NB606_581.out; have hnc56 := NB581_606.out; have hnb57 := NB606_588.out; have hnc57 := NB588_606.out; have hnb58 := NB606_594.out; have hnc58 := NB594_606.out; have hnb59 := NB606_607.out; have hnc59 := NB607_606.out; have hcz60_0 : w54.cell? ⟨gb606, 0, none⟩ = some (.int .u64 0) := (blk_cell BK606.out 0).trans rfl; have hcz60_1 : w54.cell? ⟨gb606, 1, none⟩ = some (.int .u64 0) := (blk_cell BK606.out 1).trans rfl; have hcz60_2 : w54.cell? ⟨gb606, 2, none⟩ = some (.int .u64 0) := (blk_cell BK606.out 2).trans rfl; have hcz60_3 : w54.cell? ⟨gb606, 3, none⟩ = some (.int .u64 0) := (blk_cell BK606.out 3).trans rfl; have hcz60_4 : w54.cell? ⟨gb606, 4, none⟩ = some (.int .i64 0) := (blk_cell BK606.out 4).trans rfl; have hfz60_0 := blk_frozen BK606.out 0; have hfz60_1 := blk_frozen BK606.out 1; have hfz60_2 := blk_frozen BK606.out 2; have hfz60_3 := blk_frozen BK606.out 3; have hfz60_4 := blk_frozen BK606.out 4; have hnb61 := NB607_580.out; have hnc61 := NB580_607.out; have hnb62 := NB607_581.out; have hnc62 := NB581_607.out; have hnb63 := NB607_588.out; have hnc63 := NB588_607.out; have hnb64 := NB607_594.out; have hnc64 := NB594_607.out; have hcz65_0 : w54.cell? ⟨gb607, 0, none⟩ = some (.string (⟨#[]⟩ : ByteArray)) := (blk_cell BK607.out 0).trans rfl; have hcz65_1 : w54.cell? ⟨gb607, 1, none⟩ = some (.bool false) := (blk_cell BK607.out 1).trans rfl; have hfz65_0 := blk_frozen BK607.out 0; have hfz65_1 := blk_frozen BK607.out 1) | ((with_reducible refine gate_callee (f := 28) rfl ?_); refine goesL_ (some 58) rfl rfl Tryd.func28 (by kernel_rfl) rfl #[.agg #[.string (t595.extract 0 ((ji15) : Int).toNat), .bool false]] rfl (by (try simp only [List.map_toArray, List.map_cons, List.map_nil]); first | done | (simp only [hji15]; rfl) | rfl | (simp only [List.length_drop, List.length_take]; rfl)) ?_; (with_reducible refine (stamp_Get.calls k (t595.extract 0 ((ji15) : Int).toNat) false t608 t609 t610 t611 t612 t613 true _ A18.out).mono ?_); rintro e w66 ⟨rfl, hb⟩; refine ⟨_, rfl, ?_⟩; replace BK580 := Aside0.mk (blk_below (g := gb580) (o := .cells #[.int .u64 a0_0, .int .u64 a0_1, .int .u64 a0_2, .int .u64 a0_3, .int .i64 a0_4, .bool true] 28 (0, 0)) (by (repeat (first | (with_reducible first | refine blk_drewN ?_ _ | refine blk_drew ?_ | refine blk_alloc ?_ _) | refine blk_far ?_ NB580_607.out _ | refine blk_far ?_ NB580_606.out _)); exact BK580.out) hb); replace BK581 := Aside0.mk (blk_below (g := gb581) (o := .cells #[.int .u64 a1_0, .int .u64 a1_1, .int .u64 a1_2, .int .u64 a1_3, .int .i64 a1_4, .bool true] 28 (0, 0)) (by (repeat (first | (with_reducible first | refine blk_drewN ?_ _ | refine blk_drew ?_ | refine blk_alloc ?_ _) | refine blk_far ?_ NB581_607.out _ | refine blk_far ?_ NB581_606.out _)); exact BK581.out) hb); replace BK588 := Aside0.mk (blk_below (g := gb588) (o := .cells #[.int .u64 t583, .int .u64 t584, .int .u64 t585, .int .u64 t586, .int .i64 t587] 26 (0, 0)) (by (repeat (first | (with_reducible first | refine blk_drewN ?_ _ | refine blk_drew ?_ | refine blk_alloc ?_ _) | refine blk_far ?_ NB588_607.out _ | refine blk_far ?_ NB588_606.out _)); exact BK588.out) hb); replace BK594 := Aside0.mk (blk_below (g := gb594) (o := .cells #[.int .u64 t589, .int .u64 t590, .int .u64 t591, .int .u64 t592, .int .i64 t593] 26 (0, 0)) (by (repeat (first | (with_reducible first | refine blk_drewN ?_ _ | refine blk_drew ?_ | refine blk_alloc ?_ _) | refine blk_far ?_ NB594_607.out _ | refine blk_far ?_ NB594_606.out _)); exact BK594.out) hb); replace BK606 := Aside0.mk (blk_below (g := gb606) (o := .cells #[.int .u64 t599, .int .u64 t600, .int .u64 t601, .int .u64 t602, .int .i64 t603] 26 (0, 0)) (by (repeat (first | (with_reducible first | refine blk_drewN ?_ _ | refine blk_drew ?_ | refine blk_alloc ?_ _) | refine blk_far ?_ NB606_607.out _)); refine blk_put (cs := #[.int .u64 t599, .int .u64 t600, .int .u64 t601, .int .u64 t602, .int .i64 0]) ?_ 4 _ rfl; (with_reducible repeat (first | refine blk_drewN ?_ _ | refine blk_drew ?_ | refine blk_alloc ?_ _)); refine blk_put (cs := #[.int .u64 t599, .int .u64 t600, .int .u64 t601, .int .u64 0, .int .i64 0]) ?_ 3 _ rfl; (with_reducible repeat (first | refine blk_drewN ?_ _ | refine blk_drew ?_ | refine blk_alloc ?_ _)); refine blk_put (cs := #[.int .u64 t599, .int .u64 t600, .int .u64 0, .int .u64 0, .int .i64 0]) ?_ 2 _ rfl; (with_reducible repeat (first | refine blk_drewN ?_ _ | refine blk_drew ?_ | refine blk_alloc ?_ _)); refine blk_put (cs := #[.int .u64 t599, .int .u64 0, .int .u64 0, .int .u64 0, .int .i64 0]) ?_ 1 _ rfl; (with_reducible repeat (first | refine blk_drewN ?_ _ | refine blk_drew ?_ | refine blk_alloc ?_ _)); refine blk_put (cs := #[.int .u64 0, .int .u64 0, .int .u64 0, .int .u64 0, .int .i64 0]) ?_ 0 _ rfl; (with_reducible repeat (first | refine blk_drewN ?_ _ | refine blk_drew ?_ | refine blk_alloc ?_ _)); exact BK606.out) hb); replace BK607 := Aside0.mk (blk_below (g := gb607) (o := .cells #[.string t604, .bool false] 55 (0, 0)) (by (with_reducible repeat (first | refine blk_drewN ?_ _ | refine blk_drew ?_ | refine blk_alloc ?_ _)); refine blk_put (cs := #[.string t604, .bool false]) ?_ 1 _ rfl; (with_reducible repeat (first | refine blk_drewN ?_ _ | refine blk_drew ?_ | refine blk_alloc ?_ _)); refine blk_put (cs := #[.string (⟨#[]⟩ : ByteArray), .bool false]) ?_ 0 _ rfl; (repeat (first | (with_reducible first | refine blk_drewN ?_ _ | refine blk_drew ?_ | refine blk_alloc ?_ _) | refine blk_far ?_ NB607_606.out _)); exact BK607.out) hb); replace HB := Aside0.mk (below_step (by repeat (first | (with_reducible first | exact HB.out | apply below_alloc | apply pw_below_drewN | apply below_drew1 | refine below_set ?_ GE580.out | refine below_set ?_ GE581.out | refine below_set ?_ GE588.out | refine below_set ?_ GE594.out | refine below_set ?_ GE606.out | refine below_set ?_ GE607.out) | exact HB.out)) hb); (try clear hb); (try clear hb2); (try clear hk); (try clear hi)) | ((with_reducible refine gate_dst (N := 18) rfl ?_); refine box_event ?hg (N := 18) ?hd (cs := #[.int .u64 0, .int .u64 0, .int .u64 0, .int .u64 0, .int .i64 0]) (t := 26) ?hr ?_; (case hd => rfl); (case hg => rfl); (case hr => first | (go_simp; done) | (go_simp; rfl)); intro gb615 hg w67 hbox hb; have BK615 := Aside0.mk (hbox); have GW615 := Kw_ HB hg; have GE615 := GW615; have NB580_615 := Kl_ BK580 hg; have NB615_580 := Kr_ BK580 hg; have NB581_615 := Kl_ BK581 hg; have NB615_581 := Kr_ BK581 hg; have NB588_615 := Kl_ BK588 hg; have NB615_588 := Kr_ BK588 hg; have NB594_615 := Kl_ BK594 hg; have NB615_594 := Kr_ BK594 hg; have NB606_615 := Kl_ BK606 hg; have NB615_606 := Kr_ BK606 hg; have NB607_615 := Kl_ BK607 hg; have NB615_607 := Kr_ BK607 hg; replace BK580 := Kb_ BK580 hb; replace BK581 := Kb_ BK581 hb; replace BK588 := Kb_ BK588 hb; replace BK594 := Kb_ BK594 hb; replace BK606 := Kb_ BK606 hb; replace BK607 := Kb_ BK607 hb; replace HB := Ks_ HB hb; clear hb hbox hg) | ((with_reducible refine gate_dst (N := 19) rfl ?_); refine box_event ?hg (N := 19) ?hd (cs := #[.string (⟨#[]⟩ : ByteArray), .bool false]) (t := 55) ?hr ?_; (case hd => rfl); (case hg => rfl); (case hr => first | (go_simp; done) | (go_simp; rfl)); intro gb616 hg w68 hbox hb; have BK616 := Aside0.mk (hbox); have GW616 := Kw_ HB hg; have GE616 := GW616; have NB580_616 := Kl_ BK580 hg; have NB616_580 := Kr_ BK580 hg; have NB581_616 := Kl_ BK581 hg; have NB616_581 := Kr_ BK581 hg; have NB588_616 := Kl_ BK588 hg; have NB616_588 := Kr_ BK588 hg; have NB594_616 := Kl_ BK594 hg; have NB616_594 := Kr_ BK594 hg; have NB606_616 := Kl_ BK606 hg; have NB616_606 := Kr_ BK606 hg; have NB607_616 := Kl_ BK607 hg; have NB616_607 := Kr_ BK607 hg; have NB615_616 := Kl_ BK615 hg; have NB616_615 := Kr_ BK615 hg; replace BK580 := Kb_ BK580 hb; replace BK581 := Kb_ BK581 hb; replace BK588 := Kb_ BK588 hb; replace BK594 := Kb_ BK594 hb; replace BK606 := Kb_ BK606 hb; replace BK607 := Kb_ BK607 hb; replace BK615 := Kb_ BK615 hb; replace HB := Ks_ HB hb; clear hb hbox hg; have hnb69 := NB615_580.out; have hnc69 := NB580_615.out; have hnb70 := NB615_581.out; have hnc70 := NB581_615.out; have hnb71 := NB615_588.out; have hnc71 := NB588_615.out; have hnb72 := NB615_594.out; have hnc72 := NB594_615.out; have hnb73 := NB615_606.out; have hnc73 := NB606_615.out; have hnb74 := NB615_607.out; have hnc74 := NB607_615.out; have hnb75 := NB615_616.out; have hnc75 := NB616_615.out; have hcz76_0 : w68.cell? ⟨gb615, 0, none⟩ = some (.int .u64 0) := (blk_cell BK615.out 0).trans rfl; have hcz76_1 : w68.cell? ⟨gb615, 1, none⟩ = some (.int .u64 0) := (blk_cell BK615.out 1).trans rfl; have hcz76_2 : w68.cell? ⟨gb615, 2, none⟩ = some (.int .u64 0) := (blk_cell BK615.out 2).trans rfl; have hcz76_3 : w68.cell? ⟨gb615, 3, none⟩ = some (.int .u64 0) := (blk_cell BK615.out 3).trans rfl; have hcz76_4 : w68.cell? ⟨gb615, 4, none⟩ = some (.int .i64 0) := (blk_cell BK615.out 4).trans rfl; have hfz76_0 := blk_frozen BK615.out 0; have hfz76_1 := blk_frozen BK615.out 1; have hfz76_2 := blk_frozen BK615.out 2; have hfz76_3 := blk_frozen BK615.out 3; have hfz76_4 := blk_frozen BK615.out 4; have hnb77 := NB616_580.out; have hnc77 := NB580_616.out; have hnb78 := NB616_581.out; have hnc78 := NB581_616.out; have hnb79 := NB616_588.out; have hnc79 := NB588_616.out; have hnb80 := NB616_594.out; have hnc80 := NB594_616.out; have hnb81 := NB616_606.out; have hnc81 := NB606_616.out; have hnb82 := NB616_607.out; have hnc82 := NB607_616.out; have hcz83_0 : w68.cell? ⟨gb616, 0, none⟩ = some (.string (⟨#[]⟩ : ByteArray)) := (blk_cell BK616.out 0).trans rfl; have hcz83_1 : w68.cell? ⟨gb616, 1, none⟩ = some (.bool false) := (blk_cell BK616.out 1).trans rfl; have hfz83_0 := blk_frozen BK616.out 0; have hfz83_1 := blk_frozen BK616.out 1))
    have n0_ : Aside0 ((((((((w68.setCell ⟨gb615, 0, none⟩ (.int .u64 t608)).setCell ⟨gb615, 1, none⟩ (.int .u64 t609)).setCell ⟨gb615, 2, none⟩ (.int .u64 t610)).setCell ⟨gb615, 3, none⟩ (.int .u64 t611)).setCell ⟨gb615, 4, none⟩ (.int .i64 t612)).setCell ⟨gb616, 0, none⟩ (.string t613)).setCell ⟨gb616, 1, none⟩ (.bool true)).heap[gb580]? = some (.cells #[.int .u64 a0_0, .int .u64 a0_1, .int .u64 a0_2, .int .u64 a0_3, .int .i64 a0_4, .bool true] 28 (0, 0))) := ⟨by (repeat (first | (with_reducible first | refine blk_drewN ?_ _ | refine blk_drew ?_ | refine blk_alloc ?_ _) | refine blk_far ?_ NB580_616.out _ | refine blk_far ?_ NB580_615.out _)); exact BK580.out⟩
    have n1_ : Aside0 ((((((((w68.setCell ⟨gb615, 0, none⟩ (.int .u64 t608)).setCell ⟨gb615, 1, none⟩ (.int .u64 t609)).setCell ⟨gb615, 2, none⟩ (.int .u64 t610)).setCell ⟨gb615, 3, none⟩ (.int .u64 t611)).setCell ⟨gb615, 4, none⟩ (.int .i64 t612)).setCell ⟨gb616, 0, none⟩ (.string t613)).setCell ⟨gb616, 1, none⟩ (.bool true)).heap[gb581]? = some (.cells #[.int .u64 a1_0, .int .u64 a1_1, .int .u64 a1_2, .int .u64 a1_3, .int .i64 a1_4, .bool true] 28 (0, 0))) := ⟨by (repeat (first | (with_reducible first | refine blk_drewN ?_ _ | refine blk_drew ?_ | refine blk_alloc ?_ _) | refine blk_far ?_ NB581_616.out _ | refine blk_far ?_ NB581_615.out _)); exact BK581.out⟩
    have n2_ : Aside0 ((((((((w68.setCell ⟨gb615, 0, none⟩ (.int .u64 t608)).setCell ⟨gb615, 1, none⟩ (.int .u64 t609)).setCell ⟨gb615, 2, none⟩ (.int .u64 t610)).setCell ⟨gb615, 3, none⟩ (.int .u64 t611)).setCell ⟨gb615, 4, none⟩ (.int .i64 t612)).setCell ⟨gb616, 0, none⟩ (.string t613)).setCell ⟨gb616, 1, none⟩ (.bool true)).heap[gb588]? = some (.cells #[.int .u64 t583, .int .u64 t584, .int .u64 t585, .int .u64 t586, .int .i64 t587] 26 (0, 0))) := ⟨by (repeat (first | (with_reducible first | refine blk_drewN ?_ _ | refine blk_drew ?_ | refine blk_alloc ?_ _) | refine blk_far ?_ NB588_616.out _ | refine blk_far ?_ NB588_615.out _)); exact BK588.out⟩
    have n3_ : Aside0 ((((((((w68.setCell ⟨gb615, 0, none⟩ (.int .u64 t608)).setCell ⟨gb615, 1, none⟩ (.int .u64 t609)).setCell ⟨gb615, 2, none⟩ (.int .u64 t610)).setCell ⟨gb615, 3, none⟩ (.int .u64 t611)).setCell ⟨gb615, 4, none⟩ (.int .i64 t612)).setCell ⟨gb616, 0, none⟩ (.string t613)).setCell ⟨gb616, 1, none⟩ (.bool true)).heap[gb594]? = some (.cells #[.int .u64 t589, .int .u64 t590, .int .u64 t591, .int .u64 t592, .int .i64 t593] 26 (0, 0))) := ⟨by (repeat (first | (with_reducible first | refine blk_drewN ?_ _ | refine blk_drew ?_ | refine blk_alloc ?_ _) | refine blk_far ?_ NB594_616.out _ | refine blk_far ?_ NB594_615.out _)); exact BK594.out⟩
    have n4_ : Aside0 ((((((((w68.setCell ⟨gb615, 0, none⟩ (.int .u64 t608)).setCell ⟨gb615, 1, none⟩ (.int .u64 t609)).setCell ⟨gb615, 2, none⟩ (.int .u64 t610)).setCell ⟨gb615, 3, none⟩ (.int .u64 t611)).setCell ⟨gb615, 4, none⟩ (.int .i64 t612)).setCell ⟨gb616, 0, none⟩ (.string t613)).setCell ⟨gb616, 1, none⟩ (.bool true)).heap[gb606]? = some (.cells #[.int .u64 t599, .int .u64 t600, .int .u64 t601, .int .u64 t602, .int .i64 t603] 26 (0, 0))) := ⟨by (repeat (first | (with_reducible first | refine blk_drewN ?_ _ | refine blk_drew ?_ | refine blk_alloc ?_ _) | refine blk_far ?_ NB606_616.out _ | refine blk_far ?_ NB606_615.out _)); exact BK606.out⟩
    have n5_ : Aside0 ((((((((w68.setCell ⟨gb615, 0, none⟩ (.int .u64 t608)).setCell ⟨gb615, 1, none⟩ (.int .u64 t609)).setCell ⟨gb615, 2, none⟩ (.int .u64 t610)).setCell ⟨gb615, 3, none⟩ (.int .u64 t611)).setCell ⟨gb615, 4, none⟩ (.int .i64 t612)).setCell ⟨gb616, 0, none⟩ (.string t613)).setCell ⟨gb616, 1, none⟩ (.bool true)).heap[gb607]? = some (.cells #[.string t604, .bool false] 55 (0, 0))) := ⟨by (repeat (first | (with_reducible first | refine blk_drewN ?_ _ | refine blk_drew ?_ | refine blk_alloc ?_ _) | refine blk_far ?_ NB607_616.out _ | refine blk_far ?_ NB607_615.out _)); exact BK607.out⟩
    have n6_ : Aside0 ((((((((w68.setCell ⟨gb615, 0, none⟩ (.int .u64 t608)).setCell ⟨gb615, 1, none⟩ (.int .u64 t609)).setCell ⟨gb615, 2, none⟩ (.int .u64 t610)).setCell ⟨gb615, 3, none⟩ (.int .u64 t611)).setCell ⟨gb615, 4, none⟩ (.int .i64 t612)).setCell ⟨gb616, 0, none⟩ (.string t613)).setCell ⟨gb616, 1, none⟩ (.bool true)).heap[gb615]? = some (.cells #[.int .u64 t608, .int .u64 t609, .int .u64 t610, .int .u64 t611, .int .i64 t612] 26 (0, 0))) := ⟨by (repeat (first | (with_reducible first | refine blk_drewN ?_ _ | refine blk_drew ?_ | refine blk_alloc ?_ _) | refine blk_far ?_ NB615_616.out _)); refine blk_put (cs := #[.int .u64 t608, .int .u64 t609, .int .u64 t610, .int .u64 t611, .int .i64 0]) ?_ 4 _ rfl; (with_reducible repeat (first | refine blk_drewN ?_ _ | refine blk_drew ?_ | refine blk_alloc ?_ _)); refine blk_put (cs := #[.int .u64 t608, .int .u64 t609, .int .u64 t610, .int .u64 0, .int .i64 0]) ?_ 3 _ rfl; (with_reducible repeat (first | refine blk_drewN ?_ _ | refine blk_drew ?_ | refine blk_alloc ?_ _)); refine blk_put (cs := #[.int .u64 t608, .int .u64 t609, .int .u64 0, .int .u64 0, .int .i64 0]) ?_ 2 _ rfl; (with_reducible repeat (first | refine blk_drewN ?_ _ | refine blk_drew ?_ | refine blk_alloc ?_ _)); refine blk_put (cs := #[.int .u64 t608, .int .u64 0, .int .u64 0, .int .u64 0, .int .i64 0]) ?_ 1 _ rfl; (with_reducible repeat (first | refine blk_drewN ?_ _ | refine blk_drew ?_ | refine blk_alloc ?_ _)); refine blk_put (cs := #[.int .u64 0, .int .u64 0, .int .u64 0, .int .u64 0, .int .i64 0]) ?_ 0 _ rfl; (with_reducible repeat (first | refine blk_drewN ?_ _ | refine blk_drew ?_ | refine blk_alloc ?_ _)); exact BK615.out⟩
    have n7_ : Aside0 ((((((((w68.setCell ⟨gb615, 0, none⟩ (.int .u64 t608)).setCell ⟨gb615, 1, none⟩ (.int .u64 t609)).setCell ⟨gb615, 2, none⟩ (.int .u64 t610)).setCell ⟨gb615, 3, none⟩ (.int .u64 t611)).setCell ⟨gb615, 4, none⟩ (.int .i64 t612)).setCell ⟨gb616, 0, none⟩ (.string t613)).setCell ⟨gb616, 1, none⟩ (.bool true)).heap[gb616]? = some (.cells #[.string t613, .bool true] 55 (0, 0))) := ⟨by (with_reducible repeat (first | refine blk_drewN ?_ _ | refine blk_drew ?_ | refine blk_alloc ?_ _)); refine blk_put (cs := #[.string t613, .bool false]) ?_ 1 _ rfl; (with_reducible repeat (first | refine blk_drewN ?_ _ | refine blk_drew ?_ | refine blk_alloc ?_ _)); refine blk_put (cs := #[.string (⟨#[]⟩ : ByteArray), .bool false]) ?_ 0 _ rfl; (repeat (first | (with_reducible first | refine blk_drewN ?_ _ | refine blk_drew ?_ | refine blk_alloc ?_ _) | refine blk_far ?_ NB616_615.out _)); exact BK616.out⟩
    have n8_ : Aside0 (Below w.heap.size w (((((((w68.setCell ⟨gb615, 0, none⟩ (.int .u64 t608)).setCell ⟨gb615, 1, none⟩ (.int .u64 t609)).setCell ⟨gb615, 2, none⟩ (.int .u64 t610)).setCell ⟨gb615, 3, none⟩ (.int .u64 t611)).setCell ⟨gb615, 4, none⟩ (.int .i64 t612)).setCell ⟨gb616, 0, none⟩ (.string t613)).setCell ⟨gb616, 1, none⟩ (.bool true))) := ⟨by repeat (first | (with_reducible first | exact HB.out | apply below_alloc | apply pw_below_drewN | apply below_drew1 | refine below_set ?_ GE580.out | refine below_set ?_ GE581.out | refine below_set ?_ GE588.out | refine below_set ?_ GE594.out | refine below_set ?_ GE606.out | refine below_set ?_ GE607.out | refine below_set ?_ GE615.out | refine below_set ?_ GE616.out) | exact HB.out)⟩
    (try clear BK580)
    (try clear BK581)
    (try clear BK588)
    (try clear BK594)
    (try clear BK606)
    (try clear BK607)
    (try clear BK615)
    (try clear BK616)
    (try clear HB)
    generalize (((((((w68.setCell ⟨gb615, 0, none⟩ (.int .u64 t608)).setCell ⟨gb615, 1, none⟩ (.int .u64 t609)).setCell ⟨gb615, 2, none⟩ (.int .u64 t610)).setCell ⟨gb615, 3, none⟩ (.int .u64 t611)).setCell ⟨gb615, 4, none⟩ (.int .i64 t612)).setCell ⟨gb616, 0, none⟩ (.string t613)).setCell ⟨gb616, 1, none⟩ (.bool true)) = w84 at n0_ n1_ n2_ n3_ n4_ n5_ n6_ n7_ n8_ ⊢
    have BK580 := n0_
    have BK581 := n1_
    have BK588 := n2_
    have BK594 := n3_
    have BK606 := n4_
    have BK607 := n5_
    have BK615 := n6_
    have BK616 := n7_
    have HB := n8_
    clear n0_ n1_ n2_ n3_ n4_ n5_ n6_ n7_ n8_
    replace BK580 := Kd_ BK580
    replace BK581 := Kd_ BK581
    replace BK588 := Kd_ BK588
    replace BK594 := Kd_ BK594
    replace BK606 := Kd_ BK606
    replace BK607 := Kd_ BK607
    replace BK615 := Kd_ BK615
    replace BK616 := Kd_ BK616
    replace HB := Aside0.mk (below_drew1 HB.out)
    refine start_ (n := 48) (S := fun w' => w'.cell? ⟨gb606, 0, none⟩ = some (.int .u64 t599) ∧ w'.cell? ⟨gb606, 1, none⟩ = some (.int .u64 t600) ∧ w'.cell? ⟨gb606, 2, none⟩ = some (.int .u64 t601) ∧ w'.cell? ⟨gb606, 3, none⟩ = some (.int .u64 t602) ∧ w'.cell? ⟨gb606, 4, none⟩ = some (.int .i64 t603) ∧ w'.cell? ⟨gb588, 0, none⟩ = some (.int .u64 t583) ∧ w'.cell? ⟨gb588, 1, none⟩ = some (.int .u64 t584) ∧ w'.cell? ⟨gb588, 2, none⟩ = some (.int .u64 t585) ∧ w'.cell? ⟨gb588, 3, none⟩ = some (.int .u64 t586) ∧ w'.cell? ⟨gb588, 4, none⟩ = some (.int .i64 t587) ∧ w'.cell? ⟨gb607, 0, none⟩ = some (.string t604) ∧ w'.cell? ⟨gb607, 1, none⟩ = some (.bool false) ∧ w'.cell? ⟨gb616, 0, none⟩ = some (.string t613) ∧ w'.cell? ⟨gb616, 1, none⟩ = some (.bool true) ∧ w'.cell? ⟨gb594, 0, none⟩ = some (.int .u64 t589) ∧ w'.cell? ⟨gb594, 1, none⟩ = some (.int .u64 t590) ∧ w'.cell? ⟨gb594, 2, none⟩ = some (.int .u64 t591) ∧ w'.cell? ⟨gb594, 3, none⟩ = some (.int .u64 t592) ∧ w'.cell? ⟨gb594, 4, none⟩ = some (.int .i64 t593)) (ds := []) #[false, false, false, false, false, false, false, false, false, false, false, false, false, false, false, false, false, false, false, false, false, false, false, false, false, false, false, false, false, false, false, false, false, false, false, false, false, false, false, false, false, false, false, false, false, false, false, false] (by kernel_rfl) rfl rfl ⟨(blk_cell BK606.out 0).trans rfl, (blk_cell BK606.out 1).trans rfl, (blk_cell BK606.out 2).trans rfl, (blk_cell BK606.out 3).trans rfl, (blk_cell BK606.out 4).trans rfl, (blk_cell BK588.out 0).trans rfl, (blk_cell BK588.out 1).trans rfl, (blk_cell BK588.out 2).trans rfl, (blk_cell BK588.out 3).trans rfl, (blk_cell BK588.out 4).trans rfl, (blk_cell BK607.out 0).trans rfl, (blk_cell BK607.out 1).trans rfl, (blk_cell BK616.out 0).trans rfl, (blk_cell BK616.out 1).trans rfl, (blk_cell BK594.out 0).trans rfl, (blk_cell BK594.out 1).trans rfl, (blk_cell BK594.out 2).trans rfl, (blk_cell BK594.out 3).trans rfl, (blk_cell BK594.out 4).trans rfl⟩ (fun hHeld => ?_); refine with_tabW tenementlaw07_StampBack.tab14 tenementlaw07_StampBack.bits14 (fun HT_ HW_ => ?_)
    generalize w84.drew = w85 at BK580 BK581 BK588 BK594 BK606 BK607 BK615 BK616 HB hHeld ⊢
    refine pure_ (i := 0) (N := some 61) (v := ?_) (a' := ?_) #[true, false, false, false, false, false, false, false, false, false, false, false, false, false, false, false, false, false, false, false, false, false, false, false, false, false, false, false, false, false, false, false, false, false, false, false, false, false, false, false, false, false, false, false, false, false, false, false] rfl rfl (any_of HT_.out (by kernel_rfl)) (fun _ _ _ h => h) (Or.inl ⟨by rfl, ?_⟩) ?_ ?_
    rotate_left
    · intro w'
      go_simp
      with_reducible rfl
    rotate_left
    · simp only [Act.put, List.setIfInBounds_toArray, List.set_cons_zero, List.set_cons_succ, i64_w, i32_w]
      rfl
    refine pure_ (i := 1) (N := some 62) (v := ?_) (a' := ?_) #[true, true, false, false, false, false, false, false, false, false, false, false, false, false, false, false, false, false, false, false, false, false, false, false, false, false, false, false, false, false, false, false, false, false, false, false, false, false, false, false, false, false, false, false, false, false, false, false] rfl rfl (any_of HT_.out (by kernel_rfl)) (fun _ _ _ h => h) (Or.inl ⟨by rfl, ?_⟩) ?_ ?_
    rotate_left
    · intro w'
      go_simp
      with_reducible rfl
    rotate_left
    · simp only [Act.put, List.setIfInBounds_toArray, List.set_cons_zero, List.set_cons_succ, i64_w, i32_w]
      rfl
    refine pure_ (i := 2) (N := some 63) (v := ?_) (a' := ?_) #[true, true, true, false, false, false, false, false, false, false, false, false, false, false, false, false, false, false, false, false, false, false, false, false, false, false, false, false, false, false, false, false, false, false, false, false, false, false, false, false, false, false, false, false, false, false, false, false] rfl rfl (any_of HT_.out (by kernel_rfl)) (fun _ _ _ h => h) (Or.inl ⟨by rfl, ?_⟩) ?_ ?_
    rotate_left
    · intro w'
      go_simp
      with_reducible rfl
    rotate_left
    · simp only [Act.put, List.setIfInBounds_toArray, List.set_cons_zero, List.set_cons_succ, i64_w, i32_w]
      rfl
    refine pure_ (i := 3) (N := some 64) (v := ?_) (a' := ?_) #[true, true, true, true, false, false, false, false, false, false, false, false, false, false, false, false, false, false, false, false, false, false, false, false, false, false, false, false, false, false, false, false, false, false, false, false, false, false, false, false, false, false, false, false, false, false, false, false] rfl rfl (any_of HT_.out (by kernel_rfl)) (fun _ _ _ h => h) (Or.inl ⟨by rfl, ?_⟩) ?_ ?_
    rotate_left
    · intro w'
      go_simp
      with_reducible rfl
    rotate_left
    · simp only [Act.put, List.setIfInBounds_toArray, List.set_cons_zero, List.set_cons_succ, i64_w, i32_w]
      rfl
    refine pure_ (i := 4) (N := some 65) (v := ?_) (a' := ?_) #[true, true, true, true, true, false, false, false, false, false, false, false, false, false, false, false, false, false, false, false, false, false, false, false, false, false, false, false, false, false, false, false, false, false, false, false, false, false, false, false, false, false, false, false, false, false, false, false] rfl rfl (any_of HT_.out (by kernel_rfl)) (fun _ _ _ h => h) (Or.inl ⟨by rfl, ?_⟩) ?_ ?_
    rotate_left
    · intro w'
      go_simp
      with_reducible rfl
    rotate_left
    · simp only [Act.put, List.setIfInBounds_toArray, List.set_cons_zero, List.set_cons_succ, i64_w, i32_w]
      rfl
    refine pure_ (i := 5) (N := some 66) (v := ?_) (a' := ?_) #[true, true, true, true, true, true, false, false, false, false, false, false, false, false, false, false, false, false, false, false, false, false, false, false, false, false, false, false, false, false, false, false, false, false, false, false, false, false, false, false, false, false, false, false, false, false, false, false] rfl rfl (any_of HT_.out (by kernel_rfl)) (fun _ _ _ h => h) (Or.inl ⟨by rfl, ?_⟩) ?_ ?_
    rotate_left
    · intro w'
      go_simp
      with_reducible rfl
    rotate_left
    · simp only [Act.put, List.setIfInBounds_toArray, List.set_cons_zero, List.set_cons_succ, i64_w, i32_w]
      rfl
    refine pure_ (i := 6) (N := some 67) (v := ?_) (a' := ?_) #[true, true, true, true, true, true, true, false, false, false, false, false, false, false, false, false, false, false, false, false, false, false, false, false, false, false, false, false, false, false, false, false, false, false, false, false, false, false, false, false, false, false, false, false, false, false, false, false] rfl rfl (any_of HT_.out (by kernel_rfl)) (fun _ _ _ h => h) (Or.inl ⟨by rfl, ?_⟩) ?_ ?_
    rotate_left
    · intro w'
      go_simp
      with_reducible rfl
    rotate_left
    · simp only [Act.put, List.setIfInBounds_toArray, List.set_cons_zero, List.set_cons_succ, i64_w, i32_w]
      rfl
    refine pure_ (i := 7) (N := some 68) (v := ?_) (a' := ?_) #[true, true, true, true, true, true, true, true, false, false, false, false, false, false, false, false, false, false, false, false, false, false, false, false, false, false, false, false, false, false, false, false, false, false, false, false, false, false, false, false, false, false, false, false, false, false, false, false] rfl rfl (any_of HT_.out (by kernel_rfl)) (fun _ _ _ h => h) (Or.inl ⟨by rfl, ?_⟩) ?_ ?_
    rotate_left
    · intro w'
      go_simp
      with_reducible rfl
    rotate_left
    · simp only [Act.put, List.setIfInBounds_toArray, List.set_cons_zero, List.set_cons_succ, i64_w, i32_w]
      rfl
    refine take_ (i := 8) (N := some 69) (v := ?_) (a' := ?_) #[true, true, true, true, true, true, true, true, true, false, false, false, false, false, false, false, false, false, false, false, false, false, false, false, false, false, false, false, false, false, false, false, false, false, false, false, false, false, false, false, false, false, false, false, false, false, false, false] rfl rfl (take_ofW HT_.out HW_.out (by kernel_rfl)) (fun _ _ _ h => h) (Or.inl ⟨by rfl, ?_⟩) hHeld ?_ ?_
    rotate_left
    · rintro w' ⟨s0, s1, s2, s3, s4, s5, s6, s7, s8, s9, s10, s11, s12, s13, s14, s15, s16, s17, s18⟩
      go_simp
      with_reducible rfl
    rotate_left
    · simp only [Act.put, List.setIfInBounds_toArray, List.set_cons_zero, List.set_cons_succ, i64_w, i32_w]
      rfl
    refine take_ (i := 9) (N := some 70) (v := ?_) (a' := ?_) #[true, true, true, true, true, true, true, true, true, true, false, false, false, false, false, false, false, false, false, false, false, false, false, false, false, false, false, false, false, false, false, false, false, false, false, false, false, false, false, false, false, false, false, false, false, false, false, false] rfl rfl (take_ofW HT_.out HW_.out (by kernel_rfl)) (fun _ _ _ h => h) (Or.inl ⟨by rfl, ?_⟩) hHeld ?_ ?_
    rotate_left
    · rintro w' ⟨s0, s1, s2, s3, s4, s5, s6, s7, s8, s9, s10, s11, s12, s13, s14, s15, s16, s17, s18⟩
      go_simp
      with_reducible rfl
    rotate_left
    · simp only [Act.put, List.setIfInBounds_toArray, List.set_cons_zero, List.set_cons_succ, i64_w, i32_w]
      rfl
    refine pure_ (i := 10) (N := some 71) (v := ?_) (a' := ?_) #[true, true, true, true, true, true, true, true, true, true, true, false, false, false, false, false, false, false, false, false, false, false, false, false, false, false, false, false, false, false, false, false, false, false, false, false, false, false, false, false, false, false, false, false, false, false, false, false] rfl rfl (any_of HT_.out (by kernel_rfl)) (fun _ _ _ h => h) (Or.inl ⟨by rfl, ?_⟩) ?_ ?_
    rotate_left
    · intro w'
      go_simp
      with_reducible rfl
    rotate_left
    · simp only [Act.put, List.setIfInBounds_toArray, List.set_cons_zero, List.set_cons_succ, i64_w, i32_w]
      rfl
    refine pure_ (i := 11) (N := some 72) (v := ?_) (a' := ?_) #[true, true, true, true, true, true, true, true, true, true, true, true, false, false, false, false, false, false, false, false, false, false, false, false, false, false, false, false, false, false, false, false, false, false, false, false, false, false, false, false, false, false, false, false, false, false, false, false] rfl rfl (any_of HT_.out (by kernel_rfl)) (fun _ _ _ h => h) (Or.inl ⟨by rfl, ?_⟩) ?_ ?_
    rotate_left
    · intro w'
      go_simp
      with_reducible rfl
    rotate_left
    · simp only [Act.put, List.setIfInBounds_toArray, List.set_cons_zero, List.set_cons_succ, i64_w, i32_w]
      rfl
    refine pure_ (i := 12) (N := some 73) (v := ?_) (a' := ?_) #[true, true, true, true, true, true, true, true, true, true, true, true, true, false, false, false, false, false, false, false, false, false, false, false, false, false, false, false, false, false, false, false, false, false, false, false, false, false, false, false, false, false, false, false, false, false, false, false] rfl rfl (any_of HT_.out (by kernel_rfl)) (fun _ _ _ h => h) (Or.inl ⟨by rfl, ?_⟩) ?_ ?_
    rotate_left
    · intro w'
      go_simp
      with_reducible rfl
    rotate_left
    · simp only [Act.put, List.setIfInBounds_toArray, List.set_cons_zero, List.set_cons_succ, i64_w, i32_w]
      rfl
    refine pure_ (i := 13) (N := some 74) (v := ?_) (a' := ?_) #[true, true, true, true, true, true, true, true, true, true, true, true, true, true, false, false, false, false, false, false, false, false, false, false, false, false, false, false, false, false, false, false, false, false, false, false, false, false, false, false, false, false, false, false, false, false, false, false] rfl rfl (any_of HT_.out (by kernel_rfl)) (fun _ _ _ h => h) (Or.inl ⟨by rfl, ?_⟩) ?_ ?_
    rotate_left
    · intro w'
      go_simp
      with_reducible rfl
    rotate_left
    · simp only [Act.put, List.setIfInBounds_toArray, List.set_cons_zero, List.set_cons_succ, i64_w, i32_w]
      rfl
    refine pure_ (i := 15) (N := some 76) (v := ?_) (a' := ?_) #[true, true, true, true, true, true, true, true, true, true, true, true, true, true, false, true, false, false, false, false, false, false, false, false, false, false, false, false, false, false, false, false, false, false, false, false, false, false, false, false, false, false, false, false, false, false, false, false] rfl rfl (any_of HT_.out (by kernel_rfl)) (fun _ _ _ h => h) (Or.inl ⟨by rfl, ?_⟩) ?_ ?_
    rotate_left
    · intro w'
      go_simp
      with_reducible rfl
    rotate_left
    · simp only [Act.put, List.setIfInBounds_toArray, List.set_cons_zero, List.set_cons_succ, i64_w, i32_w]
      rfl
    refine take_ (i := 14) (N := some 75) (v := ?_) (a' := ?_) #[true, true, true, true, true, true, true, true, true, true, true, true, true, true, true, true, false, false, false, false, false, false, false, false, false, false, false, false, false, false, false, false, false, false, false, false, false, false, false, false, false, false, false, false, false, false, false, false] rfl rfl (take_ofW HT_.out HW_.out (by kernel_rfl)) (fun _ _ _ h => h) (Or.inl ⟨by rfl, ?_⟩) hHeld ?_ ?_
    rotate_left
    · rintro w' ⟨s0, s1, s2, s3, s4, s5, s6, s7, s8, s9, s10, s11, s12, s13, s14, s15, s16, s17, s18⟩
      go_simp
      with_reducible rfl
    rotate_left
    · simp only [Act.put, List.setIfInBounds_toArray, List.set_cons_zero, List.set_cons_succ, i64_w, i32_w]
      rfl
    refine pure_ (i := 16) (N := some 77) (v := ?_) (a' := ?_) #[true, true, true, true, true, true, true, true, true, true, true, true, true, true, true, true, true, false, false, false, false, false, false, false, false, false, false, false, false, false, false, false, false, false, false, false, false, false, false, false, false, false, false, false, false, false, false, false] rfl rfl (any_of HT_.out (by kernel_rfl)) (fun _ _ _ h => h) (Or.inl ⟨by rfl, ?_⟩) ?_ ?_
    rotate_left
    · intro w'
      go_simp
      with_reducible rfl
    rotate_left
    · simp only [Act.put, List.setIfInBounds_toArray, List.set_cons_zero, List.set_cons_succ, i64_w, i32_w]
      rfl
    refine pure_ (i := 17) (N := some 78) (v := ?_) (a' := ?_) #[true, true, true, true, true, true, true, true, true, true, true, true, true, true, true, true, true, true, false, false, false, false, false, false, false, false, false, false, false, false, false, false, false, false, false, false, false, false, false, false, false, false, false, false, false, false, false, false] rfl rfl (any_of HT_.out (by kernel_rfl)) (fun _ _ _ h => h) (Or.inl ⟨by rfl, ?_⟩) ?_ ?_
    rotate_left
    · intro w'
      go_simp
      with_reducible rfl
    rotate_left
    · simp only [Act.put, List.setIfInBounds_toArray, List.set_cons_zero, List.set_cons_succ, i64_w, i32_w]
      rfl
    refine pure_ (i := 18) (N := some 79) (v := ?_) (a' := ?_) #[true, true, true, true, true, true, true, true, true, true, true, true, true, true, true, true, true, true, true, false, false, false, false, false, false, false, false, false, false, false, false, false, false, false, false, false, false, false, false, false, false, false, false, false, false, false, false, false] rfl rfl (any_of HT_.out (by kernel_rfl)) (fun _ _ _ h => h) (Or.inl ⟨by rfl, ?_⟩) ?_ ?_
    rotate_left
    · intro w'
      go_simp
      with_reducible rfl
    rotate_left
    · simp only [Act.put, List.setIfInBounds_toArray, List.set_cons_zero, List.set_cons_succ, i64_w, i32_w]
      rfl
    refine pure_ (i := 19) (N := some 80) (v := ?_) (a' := ?_) #[true, true, true, true, true, true, true, true, true, true, true, true, true, true, true, true, true, true, true, true, false, false, false, false, false, false, false, false, false, false, false, false, false, false, false, false, false, false, false, false, false, false, false, false, false, false, false, false] rfl rfl (any_of HT_.out (by kernel_rfl)) (fun _ _ _ h => h) (Or.inl ⟨by rfl, ?_⟩) ?_ ?_
    rotate_left
    · intro w'
      go_simp
      with_reducible rfl
    rotate_left
    · simp only [Act.put, List.setIfInBounds_toArray, List.set_cons_zero, List.set_cons_succ, i64_w, i32_w]
      rfl
    refine take_ (i := 20) (N := some 81) (v := ?_) (a' := ?_) #[true, true, true, true, true, true, true, true, true, true, true, true, true, true, true, true, true, true, true, true, true, false, false, false, false, false, false, false, false, false, false, false, false, false, false, false, false, false, false, false, false, false, false, false, false, false, false, false] rfl rfl (take_ofW HT_.out HW_.out (by kernel_rfl)) (fun _ _ _ h => h) (Or.inl ⟨by rfl, ?_⟩) hHeld ?_ ?_
    rotate_left
    · rintro w' ⟨s0, s1, s2, s3, s4, s5, s6, s7, s8, s9, s10, s11, s12, s13, s14, s15, s16, s17, s18⟩
      go_simp
      with_reducible rfl
    rotate_left
    · simp only [Act.put, List.setIfInBounds_toArray, List.set_cons_zero, List.set_cons_succ, i64_w, i32_w]
      rfl
    refine pure_ (i := 21) (N := some 82) (v := ?_) (a' := ?_) #[true, true, true, true, true, true, true, true, true, true, true, true, true, true, true, true, true, true, true, true, true, true, false, false, false, false, false, false, false, false, false, false, false, false, false, false, false, false, false, false, false, false, false, false, false, false, false, false] rfl rfl (any_of HT_.out (by kernel_rfl)) (fun _ _ _ h => h) (Or.inl ⟨by rfl, ?_⟩) ?_ ?_
    rotate_left
    · intro w'
      go_simp
      with_reducible rfl
    rotate_left
    · simp only [Act.put, List.setIfInBounds_toArray, List.set_cons_zero, List.set_cons_succ, i64_w, i32_w]
      rfl
    refine pure_ (i := 22) (N := some 83) (v := ?_) (a' := ?_) #[true, true, true, true, true, true, true, true, true, true, true, true, true, true, true, true, true, true, true, true, true, true, true, false, false, false, false, false, false, false, false, false, false, false, false, false, false, false, false, false, false, false, false, false, false, false, false, false] rfl rfl (any_of HT_.out (by kernel_rfl)) (fun _ _ _ h => h) (Or.inl ⟨by rfl, ?_⟩) ?_ ?_
    rotate_left
    · intro w'
      go_simp
      with_reducible rfl
    rotate_left
    · simp only [Act.put, List.setIfInBounds_toArray, List.set_cons_zero, List.set_cons_succ, i64_w, i32_w]
      rfl
    refine pure_ (i := 23) (N := some 84) (v := ?_) (a' := ?_) #[true, true, true, true, true, true, true, true, true, true, true, true, true, true, true, true, true, true, true, true, true, true, true, true, false, false, false, false, false, false, false, false, false, false, false, false, false, false, false, false, false, false, false, false, false, false, false, false] rfl rfl (any_of HT_.out (by kernel_rfl)) (fun _ _ _ h => h) (Or.inl ⟨by rfl, ?_⟩) ?_ ?_
    rotate_left
    · intro w'
      go_simp
      with_reducible rfl
    rotate_left
    · simp only [Act.put, List.setIfInBounds_toArray, List.set_cons_zero, List.set_cons_succ, i64_w, i32_w]
      rfl
    refine pure_ (i := 24) (N := some 85) (v := ?_) (a' := ?_) #[true, true, true, true, true, true, true, true, true, true, true, true, true, true, true, true, true, true, true, true, true, true, true, true, true, false, false, false, false, false, false, false, false, false, false, false, false, false, false, false, false, false, false, false, false, false, false, false] rfl rfl (any_of HT_.out (by kernel_rfl)) (fun _ _ _ h => h) (Or.inl ⟨by rfl, ?_⟩) ?_ ?_
    rotate_left
    · intro w'
      go_simp
      with_reducible rfl
    rotate_left
    · simp only [Act.put, List.setIfInBounds_toArray, List.set_cons_zero, List.set_cons_succ, i64_w, i32_w]
      rfl
    refine take_ (i := 25) (N := some 86) (v := ?_) (a' := ?_) #[true, true, true, true, true, true, true, true, true, true, true, true, true, true, true, true, true, true, true, true, true, true, true, true, true, true, false, false, false, false, false, false, false, false, false, false, false, false, false, false, false, false, false, false, false, false, false, false] rfl rfl (take_ofW HT_.out HW_.out (by kernel_rfl)) (fun _ _ _ h => h) (Or.inl ⟨by rfl, ?_⟩) hHeld ?_ ?_
    rotate_left
    · rintro w' ⟨s0, s1, s2, s3, s4, s5, s6, s7, s8, s9, s10, s11, s12, s13, s14, s15, s16, s17, s18⟩
      go_simp
      with_reducible rfl
    rotate_left
    · simp only [Act.put, List.setIfInBounds_toArray, List.set_cons_zero, List.set_cons_succ, i64_w, i32_w]
      rfl
    refine pure_ (i := 26) (N := some 87) (v := ?_) (a' := ?_) #[true, true, true, true, true, true, true, true, true, true, true, true, true, true, true, true, true, true, true, true, true, true, true, true, true, true, true, false, false, false, false, false, false, false, false, false, false, false, false, false, false, false, false, false, false, false, false, false] rfl rfl (any_of HT_.out (by kernel_rfl)) (fun _ _ _ h => h) (Or.inl ⟨by rfl, ?_⟩) ?_ ?_
    rotate_left
    · intro w'
      go_simp
      with_reducible rfl
    rotate_left
    · simp only [Act.put, List.setIfInBounds_toArray, List.set_cons_zero, List.set_cons_succ, i64_w, i32_w]
      rfl
    refine pure_ (i := 27) (N := some 88) (v := ?_) (a' := ?_) #[true, true, true, true, true, true, true, true, true, true, true, true, true, true, true, true, true, true, true, true, true, true, true, true, true, true, true, true, false, false, false, false, false, false, false, false, false, false, false, false, false, false, false, false, false, false, false, false] rfl rfl (any_of HT_.out (by kernel_rfl)) (fun _ _ _ h => h) (Or.inl ⟨by rfl, ?_⟩) ?_ ?_
    rotate_left
    · intro w'
      go_simp
      with_reducible rfl
    rotate_left
    · simp only [Act.put, List.setIfInBounds_toArray, List.set_cons_zero, List.set_cons_succ, i64_w, i32_w]
      rfl
    refine pure_ (i := 28) (N := some 89) (v := ?_) (a' := ?_) #[true, true, true, true, true, true, true, true, true, true, true, true, true, true, true, true, true, true, true, true, true, true, true, true, true, true, true, true, true, false, false, false, false, false, false, false, false, false, false, false, false, false, false, false, false, false, false, false] rfl rfl (any_of HT_.out (by kernel_rfl)) (fun _ _ _ h => h) (Or.inl ⟨by rfl, ?_⟩) ?_ ?_
    rotate_left
    · intro w'
      go_simp
      with_reducible rfl
    rotate_left
    · simp only [Act.put, List.setIfInBounds_toArray, List.set_cons_zero, List.set_cons_succ, i64_w, i32_w]
      rfl
    refine pure_ (i := 29) (N := some 90) (v := ?_) (a' := ?_) #[true, true, true, true, true, true, true, true, true, true, true, true, true, true, true, true, true, true, true, true, true, true, true, true, true, true, true, true, true, true, false, false, false, false, false, false, false, false, false, false, false, false, false, false, false, false, false, false] rfl rfl (any_of HT_.out (by kernel_rfl)) (fun _ _ _ h => h) (Or.inl ⟨by rfl, ?_⟩) ?_ ?_
    rotate_left
    · intro w'
      go_simp
      with_reducible rfl
    rotate_left
    · simp only [Act.put, List.setIfInBounds_toArray, List.set_cons_zero, List.set_cons_succ, i64_w, i32_w]
      rfl
    refine pure_ (i := 30) (N := some 91) (v := ?_) (a' := ?_) #[true, true, true, true, true, true, true, true, true, true, true, true, true, true, true, true, true, true, true, true, true, true, true, true, true, true, true, true, true, true, true, false, false, false, false, false, false, false, false, false, false, false, false, false, false, false, false, false] rfl rfl (any_of HT_.out (by kernel_rfl)) (fun _ _ _ h => h) (Or.inl ⟨by rfl, ?_⟩) ?_ ?_
    rotate_left
    · intro w'
      go_simp
      with_reducible rfl
    rotate_left
    · simp only [Act.put, List.setIfInBounds_toArray, List.set_cons_zero, List.set_cons_succ, i64_w, i32_w]
      rfl
    refine take_ (i := 31) (N := some 92) (v := ?_) (a' := ?_) #[true, true, true, true, true, true, true, true, true, true, true, true, true, true, true, true, true, true, true, true, true, true, true, true, true, true, true, true, true, true, true, true, false, false, false, false, false, false, false, false, false, false, false, false, false, false, false, false] rfl rfl (take_ofW HT_.out HW_.out (by kernel_rfl)) (fun _ _ _ h => h) (Or.inl ⟨by rfl, ?_⟩) hHeld ?_ ?_
    rotate_left
    · rintro w' ⟨s0, s1, s2, s3, s4, s5, s6, s7, s8, s9, s10, s11, s12, s13, s14, s15, s16, s17, s18⟩
      go_simp
      with_reducible rfl
    rotate_left
    · simp only [Act.put, List.setIfInBounds_toArray, List.set_cons_zero, List.set_cons_succ, i64_w, i32_w]
      rfl
    refine take_ (i := 32) (N := some 93) (v := ?_) (a' := ?_) #[true, true, true, true, true, true, true, true, true, true, true, true, true, true, true, true, true, true, true, true, true, true, true, true, true, true, true, true, true, true, true, true, true, false, false, false, false, false, false, false, false, false, false, false, false, false, false, false] rfl rfl (take_ofW HT_.out HW_.out (by kernel_rfl)) (fun _ _ _ h => h) (Or.inl ⟨by rfl, ?_⟩) hHeld ?_ ?_
    rotate_left
    · rintro w' ⟨s0, s1, s2, s3, s4, s5, s6, s7, s8, s9, s10, s11, s12, s13, s14, s15, s16, s17, s18⟩
      go_simp
      with_reducible rfl
    rotate_left
    · simp only [Act.put, List.setIfInBounds_toArray, List.set_cons_zero, List.set_cons_succ, i64_w, i32_w]
      rfl
    refine pure_ (i := 33) (N := some 94) (v := ?_) (a' := ?_) #[true, true, true, true, true, true, true, true, true, true, true, true, true, true, true, true, true, true, true, true, true, true, true, true, true, true, true, true, true, true, true, true, true, true, false, false, false, false, false, false, false, false, false, false, false, false, false, false] rfl rfl (any_of HT_.out (by kernel_rfl)) (fun _ _ _ h => h) (Or.inl ⟨by rfl, ?_⟩) ?_ ?_
    rotate_left
    · intro w'
      go_simp
      with_reducible rfl
    rotate_left
    · simp only [Act.put, List.setIfInBounds_toArray, List.set_cons_zero, List.set_cons_succ, i64_w, i32_w]
      rfl
    refine pure_ (i := 34) (N := some 95) (v := ?_) (a' := ?_) #[true, true, true, true, true, true, true, true, true, true, true, true, true, true, true, true, true, true, true, true, true, true, true, true, true, true, true, true, true, true, true, true, true, true, true, false, false, false, false, false, false, false, false, false, false, false, false, false] rfl rfl (any_of HT_.out (by kernel_rfl)) (fun _ _ _ h => h) (Or.inl ⟨by rfl, ?_⟩) ?_ ?_
    rotate_left
    · intro w'
      go_simp
      with_reducible rfl
    rotate_left
    · simp only [Act.put, List.setIfInBounds_toArray, List.set_cons_zero, List.set_cons_succ, i64_w, i32_w]
      rfl
    refine pure_ (i := 35) (N := some 96) (v := ?_) (a' := ?_) #[true, true, true, true, true, true, true, true, true, true, true, true, true, true, true, true, true, true, true, true, true, true, true, true, true, true, true, true, true, true, true, true, true, true, true, true, false, false, false, false, false, false, false, false, false, false, false, false] rfl rfl (any_of HT_.out (by kernel_rfl)) (fun _ _ _ h => h) (Or.inl ⟨by rfl, ?_⟩) ?_ ?_
    rotate_left
    · intro w'
      go_simp
      with_reducible rfl
    rotate_left
    · simp only [Act.put, List.setIfInBounds_toArray, List.set_cons_zero, List.set_cons_succ, i64_w, i32_w]
      rfl
    refine pure_ (i := 36) (N := some 97) (v := ?_) (a' := ?_) #[true, true, true, true, true, true, true, true, true, true, true, true, true, true, true, true, true, true, true, true, true, true, true, true, true, true, true, true, true, true, true, true, true, true, true, true, true, false, false, false, false, false, false, false, false, false, false, false] rfl rfl (any_of HT_.out (by kernel_rfl)) (fun _ _ _ h => h) (Or.inl ⟨by rfl, ?_⟩) ?_ ?_
    rotate_left
    · intro w'
      go_simp
      with_reducible rfl
    rotate_left
    · simp only [Act.put, List.setIfInBounds_toArray, List.set_cons_zero, List.set_cons_succ, i64_w, i32_w]
      rfl
    refine take_ (i := 37) (N := some 98) (v := ?_) (a' := ?_) #[true, true, true, true, true, true, true, true, true, true, true, true, true, true, true, true, true, true, true, true, true, true, true, true, true, true, true, true, true, true, true, true, true, true, true, true, true, true, false, false, false, false, false, false, false, false, false, false] rfl rfl (take_ofW HT_.out HW_.out (by kernel_rfl)) (fun _ _ _ h => h) (Or.inl ⟨by rfl, ?_⟩) hHeld ?_ ?_
    rotate_left
    · rintro w' ⟨s0, s1, s2, s3, s4, s5, s6, s7, s8, s9, s10, s11, s12, s13, s14, s15, s16, s17, s18⟩
      go_simp
      with_reducible rfl
    rotate_left
    · simp only [Act.put, List.setIfInBounds_toArray, List.set_cons_zero, List.set_cons_succ, i64_w, i32_w]
      rfl
    refine take_ (i := 39) (N := some 100) (v := ?_) (a' := ?_) #[true, true, true, true, true, true, true, true, true, true, true, true, true, true, true, true, true, true, true, true, true, true, true, true, true, true, true, true, true, true, true, true, true, true, true, true, true, true, false, true, false, false, false, false, false, false, false, false] rfl rfl (take_ofW HT_.out HW_.out (by kernel_rfl)) (fun _ _ _ h => h) (Or.inl ⟨by rfl, ?_⟩) hHeld ?_ ?_
    rotate_left
    · rintro w' ⟨s0, s1, s2, s3, s4, s5, s6, s7, s8, s9, s10, s11, s12, s13, s14, s15, s16, s17, s18⟩
      go_simp
      with_reducible rfl
    rotate_left
    · simp only [Act.put, List.setIfInBounds_toArray, List.set_cons_zero, List.set_cons_succ, i64_w, i32_w]
      rfl
    refine take_ (i := 42) (N := some 103) (v := ?_) (a' := ?_) #[true, true, true, true, true, true, true, true, true, true, true, true, true, true, true, true, true, true, true, true, true, true, true, true, true, true, true, true, true, true, true, true, true, true, true, true, true, true, false, true, false, false, true, false, false, false, false, false] rfl rfl (take_ofW HT_.out HW_.out (by kernel_rfl)) (fun _ _ _ h => h) (Or.inl ⟨by rfl, ?_⟩) hHeld ?_ ?_
    rotate_left
    · rintro w' ⟨s0, s1, s2, s3, s4, s5, s6, s7, s8, s9, s10, s11, s12, s13, s14, s15, s16, s17, s18⟩
      go_simp
      with_reducible rfl
    rotate_left
    · simp only [Act.put, List.setIfInBounds_toArray, List.set_cons_zero, List.set_cons_succ, i64_w, i32_w]
      rfl
    refine take_ (i := 43) (N := some 104) (v := ?_) (a' := ?_) #[true, true, true, true, true, true, true, true, true, true, true, true, true, true, true, true, true, true, true, true, true, true, true, true, true, true, true, true, true, true, true, true, true, true, true, true, true, true, false, true, false, false, true, true, false, false, false, false] rfl rfl (take_ofW HT_.out HW_.out (by kernel_rfl)) (fun _ _ _ h => h) (Or.inl ⟨by rfl, ?_⟩) hHeld ?_ ?_
    rotate_left
    · rintro w' ⟨s0, s1, s2, s3, s4, s5, s6, s7, s8, s9, s10, s11, s12, s13, s14, s15, s16, s17, s18⟩
      go_simp
      with_reducible rfl
    rotate_left
    · simp only [Act.put, List.setIfInBounds_toArray, List.set_cons_zero, List.set_cons_succ, i64_w, i32_w]
      rfl
    refine pure_ (i := 44) (N := some 105) (v := ?_) (a' := ?_) #[true, true, true, true, true, true, true, true, true, true, true, true, true, true, true, true, true, true, true, true, true, true, true, true, true, true, true, true, true, true, true, true, true, true, true, true, true, true, false, true, false, false, true, true, true, false, false, false] rfl rfl (any_of HT_.out (by kernel_rfl)) (fun _ _ _ h => h) (Or.inl ⟨by rfl, ?_⟩) ?_ ?_
    rotate_left
    · intro w'
      go_simp
      with_reducible rfl
    rotate_left
    · simp only [Act.put, List.setIfInBounds_toArray, List.set_cons_zero, List.set_cons_succ, i64_w, i32_w]
      rfl
    refine one_ (i := 38) (N := some 99) #[true, true, true, true, true, true, true, true, true, true, true, true, true, true, true, true, true, true, true, true, true, true, true, true, true, true, true, true, true, true, true, true, true, true, true, true, true, true, true, true, false, false, true, true, true, false, false, false] rfl rfl (one_of HT_.out (by kernel_rfl)) (by decide) (fun K hK => ?_)
    refine goes_ Tryd.func25 (by kernel_rfl) rfl #[.agg #[.int .u64 t583, .int .u64 t584, .int .u64 t585, .int .u64 t586, .int .i64 t587]] (by rfl) rfl rfl (by (try simp only [List.map_toArray, List.map_cons, List.map_nil]); first | done | rfl | (simp only [List.length_drop, List.length_take]; rfl)) ?_
    refine (BigStamp.callsT w HT _ (by repeat (first | (with_reducible first | exact HB.out | apply below_alloc | apply pw_below_drewN | apply below_drew1 | refine below_set ?_ GE580.out | refine below_set ?_ GE581.out | refine below_set ?_ GE588.out | refine below_set ?_ GE594.out | refine below_set ?_ GE606.out | refine below_set ?_ GE607.out | refine below_set ?_ GE615.out | refine below_set ?_ GE616.out) | exact HB.out)) t583 t584 t585 t586 t587 t617 A27.out).mono ?_
    rintro e w86 ⟨rfl, hb⟩
    refine ⟨_, rfl, ?_⟩
    replace BK580 := Kb_ BK580 hb
    replace BK581 := Kb_ BK581 hb
    replace BK588 := Kb_ BK588 hb
    replace BK594 := Kb_ BK594 hb
    replace BK606 := Kb_ BK606 hb
    replace BK607 := Kb_ BK607 hb
    replace BK615 := Kb_ BK615 hb
    replace BK616 := Kb_ BK616 hb
    replace HB := Ks_ HB hb
    (try clear hb)
    (try clear hb2)
    (try clear hk)
    (try clear hi)
    refine hK.out _ _ ⟨(blk_cell BK606.out 0).trans rfl, (blk_cell BK606.out 1).trans rfl, (blk_cell BK606.out 2).trans rfl, (blk_cell BK606.out 3).trans rfl, (blk_cell BK606.out 4).trans rfl, (blk_cell BK588.out 0).trans rfl, (blk_cell BK588.out 1).trans rfl, (blk_cell BK588.out 2).trans rfl, (blk_cell BK588.out 3).trans rfl, (blk_cell BK588.out 4).trans rfl, (blk_cell BK607.out 0).trans rfl, (blk_cell BK607.out 1).trans rfl, (blk_cell BK616.out 0).trans rfl, (blk_cell BK616.out 1).trans rfl, (blk_cell BK594.out 0).trans rfl, (blk_cell BK594.out 1).trans rfl, (blk_cell BK594.out 2).trans rfl, (blk_cell BK594.out 3).trans rfl, (blk_cell BK594.out 4).trans rfl⟩ (fun hHeld => ?_)
    clear hK K
    refine norm_ (a' := ?_) ?_ ?_
    rotate_left
    · show Act.put _ (some 99) _ = _
      simp only [Act.put, List.setIfInBounds_toArray, List.set_cons_zero, List.set_cons_succ, i64_w, i32_w]
      rfl
    refine one_ (i := 40) (N := some 101) #[true, true, true, true, true, true, true, true, true, true, true, true, true, true, true, true, true, true, true, true, true, true, true, true, true, true, true, true, true, true, true, true, true, true, true, true, true, true, true, true, true, false, true, true, true, false, false, false] rfl rfl (one_of HT_.out (by kernel_rfl)) (by decide) (fun K hK => ?_)
    refine goes_ Tryd.func25 (by kernel_rfl) rfl #[.agg #[.int .u64 t589, .int .u64 t590, .int .u64 t591, .int .u64 t592, .int .i64 t593]] (by rfl) rfl rfl (by (try simp only [List.map_toArray, List.map_cons, List.map_nil]); first | done | rfl | (simp only [List.length_drop, List.length_take]; rfl)) ?_
    refine (BigStamp.callsT w HT _ (by repeat (first | (with_reducible first | exact HB.out | apply below_alloc | apply pw_below_drewN | apply below_drew1 | refine below_set ?_ GE580.out | refine below_set ?_ GE581.out | refine below_set ?_ GE588.out | refine below_set ?_ GE594.out | refine below_set ?_ GE606.out | refine below_set ?_ GE607.out | refine below_set ?_ GE615.out | refine below_set ?_ GE616.out) | exact HB.out)) t589 t590 t591 t592 t593 t618 A28.out).mono ?_
    rintro e w87 ⟨rfl, hb⟩
    refine ⟨_, rfl, ?_⟩
    replace BK580 := Kb_ BK580 hb
    replace BK581 := Kb_ BK581 hb
    replace BK588 := Kb_ BK588 hb
    replace BK594 := Kb_ BK594 hb
    replace BK606 := Kb_ BK606 hb
    replace BK607 := Kb_ BK607 hb
    replace BK615 := Kb_ BK615 hb
    replace BK616 := Kb_ BK616 hb
    replace HB := Ks_ HB hb
    (try clear hb)
    (try clear hb2)
    (try clear hk)
    (try clear hi)
    refine hK.out _ _ ⟨(blk_cell BK606.out 0).trans rfl, (blk_cell BK606.out 1).trans rfl, (blk_cell BK606.out 2).trans rfl, (blk_cell BK606.out 3).trans rfl, (blk_cell BK606.out 4).trans rfl, (blk_cell BK588.out 0).trans rfl, (blk_cell BK588.out 1).trans rfl, (blk_cell BK588.out 2).trans rfl, (blk_cell BK588.out 3).trans rfl, (blk_cell BK588.out 4).trans rfl, (blk_cell BK607.out 0).trans rfl, (blk_cell BK607.out 1).trans rfl, (blk_cell BK616.out 0).trans rfl, (blk_cell BK616.out 1).trans rfl, (blk_cell BK594.out 0).trans rfl, (blk_cell BK594.out 1).trans rfl, (blk_cell BK594.out 2).trans rfl, (blk_cell BK594.out 3).trans rfl, (blk_cell BK594.out 4).trans rfl⟩ (fun hHeld => ?_)
    clear hK K
    refine norm_ (a' := ?_) ?_ ?_
    rotate_left
    · show Act.put _ (some 101) _ = _
      simp only [Act.put, List.setIfInBounds_toArray, List.set_cons_zero, List.set_cons_succ, i64_w, i32_w]
      rfl
    refine pure_ (i := 41) (N := some 102) (v := ?_) (a' := ?_) #[true, true, true, true, true, true, true, true, true, true, true, true, true, true, true, true, true, true, true, true, true, true, true, true, true, true, true, true, true, true, true, true, true, true, true, true, true, true, true, true, true, true, true, true, true, false, false, false] rfl rfl (any_of HT_.out (by kernel_rfl)) (fun _ _ _ h => h) (Or.inl ⟨by rfl, ?_⟩) ?_ ?_
    rotate_left
    · intro w'
      go_simp
      with_reducible rfl
    rotate_left
    · simp only [Act.put, List.setIfInBounds_toArray, List.set_cons_zero, List.set_cons_succ, i64_w, i32_w]
      rfl
    refine pure_ (i := 45) (N := some 106) (v := ?_) (a' := ?_) #[true, true, true, true, true, true, true, true, true, true, true, true, true, true, true, true, true, true, true, true, true, true, true, true, true, true, true, true, true, true, true, true, true, true, true, true, true, true, true, true, true, true, true, true, true, true, false, false] rfl rfl (any_of HT_.out (by kernel_rfl)) (fun _ _ _ h => h) (Or.inl ⟨by rfl, ?_⟩) ?_ ?_
    rotate_left
    · intro w'
      go_simp
      with_reducible rfl
    rotate_left
    · simp only [Act.put, List.setIfInBounds_toArray, List.set_cons_zero, List.set_cons_succ, i64_w, i32_w]
      rfl
    refine pure_ (i := 46) (N := some 107) (v := ?_) (a' := ?_) #[true, true, true, true, true, true, true, true, true, true, true, true, true, true, true, true, true, true, true, true, true, true, true, true, true, true, true, true, true, true, true, true, true, true, true, true, true, true, true, true, true, true, true, true, true, true, true, false] rfl rfl (any_of HT_.out (by kernel_rfl)) (fun _ _ _ h => h) (Or.inl ⟨by rfl, ?_⟩) ?_ ?_
    rotate_left
    · intro w'
      go_simp
      with_reducible rfl
    rotate_left
    · simp only [Act.put, List.setIfInBounds_toArray, List.set_cons_zero, List.set_cons_succ, i64_w, i32_w]
      rfl
    refine pure_ (i := 47) (N := some 8) (v := ?_) (a' := ?_) #[true, true, true, true, true, true, true, true, true, true, true, true, true, true, true, true, true, true, true, true, true, true, true, true, true, true, true, true, true, true, true, true, true, true, true, true, true, true, true, true, true, true, true, true, true, true, true, true] rfl rfl (any_of HT_.out (by kernel_rfl)) (fun _ _ _ h => h) (Or.inl ⟨by rfl, ?_⟩) ?_ ?_
    rotate_left
    · intro w'
      go_simp
      with_reducible rfl
    rotate_left
    · simp only [Act.put, List.setIfInBounds_toArray, List.set_cons_zero, List.set_cons_succ, i64_w, i32_w]
      rfl
    refine done_ (done_of HT_.out (by kernel_rfl)) ?_
    try go_wp2
    go_ret
    exact ⟨by first | rfl | (simp [errW_none, errW_some] <;> rfl) | (simp only [← hji15]; first | rfl | (simp [errW_none, errW_some] <;> rfl)) | (simp [*, errW_none, errW_some] <;> rfl), by repeat (first | (with_reducible first | exact HB.out | apply below_alloc | apply pw_below_drewN | apply below_drew1 | refine below_set ?_ GE580.out | refine below_set ?_ GE581.out | refine below_set ?_ GE588.out | refine below_set ?_ GE594.out | refine below_set ?_ GE606.out | refine below_set ?_ GE607.out | refine below_set ?_ GE615.out | refine below_set ?_ GE616.out) | exact HB.out)⟩
  rw [if_neg c25] at H
  have c25b0 : (t595.toList == t597.toList) = false := beq_eq_false_iff_ne.mpr c25
  have c25b1 : (t595.toList != t597.toList) = true := bne_iff_ne.mpr c25
  by_cases c88 : ((t583 == t589 && (t584 == t590 && (t585 == t591 && (t586 == t592)))) && (t587 == t593)) = true
  · rw [if_pos c88] at H
    exact absurd H (by simp)
  rw [if_neg c88] at H
  have c88b0 : ((t583 == t589 && (t584 == t590 && (t585 == t591 && (t586 == t592)))) && (t587 == t593)) = false := by simpa using c88
  clear c88
  replace H := Option.bind_eq_some_iff.mp H
  obtain ⟨t619, A890, H⟩ := H
  replace H : ((BigStamp.f t589 t590 t591 t592 t593).bind fun t620 => (if t619.toList = t620.toList then (none) else (some true))) = some r := H
  have A89 := Aside0.mk A890
  clear A890
  replace H := Option.bind_eq_some_iff.mp H
  obtain ⟨t620, A900, H⟩ := H
  replace H : (if t619.toList = t620.toList then (none) else (some true)) = some r := H
  have A90 := Aside0.mk A900
  clear A900
  by_cases c91 : t619.toList = t620.toList
  · rw [if_pos c91] at H
    exact absurd H (by simp)
  rw [if_neg c91] at H
  have c91b0 : (t619.toList == t620.toList) = false := beq_eq_false_iff_ne.mpr c91
  have c91b1 : (t619.toList != t620.toList) = true := bne_iff_ne.mpr c91
  obtain rfl := Option.some.inj H
  go_enter Tryd.func6, Tryd.ntmps6
  try go_wp2_with (first | ((with_reducible refine gate_dst (N := 4) rfl ?_); refine box_event ?hg (N := 4) ?hd (cs := #[.int .u64 a0_0, .int .u64 a0_1, .int .u64 a0_2, .int .u64 a0_3, .int .i64 a0_4, .bool a0_5]) (t := 28) ?hr ?_; (case hd => rfl); (case hg => rfl); (case hr => first | (go_simp; done) | (go_simp; rfl)); intro gb580 hg w92 hbox hb; have BK580 := Aside0.mk (hbox); have GW580 := Kw_ HB hg; have GE580 := GW580; replace HB := Ks_ HB hb; clear hb hbox hg) | ((with_reducible refine gate_dst (N := 5) rfl ?_); refine box_event ?hg (N := 5) ?hd (cs := #[.int .u64 a1_0, .int .u64 a1_1, .int .u64 a1_2, .int .u64 a1_3, .int .i64 a1_4, .bool a1_5]) (t := 28) ?hr ?_; (case hd => rfl); (case hg => rfl); (case hr => first | (go_simp; done) | (go_simp; rfl)); intro gb581 hg w93 hbox hb; have BK581 := Aside0.mk (hbox); have GW581 := Kw_ HB hg; have GE581 := GW581; have NB580_581 := Kl_ BK580 hg; have NB581_580 := Kr_ BK580 hg; replace BK580 := Kb_ BK580 hb; replace HB := Ks_ HB hb; clear hb hbox hg) | ((with_reducible refine gate_callee (f := 9) rfl ?_); refine goesL_ (some 20) rfl rfl Tryd.func9 (by kernel_rfl) rfl #[] rfl (by (try simp only [List.map_toArray, List.map_cons, List.map_nil]); first | done | rfl | (simp only [List.length_drop, List.length_take]; rfl)) ?_; (with_reducible refine (tenementlaw07_examples.calls k  true _ A5.out).mono ?_); rintro e w94 ⟨rfl, hb⟩; refine ⟨_, rfl, ?_⟩; replace BK580 := Kb_ BK580 hb; replace BK581 := Kb_ BK581 hb; replace HB := Ks_ HB hb; (try clear hb); (try clear hb2); (try clear hk); (try clear hi); have hnb95 := NB580_581.out; have hnc95 := NB581_580.out; have hcz96_0 : w94.cell? ⟨gb580, 0, none⟩ = some (.int .u64 a0_0) := (blk_cell BK580.out 0).trans rfl; have hcz96_1 : w94.cell? ⟨gb580, 1, none⟩ = some (.int .u64 a0_1) := (blk_cell BK580.out 1).trans rfl; have hcz96_2 : w94.cell? ⟨gb580, 2, none⟩ = some (.int .u64 a0_2) := (blk_cell BK580.out 2).trans rfl; have hcz96_3 : w94.cell? ⟨gb580, 3, none⟩ = some (.int .u64 a0_3) := (blk_cell BK580.out 3).trans rfl; have hcz96_4 : w94.cell? ⟨gb580, 4, none⟩ = some (.int .i64 a0_4) := (blk_cell BK580.out 4).trans rfl; have hcz96_5 : w94.cell? ⟨gb580, 5, none⟩ = some (.bool a0_5) := (blk_cell BK580.out 5).trans rfl; have hfz96_0 := blk_frozen BK580.out 0; have hfz96_1 := blk_frozen BK580.out 1; have hfz96_2 := blk_frozen BK580.out 2; have hfz96_3 := blk_frozen BK580.out 3; have hfz96_4 := blk_frozen BK580.out 4; have hfz96_5 := blk_frozen BK580.out 5; have hcz97_0 : w94.cell? ⟨gb581, 0, none⟩ = some (.int .u64 a1_0) := (blk_cell BK581.out 0).trans rfl; have hcz97_1 : w94.cell? ⟨gb581, 1, none⟩ = some (.int .u64 a1_1) := (blk_cell BK581.out 1).trans rfl; have hcz97_2 : w94.cell? ⟨gb581, 2, none⟩ = some (.int .u64 a1_2) := (blk_cell BK581.out 2).trans rfl; have hcz97_3 : w94.cell? ⟨gb581, 3, none⟩ = some (.int .u64 a1_3) := (blk_cell BK581.out 3).trans rfl; have hcz97_4 : w94.cell? ⟨gb581, 4, none⟩ = some (.int .i64 a1_4) := (blk_cell BK581.out 4).trans rfl; have hcz97_5 : w94.cell? ⟨gb581, 5, none⟩ = some (.bool a1_5) := (blk_cell BK581.out 5).trans rfl; have hfz97_0 := blk_frozen BK581.out 0; have hfz97_1 := blk_frozen BK581.out 1; have hfz97_2 := blk_frozen BK581.out 2; have hfz97_3 := blk_frozen BK581.out 3; have hfz97_4 := blk_frozen BK581.out 4; have hfz97_5 := blk_frozen BK581.out 5) | ((with_reducible refine gate_callee (f := 10) rfl ?_); refine goesL_ (some 26) rfl rfl Tryd.func10 (by kernel_rfl) rfl #[.agg #[.int .u64 a0_0, .int .u64 a0_1, .int .u64 a0_2, .int .u64 a0_3, .int .i64 a0_4, .bool true]] rfl (by (try simp only [List.map_toArray, List.map_cons, List.map_nil]); first | done | rfl | (simp only [List.length_drop, List.length_take]; rfl)) ?_; (with_reducible refine (tenementlaw07_Mark_mark.calls k a0_0 a0_1 a0_2 a0_3 a0_4 true t583 t584 t585 t586 t587 _ A7.out).mono ?_); rintro e w98 ⟨rfl, hb⟩; refine ⟨_, rfl, ?_⟩; replace BK580 := Aside0.mk (blk_below (g := gb580) (o := .cells #[.int .u64 a0_0, .int .u64 a0_1, .int .u64 a0_2, .int .u64 a0_3, .int .i64 a0_4, .bool true] 28 (0, 0)) (by (repeat (first | (with_reducible first | refine blk_drewN ?_ _ | refine blk_drew ?_ | refine blk_alloc ?_ _) | refine blk_far ?_ NB580_581.out _)); refine blk_put (cs := #[.int .u64 a0_0, .int .u64 a0_1, .int .u64 a0_2, .int .u64 a0_3, .int .i64 a0_4, .bool a0_5]) ?_ 5 _ rfl; (with_reducible repeat (first | refine blk_drewN ?_ _ | refine blk_drew ?_ | refine blk_alloc ?_ _)); exact BK580.out) hb); replace BK581 := Aside0.mk (blk_below (g := gb581) (o := .cells #[.int .u64 a1_0, .int .u64 a1_1, .int .u64 a1_2, .int .u64 a1_3, .int .i64 a1_4, .bool true] 28 (0, 0)) (by (with_reducible repeat (first | refine blk_drewN ?_ _ | refine blk_drew ?_ | refine blk_alloc ?_ _)); refine blk_put (cs := #[.int .u64 a1_0, .int .u64 a1_1, .int .u64 a1_2, .int .u64 a1_3, .int .i64 a1_4, .bool a1_5]) ?_ 5 _ rfl; (repeat (first | (with_reducible first | refine blk_drewN ?_ _ | refine blk_drew ?_ | refine blk_alloc ?_ _) | refine blk_far ?_ NB581_580.out _)); exact BK581.out) hb); replace HB := Aside0.mk (below_step (by repeat (first | (with_reducible first | exact HB.out | apply below_alloc | apply pw_below_drewN | apply below_drew1 | refine below_set ?_ GE580.out | refine below_set ?_ GE581.out) | exact HB.out)) hb); (try clear hb); (try clear hb2); (try clear hk); (try clear hi)) | ((with_reducible refine gate_dst (N := 10) rfl ?_); refine box_event ?hg (N := 10) ?hd (cs := #[.int .u64 0, .int .u64 0, .int .u64 0, .int .u64 0, .int .i64 0]) (t := 26) ?hr ?_; (case hd => rfl); (case hg => rfl); (case hr => first | (go_simp; done) | (go_simp; rfl)); intro gb588 hg w99 hbox hb; have BK588 := Aside0.mk (hbox); have GW588 := Kw_ HB hg; have GE588 := GW588; have NB580_588 := Kl_ BK580 hg; have NB588_580 := Kr_ BK580 hg; have NB581_588 := Kl_ BK581 hg; have NB588_581 := Kr_ BK581 hg; replace BK580 := Kb_ BK580 hb; replace BK581 := Kb_ BK581 hb; replace HB := Ks_ HB hb; clear hb hbox hg; have hnb100 := NB588_580.out; have hnc100 := NB580_588.out; have hnb101 := NB588_581.out; have hnc101 := NB581_588.out; have hcz102_0 : w99.cell? ⟨gb588, 0, none⟩ = some (.int .u64 0) := (blk_cell BK588.out 0).trans rfl; have hcz102_1 : w99.cell? ⟨gb588, 1, none⟩ = some (.int .u64 0) := (blk_cell BK588.out 1).trans rfl; have hcz102_2 : w99.cell? ⟨gb588, 2, none⟩ = some (.int .u64 0) := (blk_cell BK588.out 2).trans rfl; have hcz102_3 : w99.cell? ⟨gb588, 3, none⟩ = some (.int .u64 0) := (blk_cell BK588.out 3).trans rfl; have hcz102_4 : w99.cell? ⟨gb588, 4, none⟩ = some (.int .i64 0) := (blk_cell BK588.out 4).trans rfl; have hfz102_0 := blk_frozen BK588.out 0; have hfz102_1 := blk_frozen BK588.out 1; have hfz102_2 := blk_frozen BK588.out 2; have hfz102_3 := blk_frozen BK588.out 3; have hfz102_4 := blk_frozen BK588.out 4; have hcz103_0 : w99.cell? ⟨gb581, 0, none⟩ = some (.int .u64 a1_0) := (blk_cell BK581.out 0).trans rfl; have hcz103_1 : w99.cell? ⟨gb581, 1, none⟩ = some (.int .u64 a1_1) := (blk_cell BK581.out 1).trans rfl; have hcz103_2 : w99.cell? ⟨gb581, 2, none⟩ = some (.int .u64 a1_2) := (blk_cell BK581.out 2).trans rfl; have hcz103_3 : w99.cell? ⟨gb581, 3, none⟩ = some (.int .u64 a1_3) := (blk_cell BK581.out 3).trans rfl; have hcz103_4 : w99.cell? ⟨gb581, 4, none⟩ = some (.int .i64 a1_4) := (blk_cell BK581.out 4).trans rfl; have hcz103_5 : w99.cell? ⟨gb581, 5, none⟩ = some (.bool true) := (blk_cell BK581.out 5).trans rfl; have hfz103_0 := blk_frozen BK581.out 0; have hfz103_1 := blk_frozen BK581.out 1; have hfz103_2 := blk_frozen BK581.out 2; have hfz103_3 := blk_frozen BK581.out 3; have hfz103_4 := blk_frozen BK581.out 4; have hfz103_5 := blk_frozen BK581.out 5) | ((with_reducible refine gate_callee (f := 10) rfl ?_); refine goesL_ (some 28) rfl rfl Tryd.func10 (by kernel_rfl) rfl #[.agg #[.int .u64 a1_0, .int .u64 a1_1, .int .u64 a1_2, .int .u64 a1_3, .int .i64 a1_4, .bool true]] rfl (by (try simp only [List.map_toArray, List.map_cons, List.map_nil]); first | done | rfl | (simp only [List.length_drop, List.length_take]; rfl)) ?_; (with_reducible refine (tenementlaw07_Mark_mark.calls k a1_0 a1_1 a1_2 a1_3 a1_4 true t589 t590 t591 t592 t593 _ A8.out).mono ?_); rintro e w104 ⟨rfl, hb⟩; refine ⟨_, rfl, ?_⟩; replace BK580 := Kf_ BK580 NB580_588 hb; replace BK581 := Kf_ BK581 NB581_588 hb; replace BK588 := Aside0.mk (blk_below (g := gb588) (o := .cells #[.int .u64 t583, .int .u64 t584, .int .u64 t585, .int .u64 t586, .int .i64 t587] 26 (0, 0)) (by (with_reducible repeat (first | refine blk_drewN ?_ _ | refine blk_drew ?_ | refine blk_alloc ?_ _)); refine blk_put (cs := #[.int .u64 t583, .int .u64 t584, .int .u64 t585, .int .u64 t586, .int .i64 0]) ?_ 4 _ rfl; (with_reducible repeat (first | refine blk_drewN ?_ _ | refine blk_drew ?_ | refine blk_alloc ?_ _)); refine blk_put (cs := #[.int .u64 t583, .int .u64 t584, .int .u64 t585, .int .u64 0, .int .i64 0]) ?_ 3 _ rfl; (with_reducible repeat (first | refine blk_drewN ?_ _ | refine blk_drew ?_ | refine blk_alloc ?_ _)); refine blk_put (cs := #[.int .u64 t583, .int .u64 t584, .int .u64 0, .int .u64 0, .int .i64 0]) ?_ 2 _ rfl; (with_reducible repeat (first | refine blk_drewN ?_ _ | refine blk_drew ?_ | refine blk_alloc ?_ _)); refine blk_put (cs := #[.int .u64 t583, .int .u64 0, .int .u64 0, .int .u64 0, .int .i64 0]) ?_ 1 _ rfl; (with_reducible repeat (first | refine blk_drewN ?_ _ | refine blk_drew ?_ | refine blk_alloc ?_ _)); refine blk_put (cs := #[.int .u64 0, .int .u64 0, .int .u64 0, .int .u64 0, .int .i64 0]) ?_ 0 _ rfl; (with_reducible repeat (first | refine blk_drewN ?_ _ | refine blk_drew ?_ | refine blk_alloc ?_ _)); exact BK588.out) hb); replace HB := Kt_ HB GE588 hb; (try clear hb); (try clear hb2); (try clear hk); (try clear hi)) | ((with_reducible refine gate_dst (N := 11) rfl ?_); refine box_event ?hg (N := 11) ?hd (cs := #[.int .u64 0, .int .u64 0, .int .u64 0, .int .u64 0, .int .i64 0]) (t := 26) ?hr ?_; (case hd => rfl); (case hg => rfl); (case hr => first | (go_simp; done) | (go_simp; rfl)); intro gb594 hg w105 hbox hb; have BK594 := Aside0.mk (hbox); have GW594 := Kw_ HB hg; have GE594 := GW594; have NB580_594 := Kl_ BK580 hg; have NB594_580 := Kr_ BK580 hg; have NB581_594 := Kl_ BK581 hg; have NB594_581 := Kr_ BK581 hg; have NB588_594 := Kl_ BK588 hg; have NB594_588 := Kr_ BK588 hg; replace BK580 := Kb_ BK580 hb; replace BK581 := Kb_ BK581 hb; replace BK588 := Kb_ BK588 hb; replace HB := Ks_ HB hb; clear hb hbox hg; have hnb106 := NB594_580.out; have hnc106 := NB580_594.out; have hnb107 := NB594_581.out; have hnc107 := NB581_594.out; have hnb108 := NB594_588.out; have hnc108 := NB588_594.out; have hcz109_0 : w105.cell? ⟨gb594, 0, none⟩ = some (.int .u64 0) := (blk_cell BK594.out 0).trans rfl; have hcz109_1 : w105.cell? ⟨gb594, 1, none⟩ = some (.int .u64 0) := (blk_cell BK594.out 1).trans rfl; have hcz109_2 : w105.cell? ⟨gb594, 2, none⟩ = some (.int .u64 0) := (blk_cell BK594.out 2).trans rfl; have hcz109_3 : w105.cell? ⟨gb594, 3, none⟩ = some (.int .u64 0) := (blk_cell BK594.out 3).trans rfl; have hcz109_4 : w105.cell? ⟨gb594, 4, none⟩ = some (.int .i64 0) := (blk_cell BK594.out 4).trans rfl; have hfz109_0 := blk_frozen BK594.out 0; have hfz109_1 := blk_frozen BK594.out 1; have hfz109_2 := blk_frozen BK594.out 2; have hfz109_3 := blk_frozen BK594.out 3; have hfz109_4 := blk_frozen BK594.out 4; have hcz110_0 : w105.cell? ⟨gb588, 0, none⟩ = some (.int .u64 t583) := (blk_cell BK588.out 0).trans rfl; have hcz110_1 : w105.cell? ⟨gb588, 1, none⟩ = some (.int .u64 t584) := (blk_cell BK588.out 1).trans rfl; have hcz110_2 : w105.cell? ⟨gb588, 2, none⟩ = some (.int .u64 t585) := (blk_cell BK588.out 2).trans rfl; have hcz110_3 : w105.cell? ⟨gb588, 3, none⟩ = some (.int .u64 t586) := (blk_cell BK588.out 3).trans rfl; have hcz110_4 : w105.cell? ⟨gb588, 4, none⟩ = some (.int .i64 t587) := (blk_cell BK588.out 4).trans rfl; have hfz110_0 := blk_frozen BK588.out 0; have hfz110_1 := blk_frozen BK588.out 1; have hfz110_2 := blk_frozen BK588.out 2; have hfz110_3 := blk_frozen BK588.out 3; have hfz110_4 := blk_frozen BK588.out 4) | ((with_reducible refine gate_callee (f := 12) rfl ?_); refine goesL_ (some 31) rfl rfl Tryd.func12 (by kernel_rfl) rfl #[.agg #[.int .u64 t583, .int .u64 t584, .int .u64 t585, .int .u64 t586, .int .i64 t587]] rfl (by (try simp only [List.map_toArray, List.map_cons, List.map_nil]); first | done | rfl | (simp only [List.length_drop, List.length_take]; rfl)) ?_; (with_reducible refine (stamp_Put.calls k t583 t584 t585 t586 t587 t595 true _ A9.out).mono ?_); rintro e w111 ⟨rfl, hb⟩; refine ⟨_, rfl, ?_⟩; replace BK580 := Kf_ BK580 NB580_594 hb; replace BK581 := Kf_ BK581 NB581_594 hb; replace BK588 := Kf_ BK588 NB588_594 hb; replace BK594 := Aside0.mk (blk_below (g := gb594) (o := .cells #[.int .u64 t589, .int .u64 t590, .int .u64 t591, .int .u64 t592, .int .i64 t593] 26 (0, 0)) (by (with_reducible repeat (first | refine blk_drewN ?_ _ | refine blk_drew ?_ | refine blk_alloc ?_ _)); refine blk_put (cs := #[.int .u64 t589, .int .u64 t590, .int .u64 t591, .int .u64 t592, .int .i64 0]) ?_ 4 _ rfl; (with_reducible repeat (first | refine blk_drewN ?_ _ | refine blk_drew ?_ | refine blk_alloc ?_ _)); refine blk_put (cs := #[.int .u64 t589, .int .u64 t590, .int .u64 t591, .int .u64 0, .int .i64 0]) ?_ 3 _ rfl; (with_reducible repeat (first | refine blk_drewN ?_ _ | refine blk_drew ?_ | refine blk_alloc ?_ _)); refine blk_put (cs := #[.int .u64 t589, .int .u64 t590, .int .u64 0, .int .u64 0, .int .i64 0]) ?_ 2 _ rfl; (with_reducible repeat (first | refine blk_drewN ?_ _ | refine blk_drew ?_ | refine blk_alloc ?_ _)); refine blk_put (cs := #[.int .u64 t589, .int .u64 0, .int .u64 0, .int .u64 0, .int .i64 0]) ?_ 1 _ rfl; (with_reducible repeat (first | refine blk_drewN ?_ _ | refine blk_drew ?_ | refine blk_alloc ?_ _)); refine blk_put (cs := #[.int .u64 0, .int .u64 0, .int .u64 0, .int .u64 0, .int .i64 0]) ?_ 0 _ rfl; (with_reducible repeat (first | refine blk_drewN ?_ _ | refine blk_drew ?_ | refine blk_alloc ?_ _)); exact BK594.out) hb); replace HB := Kt_ HB GE594 hb; (try clear hb); (try clear hb2); (try clear hk); (try clear hi); have hcz112_0 : w111.cell? ⟨gb594, 0, none⟩ = some (.int .u64 t589) := (blk_cell BK594.out 0).trans rfl; have hcz112_1 : w111.cell? ⟨gb594, 1, none⟩ = some (.int .u64 t590) := (blk_cell BK594.out 1).trans rfl; have hcz112_2 : w111.cell? ⟨gb594, 2, none⟩ = some (.int .u64 t591) := (blk_cell BK594.out 2).trans rfl; have hcz112_3 : w111.cell? ⟨gb594, 3, none⟩ = some (.int .u64 t592) := (blk_cell BK594.out 3).trans rfl; have hcz112_4 : w111.cell? ⟨gb594, 4, none⟩ = some (.int .i64 t593) := (blk_cell BK594.out 4).trans rfl; have hfz112_0 := blk_frozen BK594.out 0; have hfz112_1 := blk_frozen BK594.out 1; have hfz112_2 := blk_frozen BK594.out 2; have hfz112_3 := blk_frozen BK594.out 3; have hfz112_4 := blk_frozen BK594.out 4) | ((with_reducible refine gate_callee (f := 12) rfl ?_); refine goesL_ (some 36) rfl rfl Tryd.func12 (by kernel_rfl) rfl #[.agg #[.int .u64 t589, .int .u64 t590, .int .u64 t591, .int .u64 t592, .int .i64 t593]] rfl (by (try simp only [List.map_toArray, List.map_cons, List.map_nil]); first | done | rfl | (simp only [List.length_drop, List.length_take]; rfl)) ?_; (with_reducible refine (stamp_Put.calls k t589 t590 t591 t592 t593 t597 true _ A10.out).mono ?_); rintro e w113 ⟨rfl, hb⟩; refine ⟨_, rfl, ?_⟩; replace BK580 := Kb_ BK580 hb; replace BK581 := Kb_ BK581 hb; replace BK588 := Kb_ BK588 hb; replace BK594 := Kb_ BK594 hb; replace HB := Ks_ HB hb; (try clear hb); (try clear hb2); (try clear hk); (try clear hi)) | ((with_reducible refine gate_callee (f := 28) rfl ?_); refine goesL_ (some 46) rfl rfl Tryd.func28 (by kernel_rfl) rfl #[.agg #[.string (t595 ++ a2), .bool false]] rfl (by (try simp only [List.map_toArray, List.map_cons, List.map_nil]); first | done | rfl | (simp only [List.length_drop, List.length_take]; rfl)) ?_; (with_reducible refine (stamp_Get.calls k (t595 ++ a2) false t599 t600 t601 t602 t603 t604 false _ A13.out).mono ?_); rintro e w114 ⟨rfl, hb⟩; refine ⟨_, rfl, ?_⟩; replace BK580 := Kb_ BK580 hb; replace BK581 := Kb_ BK581 hb; replace BK588 := Kb_ BK588 hb; replace BK594 := Kb_ BK594 hb; replace HB := Ks_ HB hb; (try clear hb); (try clear hb2); (try clear hk); (try clear hi)) | ((with_reducible refine gate_dst (N := 16) rfl ?_); refine box_event ?hg (N := 16) ?hd (cs := #[.int .u64 0, .int .u64 0, .int .u64 0, .int .u64 0, .int .i64 0]) (t := 26) ?hr ?_; (case hd => rfl); (case hg => rfl); (case hr => first | (go_simp; done) | (go_simp; rfl)); intro gb606 hg w115 hbox hb; have BK606 := Aside0.mk (hbox); have GW606 := Kw_ HB hg; have GE606 := GW606; have NB580_606 := Kl_ BK580 hg; have NB606_580 := Kr_ BK580 hg; have NB581_606 := Kl_ BK581 hg; have NB606_581 := Kr_ BK581 hg; have NB588_606 := Kl_ BK588 hg; have NB606_588 := Kr_ BK588 hg; have NB594_606 := Kl_ BK594 hg; have NB606_594 := Kr_ BK594 hg; replace BK580 := Kb_ BK580 hb; replace BK581 := Kb_ BK581 hb; replace BK588 := Kb_ BK588 hb; replace BK594 := Kb_ BK594 hb; replace HB := Ks_ HB hb; clear hb hbox hg) | ((with_reducible refine gate_dst (N := 17) rfl ?_); refine box_event ?hg (N := 17) ?hd (cs := #[.string (⟨#[]⟩ : ByteArray), .bool false]) (t := 55) ?hr ?_; (case hd => rfl); (case hg => rfl); (case hr => first | (go_simp; done) | (go_simp; rfl)); intro gb607 hg w116 hbox hb; have BK607 := Aside0.mk (hbox); have GW607 := Kw_ HB hg; have GE607 := GW607; have NB580_607 := Kl_ BK580 hg; have NB607_580 := Kr_ BK580 hg; have NB581_607 := Kl_ BK581 hg; have NB607_581 := Kr_ BK581 hg; have NB588_607 := Kl_ BK588 hg; have NB607_588 := Kr_ BK588 hg; have NB594_607 := Kl_ BK594 hg; have NB607_594 := Kr_ BK594 hg; have NB606_607 := Kl_ BK606 hg; have NB607_606 := Kr_ BK606 hg; replace BK580 := Kb_ BK580 hb; replace BK581 := Kb_ BK581 hb; replace BK588 := Kb_ BK588 hb; replace BK594 := Kb_ BK594 hb; replace BK606 := Kb_ BK606 hb; replace HB := Ks_ HB hb; clear hb hbox hg; have hnb117 := NB606_580.out; have hnc117 := NB580_606.out; have hnb118 := NB606_581.out; have hnc118 := NB581_606.out; have hnb119 := NB606_588.out; have hnc119 := NB588_606.out; have hnb120 := NB606_594.out; have hnc120 := NB594_606.out; have hnb121 := NB606_607.out; have hnc121 := NB607_606.out; have hcz122_0 : w116.cell? ⟨gb606, 0, none⟩ = some (.int .u64 0) := (blk_cell BK606.out 0).trans rfl; have hcz122_1 : w116.cell? ⟨gb606, 1, none⟩ = some (.int .u64 0) := (blk_cell BK606.out 1).trans rfl; have hcz122_2 : w116.cell? ⟨gb606, 2, none⟩ = some (.int .u64 0) := (blk_cell BK606.out 2).trans rfl; have hcz122_3 : w116.cell? ⟨gb606, 3, none⟩ = some (.int .u64 0) := (blk_cell BK606.out 3).trans rfl; have hcz122_4 : w116.cell? ⟨gb606, 4, none⟩ = some (.int .i64 0) := (blk_cell BK606.out 4).trans rfl; have hfz122_0 := blk_frozen BK606.out 0; have hfz122_1 := blk_frozen BK606.out 1; have hfz122_2 := blk_frozen BK606.out 2; have hfz122_3 := blk_frozen BK606.out 3; have hfz122_4 := blk_frozen BK606.out 4; have hnb123 := NB607_580.out; have hnc123 := NB580_607.out; have hnb124 := NB607_581.out; have hnc124 := NB581_607.out; have hnb125 := NB607_588.out; have hnc125 := NB588_607.out; have hnb126 := NB607_594.out; have hnc126 := NB594_607.out; have hcz127_0 : w116.cell? ⟨gb607, 0, none⟩ = some (.string (⟨#[]⟩ : ByteArray)) := (blk_cell BK607.out 0).trans rfl; have hcz127_1 : w116.cell? ⟨gb607, 1, none⟩ = some (.bool false) := (blk_cell BK607.out 1).trans rfl; have hfz127_0 := blk_frozen BK607.out 0; have hfz127_1 := blk_frozen BK607.out 1) | ((with_reducible refine gate_callee (f := 28) rfl ?_); refine goesL_ (some 58) rfl rfl Tryd.func28 (by kernel_rfl) rfl #[.agg #[.string (t595.extract 0 ((ji15) : Int).toNat), .bool false]] rfl (by (try simp only [List.map_toArray, List.map_cons, List.map_nil]); first | done | (simp only [hji15]; rfl) | rfl | (simp only [List.length_drop, List.length_take]; rfl)) ?_; (with_reducible refine (stamp_Get.calls k (t595.extract 0 ((ji15) : Int).toNat) false t608 t609 t610 t611 t612 t613 true _ A18.out).mono ?_); rintro e w128 ⟨rfl, hb⟩; refine ⟨_, rfl, ?_⟩; replace BK580 := Aside0.mk (blk_below (g := gb580) (o := .cells #[.int .u64 a0_0, .int .u64 a0_1, .int .u64 a0_2, .int .u64 a0_3, .int .i64 a0_4, .bool true] 28 (0, 0)) (by (repeat (first | (with_reducible first | refine blk_drewN ?_ _ | refine blk_drew ?_ | refine blk_alloc ?_ _) | refine blk_far ?_ NB580_607.out _ | refine blk_far ?_ NB580_606.out _)); exact BK580.out) hb); replace BK581 := Aside0.mk (blk_below (g := gb581) (o := .cells #[.int .u64 a1_0, .int .u64 a1_1, .int .u64 a1_2, .int .u64 a1_3, .int .i64 a1_4, .bool true] 28 (0, 0)) (by (repeat (first | (with_reducible first | refine blk_drewN ?_ _ | refine blk_drew ?_ | refine blk_alloc ?_ _) | refine blk_far ?_ NB581_607.out _ | refine blk_far ?_ NB581_606.out _)); exact BK581.out) hb); replace BK588 := Aside0.mk (blk_below (g := gb588) (o := .cells #[.int .u64 t583, .int .u64 t584, .int .u64 t585, .int .u64 t586, .int .i64 t587] 26 (0, 0)) (by (repeat (first | (with_reducible first | refine blk_drewN ?_ _ | refine blk_drew ?_ | refine blk_alloc ?_ _) | refine blk_far ?_ NB588_607.out _ | refine blk_far ?_ NB588_606.out _)); exact BK588.out) hb); replace BK594 := Aside0.mk (blk_below (g := gb594) (o := .cells #[.int .u64 t589, .int .u64 t590, .int .u64 t591, .int .u64 t592, .int .i64 t593] 26 (0, 0)) (by (repeat (first | (with_reducible first | refine blk_drewN ?_ _ | refine blk_drew ?_ | refine blk_alloc ?_ _) | refine blk_far ?_ NB594_607.out _ | refine blk_far ?_ NB594_606.out _)); exact BK594.out) hb); replace BK606 := Aside0.mk (blk_below (g := gb606) (o := .cells #[.int .u64 t599, .int .u64 t600, .int .u64 t601, .int .u64 t602, .int .i64 t603] 26 (0, 0)) (by (repeat (first | (with_reducible first | refine blk_drewN ?_ _ | refine blk_drew ?_ | refine blk_alloc ?_ _) | refine blk_far ?_ NB606_607.out _)); refine blk_put (cs := #[.int .u64 t599, .int .u64 t600, .int .u64 t601, .int .u64 t602, .int .i64 0]) ?_ 4 _ rfl; (with_reducible repeat (first | refine blk_drewN ?_ _ | refine blk_drew ?_ | refine blk_alloc ?_ _)); refine blk_put (cs := #[.int .u64 t599, .int .u64 t600, .int .u64 t601, .int .u64 0, .int .i64 0]) ?_ 3 _ rfl; (with_reducible repeat (first | refine blk_drewN ?_ _ | refine blk_drew ?_ | refine blk_alloc ?_ _)); refine blk_put (cs := #[.int .u64 t599, .int .u64 t600, .int .u64 0, .int .u64 0, .int .i64 0]) ?_ 2 _ rfl; (with_reducible repeat (first | refine blk_drewN ?_ _ | refine blk_drew ?_ | refine blk_alloc ?_ _)); refine blk_put (cs := #[.int .u64 t599, .int .u64 0, .int .u64 0, .int .u64 0, .int .i64 0]) ?_ 1 _ rfl; (with_reducible repeat (first | refine blk_drewN ?_ _ | refine blk_drew ?_ | refine blk_alloc ?_ _)); refine blk_put (cs := #[.int .u64 0, .int .u64 0, .int .u64 0, .int .u64 0, .int .i64 0]) ?_ 0 _ rfl; (with_reducible repeat (first | refine blk_drewN ?_ _ | refine blk_drew ?_ | refine blk_alloc ?_ _)); exact BK606.out) hb); replace BK607 := Aside0.mk (blk_below (g := gb607) (o := .cells #[.string t604, .bool false] 55 (0, 0)) (by (with_reducible repeat (first | refine blk_drewN ?_ _ | refine blk_drew ?_ | refine blk_alloc ?_ _)); refine blk_put (cs := #[.string t604, .bool false]) ?_ 1 _ rfl; (with_reducible repeat (first | refine blk_drewN ?_ _ | refine blk_drew ?_ | refine blk_alloc ?_ _)); refine blk_put (cs := #[.string (⟨#[]⟩ : ByteArray), .bool false]) ?_ 0 _ rfl; (repeat (first | (with_reducible first | refine blk_drewN ?_ _ | refine blk_drew ?_ | refine blk_alloc ?_ _) | refine blk_far ?_ NB607_606.out _)); exact BK607.out) hb); replace HB := Aside0.mk (below_step (by repeat (first | (with_reducible first | exact HB.out | apply below_alloc | apply pw_below_drewN | apply below_drew1 | refine below_set ?_ GE580.out | refine below_set ?_ GE581.out | refine below_set ?_ GE588.out | refine below_set ?_ GE594.out | refine below_set ?_ GE606.out | refine below_set ?_ GE607.out) | exact HB.out)) hb); (try clear hb); (try clear hb2); (try clear hk); (try clear hi)) | ((with_reducible refine gate_dst (N := 18) rfl ?_); refine box_event ?hg (N := 18) ?hd (cs := #[.int .u64 0, .int .u64 0, .int .u64 0, .int .u64 0, .int .i64 0]) (t := 26) ?hr ?_; (case hd => rfl); (case hg => rfl); (case hr => first | (go_simp; done) | (go_simp; rfl)); intro gb615 hg w129 hbox hb; have BK615 := Aside0.mk (hbox); have GW615 := Kw_ HB hg; have GE615 := GW615; have NB580_615 := Kl_ BK580 hg; have NB615_580 := Kr_ BK580 hg; have NB581_615 := Kl_ BK581 hg; have NB615_581 := Kr_ BK581 hg; have NB588_615 := Kl_ BK588 hg; have NB615_588 := Kr_ BK588 hg; have NB594_615 := Kl_ BK594 hg; have NB615_594 := Kr_ BK594 hg; have NB606_615 := Kl_ BK606 hg; have NB615_606 := Kr_ BK606 hg; have NB607_615 := Kl_ BK607 hg; have NB615_607 := Kr_ BK607 hg; replace BK580 := Kb_ BK580 hb; replace BK581 := Kb_ BK581 hb; replace BK588 := Kb_ BK588 hb; replace BK594 := Kb_ BK594 hb; replace BK606 := Kb_ BK606 hb; replace BK607 := Kb_ BK607 hb; replace HB := Ks_ HB hb; clear hb hbox hg) | ((with_reducible refine gate_dst (N := 19) rfl ?_); refine box_event ?hg (N := 19) ?hd (cs := #[.string (⟨#[]⟩ : ByteArray), .bool false]) (t := 55) ?hr ?_; (case hd => rfl); (case hg => rfl); (case hr => first | (go_simp; done) | (go_simp; rfl)); intro gb616 hg w130 hbox hb; have BK616 := Aside0.mk (hbox); have GW616 := Kw_ HB hg; have GE616 := GW616; have NB580_616 := Kl_ BK580 hg; have NB616_580 := Kr_ BK580 hg; have NB581_616 := Kl_ BK581 hg; have NB616_581 := Kr_ BK581 hg; have NB588_616 := Kl_ BK588 hg; have NB616_588 := Kr_ BK588 hg; have NB594_616 := Kl_ BK594 hg; have NB616_594 := Kr_ BK594 hg; have NB606_616 := Kl_ BK606 hg; have NB616_606 := Kr_ BK606 hg; have NB607_616 := Kl_ BK607 hg; have NB616_607 := Kr_ BK607 hg; have NB615_616 := Kl_ BK615 hg; have NB616_615 := Kr_ BK615 hg; replace BK580 := Kb_ BK580 hb; replace BK581 := Kb_ BK581 hb; replace BK588 := Kb_ BK588 hb; replace BK594 := Kb_ BK594 hb; replace BK606 := Kb_ BK606 hb; replace BK607 := Kb_ BK607 hb; replace BK615 := Kb_ BK615 hb; replace HB := Ks_ HB hb; clear hb hbox hg; have hnb131 := NB615_580.out; have hnc131 := NB580_615.out; have hnb132 := NB615_581.out; have hnc132 := NB581_615.out; have hnb133 := NB615_588.out; have hnc133 := NB588_615.out; have hnb134 := NB615_594.out; have hnc134 := NB594_615.out; have hnb135 := NB615_606.out; have hnc135 := NB606_615.out; have hnb136 := NB615_607.out; have hnc136 := NB607_615.out; have hnb137 := NB615_616.out; have hnc137 := NB616_615.out; have hcz138_0 : w130.cell? ⟨gb615, 0, none⟩ = some (.int .u64 0) := (blk_cell BK615.out 0).trans rfl; have hcz138_1 : w130.cell? ⟨gb615, 1, none⟩ = some (.int .u64 0) := (blk_cell BK615.out 1).trans rfl; have hcz138_2 : w130.cell? ⟨gb615, 2, none⟩ = some (.int .u64 0) := (blk_cell BK615.out 2).trans rfl; have hcz138_3 : w130.cell? ⟨gb615, 3, none⟩ = some (.int .u64 0) := (blk_cell BK615.out 3).trans rfl; have hcz138_4 : w130.cell? ⟨gb615, 4, none⟩ = some (.int .i64 0) := (blk_cell BK615.out 4).trans rfl; have hfz138_0 := blk_frozen BK615.out 0; have hfz138_1 := blk_frozen BK615.out 1; have hfz138_2 := blk_frozen BK615.out 2; have hfz138_3 := blk_frozen BK615.out 3; have hfz138_4 := blk_frozen BK615.out 4; have hnb139 := NB616_580.out; have hnc139 := NB580_616.out; have hnb140 := NB616_581.out; have hnc140 := NB581_616.out; have hnb141 := NB616_588.out; have hnc141 := NB588_616.out; have hnb142 := NB616_594.out; have hnc142 := NB594_616.out; have hnb143 := NB616_606.out; have hnc143 := NB606_616.out; have hnb144 := NB616_607.out; have hnc144 := NB607_616.out; have hcz145_0 : w130.cell? ⟨gb616, 0, none⟩ = some (.string (⟨#[]⟩ : ByteArray)) := (blk_cell BK616.out 0).trans rfl; have hcz145_1 : w130.cell? ⟨gb616, 1, none⟩ = some (.bool false) := (blk_cell BK616.out 1).trans rfl; have hfz145_0 := blk_frozen BK616.out 0; have hfz145_1 := blk_frozen BK616.out 1))
  have n0_ : Aside0 ((((((((w130.setCell ⟨gb615, 0, none⟩ (.int .u64 t608)).setCell ⟨gb615, 1, none⟩ (.int .u64 t609)).setCell ⟨gb615, 2, none⟩ (.int .u64 t610)).setCell ⟨gb615, 3, none⟩ (.int .u64 t611)).setCell ⟨gb615, 4, none⟩ (.int .i64 t612)).setCell ⟨gb616, 0, none⟩ (.string t613)).setCell ⟨gb616, 1, none⟩ (.bool true)).heap[gb580]? = some (.cells #[.int .u64 a0_0, .int .u64 a0_1, .int .u64 a0_2, .int .u64 a0_3, .int .i64 a0_4, .bool true] 28 (0, 0))) := ⟨by (repeat (first | (with_reducible first | refine blk_drewN ?_ _ | refine blk_drew ?_ | refine blk_alloc ?_ _) | refine blk_far ?_ NB580_616.out _ | refine blk_far ?_ NB580_615.out _)); exact BK580.out⟩
  have n1_ : Aside0 ((((((((w130.setCell ⟨gb615, 0, none⟩ (.int .u64 t608)).setCell ⟨gb615, 1, none⟩ (.int .u64 t609)).setCell ⟨gb615, 2, none⟩ (.int .u64 t610)).setCell ⟨gb615, 3, none⟩ (.int .u64 t611)).setCell ⟨gb615, 4, none⟩ (.int .i64 t612)).setCell ⟨gb616, 0, none⟩ (.string t613)).setCell ⟨gb616, 1, none⟩ (.bool true)).heap[gb581]? = some (.cells #[.int .u64 a1_0, .int .u64 a1_1, .int .u64 a1_2, .int .u64 a1_3, .int .i64 a1_4, .bool true] 28 (0, 0))) := ⟨by (repeat (first | (with_reducible first | refine blk_drewN ?_ _ | refine blk_drew ?_ | refine blk_alloc ?_ _) | refine blk_far ?_ NB581_616.out _ | refine blk_far ?_ NB581_615.out _)); exact BK581.out⟩
  have n2_ : Aside0 ((((((((w130.setCell ⟨gb615, 0, none⟩ (.int .u64 t608)).setCell ⟨gb615, 1, none⟩ (.int .u64 t609)).setCell ⟨gb615, 2, none⟩ (.int .u64 t610)).setCell ⟨gb615, 3, none⟩ (.int .u64 t611)).setCell ⟨gb615, 4, none⟩ (.int .i64 t612)).setCell ⟨gb616, 0, none⟩ (.string t613)).setCell ⟨gb616, 1, none⟩ (.bool true)).heap[gb588]? = some (.cells #[.int .u64 t583, .int .u64 t584, .int .u64 t585, .int .u64 t586, .int .i64 t587] 26 (0, 0))) := ⟨by (repeat (first | (with_reducible first | refine blk_drewN ?_ _ | refine blk_drew ?_ | refine blk_alloc ?_ _) | refine blk_far ?_ NB588_616.out _ | refine blk_far ?_ NB588_615.out _)); exact BK588.out⟩
  have n3_ : Aside0 ((((((((w130.setCell ⟨gb615, 0, none⟩ (.int .u64 t608)).setCell ⟨gb615, 1, none⟩ (.int .u64 t609)).setCell ⟨gb615, 2, none⟩ (.int .u64 t610)).setCell ⟨gb615, 3, none⟩ (.int .u64 t611)).setCell ⟨gb615, 4, none⟩ (.int .i64 t612)).setCell ⟨gb616, 0, none⟩ (.string t613)).setCell ⟨gb616, 1, none⟩ (.bool true)).heap[gb594]? = some (.cells #[.int .u64 t589, .int .u64 t590, .int .u64 t591, .int .u64 t592, .int .i64 t593] 26 (0, 0))) := ⟨by (repeat (first | (with_reducible first | refine blk_drewN ?_ _ | refine blk_drew ?_ | refine blk_alloc ?_ _) | refine blk_far ?_ NB594_616.out _ | refine blk_far ?_ NB594_615.out _)); exact BK594.out⟩
  have n4_ : Aside0 ((((((((w130.setCell ⟨gb615, 0, none⟩ (.int .u64 t608)).setCell ⟨gb615, 1, none⟩ (.int .u64 t609)).setCell ⟨gb615, 2, none⟩ (.int .u64 t610)).setCell ⟨gb615, 3, none⟩ (.int .u64 t611)).setCell ⟨gb615, 4, none⟩ (.int .i64 t612)).setCell ⟨gb616, 0, none⟩ (.string t613)).setCell ⟨gb616, 1, none⟩ (.bool true)).heap[gb606]? = some (.cells #[.int .u64 t599, .int .u64 t600, .int .u64 t601, .int .u64 t602, .int .i64 t603] 26 (0, 0))) := ⟨by (repeat (first | (with_reducible first | refine blk_drewN ?_ _ | refine blk_drew ?_ | refine blk_alloc ?_ _) | refine blk_far ?_ NB606_616.out _ | refine blk_far ?_ NB606_615.out _)); exact BK606.out⟩
  have n5_ : Aside0 ((((((((w130.setCell ⟨gb615, 0, none⟩ (.int .u64 t608)).setCell ⟨gb615, 1, none⟩ (.int .u64 t609)).setCell ⟨gb615, 2, none⟩ (.int .u64 t610)).setCell ⟨gb615, 3, none⟩ (.int .u64 t611)).setCell ⟨gb615, 4, none⟩ (.int .i64 t612)).setCell ⟨gb616, 0, none⟩ (.string t613)).setCell ⟨gb616, 1, none⟩ (.bool true)).heap[gb607]? = some (.cells #[.string t604, .bool false] 55 (0, 0))) := ⟨by (repeat (first | (with_reducible first | refine blk_drewN ?_ _ | refine blk_drew ?_ | refine blk_alloc ?_ _) | refine blk_far ?_ NB607_616.out _ | refine blk_far ?_ NB607_615.out _)); exact BK607.out⟩
  have n6_ : Aside0 ((((((((w130.setCell ⟨gb615, 0, none⟩ (.int .u64 t608)).setCell ⟨gb615, 1, none⟩ (.int .u64 t609)).setCell ⟨gb615, 2, none⟩ (.int .u64 t610)).setCell ⟨gb615, 3, none⟩ (.int .u64 t611)).setCell ⟨gb615, 4, none⟩ (.int .i64 t612)).setCell ⟨gb616, 0, none⟩ (.string t613)).setCell ⟨gb616, 1, none⟩ (.bool true)).heap[gb615]? = some (.cells #[.int .u64 t608, .int .u64 t609, .int .u64 t610, .int .u64 t611, .int .i64 t612] 26 (0, 0))) := ⟨by (repeat (first | (with_reducible first | refine blk_drewN ?_ _ | refine blk_drew ?_ | refine blk_alloc ?_ _) | refine blk_far ?_ NB615_616.out _)); refine blk_put (cs := #[.int .u64 t608, .int .u64 t609, .int .u64 t610, .int .u64 t611, .int .i64 0]) ?_ 4 _ rfl; (with_reducible repeat (first | refine blk_drewN ?_ _ | refine blk_drew ?_ | refine blk_alloc ?_ _)); refine blk_put (cs := #[.int .u64 t608, .int .u64 t609, .int .u64 t610, .int .u64 0, .int .i64 0]) ?_ 3 _ rfl; (with_reducible repeat (first | refine blk_drewN ?_ _ | refine blk_drew ?_ | refine blk_alloc ?_ _)); refine blk_put (cs := #[.int .u64 t608, .int .u64 t609, .int .u64 0, .int .u64 0, .int .i64 0]) ?_ 2 _ rfl; (with_reducible repeat (first | refine blk_drewN ?_ _ | refine blk_drew ?_ | refine blk_alloc ?_ _)); refine blk_put (cs := #[.int .u64 t608, .int .u64 0, .int .u64 0, .int .u64 0, .int .i64 0]) ?_ 1 _ rfl; (with_reducible repeat (first | refine blk_drewN ?_ _ | refine blk_drew ?_ | refine blk_alloc ?_ _)); refine blk_put (cs := #[.int .u64 0, .int .u64 0, .int .u64 0, .int .u64 0, .int .i64 0]) ?_ 0 _ rfl; (with_reducible repeat (first | refine blk_drewN ?_ _ | refine blk_drew ?_ | refine blk_alloc ?_ _)); exact BK615.out⟩
  have n7_ : Aside0 ((((((((w130.setCell ⟨gb615, 0, none⟩ (.int .u64 t608)).setCell ⟨gb615, 1, none⟩ (.int .u64 t609)).setCell ⟨gb615, 2, none⟩ (.int .u64 t610)).setCell ⟨gb615, 3, none⟩ (.int .u64 t611)).setCell ⟨gb615, 4, none⟩ (.int .i64 t612)).setCell ⟨gb616, 0, none⟩ (.string t613)).setCell ⟨gb616, 1, none⟩ (.bool true)).heap[gb616]? = some (.cells #[.string t613, .bool true] 55 (0, 0))) := ⟨by (with_reducible repeat (first | refine blk_drewN ?_ _ | refine blk_drew ?_ | refine blk_alloc ?_ _)); refine blk_put (cs := #[.string t613, .bool false]) ?_ 1 _ rfl; (with_reducible repeat (first | refine blk_drewN ?_ _ | refine blk_drew ?_ | refine blk_alloc ?_ _)); refine blk_put (cs := #[.string (⟨#[]⟩ : ByteArray), .bool false]) ?_ 0 _ rfl; (repeat (first | (with_reducible first | refine blk_drewN ?_ _ | refine blk_drew ?_ | refine blk_alloc ?_ _) | refine blk_far ?_ NB616_615.out _)); exact BK616.out⟩
  have n8_ : Aside0 (Below w.heap.size w (((((((w130.setCell ⟨gb615, 0, none⟩ (.int .u64 t608)).setCell ⟨gb615, 1, none⟩ (.int .u64 t609)).setCell ⟨gb615, 2, none⟩ (.int .u64 t610)).setCell ⟨gb615, 3, none⟩ (.int .u64 t611)).setCell ⟨gb615, 4, none⟩ (.int .i64 t612)).setCell ⟨gb616, 0, none⟩ (.string t613)).setCell ⟨gb616, 1, none⟩ (.bool true))) := ⟨by repeat (first | (with_reducible first | exact HB.out | apply below_alloc | apply pw_below_drewN | apply below_drew1 | refine below_set ?_ GE580.out | refine below_set ?_ GE581.out | refine below_set ?_ GE588.out | refine below_set ?_ GE594.out | refine below_set ?_ GE606.out | refine below_set ?_ GE607.out | refine below_set ?_ GE615.out | refine below_set ?_ GE616.out) | exact HB.out)⟩
  (try clear BK580)
  (try clear BK581)
  (try clear BK588)
  (try clear BK594)
  (try clear BK606)
  (try clear BK607)
  (try clear BK615)
  (try clear BK616)
  (try clear HB)
  generalize (((((((w130.setCell ⟨gb615, 0, none⟩ (.int .u64 t608)).setCell ⟨gb615, 1, none⟩ (.int .u64 t609)).setCell ⟨gb615, 2, none⟩ (.int .u64 t610)).setCell ⟨gb615, 3, none⟩ (.int .u64 t611)).setCell ⟨gb615, 4, none⟩ (.int .i64 t612)).setCell ⟨gb616, 0, none⟩ (.string t613)).setCell ⟨gb616, 1, none⟩ (.bool true)) = w146 at n0_ n1_ n2_ n3_ n4_ n5_ n6_ n7_ n8_ ⊢
  have BK580 := n0_
  have BK581 := n1_
  have BK588 := n2_
  have BK594 := n3_
  have BK606 := n4_
  have BK607 := n5_
  have BK615 := n6_
  have BK616 := n7_
  have HB := n8_
  clear n0_ n1_ n2_ n3_ n4_ n5_ n6_ n7_ n8_
  replace BK580 := Kd_ BK580
  replace BK581 := Kd_ BK581
  replace BK588 := Kd_ BK588
  replace BK594 := Kd_ BK594
  replace BK606 := Kd_ BK606
  replace BK607 := Kd_ BK607
  replace BK615 := Kd_ BK615
  replace BK616 := Kd_ BK616
  replace HB := Aside0.mk (below_drew1 HB.out)
  refine start_ (n := 48) (S := fun w' => w'.cell? ⟨gb606, 0, none⟩ = some (.int .u64 t599) ∧ w'.cell? ⟨gb606, 1, none⟩ = some (.int .u64 t600) ∧ w'.cell? ⟨gb606, 2, none⟩ = some (.int .u64 t601) ∧ w'.cell? ⟨gb606, 3, none⟩ = some (.int .u64 t602) ∧ w'.cell? ⟨gb606, 4, none⟩ = some (.int .i64 t603) ∧ w'.cell? ⟨gb588, 0, none⟩ = some (.int .u64 t583) ∧ w'.cell? ⟨gb588, 1, none⟩ = some (.int .u64 t584) ∧ w'.cell? ⟨gb588, 2, none⟩ = some (.int .u64 t585) ∧ w'.cell? ⟨gb588, 3, none⟩ = some (.int .u64 t586) ∧ w'.cell? ⟨gb588, 4, none⟩ = some (.int .i64 t587) ∧ w'.cell? ⟨gb607, 0, none⟩ = some (.string t604) ∧ w'.cell? ⟨gb607, 1, none⟩ = some (.bool false) ∧ w'.cell? ⟨gb616, 0, none⟩ = some (.string t613) ∧ w'.cell? ⟨gb616, 1, none⟩ = some (.bool true) ∧ w'.cell? ⟨gb594, 0, none⟩ = some (.int .u64 t589) ∧ w'.cell? ⟨gb594, 1, none⟩ = some (.int .u64 t590) ∧ w'.cell? ⟨gb594, 2, none⟩ = some (.int .u64 t591) ∧ w'.cell? ⟨gb594, 3, none⟩ = some (.int .u64 t592) ∧ w'.cell? ⟨gb594, 4, none⟩ = some (.int .i64 t593)) (ds := []) #[false, false, false, false, false, false, false, false, false, false, false, false, false, false, false, false, false, false, false, false, false, false, false, false, false, false, false, false, false, false, false, false, false, false, false, false, false, false, false, false, false, false, false, false, false, false, false, false] (by kernel_rfl) rfl rfl ⟨(blk_cell BK606.out 0).trans rfl, (blk_cell BK606.out 1).trans rfl, (blk_cell BK606.out 2).trans rfl, (blk_cell BK606.out 3).trans rfl, (blk_cell BK606.out 4).trans rfl, (blk_cell BK588.out 0).trans rfl, (blk_cell BK588.out 1).trans rfl, (blk_cell BK588.out 2).trans rfl, (blk_cell BK588.out 3).trans rfl, (blk_cell BK588.out 4).trans rfl, (blk_cell BK607.out 0).trans rfl, (blk_cell BK607.out 1).trans rfl, (blk_cell BK616.out 0).trans rfl, (blk_cell BK616.out 1).trans rfl, (blk_cell BK594.out 0).trans rfl, (blk_cell BK594.out 1).trans rfl, (blk_cell BK594.out 2).trans rfl, (blk_cell BK594.out 3).trans rfl, (blk_cell BK594.out 4).trans rfl⟩ (fun hHeld => ?_); refine with_tabW tenementlaw07_StampBack.tab14 tenementlaw07_StampBack.bits14 (fun HT_ HW_ => ?_)
  generalize w146.drew = w147 at BK580 BK581 BK588 BK594 BK606 BK607 BK615 BK616 HB hHeld ⊢
  refine pure_ (i := 0) (N := some 61) (v := ?_) (a' := ?_) #[true, false, false, false, false, false, false, false, false, false, false, false, false, false, false, false, false, false, false, false, false, false, false, false, false, false, false, false, false, false, false, false, false, false, false, false, false, false, false, false, false, false, false, false, false, false, false, false] rfl rfl (any_of HT_.out (by kernel_rfl)) (fun _ _ _ h => h) (Or.inl ⟨by rfl, ?_⟩) ?_ ?_
  rotate_left
  · intro w'
    go_simp
    with_reducible rfl
  rotate_left
  · simp only [Act.put, List.setIfInBounds_toArray, List.set_cons_zero, List.set_cons_succ, i64_w, i32_w]
    rfl
  refine pure_ (i := 1) (N := some 62) (v := ?_) (a' := ?_) #[true, true, false, false, false, false, false, false, false, false, false, false, false, false, false, false, false, false, false, false, false, false, false, false, false, false, false, false, false, false, false, false, false, false, false, false, false, false, false, false, false, false, false, false, false, false, false, false] rfl rfl (any_of HT_.out (by kernel_rfl)) (fun _ _ _ h => h) (Or.inl ⟨by rfl, ?_⟩) ?_ ?_
  rotate_left
  · intro w'
    go_simp
    with_reducible rfl
  rotate_left
  · simp only [Act.put, List.setIfInBounds_toArray, List.set_cons_zero, List.set_cons_succ, i64_w, i32_w]
    rfl
  refine pure_ (i := 2) (N := some 63) (v := ?_) (a' := ?_) #[true, true, true, false, false, false, false, false, false, false, false, false, false, false, false, false, false, false, false, false, false, false, false, false, false, false, false, false, false, false, false, false, false, false, false, false, false, false, false, false, false, false, false, false, false, false, false, false] rfl rfl (any_of HT_.out (by kernel_rfl)) (fun _ _ _ h => h) (Or.inl ⟨by rfl, ?_⟩) ?_ ?_
  rotate_left
  · intro w'
    go_simp
    with_reducible rfl
  rotate_left
  · simp only [Act.put, List.setIfInBounds_toArray, List.set_cons_zero, List.set_cons_succ, i64_w, i32_w]
    rfl
  refine pure_ (i := 3) (N := some 64) (v := ?_) (a' := ?_) #[true, true, true, true, false, false, false, false, false, false, false, false, false, false, false, false, false, false, false, false, false, false, false, false, false, false, false, false, false, false, false, false, false, false, false, false, false, false, false, false, false, false, false, false, false, false, false, false] rfl rfl (any_of HT_.out (by kernel_rfl)) (fun _ _ _ h => h) (Or.inl ⟨by rfl, ?_⟩) ?_ ?_
  rotate_left
  · intro w'
    go_simp
    with_reducible rfl
  rotate_left
  · simp only [Act.put, List.setIfInBounds_toArray, List.set_cons_zero, List.set_cons_succ, i64_w, i32_w]
    rfl
  refine pure_ (i := 4) (N := some 65) (v := ?_) (a' := ?_) #[true, true, true, true, true, false, false, false, false, false, false, false, false, false, false, false, false, false, false, false, false, false, false, false, false, false, false, false, false, false, false, false, false, false, false, false, false, false, false, false, false, false, false, false, false, false, false, false] rfl rfl (any_of HT_.out (by kernel_rfl)) (fun _ _ _ h => h) (Or.inl ⟨by rfl, ?_⟩) ?_ ?_
  rotate_left
  · intro w'
    go_simp
    with_reducible rfl
  rotate_left
  · simp only [Act.put, List.setIfInBounds_toArray, List.set_cons_zero, List.set_cons_succ, i64_w, i32_w]
    rfl
  refine pure_ (i := 5) (N := some 66) (v := ?_) (a' := ?_) #[true, true, true, true, true, true, false, false, false, false, false, false, false, false, false, false, false, false, false, false, false, false, false, false, false, false, false, false, false, false, false, false, false, false, false, false, false, false, false, false, false, false, false, false, false, false, false, false] rfl rfl (any_of HT_.out (by kernel_rfl)) (fun _ _ _ h => h) (Or.inl ⟨by rfl, ?_⟩) ?_ ?_
  rotate_left
  · intro w'
    go_simp
    with_reducible rfl
  rotate_left
  · simp only [Act.put, List.setIfInBounds_toArray, List.set_cons_zero, List.set_cons_succ, i64_w, i32_w]
    rfl
  refine pure_ (i := 6) (N := some 67) (v := ?_) (a' := ?_) #[true, true, true, true, true, true, true, false, false, false, false, false, false, false, false, false, false, false, false, false, false, false, false, false, false, false, false, false, false, false, false, false, false, false, false, false, false, false, false, false, false, false, false, false, false, false, false, false] rfl rfl (any_of HT_.out (by kernel_rfl)) (fun _ _ _ h => h) (Or.inl ⟨by rfl, ?_⟩) ?_ ?_
  rotate_left
  · intro w'
    go_simp
    with_reducible rfl
  rotate_left
  · simp only [Act.put, List.setIfInBounds_toArray, List.set_cons_zero, List.set_cons_succ, i64_w, i32_w]
    rfl
  refine pure_ (i := 7) (N := some 68) (v := ?_) (a' := ?_) #[true, true, true, true, true, true, true, true, false, false, false, false, false, false, false, false, false, false, false, false, false, false, false, false, false, false, false, false, false, false, false, false, false, false, false, false, false, false, false, false, false, false, false, false, false, false, false, false] rfl rfl (any_of HT_.out (by kernel_rfl)) (fun _ _ _ h => h) (Or.inl ⟨by rfl, ?_⟩) ?_ ?_
  rotate_left
  · intro w'
    go_simp
    with_reducible rfl
  rotate_left
  · simp only [Act.put, List.setIfInBounds_toArray, List.set_cons_zero, List.set_cons_succ, i64_w, i32_w]
    rfl
  refine take_ (i := 8) (N := some 69) (v := ?_) (a' := ?_) #[true, true, true, true, true, true, true, true, true, false, false, false, false, false, false, false, false, false, false, false, false, false, false, false, false, false, false, false, false, false, false, false, false, false, false, false, false, false, false, false, false, false, false, false, false, false, false, false] rfl rfl (take_ofW HT_.out HW_.out (by kernel_rfl)) (fun _ _ _ h => h) (Or.inl ⟨by rfl, ?_⟩) hHeld ?_ ?_
  rotate_left
  · rintro w' ⟨s0, s1, s2, s3, s4, s5, s6, s7, s8, s9, s10, s11, s12, s13, s14, s15, s16, s17, s18⟩
    go_simp
    with_reducible rfl
  rotate_left
  · simp only [Act.put, List.setIfInBounds_toArray, List.set_cons_zero, List.set_cons_succ, i64_w, i32_w]
    rfl
  refine take_ (i := 9) (N := some 70) (v := ?_) (a' := ?_) #[true, true, true, true, true, true, true, true, true, true, false, false, false, false, false, false, false, false, false, false, false, false, false, false, false, false, false, false, false, false, false, false, false, false, false, false, false, false, false, false, false, false, false, false, false, false, false, false] rfl rfl (take_ofW HT_.out HW_.out (by kernel_rfl)) (fun _ _ _ h => h) (Or.inl ⟨by rfl, ?_⟩) hHeld ?_ ?_
  rotate_left
  · rintro w' ⟨s0, s1, s2, s3, s4, s5, s6, s7, s8, s9, s10, s11, s12, s13, s14, s15, s16, s17, s18⟩
    go_simp
    with_reducible rfl
  rotate_left
  · simp only [Act.put, List.setIfInBounds_toArray, List.set_cons_zero, List.set_cons_succ, i64_w, i32_w]
    rfl
  refine pure_ (i := 10) (N := some 71) (v := ?_) (a' := ?_) #[true, true, true, true, true, true, true, true, true, true, true, false, false, false, false, false, false, false, false, false, false, false, false, false, false, false, false, false, false, false, false, false, false, false, false, false, false, false, false, false, false, false, false, false, false, false, false, false] rfl rfl (any_of HT_.out (by kernel_rfl)) (fun _ _ _ h => h) (Or.inl ⟨by rfl, ?_⟩) ?_ ?_
  rotate_left
  · intro w'
    go_simp
    with_reducible rfl
  rotate_left
  · simp only [Act.put, List.setIfInBounds_toArray, List.set_cons_zero, List.set_cons_succ, i64_w, i32_w]
    rfl
  refine pure_ (i := 11) (N := some 72) (v := ?_) (a' := ?_) #[true, true, true, true, true, true, true, true, true, true, true, true, false, false, false, false, false, false, false, false, false, false, false, false, false, false, false, false, false, false, false, false, false, false, false, false, false, false, false, false, false, false, false, false, false, false, false, false] rfl rfl (any_of HT_.out (by kernel_rfl)) (fun _ _ _ h => h) (Or.inl ⟨by rfl, ?_⟩) ?_ ?_
  rotate_left
  · intro w'
    go_simp
    with_reducible rfl
  rotate_left
  · simp only [Act.put, List.setIfInBounds_toArray, List.set_cons_zero, List.set_cons_succ, i64_w, i32_w]
    rfl
  refine pure_ (i := 12) (N := some 73) (v := ?_) (a' := ?_) #[true, true, true, true, true, true, true, true, true, true, true, true, true, false, false, false, false, false, false, false, false, false, false, false, false, false, false, false, false, false, false, false, false, false, false, false, false, false, false, false, false, false, false, false, false, false, false, false] rfl rfl (any_of HT_.out (by kernel_rfl)) (fun _ _ _ h => h) (Or.inl ⟨by rfl, ?_⟩) ?_ ?_
  rotate_left
  · intro w'
    go_simp
    with_reducible rfl
  rotate_left
  · simp only [Act.put, List.setIfInBounds_toArray, List.set_cons_zero, List.set_cons_succ, i64_w, i32_w]
    rfl
  refine pure_ (i := 13) (N := some 74) (v := ?_) (a' := ?_) #[true, true, true, true, true, true, true, true, true, true, true, true, true, true, false, false, false, false, false, false, false, false, false, false, false, false, false, false, false, false, false, false, false, false, false, false, false, false, false, false, false, false, false, false, false, false, false, false] rfl rfl (any_of HT_.out (by kernel_rfl)) (fun _ _ _ h => h) (Or.inl ⟨by rfl, ?_⟩) ?_ ?_
  rotate_left
  · intro w'
    go_simp
    with_reducible rfl
  rotate_left
  · simp only [Act.put, List.setIfInBounds_toArray, List.set_cons_zero, List.set_cons_succ, i64_w, i32_w]
    rfl
  refine pure_ (i := 15) (N := some 76) (v := ?_) (a' := ?_) #[true, true, true, true, true, true, true, true, true, true, true, true, true, true, false, true, false, false, false, false, false, false, false, false, false, false, false, false, false, false, false, false, false, false, false, false, false, false, false, false, false, false, false, false, false, false, false, false] rfl rfl (any_of HT_.out (by kernel_rfl)) (fun _ _ _ h => h) (Or.inl ⟨by rfl, ?_⟩) ?_ ?_
  rotate_left
  · intro w'
    go_simp
    with_reducible rfl
  rotate_left
  · simp only [Act.put, List.setIfInBounds_toArray, List.set_cons_zero, List.set_cons_succ, i64_w, i32_w]
    rfl
  refine take_ (i := 14) (N := some 75) (v := ?_) (a' := ?_) #[true, true, true, true, true, true, true, true, true, true, true, true, true, true, true, true, false, false, false, false, false, false, false, false, false, false, false, false, false, false, false, false, false, false, false, false, false, false, false, false, false, false, false, false, false, false, false, false] rfl rfl (take_ofW HT_.out HW_.out (by kernel_rfl)) (fun _ _ _ h => h) (Or.inl ⟨by rfl, ?_⟩) hHeld ?_ ?_
  rotate_left
  · rintro w' ⟨s0, s1, s2, s3, s4, s5, s6, s7, s8, s9, s10, s11, s12, s13, s14, s15, s16, s17, s18⟩
    go_simp
    with_reducible rfl
  rotate_left
  · simp only [Act.put, List.setIfInBounds_toArray, List.set_cons_zero, List.set_cons_succ, i64_w, i32_w]
    rfl
  refine pure_ (i := 16) (N := some 77) (v := ?_) (a' := ?_) #[true, true, true, true, true, true, true, true, true, true, true, true, true, true, true, true, true, false, false, false, false, false, false, false, false, false, false, false, false, false, false, false, false, false, false, false, false, false, false, false, false, false, false, false, false, false, false, false] rfl rfl (any_of HT_.out (by kernel_rfl)) (fun _ _ _ h => h) (Or.inl ⟨by rfl, ?_⟩) ?_ ?_
  rotate_left
  · intro w'
    go_simp
    with_reducible rfl
  rotate_left
  · simp only [Act.put, List.setIfInBounds_toArray, List.set_cons_zero, List.set_cons_succ, i64_w, i32_w]
    rfl
  refine pure_ (i := 17) (N := some 78) (v := ?_) (a' := ?_) #[true, true, true, true, true, true, true, true, true, true, true, true, true, true, true, true, true, true, false, false, false, false, false, false, false, false, false, false, false, false, false, false, false, false, false, false, false, false, false, false, false, false, false, false, false, false, false, false] rfl rfl (any_of HT_.out (by kernel_rfl)) (fun _ _ _ h => h) (Or.inl ⟨by rfl, ?_⟩) ?_ ?_
  rotate_left
  · intro w'
    go_simp
    with_reducible rfl
  rotate_left
  · simp only [Act.put, List.setIfInBounds_toArray, List.set_cons_zero, List.set_cons_succ, i64_w, i32_w]
    rfl
  refine pure_ (i := 18) (N := some 79) (v := ?_) (a' := ?_) #[true, true, true, true, true, true, true, true, true, true, true, true, true, true, true, true, true, true, true, false, false, false, false, false, false, false, false, false, false, false, false, false, false, false, false, false, false, false, false, false, false, false, false, false, false, false, false, false] rfl rfl (any_of HT_.out (by kernel_rfl)) (fun _ _ _ h => h) (Or.inl ⟨by rfl, ?_⟩) ?_ ?_
  rotate_left
  · intro w'
    go_simp
    with_reducible rfl
  rotate_left
  · simp only [Act.put, List.setIfInBounds_toArray, List.set_cons_zero, List.set_cons_succ, i64_w, i32_w]
    rfl
  refine pure_ (i := 19) (N := some 80) (v := ?_) (a' := ?_) #[true, true, true, true, true, true, true, true, true, true, true, true, true, true, true, true, true, true, true, true, false, false, false, false, false, false, false, false, false, false, false, false, false, false, false, false, false, false, false, false, false, false, false, false, false, false, false, false] rfl rfl (any_of HT_.out (by kernel_rfl)) (fun _ _ _ h => h) (Or.inl ⟨by rfl, ?_⟩) ?_ ?_
  rotate_left
  · intro w'
    go_simp
    with_reducible rfl
  rotate_left
  · simp only [Act.put, List.setIfInBounds_toArray, List.set_cons_zero, List.set_cons_succ, i64_w, i32_w]
    rfl
  refine take_ (i := 20) (N := some 81) (v := ?_) (a' := ?_) #[true, true, true, true, true, true, true, true, true, true, true, true, true, true, true, true, true, true, true, true, true, false, false, false, false, false, false, false, false, false, false, false, false, false, false, false, false, false, false, false, false, false, false, false, false, false, false, false] rfl rfl (take_ofW HT_.out HW_.out (by kernel_rfl)) (fun _ _ _ h => h) (Or.inl ⟨by rfl, ?_⟩) hHeld ?_ ?_
  rotate_left
  · rintro w' ⟨s0, s1, s2, s3, s4, s5, s6, s7, s8, s9, s10, s11, s12, s13, s14, s15, s16, s17, s18⟩
    go_simp
    with_reducible rfl
  rotate_left
  · simp only [Act.put, List.setIfInBounds_toArray, List.set_cons_zero, List.set_cons_succ, i64_w, i32_w]
    rfl
  refine pure_ (i := 21) (N := some 82) (v := ?_) (a' := ?_) #[true, true, true, true, true, true, true, true, true, true, true, true, true, true, true, true, true, true, true, true, true, true, false, false, false, false, false, false, false, false, false, false, false, false, false, false, false, false, false, false, false, false, false, false, false, false, false, false] rfl rfl (any_of HT_.out (by kernel_rfl)) (fun _ _ _ h => h) (Or.inl ⟨by rfl, ?_⟩) ?_ ?_
  rotate_left
  · intro w'
    go_simp
    with_reducible rfl
  rotate_left
  · simp only [Act.put, List.setIfInBounds_toArray, List.set_cons_zero, List.set_cons_succ, i64_w, i32_w]
    rfl
  refine pure_ (i := 22) (N := some 83) (v := ?_) (a' := ?_) #[true, true, true, true, true, true, true, true, true, true, true, true, true, true, true, true, true, true, true, true, true, true, true, false, false, false, false, false, false, false, false, false, false, false, false, false, false, false, false, false, false, false, false, false, false, false, false, false] rfl rfl (any_of HT_.out (by kernel_rfl)) (fun _ _ _ h => h) (Or.inl ⟨by rfl, ?_⟩) ?_ ?_
  rotate_left
  · intro w'
    go_simp
    with_reducible rfl
  rotate_left
  · simp only [Act.put, List.setIfInBounds_toArray, List.set_cons_zero, List.set_cons_succ, i64_w, i32_w]
    rfl
  refine pure_ (i := 23) (N := some 84) (v := ?_) (a' := ?_) #[true, true, true, true, true, true, true, true, true, true, true, true, true, true, true, true, true, true, true, true, true, true, true, true, false, false, false, false, false, false, false, false, false, false, false, false, false, false, false, false, false, false, false, false, false, false, false, false] rfl rfl (any_of HT_.out (by kernel_rfl)) (fun _ _ _ h => h) (Or.inl ⟨by rfl, ?_⟩) ?_ ?_
  rotate_left
  · intro w'
    go_simp
    with_reducible rfl
  rotate_left
  · simp only [Act.put, List.setIfInBounds_toArray, List.set_cons_zero, List.set_cons_succ, i64_w, i32_w]
    rfl
  refine pure_ (i := 24) (N := some 85) (v := ?_) (a' := ?_) #[true, true, true, true, true, true, true, true, true, true, true, true, true, true, true, true, true, true, true, true, true, true, true, true, true, false, false, false, false, false, false, false, false, false, false, false, false, false, false, false, false, false, false, false, false, false, false, false] rfl rfl (any_of HT_.out (by kernel_rfl)) (fun _ _ _ h => h) (Or.inl ⟨by rfl, ?_⟩) ?_ ?_
  rotate_left
  · intro w'
    go_simp
    with_reducible rfl
  rotate_left
  · simp only [Act.put, List.setIfInBounds_toArray, List.set_cons_zero, List.set_cons_succ, i64_w, i32_w]
    rfl
  refine take_ (i := 25) (N := some 86) (v := ?_) (a' := ?_) #[true, true, true, true, true, true, true, true, true, true, true, true, true, true, true, true, true, true, true, true, true, true, true, true, true, true, false, false, false, false, false, false, false, false, false, false, false, false, false, false, false, false, false, false, false, false, false, false] rfl rfl (take_ofW HT_.out HW_.out (by kernel_rfl)) (fun _ _ _ h => h) (Or.inl ⟨by rfl, ?_⟩) hHeld ?_ ?_
  rotate_left
  · rintro w' ⟨s0, s1, s2, s3, s4, s5, s6, s7, s8, s9, s10, s11, s12, s13, s14, s15, s16, s17, s18⟩
    go_simp
    with_reducible rfl
  rotate_left
  · simp only [Act.put, List.setIfInBounds_toArray, List.set_cons_zero, List.set_cons_succ, i64_w, i32_w]
    rfl
  refine pure_ (i := 26) (N := some 87) (v := ?_) (a' := ?_) #[true, true, true, true, true, true, true, true, true, true, true, true, true, true, true, true, true, true, true, true, true, true, true, true, true, true, true, false, false, false, false, false, false, false, false, false, false, false, false, false, false, false, false, false, false, false, false, false] rfl rfl (any_of HT_.out (by kernel_rfl)) (fun _ _ _ h => h) (Or.inl ⟨by rfl, ?_⟩) ?_ ?_
  rotate_left
  · intro w'
    go_simp
    with_reducible rfl
  rotate_left
  · simp only [Act.put, List.setIfInBounds_toArray, List.set_cons_zero, List.set_cons_succ, i64_w, i32_w]
    rfl
  refine pure_ (i := 27) (N := some 88) (v := ?_) (a' := ?_) #[true, true, true, true, true, true, true, true, true, true, true, true, true, true, true, true, true, true, true, true, true, true, true, true, true, true, true, true, false, false, false, false, false, false, false, false, false, false, false, false, false, false, false, false, false, false, false, false] rfl rfl (any_of HT_.out (by kernel_rfl)) (fun _ _ _ h => h) (Or.inl ⟨by rfl, ?_⟩) ?_ ?_
  rotate_left
  · intro w'
    go_simp
    with_reducible rfl
  rotate_left
  · simp only [Act.put, List.setIfInBounds_toArray, List.set_cons_zero, List.set_cons_succ, i64_w, i32_w]
    rfl
  refine pure_ (i := 28) (N := some 89) (v := ?_) (a' := ?_) #[true, true, true, true, true, true, true, true, true, true, true, true, true, true, true, true, true, true, true, true, true, true, true, true, true, true, true, true, true, false, false, false, false, false, false, false, false, false, false, false, false, false, false, false, false, false, false, false] rfl rfl (any_of HT_.out (by kernel_rfl)) (fun _ _ _ h => h) (Or.inl ⟨by rfl, ?_⟩) ?_ ?_
  rotate_left
  · intro w'
    go_simp
    with_reducible rfl
  rotate_left
  · simp only [Act.put, List.setIfInBounds_toArray, List.set_cons_zero, List.set_cons_succ, i64_w, i32_w]
    rfl
  refine pure_ (i := 29) (N := some 90) (v := ?_) (a' := ?_) #[true, true, true, true, true, true, true, true, true, true, true, true, true, true, true, true, true, true, true, true, true, true, true, true, true, true, true, true, true, true, false, false, false, false, false, false, false, false, false, false, false, false, false, false, false, false, false, false] rfl rfl (any_of HT_.out (by kernel_rfl)) (fun _ _ _ h => h) (Or.inl ⟨by rfl, ?_⟩) ?_ ?_
  rotate_left
  · intro w'
    go_simp
    with_reducible rfl
  rotate_left
  · simp only [Act.put, List.setIfInBounds_toArray, List.set_cons_zero, List.set_cons_succ, i64_w, i32_w]
    rfl
  refine pure_ (i := 30) (N := some 91) (v := ?_) (a' := ?_) #[true, true, true, true, true, true, true, true, true, true, true, true, true, true, true, true, true, true, true, true, true, true, true, true, true, true, true, true, true, true, true, false, false, false, false, false, false, false, false, false, false, false, false, false, false, false, false, false] rfl rfl (any_of HT_.out (by kernel_rfl)) (fun _ _ _ h => h) (Or.inl ⟨by rfl, ?_⟩) ?_ ?_
  rotate_left
  · intro w'
    go_simp
    with_reducible rfl
  rotate_left
  · simp only [Act.put, List.setIfInBounds_toArray, List.set_cons_zero, List.set_cons_succ, i64_w, i32_w]
    rfl
  refine take_ (i := 31) (N := some 92) (v := ?_) (a' := ?_) #[true, true, true, true, true, true, true, true, true, true, true, true, true, true, true, true, true, true, true, true, true, true, true, true, true, true, true, true, true, true, true, true, false, false, false, false, false, false, false, false, false, false, false, false, false, false, false, false] rfl rfl (take_ofW HT_.out HW_.out (by kernel_rfl)) (fun _ _ _ h => h) (Or.inl ⟨by rfl, ?_⟩) hHeld ?_ ?_
  rotate_left
  · rintro w' ⟨s0, s1, s2, s3, s4, s5, s6, s7, s8, s9, s10, s11, s12, s13, s14, s15, s16, s17, s18⟩
    go_simp
    with_reducible rfl
  rotate_left
  · simp only [Act.put, List.setIfInBounds_toArray, List.set_cons_zero, List.set_cons_succ, i64_w, i32_w]
    rfl
  refine take_ (i := 32) (N := some 93) (v := ?_) (a' := ?_) #[true, true, true, true, true, true, true, true, true, true, true, true, true, true, true, true, true, true, true, true, true, true, true, true, true, true, true, true, true, true, true, true, true, false, false, false, false, false, false, false, false, false, false, false, false, false, false, false] rfl rfl (take_ofW HT_.out HW_.out (by kernel_rfl)) (fun _ _ _ h => h) (Or.inl ⟨by rfl, ?_⟩) hHeld ?_ ?_
  rotate_left
  · rintro w' ⟨s0, s1, s2, s3, s4, s5, s6, s7, s8, s9, s10, s11, s12, s13, s14, s15, s16, s17, s18⟩
    go_simp
    with_reducible rfl
  rotate_left
  · simp only [Act.put, List.setIfInBounds_toArray, List.set_cons_zero, List.set_cons_succ, i64_w, i32_w]
    rfl
  refine pure_ (i := 33) (N := some 94) (v := ?_) (a' := ?_) #[true, true, true, true, true, true, true, true, true, true, true, true, true, true, true, true, true, true, true, true, true, true, true, true, true, true, true, true, true, true, true, true, true, true, false, false, false, false, false, false, false, false, false, false, false, false, false, false] rfl rfl (any_of HT_.out (by kernel_rfl)) (fun _ _ _ h => h) (Or.inl ⟨by rfl, ?_⟩) ?_ ?_
  rotate_left
  · intro w'
    go_simp
    with_reducible rfl
  rotate_left
  · simp only [Act.put, List.setIfInBounds_toArray, List.set_cons_zero, List.set_cons_succ, i64_w, i32_w]
    rfl
  refine pure_ (i := 34) (N := some 95) (v := ?_) (a' := ?_) #[true, true, true, true, true, true, true, true, true, true, true, true, true, true, true, true, true, true, true, true, true, true, true, true, true, true, true, true, true, true, true, true, true, true, true, false, false, false, false, false, false, false, false, false, false, false, false, false] rfl rfl (any_of HT_.out (by kernel_rfl)) (fun _ _ _ h => h) (Or.inl ⟨by rfl, ?_⟩) ?_ ?_
  rotate_left
  · intro w'
    go_simp
    with_reducible rfl
  rotate_left
  · simp only [Act.put, List.setIfInBounds_toArray, List.set_cons_zero, List.set_cons_succ, i64_w, i32_w]
    rfl
  refine pure_ (i := 35) (N := some 96) (v := ?_) (a' := ?_) #[true, true, true, true, true, true, true, true, true, true, true, true, true, true, true, true, true, true, true, true, true, true, true, true, true, true, true, true, true, true, true, true, true, true, true, true, false, false, false, false, false, false, false, false, false, false, false, false] rfl rfl (any_of HT_.out (by kernel_rfl)) (fun _ _ _ h => h) (Or.inl ⟨by rfl, ?_⟩) ?_ ?_
  rotate_left
  · intro w'
    go_simp
    with_reducible rfl
  rotate_left
  · simp only [Act.put, List.setIfInBounds_toArray, List.set_cons_zero, List.set_cons_succ, i64_w, i32_w]
    rfl
  refine pure_ (i := 36) (N := some 97) (v := ?_) (a' := ?_) #[true, true, true, true, true, true, true, true, true, true, true, true, true, true, true, true, true, true, true, true, true, true, true, true, true, true, true, true, true, true, true, true, true, true, true, true, true, false, false, false, false, false, false, false, false, false, false, false] rfl rfl (any_of HT_.out (by kernel_rfl)) (fun _ _ _ h => h) (Or.inl ⟨by rfl, ?_⟩) ?_ ?_
  rotate_left
  · intro w'
    go_simp
    with_reducible rfl
  rotate_left
  · simp only [Act.put, List.setIfInBounds_toArray, List.set_cons_zero, List.set_cons_succ, i64_w, i32_w]
    rfl
  refine take_ (i := 37) (N := some 98) (v := ?_) (a' := ?_) #[true, true, true, true, true, true, true, true, true, true, true, true, true, true, true, true, true, true, true, true, true, true, true, true, true, true, true, true, true, true, true, true, true, true, true, true, true, true, false, false, false, false, false, false, false, false, false, false] rfl rfl (take_ofW HT_.out HW_.out (by kernel_rfl)) (fun _ _ _ h => h) (Or.inl ⟨by rfl, ?_⟩) hHeld ?_ ?_
  rotate_left
  · rintro w' ⟨s0, s1, s2, s3, s4, s5, s6, s7, s8, s9, s10, s11, s12, s13, s14, s15, s16, s17, s18⟩
    go_simp
    with_reducible rfl
  rotate_left
  · simp only [Act.put, List.setIfInBounds_toArray, List.set_cons_zero, List.set_cons_succ, i64_w, i32_w]
    rfl
  refine take_ (i := 39) (N := some 100) (v := ?_) (a' := ?_) #[true, true, true, true, true, true, true, true, true, true, true, true, true, true, true, true, true, true, true, true, true, true, true, true, true, true, true, true, true, true, true, true, true, true, true, true, true, true, false, true, false, false, false, false, false, false, false, false] rfl rfl (take_ofW HT_.out HW_.out (by kernel_rfl)) (fun _ _ _ h => h) (Or.inl ⟨by rfl, ?_⟩) hHeld ?_ ?_
  rotate_left
  · rintro w' ⟨s0, s1, s2, s3, s4, s5, s6, s7, s8, s9, s10, s11, s12, s13, s14, s15, s16, s17, s18⟩
    go_simp
    with_reducible rfl
  rotate_left
  · simp only [Act.put, List.setIfInBounds_toArray, List.set_cons_zero, List.set_cons_succ, i64_w, i32_w]
    rfl
  refine take_ (i := 42) (N := some 103) (v := ?_) (a' := ?_) #[true, true, true, true, true, true, true, true, true, true, true, true, true, true, true, true, true, true, true, true, true, true, true, true, true, true, true, true, true, true, true, true, true, true, true, true, true, true, false, true, false, false, true, false, false, false, false, false] rfl rfl (take_ofW HT_.out HW_.out (by kernel_rfl)) (fun _ _ _ h => h) (Or.inl ⟨by rfl, ?_⟩) hHeld ?_ ?_
  rotate_left
  · rintro w' ⟨s0, s1, s2, s3, s4, s5, s6, s7, s8, s9, s10, s11, s12, s13, s14, s15, s16, s17, s18⟩
    go_simp
    with_reducible rfl
  rotate_left
  · simp only [Act.put, List.setIfInBounds_toArray, List.set_cons_zero, List.set_cons_succ, i64_w, i32_w]
    rfl
  refine take_ (i := 43) (N := some 104) (v := ?_) (a' := ?_) #[true, true, true, true, true, true, true, true, true, true, true, true, true, true, true, true, true, true, true, true, true, true, true, true, true, true, true, true, true, true, true, true, true, true, true, true, true, true, false, true, false, false, true, true, false, false, false, false] rfl rfl (take_ofW HT_.out HW_.out (by kernel_rfl)) (fun _ _ _ h => h) (Or.inl ⟨by rfl, ?_⟩) hHeld ?_ ?_
  rotate_left
  · rintro w' ⟨s0, s1, s2, s3, s4, s5, s6, s7, s8, s9, s10, s11, s12, s13, s14, s15, s16, s17, s18⟩
    go_simp
    with_reducible rfl
  rotate_left
  · simp only [Act.put, List.setIfInBounds_toArray, List.set_cons_zero, List.set_cons_succ, i64_w, i32_w]
    rfl
  refine pure_ (i := 44) (N := some 105) (v := ?_) (a' := ?_) #[true, true, true, true, true, true, true, true, true, true, true, true, true, true, true, true, true, true, true, true, true, true, true, true, true, true, true, true, true, true, true, true, true, true, true, true, true, true, false, true, false, false, true, true, true, false, false, false] rfl rfl (any_of HT_.out (by kernel_rfl)) (fun _ _ _ h => h) (Or.inl ⟨by rfl, ?_⟩) ?_ ?_
  rotate_left
  · intro w'
    go_simp
    with_reducible rfl
  rotate_left
  · simp only [Act.put, List.setIfInBounds_toArray, List.set_cons_zero, List.set_cons_succ, i64_w, i32_w]
    rfl
  refine one_ (i := 38) (N := some 99) #[true, true, true, true, true, true, true, true, true, true, true, true, true, true, true, true, true, true, true, true, true, true, true, true, true, true, true, true, true, true, true, true, true, true, true, true, true, true, true, true, false, false, true, true, true, false, false, false] rfl rfl (one_of HT_.out (by kernel_rfl)) (by decide) (fun K hK => ?_)
  refine goes_ Tryd.func25 (by kernel_rfl) rfl #[.agg #[.int .u64 t583, .int .u64 t584, .int .u64 t585, .int .u64 t586, .int .i64 t587]] (by rfl) rfl rfl (by (try simp only [List.map_toArray, List.map_cons, List.map_nil]); first | done | rfl | (simp only [List.length_drop, List.length_take]; rfl)) ?_
  refine (BigStamp.callsT w HT _ (by repeat (first | (with_reducible first | exact HB.out | apply below_alloc | apply pw_below_drewN | apply below_drew1 | refine below_set ?_ GE580.out | refine below_set ?_ GE581.out | refine below_set ?_ GE588.out | refine below_set ?_ GE594.out | refine below_set ?_ GE606.out | refine below_set ?_ GE607.out | refine below_set ?_ GE615.out | refine below_set ?_ GE616.out) | exact HB.out)) t583 t584 t585 t586 t587 t619 A89.out).mono ?_
  rintro e w148 ⟨rfl, hb⟩
  refine ⟨_, rfl, ?_⟩
  replace BK580 := Kb_ BK580 hb
  replace BK581 := Kb_ BK581 hb
  replace BK588 := Kb_ BK588 hb
  replace BK594 := Kb_ BK594 hb
  replace BK606 := Kb_ BK606 hb
  replace BK607 := Kb_ BK607 hb
  replace BK615 := Kb_ BK615 hb
  replace BK616 := Kb_ BK616 hb
  replace HB := Ks_ HB hb
  (try clear hb)
  (try clear hb2)
  (try clear hk)
  (try clear hi)
  refine hK.out _ _ ⟨(blk_cell BK606.out 0).trans rfl, (blk_cell BK606.out 1).trans rfl, (blk_cell BK606.out 2).trans rfl, (blk_cell BK606.out 3).trans rfl, (blk_cell BK606.out 4).trans rfl, (blk_cell BK588.out 0).trans rfl, (blk_cell BK588.out 1).trans rfl, (blk_cell BK588.out 2).trans rfl, (blk_cell BK588.out 3).trans rfl, (blk_cell BK588.out 4).trans rfl, (blk_cell BK607.out 0).trans rfl, (blk_cell BK607.out 1).trans rfl, (blk_cell BK616.out 0).trans rfl, (blk_cell BK616.out 1).trans rfl, (blk_cell BK594.out 0).trans rfl, (blk_cell BK594.out 1).trans rfl, (blk_cell BK594.out 2).trans rfl, (blk_cell BK594.out 3).trans rfl, (blk_cell BK594.out 4).trans rfl⟩ (fun hHeld => ?_)
  clear hK K
  refine norm_ (a' := ?_) ?_ ?_
  rotate_left
  · show Act.put _ (some 99) _ = _
    simp only [Act.put, List.setIfInBounds_toArray, List.set_cons_zero, List.set_cons_succ, i64_w, i32_w]
    rfl
  refine one_ (i := 40) (N := some 101) #[true, true, true, true, true, true, true, true, true, true, true, true, true, true, true, true, true, true, true, true, true, true, true, true, true, true, true, true, true, true, true, true, true, true, true, true, true, true, true, true, true, false, true, true, true, false, false, false] rfl rfl (one_of HT_.out (by kernel_rfl)) (by decide) (fun K hK => ?_)
  refine goes_ Tryd.func25 (by kernel_rfl) rfl #[.agg #[.int .u64 t589, .int .u64 t590, .int .u64 t591, .int .u64 t592, .int .i64 t593]] (by rfl) rfl rfl (by (try simp only [List.map_toArray, List.map_cons, List.map_nil]); first | done | rfl | (simp only [List.length_drop, List.length_take]; rfl)) ?_
  refine (BigStamp.callsT w HT _ (by repeat (first | (with_reducible first | exact HB.out | apply below_alloc | apply pw_below_drewN | apply below_drew1 | refine below_set ?_ GE580.out | refine below_set ?_ GE581.out | refine below_set ?_ GE588.out | refine below_set ?_ GE594.out | refine below_set ?_ GE606.out | refine below_set ?_ GE607.out | refine below_set ?_ GE615.out | refine below_set ?_ GE616.out) | exact HB.out)) t589 t590 t591 t592 t593 t620 A90.out).mono ?_
  rintro e w149 ⟨rfl, hb⟩
  refine ⟨_, rfl, ?_⟩
  replace BK580 := Kb_ BK580 hb
  replace BK581 := Kb_ BK581 hb
  replace BK588 := Kb_ BK588 hb
  replace BK594 := Kb_ BK594 hb
  replace BK606 := Kb_ BK606 hb
  replace BK607 := Kb_ BK607 hb
  replace BK615 := Kb_ BK615 hb
  replace BK616 := Kb_ BK616 hb
  replace HB := Ks_ HB hb
  (try clear hb)
  (try clear hb2)
  (try clear hk)
  (try clear hi)
  refine hK.out _ _ ⟨(blk_cell BK606.out 0).trans rfl, (blk_cell BK606.out 1).trans rfl, (blk_cell BK606.out 2).trans rfl, (blk_cell BK606.out 3).trans rfl, (blk_cell BK606.out 4).trans rfl, (blk_cell BK588.out 0).trans rfl, (blk_cell BK588.out 1).trans rfl, (blk_cell BK588.out 2).trans rfl, (blk_cell BK588.out 3).trans rfl, (blk_cell BK588.out 4).trans rfl, (blk_cell BK607.out 0).trans rfl, (blk_cell BK607.out 1).trans rfl, (blk_cell BK616.out 0).trans rfl, (blk_cell BK616.out 1).trans rfl, (blk_cell BK594.out 0).trans rfl, (blk_cell BK594.out 1).trans rfl, (blk_cell BK594.out 2).trans rfl, (blk_cell BK594.out 3).trans rfl, (blk_cell BK594.out 4).trans rfl⟩ (fun hHeld => ?_)
  clear hK K
  refine norm_ (a' := ?_) ?_ ?_
  rotate_left
  · show Act.put _ (some 101) _ = _
    simp only [Act.put, List.setIfInBounds_toArray, List.set_cons_zero, List.set_cons_succ, i64_w, i32_w]
    rfl
  refine pure_ (i := 41) (N := some 102) (v := ?_) (a' := ?_) #[true, true, true, true, true, true, true, true, true, true, true, true, true, true, true, true, true, true, true, true, true, true, true, true, true, true, true, true, true, true, true, true, true, true, true, true, true, true, true, true, true, true, true, true, true, false, false, false] rfl rfl (any_of HT_.out (by kernel_rfl)) (fun _ _ _ h => h) (Or.inl ⟨by rfl, ?_⟩) ?_ ?_
  rotate_left
  · intro w'
    go_simp
    with_reducible rfl
  rotate_left
  · simp only [Act.put, List.setIfInBounds_toArray, List.set_cons_zero, List.set_cons_succ, i64_w, i32_w]
    rfl
  refine pure_ (i := 45) (N := some 106) (v := ?_) (a' := ?_) #[true, true, true, true, true, true, true, true, true, true, true, true, true, true, true, true, true, true, true, true, true, true, true, true, true, true, true, true, true, true, true, true, true, true, true, true, true, true, true, true, true, true, true, true, true, true, false, false] rfl rfl (any_of HT_.out (by kernel_rfl)) (fun _ _ _ h => h) (Or.inl ⟨by rfl, ?_⟩) ?_ ?_
  rotate_left
  · intro w'
    go_simp
    with_reducible rfl
  rotate_left
  · simp only [Act.put, List.setIfInBounds_toArray, List.set_cons_zero, List.set_cons_succ, i64_w, i32_w]
    rfl
  refine pure_ (i := 46) (N := some 107) (v := ?_) (a' := ?_) #[true, true, true, true, true, true, true, true, true, true, true, true, true, true, true, true, true, true, true, true, true, true, true, true, true, true, true, true, true, true, true, true, true, true, true, true, true, true, true, true, true, true, true, true, true, true, true, false] rfl rfl (any_of HT_.out (by kernel_rfl)) (fun _ _ _ h => h) (Or.inl ⟨by rfl, ?_⟩) ?_ ?_
  rotate_left
  · intro w'
    go_simp
    with_reducible rfl
  rotate_left
  · simp only [Act.put, List.setIfInBounds_toArray, List.set_cons_zero, List.set_cons_succ, i64_w, i32_w]
    rfl
  refine pure_ (i := 47) (N := some 8) (v := ?_) (a' := ?_) #[true, true, true, true, true, true, true, true, true, true, true, true, true, true, true, true, true, true, true, true, true, true, true, true, true, true, true, true, true, true, true, true, true, true, true, true, true, true, true, true, true, true, true, true, true, true, true, true] rfl rfl (any_of HT_.out (by kernel_rfl)) (fun _ _ _ h => h) (Or.inl ⟨by rfl, ?_⟩) ?_ ?_
  rotate_left
  · intro w'
    go_simp
    with_reducible rfl
  rotate_left
  · simp only [Act.put, List.setIfInBounds_toArray, List.set_cons_zero, List.set_cons_succ, i64_w, i32_w]
    rfl
  refine done_ (done_of HT_.out (by kernel_rfl)) ?_
  try go_wp2
  go_ret
  exact ⟨by first | rfl | (simp [errW_none, errW_some] <;> rfl) | (simp only [← hji15]; first | rfl | (simp [errW_none, errW_some] <;> rfl)) | (simp [*, errW_none, errW_some] <;> rfl), by repeat (first | (with_reducible first | exact HB.out | apply below_alloc | apply pw_below_drewN | apply below_drew1 | refine below_set ?_ GE580.out | refine below_set ?_ GE581.out | refine below_set ?_ GE588.out | refine below_set ?_ GE594.out | refine below_set ?_ GE606.out | refine below_set ?_ GE607.out | refine below_set ?_ GE615.out | refine below_set ?_ GE616.out) | exact HB.out)⟩

end Go.Proofs.YtdlagefpglhdoaaDoor.Q
