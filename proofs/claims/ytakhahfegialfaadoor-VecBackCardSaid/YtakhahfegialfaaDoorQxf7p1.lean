-- Written by this session's own driver (wip/hybrid.py) of the kit's printer; contracts marked FOREIGN are by hand.
import Derived.Test.YtakhahfegialfaaDoorQx0
import Derived.Test.YtakhahfegialfaaDoorQxe24
import Derived.Test.YtakhahfegialfaaDoorQxf20
import Derived.Test.YtakhahfegialfaaDoorQxf28
import Derived.Test.YtakhahfegialfaaDoorQxf41
import Derived.Test.YtakhahfegialfaaDoorQxf33
import Derived.Test.YtakhahfegialfaaDoorQxf10
import Derived.Test.YtakhahfegialfaaDoorQxf11
namespace Go.Proofs.YtakhahfegialfaaDoor.Q
open Go.RowKit Go.Proofs.YtakhahfegialfaaDoorW.PrintWords Go.Proofs.YtakhahfegialfaaDoorW.PrintLast Go.Proofs.YtakhahfegialfaaDoorW.PrintMore
attribute [local go_sem] max2_int min2_int max_two min_two max_three min_three max_four min_four   -- for this text's walks alone
set_option linter.unusedVariables false
set_option linter.unusedSimpArgs false

attribute [local go_sem] ixA24_0 ixA24_1 ixA24_2 ixA24_3   -- for this text's walks alone
attribute [local go_sem high] eqA24
/-! ### tenementlaw06_VecBack_p1: function 7 -/
def tenementlaw06_VecBack_p1.f (k : Nat) (a0_0 : Int) (a0_1 : Int) (a0_2 : Int) (a0_3 : Int) (a0_4 : Bool) (a1_0 : Int) (a1_1 : Int) (a1_2 : Int) (a1_3 : Int) (a1_4 : Bool) (a2 : ByteArray) (a3 : Int) : Option (Bool) := (tenementlaw06_examples.f k).bind fun t5241 => (if t5241 = true then ((tenementlaw06_Vector_vector.f k a0_0 a0_1 a0_2 a0_3 a0_4).bind fun bt5242 => ((tenementlaw06_Vector_vector.f k a1_0 a1_1 a1_2 a1_3 a1_4).bind fun bt5247 => ((vec_Put.f k bt5242.1 bt5242.2.1 bt5242.2.2.1 bt5242.2.2.2).bind fun t5252 => (if t5252.toList = ([] : List UInt8) then (none) else (if t5252.size + a2.size ≤ 9223372036854775807 then ((vec_Get.f k (t5252 ++ a2) false).bind fun bt5253 => (if (t5252.size : Int) = 0 then (none) else (if 0 ≤ (Int.tmod (wrap64 (a3)) (t5252.size : Int)) then (if (Int.tmod (wrap64 (a3)) (t5252.size : Int)) ≤ (t5252.size : Int) then ((vec_Get.f k (t5252.extract 0 ((Int.tmod (wrap64 (a3)) (t5252.size : Int)) : Int).toNat) false).bind fun bt5261 => ((vec_Right.f bt5242.1 bt5242.2.1 bt5242.2.2.1 bt5242.2.2.2).bind fun t5269 => ((vec_Put.f k bt5247.1 bt5247.2.1 bt5247.2.2.1 bt5247.2.2.2).bind fun t5270 => (if t5252.toList = t5270.toList then (if (bt5242.1 == bt5247.1 && (bt5242.2.1 == bt5247.2.1 && (bt5242.2.2.1 == bt5247.2.2.1 && (bt5242.2.2.2 == bt5247.2.2.2)))) = true then (if bt5253.2.2.2.2.2 = true then (none) else (if t5269 = true then (if (bt5253.1 == bt5242.1 && (bt5253.2.1 == bt5242.2.1 && (bt5253.2.2.1 == bt5242.2.2.1 && (bt5253.2.2.2.1 == bt5242.2.2.2)))) = true then (if bt5253.2.2.2.2.1.toList = a2.toList then (if bt5261.2.2.2.2.2 = true then ((BigText.g bt5242.1 bt5242.2.1 bt5242.2.2.1 bt5242.2.2.2).bind fun t5273 => ((BigText.g bt5247.1 bt5247.2.1 bt5247.2.2.1 bt5247.2.2.2).bind fun t5274 => (if t5273.toList = t5274.toList then (some true) else (none)))) else (none)) else (none)) else (none)) else (none))) else (none)) else (none))))) else (none)) else (none)))) else (none)))))) else (none))
theorem tenementlaw06_VecBack_p1.mono : ∀ a0 a1 a2 a3 a4 a5 a6 a7 a8 a9 a10 a11 k, LeO (tenementlaw06_VecBack_p1.f k a0 a1 a2 a3 a4 a5 a6 a7 a8 a9 a10 a11) (tenementlaw06_VecBack_p1.f (k + 1) a0 a1 a2 a3 a4 a5 a6 a7 a8 a9 a10 a11) := by
  intro a0 a1 a2 a3 a4 a5 a6 a7 a8 a9 a10 a11 k
  unfold tenementlaw06_VecBack_p1.f
  repeat' first
      | (with_reducible exact tenementlaw06_Vector_vector.mono _ _ _ _ _ _)
      | (with_reducible exact tenementlaw06_examples.mono _)
      | (with_reducible exact vec_Get.mono _ _ _)
      | (with_reducible exact vec_Put.mono _ _ _ _ _)
      | (with_reducible exact LeO.refl _)
      | (with_reducible exact LeO.none _)
      | (with_reducible refine LeO.ite ?_ ?_)
      | (with_reducible refine LeO.bind ?_ (fun _ => ?_))
      | exact tenementlaw06_Vector_vector.mono _ _ _ _ _ _
      | exact tenementlaw06_examples.mono _
      | exact vec_Get.mono _ _ _
      | exact vec_Put.mono _ _ _ _ _
      | exact LeO.none _
      | refine LeO.ite ?_ ?_
      | refine LeO.bind ?_ (fun _ => ?_)
def tenementlaw06_VecBack_p1.T12 : Bool × List (List Nat × List Nat) := (true, [([], []), ([0], [0]), ([1], [1]), ([1], [1]), ([3, 1, 1], [1, 3]), ([2, 4, 1], [1, 2, 4]), ([1], [1]), ([1], [1]), ([6, 7, 1], [1, 6, 7]), ([5, 8, 1], [1, 5, 8]), ([1, 9], [1, 9]), ([10, 4], [10]), ([11], [11]), ([12, 11], [11, 12]), ([11], [11]), ([14, 11], [11, 14]), ([13, 15, 11], [11, 13, 15]), ([11, 16], [11, 16]), ([17, 11], [17]), ([18], [18]), ([19, 18], [18, 19]), ([20, 18, 18], [18, 20]), ([21], [21]), ([21], [21]), ([22, 23, 21], [21, 22, 23]), ([24, 21, 21], [21, 24]), ([25], [25]), ([26, 25], [25, 26]), ([25], [25]), ([27, 28, 25], [25, 27, 28]), ([25, 29, 21], [21, 25, 29]), ([21, 30, 18], [18, 21, 30]), ([18, 31], [18, 31]), ([32, 25], [32]), ([33], [33]), ([34, 33], [33, 34]), ([33, 35], [33, 35]), ([36, 33], [36]), ([37], [37]), ([38, 37, 37], [37, 38]), ([37], [37]), ([40, 39, 37], [37, 40]), ([39, 41, 37], [37, 39, 41]), ([37], [37]), ([37], [37]), ([43, 44, 37], [37, 43, 44]), ([42, 45, 37], [37, 42, 45]), ([37, 46], [37, 46]), ([47, 41, 0, 1, 2, 3, 4, 5, 6, 7, 8, 9, 10, 11, 12, 13, 14, 15, 16, 17, 18, 19, 20, 21, 22, 23, 24, 25, 26, 27, 28, 29, 30, 31, 32, 33, 34, 35, 36, 37, 38, 39, 40, 41, 42, 43, 44, 45, 46, 47], [47])])
def tenementlaw06_VecBack_p1.B12 : List Nat := [0, 1, 3, 3, 11, 31, 3, 3, 195, 511, 1023, 2047, 4095, 8191, 4095, 20479, 65535, 131071, 262143, 524287, 1048575, 2097151, 4194303, 4194303, 16777215, 33554431, 67108863, 134217727, 67108863, 536870911, 1073741823, 2147483647, 4294967295, 8589934591, 17179869183, 34359738367, 68719476735, 137438953471, 274877906943, 549755813887, 274877906943, 2199023255551, 4398046511103, 274877906943, 274877906943, 26663156973567, 70368744177663, 140737488355327, 281474976710655]
theorem tenementlaw06_VecBack_p1.tab12 : rtab .any (opsOf Tryd.f7 12) = tenementlaw06_VecBack_p1.T12 := by kernel_rfl
theorem tenementlaw06_VecBack_p1.bits12 : waitsOk tenementlaw06_VecBack_p1.T12.2 tenementlaw06_VecBack_p1.B12 = true := by kernel_rfl
set_option maxHeartbeats 8000000 in
set_option maxRecDepth 100000 in
theorem tenementlaw06_VecBack_p1.calls (k : Nat) (a0_0 : Int) (a0_1 : Int) (a0_2 : Int) (a0_3 : Int) (a0_4 : Bool) (a1_0 : Int) (a1_1 : Int) (a1_2 : Int) (a1_3 : Int) (a1_4 : Bool) (a2 : ByteArray) (a3 : Int) (r : Bool) (w : World) (HT : BigText.Tab w) (h : tenementlaw06_VecBack_p1.f k a0_0 a0_1 a0_2 a0_3 a0_4 a1_0 a1_1 a1_2 a1_3 a1_4 a2 a3 = some r) :
    Calls Tryd.prog 7 #[.agg #[.int .u64 a0_0, .int .u64 a0_1, .int .u64 a0_2, .int .u64 a0_3, .bool a0_4], .agg #[.int .u64 a1_0, .int .u64 a1_1, .int .u64 a1_2, .int .u64 a1_3, .bool a1_4], .string a2, .int .u8 a3] w fun e w' => e = .returned (.bool r) ∧ Below w.heap.size w w' := by
  have hu26 := Tryd.underlying26
  have hu24 := Tryd.underlying24
  have hu51 := Tryd.underlying51
  have HB := Aside0.mk (Below.refl w.heap.size w)
  have H : ((tenementlaw06_examples.f k).bind fun t5241 => (if t5241 = true then ((tenementlaw06_Vector_vector.f k a0_0 a0_1 a0_2 a0_3 a0_4).bind fun bt5242 => ((tenementlaw06_Vector_vector.f k a1_0 a1_1 a1_2 a1_3 a1_4).bind fun bt5247 => ((vec_Put.f k bt5242.1 bt5242.2.1 bt5242.2.2.1 bt5242.2.2.2).bind fun t5252 => (if t5252.toList = ([] : List UInt8) then (none) else (if t5252.size + a2.size ≤ 9223372036854775807 then ((vec_Get.f k (t5252 ++ a2) false).bind fun bt5253 => (if (t5252.size : Int) = 0 then (none) else (if 0 ≤ (Int.tmod (wrap64 (a3)) (t5252.size : Int)) then (if (Int.tmod (wrap64 (a3)) (t5252.size : Int)) ≤ (t5252.size : Int) then ((vec_Get.f k (t5252.extract 0 ((Int.tmod (wrap64 (a3)) (t5252.size : Int)) : Int).toNat) false).bind fun bt5261 => ((vec_Right.f bt5242.1 bt5242.2.1 bt5242.2.2.1 bt5242.2.2.2).bind fun t5269 => ((vec_Put.f k bt5247.1 bt5247.2.1 bt5247.2.2.1 bt5247.2.2.2).bind fun t5270 => (if t5252.toList = t5270.toList then (if (bt5242.1 == bt5247.1 && (bt5242.2.1 == bt5247.2.1 && (bt5242.2.2.1 == bt5247.2.2.1 && (bt5242.2.2.2 == bt5247.2.2.2)))) = true then (if bt5253.2.2.2.2.2 = true then (none) else (if t5269 = true then (if (bt5253.1 == bt5242.1 && (bt5253.2.1 == bt5242.2.1 && (bt5253.2.2.1 == bt5242.2.2.1 && (bt5253.2.2.2.1 == bt5242.2.2.2)))) = true then (if bt5253.2.2.2.2.1.toList = a2.toList then (if bt5261.2.2.2.2.2 = true then ((BigText.g bt5242.1 bt5242.2.1 bt5242.2.2.1 bt5242.2.2.2).bind fun t5273 => ((BigText.g bt5247.1 bt5247.2.1 bt5247.2.2.1 bt5247.2.2.2).bind fun t5274 => (if t5273.toList = t5274.toList then (some true) else (none)))) else (none)) else (none)) else (none)) else (none))) else (none)) else (none))))) else (none)) else (none)))) else (none)))))) else (none))) = some r := h
  clear h
  replace H := Option.bind_eq_some_iff.mp H
  obtain ⟨t5241, A50, H⟩ := H
  replace H : (if t5241 = true then ((tenementlaw06_Vector_vector.f k a0_0 a0_1 a0_2 a0_3 a0_4).bind fun bt5242 => ((tenementlaw06_Vector_vector.f k a1_0 a1_1 a1_2 a1_3 a1_4).bind fun bt5247 => ((vec_Put.f k bt5242.1 bt5242.2.1 bt5242.2.2.1 bt5242.2.2.2).bind fun t5252 => (if t5252.toList = ([] : List UInt8) then (none) else (if t5252.size + a2.size ≤ 9223372036854775807 then ((vec_Get.f k (t5252 ++ a2) false).bind fun bt5253 => (if (t5252.size : Int) = 0 then (none) else (if 0 ≤ (Int.tmod (wrap64 (a3)) (t5252.size : Int)) then (if (Int.tmod (wrap64 (a3)) (t5252.size : Int)) ≤ (t5252.size : Int) then ((vec_Get.f k (t5252.extract 0 ((Int.tmod (wrap64 (a3)) (t5252.size : Int)) : Int).toNat) false).bind fun bt5261 => ((vec_Right.f bt5242.1 bt5242.2.1 bt5242.2.2.1 bt5242.2.2.2).bind fun t5269 => ((vec_Put.f k bt5247.1 bt5247.2.1 bt5247.2.2.1 bt5247.2.2.2).bind fun t5270 => (if t5252.toList = t5270.toList then (if (bt5242.1 == bt5247.1 && (bt5242.2.1 == bt5247.2.1 && (bt5242.2.2.1 == bt5247.2.2.1 && (bt5242.2.2.2 == bt5247.2.2.2)))) = true then (if bt5253.2.2.2.2.2 = true then (none) else (if t5269 = true then (if (bt5253.1 == bt5242.1 && (bt5253.2.1 == bt5242.2.1 && (bt5253.2.2.1 == bt5242.2.2.1 && (bt5253.2.2.2.1 == bt5242.2.2.2)))) = true then (if bt5253.2.2.2.2.1.toList = a2.toList then (if bt5261.2.2.2.2.2 = true then ((BigText.g bt5242.1 bt5242.2.1 bt5242.2.2.1 bt5242.2.2.2).bind fun t5273 => ((BigText.g bt5247.1 bt5247.2.1 bt5247.2.2.1 bt5247.2.2.2).bind fun t5274 => (if t5273.toList = t5274.toList then (some true) else (none)))) else (none)) else (none)) else (none)) else (none))) else (none)) else (none))))) else (none)) else (none)))) else (none)))))) else (none)) = some r := H
  have A5 := Aside0.mk A50
  clear A50
  by_cases c6 : t5241 = true
  rotate_left
  · replace c6 := Bool.eq_false_iff.mpr c6
    subst c6
    have H1 : (none) = some r := by rw [if_neg (show ¬ (false = true) by decide)] at H; exact H
    clear H
    have H := H1
    clear H1
    exact absurd H (by simp)
  subst c6
  have H1 : ((tenementlaw06_Vector_vector.f k a0_0 a0_1 a0_2 a0_3 a0_4).bind fun bt5242 => ((tenementlaw06_Vector_vector.f k a1_0 a1_1 a1_2 a1_3 a1_4).bind fun bt5247 => ((vec_Put.f k bt5242.1 bt5242.2.1 bt5242.2.2.1 bt5242.2.2.2).bind fun t5252 => (if t5252.toList = ([] : List UInt8) then (none) else (if t5252.size + a2.size ≤ 9223372036854775807 then ((vec_Get.f k (t5252 ++ a2) false).bind fun bt5253 => (if (t5252.size : Int) = 0 then (none) else (if 0 ≤ (Int.tmod (wrap64 (a3)) (t5252.size : Int)) then (if (Int.tmod (wrap64 (a3)) (t5252.size : Int)) ≤ (t5252.size : Int) then ((vec_Get.f k (t5252.extract 0 ((Int.tmod (wrap64 (a3)) (t5252.size : Int)) : Int).toNat) false).bind fun bt5261 => ((vec_Right.f bt5242.1 bt5242.2.1 bt5242.2.2.1 bt5242.2.2.2).bind fun t5269 => ((vec_Put.f k bt5247.1 bt5247.2.1 bt5247.2.2.1 bt5247.2.2.2).bind fun t5270 => (if t5252.toList = t5270.toList then (if (bt5242.1 == bt5247.1 && (bt5242.2.1 == bt5247.2.1 && (bt5242.2.2.1 == bt5247.2.2.1 && (bt5242.2.2.2 == bt5247.2.2.2)))) = true then (if bt5253.2.2.2.2.2 = true then (none) else (if t5269 = true then (if (bt5253.1 == bt5242.1 && (bt5253.2.1 == bt5242.2.1 && (bt5253.2.2.1 == bt5242.2.2.1 && (bt5253.2.2.2.1 == bt5242.2.2.2)))) = true then (if bt5253.2.2.2.2.1.toList = a2.toList then (if bt5261.2.2.2.2.2 = true then ((BigText.g bt5242.1 bt5242.2.1 bt5242.2.2.1 bt5242.2.2.2).bind fun t5273 => ((BigText.g bt5247.1 bt5247.2.1 bt5247.2.2.1 bt5247.2.2.2).bind fun t5274 => (if t5273.toList = t5274.toList then (some true) else (none)))) else (none)) else (none)) else (none)) else (none))) else (none)) else (none))))) else (none)) else (none)))) else (none)))))) = some r := by rw [if_pos rfl] at H; exact H
  clear H
  have H := H1
  clear H1
  replace H := Option.bind_eq_some_iff.mp H
  obtain ⟨⟨t5242, t5243, t5244, t5245⟩, A70, H⟩ := H
  replace H : ((tenementlaw06_Vector_vector.f k a1_0 a1_1 a1_2 a1_3 a1_4).bind fun bt5247 => ((vec_Put.f k t5242 t5243 t5244 t5245).bind fun t5252 => (if t5252.toList = ([] : List UInt8) then (none) else (if t5252.size + a2.size ≤ 9223372036854775807 then ((vec_Get.f k (t5252 ++ a2) false).bind fun bt5253 => (if (t5252.size : Int) = 0 then (none) else (if 0 ≤ (Int.tmod (wrap64 (a3)) (t5252.size : Int)) then (if (Int.tmod (wrap64 (a3)) (t5252.size : Int)) ≤ (t5252.size : Int) then ((vec_Get.f k (t5252.extract 0 ((Int.tmod (wrap64 (a3)) (t5252.size : Int)) : Int).toNat) false).bind fun bt5261 => ((vec_Right.f t5242 t5243 t5244 t5245).bind fun t5269 => ((vec_Put.f k bt5247.1 bt5247.2.1 bt5247.2.2.1 bt5247.2.2.2).bind fun t5270 => (if t5252.toList = t5270.toList then (if (t5242 == bt5247.1 && (t5243 == bt5247.2.1 && (t5244 == bt5247.2.2.1 && (t5245 == bt5247.2.2.2)))) = true then (if bt5253.2.2.2.2.2 = true then (none) else (if t5269 = true then (if (bt5253.1 == t5242 && (bt5253.2.1 == t5243 && (bt5253.2.2.1 == t5244 && (bt5253.2.2.2.1 == t5245)))) = true then (if bt5253.2.2.2.2.1.toList = a2.toList then (if bt5261.2.2.2.2.2 = true then ((BigText.g t5242 t5243 t5244 t5245).bind fun t5273 => ((BigText.g bt5247.1 bt5247.2.1 bt5247.2.2.1 bt5247.2.2.2).bind fun t5274 => (if t5273.toList = t5274.toList then (some true) else (none)))) else (none)) else (none)) else (none)) else (none))) else (none)) else (none))))) else (none)) else (none)))) else (none))))) = some r := H
  have A7 := Aside0.mk A70
  clear A70
  replace H := Option.bind_eq_some_iff.mp H
  obtain ⟨⟨t5247, t5248, t5249, t5250⟩, A80, H⟩ := H
  replace H : ((vec_Put.f k t5242 t5243 t5244 t5245).bind fun t5252 => (if t5252.toList = ([] : List UInt8) then (none) else (if t5252.size + a2.size ≤ 9223372036854775807 then ((vec_Get.f k (t5252 ++ a2) false).bind fun bt5253 => (if (t5252.size : Int) = 0 then (none) else (if 0 ≤ (Int.tmod (wrap64 (a3)) (t5252.size : Int)) then (if (Int.tmod (wrap64 (a3)) (t5252.size : Int)) ≤ (t5252.size : Int) then ((vec_Get.f k (t5252.extract 0 ((Int.tmod (wrap64 (a3)) (t5252.size : Int)) : Int).toNat) false).bind fun bt5261 => ((vec_Right.f t5242 t5243 t5244 t5245).bind fun t5269 => ((vec_Put.f k t5247 t5248 t5249 t5250).bind fun t5270 => (if t5252.toList = t5270.toList then (if (t5242 == t5247 && (t5243 == t5248 && (t5244 == t5249 && (t5245 == t5250)))) = true then (if bt5253.2.2.2.2.2 = true then (none) else (if t5269 = true then (if (bt5253.1 == t5242 && (bt5253.2.1 == t5243 && (bt5253.2.2.1 == t5244 && (bt5253.2.2.2.1 == t5245)))) = true then (if bt5253.2.2.2.2.1.toList = a2.toList then (if bt5261.2.2.2.2.2 = true then ((BigText.g t5242 t5243 t5244 t5245).bind fun t5273 => ((BigText.g t5247 t5248 t5249 t5250).bind fun t5274 => (if t5273.toList = t5274.toList then (some true) else (none)))) else (none)) else (none)) else (none)) else (none))) else (none)) else (none))))) else (none)) else (none)))) else (none)))) = some r := H
  have A8 := Aside0.mk A80
  clear A80
  replace H := Option.bind_eq_some_iff.mp H
  obtain ⟨t5252, A90, H⟩ := H
  replace H : (if t5252.toList = ([] : List UInt8) then (none) else (if t5252.size + a2.size ≤ 9223372036854775807 then ((vec_Get.f k (t5252 ++ a2) false).bind fun bt5253 => (if (t5252.size : Int) = 0 then (none) else (if 0 ≤ (Int.tmod (wrap64 (a3)) (t5252.size : Int)) then (if (Int.tmod (wrap64 (a3)) (t5252.size : Int)) ≤ (t5252.size : Int) then ((vec_Get.f k (t5252.extract 0 ((Int.tmod (wrap64 (a3)) (t5252.size : Int)) : Int).toNat) false).bind fun bt5261 => ((vec_Right.f t5242 t5243 t5244 t5245).bind fun t5269 => ((vec_Put.f k t5247 t5248 t5249 t5250).bind fun t5270 => (if t5252.toList = t5270.toList then (if (t5242 == t5247 && (t5243 == t5248 && (t5244 == t5249 && (t5245 == t5250)))) = true then (if bt5253.2.2.2.2.2 = true then (none) else (if t5269 = true then (if (bt5253.1 == t5242 && (bt5253.2.1 == t5243 && (bt5253.2.2.1 == t5244 && (bt5253.2.2.2.1 == t5245)))) = true then (if bt5253.2.2.2.2.1.toList = a2.toList then (if bt5261.2.2.2.2.2 = true then ((BigText.g t5242 t5243 t5244 t5245).bind fun t5273 => ((BigText.g t5247 t5248 t5249 t5250).bind fun t5274 => (if t5273.toList = t5274.toList then (some true) else (none)))) else (none)) else (none)) else (none)) else (none))) else (none)) else (none))))) else (none)) else (none)))) else (none))) = some r := H
  have A9 := Aside0.mk A90
  clear A90
  by_cases c10 : t5252.toList = ([] : List UInt8)
  · rw [if_pos c10] at H
    exact absurd H (by simp)
  rw [if_neg c10] at H
  have c10b0 : (t5252.toList == ([] : List UInt8)) = false := beq_eq_false_iff_ne.mpr c10
  have c10b1 : (t5252.toList != ([] : List UInt8)) = true := bne_iff_ne.mpr c10
  by_cases c11 : t5252.size + a2.size ≤ 9223372036854775807
  rotate_left
  · rw [if_neg c11] at H
    exact absurd H (by simp)
  rw [if_pos c11] at H
  have c11b0 := eq_true c11
  have c11b1 : decide (t5252.size + a2.size ≤ 9223372036854775807) = true := decide_eq_true c11
  try have c11b2 : (9223372036854775807 < t5252.size + a2.size) = False := eq_false (Nat.not_lt.2 c11)
  replace H := Option.bind_eq_some_iff.mp H
  obtain ⟨⟨t5253, t5254, t5255, t5256, t5257, t5258⟩, A120, H⟩ := H
  replace H : (if (t5252.size : Int) = 0 then (none) else (if 0 ≤ (Int.tmod (wrap64 (a3)) (t5252.size : Int)) then (if (Int.tmod (wrap64 (a3)) (t5252.size : Int)) ≤ (t5252.size : Int) then ((vec_Get.f k (t5252.extract 0 ((Int.tmod (wrap64 (a3)) (t5252.size : Int)) : Int).toNat) false).bind fun bt5261 => ((vec_Right.f t5242 t5243 t5244 t5245).bind fun t5269 => ((vec_Put.f k t5247 t5248 t5249 t5250).bind fun t5270 => (if t5252.toList = t5270.toList then (if (t5242 == t5247 && (t5243 == t5248 && (t5244 == t5249 && (t5245 == t5250)))) = true then (if t5258 = true then (none) else (if t5269 = true then (if (t5253 == t5242 && (t5254 == t5243 && (t5255 == t5244 && (t5256 == t5245)))) = true then (if t5257.toList = a2.toList then (if bt5261.2.2.2.2.2 = true then ((BigText.g t5242 t5243 t5244 t5245).bind fun t5273 => ((BigText.g t5247 t5248 t5249 t5250).bind fun t5274 => (if t5273.toList = t5274.toList then (some true) else (none)))) else (none)) else (none)) else (none)) else (none))) else (none)) else (none))))) else (none)) else (none))) = some r := H
  have A12 := Aside0.mk A120
  clear A120
  by_cases c13 : (t5252.size : Int) = 0
  · rw [if_pos c13] at H
    exact absurd H (by simp)
  rw [if_neg c13] at H
  have c13b0 : ((t5252.size : Int) == 0) = false := beq_eq_false_iff_ne.mpr c13
  have c13b1 : ((t5252.size : Int) != 0) = true := bne_iff_ne.mpr c13
  obtain ⟨ji14, hji14⟩ : ∃ j_ : Int, (Int.tmod (wrap64 (a3)) (t5252.size : Int)) = j_ := ⟨_, rfl⟩
  replace H : (if 0 ≤ (ji14) then (if (ji14) ≤ (t5252.size : Int) then ((vec_Get.f k (t5252.extract 0 ((ji14) : Int).toNat) false).bind fun bt5261 => ((vec_Right.f t5242 t5243 t5244 t5245).bind fun t5269 => ((vec_Put.f k t5247 t5248 t5249 t5250).bind fun t5270 => (if t5252.toList = t5270.toList then (if (t5242 == t5247 && (t5243 == t5248 && (t5244 == t5249 && (t5245 == t5250)))) = true then (if t5258 = true then (none) else (if t5269 = true then (if (t5253 == t5242 && (t5254 == t5243 && (t5255 == t5244 && (t5256 == t5245)))) = true then (if t5257.toList = a2.toList then (if bt5261.2.2.2.2.2 = true then ((BigText.g t5242 t5243 t5244 t5245).bind fun t5273 => ((BigText.g t5247 t5248 t5249 t5250).bind fun t5274 => (if t5273.toList = t5274.toList then (some true) else (none)))) else (none)) else (none)) else (none)) else (none))) else (none)) else (none))))) else (none)) else (none)) = some r := by first | (rw [hji14] at H; exact H) | (simp only [hji14] at H ⊢; exact H)
  (try rw [hji14] at A5)
  (try rw [hji14] at A7)
  (try rw [hji14] at A8)
  (try rw [hji14] at A9)
  (try rw [hji14] at A12)
  by_cases c15 : 0 ≤ (ji14)
  rotate_left
  · rw [if_neg c15] at H
    exact absurd H (by simp)
  rw [if_pos c15] at H
  have c15b0 := eq_true c15
  have c15b1 : decide (0 ≤ (ji14)) = true := decide_eq_true c15
  clear c15
  by_cases c16 : (ji14) ≤ (t5252.size : Int)
  rotate_left
  · rw [if_neg c16] at H
    exact absurd H (by simp)
  rw [if_pos c16] at H
  have c16b0 := eq_true c16
  have c16b1 : decide ((ji14) ≤ (t5252.size : Int)) = true := decide_eq_true c16
  clear c16
  replace H := Option.bind_eq_some_iff.mp H
  obtain ⟨⟨t5261, t5262, t5263, t5264, t5265, t5266⟩, A170, H⟩ := H
  replace H : ((vec_Right.f t5242 t5243 t5244 t5245).bind fun t5269 => ((vec_Put.f k t5247 t5248 t5249 t5250).bind fun t5270 => (if t5252.toList = t5270.toList then (if (t5242 == t5247 && (t5243 == t5248 && (t5244 == t5249 && (t5245 == t5250)))) = true then (if t5258 = true then (none) else (if t5269 = true then (if (t5253 == t5242 && (t5254 == t5243 && (t5255 == t5244 && (t5256 == t5245)))) = true then (if t5257.toList = a2.toList then (if t5266 = true then ((BigText.g t5242 t5243 t5244 t5245).bind fun t5273 => ((BigText.g t5247 t5248 t5249 t5250).bind fun t5274 => (if t5273.toList = t5274.toList then (some true) else (none)))) else (none)) else (none)) else (none)) else (none))) else (none)) else (none)))) = some r := H
  have A17 := Aside0.mk A170
  clear A170
  replace H := Option.bind_eq_some_iff.mp H
  obtain ⟨t5269, A180, H⟩ := H
  replace H : ((vec_Put.f k t5247 t5248 t5249 t5250).bind fun t5270 => (if t5252.toList = t5270.toList then (if (t5242 == t5247 && (t5243 == t5248 && (t5244 == t5249 && (t5245 == t5250)))) = true then (if t5258 = true then (none) else (if t5269 = true then (if (t5253 == t5242 && (t5254 == t5243 && (t5255 == t5244 && (t5256 == t5245)))) = true then (if t5257.toList = a2.toList then (if t5266 = true then ((BigText.g t5242 t5243 t5244 t5245).bind fun t5273 => ((BigText.g t5247 t5248 t5249 t5250).bind fun t5274 => (if t5273.toList = t5274.toList then (some true) else (none)))) else (none)) else (none)) else (none)) else (none))) else (none)) else (none))) = some r := H
  have A18 := Aside0.mk A180
  clear A180
  replace H := Option.bind_eq_some_iff.mp H
  obtain ⟨t5270, A190, H⟩ := H
  replace H : (if t5252.toList = t5270.toList then (if (t5242 == t5247 && (t5243 == t5248 && (t5244 == t5249 && (t5245 == t5250)))) = true then (if t5258 = true then (none) else (if t5269 = true then (if (t5253 == t5242 && (t5254 == t5243 && (t5255 == t5244 && (t5256 == t5245)))) = true then (if t5257.toList = a2.toList then (if t5266 = true then ((BigText.g t5242 t5243 t5244 t5245).bind fun t5273 => ((BigText.g t5247 t5248 t5249 t5250).bind fun t5274 => (if t5273.toList = t5274.toList then (some true) else (none)))) else (none)) else (none)) else (none)) else (none))) else (none)) else (none)) = some r := H
  have A19 := Aside0.mk A190
  clear A190
  by_cases c20 : t5252.toList = t5270.toList
  rotate_left
  · rw [if_neg c20] at H
    exact absurd H (by simp)
  rw [if_pos c20] at H
  have c20b0 : (t5252.toList == t5270.toList) = true := beq_iff_eq.mpr c20
  have c20b1 : (t5252.toList != t5270.toList) = false := bne_eq_false_iff_eq.mpr c20
  clear c20
  by_cases c21 : (t5242 == t5247 && (t5243 == t5248 && (t5244 == t5249 && (t5245 == t5250)))) = true
  rotate_left
  · rw [if_neg c21] at H
    exact absurd H (by simp)
  rw [if_pos c21] at H
  have c21b0 : (t5242 == t5247 && (t5243 == t5248 && (t5244 == t5249 && (t5245 == t5250)))) = true := c21
  (try (have c21b1 : decide (t5242 = t5247 && (t5243 == t5248 && (t5244 == t5249 && (t5245 == t5250)))) = true := by simpa using c21))
  (try (have c21b2 : (t5242 == t5247 && (t5243 == t5248 && (t5244 == t5249 && (t5245 == t5250)))) = true := by simpa using c21))
  clear c21
  by_cases c22 : t5258 = true
  · subst c22
    have H1 : (none) = some r := by rw [if_pos rfl] at H; exact H
    clear H
    have H := H1
    clear H1
    exact absurd H (by simp)
  replace c22 := Bool.eq_false_iff.mpr c22
  subst c22
  have H1 : (if t5269 = true then (if (t5253 == t5242 && (t5254 == t5243 && (t5255 == t5244 && (t5256 == t5245)))) = true then (if t5257.toList = a2.toList then (if t5266 = true then ((BigText.g t5242 t5243 t5244 t5245).bind fun t5273 => ((BigText.g t5247 t5248 t5249 t5250).bind fun t5274 => (if t5273.toList = t5274.toList then (some true) else (none)))) else (none)) else (none)) else (none)) else (none)) = some r := by rw [if_neg (show ¬ (false = true) by decide)] at H; exact H
  clear H
  have H := H1
  clear H1
  by_cases c23 : t5269 = true
  rotate_left
  · replace c23 := Bool.eq_false_iff.mpr c23
    subst c23
    have H1 : (none) = some r := by rw [if_neg (show ¬ (false = true) by decide)] at H; exact H
    clear H
    have H := H1
    clear H1
    exact absurd H (by simp)
  subst c23
  have H1 : (if (t5253 == t5242 && (t5254 == t5243 && (t5255 == t5244 && (t5256 == t5245)))) = true then (if t5257.toList = a2.toList then (if t5266 = true then ((BigText.g t5242 t5243 t5244 t5245).bind fun t5273 => ((BigText.g t5247 t5248 t5249 t5250).bind fun t5274 => (if t5273.toList = t5274.toList then (some true) else (none)))) else (none)) else (none)) else (none)) = some r := by rw [if_pos rfl] at H; exact H
  clear H
  have H := H1
  clear H1
  by_cases c24 : (t5253 == t5242 && (t5254 == t5243 && (t5255 == t5244 && (t5256 == t5245)))) = true
  rotate_left
  · rw [if_neg c24] at H
    exact absurd H (by simp)
  rw [if_pos c24] at H
  have c24b0 : (t5253 == t5242 && (t5254 == t5243 && (t5255 == t5244 && (t5256 == t5245)))) = true := c24
  (try (have c24b1 : decide (t5253 = t5242 && (t5254 == t5243 && (t5255 == t5244 && (t5256 == t5245)))) = true := by simpa using c24))
  (try (have c24b2 : (t5253 == t5242 && (t5254 == t5243 && (t5255 == t5244 && (t5256 == t5245)))) = true := by simpa using c24))
  clear c24
  by_cases c25 : t5257.toList = a2.toList
  rotate_left
  · rw [if_neg c25] at H
    exact absurd H (by simp)
  rw [if_pos c25] at H
  have c25b0 : (t5257.toList == a2.toList) = true := beq_iff_eq.mpr c25
  have c25b1 : (t5257.toList != a2.toList) = false := bne_eq_false_iff_eq.mpr c25
  clear c25
  by_cases c26 : t5266 = true
  rotate_left
  · replace c26 := Bool.eq_false_iff.mpr c26
    subst c26
    have H1 : (none) = some r := by rw [if_neg (show ¬ (false = true) by decide)] at H; exact H
    clear H
    have H := H1
    clear H1
    exact absurd H (by simp)
  subst c26
  have H1 : ((BigText.g t5242 t5243 t5244 t5245).bind fun t5273 => ((BigText.g t5247 t5248 t5249 t5250).bind fun t5274 => (if t5273.toList = t5274.toList then (some true) else (none)))) = some r := by rw [if_pos rfl] at H; exact H
  clear H
  have H := H1
  clear H1
  replace H := Option.bind_eq_some_iff.mp H
  obtain ⟨t5273, A270, H⟩ := H
  replace H : ((BigText.g t5247 t5248 t5249 t5250).bind fun t5274 => (if t5273.toList = t5274.toList then (some true) else (none))) = some r := H
  have A27 := Aside0.mk A270
  clear A270
  replace H := Option.bind_eq_some_iff.mp H
  obtain ⟨t5274, A280, H⟩ := H
  replace H : (if t5273.toList = t5274.toList then (some true) else (none)) = some r := H
  have A28 := Aside0.mk A280
  clear A280
  by_cases c29 : t5273.toList = t5274.toList
  rotate_left
  · rw [if_neg c29] at H
    exact absurd H (by simp)
  rw [if_pos c29] at H
  have c29b0 : (t5273.toList == t5274.toList) = true := beq_iff_eq.mpr c29
  have c29b1 : (t5273.toList != t5274.toList) = false := bne_eq_false_iff_eq.mpr c29
  clear c29
  obtain rfl := Option.some.inj H
  go_enter Tryd.func7, Tryd.ntmps7
  try go_wp2_with (first | ((with_reducible refine gate_dst (N := 4) rfl ?_); refine box_event ?hg (N := 4) ?hd (cs := #[.int .u64 a0_0, .int .u64 a0_1, .int .u64 a0_2, .int .u64 a0_3, .bool a0_4]) (t := 26) ?hr ?_; (case hd => rfl); (case hg => rfl); (case hr => first | (go_simp; done) | (go_simp; rfl)); intro gb5239 hg w30 hbox hb; have n0_ := Aside0.mk (below_step (by repeat (first | (with_reducible first | exact HB.out | apply below_alloc | apply pw_below_drewN | apply below_drew1) | exact HB.out)) hb); have n1_ := Aside0.mk (hbox); have n2_ := Aside0.mk ((by rw [hg]; exact (below_size (by repeat (first | (with_reducible first | exact HB.out | apply below_alloc | apply pw_below_drewN | apply below_drew1) | exact HB.out))) : w.heap.size ≤ gb5239)); have n3_ := Aside0.mk ((by rw [hg]; exact (below_size (by repeat (first | (with_reducible first | exact HB.out | apply below_alloc | apply pw_below_drewN | apply below_drew1) | exact HB.out))) : w.heap.size ≤ gb5239)); clear HB; have HB := n0_; have BK5239 := n1_; have GW5239 := n2_; have GE5239 := n3_; clear n0_ n1_ n2_ n3_; clear hb hbox hg) | ((with_reducible refine gate_dst (N := 5) rfl ?_); refine box_event ?hg (N := 5) ?hd (cs := #[.int .u64 a1_0, .int .u64 a1_1, .int .u64 a1_2, .int .u64 a1_3, .bool a1_4]) (t := 26) ?hr ?_; (case hd => rfl); (case hg => rfl); (case hr => first | (go_simp; done) | (go_simp; rfl)); intro gb5240 hg w31 hbox hb; have n0_ := Aside0.mk (blk_below (g := gb5239) (o := .cells #[.int .u64 a0_0, .int .u64 a0_1, .int .u64 a0_2, .int .u64 a0_3, .bool a0_4] 26 (0, 0)) (by (with_reducible repeat (first | refine blk_drewN ?_ _ | refine blk_drew ?_ | refine blk_alloc ?_ _)); exact BK5239.out) hb); have n1_ := Aside0.mk (below_step (by repeat (first | (with_reducible first | exact HB.out | apply below_alloc | apply pw_below_drewN | apply below_drew1 | refine below_set ?_ GE5239.out) | exact HB.out)) hb); have n2_ := Aside0.mk (hbox); have n3_ := Aside0.mk ((by rw [hg]; exact (below_size (by repeat (first | (with_reducible first | exact HB.out | apply below_alloc | apply pw_below_drewN | apply below_drew1 | refine below_set ?_ GE5239.out) | exact HB.out))) : w.heap.size ≤ gb5240)); have n4_ := Aside0.mk ((by rw [hg]; exact (below_size (by repeat (first | (with_reducible first | exact HB.out | apply below_alloc | apply pw_below_drewN | apply below_drew1 | refine below_set ?_ GE5239.out) | exact HB.out))) : w.heap.size ≤ gb5240)); have n5_ := Aside0.mk ((by rw [hg]; exact Nat.ne_of_lt (blk_lt (g := gb5239) (o := .cells #[.int .u64 a0_0, .int .u64 a0_1, .int .u64 a0_2, .int .u64 a0_3, .bool a0_4] 26 (0, 0)) (by (with_reducible repeat (first | refine blk_drewN ?_ _ | refine blk_drew ?_ | refine blk_alloc ?_ _)); exact BK5239.out)) : gb5239 ≠ gb5240)); have n6_ := Aside0.mk ((by rw [hg]; exact Nat.ne_of_gt (blk_lt (g := gb5239) (o := .cells #[.int .u64 a0_0, .int .u64 a0_1, .int .u64 a0_2, .int .u64 a0_3, .bool a0_4] 26 (0, 0)) (by (with_reducible repeat (first | refine blk_drewN ?_ _ | refine blk_drew ?_ | refine blk_alloc ?_ _)); exact BK5239.out)) : gb5240 ≠ gb5239)); clear BK5239; clear HB; have BK5239 := n0_; have HB := n1_; have BK5240 := n2_; have GW5240 := n3_; have GE5240 := n4_; have NB5239_5240 := n5_; have NB5240_5239 := n6_; clear n0_ n1_ n2_ n3_ n4_ n5_ n6_; clear hb hbox hg) | ((with_reducible refine gate_callee (f := 10) rfl ?_); refine goesL_ (some 18) rfl rfl Tryd.func10 (by kernel_rfl) rfl #[] rfl (by (try simp only [List.map_toArray, List.map_cons, List.map_nil]); first | done | rfl | (simp only [List.length_drop, List.length_take]; rfl)) ?_; (with_reducible refine (tenementlaw06_examples.calls k  true _ A5.out).mono ?_); rintro e w32 ⟨rfl, hb⟩; refine ⟨_, rfl, ?_⟩; have n0_ := Aside0.mk (blk_below (g := gb5239) (o := .cells #[.int .u64 a0_0, .int .u64 a0_1, .int .u64 a0_2, .int .u64 a0_3, .bool a0_4] 26 (0, 0)) (by (with_reducible repeat (first | refine blk_drewN ?_ _ | refine blk_drew ?_ | refine blk_alloc ?_ _)); exact BK5239.out) hb); have n1_ := Aside0.mk (blk_below (g := gb5240) (o := .cells #[.int .u64 a1_0, .int .u64 a1_1, .int .u64 a1_2, .int .u64 a1_3, .bool a1_4] 26 (0, 0)) (by (with_reducible repeat (first | refine blk_drewN ?_ _ | refine blk_drew ?_ | refine blk_alloc ?_ _)); exact BK5240.out) hb); have n2_ := Aside0.mk (below_step (by repeat (first | (with_reducible first | exact HB.out | apply below_alloc | apply pw_below_drewN | apply below_drew1 | refine below_set ?_ GE5239.out | refine below_set ?_ GE5240.out) | exact HB.out)) hb); clear BK5239; clear BK5240; clear HB; have BK5239 := n0_; have BK5240 := n1_; have HB := n2_; clear n0_ n1_ n2_; (try clear hb); (try clear hb2); (try clear hk); (try clear hi); have hnb33 := NB5239_5240.out; have hnc33 := NB5240_5239.out; have hcz34_0 : w32.cell? ⟨gb5239, 0, none⟩ = some (.int .u64 a0_0) := (blk_cell BK5239.out 0).trans rfl; have hcz34_1 : w32.cell? ⟨gb5239, 1, none⟩ = some (.int .u64 a0_1) := (blk_cell BK5239.out 1).trans rfl; have hcz34_2 : w32.cell? ⟨gb5239, 2, none⟩ = some (.int .u64 a0_2) := (blk_cell BK5239.out 2).trans rfl; have hcz34_3 : w32.cell? ⟨gb5239, 3, none⟩ = some (.int .u64 a0_3) := (blk_cell BK5239.out 3).trans rfl; have hcz34_4 : w32.cell? ⟨gb5239, 4, none⟩ = some (.bool a0_4) := (blk_cell BK5239.out 4).trans rfl; have hfz34_0 := blk_frozen BK5239.out 0; have hfz34_1 := blk_frozen BK5239.out 1; have hfz34_2 := blk_frozen BK5239.out 2; have hfz34_3 := blk_frozen BK5239.out 3; have hfz34_4 := blk_frozen BK5239.out 4) | ((with_reducible refine gate_callee (f := 11) rfl ?_); refine goesL_ (some 22) rfl rfl Tryd.func11 (by kernel_rfl) rfl #[.agg #[.int .u64 a0_0, .int .u64 a0_1, .int .u64 a0_2, .int .u64 a0_3, .bool a0_4]] rfl (by (try simp only [List.map_toArray, List.map_cons, List.map_nil]); first | done | rfl | (simp only [List.length_drop, List.length_take]; rfl)) ?_; (with_reducible refine (tenementlaw06_Vector_vector.calls k a0_0 a0_1 a0_2 a0_3 a0_4 t5242 t5243 t5244 t5245 _ A7.out).mono ?_); rintro e w35 ⟨rfl, hb⟩; refine ⟨_, rfl, ?_⟩; have n0_ := Aside0.mk (blk_below (g := gb5239) (o := .cells #[.int .u64 a0_0, .int .u64 a0_1, .int .u64 a0_2, .int .u64 a0_3, .bool a0_4] 26 (0, 0)) (by (with_reducible repeat (first | refine blk_drewN ?_ _ | refine blk_drew ?_ | refine blk_alloc ?_ _)); exact BK5239.out) hb); have n1_ := Aside0.mk (blk_below (g := gb5240) (o := .cells #[.int .u64 a1_0, .int .u64 a1_1, .int .u64 a1_2, .int .u64 a1_3, .bool a1_4] 26 (0, 0)) (by (with_reducible repeat (first | refine blk_drewN ?_ _ | refine blk_drew ?_ | refine blk_alloc ?_ _)); exact BK5240.out) hb); have n2_ := Aside0.mk (below_step (by repeat (first | (with_reducible first | exact HB.out | apply below_alloc | apply pw_below_drewN | apply below_drew1 | refine below_set ?_ GE5239.out | refine below_set ?_ GE5240.out) | exact HB.out)) hb); clear BK5239; clear BK5240; clear HB; have BK5239 := n0_; have BK5240 := n1_; have HB := n2_; clear n0_ n1_ n2_; (try clear hb); (try clear hb2); (try clear hk); (try clear hi)) | ((with_reducible refine gate_dst (N := 10) rfl ?_); refine box_event ?hg (N := 10) ?hd (cs := #[.int .u64 0, .int .u64 0, .int .u64 0, .int .u64 0]) (t := 24) ?hr ?_; (case hd => rfl); (case hg => rfl); (case hr => first | (go_simp; done) | (go_simp; rfl)); intro gb5246 hg w36 hbox hb; have n0_ := Aside0.mk (blk_below (g := gb5239) (o := .cells #[.int .u64 a0_0, .int .u64 a0_1, .int .u64 a0_2, .int .u64 a0_3, .bool a0_4] 26 (0, 0)) (by (with_reducible repeat (first | refine blk_drewN ?_ _ | refine blk_drew ?_ | refine blk_alloc ?_ _)); exact BK5239.out) hb); have n1_ := Aside0.mk (blk_below (g := gb5240) (o := .cells #[.int .u64 a1_0, .int .u64 a1_1, .int .u64 a1_2, .int .u64 a1_3, .bool a1_4] 26 (0, 0)) (by (with_reducible repeat (first | refine blk_drewN ?_ _ | refine blk_drew ?_ | refine blk_alloc ?_ _)); exact BK5240.out) hb); have n2_ := Aside0.mk (below_step (by repeat (first | (with_reducible first | exact HB.out | apply below_alloc | apply pw_below_drewN | apply below_drew1 | refine below_set ?_ GE5239.out | refine below_set ?_ GE5240.out) | exact HB.out)) hb); have n3_ := Aside0.mk (hbox); have n4_ := Aside0.mk ((by rw [hg]; exact (below_size (by repeat (first | (with_reducible first | exact HB.out | apply below_alloc | apply pw_below_drewN | apply below_drew1 | refine below_set ?_ GE5239.out | refine below_set ?_ GE5240.out) | exact HB.out))) : w.heap.size ≤ gb5246)); have n5_ := Aside0.mk ((by rw [hg]; exact (below_size (by repeat (first | (with_reducible first | exact HB.out | apply below_alloc | apply pw_below_drewN | apply below_drew1 | refine below_set ?_ GE5239.out | refine below_set ?_ GE5240.out) | exact HB.out))) : w.heap.size ≤ gb5246)); have n6_ := Aside0.mk ((by rw [hg]; exact Nat.ne_of_lt (blk_lt (g := gb5239) (o := .cells #[.int .u64 a0_0, .int .u64 a0_1, .int .u64 a0_2, .int .u64 a0_3, .bool a0_4] 26 (0, 0)) (by (with_reducible repeat (first | refine blk_drewN ?_ _ | refine blk_drew ?_ | refine blk_alloc ?_ _)); exact BK5239.out)) : gb5239 ≠ gb5246)); have n7_ := Aside0.mk ((by rw [hg]; exact Nat.ne_of_gt (blk_lt (g := gb5239) (o := .cells #[.int .u64 a0_0, .int .u64 a0_1, .int .u64 a0_2, .int .u64 a0_3, .bool a0_4] 26 (0, 0)) (by (with_reducible repeat (first | refine blk_drewN ?_ _ | refine blk_drew ?_ | refine blk_alloc ?_ _)); exact BK5239.out)) : gb5246 ≠ gb5239)); have n8_ := Aside0.mk ((by rw [hg]; exact Nat.ne_of_lt (blk_lt (g := gb5240) (o := .cells #[.int .u64 a1_0, .int .u64 a1_1, .int .u64 a1_2, .int .u64 a1_3, .bool a1_4] 26 (0, 0)) (by (with_reducible repeat (first | refine blk_drewN ?_ _ | refine blk_drew ?_ | refine blk_alloc ?_ _)); exact BK5240.out)) : gb5240 ≠ gb5246)); have n9_ := Aside0.mk ((by rw [hg]; exact Nat.ne_of_gt (blk_lt (g := gb5240) (o := .cells #[.int .u64 a1_0, .int .u64 a1_1, .int .u64 a1_2, .int .u64 a1_3, .bool a1_4] 26 (0, 0)) (by (with_reducible repeat (first | refine blk_drewN ?_ _ | refine blk_drew ?_ | refine blk_alloc ?_ _)); exact BK5240.out)) : gb5246 ≠ gb5240)); clear BK5239; clear BK5240; clear HB; have BK5239 := n0_; have BK5240 := n1_; have HB := n2_; have BK5246 := n3_; have GW5246 := n4_; have GE5246 := n5_; have NB5239_5246 := n6_; have NB5246_5239 := n7_; have NB5240_5246 := n8_; have NB5246_5240 := n9_; clear n0_ n1_ n2_ n3_ n4_ n5_ n6_ n7_ n8_ n9_; clear hb hbox hg; have hnb37 := NB5246_5239.out; have hnc37 := NB5239_5246.out; have hnb38 := NB5246_5240.out; have hnc38 := NB5240_5246.out; have hcz39_0 : w36.cell? ⟨gb5246, 0, none⟩ = some (.int .u64 0) := (blk_cell BK5246.out 0).trans rfl; have hcz39_1 : w36.cell? ⟨gb5246, 1, none⟩ = some (.int .u64 0) := (blk_cell BK5246.out 1).trans rfl; have hcz39_2 : w36.cell? ⟨gb5246, 2, none⟩ = some (.int .u64 0) := (blk_cell BK5246.out 2).trans rfl; have hcz39_3 : w36.cell? ⟨gb5246, 3, none⟩ = some (.int .u64 0) := (blk_cell BK5246.out 3).trans rfl; have hfz39_0 := blk_frozen BK5246.out 0; have hfz39_1 := blk_frozen BK5246.out 1; have hfz39_2 := blk_frozen BK5246.out 2; have hfz39_3 := blk_frozen BK5246.out 3; have hcz40_0 : w36.cell? ⟨gb5240, 0, none⟩ = some (.int .u64 a1_0) := (blk_cell BK5240.out 0).trans rfl; have hcz40_1 : w36.cell? ⟨gb5240, 1, none⟩ = some (.int .u64 a1_1) := (blk_cell BK5240.out 1).trans rfl; have hcz40_2 : w36.cell? ⟨gb5240, 2, none⟩ = some (.int .u64 a1_2) := (blk_cell BK5240.out 2).trans rfl; have hcz40_3 : w36.cell? ⟨gb5240, 3, none⟩ = some (.int .u64 a1_3) := (blk_cell BK5240.out 3).trans rfl; have hcz40_4 : w36.cell? ⟨gb5240, 4, none⟩ = some (.bool a1_4) := (blk_cell BK5240.out 4).trans rfl; have hfz40_0 := blk_frozen BK5240.out 0; have hfz40_1 := blk_frozen BK5240.out 1; have hfz40_2 := blk_frozen BK5240.out 2; have hfz40_3 := blk_frozen BK5240.out 3; have hfz40_4 := blk_frozen BK5240.out 4) | ((with_reducible refine gate_callee (f := 11) rfl ?_); refine goesL_ (some 24) rfl rfl Tryd.func11 (by kernel_rfl) rfl #[.agg #[.int .u64 a1_0, .int .u64 a1_1, .int .u64 a1_2, .int .u64 a1_3, .bool a1_4]] rfl (by (try simp only [List.map_toArray, List.map_cons, List.map_nil]); first | done | rfl | (simp only [List.length_drop, List.length_take]; rfl)) ?_; (with_reducible refine (tenementlaw06_Vector_vector.calls k a1_0 a1_1 a1_2 a1_3 a1_4 t5247 t5248 t5249 t5250 _ A8.out).mono ?_); rintro e w41 ⟨rfl, hb⟩; refine ⟨_, rfl, ?_⟩; have n0_ := Aside0.mk (blk_below (g := gb5239) (o := .cells #[.int .u64 a0_0, .int .u64 a0_1, .int .u64 a0_2, .int .u64 a0_3, .bool a0_4] 26 (0, 0)) (by (repeat (first | (with_reducible first | refine blk_drewN ?_ _ | refine blk_drew ?_ | refine blk_alloc ?_ _) | refine blk_far ?_ NB5239_5246.out _)); exact BK5239.out) hb); have n1_ := Aside0.mk (blk_below (g := gb5240) (o := .cells #[.int .u64 a1_0, .int .u64 a1_1, .int .u64 a1_2, .int .u64 a1_3, .bool a1_4] 26 (0, 0)) (by (repeat (first | (with_reducible first | refine blk_drewN ?_ _ | refine blk_drew ?_ | refine blk_alloc ?_ _) | refine blk_far ?_ NB5240_5246.out _)); exact BK5240.out) hb); have n2_ := Aside0.mk (blk_below (g := gb5246) (o := .cells #[.int .u64 t5242, .int .u64 t5243, .int .u64 t5244, .int .u64 t5245] 24 (0, 0)) (by (with_reducible repeat (first | refine blk_drewN ?_ _ | refine blk_drew ?_ | refine blk_alloc ?_ _)); refine blk_put (cs := #[.int .u64 t5242, .int .u64 t5243, .int .u64 t5244, .int .u64 0]) ?_ 3 _ rfl; (with_reducible repeat (first | refine blk_drewN ?_ _ | refine blk_drew ?_ | refine blk_alloc ?_ _)); refine blk_put (cs := #[.int .u64 t5242, .int .u64 t5243, .int .u64 0, .int .u64 0]) ?_ 2 _ rfl; (with_reducible repeat (first | refine blk_drewN ?_ _ | refine blk_drew ?_ | refine blk_alloc ?_ _)); refine blk_put (cs := #[.int .u64 t5242, .int .u64 0, .int .u64 0, .int .u64 0]) ?_ 1 _ rfl; (with_reducible repeat (first | refine blk_drewN ?_ _ | refine blk_drew ?_ | refine blk_alloc ?_ _)); refine blk_put (cs := #[.int .u64 0, .int .u64 0, .int .u64 0, .int .u64 0]) ?_ 0 _ rfl; (with_reducible repeat (first | refine blk_drewN ?_ _ | refine blk_drew ?_ | refine blk_alloc ?_ _)); exact BK5246.out) hb); have n3_ := Aside0.mk (below_step (by repeat (first | (with_reducible first | exact HB.out | apply below_alloc | apply pw_below_drewN | apply below_drew1 | refine below_set ?_ GE5239.out | refine below_set ?_ GE5240.out | refine below_set ?_ GE5246.out) | exact HB.out)) hb); clear BK5239; clear BK5240; clear BK5246; clear HB; have BK5239 := n0_; have BK5240 := n1_; have BK5246 := n2_; have HB := n3_; clear n0_ n1_ n2_ n3_; (try clear hb); (try clear hb2); (try clear hk); (try clear hi)) | ((with_reducible refine gate_dst (N := 11) rfl ?_); refine box_event ?hg (N := 11) ?hd (cs := #[.int .u64 0, .int .u64 0, .int .u64 0, .int .u64 0]) (t := 24) ?hr ?_; (case hd => rfl); (case hg => rfl); (case hr => first | (go_simp; done) | (go_simp; rfl)); intro gb5251 hg w42 hbox hb; have n0_ := Aside0.mk (blk_below (g := gb5239) (o := .cells #[.int .u64 a0_0, .int .u64 a0_1, .int .u64 a0_2, .int .u64 a0_3, .bool a0_4] 26 (0, 0)) (by (with_reducible repeat (first | refine blk_drewN ?_ _ | refine blk_drew ?_ | refine blk_alloc ?_ _)); exact BK5239.out) hb); have n1_ := Aside0.mk (blk_below (g := gb5240) (o := .cells #[.int .u64 a1_0, .int .u64 a1_1, .int .u64 a1_2, .int .u64 a1_3, .bool a1_4] 26 (0, 0)) (by (with_reducible repeat (first | refine blk_drewN ?_ _ | refine blk_drew ?_ | refine blk_alloc ?_ _)); exact BK5240.out) hb); have n2_ := Aside0.mk (blk_below (g := gb5246) (o := .cells #[.int .u64 t5242, .int .u64 t5243, .int .u64 t5244, .int .u64 t5245] 24 (0, 0)) (by (with_reducible repeat (first | refine blk_drewN ?_ _ | refine blk_drew ?_ | refine blk_alloc ?_ _)); exact BK5246.out) hb); have n3_ := Aside0.mk (below_step (by repeat (first | (with_reducible first | exact HB.out | apply below_alloc | apply pw_below_drewN | apply below_drew1 | refine below_set ?_ GE5239.out | refine below_set ?_ GE5240.out | refine below_set ?_ GE5246.out) | exact HB.out)) hb); have n4_ := Aside0.mk (hbox); have n5_ := Aside0.mk ((by rw [hg]; exact (below_size (by repeat (first | (with_reducible first | exact HB.out | apply below_alloc | apply pw_below_drewN | apply below_drew1 | refine below_set ?_ GE5239.out | refine below_set ?_ GE5240.out | refine below_set ?_ GE5246.out) | exact HB.out))) : w.heap.size ≤ gb5251)); have n6_ := Aside0.mk ((by rw [hg]; exact (below_size (by repeat (first | (with_reducible first | exact HB.out | apply below_alloc | apply pw_below_drewN | apply below_drew1 | refine below_set ?_ GE5239.out | refine below_set ?_ GE5240.out | refine below_set ?_ GE5246.out) | exact HB.out))) : w.heap.size ≤ gb5251)); have n7_ := Aside0.mk ((by rw [hg]; exact Nat.ne_of_lt (blk_lt (g := gb5239) (o := .cells #[.int .u64 a0_0, .int .u64 a0_1, .int .u64 a0_2, .int .u64 a0_3, .bool a0_4] 26 (0, 0)) (by (with_reducible repeat (first | refine blk_drewN ?_ _ | refine blk_drew ?_ | refine blk_alloc ?_ _)); exact BK5239.out)) : gb5239 ≠ gb5251)); have n8_ := Aside0.mk ((by rw [hg]; exact Nat.ne_of_gt (blk_lt (g := gb5239) (o := .cells #[.int .u64 a0_0, .int .u64 a0_1, .int .u64 a0_2, .int .u64 a0_3, .bool a0_4] 26 (0, 0)) (by (with_reducible repeat (first | refine blk_drewN ?_ _ | refine blk_drew ?_ | refine blk_alloc ?_ _)); exact BK5239.out)) : gb5251 ≠ gb5239)); have n9_ := Aside0.mk ((by rw [hg]; exact Nat.ne_of_lt (blk_lt (g := gb5240) (o := .cells #[.int .u64 a1_0, .int .u64 a1_1, .int .u64 a1_2, .int .u64 a1_3, .bool a1_4] 26 (0, 0)) (by (with_reducible repeat (first | refine blk_drewN ?_ _ | refine blk_drew ?_ | refine blk_alloc ?_ _)); exact BK5240.out)) : gb5240 ≠ gb5251)); have n10_ := Aside0.mk ((by rw [hg]; exact Nat.ne_of_gt (blk_lt (g := gb5240) (o := .cells #[.int .u64 a1_0, .int .u64 a1_1, .int .u64 a1_2, .int .u64 a1_3, .bool a1_4] 26 (0, 0)) (by (with_reducible repeat (first | refine blk_drewN ?_ _ | refine blk_drew ?_ | refine blk_alloc ?_ _)); exact BK5240.out)) : gb5251 ≠ gb5240)); have n11_ := Aside0.mk ((by rw [hg]; exact Nat.ne_of_lt (blk_lt (g := gb5246) (o := .cells #[.int .u64 t5242, .int .u64 t5243, .int .u64 t5244, .int .u64 t5245] 24 (0, 0)) (by (with_reducible repeat (first | refine blk_drewN ?_ _ | refine blk_drew ?_ | refine blk_alloc ?_ _)); exact BK5246.out)) : gb5246 ≠ gb5251)); have n12_ := Aside0.mk ((by rw [hg]; exact Nat.ne_of_gt (blk_lt (g := gb5246) (o := .cells #[.int .u64 t5242, .int .u64 t5243, .int .u64 t5244, .int .u64 t5245] 24 (0, 0)) (by (with_reducible repeat (first | refine blk_drewN ?_ _ | refine blk_drew ?_ | refine blk_alloc ?_ _)); exact BK5246.out)) : gb5251 ≠ gb5246)); clear BK5239; clear BK5240; clear BK5246; clear HB; have BK5239 := n0_; have BK5240 := n1_; have BK5246 := n2_; have HB := n3_; have BK5251 := n4_; have GW5251 := n5_; have GE5251 := n6_; have NB5239_5251 := n7_; have NB5251_5239 := n8_; have NB5240_5251 := n9_; have NB5251_5240 := n10_; have NB5246_5251 := n11_; have NB5251_5246 := n12_; clear n0_ n1_ n2_ n3_ n4_ n5_ n6_ n7_ n8_ n9_ n10_ n11_ n12_; clear hb hbox hg; have hnb43 := NB5251_5239.out; have hnc43 := NB5239_5251.out; have hnb44 := NB5251_5240.out; have hnc44 := NB5240_5251.out; have hnb45 := NB5251_5246.out; have hnc45 := NB5246_5251.out; have hcz46_0 : w42.cell? ⟨gb5251, 0, none⟩ = some (.int .u64 0) := (blk_cell BK5251.out 0).trans rfl; have hcz46_1 : w42.cell? ⟨gb5251, 1, none⟩ = some (.int .u64 0) := (blk_cell BK5251.out 1).trans rfl; have hcz46_2 : w42.cell? ⟨gb5251, 2, none⟩ = some (.int .u64 0) := (blk_cell BK5251.out 2).trans rfl; have hcz46_3 : w42.cell? ⟨gb5251, 3, none⟩ = some (.int .u64 0) := (blk_cell BK5251.out 3).trans rfl; have hfz46_0 := blk_frozen BK5251.out 0; have hfz46_1 := blk_frozen BK5251.out 1; have hfz46_2 := blk_frozen BK5251.out 2; have hfz46_3 := blk_frozen BK5251.out 3; have hcz47_0 : w42.cell? ⟨gb5246, 0, none⟩ = some (.int .u64 t5242) := (blk_cell BK5246.out 0).trans rfl; have hcz47_1 : w42.cell? ⟨gb5246, 1, none⟩ = some (.int .u64 t5243) := (blk_cell BK5246.out 1).trans rfl; have hcz47_2 : w42.cell? ⟨gb5246, 2, none⟩ = some (.int .u64 t5244) := (blk_cell BK5246.out 2).trans rfl; have hcz47_3 : w42.cell? ⟨gb5246, 3, none⟩ = some (.int .u64 t5245) := (blk_cell BK5246.out 3).trans rfl; have hfz47_0 := blk_frozen BK5246.out 0; have hfz47_1 := blk_frozen BK5246.out 1; have hfz47_2 := blk_frozen BK5246.out 2; have hfz47_3 := blk_frozen BK5246.out 3) | ((with_reducible refine gate_callee (f := 28) rfl ?_); refine goesL_ (some 26) rfl rfl Tryd.func28 (by kernel_rfl) rfl #[.agg #[.int .u64 t5242, .int .u64 t5243, .int .u64 t5244, .int .u64 t5245]] rfl (by (try simp only [List.map_toArray, List.map_cons, List.map_nil]); first | done | rfl | (simp only [List.length_drop, List.length_take]; rfl)) ?_; (with_reducible refine (vec_Put.calls k t5242 t5243 t5244 t5245 t5252 _ A9.out).mono ?_); rintro e w48 ⟨rfl, hb⟩; refine ⟨_, rfl, ?_⟩; have n0_ := Aside0.mk (blk_below (g := gb5239) (o := .cells #[.int .u64 a0_0, .int .u64 a0_1, .int .u64 a0_2, .int .u64 a0_3, .bool a0_4] 26 (0, 0)) (by (repeat (first | (with_reducible first | refine blk_drewN ?_ _ | refine blk_drew ?_ | refine blk_alloc ?_ _) | refine blk_far ?_ NB5239_5251.out _)); exact BK5239.out) hb); have n1_ := Aside0.mk (blk_below (g := gb5240) (o := .cells #[.int .u64 a1_0, .int .u64 a1_1, .int .u64 a1_2, .int .u64 a1_3, .bool a1_4] 26 (0, 0)) (by (repeat (first | (with_reducible first | refine blk_drewN ?_ _ | refine blk_drew ?_ | refine blk_alloc ?_ _) | refine blk_far ?_ NB5240_5251.out _)); exact BK5240.out) hb); have n2_ := Aside0.mk (blk_below (g := gb5246) (o := .cells #[.int .u64 t5242, .int .u64 t5243, .int .u64 t5244, .int .u64 t5245] 24 (0, 0)) (by (repeat (first | (with_reducible first | refine blk_drewN ?_ _ | refine blk_drew ?_ | refine blk_alloc ?_ _) | refine blk_far ?_ NB5246_5251.out _)); exact BK5246.out) hb); have n3_ := Aside0.mk (blk_below (g := gb5251) (o := .cells #[.int .u64 t5247, .int .u64 t5248, .int .u64 t5249, .int .u64 t5250] 24 (0, 0)) (by (with_reducible repeat (first | refine blk_drewN ?_ _ | refine blk_drew ?_ | refine blk_alloc ?_ _)); refine blk_put (cs := #[.int .u64 t5247, .int .u64 t5248, .int .u64 t5249, .int .u64 0]) ?_ 3 _ rfl; (with_reducible repeat (first | refine blk_drewN ?_ _ | refine blk_drew ?_ | refine blk_alloc ?_ _)); refine blk_put (cs := #[.int .u64 t5247, .int .u64 t5248, .int .u64 0, .int .u64 0]) ?_ 2 _ rfl; (with_reducible repeat (first | refine blk_drewN ?_ _ | refine blk_drew ?_ | refine blk_alloc ?_ _)); refine blk_put (cs := #[.int .u64 t5247, .int .u64 0, .int .u64 0, .int .u64 0]) ?_ 1 _ rfl; (with_reducible repeat (first | refine blk_drewN ?_ _ | refine blk_drew ?_ | refine blk_alloc ?_ _)); refine blk_put (cs := #[.int .u64 0, .int .u64 0, .int .u64 0, .int .u64 0]) ?_ 0 _ rfl; (with_reducible repeat (first | refine blk_drewN ?_ _ | refine blk_drew ?_ | refine blk_alloc ?_ _)); exact BK5251.out) hb); have n4_ := Aside0.mk (below_step (by repeat (first | (with_reducible first | exact HB.out | apply below_alloc | apply pw_below_drewN | apply below_drew1 | refine below_set ?_ GE5239.out | refine below_set ?_ GE5240.out | refine below_set ?_ GE5246.out | refine below_set ?_ GE5251.out) | exact HB.out)) hb); clear BK5239; clear BK5240; clear BK5246; clear BK5251; clear HB; have BK5239 := n0_; have BK5240 := n1_; have BK5246 := n2_; have BK5251 := n3_; have HB := n4_; clear n0_ n1_ n2_ n3_ n4_; (try clear hb); (try clear hb2); (try clear hk); (try clear hi)) | ((with_reducible refine gate_callee (f := 33) rfl ?_); refine goesL_ (some 34) rfl rfl Tryd.func33 (by kernel_rfl) rfl #[.agg #[.string (t5252 ++ a2), .bool false]] rfl (by (try simp only [List.map_toArray, List.map_cons, List.map_nil]); first | done | rfl | (simp only [List.length_drop, List.length_take]; rfl)) ?_; (with_reducible refine (vec_Get.calls k (t5252 ++ a2) false t5253 t5254 t5255 t5256 t5257 false _ A12.out).mono ?_); rintro e w49 ⟨rfl, hb⟩; refine ⟨_, rfl, ?_⟩; have n0_ := Aside0.mk (blk_below (g := gb5239) (o := .cells #[.int .u64 a0_0, .int .u64 a0_1, .int .u64 a0_2, .int .u64 a0_3, .bool a0_4] 26 (0, 0)) (by (with_reducible repeat (first | refine blk_drewN ?_ _ | refine blk_drew ?_ | refine blk_alloc ?_ _)); exact BK5239.out) hb); have n1_ := Aside0.mk (blk_below (g := gb5240) (o := .cells #[.int .u64 a1_0, .int .u64 a1_1, .int .u64 a1_2, .int .u64 a1_3, .bool a1_4] 26 (0, 0)) (by (with_reducible repeat (first | refine blk_drewN ?_ _ | refine blk_drew ?_ | refine blk_alloc ?_ _)); exact BK5240.out) hb); have n2_ := Aside0.mk (blk_below (g := gb5246) (o := .cells #[.int .u64 t5242, .int .u64 t5243, .int .u64 t5244, .int .u64 t5245] 24 (0, 0)) (by (with_reducible repeat (first | refine blk_drewN ?_ _ | refine blk_drew ?_ | refine blk_alloc ?_ _)); exact BK5246.out) hb); have n3_ := Aside0.mk (blk_below (g := gb5251) (o := .cells #[.int .u64 t5247, .int .u64 t5248, .int .u64 t5249, .int .u64 t5250] 24 (0, 0)) (by (with_reducible repeat (first | refine blk_drewN ?_ _ | refine blk_drew ?_ | refine blk_alloc ?_ _)); exact BK5251.out) hb); have n4_ := Aside0.mk (below_step (by repeat (first | (with_reducible first | exact HB.out | apply below_alloc | apply pw_below_drewN | apply below_drew1 | refine below_set ?_ GE5239.out | refine below_set ?_ GE5240.out | refine below_set ?_ GE5246.out | refine below_set ?_ GE5251.out) | exact HB.out)) hb); clear BK5239; clear BK5240; clear BK5246; clear BK5251; clear HB; have BK5239 := n0_; have BK5240 := n1_; have BK5246 := n2_; have BK5251 := n3_; have HB := n4_; clear n0_ n1_ n2_ n3_ n4_; (try clear hb); (try clear hb2); (try clear hk); (try clear hi)) | ((with_reducible refine gate_dst (N := 13) rfl ?_); refine box_event ?hg (N := 13) ?hd (cs := #[.int .u64 0, .int .u64 0, .int .u64 0, .int .u64 0]) (t := 24) ?hr ?_; (case hd => rfl); (case hg => rfl); (case hr => first | (go_simp; done) | (go_simp; rfl)); intro gb5259 hg w50 hbox hb; have n0_ := Aside0.mk (blk_below (g := gb5239) (o := .cells #[.int .u64 a0_0, .int .u64 a0_1, .int .u64 a0_2, .int .u64 a0_3, .bool a0_4] 26 (0, 0)) (by (with_reducible repeat (first | refine blk_drewN ?_ _ | refine blk_drew ?_ | refine blk_alloc ?_ _)); exact BK5239.out) hb); have n1_ := Aside0.mk (blk_below (g := gb5240) (o := .cells #[.int .u64 a1_0, .int .u64 a1_1, .int .u64 a1_2, .int .u64 a1_3, .bool a1_4] 26 (0, 0)) (by (with_reducible repeat (first | refine blk_drewN ?_ _ | refine blk_drew ?_ | refine blk_alloc ?_ _)); exact BK5240.out) hb); have n2_ := Aside0.mk (blk_below (g := gb5246) (o := .cells #[.int .u64 t5242, .int .u64 t5243, .int .u64 t5244, .int .u64 t5245] 24 (0, 0)) (by (with_reducible repeat (first | refine blk_drewN ?_ _ | refine blk_drew ?_ | refine blk_alloc ?_ _)); exact BK5246.out) hb); have n3_ := Aside0.mk (blk_below (g := gb5251) (o := .cells #[.int .u64 t5247, .int .u64 t5248, .int .u64 t5249, .int .u64 t5250] 24 (0, 0)) (by (with_reducible repeat (first | refine blk_drewN ?_ _ | refine blk_drew ?_ | refine blk_alloc ?_ _)); exact BK5251.out) hb); have n4_ := Aside0.mk (below_step (by repeat (first | (with_reducible first | exact HB.out | apply below_alloc | apply pw_below_drewN | apply below_drew1 | refine below_set ?_ GE5239.out | refine below_set ?_ GE5240.out | refine below_set ?_ GE5246.out | refine below_set ?_ GE5251.out) | exact HB.out)) hb); have n5_ := Aside0.mk (hbox); have n6_ := Aside0.mk ((by rw [hg]; exact (below_size (by repeat (first | (with_reducible first | exact HB.out | apply below_alloc | apply pw_below_drewN | apply below_drew1 | refine below_set ?_ GE5239.out | refine below_set ?_ GE5240.out | refine below_set ?_ GE5246.out | refine below_set ?_ GE5251.out) | exact HB.out))) : w.heap.size ≤ gb5259)); have n7_ := Aside0.mk ((by rw [hg]; exact (below_size (by repeat (first | (with_reducible first | exact HB.out | apply below_alloc | apply pw_below_drewN | apply below_drew1 | refine below_set ?_ GE5239.out | refine below_set ?_ GE5240.out | refine below_set ?_ GE5246.out | refine below_set ?_ GE5251.out) | exact HB.out))) : w.heap.size ≤ gb5259)); have n8_ := Aside0.mk ((by rw [hg]; exact Nat.ne_of_lt (blk_lt (g := gb5239) (o := .cells #[.int .u64 a0_0, .int .u64 a0_1, .int .u64 a0_2, .int .u64 a0_3, .bool a0_4] 26 (0, 0)) (by (with_reducible repeat (first | refine blk_drewN ?_ _ | refine blk_drew ?_ | refine blk_alloc ?_ _)); exact BK5239.out)) : gb5239 ≠ gb5259)); have n9_ := Aside0.mk ((by rw [hg]; exact Nat.ne_of_gt (blk_lt (g := gb5239) (o := .cells #[.int .u64 a0_0, .int .u64 a0_1, .int .u64 a0_2, .int .u64 a0_3, .bool a0_4] 26 (0, 0)) (by (with_reducible repeat (first | refine blk_drewN ?_ _ | refine blk_drew ?_ | refine blk_alloc ?_ _)); exact BK5239.out)) : gb5259 ≠ gb5239)); have n10_ := Aside0.mk ((by rw [hg]; exact Nat.ne_of_lt (blk_lt (g := gb5240) (o := .cells #[.int .u64 a1_0, .int .u64 a1_1, .int .u64 a1_2, .int .u64 a1_3, .bool a1_4] 26 (0, 0)) (by (with_reducible repeat (first | refine blk_drewN ?_ _ | refine blk_drew ?_ | refine blk_alloc ?_ _)); exact BK5240.out)) : gb5240 ≠ gb5259)); have n11_ := Aside0.mk ((by rw [hg]; exact Nat.ne_of_gt (blk_lt (g := gb5240) (o := .cells #[.int .u64 a1_0, .int .u64 a1_1, .int .u64 a1_2, .int .u64 a1_3, .bool a1_4] 26 (0, 0)) (by (with_reducible repeat (first | refine blk_drewN ?_ _ | refine blk_drew ?_ | refine blk_alloc ?_ _)); exact BK5240.out)) : gb5259 ≠ gb5240)); have n12_ := Aside0.mk ((by rw [hg]; exact Nat.ne_of_lt (blk_lt (g := gb5246) (o := .cells #[.int .u64 t5242, .int .u64 t5243, .int .u64 t5244, .int .u64 t5245] 24 (0, 0)) (by (with_reducible repeat (first | refine blk_drewN ?_ _ | refine blk_drew ?_ | refine blk_alloc ?_ _)); exact BK5246.out)) : gb5246 ≠ gb5259)); have n13_ := Aside0.mk ((by rw [hg]; exact Nat.ne_of_gt (blk_lt (g := gb5246) (o := .cells #[.int .u64 t5242, .int .u64 t5243, .int .u64 t5244, .int .u64 t5245] 24 (0, 0)) (by (with_reducible repeat (first | refine blk_drewN ?_ _ | refine blk_drew ?_ | refine blk_alloc ?_ _)); exact BK5246.out)) : gb5259 ≠ gb5246)); have n14_ := Aside0.mk ((by rw [hg]; exact Nat.ne_of_lt (blk_lt (g := gb5251) (o := .cells #[.int .u64 t5247, .int .u64 t5248, .int .u64 t5249, .int .u64 t5250] 24 (0, 0)) (by (with_reducible repeat (first | refine blk_drewN ?_ _ | refine blk_drew ?_ | refine blk_alloc ?_ _)); exact BK5251.out)) : gb5251 ≠ gb5259)); have n15_ := Aside0.mk ((by rw [hg]; exact Nat.ne_of_gt (blk_lt (g := gb5251) (o := .cells #[.int .u64 t5247, .int .u64 t5248, .int .u64 t5249, .int .u64 t5250] 24 (0, 0)) (by (with_reducible repeat (first | refine blk_drewN ?_ _ | refine blk_drew ?_ | refine blk_alloc ?_ _)); exact BK5251.out)) : gb5259 ≠ gb5251)); clear BK5239; clear BK5240; clear BK5246; clear BK5251; clear HB; have BK5239 := n0_; have BK5240 := n1_; have BK5246 := n2_; have BK5251 := n3_; have HB := n4_; have BK5259 := n5_; have GW5259 := n6_; have GE5259 := n7_; have NB5239_5259 := n8_; have NB5259_5239 := n9_; have NB5240_5259 := n10_; have NB5259_5240 := n11_; have NB5246_5259 := n12_; have NB5259_5246 := n13_; have NB5251_5259 := n14_; have NB5259_5251 := n15_; clear n0_ n1_ n2_ n3_ n4_ n5_ n6_ n7_ n8_ n9_ n10_ n11_ n12_ n13_ n14_ n15_; clear hb hbox hg) | ((with_reducible refine gate_dst (N := 14) rfl ?_); refine box_event ?hg (N := 14) ?hd (cs := #[.string (⟨#[]⟩ : ByteArray), .bool false]) (t := 51) ?hr ?_; (case hd => rfl); (case hg => rfl); (case hr => first | (go_simp; done) | (go_simp; rfl)); intro gb5260 hg w51 hbox hb; have n0_ := Aside0.mk (blk_below (g := gb5239) (o := .cells #[.int .u64 a0_0, .int .u64 a0_1, .int .u64 a0_2, .int .u64 a0_3, .bool a0_4] 26 (0, 0)) (by (with_reducible repeat (first | refine blk_drewN ?_ _ | refine blk_drew ?_ | refine blk_alloc ?_ _)); exact BK5239.out) hb); have n1_ := Aside0.mk (blk_below (g := gb5240) (o := .cells #[.int .u64 a1_0, .int .u64 a1_1, .int .u64 a1_2, .int .u64 a1_3, .bool a1_4] 26 (0, 0)) (by (with_reducible repeat (first | refine blk_drewN ?_ _ | refine blk_drew ?_ | refine blk_alloc ?_ _)); exact BK5240.out) hb); have n2_ := Aside0.mk (blk_below (g := gb5246) (o := .cells #[.int .u64 t5242, .int .u64 t5243, .int .u64 t5244, .int .u64 t5245] 24 (0, 0)) (by (with_reducible repeat (first | refine blk_drewN ?_ _ | refine blk_drew ?_ | refine blk_alloc ?_ _)); exact BK5246.out) hb); have n3_ := Aside0.mk (blk_below (g := gb5251) (o := .cells #[.int .u64 t5247, .int .u64 t5248, .int .u64 t5249, .int .u64 t5250] 24 (0, 0)) (by (with_reducible repeat (first | refine blk_drewN ?_ _ | refine blk_drew ?_ | refine blk_alloc ?_ _)); exact BK5251.out) hb); have n4_ := Aside0.mk (blk_below (g := gb5259) (o := .cells #[.int .u64 0, .int .u64 0, .int .u64 0, .int .u64 0] 24 (0, 0)) (by (with_reducible repeat (first | refine blk_drewN ?_ _ | refine blk_drew ?_ | refine blk_alloc ?_ _)); exact BK5259.out) hb); have n5_ := Aside0.mk (below_step (by repeat (first | (with_reducible first | exact HB.out | apply below_alloc | apply pw_below_drewN | apply below_drew1 | refine below_set ?_ GE5239.out | refine below_set ?_ GE5240.out | refine below_set ?_ GE5246.out | refine below_set ?_ GE5251.out | refine below_set ?_ GE5259.out) | exact HB.out)) hb); have n6_ := Aside0.mk (hbox); have n7_ := Aside0.mk ((by rw [hg]; exact (below_size (by repeat (first | (with_reducible first | exact HB.out | apply below_alloc | apply pw_below_drewN | apply below_drew1 | refine below_set ?_ GE5239.out | refine below_set ?_ GE5240.out | refine below_set ?_ GE5246.out | refine below_set ?_ GE5251.out | refine below_set ?_ GE5259.out) | exact HB.out))) : w.heap.size ≤ gb5260)); have n8_ := Aside0.mk ((by rw [hg]; exact (below_size (by repeat (first | (with_reducible first | exact HB.out | apply below_alloc | apply pw_below_drewN | apply below_drew1 | refine below_set ?_ GE5239.out | refine below_set ?_ GE5240.out | refine below_set ?_ GE5246.out | refine below_set ?_ GE5251.out | refine below_set ?_ GE5259.out) | exact HB.out))) : w.heap.size ≤ gb5260)); have n9_ := Aside0.mk ((by rw [hg]; exact Nat.ne_of_lt (blk_lt (g := gb5239) (o := .cells #[.int .u64 a0_0, .int .u64 a0_1, .int .u64 a0_2, .int .u64 a0_3, .bool a0_4] 26 (0, 0)) (by (with_reducible repeat (first | refine blk_drewN ?_ _ | refine blk_drew ?_ | refine blk_alloc ?_ _)); exact BK5239.out)) : gb5239 ≠ gb5260)); have n10_ := Aside0.mk ((by rw [hg]; exact Nat.ne_of_gt (blk_lt (g := gb5239) (o := .cells #[.int .u64 a0_0, .int .u64 a0_1, .int .u64 a0_2, .int .u64 a0_3, .bool a0_4] 26 (0, 0)) (by (with_reducible repeat (first | refine blk_drewN ?_ _ | refine blk_drew ?_ | refine blk_alloc ?_ _)); exact BK5239.out)) : gb5260 ≠ gb5239)); have n11_ := Aside0.mk ((by rw [hg]; exact Nat.ne_of_lt (blk_lt (g := gb5240) (o := .cells #[.int .u64 a1_0, .int .u64 a1_1, .int .u64 a1_2, .int .u64 a1_3, .bool a1_4] 26 (0, 0)) (by (with_reducible repeat (first | refine blk_drewN ?_ _ | refine blk_drew ?_ | refine blk_alloc ?_ _)); exact BK5240.out)) : gb5240 ≠ gb5260)); have n12_ := Aside0.mk ((by rw [hg]; exact Nat.ne_of_gt (blk_lt (g := gb5240) (o := .cells #[.int .u64 a1_0, .int .u64 a1_1, .int .u64 a1_2, .int .u64 a1_3, .bool a1_4] 26 (0, 0)) (by (with_reducible repeat (first | refine blk_drewN ?_ _ | refine blk_drew ?_ | refine blk_alloc ?_ _)); exact BK5240.out)) : gb5260 ≠ gb5240)); have n13_ := Aside0.mk ((by rw [hg]; exact Nat.ne_of_lt (blk_lt (g := gb5246) (o := .cells #[.int .u64 t5242, .int .u64 t5243, .int .u64 t5244, .int .u64 t5245] 24 (0, 0)) (by (with_reducible repeat (first | refine blk_drewN ?_ _ | refine blk_drew ?_ | refine blk_alloc ?_ _)); exact BK5246.out)) : gb5246 ≠ gb5260)); have n14_ := Aside0.mk ((by rw [hg]; exact Nat.ne_of_gt (blk_lt (g := gb5246) (o := .cells #[.int .u64 t5242, .int .u64 t5243, .int .u64 t5244, .int .u64 t5245] 24 (0, 0)) (by (with_reducible repeat (first | refine blk_drewN ?_ _ | refine blk_drew ?_ | refine blk_alloc ?_ _)); exact BK5246.out)) : gb5260 ≠ gb5246)); have n15_ := Aside0.mk ((by rw [hg]; exact Nat.ne_of_lt (blk_lt (g := gb5251) (o := .cells #[.int .u64 t5247, .int .u64 t5248, .int .u64 t5249, .int .u64 t5250] 24 (0, 0)) (by (with_reducible repeat (first | refine blk_drewN ?_ _ | refine blk_drew ?_ | refine blk_alloc ?_ _)); exact BK5251.out)) : gb5251 ≠ gb5260)); have n16_ := Aside0.mk ((by rw [hg]; exact Nat.ne_of_gt (blk_lt (g := gb5251) (o := .cells #[.int .u64 t5247, .int .u64 t5248, .int .u64 t5249, .int .u64 t5250] 24 (0, 0)) (by (with_reducible repeat (first | refine blk_drewN ?_ _ | refine blk_drew ?_ | refine blk_alloc ?_ _)); exact BK5251.out)) : gb5260 ≠ gb5251)); have n17_ := Aside0.mk ((by rw [hg]; exact Nat.ne_of_lt (blk_lt (g := gb5259) (o := .cells #[.int .u64 0, .int .u64 0, .int .u64 0, .int .u64 0] 24 (0, 0)) (by (with_reducible repeat (first | refine blk_drewN ?_ _ | refine blk_drew ?_ | refine blk_alloc ?_ _)); exact BK5259.out)) : gb5259 ≠ gb5260)); have n18_ := Aside0.mk ((by rw [hg]; exact Nat.ne_of_gt (blk_lt (g := gb5259) (o := .cells #[.int .u64 0, .int .u64 0, .int .u64 0, .int .u64 0] 24 (0, 0)) (by (with_reducible repeat (first | refine blk_drewN ?_ _ | refine blk_drew ?_ | refine blk_alloc ?_ _)); exact BK5259.out)) : gb5260 ≠ gb5259)); clear BK5239; clear BK5240; clear BK5246; clear BK5251; clear BK5259; clear HB; have BK5239 := n0_; have BK5240 := n1_; have BK5246 := n2_; have BK5251 := n3_; have BK5259 := n4_; have HB := n5_; have BK5260 := n6_; have GW5260 := n7_; have GE5260 := n8_; have NB5239_5260 := n9_; have NB5260_5239 := n10_; have NB5240_5260 := n11_; have NB5260_5240 := n12_; have NB5246_5260 := n13_; have NB5260_5246 := n14_; have NB5251_5260 := n15_; have NB5260_5251 := n16_; have NB5259_5260 := n17_; have NB5260_5259 := n18_; clear n0_ n1_ n2_ n3_ n4_ n5_ n6_ n7_ n8_ n9_ n10_ n11_ n12_ n13_ n14_ n15_ n16_ n17_ n18_; clear hb hbox hg; have hnb52 := NB5259_5239.out; have hnc52 := NB5239_5259.out; have hnb53 := NB5259_5240.out; have hnc53 := NB5240_5259.out; have hnb54 := NB5259_5246.out; have hnc54 := NB5246_5259.out; have hnb55 := NB5259_5251.out; have hnc55 := NB5251_5259.out; have hnb56 := NB5259_5260.out; have hnc56 := NB5260_5259.out; have hcz57_0 : w51.cell? ⟨gb5259, 0, none⟩ = some (.int .u64 0) := (blk_cell BK5259.out 0).trans rfl; have hcz57_1 : w51.cell? ⟨gb5259, 1, none⟩ = some (.int .u64 0) := (blk_cell BK5259.out 1).trans rfl; have hcz57_2 : w51.cell? ⟨gb5259, 2, none⟩ = some (.int .u64 0) := (blk_cell BK5259.out 2).trans rfl; have hcz57_3 : w51.cell? ⟨gb5259, 3, none⟩ = some (.int .u64 0) := (blk_cell BK5259.out 3).trans rfl; have hfz57_0 := blk_frozen BK5259.out 0; have hfz57_1 := blk_frozen BK5259.out 1; have hfz57_2 := blk_frozen BK5259.out 2; have hfz57_3 := blk_frozen BK5259.out 3; have hnb58 := NB5260_5239.out; have hnc58 := NB5239_5260.out; have hnb59 := NB5260_5240.out; have hnc59 := NB5240_5260.out; have hnb60 := NB5260_5246.out; have hnc60 := NB5246_5260.out; have hnb61 := NB5260_5251.out; have hnc61 := NB5251_5260.out; have hcz62_0 : w51.cell? ⟨gb5260, 0, none⟩ = some (.string (⟨#[]⟩ : ByteArray)) := (blk_cell BK5260.out 0).trans rfl; have hcz62_1 : w51.cell? ⟨gb5260, 1, none⟩ = some (.bool false) := (blk_cell BK5260.out 1).trans rfl; have hfz62_0 := blk_frozen BK5260.out 0; have hfz62_1 := blk_frozen BK5260.out 1) | ((with_reducible refine gate_callee (f := 33) rfl ?_); refine goesL_ (some 46) rfl rfl Tryd.func33 (by kernel_rfl) rfl #[.agg #[.string (t5252.extract 0 ((ji14) : Int).toNat), .bool false]] rfl (by (try simp only [List.map_toArray, List.map_cons, List.map_nil]); first | done | (simp only [hji14]; rfl) | rfl | (simp only [List.length_drop, List.length_take]; rfl)) ?_; (with_reducible refine (vec_Get.calls k (t5252.extract 0 ((ji14) : Int).toNat) false t5261 t5262 t5263 t5264 t5265 true _ A17.out).mono ?_); rintro e w63 ⟨rfl, hb⟩; refine ⟨_, rfl, ?_⟩; have n0_ := Aside0.mk (blk_below (g := gb5239) (o := .cells #[.int .u64 a0_0, .int .u64 a0_1, .int .u64 a0_2, .int .u64 a0_3, .bool a0_4] 26 (0, 0)) (by (repeat (first | (with_reducible first | refine blk_drewN ?_ _ | refine blk_drew ?_ | refine blk_alloc ?_ _) | refine blk_far ?_ NB5239_5260.out _ | refine blk_far ?_ NB5239_5259.out _)); exact BK5239.out) hb); have n1_ := Aside0.mk (blk_below (g := gb5240) (o := .cells #[.int .u64 a1_0, .int .u64 a1_1, .int .u64 a1_2, .int .u64 a1_3, .bool a1_4] 26 (0, 0)) (by (repeat (first | (with_reducible first | refine blk_drewN ?_ _ | refine blk_drew ?_ | refine blk_alloc ?_ _) | refine blk_far ?_ NB5240_5260.out _ | refine blk_far ?_ NB5240_5259.out _)); exact BK5240.out) hb); have n2_ := Aside0.mk (blk_below (g := gb5246) (o := .cells #[.int .u64 t5242, .int .u64 t5243, .int .u64 t5244, .int .u64 t5245] 24 (0, 0)) (by (repeat (first | (with_reducible first | refine blk_drewN ?_ _ | refine blk_drew ?_ | refine blk_alloc ?_ _) | refine blk_far ?_ NB5246_5260.out _ | refine blk_far ?_ NB5246_5259.out _)); exact BK5246.out) hb); have n3_ := Aside0.mk (blk_below (g := gb5251) (o := .cells #[.int .u64 t5247, .int .u64 t5248, .int .u64 t5249, .int .u64 t5250] 24 (0, 0)) (by (repeat (first | (with_reducible first | refine blk_drewN ?_ _ | refine blk_drew ?_ | refine blk_alloc ?_ _) | refine blk_far ?_ NB5251_5260.out _ | refine blk_far ?_ NB5251_5259.out _)); exact BK5251.out) hb); have n4_ := Aside0.mk (blk_below (g := gb5259) (o := .cells #[.int .u64 t5253, .int .u64 t5254, .int .u64 t5255, .int .u64 t5256] 24 (0, 0)) (by (repeat (first | (with_reducible first | refine blk_drewN ?_ _ | refine blk_drew ?_ | refine blk_alloc ?_ _) | refine blk_far ?_ NB5259_5260.out _)); refine blk_put (cs := #[.int .u64 t5253, .int .u64 t5254, .int .u64 t5255, .int .u64 0]) ?_ 3 _ rfl; (with_reducible repeat (first | refine blk_drewN ?_ _ | refine blk_drew ?_ | refine blk_alloc ?_ _)); refine blk_put (cs := #[.int .u64 t5253, .int .u64 t5254, .int .u64 0, .int .u64 0]) ?_ 2 _ rfl; (with_reducible repeat (first | refine blk_drewN ?_ _ | refine blk_drew ?_ | refine blk_alloc ?_ _)); refine blk_put (cs := #[.int .u64 t5253, .int .u64 0, .int .u64 0, .int .u64 0]) ?_ 1 _ rfl; (with_reducible repeat (first | refine blk_drewN ?_ _ | refine blk_drew ?_ | refine blk_alloc ?_ _)); refine blk_put (cs := #[.int .u64 0, .int .u64 0, .int .u64 0, .int .u64 0]) ?_ 0 _ rfl; (with_reducible repeat (first | refine blk_drewN ?_ _ | refine blk_drew ?_ | refine blk_alloc ?_ _)); exact BK5259.out) hb); have n5_ := Aside0.mk (blk_below (g := gb5260) (o := .cells #[.string t5257, .bool false] 51 (0, 0)) (by (with_reducible repeat (first | refine blk_drewN ?_ _ | refine blk_drew ?_ | refine blk_alloc ?_ _)); refine blk_put (cs := #[.string t5257, .bool false]) ?_ 1 _ rfl; (with_reducible repeat (first | refine blk_drewN ?_ _ | refine blk_drew ?_ | refine blk_alloc ?_ _)); refine blk_put (cs := #[.string (⟨#[]⟩ : ByteArray), .bool false]) ?_ 0 _ rfl; (repeat (first | (with_reducible first | refine blk_drewN ?_ _ | refine blk_drew ?_ | refine blk_alloc ?_ _) | refine blk_far ?_ NB5260_5259.out _)); exact BK5260.out) hb); have n6_ := Aside0.mk (below_step (by repeat (first | (with_reducible first | exact HB.out | apply below_alloc | apply pw_below_drewN | apply below_drew1 | refine below_set ?_ GE5239.out | refine below_set ?_ GE5240.out | refine below_set ?_ GE5246.out | refine below_set ?_ GE5251.out | refine below_set ?_ GE5259.out | refine below_set ?_ GE5260.out) | exact HB.out)) hb); clear BK5239; clear BK5240; clear BK5246; clear BK5251; clear BK5259; clear BK5260; clear HB; have BK5239 := n0_; have BK5240 := n1_; have BK5246 := n2_; have BK5251 := n3_; have BK5259 := n4_; have BK5260 := n5_; have HB := n6_; clear n0_ n1_ n2_ n3_ n4_ n5_ n6_; (try clear hb); (try clear hb2); (try clear hk); (try clear hi)) | ((with_reducible refine gate_dst (N := 15) rfl ?_); refine box_event ?hg (N := 15) ?hd (cs := #[.int .u64 0, .int .u64 0, .int .u64 0, .int .u64 0]) (t := 24) ?hr ?_; (case hd => rfl); (case hg => rfl); (case hr => first | (go_simp; done) | (go_simp; rfl)); intro gb5267 hg w64 hbox hb; have n0_ := Aside0.mk (blk_below (g := gb5239) (o := .cells #[.int .u64 a0_0, .int .u64 a0_1, .int .u64 a0_2, .int .u64 a0_3, .bool a0_4] 26 (0, 0)) (by (with_reducible repeat (first | refine blk_drewN ?_ _ | refine blk_drew ?_ | refine blk_alloc ?_ _)); exact BK5239.out) hb); have n1_ := Aside0.mk (blk_below (g := gb5240) (o := .cells #[.int .u64 a1_0, .int .u64 a1_1, .int .u64 a1_2, .int .u64 a1_3, .bool a1_4] 26 (0, 0)) (by (with_reducible repeat (first | refine blk_drewN ?_ _ | refine blk_drew ?_ | refine blk_alloc ?_ _)); exact BK5240.out) hb); have n2_ := Aside0.mk (blk_below (g := gb5246) (o := .cells #[.int .u64 t5242, .int .u64 t5243, .int .u64 t5244, .int .u64 t5245] 24 (0, 0)) (by (with_reducible repeat (first | refine blk_drewN ?_ _ | refine blk_drew ?_ | refine blk_alloc ?_ _)); exact BK5246.out) hb); have n3_ := Aside0.mk (blk_below (g := gb5251) (o := .cells #[.int .u64 t5247, .int .u64 t5248, .int .u64 t5249, .int .u64 t5250] 24 (0, 0)) (by (with_reducible repeat (first | refine blk_drewN ?_ _ | refine blk_drew ?_ | refine blk_alloc ?_ _)); exact BK5251.out) hb); have n4_ := Aside0.mk (blk_below (g := gb5259) (o := .cells #[.int .u64 t5253, .int .u64 t5254, .int .u64 t5255, .int .u64 t5256] 24 (0, 0)) (by (with_reducible repeat (first | refine blk_drewN ?_ _ | refine blk_drew ?_ | refine blk_alloc ?_ _)); exact BK5259.out) hb); have n5_ := Aside0.mk (blk_below (g := gb5260) (o := .cells #[.string t5257, .bool false] 51 (0, 0)) (by (with_reducible repeat (first | refine blk_drewN ?_ _ | refine blk_drew ?_ | refine blk_alloc ?_ _)); exact BK5260.out) hb); have n6_ := Aside0.mk (below_step (by repeat (first | (with_reducible first | exact HB.out | apply below_alloc | apply pw_below_drewN | apply below_drew1 | refine below_set ?_ GE5239.out | refine below_set ?_ GE5240.out | refine below_set ?_ GE5246.out | refine below_set ?_ GE5251.out | refine below_set ?_ GE5259.out | refine below_set ?_ GE5260.out) | exact HB.out)) hb); have n7_ := Aside0.mk (hbox); have n8_ := Aside0.mk ((by rw [hg]; exact (below_size (by repeat (first | (with_reducible first | exact HB.out | apply below_alloc | apply pw_below_drewN | apply below_drew1 | refine below_set ?_ GE5239.out | refine below_set ?_ GE5240.out | refine below_set ?_ GE5246.out | refine below_set ?_ GE5251.out | refine below_set ?_ GE5259.out | refine below_set ?_ GE5260.out) | exact HB.out))) : w.heap.size ≤ gb5267)); have n9_ := Aside0.mk ((by rw [hg]; exact (below_size (by repeat (first | (with_reducible first | exact HB.out | apply below_alloc | apply pw_below_drewN | apply below_drew1 | refine below_set ?_ GE5239.out | refine below_set ?_ GE5240.out | refine below_set ?_ GE5246.out | refine below_set ?_ GE5251.out | refine below_set ?_ GE5259.out | refine below_set ?_ GE5260.out) | exact HB.out))) : w.heap.size ≤ gb5267)); have n10_ := Aside0.mk ((by rw [hg]; exact Nat.ne_of_lt (blk_lt (g := gb5239) (o := .cells #[.int .u64 a0_0, .int .u64 a0_1, .int .u64 a0_2, .int .u64 a0_3, .bool a0_4] 26 (0, 0)) (by (with_reducible repeat (first | refine blk_drewN ?_ _ | refine blk_drew ?_ | refine blk_alloc ?_ _)); exact BK5239.out)) : gb5239 ≠ gb5267)); have n11_ := Aside0.mk ((by rw [hg]; exact Nat.ne_of_gt (blk_lt (g := gb5239) (o := .cells #[.int .u64 a0_0, .int .u64 a0_1, .int .u64 a0_2, .int .u64 a0_3, .bool a0_4] 26 (0, 0)) (by (with_reducible repeat (first | refine blk_drewN ?_ _ | refine blk_drew ?_ | refine blk_alloc ?_ _)); exact BK5239.out)) : gb5267 ≠ gb5239)); have n12_ := Aside0.mk ((by rw [hg]; exact Nat.ne_of_lt (blk_lt (g := gb5240) (o := .cells #[.int .u64 a1_0, .int .u64 a1_1, .int .u64 a1_2, .int .u64 a1_3, .bool a1_4] 26 (0, 0)) (by (with_reducible repeat (first | refine blk_drewN ?_ _ | refine blk_drew ?_ | refine blk_alloc ?_ _)); exact BK5240.out)) : gb5240 ≠ gb5267)); have n13_ := Aside0.mk ((by rw [hg]; exact Nat.ne_of_gt (blk_lt (g := gb5240) (o := .cells #[.int .u64 a1_0, .int .u64 a1_1, .int .u64 a1_2, .int .u64 a1_3, .bool a1_4] 26 (0, 0)) (by (with_reducible repeat (first | refine blk_drewN ?_ _ | refine blk_drew ?_ | refine blk_alloc ?_ _)); exact BK5240.out)) : gb5267 ≠ gb5240)); have n14_ := Aside0.mk ((by rw [hg]; exact Nat.ne_of_lt (blk_lt (g := gb5246) (o := .cells #[.int .u64 t5242, .int .u64 t5243, .int .u64 t5244, .int .u64 t5245] 24 (0, 0)) (by (with_reducible repeat (first | refine blk_drewN ?_ _ | refine blk_drew ?_ | refine blk_alloc ?_ _)); exact BK5246.out)) : gb5246 ≠ gb5267)); have n15_ := Aside0.mk ((by rw [hg]; exact Nat.ne_of_gt (blk_lt (g := gb5246) (o := .cells #[.int .u64 t5242, .int .u64 t5243, .int .u64 t5244, .int .u64 t5245] 24 (0, 0)) (by (with_reducible repeat (first | refine blk_drewN ?_ _ | refine blk_drew ?_ | refine blk_alloc ?_ _)); exact BK5246.out)) : gb5267 ≠ gb5246)); have n16_ := Aside0.mk ((by rw [hg]; exact Nat.ne_of_lt (blk_lt (g := gb5251) (o := .cells #[.int .u64 t5247, .int .u64 t5248, .int .u64 t5249, .int .u64 t5250] 24 (0, 0)) (by (with_reducible repeat (first | refine blk_drewN ?_ _ | refine blk_drew ?_ | refine blk_alloc ?_ _)); exact BK5251.out)) : gb5251 ≠ gb5267)); have n17_ := Aside0.mk ((by rw [hg]; exact Nat.ne_of_gt (blk_lt (g := gb5251) (o := .cells #[.int .u64 t5247, .int .u64 t5248, .int .u64 t5249, .int .u64 t5250] 24 (0, 0)) (by (with_reducible repeat (first | refine blk_drewN ?_ _ | refine blk_drew ?_ | refine blk_alloc ?_ _)); exact BK5251.out)) : gb5267 ≠ gb5251)); have n18_ := Aside0.mk ((by rw [hg]; exact Nat.ne_of_lt (blk_lt (g := gb5259) (o := .cells #[.int .u64 t5253, .int .u64 t5254, .int .u64 t5255, .int .u64 t5256] 24 (0, 0)) (by (with_reducible repeat (first | refine blk_drewN ?_ _ | refine blk_drew ?_ | refine blk_alloc ?_ _)); exact BK5259.out)) : gb5259 ≠ gb5267)); have n19_ := Aside0.mk ((by rw [hg]; exact Nat.ne_of_gt (blk_lt (g := gb5259) (o := .cells #[.int .u64 t5253, .int .u64 t5254, .int .u64 t5255, .int .u64 t5256] 24 (0, 0)) (by (with_reducible repeat (first | refine blk_drewN ?_ _ | refine blk_drew ?_ | refine blk_alloc ?_ _)); exact BK5259.out)) : gb5267 ≠ gb5259)); have n20_ := Aside0.mk ((by rw [hg]; exact Nat.ne_of_lt (blk_lt (g := gb5260) (o := .cells #[.string t5257, .bool false] 51 (0, 0)) (by (with_reducible repeat (first | refine blk_drewN ?_ _ | refine blk_drew ?_ | refine blk_alloc ?_ _)); exact BK5260.out)) : gb5260 ≠ gb5267)); have n21_ := Aside0.mk ((by rw [hg]; exact Nat.ne_of_gt (blk_lt (g := gb5260) (o := .cells #[.string t5257, .bool false] 51 (0, 0)) (by (with_reducible repeat (first | refine blk_drewN ?_ _ | refine blk_drew ?_ | refine blk_alloc ?_ _)); exact BK5260.out)) : gb5267 ≠ gb5260)); clear BK5239; clear BK5240; clear BK5246; clear BK5251; clear BK5259; clear BK5260; clear HB; have BK5239 := n0_; have BK5240 := n1_; have BK5246 := n2_; have BK5251 := n3_; have BK5259 := n4_; have BK5260 := n5_; have HB := n6_; have BK5267 := n7_; have GW5267 := n8_; have GE5267 := n9_; have NB5239_5267 := n10_; have NB5267_5239 := n11_; have NB5240_5267 := n12_; have NB5267_5240 := n13_; have NB5246_5267 := n14_; have NB5267_5246 := n15_; have NB5251_5267 := n16_; have NB5267_5251 := n17_; have NB5259_5267 := n18_; have NB5267_5259 := n19_; have NB5260_5267 := n20_; have NB5267_5260 := n21_; clear n0_ n1_ n2_ n3_ n4_ n5_ n6_ n7_ n8_ n9_ n10_ n11_ n12_ n13_ n14_ n15_ n16_ n17_ n18_ n19_ n20_ n21_; clear hb hbox hg) | ((with_reducible refine gate_dst (N := 16) rfl ?_); refine box_event ?hg (N := 16) ?hd (cs := #[.string (⟨#[]⟩ : ByteArray), .bool false]) (t := 51) ?hr ?_; (case hd => rfl); (case hg => rfl); (case hr => first | (go_simp; done) | (go_simp; rfl)); intro gb5268 hg w65 hbox hb; have n0_ := Aside0.mk (blk_below (g := gb5239) (o := .cells #[.int .u64 a0_0, .int .u64 a0_1, .int .u64 a0_2, .int .u64 a0_3, .bool a0_4] 26 (0, 0)) (by (with_reducible repeat (first | refine blk_drewN ?_ _ | refine blk_drew ?_ | refine blk_alloc ?_ _)); exact BK5239.out) hb); have n1_ := Aside0.mk (blk_below (g := gb5240) (o := .cells #[.int .u64 a1_0, .int .u64 a1_1, .int .u64 a1_2, .int .u64 a1_3, .bool a1_4] 26 (0, 0)) (by (with_reducible repeat (first | refine blk_drewN ?_ _ | refine blk_drew ?_ | refine blk_alloc ?_ _)); exact BK5240.out) hb); have n2_ := Aside0.mk (blk_below (g := gb5246) (o := .cells #[.int .u64 t5242, .int .u64 t5243, .int .u64 t5244, .int .u64 t5245] 24 (0, 0)) (by (with_reducible repeat (first | refine blk_drewN ?_ _ | refine blk_drew ?_ | refine blk_alloc ?_ _)); exact BK5246.out) hb); have n3_ := Aside0.mk (blk_below (g := gb5251) (o := .cells #[.int .u64 t5247, .int .u64 t5248, .int .u64 t5249, .int .u64 t5250] 24 (0, 0)) (by (with_reducible repeat (first | refine blk_drewN ?_ _ | refine blk_drew ?_ | refine blk_alloc ?_ _)); exact BK5251.out) hb); have n4_ := Aside0.mk (blk_below (g := gb5259) (o := .cells #[.int .u64 t5253, .int .u64 t5254, .int .u64 t5255, .int .u64 t5256] 24 (0, 0)) (by (with_reducible repeat (first | refine blk_drewN ?_ _ | refine blk_drew ?_ | refine blk_alloc ?_ _)); exact BK5259.out) hb); have n5_ := Aside0.mk (blk_below (g := gb5260) (o := .cells #[.string t5257, .bool false] 51 (0, 0)) (by (with_reducible repeat (first | refine blk_drewN ?_ _ | refine blk_drew ?_ | refine blk_alloc ?_ _)); exact BK5260.out) hb); have n6_ := Aside0.mk (blk_below (g := gb5267) (o := .cells #[.int .u64 0, .int .u64 0, .int .u64 0, .int .u64 0] 24 (0, 0)) (by (with_reducible repeat (first | refine blk_drewN ?_ _ | refine blk_drew ?_ | refine blk_alloc ?_ _)); exact BK5267.out) hb); have n7_ := Aside0.mk (below_step (by repeat (first | (with_reducible first | exact HB.out | apply below_alloc | apply pw_below_drewN | apply below_drew1 | refine below_set ?_ GE5239.out | refine below_set ?_ GE5240.out | refine below_set ?_ GE5246.out | refine below_set ?_ GE5251.out | refine below_set ?_ GE5259.out | refine below_set ?_ GE5260.out | refine below_set ?_ GE5267.out) | exact HB.out)) hb); have n8_ := Aside0.mk (hbox); have n9_ := Aside0.mk ((by rw [hg]; exact (below_size (by repeat (first | (with_reducible first | exact HB.out | apply below_alloc | apply pw_below_drewN | apply below_drew1 | refine below_set ?_ GE5239.out | refine below_set ?_ GE5240.out | refine below_set ?_ GE5246.out | refine below_set ?_ GE5251.out | refine below_set ?_ GE5259.out | refine below_set ?_ GE5260.out | refine below_set ?_ GE5267.out) | exact HB.out))) : w.heap.size ≤ gb5268)); have n10_ := Aside0.mk ((by rw [hg]; exact (below_size (by repeat (first | (with_reducible first | exact HB.out | apply below_alloc | apply pw_below_drewN | apply below_drew1 | refine below_set ?_ GE5239.out | refine below_set ?_ GE5240.out | refine below_set ?_ GE5246.out | refine below_set ?_ GE5251.out | refine below_set ?_ GE5259.out | refine below_set ?_ GE5260.out | refine below_set ?_ GE5267.out) | exact HB.out))) : w.heap.size ≤ gb5268)); have n11_ := Aside0.mk ((by rw [hg]; exact Nat.ne_of_lt (blk_lt (g := gb5239) (o := .cells #[.int .u64 a0_0, .int .u64 a0_1, .int .u64 a0_2, .int .u64 a0_3, .bool a0_4] 26 (0, 0)) (by (with_reducible repeat (first | refine blk_drewN ?_ _ | refine blk_drew ?_ | refine blk_alloc ?_ _)); exact BK5239.out)) : gb5239 ≠ gb5268)); have n12_ := Aside0.mk ((by rw [hg]; exact Nat.ne_of_gt (blk_lt (g := gb5239) (o := .cells #[.int .u64 a0_0, .int .u64 a0_1, .int .u64 a0_2, .int .u64 a0_3, .bool a0_4] 26 (0, 0)) (by (with_reducible repeat (first | refine blk_drewN ?_ _ | refine blk_drew ?_ | refine blk_alloc ?_ _)); exact BK5239.out)) : gb5268 ≠ gb5239)); have n13_ := Aside0.mk ((by rw [hg]; exact Nat.ne_of_lt (blk_lt (g := gb5240) (o := .cells #[.int .u64 a1_0, .int .u64 a1_1, .int .u64 a1_2, .int .u64 a1_3, .bool a1_4] 26 (0, 0)) (by (with_reducible repeat (first | refine blk_drewN ?_ _ | refine blk_drew ?_ | refine blk_alloc ?_ _)); exact BK5240.out)) : gb5240 ≠ gb5268)); have n14_ := Aside0.mk ((by rw [hg]; exact Nat.ne_of_gt (blk_lt (g := gb5240) (o := .cells #[.int .u64 a1_0, .int .u64 a1_1, .int .u64 a1_2, .int .u64 a1_3, .bool a1_4] 26 (0, 0)) (by (with_reducible repeat (first | refine blk_drewN ?_ _ | refine blk_drew ?_ | refine blk_alloc ?_ _)); exact BK5240.out)) : gb5268 ≠ gb5240)); have n15_ := Aside0.mk ((by rw [hg]; exact Nat.ne_of_lt (blk_lt (g := gb5246) (o := .cells #[.int .u64 t5242, .int .u64 t5243, .int .u64 t5244, .int .u64 t5245] 24 (0, 0)) (by (with_reducible repeat (first | refine blk_drewN ?_ _ | refine blk_drew ?_ | refine blk_alloc ?_ _)); exact BK5246.out)) : gb5246 ≠ gb5268)); have n16_ := Aside0.mk ((by rw [hg]; exact Nat.ne_of_gt (blk_lt (g := gb5246) (o := .cells #[.int .u64 t5242, .int .u64 t5243, .int .u64 t5244, .int .u64 t5245] 24 (0, 0)) (by (with_reducible repeat (first | refine blk_drewN ?_ _ | refine blk_drew ?_ | refine blk_alloc ?_ _)); exact BK5246.out)) : gb5268 ≠ gb5246)); have n17_ := Aside0.mk ((by rw [hg]; exact Nat.ne_of_lt (blk_lt (g := gb5251) (o := .cells #[.int .u64 t5247, .int .u64 t5248, .int .u64 t5249, .int .u64 t5250] 24 (0, 0)) (by (with_reducible repeat (first | refine blk_drewN ?_ _ | refine blk_drew ?_ | refine blk_alloc ?_ _)); exact BK5251.out)) : gb5251 ≠ gb5268)); have n18_ := Aside0.mk ((by rw [hg]; exact Nat.ne_of_gt (blk_lt (g := gb5251) (o := .cells #[.int .u64 t5247, .int .u64 t5248, .int .u64 t5249, .int .u64 t5250] 24 (0, 0)) (by (with_reducible repeat (first | refine blk_drewN ?_ _ | refine blk_drew ?_ | refine blk_alloc ?_ _)); exact BK5251.out)) : gb5268 ≠ gb5251)); have n19_ := Aside0.mk ((by rw [hg]; exact Nat.ne_of_lt (blk_lt (g := gb5259) (o := .cells #[.int .u64 t5253, .int .u64 t5254, .int .u64 t5255, .int .u64 t5256] 24 (0, 0)) (by (with_reducible repeat (first | refine blk_drewN ?_ _ | refine blk_drew ?_ | refine blk_alloc ?_ _)); exact BK5259.out)) : gb5259 ≠ gb5268)); have n20_ := Aside0.mk ((by rw [hg]; exact Nat.ne_of_gt (blk_lt (g := gb5259) (o := .cells #[.int .u64 t5253, .int .u64 t5254, .int .u64 t5255, .int .u64 t5256] 24 (0, 0)) (by (with_reducible repeat (first | refine blk_drewN ?_ _ | refine blk_drew ?_ | refine blk_alloc ?_ _)); exact BK5259.out)) : gb5268 ≠ gb5259)); have n21_ := Aside0.mk ((by rw [hg]; exact Nat.ne_of_lt (blk_lt (g := gb5260) (o := .cells #[.string t5257, .bool false] 51 (0, 0)) (by (with_reducible repeat (first | refine blk_drewN ?_ _ | refine blk_drew ?_ | refine blk_alloc ?_ _)); exact BK5260.out)) : gb5260 ≠ gb5268)); have n22_ := Aside0.mk ((by rw [hg]; exact Nat.ne_of_gt (blk_lt (g := gb5260) (o := .cells #[.string t5257, .bool false] 51 (0, 0)) (by (with_reducible repeat (first | refine blk_drewN ?_ _ | refine blk_drew ?_ | refine blk_alloc ?_ _)); exact BK5260.out)) : gb5268 ≠ gb5260)); have n23_ := Aside0.mk ((by rw [hg]; exact Nat.ne_of_lt (blk_lt (g := gb5267) (o := .cells #[.int .u64 0, .int .u64 0, .int .u64 0, .int .u64 0] 24 (0, 0)) (by (with_reducible repeat (first | refine blk_drewN ?_ _ | refine blk_drew ?_ | refine blk_alloc ?_ _)); exact BK5267.out)) : gb5267 ≠ gb5268)); have n24_ := Aside0.mk ((by rw [hg]; exact Nat.ne_of_gt (blk_lt (g := gb5267) (o := .cells #[.int .u64 0, .int .u64 0, .int .u64 0, .int .u64 0] 24 (0, 0)) (by (with_reducible repeat (first | refine blk_drewN ?_ _ | refine blk_drew ?_ | refine blk_alloc ?_ _)); exact BK5267.out)) : gb5268 ≠ gb5267)); clear BK5239; clear BK5240; clear BK5246; clear BK5251; clear BK5259; clear BK5260; clear BK5267; clear HB; have BK5239 := n0_; have BK5240 := n1_; have BK5246 := n2_; have BK5251 := n3_; have BK5259 := n4_; have BK5260 := n5_; have BK5267 := n6_; have HB := n7_; have BK5268 := n8_; have GW5268 := n9_; have GE5268 := n10_; have NB5239_5268 := n11_; have NB5268_5239 := n12_; have NB5240_5268 := n13_; have NB5268_5240 := n14_; have NB5246_5268 := n15_; have NB5268_5246 := n16_; have NB5251_5268 := n17_; have NB5268_5251 := n18_; have NB5259_5268 := n19_; have NB5268_5259 := n20_; have NB5260_5268 := n21_; have NB5268_5260 := n22_; have NB5267_5268 := n23_; have NB5268_5267 := n24_; clear n0_ n1_ n2_ n3_ n4_ n5_ n6_ n7_ n8_ n9_ n10_ n11_ n12_ n13_ n14_ n15_ n16_ n17_ n18_ n19_ n20_ n21_ n22_ n23_ n24_; clear hb hbox hg; have hnb66 := NB5267_5239.out; have hnc66 := NB5239_5267.out; have hnb67 := NB5267_5240.out; have hnc67 := NB5240_5267.out; have hnb68 := NB5267_5246.out; have hnc68 := NB5246_5267.out; have hnb69 := NB5267_5251.out; have hnc69 := NB5251_5267.out; have hnb70 := NB5267_5259.out; have hnc70 := NB5259_5267.out; have hnb71 := NB5267_5260.out; have hnc71 := NB5260_5267.out; have hnb72 := NB5267_5268.out; have hnc72 := NB5268_5267.out; have hcz73_0 : w65.cell? ⟨gb5267, 0, none⟩ = some (.int .u64 0) := (blk_cell BK5267.out 0).trans rfl; have hcz73_1 : w65.cell? ⟨gb5267, 1, none⟩ = some (.int .u64 0) := (blk_cell BK5267.out 1).trans rfl; have hcz73_2 : w65.cell? ⟨gb5267, 2, none⟩ = some (.int .u64 0) := (blk_cell BK5267.out 2).trans rfl; have hcz73_3 : w65.cell? ⟨gb5267, 3, none⟩ = some (.int .u64 0) := (blk_cell BK5267.out 3).trans rfl; have hfz73_0 := blk_frozen BK5267.out 0; have hfz73_1 := blk_frozen BK5267.out 1; have hfz73_2 := blk_frozen BK5267.out 2; have hfz73_3 := blk_frozen BK5267.out 3; have hnb74 := NB5268_5239.out; have hnc74 := NB5239_5268.out; have hnb75 := NB5268_5240.out; have hnc75 := NB5240_5268.out; have hnb76 := NB5268_5246.out; have hnc76 := NB5246_5268.out; have hnb77 := NB5268_5251.out; have hnc77 := NB5251_5268.out; have hnb78 := NB5268_5259.out; have hnc78 := NB5259_5268.out; have hnb79 := NB5268_5260.out; have hnc79 := NB5260_5268.out; have hcz80_0 : w65.cell? ⟨gb5268, 0, none⟩ = some (.string (⟨#[]⟩ : ByteArray)) := (blk_cell BK5268.out 0).trans rfl; have hcz80_1 : w65.cell? ⟨gb5268, 1, none⟩ = some (.bool false) := (blk_cell BK5268.out 1).trans rfl; have hfz80_0 := blk_frozen BK5268.out 0; have hfz80_1 := blk_frozen BK5268.out 1; have hcz81_0 : w65.cell? ⟨gb5246, 0, none⟩ = some (.int .u64 t5242) := (blk_cell BK5246.out 0).trans rfl; have hcz81_1 : w65.cell? ⟨gb5246, 1, none⟩ = some (.int .u64 t5243) := (blk_cell BK5246.out 1).trans rfl; have hcz81_2 : w65.cell? ⟨gb5246, 2, none⟩ = some (.int .u64 t5244) := (blk_cell BK5246.out 2).trans rfl; have hcz81_3 : w65.cell? ⟨gb5246, 3, none⟩ = some (.int .u64 t5245) := (blk_cell BK5246.out 3).trans rfl; have hfz81_0 := blk_frozen BK5246.out 0; have hfz81_1 := blk_frozen BK5246.out 1; have hfz81_2 := blk_frozen BK5246.out 2; have hfz81_3 := blk_frozen BK5246.out 3) | ((with_reducible refine gate_callee (f := 20) rfl ?_); refine goesL_ (some 50) rfl rfl Tryd.func20 (by kernel_rfl) rfl #[.agg #[.int .u64 t5242, .int .u64 t5243, .int .u64 t5244, .int .u64 t5245]] rfl (by (try simp only [List.map_toArray, List.map_cons, List.map_nil]); first | done | rfl | (simp only [List.length_drop, List.length_take]; rfl)) ?_; (with_reducible refine (vec_Right.calls t5242 t5243 t5244 t5245 true _ A18.out).mono ?_); rintro e w82 ⟨rfl, hb⟩; refine ⟨_, rfl, ?_⟩; have n0_ := Aside0.mk (blk_below (g := gb5239) (o := .cells #[.int .u64 a0_0, .int .u64 a0_1, .int .u64 a0_2, .int .u64 a0_3, .bool a0_4] 26 (0, 0)) (by (repeat (first | (with_reducible first | refine blk_drewN ?_ _ | refine blk_drew ?_ | refine blk_alloc ?_ _) | refine blk_far ?_ NB5239_5268.out _ | refine blk_far ?_ NB5239_5267.out _)); exact BK5239.out) hb); have n1_ := Aside0.mk (blk_below (g := gb5240) (o := .cells #[.int .u64 a1_0, .int .u64 a1_1, .int .u64 a1_2, .int .u64 a1_3, .bool a1_4] 26 (0, 0)) (by (repeat (first | (with_reducible first | refine blk_drewN ?_ _ | refine blk_drew ?_ | refine blk_alloc ?_ _) | refine blk_far ?_ NB5240_5268.out _ | refine blk_far ?_ NB5240_5267.out _)); exact BK5240.out) hb); have n2_ := Aside0.mk (blk_below (g := gb5246) (o := .cells #[.int .u64 t5242, .int .u64 t5243, .int .u64 t5244, .int .u64 t5245] 24 (0, 0)) (by (repeat (first | (with_reducible first | refine blk_drewN ?_ _ | refine blk_drew ?_ | refine blk_alloc ?_ _) | refine blk_far ?_ NB5246_5268.out _ | refine blk_far ?_ NB5246_5267.out _)); exact BK5246.out) hb); have n3_ := Aside0.mk (blk_below (g := gb5251) (o := .cells #[.int .u64 t5247, .int .u64 t5248, .int .u64 t5249, .int .u64 t5250] 24 (0, 0)) (by (repeat (first | (with_reducible first | refine blk_drewN ?_ _ | refine blk_drew ?_ | refine blk_alloc ?_ _) | refine blk_far ?_ NB5251_5268.out _ | refine blk_far ?_ NB5251_5267.out _)); exact BK5251.out) hb); have n4_ := Aside0.mk (blk_below (g := gb5259) (o := .cells #[.int .u64 t5253, .int .u64 t5254, .int .u64 t5255, .int .u64 t5256] 24 (0, 0)) (by (repeat (first | (with_reducible first | refine blk_drewN ?_ _ | refine blk_drew ?_ | refine blk_alloc ?_ _) | refine blk_far ?_ NB5259_5268.out _ | refine blk_far ?_ NB5259_5267.out _)); exact BK5259.out) hb); have n5_ := Aside0.mk (blk_below (g := gb5260) (o := .cells #[.string t5257, .bool false] 51 (0, 0)) (by (repeat (first | (with_reducible first | refine blk_drewN ?_ _ | refine blk_drew ?_ | refine blk_alloc ?_ _) | refine blk_far ?_ NB5260_5268.out _ | refine blk_far ?_ NB5260_5267.out _)); exact BK5260.out) hb); have n6_ := Aside0.mk (blk_below (g := gb5267) (o := .cells #[.int .u64 t5261, .int .u64 t5262, .int .u64 t5263, .int .u64 t5264] 24 (0, 0)) (by (repeat (first | (with_reducible first | refine blk_drewN ?_ _ | refine blk_drew ?_ | refine blk_alloc ?_ _) | refine blk_far ?_ NB5267_5268.out _)); refine blk_put (cs := #[.int .u64 t5261, .int .u64 t5262, .int .u64 t5263, .int .u64 0]) ?_ 3 _ rfl; (with_reducible repeat (first | refine blk_drewN ?_ _ | refine blk_drew ?_ | refine blk_alloc ?_ _)); refine blk_put (cs := #[.int .u64 t5261, .int .u64 t5262, .int .u64 0, .int .u64 0]) ?_ 2 _ rfl; (with_reducible repeat (first | refine blk_drewN ?_ _ | refine blk_drew ?_ | refine blk_alloc ?_ _)); refine blk_put (cs := #[.int .u64 t5261, .int .u64 0, .int .u64 0, .int .u64 0]) ?_ 1 _ rfl; (with_reducible repeat (first | refine blk_drewN ?_ _ | refine blk_drew ?_ | refine blk_alloc ?_ _)); refine blk_put (cs := #[.int .u64 0, .int .u64 0, .int .u64 0, .int .u64 0]) ?_ 0 _ rfl; (with_reducible repeat (first | refine blk_drewN ?_ _ | refine blk_drew ?_ | refine blk_alloc ?_ _)); exact BK5267.out) hb); have n7_ := Aside0.mk (blk_below (g := gb5268) (o := .cells #[.string t5265, .bool true] 51 (0, 0)) (by (with_reducible repeat (first | refine blk_drewN ?_ _ | refine blk_drew ?_ | refine blk_alloc ?_ _)); refine blk_put (cs := #[.string t5265, .bool false]) ?_ 1 _ rfl; (with_reducible repeat (first | refine blk_drewN ?_ _ | refine blk_drew ?_ | refine blk_alloc ?_ _)); refine blk_put (cs := #[.string (⟨#[]⟩ : ByteArray), .bool false]) ?_ 0 _ rfl; (repeat (first | (with_reducible first | refine blk_drewN ?_ _ | refine blk_drew ?_ | refine blk_alloc ?_ _) | refine blk_far ?_ NB5268_5267.out _)); exact BK5268.out) hb); have n8_ := Aside0.mk (below_step (by repeat (first | (with_reducible first | exact HB.out | apply below_alloc | apply pw_below_drewN | apply below_drew1 | refine below_set ?_ GE5239.out | refine below_set ?_ GE5240.out | refine below_set ?_ GE5246.out | refine below_set ?_ GE5251.out | refine below_set ?_ GE5259.out | refine below_set ?_ GE5260.out | refine below_set ?_ GE5267.out | refine below_set ?_ GE5268.out) | exact HB.out)) hb); clear BK5239; clear BK5240; clear BK5246; clear BK5251; clear BK5259; clear BK5260; clear BK5267; clear BK5268; clear HB; have BK5239 := n0_; have BK5240 := n1_; have BK5246 := n2_; have BK5251 := n3_; have BK5259 := n4_; have BK5260 := n5_; have BK5267 := n6_; have BK5268 := n7_; have HB := n8_; clear n0_ n1_ n2_ n3_ n4_ n5_ n6_ n7_ n8_; (try clear hb); (try clear hb2); (try clear hk); (try clear hi)))
  have n0_ := Aside0.mk (blk_drew BK5239.out)
  have n1_ := Aside0.mk (blk_drew BK5240.out)
  have n2_ := Aside0.mk (blk_drew BK5246.out)
  have n3_ := Aside0.mk (blk_drew BK5251.out)
  have n4_ := Aside0.mk (blk_drew BK5259.out)
  have n5_ := Aside0.mk (blk_drew BK5260.out)
  have n6_ := Aside0.mk (blk_drew BK5267.out)
  have n7_ := Aside0.mk (blk_drew BK5268.out)
  have n8_ := Aside0.mk (below_drew1 HB.out)
  clear BK5239
  clear BK5240
  clear BK5246
  clear BK5251
  clear BK5259
  clear BK5260
  clear BK5267
  clear BK5268
  clear HB
  have BK5239 := n0_
  have BK5240 := n1_
  have BK5246 := n2_
  have BK5251 := n3_
  have BK5259 := n4_
  have BK5260 := n5_
  have BK5267 := n6_
  have BK5268 := n7_
  have HB := n8_
  clear n0_ n1_ n2_ n3_ n4_ n5_ n6_ n7_ n8_
  refine start_ (n := 49) (S := fun w' => w'.cell? ⟨gb5251, 0, none⟩ = some (.int .u64 t5247) ∧ w'.cell? ⟨gb5251, 1, none⟩ = some (.int .u64 t5248) ∧ w'.cell? ⟨gb5251, 2, none⟩ = some (.int .u64 t5249) ∧ w'.cell? ⟨gb5251, 3, none⟩ = some (.int .u64 t5250) ∧ w'.cell? ⟨gb5246, 0, none⟩ = some (.int .u64 t5242) ∧ w'.cell? ⟨gb5246, 1, none⟩ = some (.int .u64 t5243) ∧ w'.cell? ⟨gb5246, 2, none⟩ = some (.int .u64 t5244) ∧ w'.cell? ⟨gb5246, 3, none⟩ = some (.int .u64 t5245) ∧ w'.cell? ⟨gb5260, 0, none⟩ = some (.string t5257) ∧ w'.cell? ⟨gb5260, 1, none⟩ = some (.bool false) ∧ w'.cell? ⟨gb5259, 0, none⟩ = some (.int .u64 t5253) ∧ w'.cell? ⟨gb5259, 1, none⟩ = some (.int .u64 t5254) ∧ w'.cell? ⟨gb5259, 2, none⟩ = some (.int .u64 t5255) ∧ w'.cell? ⟨gb5259, 3, none⟩ = some (.int .u64 t5256) ∧ w'.cell? ⟨gb5268, 0, none⟩ = some (.string t5265) ∧ w'.cell? ⟨gb5268, 1, none⟩ = some (.bool true)) (ds := []) #[false, false, false, false, false, false, false, false, false, false, false, false, false, false, false, false, false, false, false, false, false, false, false, false, false, false, false, false, false, false, false, false, false, false, false, false, false, false, false, false, false, false, false, false, false, false, false, false, false] (by kernel_rfl) rfl rfl ⟨(blk_cell BK5251.out 0).trans rfl, (blk_cell BK5251.out 1).trans rfl, (blk_cell BK5251.out 2).trans rfl, (blk_cell BK5251.out 3).trans rfl, (blk_cell BK5246.out 0).trans rfl, (blk_cell BK5246.out 1).trans rfl, (blk_cell BK5246.out 2).trans rfl, (blk_cell BK5246.out 3).trans rfl, (blk_cell BK5260.out 0).trans rfl, (blk_cell BK5260.out 1).trans rfl, (blk_cell BK5259.out 0).trans rfl, (blk_cell BK5259.out 1).trans rfl, (blk_cell BK5259.out 2).trans rfl, (blk_cell BK5259.out 3).trans rfl, (blk_cell BK5268.out 0).trans rfl, (blk_cell BK5268.out 1).trans rfl⟩ (fun hHeld => ?_); refine with_tabW tenementlaw06_VecBack_p1.tab12 tenementlaw06_VecBack_p1.bits12 (fun HT_ HW_ => ?_)
  generalize w82.drew = w83 at BK5239 BK5240 BK5246 BK5251 BK5259 BK5260 BK5267 BK5268 HB hHeld ⊢
  refine pure_ (i := 0) (N := some 51) (v := ?_) (a' := ?_) #[true, false, false, false, false, false, false, false, false, false, false, false, false, false, false, false, false, false, false, false, false, false, false, false, false, false, false, false, false, false, false, false, false, false, false, false, false, false, false, false, false, false, false, false, false, false, false, false, false] rfl rfl (any_of HT_.out (by kernel_rfl)) (fun _ _ _ h => h) (Or.inl ⟨by rfl, ?_⟩) ?_ ?_
  rotate_left
  · intro w'
    go_simp
    with_reducible rfl
  rotate_left
  · simp only [Act.put, List.setIfInBounds_toArray, List.set_cons_zero, List.set_cons_succ, i64_w, i32_w]
    rfl
  refine pure_ (i := 1) (N := some 52) (v := ?_) (a' := ?_) #[true, true, false, false, false, false, false, false, false, false, false, false, false, false, false, false, false, false, false, false, false, false, false, false, false, false, false, false, false, false, false, false, false, false, false, false, false, false, false, false, false, false, false, false, false, false, false, false, false] rfl rfl (any_of HT_.out (by kernel_rfl)) (fun _ _ _ h => h) (Or.inl ⟨by rfl, ?_⟩) ?_ ?_
  rotate_left
  · intro w'
    go_simp
    with_reducible rfl
  rotate_left
  · simp only [Act.put, List.setIfInBounds_toArray, List.set_cons_zero, List.set_cons_succ, i64_w, i32_w]
    rfl
  refine pure_ (i := 2) (N := some 53) (v := ?_) (a' := ?_) #[true, true, true, false, false, false, false, false, false, false, false, false, false, false, false, false, false, false, false, false, false, false, false, false, false, false, false, false, false, false, false, false, false, false, false, false, false, false, false, false, false, false, false, false, false, false, false, false, false] rfl rfl (any_of HT_.out (by kernel_rfl)) (fun _ _ _ h => h) (Or.inl ⟨by rfl, ?_⟩) ?_ ?_
  rotate_left
  · intro w'
    go_simp
    with_reducible rfl
  rotate_left
  · simp only [Act.put, List.setIfInBounds_toArray, List.set_cons_zero, List.set_cons_succ, i64_w, i32_w]
    rfl
  refine take_ (i := 3) (N := some 54) (v := ?_) (a' := ?_) #[true, true, true, true, false, false, false, false, false, false, false, false, false, false, false, false, false, false, false, false, false, false, false, false, false, false, false, false, false, false, false, false, false, false, false, false, false, false, false, false, false, false, false, false, false, false, false, false, false] rfl rfl (take_ofW HT_.out HW_.out (by kernel_rfl)) (fun _ _ _ h => h) (Or.inl ⟨by rfl, ?_⟩) hHeld ?_ ?_
  rotate_left
  · rintro w' ⟨s0, s1, s2, s3, s4, s5, s6, s7, s8, s9, s10, s11, s12, s13, s14, s15⟩
    go_simp
    with_reducible rfl
  rotate_left
  · simp only [Act.put, List.setIfInBounds_toArray, List.set_cons_zero, List.set_cons_succ, i64_w, i32_w]
    rfl
  refine take_ (i := 6) (N := some 57) (v := ?_) (a' := ?_) #[true, true, true, true, false, false, true, false, false, false, false, false, false, false, false, false, false, false, false, false, false, false, false, false, false, false, false, false, false, false, false, false, false, false, false, false, false, false, false, false, false, false, false, false, false, false, false, false, false] rfl rfl (take_ofW HT_.out HW_.out (by kernel_rfl)) (fun _ _ _ h => h) (Or.inl ⟨by rfl, ?_⟩) hHeld ?_ ?_
  rotate_left
  · rintro w' ⟨s0, s1, s2, s3, s4, s5, s6, s7, s8, s9, s10, s11, s12, s13, s14, s15⟩
    go_simp
    with_reducible rfl
  rotate_left
  · simp only [Act.put, List.setIfInBounds_toArray, List.set_cons_zero, List.set_cons_succ, i64_w, i32_w]
    rfl
  refine take_ (i := 7) (N := some 58) (v := ?_) (a' := ?_) #[true, true, true, true, false, false, true, true, false, false, false, false, false, false, false, false, false, false, false, false, false, false, false, false, false, false, false, false, false, false, false, false, false, false, false, false, false, false, false, false, false, false, false, false, false, false, false, false, false] rfl rfl (take_ofW HT_.out HW_.out (by kernel_rfl)) (fun _ _ _ h => h) (Or.inl ⟨by rfl, ?_⟩) hHeld ?_ ?_
  rotate_left
  · rintro w' ⟨s0, s1, s2, s3, s4, s5, s6, s7, s8, s9, s10, s11, s12, s13, s14, s15⟩
    go_simp
    with_reducible rfl
  rotate_left
  · simp only [Act.put, List.setIfInBounds_toArray, List.set_cons_zero, List.set_cons_succ, i64_w, i32_w]
    rfl
  refine pure_ (i := 8) (N := some 59) (v := ?_) (a' := ?_) #[true, true, true, true, false, false, true, true, true, false, false, false, false, false, false, false, false, false, false, false, false, false, false, false, false, false, false, false, false, false, false, false, false, false, false, false, false, false, false, false, false, false, false, false, false, false, false, false, false] rfl rfl (any_of HT_.out (by kernel_rfl)) (fun _ _ _ h => h) (Or.inl ⟨by rfl, ?_⟩) ?_ ?_
  rotate_left
  · intro w'
    go_simp
    with_reducible rfl
  rotate_left
  · simp only [Act.put, List.setIfInBounds_toArray, List.set_cons_zero, List.set_cons_succ, i64_w, i32_w]
    rfl
  refine one_ (i := 4) (N := some 55) #[true, true, true, true, true, false, true, true, true, false, false, false, false, false, false, false, false, false, false, false, false, false, false, false, false, false, false, false, false, false, false, false, false, false, false, false, false, false, false, false, false, false, false, false, false, false, false, false, false] rfl rfl (one_of HT_.out (by kernel_rfl)) (by decide) (fun K hK => ?_)
  refine goes_ Tryd.func28 (by kernel_rfl) rfl #[.agg #[.int .u64 t5247, .int .u64 t5248, .int .u64 t5249, .int .u64 t5250]] (by rfl) rfl rfl (by (try simp only [List.map_toArray, List.map_cons, List.map_nil]); first | done | rfl | (simp only [List.length_drop, List.length_take]; rfl)) ?_
  with_reducible refine (vec_Put.calls k t5247 t5248 t5249 t5250 t5270 _ A19.out).mono ?_
  rintro e w84 ⟨rfl, hb⟩
  refine ⟨_, rfl, ?_⟩
  have n0_ := Aside0.mk (blk_below (g := gb5239) (o := .cells #[.int .u64 a0_0, .int .u64 a0_1, .int .u64 a0_2, .int .u64 a0_3, .bool a0_4] 26 (0, 0)) (by (with_reducible repeat (first | refine blk_drewN ?_ _ | refine blk_drew ?_ | refine blk_alloc ?_ _)); exact BK5239.out) hb)
  have n1_ := Aside0.mk (blk_below (g := gb5240) (o := .cells #[.int .u64 a1_0, .int .u64 a1_1, .int .u64 a1_2, .int .u64 a1_3, .bool a1_4] 26 (0, 0)) (by (with_reducible repeat (first | refine blk_drewN ?_ _ | refine blk_drew ?_ | refine blk_alloc ?_ _)); exact BK5240.out) hb)
  have n2_ := Aside0.mk (blk_below (g := gb5246) (o := .cells #[.int .u64 t5242, .int .u64 t5243, .int .u64 t5244, .int .u64 t5245] 24 (0, 0)) (by (with_reducible repeat (first | refine blk_drewN ?_ _ | refine blk_drew ?_ | refine blk_alloc ?_ _)); exact BK5246.out) hb)
  have n3_ := Aside0.mk (blk_below (g := gb5251) (o := .cells #[.int .u64 t5247, .int .u64 t5248, .int .u64 t5249, .int .u64 t5250] 24 (0, 0)) (by (with_reducible repeat (first | refine blk_drewN ?_ _ | refine blk_drew ?_ | refine blk_alloc ?_ _)); exact BK5251.out) hb)
  have n4_ := Aside0.mk (blk_below (g := gb5259) (o := .cells #[.int .u64 t5253, .int .u64 t5254, .int .u64 t5255, .int .u64 t5256] 24 (0, 0)) (by (with_reducible repeat (first | refine blk_drewN ?_ _ | refine blk_drew ?_ | refine blk_alloc ?_ _)); exact BK5259.out) hb)
  have n5_ := Aside0.mk (blk_below (g := gb5260) (o := .cells #[.string t5257, .bool false] 51 (0, 0)) (by (with_reducible repeat (first | refine blk_drewN ?_ _ | refine blk_drew ?_ | refine blk_alloc ?_ _)); exact BK5260.out) hb)
  have n6_ := Aside0.mk (blk_below (g := gb5267) (o := .cells #[.int .u64 t5261, .int .u64 t5262, .int .u64 t5263, .int .u64 t5264] 24 (0, 0)) (by (with_reducible repeat (first | refine blk_drewN ?_ _ | refine blk_drew ?_ | refine blk_alloc ?_ _)); exact BK5267.out) hb)
  have n7_ := Aside0.mk (blk_below (g := gb5268) (o := .cells #[.string t5265, .bool true] 51 (0, 0)) (by (with_reducible repeat (first | refine blk_drewN ?_ _ | refine blk_drew ?_ | refine blk_alloc ?_ _)); exact BK5268.out) hb)
  have n8_ := Aside0.mk (below_step (by repeat (first | (with_reducible first | exact HB.out | apply below_alloc | apply pw_below_drewN | apply below_drew1 | refine below_set ?_ GE5239.out | refine below_set ?_ GE5240.out | refine below_set ?_ GE5246.out | refine below_set ?_ GE5251.out | refine below_set ?_ GE5259.out | refine below_set ?_ GE5260.out | refine below_set ?_ GE5267.out | refine below_set ?_ GE5268.out) | exact HB.out)) hb)
  clear BK5239
  clear BK5240
  clear BK5246
  clear BK5251
  clear BK5259
  clear BK5260
  clear BK5267
  clear BK5268
  clear HB
  have BK5239 := n0_
  have BK5240 := n1_
  have BK5246 := n2_
  have BK5251 := n3_
  have BK5259 := n4_
  have BK5260 := n5_
  have BK5267 := n6_
  have BK5268 := n7_
  have HB := n8_
  clear n0_ n1_ n2_ n3_ n4_ n5_ n6_ n7_ n8_
  (try clear hb)
  (try clear hb2)
  (try clear hk)
  (try clear hi)
  refine hK.out _ _ ⟨(blk_cell BK5251.out 0).trans rfl, (blk_cell BK5251.out 1).trans rfl, (blk_cell BK5251.out 2).trans rfl, (blk_cell BK5251.out 3).trans rfl, (blk_cell BK5246.out 0).trans rfl, (blk_cell BK5246.out 1).trans rfl, (blk_cell BK5246.out 2).trans rfl, (blk_cell BK5246.out 3).trans rfl, (blk_cell BK5260.out 0).trans rfl, (blk_cell BK5260.out 1).trans rfl, (blk_cell BK5259.out 0).trans rfl, (blk_cell BK5259.out 1).trans rfl, (blk_cell BK5259.out 2).trans rfl, (blk_cell BK5259.out 3).trans rfl, (blk_cell BK5268.out 0).trans rfl, (blk_cell BK5268.out 1).trans rfl⟩ (fun hHeld => ?_)
  clear hK K
  refine norm_ (a' := ?_) ?_ ?_
  rotate_left
  · show Act.put _ (some 55) _ = _
    simp only [Act.put, List.setIfInBounds_toArray, List.set_cons_zero, List.set_cons_succ, i64_w, i32_w]
    rfl
  refine pure_ (i := 5) (N := some 56) (v := ?_) (a' := ?_) #[true, true, true, true, true, true, true, true, true, false, false, false, false, false, false, false, false, false, false, false, false, false, false, false, false, false, false, false, false, false, false, false, false, false, false, false, false, false, false, false, false, false, false, false, false, false, false, false, false] rfl rfl (any_of HT_.out (by kernel_rfl)) (fun _ _ _ h => h) (Or.inl ⟨by rfl, ?_⟩) ?_ ?_
  rotate_left
  · intro w'
    go_simp
    with_reducible rfl
  rotate_left
  · simp only [Act.put, List.setIfInBounds_toArray, List.set_cons_zero, List.set_cons_succ, i64_w, i32_w]
    rfl
  refine pure_ (i := 9) (N := some 60) (v := ?_) (a' := ?_) #[true, true, true, true, true, true, true, true, true, true, false, false, false, false, false, false, false, false, false, false, false, false, false, false, false, false, false, false, false, false, false, false, false, false, false, false, false, false, false, false, false, false, false, false, false, false, false, false, false] rfl rfl (any_of HT_.out (by kernel_rfl)) (fun _ _ _ h => h) (Or.inl ⟨by rfl, ?_⟩) ?_ ?_
  rotate_left
  · intro w'
    go_simp
    with_reducible rfl
  rotate_left
  · simp only [Act.put, List.setIfInBounds_toArray, List.set_cons_zero, List.set_cons_succ, i64_w, i32_w]
    rfl
  refine pure_ (i := 10) (N := some 61) (v := ?_) (a' := ?_) #[true, true, true, true, true, true, true, true, true, true, true, false, false, false, false, false, false, false, false, false, false, false, false, false, false, false, false, false, false, false, false, false, false, false, false, false, false, false, false, false, false, false, false, false, false, false, false, false, false] rfl rfl (any_of HT_.out (by kernel_rfl)) (fun _ _ _ h => h) (Or.inl ⟨by rfl, ?_⟩) ?_ ?_
  rotate_left
  · intro w'
    go_simp
    with_reducible rfl
  rotate_left
  · simp only [Act.put, List.setIfInBounds_toArray, List.set_cons_zero, List.set_cons_succ, i64_w, i32_w]
    rfl
  refine pure_ (i := 11) (N := some 62) (v := ?_) (a' := ?_) #[true, true, true, true, true, true, true, true, true, true, true, true, false, false, false, false, false, false, false, false, false, false, false, false, false, false, false, false, false, false, false, false, false, false, false, false, false, false, false, false, false, false, false, false, false, false, false, false, false] rfl rfl (any_of HT_.out (by kernel_rfl)) (fun _ _ _ h => h) (Or.inl ⟨by rfl, ?_⟩) ?_ ?_
  rotate_left
  · intro w'
    go_simp
    with_reducible rfl
  rotate_left
  · simp only [Act.put, List.setIfInBounds_toArray, List.set_cons_zero, List.set_cons_succ, i64_w, i32_w]
    rfl
  refine pure_ (i := 12) (N := some 63) (v := ?_) (a' := ?_) #[true, true, true, true, true, true, true, true, true, true, true, true, true, false, false, false, false, false, false, false, false, false, false, false, false, false, false, false, false, false, false, false, false, false, false, false, false, false, false, false, false, false, false, false, false, false, false, false, false] rfl rfl (any_of HT_.out (by kernel_rfl)) (fun _ _ _ h => h) (Or.inl ⟨by rfl, ?_⟩) ?_ ?_
  rotate_left
  · intro w'
    go_simp
    with_reducible rfl
  rotate_left
  · simp only [Act.put, List.setIfInBounds_toArray, List.set_cons_zero, List.set_cons_succ, i64_w, i32_w]
    rfl
  refine pure_ (i := 14) (N := some 65) (v := ?_) (a' := ?_) #[true, true, true, true, true, true, true, true, true, true, true, true, true, false, true, false, false, false, false, false, false, false, false, false, false, false, false, false, false, false, false, false, false, false, false, false, false, false, false, false, false, false, false, false, false, false, false, false, false] rfl rfl (any_of HT_.out (by kernel_rfl)) (fun _ _ _ h => h) (Or.inl ⟨by rfl, ?_⟩) ?_ ?_
  rotate_left
  · intro w'
    go_simp
    with_reducible rfl
  rotate_left
  · simp only [Act.put, List.setIfInBounds_toArray, List.set_cons_zero, List.set_cons_succ, i64_w, i32_w]
    rfl
  refine pure_ (i := 15) (N := some 66) (v := ?_) (a' := ?_) #[true, true, true, true, true, true, true, true, true, true, true, true, true, false, true, true, false, false, false, false, false, false, false, false, false, false, false, false, false, false, false, false, false, false, false, false, false, false, false, false, false, false, false, false, false, false, false, false, false] rfl rfl (any_of HT_.out (by kernel_rfl)) (fun _ _ _ h => h) (Or.inl ⟨by rfl, ?_⟩) ?_ ?_
  rotate_left
  · intro w'
    go_simp
    with_reducible rfl
  rotate_left
  · simp only [Act.put, List.setIfInBounds_toArray, List.set_cons_zero, List.set_cons_succ, i64_w, i32_w]
    rfl
  refine take_ (i := 13) (N := some 64) (v := ?_) (a' := ?_) #[true, true, true, true, true, true, true, true, true, true, true, true, true, true, true, true, false, false, false, false, false, false, false, false, false, false, false, false, false, false, false, false, false, false, false, false, false, false, false, false, false, false, false, false, false, false, false, false, false] rfl rfl (take_ofW HT_.out HW_.out (by kernel_rfl)) (fun _ _ _ h => h) (Or.inl ⟨by rfl, ?_⟩) hHeld ?_ ?_
  rotate_left
  · rintro w' ⟨s0, s1, s2, s3, s4, s5, s6, s7, s8, s9, s10, s11, s12, s13, s14, s15⟩
    go_simp
    with_reducible rfl
  rotate_left
  · simp only [Act.put, List.setIfInBounds_toArray, List.set_cons_zero, List.set_cons_succ, i64_w, i32_w]
    rfl
  refine pure_ (i := 16) (N := some 67) (v := ?_) (a' := ?_) #[true, true, true, true, true, true, true, true, true, true, true, true, true, true, true, true, true, false, false, false, false, false, false, false, false, false, false, false, false, false, false, false, false, false, false, false, false, false, false, false, false, false, false, false, false, false, false, false, false] rfl rfl (any_of HT_.out (by kernel_rfl)) (fun _ _ _ h => h) (Or.inl ⟨by rfl, ?_⟩) ?_ ?_
  rotate_left
  · intro w'
    go_simp
    with_reducible rfl
  rotate_left
  · simp only [Act.put, List.setIfInBounds_toArray, List.set_cons_zero, List.set_cons_succ, i64_w, i32_w]
    rfl
  refine pure_ (i := 17) (N := some 68) (v := ?_) (a' := ?_) #[true, true, true, true, true, true, true, true, true, true, true, true, true, true, true, true, true, true, false, false, false, false, false, false, false, false, false, false, false, false, false, false, false, false, false, false, false, false, false, false, false, false, false, false, false, false, false, false, false] rfl rfl (any_of HT_.out (by kernel_rfl)) (fun _ _ _ h => h) (Or.inl ⟨by rfl, ?_⟩) ?_ ?_
  rotate_left
  · intro w'
    go_simp
    with_reducible rfl
  rotate_left
  · simp only [Act.put, List.setIfInBounds_toArray, List.set_cons_zero, List.set_cons_succ, i64_w, i32_w]
    rfl
  refine pure_ (i := 18) (N := some 69) (v := ?_) (a' := ?_) #[true, true, true, true, true, true, true, true, true, true, true, true, true, true, true, true, true, true, true, false, false, false, false, false, false, false, false, false, false, false, false, false, false, false, false, false, false, false, false, false, false, false, false, false, false, false, false, false, false] rfl rfl (any_of HT_.out (by kernel_rfl)) (fun _ _ _ h => h) (Or.inl ⟨by rfl, ?_⟩) ?_ ?_
  rotate_left
  · intro w'
    go_simp
    with_reducible rfl
  rotate_left
  · simp only [Act.put, List.setIfInBounds_toArray, List.set_cons_zero, List.set_cons_succ, i64_w, i32_w]
    rfl
  refine pure_ (i := 19) (N := some 70) (v := ?_) (a' := ?_) #[true, true, true, true, true, true, true, true, true, true, true, true, true, true, true, true, true, true, true, true, false, false, false, false, false, false, false, false, false, false, false, false, false, false, false, false, false, false, false, false, false, false, false, false, false, false, false, false, false] rfl rfl (any_of HT_.out (by kernel_rfl)) (fun _ _ _ h => h) (Or.inl ⟨by rfl, ?_⟩) ?_ ?_
  rotate_left
  · intro w'
    go_simp
    with_reducible rfl
  rotate_left
  · simp only [Act.put, List.setIfInBounds_toArray, List.set_cons_zero, List.set_cons_succ, i64_w, i32_w]
    rfl
  refine pure_ (i := 20) (N := some 71) (v := ?_) (a' := ?_) #[true, true, true, true, true, true, true, true, true, true, true, true, true, true, true, true, true, true, true, true, true, false, false, false, false, false, false, false, false, false, false, false, false, false, false, false, false, false, false, false, false, false, false, false, false, false, false, false, false] rfl rfl (any_of HT_.out (by kernel_rfl)) (fun _ _ _ h => h) (Or.inl ⟨by rfl, ?_⟩) ?_ ?_
  rotate_left
  · intro w'
    go_simp
    with_reducible rfl
  rotate_left
  · simp only [Act.put, List.setIfInBounds_toArray, List.set_cons_zero, List.set_cons_succ, i64_w, i32_w]
    rfl
  refine pure_ (i := 21) (N := some 72) (v := ?_) (a' := ?_) #[true, true, true, true, true, true, true, true, true, true, true, true, true, true, true, true, true, true, true, true, true, true, false, false, false, false, false, false, false, false, false, false, false, false, false, false, false, false, false, false, false, false, false, false, false, false, false, false, false] rfl rfl (any_of HT_.out (by kernel_rfl)) (fun _ _ _ h => h) (Or.inl ⟨by rfl, ?_⟩) ?_ ?_
  rotate_left
  · intro w'
    go_simp
    with_reducible rfl
  rotate_left
  · simp only [Act.put, List.setIfInBounds_toArray, List.set_cons_zero, List.set_cons_succ, i64_w, i32_w]
    rfl
  refine take_ (i := 22) (N := some 73) (v := ?_) (a' := ?_) #[true, true, true, true, true, true, true, true, true, true, true, true, true, true, true, true, true, true, true, true, true, true, true, false, false, false, false, false, false, false, false, false, false, false, false, false, false, false, false, false, false, false, false, false, false, false, false, false, false] rfl rfl (take_ofW HT_.out HW_.out (by kernel_rfl)) (fun _ _ _ h => h) (Or.inl ⟨by rfl, ?_⟩) hHeld ?_ ?_
  rotate_left
  · rintro w' ⟨s0, s1, s2, s3, s4, s5, s6, s7, s8, s9, s10, s11, s12, s13, s14, s15⟩
    go_simp
    with_reducible rfl
  rotate_left
  · simp only [Act.put, List.setIfInBounds_toArray, List.set_cons_zero, List.set_cons_succ, i64_w, i32_w]
    rfl
  refine take_ (i := 23) (N := some 74) (v := ?_) (a' := ?_) #[true, true, true, true, true, true, true, true, true, true, true, true, true, true, true, true, true, true, true, true, true, true, true, true, false, false, false, false, false, false, false, false, false, false, false, false, false, false, false, false, false, false, false, false, false, false, false, false, false] rfl rfl (take_ofW HT_.out HW_.out (by kernel_rfl)) (fun _ _ _ h => h) (Or.inl ⟨by rfl, ?_⟩) hHeld ?_ ?_
  rotate_left
  · rintro w' ⟨s0, s1, s2, s3, s4, s5, s6, s7, s8, s9, s10, s11, s12, s13, s14, s15⟩
    go_simp
    with_reducible rfl
  rotate_left
  · simp only [Act.put, List.setIfInBounds_toArray, List.set_cons_zero, List.set_cons_succ, i64_w, i32_w]
    rfl
  refine pure_ (i := 24) (N := some 75) (v := ?_) (a' := ?_) #[true, true, true, true, true, true, true, true, true, true, true, true, true, true, true, true, true, true, true, true, true, true, true, true, true, false, false, false, false, false, false, false, false, false, false, false, false, false, false, false, false, false, false, false, false, false, false, false, false] rfl rfl (any_of HT_.out (by kernel_rfl)) (fun _ _ _ h => h) (Or.inl ⟨by rfl, ?_⟩) ?_ ?_
  rotate_left
  · intro w'
    go_simp
    with_reducible rfl
  rotate_left
  · simp only [Act.put, List.setIfInBounds_toArray, List.set_cons_zero, List.set_cons_succ, i64_w, i32_w]
    rfl
  refine pure_ (i := 25) (N := some 76) (v := ?_) (a' := ?_) #[true, true, true, true, true, true, true, true, true, true, true, true, true, true, true, true, true, true, true, true, true, true, true, true, true, true, false, false, false, false, false, false, false, false, false, false, false, false, false, false, false, false, false, false, false, false, false, false, false] rfl rfl (any_of HT_.out (by kernel_rfl)) (fun _ _ _ h => h) (Or.inl ⟨by rfl, ?_⟩) ?_ ?_
  rotate_left
  · intro w'
    go_simp
    with_reducible rfl
  rotate_left
  · simp only [Act.put, List.setIfInBounds_toArray, List.set_cons_zero, List.set_cons_succ, i64_w, i32_w]
    rfl
  refine pure_ (i := 26) (N := some 77) (v := ?_) (a' := ?_) #[true, true, true, true, true, true, true, true, true, true, true, true, true, true, true, true, true, true, true, true, true, true, true, true, true, true, true, false, false, false, false, false, false, false, false, false, false, false, false, false, false, false, false, false, false, false, false, false, false] rfl rfl (any_of HT_.out (by kernel_rfl)) (fun _ _ _ h => h) (Or.inl ⟨by rfl, ?_⟩) ?_ ?_
  rotate_left
  · intro w'
    go_simp
    with_reducible rfl
  rotate_left
  · simp only [Act.put, List.setIfInBounds_toArray, List.set_cons_zero, List.set_cons_succ, i64_w, i32_w]
    rfl
  refine pure_ (i := 28) (N := some 79) (v := ?_) (a' := ?_) #[true, true, true, true, true, true, true, true, true, true, true, true, true, true, true, true, true, true, true, true, true, true, true, true, true, true, true, false, true, false, false, false, false, false, false, false, false, false, false, false, false, false, false, false, false, false, false, false, false] rfl rfl (any_of HT_.out (by kernel_rfl)) (fun _ _ _ h => h) (Or.inl ⟨by rfl, ?_⟩) ?_ ?_
  rotate_left
  · intro w'
    go_simp
    with_reducible rfl
  rotate_left
  · simp only [Act.put, List.setIfInBounds_toArray, List.set_cons_zero, List.set_cons_succ, i64_w, i32_w]
    rfl
  refine take_ (i := 27) (N := some 78) (v := ?_) (a' := ?_) #[true, true, true, true, true, true, true, true, true, true, true, true, true, true, true, true, true, true, true, true, true, true, true, true, true, true, true, true, true, false, false, false, false, false, false, false, false, false, false, false, false, false, false, false, false, false, false, false, false] rfl rfl (take_ofW HT_.out HW_.out (by kernel_rfl)) (fun _ _ _ h => h) (Or.inl ⟨by rfl, ?_⟩) hHeld ?_ ?_
  rotate_left
  · rintro w' ⟨s0, s1, s2, s3, s4, s5, s6, s7, s8, s9, s10, s11, s12, s13, s14, s15⟩
    go_simp
    with_reducible rfl
  rotate_left
  · simp only [Act.put, List.setIfInBounds_toArray, List.set_cons_zero, List.set_cons_succ, i64_w, i32_w]
    rfl
  refine pure_ (i := 29) (N := some 80) (v := ?_) (a' := ?_) #[true, true, true, true, true, true, true, true, true, true, true, true, true, true, true, true, true, true, true, true, true, true, true, true, true, true, true, true, true, true, false, false, false, false, false, false, false, false, false, false, false, false, false, false, false, false, false, false, false] rfl rfl (any_of HT_.out (by kernel_rfl)) (fun _ _ _ h => h) (Or.inl ⟨by rfl, ?_⟩) ?_ ?_
  rotate_left
  · intro w'
    go_simp
    with_reducible rfl
  rotate_left
  · simp only [Act.put, List.setIfInBounds_toArray, List.set_cons_zero, List.set_cons_succ, i64_w, i32_w]
    rfl
  refine pure_ (i := 30) (N := some 81) (v := ?_) (a' := ?_) #[true, true, true, true, true, true, true, true, true, true, true, true, true, true, true, true, true, true, true, true, true, true, true, true, true, true, true, true, true, true, true, false, false, false, false, false, false, false, false, false, false, false, false, false, false, false, false, false, false] rfl rfl (any_of HT_.out (by kernel_rfl)) (fun _ _ _ h => h) (Or.inl ⟨by rfl, ?_⟩) ?_ ?_
  rotate_left
  · intro w'
    go_simp
    with_reducible rfl
  rotate_left
  · simp only [Act.put, List.setIfInBounds_toArray, List.set_cons_zero, List.set_cons_succ, i64_w, i32_w]
    rfl
  refine pure_ (i := 31) (N := some 82) (v := ?_) (a' := ?_) #[true, true, true, true, true, true, true, true, true, true, true, true, true, true, true, true, true, true, true, true, true, true, true, true, true, true, true, true, true, true, true, true, false, false, false, false, false, false, false, false, false, false, false, false, false, false, false, false, false] rfl rfl (any_of HT_.out (by kernel_rfl)) (fun _ _ _ h => h) (Or.inl ⟨by rfl, ?_⟩) ?_ ?_
  rotate_left
  · intro w'
    go_simp
    with_reducible rfl
  rotate_left
  · simp only [Act.put, List.setIfInBounds_toArray, List.set_cons_zero, List.set_cons_succ, i64_w, i32_w]
    rfl
  refine pure_ (i := 32) (N := some 83) (v := ?_) (a' := ?_) #[true, true, true, true, true, true, true, true, true, true, true, true, true, true, true, true, true, true, true, true, true, true, true, true, true, true, true, true, true, true, true, true, true, false, false, false, false, false, false, false, false, false, false, false, false, false, false, false, false] rfl rfl (any_of HT_.out (by kernel_rfl)) (fun _ _ _ h => h) (Or.inl ⟨by rfl, ?_⟩) ?_ ?_
  rotate_left
  · intro w'
    go_simp
    with_reducible rfl
  rotate_left
  · simp only [Act.put, List.setIfInBounds_toArray, List.set_cons_zero, List.set_cons_succ, i64_w, i32_w]
    rfl
  refine pure_ (i := 33) (N := some 84) (v := ?_) (a' := ?_) #[true, true, true, true, true, true, true, true, true, true, true, true, true, true, true, true, true, true, true, true, true, true, true, true, true, true, true, true, true, true, true, true, true, true, false, false, false, false, false, false, false, false, false, false, false, false, false, false, false] rfl rfl (any_of HT_.out (by kernel_rfl)) (fun _ _ _ h => h) (Or.inl ⟨by rfl, ?_⟩) ?_ ?_
  rotate_left
  · intro w'
    go_simp
    with_reducible rfl
  rotate_left
  · simp only [Act.put, List.setIfInBounds_toArray, List.set_cons_zero, List.set_cons_succ, i64_w, i32_w]
    rfl
  refine pure_ (i := 34) (N := some 85) (v := ?_) (a' := ?_) #[true, true, true, true, true, true, true, true, true, true, true, true, true, true, true, true, true, true, true, true, true, true, true, true, true, true, true, true, true, true, true, true, true, true, true, false, false, false, false, false, false, false, false, false, false, false, false, false, false] rfl rfl (any_of HT_.out (by kernel_rfl)) (fun _ _ _ h => h) (Or.inl ⟨by rfl, ?_⟩) ?_ ?_
  rotate_left
  · intro w'
    go_simp
    with_reducible rfl
  rotate_left
  · simp only [Act.put, List.setIfInBounds_toArray, List.set_cons_zero, List.set_cons_succ, i64_w, i32_w]
    rfl
  refine take_ (i := 35) (N := some 86) (v := ?_) (a' := ?_) #[true, true, true, true, true, true, true, true, true, true, true, true, true, true, true, true, true, true, true, true, true, true, true, true, true, true, true, true, true, true, true, true, true, true, true, true, false, false, false, false, false, false, false, false, false, false, false, false, false] rfl rfl (take_ofW HT_.out HW_.out (by kernel_rfl)) (fun _ _ _ h => h) (Or.inl ⟨by rfl, ?_⟩) hHeld ?_ ?_
  rotate_left
  · rintro w' ⟨s0, s1, s2, s3, s4, s5, s6, s7, s8, s9, s10, s11, s12, s13, s14, s15⟩
    go_simp
    with_reducible rfl
  rotate_left
  · simp only [Act.put, List.setIfInBounds_toArray, List.set_cons_zero, List.set_cons_succ, i64_w, i32_w]
    rfl
  refine pure_ (i := 36) (N := some 87) (v := ?_) (a' := ?_) #[true, true, true, true, true, true, true, true, true, true, true, true, true, true, true, true, true, true, true, true, true, true, true, true, true, true, true, true, true, true, true, true, true, true, true, true, true, false, false, false, false, false, false, false, false, false, false, false, false] rfl rfl (any_of HT_.out (by kernel_rfl)) (fun _ _ _ h => h) (Or.inl ⟨by rfl, ?_⟩) ?_ ?_
  rotate_left
  · intro w'
    go_simp
    with_reducible rfl
  rotate_left
  · simp only [Act.put, List.setIfInBounds_toArray, List.set_cons_zero, List.set_cons_succ, i64_w, i32_w]
    rfl
  refine pure_ (i := 37) (N := some 88) (v := ?_) (a' := ?_) #[true, true, true, true, true, true, true, true, true, true, true, true, true, true, true, true, true, true, true, true, true, true, true, true, true, true, true, true, true, true, true, true, true, true, true, true, true, true, false, false, false, false, false, false, false, false, false, false, false] rfl rfl (any_of HT_.out (by kernel_rfl)) (fun _ _ _ h => h) (Or.inl ⟨by rfl, ?_⟩) ?_ ?_
  rotate_left
  · intro w'
    go_simp
    with_reducible rfl
  rotate_left
  · simp only [Act.put, List.setIfInBounds_toArray, List.set_cons_zero, List.set_cons_succ, i64_w, i32_w]
    rfl
  refine take_ (i := 38) (N := some 89) (v := ?_) (a' := ?_) #[true, true, true, true, true, true, true, true, true, true, true, true, true, true, true, true, true, true, true, true, true, true, true, true, true, true, true, true, true, true, true, true, true, true, true, true, true, true, true, false, false, false, false, false, false, false, false, false, false] rfl rfl (take_ofW HT_.out HW_.out (by kernel_rfl)) (fun _ _ _ h => h) (Or.inl ⟨by rfl, ?_⟩) hHeld ?_ ?_
  rotate_left
  · rintro w' ⟨s0, s1, s2, s3, s4, s5, s6, s7, s8, s9, s10, s11, s12, s13, s14, s15⟩
    go_simp
    with_reducible rfl
  rotate_left
  · simp only [Act.put, List.setIfInBounds_toArray, List.set_cons_zero, List.set_cons_succ, i64_w, i32_w]
    rfl
  refine take_ (i := 40) (N := some 91) (v := ?_) (a' := ?_) #[true, true, true, true, true, true, true, true, true, true, true, true, true, true, true, true, true, true, true, true, true, true, true, true, true, true, true, true, true, true, true, true, true, true, true, true, true, true, true, false, true, false, false, false, false, false, false, false, false] rfl rfl (take_ofW HT_.out HW_.out (by kernel_rfl)) (fun _ _ _ h => h) (Or.inl ⟨by rfl, ?_⟩) hHeld ?_ ?_
  rotate_left
  · rintro w' ⟨s0, s1, s2, s3, s4, s5, s6, s7, s8, s9, s10, s11, s12, s13, s14, s15⟩
    go_simp
    with_reducible rfl
  rotate_left
  · simp only [Act.put, List.setIfInBounds_toArray, List.set_cons_zero, List.set_cons_succ, i64_w, i32_w]
    rfl
  refine take_ (i := 43) (N := some 94) (v := ?_) (a' := ?_) #[true, true, true, true, true, true, true, true, true, true, true, true, true, true, true, true, true, true, true, true, true, true, true, true, true, true, true, true, true, true, true, true, true, true, true, true, true, true, true, false, true, false, false, true, false, false, false, false, false] rfl rfl (take_ofW HT_.out HW_.out (by kernel_rfl)) (fun _ _ _ h => h) (Or.inl ⟨by rfl, ?_⟩) hHeld ?_ ?_
  rotate_left
  · rintro w' ⟨s0, s1, s2, s3, s4, s5, s6, s7, s8, s9, s10, s11, s12, s13, s14, s15⟩
    go_simp
    with_reducible rfl
  rotate_left
  · simp only [Act.put, List.setIfInBounds_toArray, List.set_cons_zero, List.set_cons_succ, i64_w, i32_w]
    rfl
  refine take_ (i := 44) (N := some 95) (v := ?_) (a' := ?_) #[true, true, true, true, true, true, true, true, true, true, true, true, true, true, true, true, true, true, true, true, true, true, true, true, true, true, true, true, true, true, true, true, true, true, true, true, true, true, true, false, true, false, false, true, true, false, false, false, false] rfl rfl (take_ofW HT_.out HW_.out (by kernel_rfl)) (fun _ _ _ h => h) (Or.inl ⟨by rfl, ?_⟩) hHeld ?_ ?_
  rotate_left
  · rintro w' ⟨s0, s1, s2, s3, s4, s5, s6, s7, s8, s9, s10, s11, s12, s13, s14, s15⟩
    go_simp
    with_reducible rfl
  rotate_left
  · simp only [Act.put, List.setIfInBounds_toArray, List.set_cons_zero, List.set_cons_succ, i64_w, i32_w]
    rfl
  refine pure_ (i := 45) (N := some 96) (v := ?_) (a' := ?_) #[true, true, true, true, true, true, true, true, true, true, true, true, true, true, true, true, true, true, true, true, true, true, true, true, true, true, true, true, true, true, true, true, true, true, true, true, true, true, true, false, true, false, false, true, true, true, false, false, false] rfl rfl (any_of HT_.out (by kernel_rfl)) (fun _ _ _ h => h) (Or.inl ⟨by rfl, ?_⟩) ?_ ?_
  rotate_left
  · intro w'
    go_simp
    with_reducible rfl
  rotate_left
  · simp only [Act.put, List.setIfInBounds_toArray, List.set_cons_zero, List.set_cons_succ, i64_w, i32_w]
    rfl
  refine one_ (i := 39) (N := some 90) #[true, true, true, true, true, true, true, true, true, true, true, true, true, true, true, true, true, true, true, true, true, true, true, true, true, true, true, true, true, true, true, true, true, true, true, true, true, true, true, true, true, false, false, true, true, true, false, false, false] rfl rfl (one_of HT_.out (by kernel_rfl)) (by decide) (fun K hK => ?_)
  refine goes_ Tryd.func30 (by kernel_rfl) rfl #[.agg #[.int .u64 t5242, .int .u64 t5243, .int .u64 t5244, .int .u64 t5245]] (by rfl) rfl rfl (by (try simp only [List.map_toArray, List.map_cons, List.map_nil]); first | done | rfl | (simp only [List.length_drop, List.length_take]; rfl)) ?_
  refine (BigText.callsT w HT _ (by repeat (first | (with_reducible first | exact HB.out | apply below_alloc | apply pw_below_drewN | apply below_drew1 | refine below_set ?_ GE5239.out | refine below_set ?_ GE5240.out | refine below_set ?_ GE5246.out | refine below_set ?_ GE5251.out | refine below_set ?_ GE5259.out | refine below_set ?_ GE5260.out | refine below_set ?_ GE5267.out | refine below_set ?_ GE5268.out) | exact HB.out)) t5242 t5243 t5244 t5245 t5273 A27.out).mono ?_
  rintro e w85 ⟨rfl, hb⟩
  refine ⟨_, rfl, ?_⟩
  have n0_ := Aside0.mk (blk_below (g := gb5239) (o := .cells #[.int .u64 a0_0, .int .u64 a0_1, .int .u64 a0_2, .int .u64 a0_3, .bool a0_4] 26 (0, 0)) (by (with_reducible repeat (first | refine blk_drewN ?_ _ | refine blk_drew ?_ | refine blk_alloc ?_ _)); exact BK5239.out) hb)
  have n1_ := Aside0.mk (blk_below (g := gb5240) (o := .cells #[.int .u64 a1_0, .int .u64 a1_1, .int .u64 a1_2, .int .u64 a1_3, .bool a1_4] 26 (0, 0)) (by (with_reducible repeat (first | refine blk_drewN ?_ _ | refine blk_drew ?_ | refine blk_alloc ?_ _)); exact BK5240.out) hb)
  have n2_ := Aside0.mk (blk_below (g := gb5246) (o := .cells #[.int .u64 t5242, .int .u64 t5243, .int .u64 t5244, .int .u64 t5245] 24 (0, 0)) (by (with_reducible repeat (first | refine blk_drewN ?_ _ | refine blk_drew ?_ | refine blk_alloc ?_ _)); exact BK5246.out) hb)
  have n3_ := Aside0.mk (blk_below (g := gb5251) (o := .cells #[.int .u64 t5247, .int .u64 t5248, .int .u64 t5249, .int .u64 t5250] 24 (0, 0)) (by (with_reducible repeat (first | refine blk_drewN ?_ _ | refine blk_drew ?_ | refine blk_alloc ?_ _)); exact BK5251.out) hb)
  have n4_ := Aside0.mk (blk_below (g := gb5259) (o := .cells #[.int .u64 t5253, .int .u64 t5254, .int .u64 t5255, .int .u64 t5256] 24 (0, 0)) (by (with_reducible repeat (first | refine blk_drewN ?_ _ | refine blk_drew ?_ | refine blk_alloc ?_ _)); exact BK5259.out) hb)
  have n5_ := Aside0.mk (blk_below (g := gb5260) (o := .cells #[.string t5257, .bool false] 51 (0, 0)) (by (with_reducible repeat (first | refine blk_drewN ?_ _ | refine blk_drew ?_ | refine blk_alloc ?_ _)); exact BK5260.out) hb)
  have n6_ := Aside0.mk (blk_below (g := gb5267) (o := .cells #[.int .u64 t5261, .int .u64 t5262, .int .u64 t5263, .int .u64 t5264] 24 (0, 0)) (by (with_reducible repeat (first | refine blk_drewN ?_ _ | refine blk_drew ?_ | refine blk_alloc ?_ _)); exact BK5267.out) hb)
  have n7_ := Aside0.mk (blk_below (g := gb5268) (o := .cells #[.string t5265, .bool true] 51 (0, 0)) (by (with_reducible repeat (first | refine blk_drewN ?_ _ | refine blk_drew ?_ | refine blk_alloc ?_ _)); exact BK5268.out) hb)
  have n8_ := Aside0.mk (below_step (by repeat (first | (with_reducible first | exact HB.out | apply below_alloc | apply pw_below_drewN | apply below_drew1 | refine below_set ?_ GE5239.out | refine below_set ?_ GE5240.out | refine below_set ?_ GE5246.out | refine below_set ?_ GE5251.out | refine below_set ?_ GE5259.out | refine below_set ?_ GE5260.out | refine below_set ?_ GE5267.out | refine below_set ?_ GE5268.out) | exact HB.out)) hb)
  clear BK5239
  clear BK5240
  clear BK5246
  clear BK5251
  clear BK5259
  clear BK5260
  clear BK5267
  clear BK5268
  clear HB
  have BK5239 := n0_
  have BK5240 := n1_
  have BK5246 := n2_
  have BK5251 := n3_
  have BK5259 := n4_
  have BK5260 := n5_
  have BK5267 := n6_
  have BK5268 := n7_
  have HB := n8_
  clear n0_ n1_ n2_ n3_ n4_ n5_ n6_ n7_ n8_
  (try clear hb)
  (try clear hb2)
  (try clear hk)
  (try clear hi)
  refine hK.out _ _ ⟨(blk_cell BK5251.out 0).trans rfl, (blk_cell BK5251.out 1).trans rfl, (blk_cell BK5251.out 2).trans rfl, (blk_cell BK5251.out 3).trans rfl, (blk_cell BK5246.out 0).trans rfl, (blk_cell BK5246.out 1).trans rfl, (blk_cell BK5246.out 2).trans rfl, (blk_cell BK5246.out 3).trans rfl, (blk_cell BK5260.out 0).trans rfl, (blk_cell BK5260.out 1).trans rfl, (blk_cell BK5259.out 0).trans rfl, (blk_cell BK5259.out 1).trans rfl, (blk_cell BK5259.out 2).trans rfl, (blk_cell BK5259.out 3).trans rfl, (blk_cell BK5268.out 0).trans rfl, (blk_cell BK5268.out 1).trans rfl⟩ (fun hHeld => ?_)
  clear hK K
  refine norm_ (a' := ?_) ?_ ?_
  rotate_left
  · show Act.put _ (some 90) _ = _
    simp only [Act.put, List.setIfInBounds_toArray, List.set_cons_zero, List.set_cons_succ, i64_w, i32_w]
    rfl
  refine one_ (i := 41) (N := some 92) #[true, true, true, true, true, true, true, true, true, true, true, true, true, true, true, true, true, true, true, true, true, true, true, true, true, true, true, true, true, true, true, true, true, true, true, true, true, true, true, true, true, true, false, true, true, true, false, false, false] rfl rfl (one_of HT_.out (by kernel_rfl)) (by decide) (fun K hK => ?_)
  refine goes_ Tryd.func30 (by kernel_rfl) rfl #[.agg #[.int .u64 t5247, .int .u64 t5248, .int .u64 t5249, .int .u64 t5250]] (by rfl) rfl rfl (by (try simp only [List.map_toArray, List.map_cons, List.map_nil]); first | done | rfl | (simp only [List.length_drop, List.length_take]; rfl)) ?_
  refine (BigText.callsT w HT _ (by repeat (first | (with_reducible first | exact HB.out | apply below_alloc | apply pw_below_drewN | apply below_drew1 | refine below_set ?_ GE5239.out | refine below_set ?_ GE5240.out | refine below_set ?_ GE5246.out | refine below_set ?_ GE5251.out | refine below_set ?_ GE5259.out | refine below_set ?_ GE5260.out | refine below_set ?_ GE5267.out | refine below_set ?_ GE5268.out) | exact HB.out)) t5247 t5248 t5249 t5250 t5274 A28.out).mono ?_
  rintro e w86 ⟨rfl, hb⟩
  refine ⟨_, rfl, ?_⟩
  have n0_ := Aside0.mk (blk_below (g := gb5239) (o := .cells #[.int .u64 a0_0, .int .u64 a0_1, .int .u64 a0_2, .int .u64 a0_3, .bool a0_4] 26 (0, 0)) (by (with_reducible repeat (first | refine blk_drewN ?_ _ | refine blk_drew ?_ | refine blk_alloc ?_ _)); exact BK5239.out) hb)
  have n1_ := Aside0.mk (blk_below (g := gb5240) (o := .cells #[.int .u64 a1_0, .int .u64 a1_1, .int .u64 a1_2, .int .u64 a1_3, .bool a1_4] 26 (0, 0)) (by (with_reducible repeat (first | refine blk_drewN ?_ _ | refine blk_drew ?_ | refine blk_alloc ?_ _)); exact BK5240.out) hb)
  have n2_ := Aside0.mk (blk_below (g := gb5246) (o := .cells #[.int .u64 t5242, .int .u64 t5243, .int .u64 t5244, .int .u64 t5245] 24 (0, 0)) (by (with_reducible repeat (first | refine blk_drewN ?_ _ | refine blk_drew ?_ | refine blk_alloc ?_ _)); exact BK5246.out) hb)
  have n3_ := Aside0.mk (blk_below (g := gb5251) (o := .cells #[.int .u64 t5247, .int .u64 t5248, .int .u64 t5249, .int .u64 t5250] 24 (0, 0)) (by (with_reducible repeat (first | refine blk_drewN ?_ _ | refine blk_drew ?_ | refine blk_alloc ?_ _)); exact BK5251.out) hb)
  have n4_ := Aside0.mk (blk_below (g := gb5259) (o := .cells #[.int .u64 t5253, .int .u64 t5254, .int .u64 t5255, .int .u64 t5256] 24 (0, 0)) (by (with_reducible repeat (first | refine blk_drewN ?_ _ | refine blk_drew ?_ | refine blk_alloc ?_ _)); exact BK5259.out) hb)
  have n5_ := Aside0.mk (blk_below (g := gb5260) (o := .cells #[.string t5257, .bool false] 51 (0, 0)) (by (with_reducible repeat (first | refine blk_drewN ?_ _ | refine blk_drew ?_ | refine blk_alloc ?_ _)); exact BK5260.out) hb)
  have n6_ := Aside0.mk (blk_below (g := gb5267) (o := .cells #[.int .u64 t5261, .int .u64 t5262, .int .u64 t5263, .int .u64 t5264] 24 (0, 0)) (by (with_reducible repeat (first | refine blk_drewN ?_ _ | refine blk_drew ?_ | refine blk_alloc ?_ _)); exact BK5267.out) hb)
  have n7_ := Aside0.mk (blk_below (g := gb5268) (o := .cells #[.string t5265, .bool true] 51 (0, 0)) (by (with_reducible repeat (first | refine blk_drewN ?_ _ | refine blk_drew ?_ | refine blk_alloc ?_ _)); exact BK5268.out) hb)
  have n8_ := Aside0.mk (below_step (by repeat (first | (with_reducible first | exact HB.out | apply below_alloc | apply pw_below_drewN | apply below_drew1 | refine below_set ?_ GE5239.out | refine below_set ?_ GE5240.out | refine below_set ?_ GE5246.out | refine below_set ?_ GE5251.out | refine below_set ?_ GE5259.out | refine below_set ?_ GE5260.out | refine below_set ?_ GE5267.out | refine below_set ?_ GE5268.out) | exact HB.out)) hb)
  clear BK5239
  clear BK5240
  clear BK5246
  clear BK5251
  clear BK5259
  clear BK5260
  clear BK5267
  clear BK5268
  clear HB
  have BK5239 := n0_
  have BK5240 := n1_
  have BK5246 := n2_
  have BK5251 := n3_
  have BK5259 := n4_
  have BK5260 := n5_
  have BK5267 := n6_
  have BK5268 := n7_
  have HB := n8_
  clear n0_ n1_ n2_ n3_ n4_ n5_ n6_ n7_ n8_
  (try clear hb)
  (try clear hb2)
  (try clear hk)
  (try clear hi)
  refine hK.out _ _ ⟨(blk_cell BK5251.out 0).trans rfl, (blk_cell BK5251.out 1).trans rfl, (blk_cell BK5251.out 2).trans rfl, (blk_cell BK5251.out 3).trans rfl, (blk_cell BK5246.out 0).trans rfl, (blk_cell BK5246.out 1).trans rfl, (blk_cell BK5246.out 2).trans rfl, (blk_cell BK5246.out 3).trans rfl, (blk_cell BK5260.out 0).trans rfl, (blk_cell BK5260.out 1).trans rfl, (blk_cell BK5259.out 0).trans rfl, (blk_cell BK5259.out 1).trans rfl, (blk_cell BK5259.out 2).trans rfl, (blk_cell BK5259.out 3).trans rfl, (blk_cell BK5268.out 0).trans rfl, (blk_cell BK5268.out 1).trans rfl⟩ (fun hHeld => ?_)
  clear hK K
  refine norm_ (a' := ?_) ?_ ?_
  rotate_left
  · show Act.put _ (some 92) _ = _
    simp only [Act.put, List.setIfInBounds_toArray, List.set_cons_zero, List.set_cons_succ, i64_w, i32_w]
    rfl
  refine pure_ (i := 42) (N := some 93) (v := ?_) (a' := ?_) #[true, true, true, true, true, true, true, true, true, true, true, true, true, true, true, true, true, true, true, true, true, true, true, true, true, true, true, true, true, true, true, true, true, true, true, true, true, true, true, true, true, true, true, true, true, true, false, false, false] rfl rfl (any_of HT_.out (by kernel_rfl)) (fun _ _ _ h => h) (Or.inl ⟨by rfl, ?_⟩) ?_ ?_
  rotate_left
  · intro w'
    go_simp
    with_reducible rfl
  rotate_left
  · simp only [Act.put, List.setIfInBounds_toArray, List.set_cons_zero, List.set_cons_succ, i64_w, i32_w]
    rfl
  refine pure_ (i := 46) (N := some 97) (v := ?_) (a' := ?_) #[true, true, true, true, true, true, true, true, true, true, true, true, true, true, true, true, true, true, true, true, true, true, true, true, true, true, true, true, true, true, true, true, true, true, true, true, true, true, true, true, true, true, true, true, true, true, true, false, false] rfl rfl (any_of HT_.out (by kernel_rfl)) (fun _ _ _ h => h) (Or.inl ⟨by rfl, ?_⟩) ?_ ?_
  rotate_left
  · intro w'
    go_simp
    with_reducible rfl
  rotate_left
  · simp only [Act.put, List.setIfInBounds_toArray, List.set_cons_zero, List.set_cons_succ, i64_w, i32_w]
    rfl
  refine pure_ (i := 47) (N := some 98) (v := ?_) (a' := ?_) #[true, true, true, true, true, true, true, true, true, true, true, true, true, true, true, true, true, true, true, true, true, true, true, true, true, true, true, true, true, true, true, true, true, true, true, true, true, true, true, true, true, true, true, true, true, true, true, true, false] rfl rfl (any_of HT_.out (by kernel_rfl)) (fun _ _ _ h => h) (Or.inl ⟨by rfl, ?_⟩) ?_ ?_
  rotate_left
  · intro w'
    go_simp
    with_reducible rfl
  rotate_left
  · simp only [Act.put, List.setIfInBounds_toArray, List.set_cons_zero, List.set_cons_succ, i64_w, i32_w]
    rfl
  refine pure_ (i := 48) (N := some 8) (v := ?_) (a' := ?_) #[true, true, true, true, true, true, true, true, true, true, true, true, true, true, true, true, true, true, true, true, true, true, true, true, true, true, true, true, true, true, true, true, true, true, true, true, true, true, true, true, true, true, true, true, true, true, true, true, true] rfl rfl (any_of HT_.out (by kernel_rfl)) (fun _ _ _ h => h) (Or.inl ⟨by rfl, ?_⟩) ?_ ?_
  rotate_left
  · intro w'
    go_simp
    with_reducible rfl
  rotate_left
  · simp only [Act.put, List.setIfInBounds_toArray, List.set_cons_zero, List.set_cons_succ, i64_w, i32_w]
    rfl
  refine done_ (done_of HT_.out (by kernel_rfl)) ?_
  try go_wp2
  go_ret
  exact ⟨by first | rfl | (simp [errW_none, errW_some] <;> rfl) | (simp only [← hji14]; first | rfl | (simp [errW_none, errW_some] <;> rfl)) | (simp [*, errW_none, errW_some] <;> rfl), by repeat (first | (with_reducible first | exact HB.out | apply below_alloc | apply pw_below_drewN | apply below_drew1 | refine below_set ?_ GE5239.out | refine below_set ?_ GE5240.out | refine below_set ?_ GE5246.out | refine below_set ?_ GE5251.out | refine below_set ?_ GE5259.out | refine below_set ?_ GE5260.out | refine below_set ?_ GE5267.out | refine below_set ?_ GE5268.out) | exact HB.out)⟩

end Go.Proofs.YtakhahfegialfaaDoor.Q
