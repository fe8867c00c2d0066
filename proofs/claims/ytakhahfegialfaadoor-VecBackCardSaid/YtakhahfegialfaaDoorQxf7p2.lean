-- Written by this session's own driver (wip/hybrid.py) of the kit's printer; contracts marked FOREIGN are by hand.
import Derived.Test.YtakhahfegialfaaDoorQx0
import Derived.Test.YtakhahfegialfaaDoorQxe24
import Derived.Test.YtakhahfegialfaaDoorQxf20
import Derived.Test.YtakhahfegialfaaDoorQxf28
import Derived.Test.YtakhahfegialfaaDoorQxf41
import Derived.Test.YtakhahfegialfaaDoorQxf33
import Derived.Test.YtakhahfegialfaaDoorQxf10
import Derived.Test.YtakhahfegialfaaDoorQxf11
namespace Go.Proofs.YtakhahfegialfaaDoor.Q
open Go.RowKit Go.Proofs.YtakhahfegialfaaDoorW.PrintWords Go.Proofs.YtakhahfegialfaaDoorW.PrintLast Go.Proofs.YtakhahfegialfaaDoorW.PrintMore
attribute [local go_sem] max2_int min2_int max_two min_two max_three min_three max_four min_four   -- for this text's walks alone
set_option linter.unusedVariables false
set_option linter.unusedSimpArgs false

attribute [local go_sem] ixA24_0 ixA24_1 ixA24_2 ixA24_3   -- for this text's walks alone
attribute [local go_sem high] eqA24
/-! ### tenementlaw06_VecBack_p2: function 7 -/
def tenementlaw06_VecBack_p2.f (k : Nat) (a0_0 : Int) (a0_1 : Int) (a0_2 : Int) (a0_3 : Int) (a0_4 : Bool) (a1_0 : Int) (a1_1 : Int) (a1_2 : Int) (a1_3 : Int) (a1_4 : Bool) (a2 : ByteArray) (a3 : Int) : Option (Bool) := (tenementlaw06_examples.f k).bind fun t5281 => (if t5281 = true then ((tenementlaw06_Vector_vector.f k a0_0 a0_1 a0_2 a0_3 a0_4).bind fun bt5282 => ((tenementlaw06_Vector_vector.f k a1_0 a1_1 a1_2 a1_3 a1_4).bind fun bt5287 => ((vec_Put.f k bt5282.1 bt5282.2.1 bt5282.2.2.1 bt5282.2.2.2).bind fun t5292 => (if t5292.toList = ([] : List UInt8) then (none) else (if t5292.size + a2.size ≤ 9223372036854775807 then ((vec_Get.f k (t5292 ++ a2) false).bind fun bt5293 => (if (t5292.size : Int) = 0 then (none) else (if 0 ≤ (Int.tmod (wrap64 (a3)) (t5292.size : Int)) then (if (Int.tmod (wrap64 (a3)) (t5292.size : Int)) ≤ (t5292.size : Int) then ((vec_Get.f k (t5292.extract 0 ((Int.tmod (wrap64 (a3)) (t5292.size : Int)) : Int).toNat) false).bind fun bt5301 => ((vec_Right.f bt5282.1 bt5282.2.1 bt5282.2.2.1 bt5282.2.2.2).bind fun t5309 => ((vec_Put.f k bt5287.1 bt5287.2.1 bt5287.2.2.1 bt5287.2.2.2).bind fun t5310 => (if t5292.toList = t5310.toList then (none) else (if (bt5282.1 == bt5287.1 && (bt5282.2.1 == bt5287.2.1 && (bt5282.2.2.1 == bt5287.2.2.1 && (bt5282.2.2.2 == bt5287.2.2.2)))) = true then (none) else (if bt5293.2.2.2.2.2 = true then (if t5309 = true then (none) else (if bt5301.2.2.2.2.2 = true then ((BigText.g bt5282.1 bt5282.2.1 bt5282.2.2.1 bt5282.2.2.2).bind fun t5315 => ((BigText.g bt5287.1 bt5287.2.1 bt5287.2.2.1 bt5287.2.2.2).bind fun t5316 => (if t5315.toList = t5316.toList then (none) else (some true)))) else (none))) else (none))))))) else (none)) else (none)))) else (none)))))) else (none))
theorem tenementlaw06_VecBack_p2.mono : ∀ a0 a1 a2 a3 a4 a5 a6 a7 a8 a9 a10 a11 k, LeO (tenementlaw06_VecBack_p2.f k a0 a1 a2 a3 a4 a5 a6 a7 a8 a9 a10 a11) (tenementlaw06_VecBack_p2.f (k + 1) a0 a1 a2 a3 a4 a5 a6 a7 a8 a9 a10 a11) := by
  intro a0 a1 a2 a3 a4 a5 a6 a7 a8 a9 a10 a11 k
  unfold tenementlaw06_VecBack_p2.f
  repeat' first
      | (with_reducible exact tenementlaw06_Vector_vector.mono _ _ _ _ _ _)
      | (with_reducible exact tenementlaw06_examples.mono _)
      | (with_reducible exact vec_Get.mono _ _ _)
      | (with_reducible exact vec_Put.mono _ _ _ _ _)
      | (with_reducible exact LeO.refl _)
      | (with_reducible exact LeO.none _)
      | (with_reducible refine LeO.ite ?_ ?_)
      | (with_reducible refine LeO.bind ?_ (fun _ => ?_))
      | exact tenementlaw06_Vector_vector.mono _ _ _ _ _ _
      | exact tenementlaw06_examples.mono _
      | exact vec_Get.mono _ _ _
      | exact vec_Put.mono _ _ _ _ _
      | exact LeO.none _
      | refine LeO.ite ?_ ?_
      | refine LeO.bind ?_ (fun _ => ?_)
def tenementlaw06_VecBack_p2.T12 : Bool × List (List Nat × List Nat) := (true, [([], []), ([0], [0]), ([1], [1]), ([1], [1]), ([3, 1, 1], [1, 3]), ([2, 4, 1], [1, 2, 4]), ([1], [1]), ([1], [1]), ([6, 7, 1], [1, 6, 7]), ([5, 8, 1], [1, 5, 8]), ([1, 9], [1, 9]), ([10, 4], [10]), ([11], [11]), ([12, 11], [11, 12]), ([11], [11]), ([14, 11], [11, 14]), ([13, 15, 11], [11, 13, 15]), ([11, 16], [11, 16]), ([17, 11], [17]), ([18], [18]), ([19, 18], [18, 19]), ([20, 18, 18], [18, 20]), ([21], [21]), ([21], [21]), ([22, 23, 21], [21, 22, 23]), ([24, 21, 21], [21, 24]), ([25], [25]), ([26, 25], [25, 26]), ([25], [25]), ([27, 28, 25], [25, 27, 28]), ([25, 29, 21], [21, 25, 29]), ([21, 30, 18], [18, 21, 30]), ([18, 31], [18, 31]), ([32, 25], [32]), ([33], [33]), ([34, 33], [33, 34]), ([33, 35], [33, 35]), ([36, 33], [36]), ([37], [37]), ([38, 37, 37], [37, 38]), ([37], [37]), ([40, 39, 37], [37, 40]), ([39, 41, 37], [37, 39, 41]), ([37], [37]), ([37], [37]), ([43, 44, 37], [37, 43, 44]), ([42, 45, 37], [37, 42, 45]), ([37, 46], [37, 46]), ([47, 41, 0, 1, 2, 3, 4, 5, 6, 7, 8, 9, 10, 11, 12, 13, 14, 15, 16, 17, 18, 19, 20, 21, 22, 23, 24, 25, 26, 27, 28, 29, 30, 31, 32, 33, 34, 35, 36, 37, 38, 39, 40, 41, 42, 43, 44, 45, 46, 47], [47])])
def tenementlaw06_VecBack_p2.B12 : List Nat := [0, 1, 3, 3, 11, 31, 3, 3, 195, 511, 1023, 2047, 4095, 8191, 4095, 20479, 65535, 131071, 262143, 524287, 1048575, 2097151, 4194303, 4194303, 16777215, 33554431, 67108863, 134217727, 67108863, 536870911, 1073741823, 2147483647, 4294967295, 8589934591, 17179869183, 34359738367, 68719476735, 137438953471, 274877906943, 549755813887, 274877906943, 2199023255551, 4398046511103, 274877906943, 274877906943, 26663156973567, 70368744177663, 140737488355327, 281474976710655]
theorem tenementlaw06_VecBack_p2.tab12 : rtab .any (opsOf Tryd.f7 12) = tenementlaw06_VecBack_p2.T12 := by kernel_rfl
theorem tenementlaw06_VecBack_p2.bits12 : waitsOk tenementlaw06_VecBack_p2.T12.2 tenementlaw06_VecBack_p2.B12 = true := by kernel_rfl
set_option maxHeartbeats 8000000 in
set_option maxRecDepth 100000 in
theorem tenementlaw06_VecBack_p2.calls (k : Nat) (a0_0 : Int) (a0_1 : Int) (a0_2 : Int) (a0_3 : Int) (a0_4 : Bool) (a1_0 : Int) (a1_1 : Int) (a1_2 : Int) (a1_3 : Int) (a1_4 : Bool) (a2 : ByteArray) (a3 : Int) (r : Bool) (w : World) (HT : BigText.Tab w) (h : tenementlaw06_VecBack_p2.f k a0_0 a0_1 a0_2 a0_3 a0_4 a1_0 a1_1 a1_2 a1_3 a1_4 a2 a3 = some r) :
    Calls Tryd.prog 7 #[.agg #[.int .u64 a0_0, .int .u64 a0_1, .int .u64 a0_2, .int .u64 a0_3, .bool a0_4], .agg #[.int .u64 a1_0, .int .u64 a1_1, .int .u64 a1_2, .int .u64 a1_3, .bool a1_4], .string a2, .int .u8 a3] w fun e w' => e = .returned (.bool r) ∧ Below w.heap.size w w' := by
  have hu26 := Tryd.underlying26
  have hu24 := Tryd.underlying24
  have hu51 := Tryd.underlying51
  have HB := Aside0.mk (Below.refl w.heap.size w)
  have H : ((tenementlaw06_examples.f k).bind fun t5281 => (if t5281 = true then ((tenementlaw06_Vector_vector.f k a0_0 a0_1 a0_2 a0_3 a0_4).bind fun bt5282 => ((tenementlaw06_Vector_vector.f k a1_0 a1_1 a1_2 a1_3 a1_4).bind fun bt5287 => ((vec_Put.f k bt5282.1 bt5282.2.1 bt5282.2.2.1 bt5282.2.2.2).bind fun t5292 => (if t5292.toList = ([] : List UInt8) then (none) else (if t5292.size + a2.size ≤ 9223372036854775807 then ((vec_Get.f k (t5292 ++ a2) false).bind fun bt5293 => (if (t5292.size : Int) = 0 then (none) else (if 0 ≤ (Int.tmod (wrap64 (a3)) (t5292.size : Int)) then (if (Int.tmod (wrap64 (a3)) (t5292.size : Int)) ≤ (t5292.size : Int) then ((vec_Get.f k (t5292.extract 0 ((Int.tmod (wrap64 (a3)) (t5292.size : Int)) : Int).toNat) false).bind fun bt5301 => ((vec_Right.f bt5282.1 bt5282.2.1 bt5282.2.2.1 bt5282.2.2.2).bind fun t5309 => ((vec_Put.f k bt5287.1 bt5287.2.1 bt5287.2.2.1 bt5287.2.2.2).bind fun t5310 => (if t5292.toList = t5310.toList then (none) else (if (bt5282.1 == bt5287.1 && (bt5282.2.1 == bt5287.2.1 && (bt5282.2.2.1 == bt5287.2.2.1 && (bt5282.2.2.2 == bt5287.2.2.2)))) = true then (none) else (if bt5293.2.2.2.2.2 = true then (if t5309 = true then (none) else (if bt5301.2.2.2.2.2 = true then ((BigText.g bt5282.1 bt5282.2.1 bt5282.2.2.1 bt5282.2.2.2).bind fun t5315 => ((BigText.g bt5287.1 bt5287.2.1 bt5287.2.2.1 bt5287.2.2.2).bind fun t5316 => (if t5315.toList = t5316.toList then (none) else (some true)))) else (none))) else (none))))))) else (none)) else (none)))) else (none)))))) else (none))) = some r := h
  clear h
  replace H := Option.bind_eq_some_iff.mp H
  obtain ⟨t5281, A50, H⟩ := H
  replace H : (if t5281 = true then ((tenementlaw06_Vector_vector.f k a0_0 a0_1 a0_2 a0_3 a0_4).bind fun bt5282 => ((tenementlaw06_Vector_vector.f k a1_0 a1_1 a1_2 a1_3 a1_4).bind fun bt5287 => ((vec_Put.f k bt5282.1 bt5282.2.1 bt5282.2.2.1 bt5282.2.2.2).bind fun t5292 => (if t5292.toList = ([] : List UInt8) then (none) else (if t5292.size + a2.size ≤ 9223372036854775807 then ((vec_Get.f k (t5292 ++ a2) false).bind fun bt5293 => (if (t5292.size : Int) = 0 then (none) else (if 0 ≤ (Int.tmod (wrap64 (a3)) (t5292.size : Int)) then (if (Int.tmod (wrap64 (a3)) (t5292.size : Int)) ≤ (t5292.size : Int) then ((vec_Get.f k (t5292.extract 0 ((Int.tmod (wrap64 (a3)) (t5292.size : Int)) : Int).toNat) false).bind fun bt5301 => ((vec_Right.f bt5282.1 bt5282.2.1 bt5282.2.2.1 bt5282.2.2.2).bind fun t5309 => ((vec_Put.f k bt5287.1 bt5287.2.1 bt5287.2.2.1 bt5287.2.2.2).bind fun t5310 => (if t5292.toList = t5310.toList then (none) else (if (bt5282.1 == bt5287.1 && (bt5282.2.1 == bt5287.2.1 && (bt5282.2.2.1 == bt5287.2.2.1 && (bt5282.2.2.2 == bt5287.2.2.2)))) = true then (none) else (if bt5293.2.2.2.2.2 = true then (if t5309 = true then (none) else (if bt5301.2.2.2.2.2 = true then ((BigText.g bt5282.1 bt5282.2.1 bt5282.2.2.1 bt5282.2.2.2).bind fun t5315 => ((BigText.g bt5287.1 bt5287.2.1 bt5287.2.2.1 bt5287.2.2.2).bind fun t5316 => (if t5315.toList = t5316.toList then (none) else (some true)))) else (none))) else (none))))))) else (none)) else (none)))) else (none)))))) else (none)) = some r := H
  have A5 := Aside0.mk A50
  clear A50
  by_cases c6 : t5281 = true
  rotate_left
  · replace c6 := Bool.eq_false_iff.mpr c6
    subst c6
    have H1 : (none) = some r := by rw [if_neg (show ¬ (false = true) by decide)] at H; exact H
    clear H
    have H := H1
    clear H1
    exact absurd H (by simp)
  subst c6
  have H1 : ((tenementlaw06_Vector_vector.f k a0_0 a0_1 a0_2 a0_3 a0_4).bind fun bt5282 => ((tenementlaw06_Vector_vector.f k a1_0 a1_1 a1_2 a1_3 a1_4).bind fun bt5287 => ((vec_Put.f k bt5282.1 bt5282.2.1 bt5282.2.2.1 bt5282.2.2.2).bind fun t5292 => (if t5292.toList = ([] : List UInt8) then (none) else (if t5292.size + a2.size ≤ 9223372036854775807 then ((vec_Get.f k (t5292 ++ a2) false).bind fun bt5293 => (if (t5292.size : Int) = 0 then (none) else (if 0 ≤ (Int.tmod (wrap64 (a3)) (t5292.size : Int)) then (if (Int.tmod (wrap64 (a3)) (t5292.size : Int)) ≤ (t5292.size : Int) then ((vec_Get.f k (t5292.extract 0 ((Int.tmod (wrap64 (a3)) (t5292.size : Int)) : Int).toNat) false).bind fun bt5301 => ((vec_Right.f bt5282.1 bt5282.2.1 bt5282.2.2.1 bt5282.2.2.2).bind fun t5309 => ((vec_Put.f k bt5287.1 bt5287.2.1 bt5287.2.2.1 bt5287.2.2.2).bind fun t5310 => (if t5292.toList = t5310.toList then (none) else (if (bt5282.1 == bt5287.1 && (bt5282.2.1 == bt5287.2.1 && (bt5282.2.2.1 == bt5287.2.2.1 && (bt5282.2.2.2 == bt5287.2.2.2)))) = true then (none) else (if bt5293.2.2.2.2.2 = true then (if t5309 = true then (none) else (if bt5301.2.2.2.2.2 = true then ((BigText.g bt5282.1 bt5282.2.1 bt5282.2.2.1 bt5282.2.2.2).bind fun t5315 => ((BigText.g bt5287.1 bt5287.2.1 bt5287.2.2.1 bt5287.2.2.2).bind fun t5316 => (if t5315.toList = t5316.toList then (none) else (some true)))) else (none))) else (none))))))) else (none)) else (none)))) else (none)))))) = some r := by rw [if_pos rfl] at H; exact H
  clear H
  have H := H1
  clear H1
  replace H := Option.bind_eq_some_iff.mp H
  obtain ⟨⟨t5282, t5283, t5284, t5285⟩, A70, H⟩ := H
  replace H : ((tenementlaw06_Vector_vector.f k a1_0 a1_1 a1_2 a1_3 a1_4).bind fun bt5287 => ((vec_Put.f k t5282 t5283 t5284 t5285).bind fun t5292 => (if t5292.toList = ([] : List UInt8) then (none) else (if t5292.size + a2.size ≤ 9223372036854775807 then ((vec_Get.f k (t5292 ++ a2) false).bind fun bt5293 => (if (t5292.size : Int) = 0 then (none) else (if 0 ≤ (Int.tmod (wrap64 (a3)) (t5292.size : Int)) then (if (Int.tmod (wrap64 (a3)) (t5292.size : Int)) ≤ (t5292.size : Int) then ((vec_Get.f k (t5292.extract 0 ((Int.tmod (wrap64 (a3)) (t5292.size : Int)) : Int).toNat) false).bind fun bt5301 => ((vec_Right.f t5282 t5283 t5284 t5285).bind fun t5309 => ((vec_Put.f k bt5287.1 bt5287.2.1 bt5287.2.2.1 bt5287.2.2.2).bind fun t5310 => (if t5292.toList = t5310.toList then (none) else (if (t5282 == bt5287.1 && (t5283 == bt5287.2.1 && (t5284 == bt5287.2.2.1 && (t5285 == bt5287.2.2.2)))) = true then (none) else (if bt5293.2.2.2.2.2 = true then (if t5309 = true then (none) else (if bt5301.2.2.2.2.2 = true then ((BigText.g t5282 t5283 t5284 t5285).bind fun t5315 => ((BigText.g bt5287.1 bt5287.2.1 bt5287.2.2.1 bt5287.2.2.2).bind fun t5316 => (if t5315.toList = t5316.toList then (none) else (some true)))) else (none))) else (none))))))) else (none)) else (none)))) else (none))))) = some r := H
  have A7 := Aside0.mk A70
  clear A70
  replace H := Option.bind_eq_some_iff.mp H
  obtain ⟨⟨t5287, t5288, t5289, t5290⟩, A80, H⟩ := H
  replace H : ((vec_Put.f k t5282 t5283 t5284 t5285).bind fun t5292 => (if t5292.toList = ([] : List UInt8) then (none) else (if t5292.size + a2.size ≤ 9223372036854775807 then ((vec_Get.f k (t5292 ++ a2) false).bind fun bt5293 => (if (t5292.size : Int) = 0 then (none) else (if 0 ≤ (Int.tmod (wrap64 (a3)) (t5292.size : Int)) then (if (Int.tmod (wrap64 (a3)) (t5292.size : Int)) ≤ (t5292.size : Int) then ((vec_Get.f k (t5292.extract 0 ((Int.tmod (wrap64 (a3)) (t5292.size : Int)) : Int).toNat) false).bind fun bt5301 => ((vec_Right.f t5282 t5283 t5284 t5285).bind fun t5309 => ((vec_Put.f k t5287 t5288 t5289 t5290).bind fun t5310 => (if t5292.toList = t5310.toList then (none) else (if (t5282 == t5287 && (t5283 == t5288 && (t5284 == t5289 && (t5285 == t5290)))) = true then (none) else (if bt5293.2.2.2.2.2 = true then (if t5309 = true then (none) else (if bt5301.2.2.2.2.2 = true then ((BigText.g t5282 t5283 t5284 t5285).bind fun t5315 => ((BigText.g t5287 t5288 t5289 t5290).bind fun t5316 => (if t5315.toList = t5316.toList then (none) else (some true)))) else (none))) else (none))))))) else (none)) else (none)))) else (none)))) = some r := H
  have A8 := Aside0.mk A80
  clear A80
  replace H := Option.bind_eq_some_iff.mp H
  obtain ⟨t5292, A90, H⟩ := H
  replace H : (if t5292.toList = ([] : List UInt8) then (none) else (if t5292.size + a2.size ≤ 9223372036854775807 then ((vec_Get.f k (t5292 ++ a2) false).bind fun bt5293 => (if (t5292.size : Int) = 0 then (none) else (if 0 ≤ (Int.tmod (wrap64 (a3)) (t5292.size : Int)) then (if (Int.tmod (wrap64 (a3)) (t5292.size : Int)) ≤ (t5292.size : Int) then ((vec_Get.f k (t5292.extract 0 ((Int.tmod (wrap64 (a3)) (t5292.size : Int)) : Int).toNat) false).bind fun bt5301 => ((vec_Right.f t5282 t5283 t5284 t5285).bind fun t5309 => ((vec_Put.f k t5287 t5288 t5289 t5290).bind fun t5310 => (if t5292.toList = t5310.toList then (none) else (if (t5282 == t5287 && (t5283 == t5288 && (t5284 == t5289 && (t5285 == t5290)))) = true then (none) else (if bt5293.2.2.2.2.2 = true then (if t5309 = true then (none) else (if bt5301.2.2.2.2.2 = true then ((BigText.g t5282 t5283 t5284 t5285).bind fun t5315 => ((BigText.g t5287 t5288 t5289 t5290).bind fun t5316 => (if t5315.toList = t5316.toList then (none) else (some true)))) else (none))) else (none))))))) else (none)) else (none)))) else (none))) = some r := H
  have A9 := Aside0.mk A90
  clear A90
  by_cases c10 : t5292.toList = ([] : List UInt8)
  · rw [if_pos c10] at H
    exact absurd H (by simp)
  rw [if_neg c10] at H
  have c10b0 : (t5292.toList == ([] : List UInt8)) = false := beq_eq_false_iff_ne.mpr c10
  have c10b1 : (t5292.toList != ([] : List UInt8)) = true := bne_iff_ne.mpr c10
  by_cases c11 : t5292.size + a2.size ≤ 9223372036854775807
  rotate_left
  · rw [if_neg c11] at H
    exact absurd H (by simp)
  rw [if_pos c11] at H
  have c11b0 := eq_true c11
  have c11b1 : decide (t5292.size + a2.size ≤ 9223372036854775807) = true := decide_eq_true c11
  try have c11b2 : (9223372036854775807 < t5292.size + a2.size) = False := eq_false (Nat.not_lt.2 c11)
  replace H := Option.bind_eq_some_iff.mp H
  obtain ⟨⟨t5293, t5294, t5295, t5296, t5297, t5298⟩, A120, H⟩ := H
  replace H : (if (t5292.size : Int) = 0 then (none) else (if 0 ≤ (Int.tmod (wrap64 (a3)) (t5292.size : Int)) then (if (Int.tmod (wrap64 (a3)) (t5292.size : Int)) ≤ (t5292.size : Int) then ((vec_Get.f k (t5292.extract 0 ((Int.tmod (wrap64 (a3)) (t5292.size : Int)) : Int).toNat) false).bind fun bt5301 => ((vec_Right.f t5282 t5283 t5284 t5285).bind fun t5309 => ((vec_Put.f k t5287 t5288 t5289 t5290).bind fun t5310 => (if t5292.toList = t5310.toList then (none) else (if (t5282 == t5287 && (t5283 == t5288 && (t5284 == t5289 && (t5285 == t5290)))) = true then (none) else (if t5298 = true then (if t5309 = true then (none) else (if bt5301.2.2.2.2.2 = true then ((BigText.g t5282 t5283 t5284 t5285).bind fun t5315 => ((BigText.g t5287 t5288 t5289 t5290).bind fun t5316 => (if t5315.toList = t5316.toList then (none) else (some true)))) else (none))) else (none))))))) else (none)) else (none))) = some r := H
  have A12 := Aside0.mk A120
  clear A120
  by_cases c13 : (t5292.size : Int) = 0
  · rw [if_pos c13] at H
    exact absurd H (by simp)
  rw [if_neg c13] at H
  have c13b0 : ((t5292.size : Int) == 0) = false := beq_eq_false_iff_ne.mpr c13
  have c13b1 : ((t5292.size : Int) != 0) = true := bne_iff_ne.mpr c13
  obtain ⟨ji14, hji14⟩ : ∃ j_ : Int, (Int.tmod (wrap64 (a3)) (t5292.size : Int)) = j_ := ⟨_, rfl⟩
  replace H : (if 0 ≤ (ji14) then (if (ji14) ≤ (t5292.size : Int) then ((vec_Get.f k (t5292.extract 0 ((ji14) : Int).toNat) false).bind fun bt5301 => ((vec_Right.f t5282 t5283 t5284 t5285).bind fun t5309 => ((vec_Put.f k t5287 t5288 t5289 t5290).bind fun t5310 => (if t5292.toList = t5310.toList then (none) else (if (t5282 == t5287 && (t5283 == t5288 && (t5284 == t5289 && (t5285 == t5290)))) = true then (none) else (if t5298 = true then (if t5309 = true then (none) else (if bt5301.2.2.2.2.2 = true then ((BigText.g t5282 t5283 t5284 t5285).bind fun t5315 => ((BigText.g t5287 t5288 t5289 t5290).bind fun t5316 => (if t5315.toList = t5316.toList then (none) else (some true)))) else (none))) else (none))))))) else (none)) else (none)) = some r := by first | (rw [hji14] at H; exact H) | (simp only [hji14] at H ⊢; exact H)
  (try rw [hji14] at A5)
  (try rw [hji14] at A7)
  (try rw [hji14] at A8)
  (try rw [hji14] at A9)
  (try rw [hji14] at A12)
  by_cases c15 : 0 ≤ (ji14)
  rotate_left
  · rw [if_neg c15] at H
    exact absurd H (by simp)
  rw [if_pos c15] at H
  have c15b0 := eq_true c15
  have c15b1 : decide (0 ≤ (ji14)) = true := decide_eq_true c15
  clear c15
  by_cases c16 : (ji14) ≤ (t5292.size : Int)
  rotate_left
  · rw [if_neg c16] at H
    exact absurd H (by simp)
  rw [if_pos c16] at H
  have c16b0 := eq_true c16
  have c16b1 : decide ((ji14) ≤ (t5292.size : Int)) = true := decide_eq_true c16
  clear c16
  replace H := Option.bind_eq_some_iff.mp H
  obtain ⟨⟨t5301, t5302, t5303, t5304, t5305, t5306⟩, A170, H⟩ := H
  replace H : ((vec_Right.f t5282 t5283 t5284 t5285).bind fun t5309 => ((vec_Put.f k t5287 t5288 t5289 t5290).bind fun t5310 => (if t5292.toList = t5310.toList then (none) else (if (t5282 == t5287 && (t5283 == t5288 && (t5284 == t5289 && (t5285 == t5290)))) = true then (none) else (if t5298 = true then (if t5309 = true then (none) else (if t5306 = true then ((BigText.g t5282 t5283 t5284 t5285).bind fun t5315 => ((BigText.g t5287 t5288 t5289 t5290).bind fun t5316 => (if t5315.toList = t5316.toList then (none) else (some true)))) else (none))) else (none)))))) = some r := H
  have A17 := Aside0.mk A170
  clear A170
  replace H := Option.bind_eq_some_iff.mp H
  obtain ⟨t5309, A180, H⟩ := H
  replace H : ((vec_Put.f k t5287 t5288 t5289 t5290).bind fun t5310 => (if t5292.toList = t5310.toList then (none) else (if (t5282 == t5287 && (t5283 == t5288 && (t5284 == t5289 && (t5285 == t5290)))) = true then (none) else (if t5298 = true then (if t5309 = true then (none) else (if t5306 = true then ((BigText.g t5282 t5283 t5284 t5285).bind fun t5315 => ((BigText.g t5287 t5288 t5289 t5290).bind fun t5316 => (if t5315.toList = t5316.toList then (none) else (some true)))) else (none))) else (none))))) = some r := H
  have A18 := Aside0.mk A180
  clear A180
  replace H := Option.bind_eq_some_iff.mp H
  obtain ⟨t5310, A190, H⟩ := H
  replace H : (if t5292.toList = t5310.toList then (none) else (if (t5282 == t5287 && (t5283 == t5288 && (t5284 == t5289 && (t5285 == t5290)))) = true then (none) else (if t5298 = true then (if t5309 = true then (none) else (if t5306 = true then ((BigText.g t5282 t5283 t5284 t5285).bind fun t5315 => ((BigText.g t5287 t5288 t5289 t5290).bind fun t5316 => (if t5315.toList = t5316.toList then (none) else (some true)))) else (none))) else (none)))) = some r := H
  have A19 := Aside0.mk A190
  clear A190
  by_cases c20 : t5292.toList = t5310.toList
  · rw [if_pos c20] at H
    exact absurd H (by simp)
  rw [if_neg c20] at H
  have c20b0 : (t5292.toList == t5310.toList) = false := beq_eq_false_iff_ne.mpr c20
  have c20b1 : (t5292.toList != t5310.toList) = true := bne_iff_ne.mpr c20
  by_cases c21 : (t5282 == t5287 && (t5283 == t5288 && (t5284 == t5289 && (t5285 == t5290)))) = true
  · rw [if_pos c21] at H
    exact absurd H (by simp)
  rw [if_neg c21] at H
  have c21b0 : (t5282 == t5287 && (t5283 == t5288 && (t5284 == t5289 && (t5285 == t5290)))) = false := by simpa using c21
  (try (have c21b1 : decide (t5282 = t5287 && (t5283 == t5288 && (t5284 == t5289 && (t5285 == t5290)))) = false := by simpa using c21))
  (try (have c21b2 : (t5282 == t5287 && (t5283 == t5288 && (t5284 == t5289 && (t5285 == t5290)))) = false := by simpa using c21))
  (try (have c21b3 : ¬ (t5282 = t5287 && (t5283 == t5288 && (t5284 == t5289 && (t5285 == t5290)))) := by simpa using c21))
  clear c21
  by_cases c22 : t5298 = true
  rotate_left
  · replace c22 := Bool.eq_false_iff.mpr c22
    subst c22
    have H1 : (none) = some r := by rw [if_neg (show ¬ (false = true) by decide)] at H; exact H
    clear H
    have H := H1
    clear H1
    exact absurd H (by simp)
  subst c22
  have H1 : (if t5309 = true then (none) else (if t5306 = true then ((BigText.g t5282 t5283 t5284 t5285).bind fun t5315 => ((BigText.g t5287 t5288 t5289 t5290).bind fun t5316 => (if t5315.toList = t5316.toList then (none) else (some true)))) else (none))) = some r := by rw [if_pos rfl] at H; exact H
  clear H
  have H := H1
  clear H1
  by_cases c23 : t5309 = true
  · subst c23
    have H1 : (none) = some r := by rw [if_pos rfl] at H; exact H
    clear H
    have H := H1
    clear H1
    exact absurd H (by simp)
  replace c23 := Bool.eq_false_iff.mpr c23
  subst c23
  have H1 : (if t5306 = true then ((BigText.g t5282 t5283 t5284 t5285).bind fun t5315 => ((BigText.g t5287 t5288 t5289 t5290).bind fun t5316 => (if t5315.toList = t5316.toList then (none) else (some true)))) else (none)) = some r := by rw [if_neg (show ¬ (false = true) by decide)] at H; exact H
  clear H
  have H := H1
  clear H1
  by_cases c24 : t5306 = true
  rotate_left
  · replace c24 := Bool.eq_false_iff.mpr c24
    subst c24
    have H1 : (none) = some r := by rw [if_neg (show ¬ (false = true) by decide)] at H; exact H
    clear H
    have H := H1
    clear H1
    exact absurd H (by simp)
  subst c24
  have H1 : ((BigText.g t5282 t5283 t5284 t5285).bind fun t5315 => ((BigText.g t5287 t5288 t5289 t5290).bind fun t5316 => (if t5315.toList = t5316.toList then (none) else (some true)))) = some r := by rw [if_pos rfl] at H; exact H
  clear H
  have H := H1
  clear H1
  replace H := Option.bind_eq_some_iff.mp H
  obtain ⟨t5315, A250, H⟩ := H
  replace H : ((BigText.g t5287 t5288 t5289 t5290).bind fun t5316 => (if t5315.toList = t5316.toList then (none) else (some true))) = some r := H
  have A25 := Aside0.mk A250
  clear A250
  replace H := Option.bind_eq_some_iff.mp H
  obtain ⟨t5316, A260, H⟩ := H
  replace H : (if t5315.toList = t5316.toList then (none) else (some true)) = some r := H
  have A26 := Aside0.mk A260
  clear A260
  by_cases c27 : t5315.toList = t5316.toList
  · rw [if_pos c27] at H
    exact absurd H (by simp)
  rw [if_neg c27] at H
  have c27b0 : (t5315.toList == t5316.toList) = false := beq_eq_false_iff_ne.mpr c27
  have c27b1 : (t5315.toList != t5316.toList) = true := bne_iff_ne.mpr c27
  obtain rfl := Option.some.inj H
  go_enter Tryd.func7, Tryd.ntmps7
  try go_wp2_with (first | ((with_reducible refine gate_dst (N := 4) rfl ?_); refine box_event ?hg (N := 4) ?hd (cs := #[.int .u64 a0_0, .int .u64 a0_1, .int .u64 a0_2, .int .u64 a0_3, .bool a0_4]) (t := 26) ?hr ?_; (case hd => rfl); (case hg => rfl); (case hr => first | (go_simp; done) | (go_simp; rfl)); intro gb5279 hg w28 hbox hb; have n0_ := Aside0.mk (below_step (by repeat (first | (with_reducible first | exact HB.out | apply below_alloc | apply pw_below_drewN | apply below_drew1) | exact HB.out)) hb); have n1_ := Aside0.mk (hbox); have n2_ := Aside0.mk ((by rw [hg]; exact (below_size (by repeat (first | (with_reducible first | exact HB.out | apply below_alloc | apply pw_below_drewN | apply below_drew1) | exact HB.out))) : w.heap.size ≤ gb5279)); have n3_ := Aside0.mk ((by rw [hg]; exact (below_size (by repeat (first | (with_reducible first | exact HB.out | apply below_alloc | apply pw_below_drewN | apply below_drew1) | exact HB.out))) : w.heap.size ≤ gb5279)); clear HB; have HB := n0_; have BK5279 := n1_; have GW5279 := n2_; have GE5279 := n3_; clear n0_ n1_ n2_ n3_; clear hb hbox hg) | ((with_reducible refine gate_dst (N := 5) rfl ?_); refine box_event ?hg (N := 5) ?hd (cs := #[.int .u64 a1_0, .int .u64 a1_1, .int .u64 a1_2, .int .u64 a1_3, .bool a1_4]) (t := 26) ?hr ?_; (case hd => rfl); (case hg => rfl); (case hr => first | (go_simp; done) | (go_simp; rfl)); intro gb5280 hg w29 hbox hb; have n0_ := Aside0.mk (blk_below (g := gb5279) (o := .cells #[.int .u64 a0_0, .int .u64 a0_1, .int .u64 a0_2, .int .u64 a0_3, .bool a0_4] 26 (0, 0)) (by (with_reducible repeat (first | refine blk_drewN ?_ _ | refine blk_drew ?_ | refine blk_alloc ?_ _)); exact BK5279.out) hb); have n1_ := Aside0.mk (below_step (by repeat (first | (with_reducible first | exact HB.out | apply below_alloc | apply pw_below_drewN | apply below_drew1 | refine below_set ?_ GE5279.out) | exact HB.out)) hb); have n2_ := Aside0.mk (hbox); have n3_ := Aside0.mk ((by rw [hg]; exact (below_size (by repeat (first | (with_reducible first | exact HB.out | apply below_alloc | apply pw_below_drewN | apply below_drew1 | refine below_set ?_ GE5279.out) | exact HB.out))) : w.heap.size ≤ gb5280)); have n4_ := Aside0.mk ((by rw [hg]; exact (below_size (by repeat (first | (with_reducible first | exact HB.out | apply below_alloc | apply pw_below_drewN | apply below_drew1 | refine below_set ?_ GE5279.out) | exact HB.out))) : w.heap.size ≤ gb5280)); have n5_ := Aside0.mk ((by rw [hg]; exact Nat.ne_of_lt (blk_lt (g := gb5279) (o := .cells #[.int .u64 a0_0, .int .u64 a0_1, .int .u64 a0_2, .int .u64 a0_3, .bool a0_4] 26 (0, 0)) (by (with_reducible repeat (first | refine blk_drewN ?_ _ | refine blk_drew ?_ | refine blk_alloc ?_ _)); exact BK5279.out)) : gb5279 ≠ gb5280)); have n6_ := Aside0.mk ((by rw [hg]; exact Nat.ne_of_gt (blk_lt (g := gb5279) (o := .cells #[.int .u64 a0_0, .int .u64 a0_1, .int .u64 a0_2, .int .u64 a0_3, .bool a0_4] 26 (0, 0)) (by (with_reducible repeat (first | refine blk_drewN ?_ _ | refine blk_drew ?_ | refine blk_alloc ?_ _)); exact BK5279.out)) : gb5280 ≠ gb5279)); clear BK5279; clear HB; have BK5279 := n0_; have HB := n1_; have BK5280 := n2_; have GW5280 := n3_; have GE5280 := n4_; have NB5279_5280 := n5_; have NB5280_5279 := n6_; clear n0_ n1_ n2_ n3_ n4_ n5_ n6_; clear hb hbox hg) | ((with_reducible refine gate_callee (f := 10) rfl ?_); refine goesL_ (some 18) rfl rfl Tryd.func10 (by kernel_rfl) rfl #[] rfl (by (try simp only [List.map_toArray, List.map_cons, List.map_nil]); first | done | rfl | (simp only [List.length_drop, List.length_take]; rfl)) ?_; (with_reducible refine (tenementlaw06_examples.calls k  true _ A5.out).mono ?_); rintro e w30 ⟨rfl, hb⟩; refine ⟨_, rfl, ?_⟩; have n0_ := Aside0.mk (blk_below (g := gb5279) (o := .cells #[.int .u64 a0_0, .int .u64 a0_1, .int .u64 a0_2, .int .u64 a0_3, .bool a0_4] 26 (0, 0)) (by (with_reducible repeat (first | refine blk_drewN ?_ _ | refine blk_drew ?_ | refine blk_alloc ?_ _)); exact BK5279.out) hb); have n1_ := Aside0.mk (blk_below (g := gb5280) (o := .cells #[.int .u64 a1_0, .int .u64 a1_1, .int .u64 a1_2, .int .u64 a1_3, .bool a1_4] 26 (0, 0)) (by (with_reducible repeat (first | refine blk_drewN ?_ _ | refine blk_drew ?_ | refine blk_alloc ?_ _)); exact BK5280.out) hb); have n2_ := Aside0.mk (below_step (by repeat (first | (with_reducible first | exact HB.out | apply below_alloc | apply pw_below_drewN | apply below_drew1 | refine below_set ?_ GE5279.out | refine below_set ?_ GE5280.out) | exact HB.out)) hb); clear BK5279; clear BK5280; clear HB; have BK5279 := n0_; have BK5280 := n1_; have HB := n2_; clear n0_ n1_ n2_; (try clear hb); (try clear hb2); (try clear hk); (try clear hi); have hnb31 := NB5279_5280.out; have hnc31 := NB5280_5279.out; have hcz32_0 : w30.cell? ⟨gb5279, 0, none⟩ = some (.int .u64 a0_0) := (blk_cell BK5279.out 0).trans rfl; have hcz32_1 : w30.cell? ⟨gb5279, 1, none⟩ = some (.int .u64 a0_1) := (blk_cell BK5279.out 1).trans rfl; have hcz32_2 : w30.cell? ⟨gb5279, 2, none⟩ = some (.int .u64 a0_2) := (blk_cell BK5279.out 2).trans rfl; have hcz32_3 : w30.cell? ⟨gb5279, 3, none⟩ = some (.int .u64 a0_3) := (blk_cell BK5279.out 3).trans rfl; have hcz32_4 : w30.cell? ⟨gb5279, 4, none⟩ = some (.bool a0_4) := (blk_cell BK5279.out 4).trans rfl; have hfz32_0 := blk_frozen BK5279.out 0; have hfz32_1 := blk_frozen BK5279.out 1; have hfz32_2 := blk_frozen BK5279.out 2; have hfz32_3 := blk_frozen BK5279.out 3; have hfz32_4 := blk_frozen BK5279.out 4) | ((with_reducible refine gate_callee (f := 11) rfl ?_); refine goesL_ (some 22) rfl rfl Tryd.func11 (by kernel_rfl) rfl #[.agg #[.int .u64 a0_0, .int .u64 a0_1, .int .u64 a0_2, .int .u64 a0_3, .bool a0_4]] rfl (by (try simp only [List.map_toArray, List.map_cons, List.map_nil]); first | done | rfl | (simp only [List.length_drop, List.length_take]; rfl)) ?_; (with_reducible refine (tenementlaw06_Vector_vector.calls k a0_0 a0_1 a0_2 a0_3 a0_4 t5282 t5283 t5284 t5285 _ A7.out).mono ?_); rintro e w33 ⟨rfl, hb⟩; refine ⟨_, rfl, ?_⟩; have n0_ := Aside0.mk (blk_below (g := gb5279) (o := .cells #[.int .u64 a0_0, .int .u64 a0_1, .int .u64 a0_2, .int .u64 a0_3, .bool a0_4] 26 (0, 0)) (by (with_reducible repeat (first | refine blk_drewN ?_ _ | refine blk_drew ?_ | refine blk_alloc ?_ _)); exact BK5279.out) hb); have n1_ := Aside0.mk (blk_below (g := gb5280) (o := .cells #[.int .u64 a1_0, .int .u64 a1_1, .int .u64 a1_2, .int .u64 a1_3, .bool a1_4] 26 (0, 0)) (by (with_reducible repeat (first | refine blk_drewN ?_ _ | refine blk_drew ?_ | refine blk_alloc ?_ _)); exact BK5280.out) hb); have n2_ := Aside0.mk (below_step (by repeat (first | (with_reducible first | exact HB.out | apply below_alloc | apply pw_below_drewN | apply below_drew1 | refine below_set ?_ GE5279.out | refine below_set ?_ GE5280.out) | exact HB.out)) hb); clear BK5279; clear BK5280; clear HB; have BK5279 := n0_; have BK5280 := n1_; have HB := n2_; clear n0_ n1_ n2_; (try clear hb); (try clear hb2); (try clear hk); (try clear hi)) | ((with_reducible refine gate_dst (N := 10) rfl ?_); refine box_event ?hg (N := 10) ?hd (cs := #[.int .u64 0, .int .u64 0, .int .u64 0, .int .u64 0]) (t := 24) ?hr ?_; (case hd => rfl); (case hg => rfl); (case hr => first | (go_simp; done) | (go_simp; rfl)); intro gb5286 hg w34 hbox hb; have n0_ := Aside0.mk (blk_below (g := gb5279) (o := .cells #[.int .u64 a0_0, .int .u64 a0_1, .int .u64 a0_2, .int .u64 a0_3, .bool a0_4] 26 (0, 0)) (by (with_reducible repeat (first | refine blk_drewN ?_ _ | refine blk_drew ?_ | refine blk_alloc ?_ _)); exact BK5279.out) hb); have n1_ := Aside0.mk (blk_below (g := gb5280) (o := .cells #[.int .u64 a1_0, .int .u64 a1_1, .int .u64 a1_2, .int .u64 a1_3, .bool a1_4] 26 (0, 0)) (by (with_reducible repeat (first | refine blk_drewN ?_ _ | refine blk_drew ?_ | refine blk_alloc ?_ _)); exact BK5280.out) hb); have n2_ := Aside0.mk (below_step (by repeat (first | (with_reducible first | exact HB.out | apply below_alloc | apply pw_below_drewN | apply below_drew1 | refine below_set ?_ GE5279.out | refine below_set ?_ GE5280.out) | exact HB.out)) hb); have n3_ := Aside0.mk (hbox); have n4_ := Aside0.mk ((by rw [hg]; exact (below_size (by repeat (first | (with_reducible first | exact HB.out | apply below_alloc | apply pw_below_drewN | apply below_drew1 | refine below_set ?_ GE5279.out | refine below_set ?_ GE5280.out) | exact HB.out))) : w.heap.size ≤ gb5286)); have n5_ := Aside0.mk ((by rw [hg]; exact (below_size (by repeat (first | (with_reducible first | exact HB.out | apply below_alloc | apply pw_below_drewN | apply below_drew1 | refine below_set ?_ GE5279.out | refine below_set ?_ GE5280.out) | exact HB.out))) : w.heap.size ≤ gb5286)); have n6_ := Aside0.mk ((by rw [hg]; exact Nat.ne_of_lt (blk_lt (g := gb5279) (o := .cells #[.int .u64 a0_0, .int .u64 a0_1, .int .u64 a0_2, .int .u64 a0_3, .bool a0_4] 26 (0, 0)) (by (with_reducible repeat (first | refine blk_drewN ?_ _ | refine blk_drew ?_ | refine blk_alloc ?_ _)); exact BK5279.out)) : gb5279 ≠ gb5286)); have n7_ := Aside0.mk ((by rw [hg]; exact Nat.ne_of_gt (blk_lt (g := gb5279) (o := .cells #[.int .u64 a0_0, .int .u64 a0_1, .int .u64 a0_2, .int .u64 a0_3, .bool a0_4] 26 (0, 0)) (by (with_reducible repeat (first | refine blk_drewN ?_ _ | refine blk_drew ?_ | refine blk_alloc ?_ _)); exact BK5279.out)) : gb5286 ≠ gb5279)); have n8_ := Aside0.mk ((by rw [hg]; exact Nat.ne_of_lt (blk_lt (g := gb5280) (o := .cells #[.int .u64 a1_0, .int .u64 a1_1, .int .u64 a1_2, .int .u64 a1_3, .bool a1_4] 26 (0, 0)) (by (with_reducible repeat (first | refine blk_drewN ?_ _ | refine blk_drew ?_ | refine blk_alloc ?_ _)); exact BK5280.out)) : gb5280 ≠ gb5286)); have n9_ := Aside0.mk ((by rw [hg]; exact Nat.ne_of_gt (blk_lt (g := gb5280) (o := .cells #[.int .u64 a1_0, .int .u64 a1_1, .int .u64 a1_2, .int .u64 a1_3, .bool a1_4] 26 (0, 0)) (by (with_reducible repeat (first | refine blk_drewN ?_ _ | refine blk_drew ?_ | refine blk_alloc ?_ _)); exact BK5280.out)) : gb5286 ≠ gb5280)); clear BK5279; clear BK5280; clear HB; have BK5279 := n0_; have BK5280 := n1_; have HB := n2_; have BK5286 := n3_; have GW5286 := n4_; have GE5286 := n5_; have NB5279_5286 := n6_; have NB5286_5279 := n7_; have NB5280_5286 := n8_; have NB5286_5280 := n9_; clear n0_ n1_ n2_ n3_ n4_ n5_ n6_ n7_ n8_ n9_; clear hb hbox hg; have hnb35 := NB5286_5279.out; have hnc35 := NB5279_5286.out; have hnb36 := NB5286_5280.out; have hnc36 := NB5280_5286.out; have hcz37_0 : w34.cell? ⟨gb5286, 0, none⟩ = some (.int .u64 0) := (blk_cell BK5286.out 0).trans rfl; have hcz37_1 : w34.cell? ⟨gb5286, 1, none⟩ = some (.int .u64 0) := (blk_cell BK5286.out 1).trans rfl; have hcz37_2 : w34.cell? ⟨gb5286, 2, none⟩ = some (.int .u64 0) := (blk_cell BK5286.out 2).trans rfl; have hcz37_3 : w34.cell? ⟨gb5286, 3, none⟩ = some (.int .u64 0) := (blk_cell BK5286.out 3).trans rfl; have hfz37_0 := blk_frozen BK5286.out 0; have hfz37_1 := blk_frozen BK5286.out 1; have hfz37_2 := blk_frozen BK5286.out 2; have hfz37_3 := blk_frozen BK5286.out 3; have hcz38_0 : w34.cell? ⟨gb5280, 0, none⟩ = some (.int .u64 a1_0) := (blk_cell BK5280.out 0).trans rfl; have hcz38_1 : w34.cell? ⟨gb5280, 1, none⟩ = some (.int .u64 a1_1) := (blk_cell BK5280.out 1).trans rfl; have hcz38_2 : w34.cell? ⟨gb5280, 2, none⟩ = some (.int .u64 a1_2) := (blk_cell BK5280.out 2).trans rfl; have hcz38_3 : w34.cell? ⟨gb5280, 3, none⟩ = some (.int .u64 a1_3) := (blk_cell BK5280.out 3).trans rfl; have hcz38_4 : w34.cell? ⟨gb5280, 4, none⟩ = some (.bool a1_4) := (blk_cell BK5280.out 4).trans rfl; have hfz38_0 := blk_frozen BK5280.out 0; have hfz38_1 := blk_frozen BK5280.out 1; have hfz38_2 := blk_frozen BK5280.out 2; have hfz38_3 := blk_frozen BK5280.out 3; have hfz38_4 := blk_frozen BK5280.out 4) | ((with_reducible refine gate_callee (f := 11) rfl ?_); refine goesL_ (some 24) rfl rfl Tryd.func11 (by kernel_rfl) rfl #[.agg #[.int .u64 a1_0, .int .u64 a1_1, .int .u64 a1_2, .int .u64 a1_3, .bool a1_4]] rfl (by (try simp only [List.map_toArray, List.map_cons, List.map_nil]); first | done | rfl | (simp only [List.length_drop, List.length_take]; rfl)) ?_; (with_reducible refine (tenementlaw06_Vector_vector.calls k a1_0 a1_1 a1_2 a1_3 a1_4 t5287 t5288 t5289 t5290 _ A8.out).mono ?_); rintro e w39 ⟨rfl, hb⟩; refine ⟨_, rfl, ?_⟩; have n0_ := Aside0.mk (blk_below (g := gb5279) (o := .cells #[.int .u64 a0_0, .int .u64 a0_1, .int .u64 a0_2, .int .u64 a0_3, .bool a0_4] 26 (0, 0)) (by (repeat (first | (with_reducible first | refine blk_drewN ?_ _ | refine blk_drew ?_ | refine blk_alloc ?_ _) | refine blk_far ?_ NB5279_5286.out _)); exact BK5279.out) hb); have n1_ := Aside0.mk (blk_below (g := gb5280) (o := .cells #[.int .u64 a1_0, .int .u64 a1_1, .int .u64 a1_2, .int .u64 a1_3, .bool a1_4] 26 (0, 0)) (by (repeat (first | (with_reducible first | refine blk_drewN ?_ _ | refine blk_drew ?_ | refine blk_alloc ?_ _) | refine blk_far ?_ NB5280_5286.out _)); exact BK5280.out) hb); have n2_ := Aside0.mk (blk_below (g := gb5286) (o := .cells #[.int .u64 t5282, .int .u64 t5283, .int .u64 t5284, .int .u64 t5285] 24 (0, 0)) (by (with_reducible repeat (first | refine blk_drewN ?_ _ | refine blk_drew ?_ | refine blk_alloc ?_ _)); refine blk_put (cs := #[.int .u64 t5282, .int .u64 t5283, .int .u64 t5284, .int .u64 0]) ?_ 3 _ rfl; (with_reducible repeat (first | refine blk_drewN ?_ _ | refine blk_drew ?_ | refine blk_alloc ?_ _)); refine blk_put (cs := #[.int .u64 t5282, .int .u64 t5283, .int .u64 0, .int .u64 0]) ?_ 2 _ rfl; (with_reducible repeat (first | refine blk_drewN ?_ _ | refine blk_drew ?_ | refine blk_alloc ?_ _)); refine blk_put (cs := #[.int .u64 t5282, .int .u64 0, .int .u64 0, .int .u64 0]) ?_ 1 _ rfl; (with_reducible repeat (first | refine blk_drewN ?_ _ | refine blk_drew ?_ | refine blk_alloc ?_ _)); refine blk_put (cs := #[.int .u64 0, .int .u64 0, .int .u64 0, .int .u64 0]) ?_ 0 _ rfl; (with_reducible repeat (first | refine blk_drewN ?_ _ | refine blk_drew ?_ | refine blk_alloc ?_ _)); exact BK5286.out) hb); have n3_ := Aside0.mk (below_step (by repeat (first | (with_reducible first | exact HB.out | apply below_alloc | apply pw_below_drewN | apply below_drew1 | refine below_set ?_ GE5279.out | refine below_set ?_ GE5280.out | refine below_set ?_ GE5286.out) | exact HB.out)) hb); clear BK5279; clear BK5280; clear BK5286; clear HB; have BK5279 := n0_; have BK5280 := n1_; have BK5286 := n2_; have HB := n3_; clear n0_ n1_ n2_ n3_; (try clear hb); (try clear hb2); (try clear hk); (try clear hi)) | ((with_reducible refine gate_dst (N := 11) rfl ?_); refine box_event ?hg (N := 11) ?hd (cs := #[.int .u64 0, .int .u64 0, .int .u64 0, .int .u64 0]) (t := 24) ?hr ?_; (case hd => rfl); (case hg => rfl); (case hr => first | (go_simp; done) | (go_simp; rfl)); intro gb5291 hg w40 hbox hb; have n0_ := Aside0.mk (blk_below (g := gb5279) (o := .cells #[.int .u64 a0_0, .int .u64 a0_1, .int .u64 a0_2, .int .u64 a0_3, .bool a0_4] 26 (0, 0)) (by (with_reducible repeat (first | refine blk_drewN ?_ _ | refine blk_drew ?_ | refine blk_alloc ?_ _)); exact BK5279.out) hb); have n1_ := Aside0.mk (blk_below (g := gb5280) (o := .cells #[.int .u64 a1_0, .int .u64 a1_1, .int .u64 a1_2, .int .u64 a1_3, .bool a1_4] 26 (0, 0)) (by (with_reducible repeat (first | refine blk_drewN ?_ _ | refine blk_drew ?_ | refine blk_alloc ?_ _)); exact BK5280.out) hb); have n2_ := Aside0.mk (blk_below (g := gb5286) (o := .cells #[.int .u64 t5282, .int .u64 t5283, .int .u64 t5284, .int .u64 t5285] 24 (0, 0)) (by (with_reducible repeat (first | refine blk_drewN ?_ _ | refine blk_drew ?_ | refine blk_alloc ?_ _)); exact BK5286.out) hb); have n3_ := Aside0.mk (below_step (by repeat (first | (with_reducible first | exact HB.out | apply below_alloc | apply pw_below_drewN | apply below_drew1 | refine below_set ?_ GE5279.out | refine below_set ?_ GE5280.out | refine below_set ?_ GE5286.out) | exact HB.out)) hb); have n4_ := Aside0.mk (hbox); have n5_ := Aside0.mk ((by rw [hg]; exact (below_size (by repeat (first | (with_reducible first | exact HB.out | apply below_alloc | apply pw_below_drewN | apply below_drew1 | refine below_set ?_ GE5279.out | refine below_set ?_ GE5280.out | refine below_set ?_ GE5286.out) | exact HB.out))) : w.heap.size ≤ gb5291)); have n6_ := Aside0.mk ((by rw [hg]; exact (below_size (by repeat (first | (with_reducible first | exact HB.out | apply below_alloc | apply pw_below_drewN | apply below_drew1 | refine below_set ?_ GE5279.out | refine below_set ?_ GE5280.out | refine below_set ?_ GE5286.out) | exact HB.out))) : w.heap.size ≤ gb5291)); have n7_ := Aside0.mk ((by rw [hg]; exact Nat.ne_of_lt (blk_lt (g := gb5279) (o := .cells #[.int .u64 a0_0, .int .u64 a0_1, .int .u64 a0_2, .int .u64 a0_3, .bool a0_4] 26 (0, 0)) (by (with_reducible repeat (first | refine blk_drewN ?_ _ | refine blk_drew ?_ | refine blk_alloc ?_ _)); exact BK5279.out)) : gb5279 ≠ gb5291)); have n8_ := Aside0.mk ((by rw [hg]; exact Nat.ne_of_gt (blk_lt (g := gb5279) (o := .cells #[.int .u64 a0_0, .int .u64 a0_1, .int .u64 a0_2, .int .u64 a0_3, .bool a0_4] 26 (0, 0)) (by (with_reducible repeat (first | refine blk_drewN ?_ _ | refine blk_drew ?_ | refine blk_alloc ?_ _)); exact BK5279.out)) : gb5291 ≠ gb5279)); have n9_ := Aside0.mk ((by rw [hg]; exact Nat.ne_of_lt (blk_lt (g := gb5280) (o := .cells #[.int .u64 a1_0, .int .u64 a1_1, .int .u64 a1_2, .int .u64 a1_3, .bool a1_4] 26 (0, 0)) (by (with_reducible repeat (first | refine blk_drewN ?_ _ | refine blk_drew ?_ | refine blk_alloc ?_ _)); exact BK5280.out)) : gb5280 ≠ gb5291)); have n10_ := Aside0.mk ((by rw [hg]; exact Nat.ne_of_gt (blk_lt (g := gb5280) (o := .cells #[.int .u64 a1_0, .int .u64 a1_1, .int .u64 a1_2, .int .u64 a1_3, .bool a1_4] 26 (0, 0)) (by (with_reducible repeat (first | refine blk_drewN ?_ _ | refine blk_drew ?_ | refine blk_alloc ?_ _)); exact BK5280.out)) : gb5291 ≠ gb5280)); have n11_ := Aside0.mk ((by rw [hg]; exact Nat.ne_of_lt (blk_lt (g := gb5286) (o := .cells #[.int .u64 t5282, .int .u64 t5283, .int .u64 t5284, .int .u64 t5285] 24 (0, 0)) (by (with_reducible repeat (first | refine blk_drewN ?_ _ | refine blk_drew ?_ | refine blk_alloc ?_ _)); exact BK5286.out)) : gb5286 ≠ gb5291)); have n12_ := Aside0.mk ((by rw [hg]; exact Nat.ne_of_gt (blk_lt (g := gb5286) (o := .cells #[.int .u64 t5282, .int .u64 t5283, .int .u64 t5284, .int .u64 t5285] 24 (0, 0)) (by (with_reducible repeat (first | refine blk_drewN ?_ _ | refine blk_drew ?_ | refine blk_alloc ?_ _)); exact BK5286.out)) : gb5291 ≠ gb5286)); clear BK5279; clear BK5280; clear BK5286; clear HB; have BK5279 := n0_; have BK5280 := n1_; have BK5286 := n2_; have HB := n3_; have BK5291 := n4_; have GW5291 := n5_; have GE5291 := n6_; have NB5279_5291 := n7_; have NB5291_5279 := n8_; have NB5280_5291 := n9_; have NB5291_5280 := n10_; have NB5286_5291 := n11_; have NB5291_5286 := n12_; clear n0_ n1_ n2_ n3_ n4_ n5_ n6_ n7_ n8_ n9_ n10_ n11_ n12_; clear hb hbox hg; have hnb41 := NB5291_5279.out; have hnc41 := NB5279_5291.out; have hnb42 := NB5291_5280.out; have hnc42 := NB5280_5291.out; have hnb43 := NB5291_5286.out; have hnc43 := NB5286_5291.out; have hcz44_0 : w40.cell? ⟨gb5291, 0, none⟩ = some (.int .u64 0) := (blk_cell BK5291.out 0).trans rfl; have hcz44_1 : w40.cell? ⟨gb5291, 1, none⟩ = some (.int .u64 0) := (blk_cell BK5291.out 1).trans rfl; have hcz44_2 : w40.cell? ⟨gb5291, 2, none⟩ = some (.int .u64 0) := (blk_cell BK5291.out 2).trans rfl; have hcz44_3 : w40.cell? ⟨gb5291, 3, none⟩ = some (.int .u64 0) := (blk_cell BK5291.out 3).trans rfl; have hfz44_0 := blk_frozen BK5291.out 0; have hfz44_1 := blk_frozen BK5291.out 1; have hfz44_2 := blk_frozen BK5291.out 2; have hfz44_3 := blk_frozen BK5291.out 3; have hcz45_0 : w40.cell? ⟨gb5286, 0, none⟩ = some (.int .u64 t5282) := (blk_cell BK5286.out 0).trans rfl; have hcz45_1 : w40.cell? ⟨gb5286, 1, none⟩ = some (.int .u64 t5283) := (blk_cell BK5286.out 1).trans rfl; have hcz45_2 : w40.cell? ⟨gb5286, 2, none⟩ = some (.int .u64 t5284) := (blk_cell BK5286.out 2).trans rfl; have hcz45_3 : w40.cell? ⟨gb5286, 3, none⟩ = some (.int .u64 t5285) := (blk_cell BK5286.out 3).trans rfl; have hfz45_0 := blk_frozen BK5286.out 0; have hfz45_1 := blk_frozen BK5286.out 1; have hfz45_2 := blk_frozen BK5286.out 2; have hfz45_3 := blk_frozen BK5286.out 3) | ((with_reducible refine gate_callee (f := 28) rfl ?_); refine goesL_ (some 26) rfl rfl Tryd.func28 (by kernel_rfl) rfl #[.agg #[.int .u64 t5282, .int .u64 t5283, .int .u64 t5284, .int .u64 t5285]] rfl (by (try simp only [List.map_toArray, List.map_cons, List.map_nil]); first | done | rfl | (simp only [List.length_drop, List.length_take]; rfl)) ?_; (with_reducible refine (vec_Put.calls k t5282 t5283 t5284 t5285 t5292 _ A9.out).mono ?_); rintro e w46 ⟨rfl, hb⟩; refine ⟨_, rfl, ?_⟩; have n0_ := Aside0.mk (blk_below (g := gb5279) (o := .cells #[.int .u64 a0_0, .int .u64 a0_1, .int .u64 a0_2, .int .u64 a0_3, .bool a0_4] 26 (0, 0)) (by (repeat (first | (with_reducible first | refine blk_drewN ?_ _ | refine blk_drew ?_ | refine blk_alloc ?_ _) | refine blk_far ?_ NB5279_5291.out _)); exact BK5279.out) hb); have n1_ := Aside0.mk (blk_below (g := gb5280) (o := .cells #[.int .u64 a1_0, .int .u64 a1_1, .int .u64 a1_2, .int .u64 a1_3, .bool a1_4] 26 (0, 0)) (by (repeat (first | (with_reducible first | refine blk_drewN ?_ _ | refine blk_drew ?_ | refine blk_alloc ?_ _) | refine blk_far ?_ NB5280_5291.out _)); exact BK5280.out) hb); have n2_ := Aside0.mk (blk_below (g := gb5286) (o := .cells #[.int .u64 t5282, .int .u64 t5283, .int .u64 t5284, .int .u64 t5285] 24 (0, 0)) (by (repeat (first | (with_reducible first | refine blk_drewN ?_ _ | refine blk_drew ?_ | refine blk_alloc ?_ _) | refine blk_far ?_ NB5286_5291.out _)); exact BK5286.out) hb); have n3_ := Aside0.mk (blk_below (g := gb5291) (o := .cells #[.int .u64 t5287, .int .u64 t5288, .int .u64 t5289, .int .u64 t5290] 24 (0, 0)) (by (with_reducible repeat (first | refine blk_drewN ?_ _ | refine blk_drew ?_ | refine blk_alloc ?_ _)); refine blk_put (cs := #[.int .u64 t5287, .int .u64 t5288, .int .u64 t5289, .int .u64 0]) ?_ 3 _ rfl; (with_reducible repeat (first | refine blk_drewN ?_ _ | refine blk_drew ?_ | refine blk_alloc ?_ _)); refine blk_put (cs := #[.int .u64 t5287, .int .u64 t5288, .int .u64 0, .int .u64 0]) ?_ 2 _ rfl; (with_reducible repeat (first | refine blk_drewN ?_ _ | refine blk_drew ?_ | refine blk_alloc ?_ _)); refine blk_put (cs := #[.int .u64 t5287, .int .u64 0, .int .u64 0, .int .u64 0]) ?_ 1 _ rfl; (with_reducible repeat (first | refine blk_drewN ?_ _ | refine blk_drew ?_ | refine blk_alloc ?_ _)); refine blk_put (cs := #[.int .u64 0, .int .u64 0, .int .u64 0, .int .u64 0]) ?_ 0 _ rfl; (with_reducible repeat (first | refine blk_drewN ?_ _ | refine blk_drew ?_ | refine blk_alloc ?_ _)); exact BK5291.out) hb); have n4_ := Aside0.mk (below_step (by repeat (first | (with_reducible first | exact HB.out | apply below_alloc | apply pw_below_drewN | apply below_drew1 | refine below_set ?_ GE5279.out | refine below_set ?_ GE5280.out | refine below_set ?_ GE5286.out | refine below_set ?_ GE5291.out) | exact HB.out)) hb); clear BK5279; clear BK5280; clear BK5286; clear BK5291; clear HB; have BK5279 := n0_; have BK5280 := n1_; have BK5286 := n2_; have BK5291 := n3_; have HB := n4_; clear n0_ n1_ n2_ n3_ n4_; (try clear hb); (try clear hb2); (try clear hk); (try clear hi)) | ((with_reducible refine gate_callee (f := 33) rfl ?_); refine goesL_ (some 34) rfl rfl Tryd.func33 (by kernel_rfl) rfl #[.agg #[.string (t5292 ++ a2), .bool false]] rfl (by (try simp only [List.map_toArray, List.map_cons, List.map_nil]); first | done | rfl | (simp only [List.length_drop, List.length_take]; rfl)) ?_; (with_reducible refine (vec_Get.calls k (t5292 ++ a2) false t5293 t5294 t5295 t5296 t5297 true _ A12.out).mono ?_); rintro e w47 ⟨rfl, hb⟩; refine ⟨_, rfl, ?_⟩; have n0_ := Aside0.mk (blk_below (g := gb5279) (o := .cells #[.int .u64 a0_0, .int .u64 a0_1, .int .u64 a0_2, .int .u64 a0_3, .bool a0_4] 26 (0, 0)) (by (with_reducible repeat (first | refine blk_drewN ?_ _ | refine blk_drew ?_ | refine blk_alloc ?_ _)); exact BK5279.out) hb); have n1_ := Aside0.mk (blk_below (g := gb5280) (o := .cells #[.int .u64 a1_0, .int .u64 a1_1, .int .u64 a1_2, .int .u64 a1_3, .bool a1_4] 26 (0, 0)) (by (with_reducible repeat (first | refine blk_drewN ?_ _ | refine blk_drew ?_ | refine blk_alloc ?_ _)); exact BK5280.out) hb); have n2_ := Aside0.mk (blk_below (g := gb5286) (o := .cells #[.int .u64 t5282, .int .u64 t5283, .int .u64 t5284, .int .u64 t5285] 24 (0, 0)) (by (with_reducible repeat (first | refine blk_drewN ?_ _ | refine blk_drew ?_ | refine blk_alloc ?_ _)); exact BK5286.out) hb); have n3_ := Aside0.mk (blk_below (g := gb5291) (o := .cells #[.int .u64 t5287, .int .u64 t5288, .int .u64 t5289, .int .u64 t5290] 24 (0, 0)) (by (with_reducible repeat (first | refine blk_drewN ?_ _ | refine blk_drew ?_ | refine blk_alloc ?_ _)); exact BK5291.out) hb); have n4_ := Aside0.mk (below_step (by repeat (first | (with_reducible first | exact HB.out | apply below_alloc | apply pw_below_drewN | apply below_drew1 | refine below_set ?_ GE5279.out | refine below_set ?_ GE5280.out | refine below_set ?_ GE5286.out | refine below_set ?_ GE5291.out) | exact HB.out)) hb); clear BK5279; clear BK5280; clear BK5286; clear BK5291; clear HB; have BK5279 := n0_; have BK5280 := n1_; have BK5286 := n2_; have BK5291 := n3_; have HB := n4_; clear n0_ n1_ n2_ n3_ n4_; (try clear hb); (try clear hb2); (try clear hk); (try clear hi)) | ((with_reducible refine gate_dst (N := 13) rfl ?_); refine box_event ?hg (N := 13) ?hd (cs := #[.int .u64 0, .int .u64 0, .int .u64 0, .int .u64 0]) (t := 24) ?hr ?_; (case hd => rfl); (case hg => rfl); (case hr => first | (go_simp; done) | (go_simp; rfl)); intro gb5299 hg w48 hbox hb; have n0_ := Aside0.mk (blk_below (g := gb5279) (o := .cells #[.int .u64 a0_0, .int .u64 a0_1, .int .u64 a0_2, .int .u64 a0_3, .bool a0_4] 26 (0, 0)) (by (with_reducible repeat (first | refine blk_drewN ?_ _ | refine blk_drew ?_ | refine blk_alloc ?_ _)); exact BK5279.out) hb); have n1_ := Aside0.mk (blk_below (g := gb5280) (o := .cells #[.int .u64 a1_0, .int .u64 a1_1, .int .u64 a1_2, .int .u64 a1_3, .bool a1_4] 26 (0, 0)) (by (with_reducible repeat (first | refine blk_drewN ?_ _ | refine blk_drew ?_ | refine blk_alloc ?_ _)); exact BK5280.out) hb); have n2_ := Aside0.mk (blk_below (g := gb5286) (o := .cells #[.int .u64 t5282, .int .u64 t5283, .int .u64 t5284, .int .u64 t5285] 24 (0, 0)) (by (with_reducible repeat (first | refine blk_drewN ?_ _ | refine blk_drew ?_ | refine blk_alloc ?_ _)); exact BK5286.out) hb); have n3_ := Aside0.mk (blk_below (g := gb5291) (o := .cells #[.int .u64 t5287, .int .u64 t5288, .int .u64 t5289, .int .u64 t5290] 24 (0, 0)) (by (with_reducible repeat (first | refine blk_drewN ?_ _ | refine blk_drew ?_ | refine blk_alloc ?_ _)); exact BK5291.out) hb); have n4_ := Aside0.mk (below_step (by repeat (first | (with_reducible first | exact HB.out | apply below_alloc | apply pw_below_drewN | apply below_drew1 | refine below_set ?_ GE5279.out | refine below_set ?_ GE5280.out | refine below_set ?_ GE5286.out | refine below_set ?_ GE5291.out) | exact HB.out)) hb); have n5_ := Aside0.mk (hbox); have n6_ := Aside0.mk ((by rw [hg]; exact (below_size (by repeat (first | (with_reducible first | exact HB.out | apply below_alloc | apply pw_below_drewN | apply below_drew1 | refine below_set ?_ GE5279.out | refine below_set ?_ GE5280.out | refine below_set ?_ GE5286.out | refine below_set ?_ GE5291.out) | exact HB.out))) : w.heap.size ≤ gb5299)); have n7_ := Aside0.mk ((by rw [hg]; exact (below_size (by repeat (first | (with_reducible first | exact HB.out | apply below_alloc | apply pw_below_drewN | apply below_drew1 | refine below_set ?_ GE5279.out | refine below_set ?_ GE5280.out | refine below_set ?_ GE5286.out | refine below_set ?_ GE5291.out) | exact HB.out))) : w.heap.size ≤ gb5299)); have n8_ := Aside0.mk ((by rw [hg]; exact Nat.ne_of_lt (blk_lt (g := gb5279) (o := .cells #[.int .u64 a0_0, .int .u64 a0_1, .int .u64 a0_2, .int .u64 a0_3, .bool a0_4] 26 (0, 0)) (by (with_reducible repeat (first | refine blk_drewN ?_ _ | refine blk_drew ?_ | refine blk_alloc ?_ _)); exact BK5279.out)) : gb5279 ≠ gb5299)); have n9_ := Aside0.mk ((by rw [hg]; exact Nat.ne_of_gt (blk_lt (g := gb5279) (o := .cells #[.int .u64 a0_0, .int .u64 a0_1, .int .u64 a0_2, .int .u64 a0_3, .bool a0_4] 26 (0, 0)) (by (with_reducible repeat (first | refine blk_drewN ?_ _ | refine blk_drew ?_ | refine blk_alloc ?_ _)); exact BK5279.out)) : gb5299 ≠ gb5279)); have n10_ := Aside0.mk ((by rw [hg]; exact Nat.ne_of_lt (blk_lt (g := gb5280) (o := .cells #[.int .u64 a1_0, .int .u64 a1_1, .int .u64 a1_2, .int .u64 a1_3, .bool a1_4] 26 (0, 0)) (by (with_reducible repeat (first | refine blk_drewN ?_ _ | refine blk_drew ?_ | refine blk_alloc ?_ _)); exact BK5280.out)) : gb5280 ≠ gb5299)); have n11_ := Aside0.mk ((by rw [hg]; exact Nat.ne_of_gt (blk_lt (g := gb5280) (o := .cells #[.int .u64 a1_0, .int .u64 a1_1, .int .u64 a1_2, .int .u64 a1_3, .bool a1_4] 26 (0, 0)) (by (with_reducible repeat (first | refine blk_drewN ?_ _ | refine blk_drew ?_ | refine blk_alloc ?_ _)); exact BK5280.out)) : gb5299 ≠ gb5280)); have n12_ := Aside0.mk ((by rw [hg]; exact Nat.ne_of_lt (blk_lt (g := gb5286) (o := .cells #[.int .u64 t5282, .int .u64 t5283, .int .u64 t5284, .int .u64 t5285] 24 (0, 0)) (by (with_reducible repeat (first | refine blk_drewN ?_ _ | refine blk_drew ?_ | refine blk_alloc ?_ _)); exact BK5286.out)) : gb5286 ≠ gb5299)); have n13_ := Aside0.mk ((by rw [hg]; exact Nat.ne_of_gt (blk_lt (g := gb5286) (o := .cells #[.int .u64 t5282, .int .u64 t5283, .int .u64 t5284, .int .u64 t5285] 24 (0, 0)) (by (with_reducible repeat (first | refine blk_drewN ?_ _ | refine blk_drew ?_ | refine blk_alloc ?_ _)); exact BK5286.out)) : gb5299 ≠ gb5286)); have n14_ := Aside0.mk ((by rw [hg]; exact Nat.ne_of_lt (blk_lt (g := gb5291) (o := .cells #[.int .u64 t5287, .int .u64 t5288, .int .u64 t5289, .int .u64 t5290] 24 (0, 0)) (by (with_reducible repeat (first | refine blk_drewN ?_ _ | refine blk_drew ?_ | refine blk_alloc ?_ _)); exact BK5291.out)) : gb5291 ≠ gb5299)); have n15_ := Aside0.mk ((by rw [hg]; exact Nat.ne_of_gt (blk_lt (g := gb5291) (o := .cells #[.int .u64 t5287, .int .u64 t5288, .int .u64 t5289, .int .u64 t5290] 24 (0, 0)) (by (with_reducible repeat (first | refine blk_drewN ?_ _ | refine blk_drew ?_ | refine blk_alloc ?_ _)); exact BK5291.out)) : gb5299 ≠ gb5291)); clear BK5279; clear BK5280; clear BK5286; clear BK5291; clear HB; have BK5279 := n0_; have BK5280 := n1_; have BK5286 := n2_; have BK5291 := n3_; have HB := n4_; have BK5299 := n5_; have GW5299 := n6_; have GE5299 := n7_; have NB5279_5299 := n8_; have NB5299_5279 := n9_; have NB5280_5299 := n10_; have NB5299_5280 := n11_; have NB5286_5299 := n12_; have NB5299_5286 := n13_; have NB5291_5299 := n14_; have NB5299_5291 := n15_; clear n0_ n1_ n2_ n3_ n4_ n5_ n6_ n7_ n8_ n9_ n10_ n11_ n12_ n13_ n14_ n15_; clear hb hbox hg) | ((with_reducible refine gate_dst (N := 14) rfl ?_); refine box_event ?hg (N := 14) ?hd (cs := #[.string (⟨#[]⟩ : ByteArray), .bool false]) (t := 51) ?hr ?_; (case hd => rfl); (case hg => rfl); (case hr => first | (go_simp; done) | (go_simp; rfl)); intro gb5300 hg w49 hbox hb; have n0_ := Aside0.mk (blk_below (g := gb5279) (o := .cells #[.int .u64 a0_0, .int .u64 a0_1, .int .u64 a0_2, .int .u64 a0_3, .bool a0_4] 26 (0, 0)) (by (with_reducible repeat (first | refine blk_drewN ?_ _ | refine blk_drew ?_ | refine blk_alloc ?_ _)); exact BK5279.out) hb); have n1_ := Aside0.mk (blk_below (g := gb5280) (o := .cells #[.int .u64 a1_0, .int .u64 a1_1, .int .u64 a1_2, .int .u64 a1_3, .bool a1_4] 26 (0, 0)) (by (with_reducible repeat (first | refine blk_drewN ?_ _ | refine blk_drew ?_ | refine blk_alloc ?_ _)); exact BK5280.out) hb); have n2_ := Aside0.mk (blk_below (g := gb5286) (o := .cells #[.int .u64 t5282, .int .u64 t5283, .int .u64 t5284, .int .u64 t5285] 24 (0, 0)) (by (with_reducible repeat (first | refine blk_drewN ?_ _ | refine blk_drew ?_ | refine blk_alloc ?_ _)); exact BK5286.out) hb); have n3_ := Aside0.mk (blk_below (g := gb5291) (o := .cells #[.int .u64 t5287, .int .u64 t5288, .int .u64 t5289, .int .u64 t5290] 24 (0, 0)) (by (with_reducible repeat (first | refine blk_drewN ?_ _ | refine blk_drew ?_ | refine blk_alloc ?_ _)); exact BK5291.out) hb); have n4_ := Aside0.mk (blk_below (g := gb5299) (o := .cells #[.int .u64 0, .int .u64 0, .int .u64 0, .int .u64 0] 24 (0, 0)) (by (with_reducible repeat (first | refine blk_drewN ?_ _ | refine blk_drew ?_ | refine blk_alloc ?_ _)); exact BK5299.out) hb); have n5_ := Aside0.mk (below_step (by repeat (first | (with_reducible first | exact HB.out | apply below_alloc | apply pw_below_drewN | apply below_drew1 | refine below_set ?_ GE5279.out | refine below_set ?_ GE5280.out | refine below_set ?_ GE5286.out | refine below_set ?_ GE5291.out | refine below_set ?_ GE5299.out) | exact HB.out)) hb); have n6_ := Aside0.mk (hbox); have n7_ := Aside0.mk ((by rw [hg]; exact (below_size (by repeat (first | (with_reducible first | exact HB.out | apply below_alloc | apply pw_below_drewN | apply below_drew1 | refine below_set ?_ GE5279.out | refine below_set ?_ GE5280.out | refine below_set ?_ GE5286.out | refine below_set ?_ GE5291.out | refine below_set ?_ GE5299.out) | exact HB.out))) : w.heap.size ≤ gb5300)); have n8_ := Aside0.mk ((by rw [hg]; exact (below_size (by repeat (first | (with_reducible first | exact HB.out | apply below_alloc | apply pw_below_drewN | apply below_drew1 | refine below_set ?_ GE5279.out | refine below_set ?_ GE5280.out | refine below_set ?_ GE5286.out | refine below_set ?_ GE5291.out | refine below_set ?_ GE5299.out) | exact HB.out))) : w.heap.size ≤ gb5300)); have n9_ := Aside0.mk ((by rw [hg]; exact Nat.ne_of_lt (blk_lt (g := gb5279) (o := .cells #[.int .u64 a0_0, .int .u64 a0_1, .int .u64 a0_2, .int .u64 a0_3, .bool a0_4] 26 (0, 0)) (by (with_reducible repeat (first | refine blk_drewN ?_ _ | refine blk_drew ?_ | refine blk_alloc ?_ _)); exact BK5279.out)) : gb5279 ≠ gb5300)); have n10_ := Aside0.mk ((by rw [hg]; exact Nat.ne_of_gt (blk_lt (g := gb5279) (o := .cells #[.int .u64 a0_0, .int .u64 a0_1, .int .u64 a0_2, .int .u64 a0_3, .bool a0_4] 26 (0, 0)) (by (with_reducible repeat (first | refine blk_drewN ?_ _ | refine blk_drew ?_ | refine blk_alloc ?_ _)); exact BK5279.out)) : gb5300 ≠ gb5279)); have n11_ := Aside0.mk ((by rw [hg]; exact Nat.ne_of_lt (blk_lt (g := gb5280) (o := .cells #[.int .u64 a1_0, .int .u64 a1_1, .int .u64 a1_2, .int .u64 a1_3, .bool a1_4] 26 (0, 0)) (by (with_reducible repeat (first | refine blk_drewN ?_ _ | refine blk_drew ?_ | refine blk_alloc ?_ _)); exact BK5280.out)) : gb5280 ≠ gb5300)); have n12_ := Aside0.mk ((by rw [hg]; exact Nat.ne_of_gt (blk_lt (g := gb5280) (o := .cells #[.int .u64 a1_0, .int .u64 a1_1, .int .u64 a1_2, .int .u64 a1_3, .bool a1_4] 26 (0, 0)) (by (with_reducible repeat (first | refine blk_drewN ?_ _ | refine blk_drew ?_ | refine blk_alloc ?_ _)); exact BK5280.out)) : gb5300 ≠ gb5280)); have n13_ := Aside0.mk ((by rw [hg]; exact Nat.ne_of_lt (blk_lt (g := gb5286) (o := .cells #[.int .u64 t5282, .int .u64 t5283, .int .u64 t5284, .int .u64 t5285] 24 (0, 0)) (by (with_reducible repeat (first | refine blk_drewN ?_ _ | refine blk_drew ?_ | refine blk_alloc ?_ _)); exact BK5286.out)) : gb5286 ≠ gb5300)); have n14_ := Aside0.mk ((by rw [hg]; exact Nat.ne_of_gt (blk_lt (g := gb5286) (o := .cells #[.int .u64 t5282, .int .u64 t5283, .int .u64 t5284, .int .u64 t5285] 24 (0, 0)) (by (with_reducible repeat (first | refine blk_drewN ?_ _ | refine blk_drew ?_ | refine blk_alloc ?_ _)); exact BK5286.out)) : gb5300 ≠ gb5286)); have n15_ := Aside0.mk ((by rw [hg]; exact Nat.ne_of_lt (blk_lt (g := gb5291) (o := .cells #[.int .u64 t5287, .int .u64 t5288, .int .u64 t5289, .int .u64 t5290] 24 (0, 0)) (by (with_reducible repeat (first | refine blk_drewN ?_ _ | refine blk_drew ?_ | refine blk_alloc ?_ _)); exact BK5291.out)) : gb5291 ≠ gb5300)); have n16_ := Aside0.mk ((by rw [hg]; exact Nat.ne_of_gt (blk_lt (g := gb5291) (o := .cells #[.int .u64 t5287, .int .u64 t5288, .int .u64 t5289, .int .u64 t5290] 24 (0, 0)) (by (with_reducible repeat (first | refine blk_drewN ?_ _ | refine blk_drew ?_ | refine blk_alloc ?_ _)); exact BK5291.out)) : gb5300 ≠ gb5291)); have n17_ := Aside0.mk ((by rw [hg]; exact Nat.ne_of_lt (blk_lt (g := gb5299) (o := .cells #[.int .u64 0, .int .u64 0, .int .u64 0, .int .u64 0] 24 (0, 0)) (by (with_reducible repeat (first | refine blk_drewN ?_ _ | refine blk_drew ?_ | refine blk_alloc ?_ _)); exact BK5299.out)) : gb5299 ≠ gb5300)); have n18_ := Aside0.mk ((by rw [hg]; exact Nat.ne_of_gt (blk_lt (g := gb5299) (o := .cells #[.int .u64 0, .int .u64 0, .int .u64 0, .int .u64 0] 24 (0, 0)) (by (with_reducible repeat (first | refine blk_drewN ?_ _ | refine blk_drew ?_ | refine blk_alloc ?_ _)); exact BK5299.out)) : gb5300 ≠ gb5299)); clear BK5279; clear BK5280; clear BK5286; clear BK5291; clear BK5299; clear HB; have BK5279 := n0_; have BK5280 := n1_; have BK5286 := n2_; have BK5291 := n3_; have BK5299 := n4_; have HB := n5_; have BK5300 := n6_; have GW5300 := n7_; have GE5300 := n8_; have NB5279_5300 := n9_; have NB5300_5279 := n10_; have NB5280_5300 := n11_; have NB5300_5280 := n12_; have NB5286_5300 := n13_; have NB5300_5286 := n14_; have NB5291_5300 := n15_; have NB5300_5291 := n16_; have NB5299_5300 := n17_; have NB5300_5299 := n18_; clear n0_ n1_ n2_ n3_ n4_ n5_ n6_ n7_ n8_ n9_ n10_ n11_ n12_ n13_ n14_ n15_ n16_ n17_ n18_; clear hb hbox hg; have hnb50 := NB5299_5279.out; have hnc50 := NB5279_5299.out; have hnb51 := NB5299_5280.out; have hnc51 := NB5280_5299.out; have hnb52 := NB5299_5286.out; have hnc52 := NB5286_5299.out; have hnb53 := NB5299_5291.out; have hnc53 := NB5291_5299.out; have hnb54 := NB5299_5300.out; have hnc54 := NB5300_5299.out; have hcz55_0 : w49.cell? ⟨gb5299, 0, none⟩ = some (.int .u64 0) := (blk_cell BK5299.out 0).trans rfl; have hcz55_1 : w49.cell? ⟨gb5299, 1, none⟩ = some (.int .u64 0) := (blk_cell BK5299.out 1).trans rfl; have hcz55_2 : w49.cell? ⟨gb5299, 2, none⟩ = some (.int .u64 0) := (blk_cell BK5299.out 2).trans rfl; have hcz55_3 : w49.cell? ⟨gb5299, 3, none⟩ = some (.int .u64 0) := (blk_cell BK5299.out 3).trans rfl; have hfz55_0 := blk_frozen BK5299.out 0; have hfz55_1 := blk_frozen BK5299.out 1; have hfz55_2 := blk_frozen BK5299.out 2; have hfz55_3 := blk_frozen BK5299.out 3; have hnb56 := NB5300_5279.out; have hnc56 := NB5279_5300.out; have hnb57 := NB5300_5280.out; have hnc57 := NB5280_5300.out; have hnb58 := NB5300_5286.out; have hnc58 := NB5286_5300.out; have hnb59 := NB5300_5291.out; have hnc59 := NB5291_5300.out; have hcz60_0 : w49.cell? ⟨gb5300, 0, none⟩ = some (.string (⟨#[]⟩ : ByteArray)) := (blk_cell BK5300.out 0).trans rfl; have hcz60_1 : w49.cell? ⟨gb5300, 1, none⟩ = some (.bool false) := (blk_cell BK5300.out 1).trans rfl; have hfz60_0 := blk_frozen BK5300.out 0; have hfz60_1 := blk_frozen BK5300.out 1) | ((with_reducible refine gate_callee (f := 33) rfl ?_); refine goesL_ (some 46) rfl rfl Tryd.func33 (by kernel_rfl) rfl #[.agg #[.string (t5292.extract 0 ((ji14) : Int).toNat), .bool false]] rfl (by (try simp only [List.map_toArray, List.map_cons, List.map_nil]); first | done | (simp only [hji14]; rfl) | rfl | (simp only [List.length_drop, List.length_take]; rfl)) ?_; (with_reducible refine (vec_Get.calls k (t5292.extract 0 ((ji14) : Int).toNat) false t5301 t5302 t5303 t5304 t5305 true _ A17.out).mono ?_); rintro e w61 ⟨rfl, hb⟩; refine ⟨_, rfl, ?_⟩; have n0_ := Aside0.mk (blk_below (g := gb5279) (o := .cells #[.int .u64 a0_0, .int .u64 a0_1, .int .u64 a0_2, .int .u64 a0_3, .bool a0_4] 26 (0, 0)) (by (repeat (first | (with_reducible first | refine blk_drewN ?_ _ | refine blk_drew ?_ | refine blk_alloc ?_ _) | refine blk_far ?_ NB5279_5300.out _ | refine blk_far ?_ NB5279_5299.out _)); exact BK5279.out) hb); have n1_ := Aside0.mk (blk_below (g := gb5280) (o := .cells #[.int .u64 a1_0, .int .u64 a1_1, .int .u64 a1_2, .int .u64 a1_3, .bool a1_4] 26 (0, 0)) (by (repeat (first | (with_reducible first | refine blk_drewN ?_ _ | refine blk_drew ?_ | refine blk_alloc ?_ _) | refine blk_far ?_ NB5280_5300.out _ | refine blk_far ?_ NB5280_5299.out _)); exact BK5280.out) hb); have n2_ := Aside0.mk (blk_below (g := gb5286) (o := .cells #[.int .u64 t5282, .int .u64 t5283, .int .u64 t5284, .int .u64 t5285] 24 (0, 0)) (by (repeat (first | (with_reducible first | refine blk_drewN ?_ _ | refine blk_drew ?_ | refine blk_alloc ?_ _) | refine blk_far ?_ NB5286_5300.out _ | refine blk_far ?_ NB5286_5299.out _)); exact BK5286.out) hb); have n3_ := Aside0.mk (blk_below (g := gb5291) (o := .cells #[.int .u64 t5287, .int .u64 t5288, .int .u64 t5289, .int .u64 t5290] 24 (0, 0)) (by (repeat (first | (with_reducible first | refine blk_drewN ?_ _ | refine blk_drew ?_ | refine blk_alloc ?_ _) | refine blk_far ?_ NB5291_5300.out _ | refine blk_far ?_ NB5291_5299.out _)); exact BK5291.out) hb); have n4_ := Aside0.mk (blk_below (g := gb5299) (o := .cells #[.int .u64 t5293, .int .u64 t5294, .int .u64 t5295, .int .u64 t5296] 24 (0, 0)) (by (repeat (first | (with_reducible first | refine blk_drewN ?_ _ | refine blk_drew ?_ | refine blk_alloc ?_ _) | refine blk_far ?_ NB5299_5300.out _)); refine blk_put (cs := #[.int .u64 t5293, .int .u64 t5294, .int .u64 t5295, .int .u64 0]) ?_ 3 _ rfl; (with_reducible repeat (first | refine blk_drewN ?_ _ | refine blk_drew ?_ | refine blk_alloc ?_ _)); refine blk_put (cs := #[.int .u64 t5293, .int .u64 t5294, .int .u64 0, .int .u64 0]) ?_ 2 _ rfl; (with_reducible repeat (first | refine blk_drewN ?_ _ | refine blk_drew ?_ | refine blk_alloc ?_ _)); refine blk_put (cs := #[.int .u64 t5293, .int .u64 0, .int .u64 0, .int .u64 0]) ?_ 1 _ rfl; (with_reducible repeat (first | refine blk_drewN ?_ _ | refine blk_drew ?_ | refine blk_alloc ?_ _)); refine blk_put (cs := #[.int .u64 0, .int .u64 0, .int .u64 0, .int .u64 0]) ?_ 0 _ rfl; (with_reducible repeat (first | refine blk_drewN ?_ _ | refine blk_drew ?_ | refine blk_alloc ?_ _)); exact BK5299.out) hb); have n5_ := Aside0.mk (blk_below (g := gb5300) (o := .cells #[.string t5297, .bool true] 51 (0, 0)) (by (with_reducible repeat (first | refine blk_drewN ?_ _ | refine blk_drew ?_ | refine blk_alloc ?_ _)); refine blk_put (cs := #[.string t5297, .bool false]) ?_ 1 _ rfl; (with_reducible repeat (first | refine blk_drewN ?_ _ | refine blk_drew ?_ | refine blk_alloc ?_ _)); refine blk_put (cs := #[.string (⟨#[]⟩ : ByteArray), .bool false]) ?_ 0 _ rfl; (repeat (first | (with_reducible first | refine blk_drewN ?_ _ | refine blk_drew ?_ | refine blk_alloc ?_ _) | refine blk_far ?_ NB5300_5299.out _)); exact BK5300.out) hb); have n6_ := Aside0.mk (below_step (by repeat (first | (with_reducible first | exact HB.out | apply below_alloc | apply pw_below_drewN | apply below_drew1 | refine below_set ?_ GE5279.out | refine below_set ?_ GE5280.out | refine below_set ?_ GE5286.out | refine below_set ?_ GE5291.out | refine below_set ?_ GE5299.out | refine below_set ?_ GE5300.out) | exact HB.out)) hb); clear BK5279; clear BK5280; clear BK5286; clear BK5291; clear BK5299; clear BK5300; clear HB; have BK5279 := n0_; have BK5280 := n1_; have BK5286 := n2_; have BK5291 := n3_; have BK5299 := n4_; have BK5300 := n5_; have HB := n6_; clear n0_ n1_ n2_ n3_ n4_ n5_ n6_; (try clear hb); (try clear hb2); (try clear hk); (try clear hi)) | ((with_reducible refine gate_dst (N := 15) rfl ?_); refine box_event ?hg (N := 15) ?hd (cs := #[.int .u64 0, .int .u64 0, .int .u64 0, .int .u64 0]) (t := 24) ?hr ?_; (case hd => rfl); (case hg => rfl); (case hr => first | (go_simp; done) | (go_simp; rfl)); intro gb5307 hg w62 hbox hb; have n0_ := Aside0.mk (blk_below (g := gb5279) (o := .cells #[.int .u64 a0_0, .int .u64 a0_1, .int .u64 a0_2, .int .u64 a0_3, .bool a0_4] 26 (0, 0)) (by (with_reducible repeat (first | refine blk_drewN ?_ _ | refine blk_drew ?_ | refine blk_alloc ?_ _)); exact BK5279.out) hb); have n1_ := Aside0.mk (blk_below (g := gb5280) (o := .cells #[.int .u64 a1_0, .int .u64 a1_1, .int .u64 a1_2, .int .u64 a1_3, .bool a1_4] 26 (0, 0)) (by (with_reducible repeat (first | refine blk_drewN ?_ _ | refine blk_drew ?_ | refine blk_alloc ?_ _)); exact BK5280.out) hb); have n2_ := Aside0.mk (blk_below (g := gb5286) (o := .cells #[.int .u64 t5282, .int .u64 t5283, .int .u64 t5284, .int .u64 t5285] 24 (0, 0)) (by (with_reducible repeat (first | refine blk_drewN ?_ _ | refine blk_drew ?_ | refine blk_alloc ?_ _)); exact BK5286.out) hb); have n3_ := Aside0.mk (blk_below (g := gb5291) (o := .cells #[.int .u64 t5287, .int .u64 t5288, .int .u64 t5289, .int .u64 t5290] 24 (0, 0)) (by (with_reducible repeat (first | refine blk_drewN ?_ _ | refine blk_drew ?_ | refine blk_alloc ?_ _)); exact BK5291.out) hb); have n4_ := Aside0.mk (blk_below (g := gb5299) (o := .cells #[.int .u64 t5293, .int .u64 t5294, .int .u64 t5295, .int .u64 t5296] 24 (0, 0)) (by (with_reducible repeat (first | refine blk_drewN ?_ _ | refine blk_drew ?_ | refine blk_alloc ?_ _)); exact BK5299.out) hb); have n5_ := Aside0.mk (blk_below (g := gb5300) (o := .cells #[.string t5297, .bool true] 51 (0, 0)) (by (with_reducible repeat (first | refine blk_drewN ?_ _ | refine blk_drew ?_ | refine blk_alloc ?_ _)); exact BK5300.out) hb); have n6_ := Aside0.mk (below_step (by repeat (first | (with_reducible first | exact HB.out | apply below_alloc | apply pw_below_drewN | apply below_drew1 | refine below_set ?_ GE5279.out | refine below_set ?_ GE5280.out | refine below_set ?_ GE5286.out | refine below_set ?_ GE5291.out | refine below_set ?_ GE5299.out | refine below_set ?_ GE5300.out) | exact HB.out)) hb); have n7_ := Aside0.mk (hbox); have n8_ := Aside0.mk ((by rw [hg]; exact (below_size (by repeat (first | (with_reducible first | exact HB.out | apply below_alloc | apply pw_below_drewN | apply below_drew1 | refine below_set ?_ GE5279.out | refine below_set ?_ GE5280.out | refine below_set ?_ GE5286.out | refine below_set ?_ GE5291.out | refine below_set ?_ GE5299.out | refine below_set ?_ GE5300.out) | exact HB.out))) : w.heap.size ≤ gb5307)); have n9_ := Aside0.mk ((by rw [hg]; exact (below_size (by repeat (first | (with_reducible first | exact HB.out | apply below_alloc | apply pw_below_drewN | apply below_drew1 | refine below_set ?_ GE5279.out | refine below_set ?_ GE5280.out | refine below_set ?_ GE5286.out | refine below_set ?_ GE5291.out | refine below_set ?_ GE5299.out | refine below_set ?_ GE5300.out) | exact HB.out))) : w.heap.size ≤ gb5307)); have n10_ := Aside0.mk ((by rw [hg]; exact Nat.ne_of_lt (blk_lt (g := gb5279) (o := .cells #[.int .u64 a0_0, .int .u64 a0_1, .int .u64 a0_2, .int .u64 a0_3, .bool a0_4] 26 (0, 0)) (by (with_reducible repeat (first | refine blk_drewN ?_ _ | refine blk_drew ?_ | refine blk_alloc ?_ _)); exact BK5279.out)) : gb5279 ≠ gb5307)); have n11_ := Aside0.mk ((by rw [hg]; exact Nat.ne_of_gt (blk_lt (g := gb5279) (o := .cells #[.int .u64 a0_0, .int .u64 a0_1, .int .u64 a0_2, .int .u64 a0_3, .bool a0_4] 26 (0, 0)) (by (with_reducible repeat (first | refine blk_drewN ?_ _ | refine blk_drew ?_ | refine blk_alloc ?_ _)); exact BK5279.out)) : gb5307 ≠ gb5279)); have n12_ := Aside0.mk ((by rw [hg]; exact Nat.ne_of_lt (blk_lt (g := gb5280) (o := .cells #[.int .u64 a1_0, .int .u64 a1_1, .int .u64 a1_2, .int .u64 a1_3, .bool a1_4] 26 (0, 0)) (by (with_reducible repeat (first | refine blk_drewN ?_ _ | refine blk_drew ?_ | refine blk_alloc ?_ _)); exact BK5280.out)) : gb5280 ≠ gb5307)); have n13_ := Aside0.mk ((by rw [hg]; exact Nat.ne_of_gt (blk_lt (g := gb5280) (o := .cells #[.int .u64 a1_0, .int .u64 a1_1, .int .u64 a1_2, .int .u64 a1_3, .bool a1_4] 26 (0, 0)) (by (with_reducible repeat (first | refine blk_drewN ?_ _ | refine blk_drew ?_ | refine blk_alloc ?_ _)); exact BK5280.out)) : gb5307 ≠ gb5280)); have n14_ := Aside0.mk ((by rw [hg]; exact Nat.ne_of_lt (blk_lt (g := gb5286) (o := .cells #[.int .u64 t5282, .int .u64 t5283, .int .u64 t5284, .int .u64 t5285] 24 (0, 0)) (by (with_reducible repeat (first | refine blk_drewN ?_ _ | refine blk_drew ?_ | refine blk_alloc ?_ _)); exact BK5286.out)) : gb5286 ≠ gb5307)); have n15_ := Aside0.mk ((by rw [hg]; exact Nat.ne_of_gt (blk_lt (g := gb5286) (o := .cells #[.int .u64 t5282, .int .u64 t5283, .int .u64 t5284, .int .u64 t5285] 24 (0, 0)) (by (with_reducible repeat (first | refine blk_drewN ?_ _ | refine blk_drew ?_ | refine blk_alloc ?_ _)); exact BK5286.out)) : gb5307 ≠ gb5286)); have n16_ := Aside0.mk ((by rw [hg]; exact Nat.ne_of_lt (blk_lt (g := gb5291) (o := .cells #[.int .u64 t5287, .int .u64 t5288, .int .u64 t5289, .int .u64 t5290] 24 (0, 0)) (by (with_reducible repeat (first | refine blk_drewN ?_ _ | refine blk_drew ?_ | refine blk_alloc ?_ _)); exact BK5291.out)) : gb5291 ≠ gb5307)); have n17_ := Aside0.mk ((by rw [hg]; exact Nat.ne_of_gt (blk_lt (g := gb5291) (o := .cells #[.int .u64 t5287, .int .u64 t5288, .int .u64 t5289, .int .u64 t5290] 24 (0, 0)) (by (with_reducible repeat (first | refine blk_drewN ?_ _ | refine blk_drew ?_ | refine blk_alloc ?_ _)); exact BK5291.out)) : gb5307 ≠ gb5291)); have n18_ := Aside0.mk ((by rw [hg]; exact Nat.ne_of_lt (blk_lt (g := gb5299) (o := .cells #[.int .u64 t5293, .int .u64 t5294, .int .u64 t5295, .int .u64 t5296] 24 (0, 0)) (by (with_reducible repeat (first | refine blk_drewN ?_ _ | refine blk_drew ?_ | refine blk_alloc ?_ _)); exact BK5299.out)) : gb5299 ≠ gb5307)); have n19_ := Aside0.mk ((by rw [hg]; exact Nat.ne_of_gt (blk_lt (g := gb5299) (o := .cells #[.int .u64 t5293, .int .u64 t5294, .int .u64 t5295, .int .u64 t5296] 24 (0, 0)) (by (with_reducible repeat (first | refine blk_drewN ?_ _ | refine blk_drew ?_ | refine blk_alloc ?_ _)); exact BK5299.out)) : gb5307 ≠ gb5299)); have n20_ := Aside0.mk ((by rw [hg]; exact Nat.ne_of_lt (blk_lt (g := gb5300) (o := .cells #[.string t5297, .bool true] 51 (0, 0)) (by (with_reducible repeat (first | refine blk_drewN ?_ _ | refine blk_drew ?_ | refine blk_alloc ?_ _)); exact BK5300.out)) : gb5300 ≠ gb5307)); have n21_ := Aside0.mk ((by rw [hg]; exact Nat.ne_of_gt (blk_lt (g := gb5300) (o := .cells #[.string t5297, .bool true] 51 (0, 0)) (by (with_reducible repeat (first | refine blk_drewN ?_ _ | refine blk_drew ?_ | refine blk_alloc ?_ _)); exact BK5300.out)) : gb5307 ≠ gb5300)); clear BK5279; clear BK5280; clear BK5286; clear BK5291; clear BK5299; clear BK5300; clear HB; have BK5279 := n0_; have BK5280 := n1_; have BK5286 := n2_; have BK5291 := n3_; have BK5299 := n4_; have BK5300 := n5_; have HB := n6_; have BK5307 := n7_; have GW5307 := n8_; have GE5307 := n9_; have NB5279_5307 := n10_; have NB5307_5279 := n11_; have NB5280_5307 := n12_; have NB5307_5280 := n13_; have NB5286_5307 := n14_; have NB5307_5286 := n15_; have NB5291_5307 := n16_; have NB5307_5291 := n17_; have NB5299_5307 := n18_; have NB5307_5299 := n19_; have NB5300_5307 := n20_; have NB5307_5300 := n21_; clear n0_ n1_ n2_ n3_ n4_ n5_ n6_ n7_ n8_ n9_ n10_ n11_ n12_ n13_ n14_ n15_ n16_ n17_ n18_ n19_ n20_ n21_; clear hb hbox hg) | ((with_reducible refine gate_dst (N := 16) rfl ?_); refine box_event ?hg (N := 16) ?hd (cs := #[.string (⟨#[]⟩ : ByteArray), .bool false]) (t := 51) ?hr ?_; (case hd => rfl); (case hg => rfl); (case hr => first | (go_simp; done) | (go_simp; rfl)); intro gb5308 hg w63 hbox hb; have n0_ := Aside0.mk (blk_below (g := gb5279) (o := .cells #[.int .u64 a0_0, .int .u64 a0_1, .int .u64 a0_2, .int .u64 a0_3, .bool a0_4] 26 (0, 0)) (by (with_reducible repeat (first | refine blk_drewN ?_ _ | refine blk_drew ?_ | refine blk_alloc ?_ _)); exact BK5279.out) hb); have n1_ := Aside0.mk (blk_below (g := gb5280) (o := .cells #[.int .u64 a1_0, .int .u64 a1_1, .int .u64 a1_2, .int .u64 a1_3, .bool a1_4] 26 (0, 0)) (by (with_reducible repeat (first | refine blk_drewN ?_ _ | refine blk_drew ?_ | refine blk_alloc ?_ _)); exact BK5280.out) hb); have n2_ := Aside0.mk (blk_below (g := gb5286) (o := .cells #[.int .u64 t5282, .int .u64 t5283, .int .u64 t5284, .int .u64 t5285] 24 (0, 0)) (by (with_reducible repeat (first | refine blk_drewN ?_ _ | refine blk_drew ?_ | refine blk_alloc ?_ _)); exact BK5286.out) hb); have n3_ := Aside0.mk (blk_below (g := gb5291) (o := .cells #[.int .u64 t5287, .int .u64 t5288, .int .u64 t5289, .int .u64 t5290] 24 (0, 0)) (by (with_reducible repeat (first | refine blk_drewN ?_ _ | refine blk_drew ?_ | refine blk_alloc ?_ _)); exact BK5291.out) hb); have n4_ := Aside0.mk (blk_below (g := gb5299) (o := .cells #[.int .u64 t5293, .int .u64 t5294, .int .u64 t5295, .int .u64 t5296] 24 (0, 0)) (by (with_reducible repeat (first | refine blk_drewN ?_ _ | refine blk_drew ?_ | refine blk_alloc ?_ _)); exact BK5299.out) hb); have n5_ := Aside0.mk (blk_below (g := gb5300) (o := .cells #[.string t5297, .bool true] 51 (0, 0)) (by (with_reducible repeat (first | refine blk_drewN ?_ _ | refine blk_drew ?_ | refine blk_alloc ?_ _)); exact BK5300.out) hb); have n6_ := Aside0.mk (blk_below (g := gb5307) (o := .cells #[.int .u64 0, .int .u64 0, .int .u64 0, .int .u64 0] 24 (0, 0)) (by (with_reducible repeat (first | refine blk_drewN ?_ _ | refine blk_drew ?_ | refine blk_alloc ?_ _)); exact BK5307.out) hb); have n7_ := Aside0.mk (below_step (by repeat (first | (with_reducible first | exact HB.out | apply below_alloc | apply pw_below_drewN | apply below_drew1 | refine below_set ?_ GE5279.out | refine below_set ?_ GE5280.out | refine below_set ?_ GE5286.out | refine below_set ?_ GE5291.out | refine below_set ?_ GE5299.out | refine below_set ?_ GE5300.out | refine below_set ?_ GE5307.out) | exact HB.out)) hb); have n8_ := Aside0.mk (hbox); have n9_ := Aside0.mk ((by rw [hg]; exact (below_size (by repeat (first | (with_reducible first | exact HB.out | apply below_alloc | apply pw_below_drewN | apply below_drew1 | refine below_set ?_ GE5279.out | refine below_set ?_ GE5280.out | refine below_set ?_ GE5286.out | refine below_set ?_ GE5291.out | refine below_set ?_ GE5299.out | refine below_set ?_ GE5300.out | refine below_set ?_ GE5307.out) | exact HB.out))) : w.heap.size ≤ gb5308)); have n10_ := Aside0.mk ((by rw [hg]; exact (below_size (by repeat (first | (with_reducible first | exact HB.out | apply below_alloc | apply pw_below_drewN | apply below_drew1 | refine below_set ?_ GE5279.out | refine below_set ?_ GE5280.out | refine below_set ?_ GE5286.out | refine below_set ?_ GE5291.out | refine below_set ?_ GE5299.out | refine below_set ?_ GE5300.out | refine below_set ?_ GE5307.out) | exact HB.out))) : w.heap.size ≤ gb5308)); have n11_ := Aside0.mk ((by rw [hg]; exact Nat.ne_of_lt (blk_lt (g := gb5279) (o := .cells #[.int .u64 a0_0, .int .u64 a0_1, .int .u64 a0_2, .int .u64 a0_3, .bool a0_4] 26 (0, 0)) (by (with_reducible repeat (first | refine blk_drewN ?_ _ | refine blk_drew ?_ | refine blk_alloc ?_ _)); exact BK5279.out)) : gb5279 ≠ gb5308)); have n12_ := Aside0.mk ((by rw [hg]; exact Nat.ne_of_gt (blk_lt (g := gb5279) (o := .cells #[.int .u64 a0_0, .int .u64 a0_1, .int .u64 a0_2, .int .u64 a0_3, .bool a0_4] 26 (0, 0)) (by (with_reducible repeat (first | refine blk_drewN ?_ _ | refine blk_drew ?_ | refine blk_alloc ?_ _)); exact BK5279.out)) : gb5308 ≠ gb5279)); have n13_ := Aside0.mk ((by rw [hg]; exact Nat.ne_of_lt (blk_lt (g := gb5280) (o := .cells #[.int .u64 a1_0, .int .u64 a1_1, .int .u64 a1_2, .int .u64 a1_3, .bool a1_4] 26 (0, 0)) (by (with_reducible repeat (first | refine blk_drewN ?_ _ | refine blk_drew ?_ | refine blk_alloc ?_ _)); exact BK5280.out)) : gb5280 ≠ gb5308)); have n14_ := Aside0.mk ((by rw [hg]; exact Nat.ne_of_gt (blk_lt (g := gb5280) (o := .cells #[.int .u64 a1_0, .int .u64 a1_1, .int .u64 a1_2, .int .u64 a1_3, .bool a1_4] 26 (0, 0)) (by (with_reducible repeat (first | refine blk_drewN ?_ _ | refine blk_drew ?_ | refine blk_alloc ?_ _)); exact BK5280.out)) : gb5308 ≠ gb5280)); have n15_ := Aside0.mk ((by rw [hg]; exact Nat.ne_of_lt (blk_lt (g := gb5286) (o := .cells #[.int .u64 t5282, .int .u64 t5283, .int .u64 t5284, .int .u64 t5285] 24 (0, 0)) (by (with_reducible repeat (first | refine blk_drewN ?_ _ | refine blk_drew ?_ | refine blk_alloc ?_ _)); exact BK5286.out)) : gb5286 ≠ gb5308)); have n16_ := Aside0.mk ((by rw [hg]; exact Nat.ne_of_gt (blk_lt (g := gb5286) (o := .cells #[.int .u64 t5282, .int .u64 t5283, .int .u64 t5284, .int .u64 t5285] 24 (0, 0)) (by (with_reducible repeat (first | refine blk_drewN ?_ _ | refine blk_drew ?_ | refine blk_alloc ?_ _)); exact BK5286.out)) : gb5308 ≠ gb5286)); have n17_ := Aside0.mk ((by rw [hg]; exact Nat.ne_of_lt (blk_lt (g := gb5291) (o := .cells #[.int .u64 t5287, .int .u64 t5288, .int .u64 t5289, .int .u64 t5290] 24 (0, 0)) (by (with_reducible repeat (first | refine blk_drewN ?_ _ | refine blk_drew ?_ | refine blk_alloc ?_ _)); exact BK5291.out)) : gb5291 ≠ gb5308)); have n18_ := Aside0.mk ((by rw [hg]; exact Nat.ne_of_gt (blk_lt (g := gb5291) (o := .cells #[.int .u64 t5287, .int .u64 t5288, .int .u64 t5289, .int .u64 t5290] 24 (0, 0)) (by (with_reducible repeat (first | refine blk_drewN ?_ _ | refine blk_drew ?_ | refine blk_alloc ?_ _)); exact BK5291.out)) : gb5308 ≠ gb5291)); have n19_ := Aside0.mk ((by rw [hg]; exact Nat.ne_of_lt (blk_lt (g := gb5299) (o := .cells #[.int .u64 t5293, .int .u64 t5294, .int .u64 t5295, .int .u64 t5296] 24 (0, 0)) (by (with_reducible repeat (first | refine blk_drewN ?_ _ | refine blk_drew ?_ | refine blk_alloc ?_ _)); exact BK5299.out)) : gb5299 ≠ gb5308)); have n20_ := Aside0.mk ((by rw [hg]; exact Nat.ne_of_gt (blk_lt (g := gb5299) (o := .cells #[.int .u64 t5293, .int .u64 t5294, .int .u64 t5295, .int .u64 t5296] 24 (0, 0)) (by (with_reducible repeat (first | refine blk_drewN ?_ _ | refine blk_drew ?_ | refine blk_alloc ?_ _)); exact BK5299.out)) : gb5308 ≠ gb5299)); have n21_ := Aside0.mk ((by rw [hg]; exact Nat.ne_of_lt (blk_lt (g := gb5300) (o := .cells #[.string t5297, .bool true] 51 (0, 0)) (by (with_reducible repeat (first | refine blk_drewN ?_ _ | refine blk_drew ?_ | refine blk_alloc ?_ _)); exact BK5300.out)) : gb5300 ≠ gb5308)); have n22_ := Aside0.mk ((by rw [hg]; exact Nat.ne_of_gt (blk_lt (g := gb5300) (o := .cells #[.string t5297, .bool true] 51 (0, 0)) (by (with_reducible repeat (first | refine blk_drewN ?_ _ | refine blk_drew ?_ | refine blk_alloc ?_ _)); exact BK5300.out)) : gb5308 ≠ gb5300)); have n23_ := Aside0.mk ((by rw [hg]; exact Nat.ne_of_lt (blk_lt (g := gb5307) (o := .cells #[.int .u64 0, .int .u64 0, .int .u64 0, .int .u64 0] 24 (0, 0)) (by (with_reducible repeat (first | refine blk_drewN ?_ _ | refine blk_drew ?_ | refine blk_alloc ?_ _)); exact BK5307.out)) : gb5307 ≠ gb5308)); have n24_ := Aside0.mk ((by rw [hg]; exact Nat.ne_of_gt (blk_lt (g := gb5307) (o := .cells #[.int .u64 0, .int .u64 0, .int .u64 0, .int .u64 0] 24 (0, 0)) (by (with_reducible repeat (first | refine blk_drewN ?_ _ | refine blk_drew ?_ | refine blk_alloc ?_ _)); exact BK5307.out)) : gb5308 ≠ gb5307)); clear BK5279; clear BK5280; clear BK5286; clear BK5291; clear BK5299; clear BK5300; clear BK5307; clear HB; have BK5279 := n0_; have BK5280 := n1_; have BK5286 := n2_; have BK5291 := n3_; have BK5299 := n4_; have BK5300 := n5_; have BK5307 := n6_; have HB := n7_; have BK5308 := n8_; have GW5308 := n9_; have GE5308 := n10_; have NB5279_5308 := n11_; have NB5308_5279 := n12_; have NB5280_5308 := n13_; have NB5308_5280 := n14_; have NB5286_5308 := n15_; have NB5308_5286 := n16_; have NB5291_5308 := n17_; have NB5308_5291 := n18_; have NB5299_5308 := n19_; have NB5308_5299 := n20_; have NB5300_5308 := n21_; have NB5308_5300 := n22_; have NB5307_5308 := n23_; have NB5308_5307 := n24_; clear n0_ n1_ n2_ n3_ n4_ n5_ n6_ n7_ n8_ n9_ n10_ n11_ n12_ n13_ n14_ n15_ n16_ n17_ n18_ n19_ n20_ n21_ n22_ n23_ n24_; clear hb hbox hg; have hnb64 := NB5307_5279.out; have hnc64 := NB5279_5307.out; have hnb65 := NB5307_5280.out; have hnc65 := NB5280_5307.out; have hnb66 := NB5307_5286.out; have hnc66 := NB5286_5307.out; have hnb67 := NB5307_5291.out; have hnc67 := NB5291_5307.out; have hnb68 := NB5307_5299.out; have hnc68 := NB5299_5307.out; have hnb69 := NB5307_5300.out; have hnc69 := NB5300_5307.out; have hnb70 := NB5307_5308.out; have hnc70 := NB5308_5307.out; have hcz71_0 : w63.cell? ⟨gb5307, 0, none⟩ = some (.int .u64 0) := (blk_cell BK5307.out 0).trans rfl; have hcz71_1 : w63.cell? ⟨gb5307, 1, none⟩ = some (.int .u64 0) := (blk_cell BK5307.out 1).trans rfl; have hcz71_2 : w63.cell? ⟨gb5307, 2, none⟩ = some (.int .u64 0) := (blk_cell BK5307.out 2).trans rfl; have hcz71_3 : w63.cell? ⟨gb5307, 3, none⟩ = some (.int .u64 0) := (blk_cell BK5307.out 3).trans rfl; have hfz71_0 := blk_frozen BK5307.out 0; have hfz71_1 := blk_frozen BK5307.out 1; have hfz71_2 := blk_frozen BK5307.out 2; have hfz71_3 := blk_frozen BK5307.out 3; have hnb72 := NB5308_5279.out; have hnc72 := NB5279_5308.out; have hnb73 := NB5308_5280.out; have hnc73 := NB5280_5308.out; have hnb74 := NB5308_5286.out; have hnc74 := NB5286_5308.out; have hnb75 := NB5308_5291.out; have hnc75 := NB5291_5308.out; have hnb76 := NB5308_5299.out; have hnc76 := NB5299_5308.out; have hnb77 := NB5308_5300.out; have hnc77 := NB5300_5308.out; have hcz78_0 : w63.cell? ⟨gb5308, 0, none⟩ = some (.string (⟨#[]⟩ : ByteArray)) := (blk_cell BK5308.out 0).trans rfl; have hcz78_1 : w63.cell? ⟨gb5308, 1, none⟩ = some (.bool false) := (blk_cell BK5308.out 1).trans rfl; have hfz78_0 := blk_frozen BK5308.out 0; have hfz78_1 := blk_frozen BK5308.out 1; have hcz79_0 : w63.cell? ⟨gb5286, 0, none⟩ = some (.int .u64 t5282) := (blk_cell BK5286.out 0).trans rfl; have hcz79_1 : w63.cell? ⟨gb5286, 1, none⟩ = some (.int .u64 t5283) := (blk_cell BK5286.out 1).trans rfl; have hcz79_2 : w63.cell? ⟨gb5286, 2, none⟩ = some (.int .u64 t5284) := (blk_cell BK5286.out 2).trans rfl; have hcz79_3 : w63.cell? ⟨gb5286, 3, none⟩ = some (.int .u64 t5285) := (blk_cell BK5286.out 3).trans rfl; have hfz79_0 := blk_frozen BK5286.out 0; have hfz79_1 := blk_frozen BK5286.out 1; have hfz79_2 := blk_frozen BK5286.out 2; have hfz79_3 := blk_frozen BK5286.out 3) | ((with_reducible refine gate_callee (f := 20) rfl ?_); refine goesL_ (some 50) rfl rfl Tryd.func20 (by kernel_rfl) rfl #[.agg #[.int .u64 t5282, .int .u64 t5283, .int .u64 t5284, .int .u64 t5285]] rfl (by (try simp only [List.map_toArray, List.map_cons, List.map_nil]); first | done | rfl | (simp only [List.length_drop, List.length_take]; rfl)) ?_; (with_reducible refine (vec_Right.calls t5282 t5283 t5284 t5285 false _ A18.out).mono ?_); rintro e w80 ⟨rfl, hb⟩; refine ⟨_, rfl, ?_⟩; have n0_ := Aside0.mk (blk_below (g := gb5279) (o := .cells #[.int .u64 a0_0, .int .u64 a0_1, .int .u64 a0_2, .int .u64 a0_3, .bool a0_4] 26 (0, 0)) (by (repeat (first | (with_reducible first | refine blk_drewN ?_ _ | refine blk_drew ?_ | refine blk_alloc ?_ _) | refine blk_far ?_ NB5279_5308.out _ | refine blk_far ?_ NB5279_5307.out _)); exact BK5279.out) hb); have n1_ := Aside0.mk (blk_below (g := gb5280) (o := .cells #[.int .u64 a1_0, .int .u64 a1_1, .int .u64 a1_2, .int .u64 a1_3, .bool a1_4] 26 (0, 0)) (by (repeat (first | (with_reducible first | refine blk_drewN ?_ _ | refine blk_drew ?_ | refine blk_alloc ?_ _) | refine blk_far ?_ NB5280_5308.out _ | refine blk_far ?_ NB5280_5307.out _)); exact BK5280.out) hb); have n2_ := Aside0.mk (blk_below (g := gb5286) (o := .cells #[.int .u64 t5282, .int .u64 t5283, .int .u64 t5284, .int .u64 t5285] 24 (0, 0)) (by (repeat (first | (with_reducible first | refine blk_drewN ?_ _ | refine blk_drew ?_ | refine blk_alloc ?_ _) | refine blk_far ?_ NB5286_5308.out _ | refine blk_far ?_ NB5286_5307.out _)); exact BK5286.out) hb); have n3_ := Aside0.mk (blk_below (g := gb5291) (o := .cells #[.int .u64 t5287, .int .u64 t5288, .int .u64 t5289, .int .u64 t5290] 24 (0, 0)) (by (repeat (first | (with_reducible first | refine blk_drewN ?_ _ | refine blk_drew ?_ | refine blk_alloc ?_ _) | refine blk_far ?_ NB5291_5308.out _ | refine blk_far ?_ NB5291_5307.out _)); exact BK5291.out) hb); have n4_ := Aside0.mk (blk_below (g := gb5299) (o := .cells #[.int .u64 t5293, .int .u64 t5294, .int .u64 t5295, .int .u64 t5296] 24 (0, 0)) (by (repeat (first | (with_reducible first | refine blk_drewN ?_ _ | refine blk_drew ?_ | refine blk_alloc ?_ _) | refine blk_far ?_ NB5299_5308.out _ | refine blk_far ?_ NB5299_5307.out _)); exact BK5299.out) hb); have n5_ := Aside0.mk (blk_below (g := gb5300) (o := .cells #[.string t5297, .bool true] 51 (0, 0)) (by (repeat (first | (with_reducible first | refine blk_drewN ?_ _ | refine blk_drew ?_ | refine blk_alloc ?_ _) | refine blk_far ?_ NB5300_5308.out _ | refine blk_far ?_ NB5300_5307.out _)); exact BK5300.out) hb); have n6_ := Aside0.mk (blk_below (g := gb5307) (o := .cells #[.int .u64 t5301, .int .u64 t5302, .int .u64 t5303, .int .u64 t5304] 24 (0, 0)) (by (repeat (first | (with_reducible first | refine blk_drewN ?_ _ | refine blk_drew ?_ | refine blk_alloc ?_ _) | refine blk_far ?_ NB5307_5308.out _)); refine blk_put (cs := #[.int .u64 t5301, .int .u64 t5302, .int .u64 t5303, .int .u64 0]) ?_ 3 _ rfl; (with_reducible repeat (first | refine blk_drewN ?_ _ | refine blk_drew ?_ | refine blk_alloc ?_ _)); refine blk_put (cs := #[.int .u64 t5301, .int .u64 t5302, .int .u64 0, .int .u64 0]) ?_ 2 _ rfl; (with_reducible repeat (first | refine blk_drewN ?_ _ | refine blk_drew ?_ | refine blk_alloc ?_ _)); refine blk_put (cs := #[.int .u64 t5301, .int .u64 0, .int .u64 0, .int .u64 0]) ?_ 1 _ rfl; (with_reducible repeat (first | refine blk_drewN ?_ _ | refine blk_drew ?_ | refine blk_alloc ?_ _)); refine blk_put (cs := #[.int .u64 0, .int .u64 0, .int .u64 0, .int .u64 0]) ?_ 0 _ rfl; (with_reducible repeat (first | refine blk_drewN ?_ _ | refine blk_drew ?_ | refine blk_alloc ?_ _)); exact BK5307.out) hb); have n7_ := Aside0.mk (blk_below (g := gb5308) (o := .cells #[.string t5305, .bool true] 51 (0, 0)) (by (with_reducible repeat (first | refine blk_drewN ?_ _ | refine blk_drew ?_ | refine blk_alloc ?_ _)); refine blk_put (cs := #[.string t5305, .bool false]) ?_ 1 _ rfl; (with_reducible repeat (first | refine blk_drewN ?_ _ | refine blk_drew ?_ | refine blk_alloc ?_ _)); refine blk_put (cs := #[.string (⟨#[]⟩ : ByteArray), .bool false]) ?_ 0 _ rfl; (repeat (first | (with_reducible first | refine blk_drewN ?_ _ | refine blk_drew ?_ | refine blk_alloc ?_ _) | refine blk_far ?_ NB5308_5307.out _)); exact BK5308.out) hb); have n8_ := Aside0.mk (below_step (by repeat (first | (with_reducible first | exact HB.out | apply below_alloc | apply pw_below_drewN | apply below_drew1 | refine below_set ?_ GE5279.out | refine below_set ?_ GE5280.out | refine below_set ?_ GE5286.out | refine below_set ?_ GE5291.out | refine below_set ?_ GE5299.out | refine below_set ?_ GE5300.out | refine below_set ?_ GE5307.out | refine below_set ?_ GE5308.out) | exact HB.out)) hb); clear BK5279; clear BK5280; clear BK5286; clear BK5291; clear BK5299; clear BK5300; clear BK5307; clear BK5308; clear HB; have BK5279 := n0_; have BK5280 := n1_; have BK5286 := n2_; have BK5291 := n3_; have BK5299 := n4_; have BK5300 := n5_; have BK5307 := n6_; have BK5308 := n7_; have HB := n8_; clear n0_ n1_ n2_ n3_ n4_ n5_ n6_ n7_ n8_; (try clear hb); (try clear hb2); (try clear hk); (try clear hi)))
  have n0_ := Aside0.mk (blk_drew BK5279.out)
  have n1_ := Aside0.mk (blk_drew BK5280.out)
  have n2_ := Aside0.mk (blk_drew BK5286.out)
  have n3_ := Aside0.mk (blk_drew BK5291.out)
  have n4_ := Aside0.mk (blk_drew BK5299.out)
  have n5_ := Aside0.mk (blk_drew BK5300.out)
  have n6_ := Aside0.mk (blk_drew BK5307.out)
  have n7_ := Aside0.mk (blk_drew BK5308.out)
  have n8_ := Aside0.mk (below_drew1 HB.out)
  clear BK5279
  clear BK5280
  clear BK5286
  clear BK5291
  clear BK5299
  clear BK5300
  clear BK5307
  clear BK5308
  clear HB
  have BK5279 := n0_
  have BK5280 := n1_
  have BK5286 := n2_
  have BK5291 := n3_
  have BK5299 := n4_
  have BK5300 := n5_
  have BK5307 := n6_
  have BK5308 := n7_
  have HB := n8_
  clear n0_ n1_ n2_ n3_ n4_ n5_ n6_ n7_ n8_
  refine start_ (n := 49) (S := fun w' => w'.cell? ⟨gb5291, 0, none⟩ = some (.int .u64 t5287) ∧ w'.cell? ⟨gb5291, 1, none⟩ = some (.int .u64 t5288) ∧ w'.cell? ⟨gb5291, 2, none⟩ = some (.int .u64 t5289) ∧ w'.cell? ⟨gb5291, 3, none⟩ = some (.int .u64 t5290) ∧ w'.cell? ⟨gb5286, 0, none⟩ = some (.int .u64 t5282) ∧ w'.cell? ⟨gb5286, 1, none⟩ = some (.int .u64 t5283) ∧ w'.cell? ⟨gb5286, 2, none⟩ = some (.int .u64 t5284) ∧ w'.cell? ⟨gb5286, 3, none⟩ = some (.int .u64 t5285) ∧ w'.cell? ⟨gb5300, 0, none⟩ = some (.string t5297) ∧ w'.cell? ⟨gb5300, 1, none⟩ = some (.bool true) ∧ w'.cell? ⟨gb5308, 0, none⟩ = some (.string t5305) ∧ w'.cell? ⟨gb5308, 1, none⟩ = some (.bool true)) (ds := []) #[false, false, false, false, false, false, false, false, false, false, false, false, false, false, false, false, false, false, false, false, false, false, false, false, false, false, false, false, false, false, false, false, false, false, false, false, false, false, false, false, false, false, false, false, false, false, false, false, false] (by kernel_rfl) rfl rfl ⟨(blk_cell BK5291.out 0).trans rfl, (blk_cell BK5291.out 1).trans rfl, (blk_cell BK5291.out 2).trans rfl, (blk_cell BK5291.out 3).trans rfl, (blk_cell BK5286.out 0).trans rfl, (blk_cell BK5286.out 1).trans rfl, (blk_cell BK5286.out 2).trans rfl, (blk_cell BK5286.out 3).trans rfl, (blk_cell BK5300.out 0).trans rfl, (blk_cell BK5300.out 1).trans rfl, (blk_cell BK5308.out 0).trans rfl, (blk_cell BK5308.out 1).trans rfl⟩ (fun hHeld => ?_); refine with_tabW tenementlaw06_VecBack_p2.tab12 tenementlaw06_VecBack_p2.bits12 (fun HT_ HW_ => ?_)
  generalize w80.drew = w81 at BK5279 BK5280 BK5286 BK5291 BK5299 BK5300 BK5307 BK5308 HB hHeld ⊢
  refine pure_ (i := 0) (N := some 51) (v := ?_) (a' := ?_) #[true, false, false, false, false, false, false, false, false, false, false, false, false, false, false, false, false, false, false, false, false, false, false, false, false, false, false, false, false, false, false, false, false, false, false, false, false, false, false, false, false, false, false, false, false, false, false, false, false] rfl rfl (any_of HT_.out (by kernel_rfl)) (fun _ _ _ h => h) (Or.inl ⟨by rfl, ?_⟩) ?_ ?_
  rotate_left
  · intro w'
    go_simp
    with_reducible rfl
  rotate_left
  · simp only [Act.put, List.setIfInBounds_toArray, List.set_cons_zero, List.set_cons_succ, i64_w, i32_w]
    rfl
  refine pure_ (i := 1) (N := some 52) (v := ?_) (a' := ?_) #[true, true, false, false, false, false, false, false, false, false, false, false, false, false, false, false, false, false, false, false, false, false, false, false, false, false, false, false, false, false, false, false, false, false, false, false, false, false, false, false, false, false, false, false, false, false, false, false, false] rfl rfl (any_of HT_.out (by kernel_rfl)) (fun _ _ _ h => h) (Or.inl ⟨by rfl, ?_⟩) ?_ ?_
  rotate_left
  · intro w'
    go_simp
    with_reducible rfl
  rotate_left
  · simp only [Act.put, List.setIfInBounds_toArray, List.set_cons_zero, List.set_cons_succ, i64_w, i32_w]
    rfl
  refine pure_ (i := 2) (N := some 53) (v := ?_) (a' := ?_) #[true, true, true, false, false, false, false, false, false, false, false, false, false, false, false, false, false, false, false, false, false, false, false, false, false, false, false, false, false, false, false, false, false, false, false, false, false, false, false, false, false, false, false, false, false, false, false, false, false] rfl rfl (any_of HT_.out (by kernel_rfl)) (fun _ _ _ h => h) (Or.inl ⟨by rfl, ?_⟩) ?_ ?_
  rotate_left
  · intro w'
    go_simp
    with_reducible rfl
  rotate_left
  · simp only [Act.put, List.setIfInBounds_toArray, List.set_cons_zero, List.set_cons_succ, i64_w, i32_w]
    rfl
  refine take_ (i := 3) (N := some 54) (v := ?_) (a' := ?_) #[true, true, true, true, false, false, false, false, false, false, false, false, false, false, false, false, false, false, false, false, false, false, false, false, false, false, false, false, false, false, false, false, false, false, false, false, false, false, false, false, false, false, false, false, false, false, false, false, false] rfl rfl (take_ofW HT_.out HW_.out (by kernel_rfl)) (fun _ _ _ h => h) (Or.inl ⟨by rfl, ?_⟩) hHeld ?_ ?_
  rotate_left
  · rintro w' ⟨s0, s1, s2, s3, s4, s5, s6, s7, s8, s9, s10, s11⟩
    go_simp
    with_reducible rfl
  rotate_left
  · simp only [Act.put, List.setIfInBounds_toArray, List.set_cons_zero, List.set_cons_succ, i64_w, i32_w]
    rfl
  refine take_ (i := 6) (N := some 57) (v := ?_) (a' := ?_) #[true, true, true, true, false, false, true, false, false, false, false, false, false, false, false, false, false, false, false, false, false, false, false, false, false, false, false, false, false, false, false, false, false, false, false, false, false, false, false, false, false, false, false, false, false, false, false, false, false] rfl rfl (take_ofW HT_.out HW_.out (by kernel_rfl)) (fun _ _ _ h => h) (Or.inl ⟨by rfl, ?_⟩) hHeld ?_ ?_
  rotate_left
  · rintro w' ⟨s0, s1, s2, s3, s4, s5, s6, s7, s8, s9, s10, s11⟩
    go_simp
    with_reducible rfl
  rotate_left
  · simp only [Act.put, List.setIfInBounds_toArray, List.set_cons_zero, List.set_cons_succ, i64_w, i32_w]
    rfl
  refine take_ (i := 7) (N := some 58) (v := ?_) (a' := ?_) #[true, true, true, true, false, false, true, true, false, false, false, false, false, false, false, false, false, false, false, false, false, false, false, false, false, false, false, false, false, false, false, false, false, false, false, false, false, false, false, false, false, false, false, false, false, false, false, false, false] rfl rfl (take_ofW HT_.out HW_.out (by kernel_rfl)) (fun _ _ _ h => h) (Or.inl ⟨by rfl, ?_⟩) hHeld ?_ ?_
  rotate_left
  · rintro w' ⟨s0, s1, s2, s3, s4, s5, s6, s7, s8, s9, s10, s11⟩
    go_simp
    with_reducible rfl
  rotate_left
  · simp only [Act.put, List.setIfInBounds_toArray, List.set_cons_zero, List.set_cons_succ, i64_w, i32_w]
    rfl
  refine pure_ (i := 8) (N := some 59) (v := ?_) (a' := ?_) #[true, true, true, true, false, false, true, true, true, false, false, false, false, false, false, false, false, false, false, false, false, false, false, false, false, false, false, false, false, false, false, false, false, false, false, false, false, false, false, false, false, false, false, false, false, false, false, false, false] rfl rfl (any_of HT_.out (by kernel_rfl)) (fun _ _ _ h => h) (Or.inl ⟨by rfl, ?_⟩) ?_ ?_
  rotate_left
  · intro w'
    go_simp
    with_reducible rfl
  rotate_left
  · simp only [Act.put, List.setIfInBounds_toArray, List.set_cons_zero, List.set_cons_succ, i64_w, i32_w]
    rfl
  refine one_ (i := 4) (N := some 55) #[true, true, true, true, true, false, true, true, true, false, false, false, false, false, false, false, false, false, false, false, false, false, false, false, false, false, false, false, false, false, false, false, false, false, false, false, false, false, false, false, false, false, false, false, false, false, false, false, false] rfl rfl (one_of HT_.out (by kernel_rfl)) (by decide) (fun K hK => ?_)
  refine goes_ Tryd.func28 (by kernel_rfl) rfl #[.agg #[.int .u64 t5287, .int .u64 t5288, .int .u64 t5289, .int .u64 t5290]] (by rfl) rfl rfl (by (try simp only [List.map_toArray, List.map_cons, List.map_nil]); first | done | rfl | (simp only [List.length_drop, List.length_take]; rfl)) ?_
  with_reducible refine (vec_Put.calls k t5287 t5288 t5289 t5290 t5310 _ A19.out).mono ?_
  rintro e w82 ⟨rfl, hb⟩
  refine ⟨_, rfl, ?_⟩
  have n0_ := Aside0.mk (blk_below (g := gb5279) (o := .cells #[.int .u64 a0_0, .int .u64 a0_1, .int .u64 a0_2, .int .u64 a0_3, .bool a0_4] 26 (0, 0)) (by (with_reducible repeat (first | refine blk_drewN ?_ _ | refine blk_drew ?_ | refine blk_alloc ?_ _)); exact BK5279.out) hb)
  have n1_ := Aside0.mk (blk_below (g := gb5280) (o := .cells #[.int .u64 a1_0, .int .u64 a1_1, .int .u64 a1_2, .int .u64 a1_3, .bool a1_4] 26 (0, 0)) (by (with_reducible repeat (first | refine blk_drewN ?_ _ | refine blk_drew ?_ | refine blk_alloc ?_ _)); exact BK5280.out) hb)
  have n2_ := Aside0.mk (blk_below (g := gb5286) (o := .cells #[.int .u64 t5282, .int .u64 t5283, .int .u64 t5284, .int .u64 t5285] 24 (0, 0)) (by (with_reducible repeat (first | refine blk_drewN ?_ _ | refine blk_drew ?_ | refine blk_alloc ?_ _)); exact BK5286.out) hb)
  have n3_ := Aside0.mk (blk_below (g := gb5291) (o := .cells #[.int .u64 t5287, .int .u64 t5288, .int .u64 t5289, .int .u64 t5290] 24 (0, 0)) (by (with_reducible repeat (first | refine blk_drewN ?_ _ | refine blk_drew ?_ | refine blk_alloc ?_ _)); exact BK5291.out) hb)
  have n4_ := Aside0.mk (blk_below (g := gb5299) (o := .cells #[.int .u64 t5293, .int .u64 t5294, .int .u64 t5295, .int .u64 t5296] 24 (0, 0)) (by (with_reducible repeat (first | refine blk_drewN ?_ _ | refine blk_drew ?_ | refine blk_alloc ?_ _)); exact BK5299.out) hb)
  have n5_ := Aside0.mk (blk_below (g := gb5300) (o := .cells #[.string t5297, .bool true] 51 (0, 0)) (by (with_reducible repeat (first | refine blk_drewN ?_ _ | refine blk_drew ?_ | refine blk_alloc ?_ _)); exact BK5300.out) hb)
  have n6_ := Aside0.mk (blk_below (g := gb5307) (o := .cells #[.int .u64 t5301, .int .u64 t5302, .int .u64 t5303, .int .u64 t5304] 24 (0, 0)) (by (with_reducible repeat (first | refine blk_drewN ?_ _ | refine blk_drew ?_ | refine blk_alloc ?_ _)); exact BK5307.out) hb)
  have n7_ := Aside0.mk (blk_below (g := gb5308) (o := .cells #[.string t5305, .bool true] 51 (0, 0)) (by (with_reducible repeat (first | refine blk_drewN ?_ _ | refine blk_drew ?_ | refine blk_alloc ?_ _)); exact BK5308.out) hb)
  have n8_ := Aside0.mk (below_step (by repeat (first | (with_reducible first | exact HB.out | apply below_alloc | apply pw_below_drewN | apply below_drew1 | refine below_set ?_ GE5279.out | refine below_set ?_ GE5280.out | refine below_set ?_ GE5286.out | refine below_set ?_ GE5291.out | refine below_set ?_ GE5299.out | refine below_set ?_ GE5300.out | refine below_set ?_ GE5307.out | refine below_set ?_ GE5308.out) | exact HB.out)) hb)
  clear BK5279
  clear BK5280
  clear BK5286
  clear BK5291
  clear BK5299
  clear BK5300
  clear BK5307
  clear BK5308
  clear HB
  have BK5279 := n0_
  have BK5280 := n1_
  have BK5286 := n2_
  have BK5291 := n3_
  have BK5299 := n4_
  have BK5300 := n5_
  have BK5307 := n6_
  have BK5308 := n7_
  have HB := n8_
  clear n0_ n1_ n2_ n3_ n4_ n5_ n6_ n7_ n8_
  (try clear hb)
  (try clear hb2)
  (try clear hk)
  (try clear hi)
  refine hK.out _ _ ⟨(blk_cell BK5291.out 0).trans rfl, (blk_cell BK5291.out 1).trans rfl, (blk_cell BK5291.out 2).trans rfl, (blk_cell BK5291.out 3).trans rfl, (blk_cell BK5286.out 0).trans rfl, (blk_cell BK5286.out 1).trans rfl, (blk_cell BK5286.out 2).trans rfl, (blk_cell BK5286.out 3).trans rfl, (blk_cell BK5300.out 0).trans rfl, (blk_cell BK5300.out 1).trans rfl, (blk_cell BK5308.out 0).trans rfl, (blk_cell BK5308.out 1).trans rfl⟩ (fun hHeld => ?_)
  clear hK K
  refine norm_ (a' := ?_) ?_ ?_
  rotate_left
  · show Act.put _ (some 55) _ = _
    simp only [Act.put, List.setIfInBounds_toArray, List.set_cons_zero, List.set_cons_succ, i64_w, i32_w]
    rfl
  refine pure_ (i := 5) (N := some 56) (v := ?_) (a' := ?_) #[true, true, true, true, true, true, true, true, true, false, false, false, false, false, false, false, false, false, false, false, false, false, false, false, false, false, false, false, false, false, false, false, false, false, false, false, false, false, false, false, false, false, false, false, false, false, false, false, false] rfl rfl (any_of HT_.out (by kernel_rfl)) (fun _ _ _ h => h) (Or.inl ⟨by rfl, ?_⟩) ?_ ?_
  rotate_left
  · intro w'
    go_simp
    with_reducible rfl
  rotate_left
  · simp only [Act.put, List.setIfInBounds_toArray, List.set_cons_zero, List.set_cons_succ, i64_w, i32_w]
    rfl
  refine pure_ (i := 9) (N := some 60) (v := ?_) (a' := ?_) #[true, true, true, true, true, true, true, true, true, true, false, false, false, false, false, false, false, false, false, false, false, false, false, false, false, false, false, false, false, false, false, false, false, false, false, false, false, false, false, false, false, false, false, false, false, false, false, false, false] rfl rfl (any_of HT_.out (by kernel_rfl)) (fun _ _ _ h => h) (Or.inl ⟨by rfl, ?_⟩) ?_ ?_
  rotate_left
  · intro w'
    go_simp
    with_reducible rfl
  rotate_left
  · simp only [Act.put, List.setIfInBounds_toArray, List.set_cons_zero, List.set_cons_succ, i64_w, i32_w]
    rfl
  refine pure_ (i := 10) (N := some 61) (v := ?_) (a' := ?_) #[true, true, true, true, true, true, true, true, true, true, true, false, false, false, false, false, false, false, false, false, false, false, false, false, false, false, false, false, false, false, false, false, false, false, false, false, false, false, false, false, false, false, false, false, false, false, false, false, false] rfl rfl (any_of HT_.out (by kernel_rfl)) (fun _ _ _ h => h) (Or.inl ⟨by rfl, ?_⟩) ?_ ?_
  rotate_left
  · intro w'
    go_simp
    with_reducible rfl
  rotate_left
  · simp only [Act.put, List.setIfInBounds_toArray, List.set_cons_zero, List.set_cons_succ, i64_w, i32_w]
    rfl
  refine pure_ (i := 11) (N := some 62) (v := ?_) (a' := ?_) #[true, true, true, true, true, true, true, true, true, true, true, true, false, false, false, false, false, false, false, false, false, false, false, false, false, false, false, false, false, false, false, false, false, false, false, false, false, false, false, false, false, false, false, false, false, false, false, false, false] rfl rfl (any_of HT_.out (by kernel_rfl)) (fun _ _ _ h => h) (Or.inl ⟨by rfl, ?_⟩) ?_ ?_
  rotate_left
  · intro w'
    go_simp
    with_reducible rfl
  rotate_left
  · simp only [Act.put, List.setIfInBounds_toArray, List.set_cons_zero, List.set_cons_succ, i64_w, i32_w]
    rfl
  refine pure_ (i := 12) (N := some 63) (v := ?_) (a' := ?_) #[true, true, true, true, true, true, true, true, true, true, true, true, true, false, false, false, false, false, false, false, false, false, false, false, false, false, false, false, false, false, false, false, false, false, false, false, false, false, false, false, false, false, false, false, false, false, false, false, false] rfl rfl (any_of HT_.out (by kernel_rfl)) (fun _ _ _ h => h) (Or.inl ⟨by rfl, ?_⟩) ?_ ?_
  rotate_left
  · intro w'
    go_simp
    with_reducible rfl
  rotate_left
  · simp only [Act.put, List.setIfInBounds_toArray, List.set_cons_zero, List.set_cons_succ, i64_w, i32_w]
    rfl
  refine pure_ (i := 14) (N := some 65) (v := ?_) (a' := ?_) #[true, true, true, true, true, true, true, true, true, true, true, true, true, false, true, false, false, false, false, false, false, false, false, false, false, false, false, false, false, false, false, false, false, false, false, false, false, false, false, false, false, false, false, false, false, false, false, false, false] rfl rfl (any_of HT_.out (by kernel_rfl)) (fun _ _ _ h => h) (Or.inl ⟨by rfl, ?_⟩) ?_ ?_
  rotate_left
  · intro w'
    go_simp
    with_reducible rfl
  rotate_left
  · simp only [Act.put, List.setIfInBounds_toArray, List.set_cons_zero, List.set_cons_succ, i64_w, i32_w]
    rfl
  refine pure_ (i := 15) (N := some 66) (v := ?_) (a' := ?_) #[true, true, true, true, true, true, true, true, true, true, true, true, true, false, true, true, false, false, false, false, false, false, false, false, false, false, false, false, false, false, false, false, false, false, false, false, false, false, false, false, false, false, false, false, false, false, false, false, false] rfl rfl (any_of HT_.out (by kernel_rfl)) (fun _ _ _ h => h) (Or.inl ⟨by rfl, ?_⟩) ?_ ?_
  rotate_left
  · intro w'
    go_simp
    with_reducible rfl
  rotate_left
  · simp only [Act.put, List.setIfInBounds_toArray, List.set_cons_zero, List.set_cons_succ, i64_w, i32_w]
    rfl
  refine take_ (i := 13) (N := some 64) (v := ?_) (a' := ?_) #[true, true, true, true, true, true, true, true, true, true, true, true, true, true, true, true, false, false, false, false, false, false, false, false, false, false, false, false, false, false, false, false, false, false, false, false, false, false, false, false, false, false, false, false, false, false, false, false, false] rfl rfl (take_ofW HT_.out HW_.out (by kernel_rfl)) (fun _ _ _ h => h) (Or.inl ⟨by rfl, ?_⟩) hHeld ?_ ?_
  rotate_left
  · rintro w' ⟨s0, s1, s2, s3, s4, s5, s6, s7, s8, s9, s10, s11⟩
    go_simp
    with_reducible rfl
  rotate_left
  · simp only [Act.put, List.setIfInBounds_toArray, List.set_cons_zero, List.set_cons_succ, i64_w, i32_w]
    rfl
  refine pure_ (i := 16) (N := some 67) (v := ?_) (a' := ?_) #[true, true, true, true, true, true, true, true, true, true, true, true, true, true, true, true, true, false, false, false, false, false, false, false, false, false, false, false, false, false, false, false, false, false, false, false, false, false, false, false, false, false, false, false, false, false, false, false, false] rfl rfl (any_of HT_.out (by kernel_rfl)) (fun _ _ _ h => h) (Or.inl ⟨by rfl, ?_⟩) ?_ ?_
  rotate_left
  · intro w'
    go_simp
    with_reducible rfl
  rotate_left
  · simp only [Act.put, List.setIfInBounds_toArray, List.set_cons_zero, List.set_cons_succ, i64_w, i32_w]
    rfl
  refine pure_ (i := 17) (N := some 68) (v := ?_) (a' := ?_) #[true, true, true, true, true, true, true, true, true, true, true, true, true, true, true, true, true, true, false, false, false, false, false, false, false, false, false, false, false, false, false, false, false, false, false, false, false, false, false, false, false, false, false, false, false, false, false, false, false] rfl rfl (any_of HT_.out (by kernel_rfl)) (fun _ _ _ h => h) (Or.inl ⟨by rfl, ?_⟩) ?_ ?_
  rotate_left
  · intro w'
    go_simp
    with_reducible rfl
  rotate_left
  · simp only [Act.put, List.setIfInBounds_toArray, List.set_cons_zero, List.set_cons_succ, i64_w, i32_w]
    rfl
  refine pure_ (i := 18) (N := some 69) (v := ?_) (a' := ?_) #[true, true, true, true, true, true, true, true, true, true, true, true, true, true, true, true, true, true, true, false, false, false, false, false, false, false, false, false, false, false, false, false, false, false, false, false, false, false, false, false, false, false, false, false, false, false, false, false, false] rfl rfl (any_of HT_.out (by kernel_rfl)) (fun _ _ _ h => h) (Or.inl ⟨by rfl, ?_⟩) ?_ ?_
  rotate_left
  · intro w'
    go_simp
    with_reducible rfl
  rotate_left
  · simp only [Act.put, List.setIfInBounds_toArray, List.set_cons_zero, List.set_cons_succ, i64_w, i32_w]
    rfl
  refine pure_ (i := 19) (N := some 70) (v := ?_) (a' := ?_) #[true, true, true, true, true, true, true, true, true, true, true, true, true, true, true, true, true, true, true, true, false, false, false, false, false, false, false, false, false, false, false, false, false, false, false, false, false, false, false, false, false, false, false, false, false, false, false, false, false] rfl rfl (any_of HT_.out (by kernel_rfl)) (fun _ _ _ h => h) (Or.inl ⟨by rfl, ?_⟩) ?_ ?_
  rotate_left
  · intro w'
    go_simp
    with_reducible rfl
  rotate_left
  · simp only [Act.put, List.setIfInBounds_toArray, List.set_cons_zero, List.set_cons_succ, i64_w, i32_w]
    rfl
  refine pure_ (i := 20) (N := some 71) (v := ?_) (a' := ?_) #[true, true, true, true, true, true, true, true, true, true, true, true, true, true, true, true, true, true, true, true, true, false, false, false, false, false, false, false, false, false, false, false, false, false, false, false, false, false, false, false, false, false, false, false, false, false, false, false, false] rfl rfl (any_of HT_.out (by kernel_rfl)) (fun _ _ _ h => h) (Or.inl ⟨by rfl, ?_⟩) ?_ ?_
  rotate_left
  · intro w'
    go_simp
    with_reducible rfl
  rotate_left
  · simp only [Act.put, List.setIfInBounds_toArray, List.set_cons_zero, List.set_cons_succ, i64_w, i32_w]
    rfl
  refine pure_ (i := 21) (N := some 72) (v := ?_) (a' := ?_) #[true, true, true, true, true, true, true, true, true, true, true, true, true, true, true, true, true, true, true, true, true, true, false, false, false, false, false, false, false, false, false, false, false, false, false, false, false, false, false, false, false, false, false, false, false, false, false, false, false] rfl rfl (any_of HT_.out (by kernel_rfl)) (fun _ _ _ h => h) (Or.inl ⟨by rfl, ?_⟩) ?_ ?_
  rotate_left
  · intro w'
    go_simp
    with_reducible rfl
  rotate_left
  · simp only [Act.put, List.setIfInBounds_toArray, List.set_cons_zero, List.set_cons_succ, i64_w, i32_w]
    rfl
  refine pure_ (i := 22) (N := some 73) (v := undef) (a' := ?_) #[true, true, true, true, true, true, true, true, true, true, true, true, true, true, true, true, true, true, true, true, true, true, true, false, false, false, false, false, false, false, false, false, false, false, false, false, false, false, false, false, false, false, false, false, false, false, false, false, false] rfl rfl (any_of HT_.out (by kernel_rfl)) (fun _ _ _ h => h) (Or.inr ⟨by rfl, rfl⟩) ?_ ?_
  rotate_left
  · simp only [Act.put, List.setIfInBounds_toArray, List.set_cons_zero, List.set_cons_succ, i64_w, i32_w]
    rfl
  refine pure_ (i := 23) (N := some 74) (v := undef) (a' := ?_) #[true, true, true, true, true, true, true, true, true, true, true, true, true, true, true, true, true, true, true, true, true, true, true, true, false, false, false, false, false, false, false, false, false, false, false, false, false, false, false, false, false, false, false, false, false, false, false, false, false] rfl rfl (any_of HT_.out (by kernel_rfl)) (fun _ _ _ h => h) (Or.inr ⟨by rfl, rfl⟩) ?_ ?_
  rotate_left
  · simp only [Act.put, List.setIfInBounds_toArray, List.set_cons_zero, List.set_cons_succ, i64_w, i32_w]
    rfl
  refine pure_ (i := 24) (N := some 75) (v := undef) (a' := ?_) #[true, true, true, true, true, true, true, true, true, true, true, true, true, true, true, true, true, true, true, true, true, true, true, true, true, false, false, false, false, false, false, false, false, false, false, false, false, false, false, false, false, false, false, false, false, false, false, false, false] rfl rfl (any_of HT_.out (by kernel_rfl)) (fun _ _ _ h => h) (Or.inr ⟨by rfl, rfl⟩) ?_ ?_
  rotate_left
  · simp only [Act.put, List.setIfInBounds_toArray, List.set_cons_zero, List.set_cons_succ, i64_w, i32_w]
    rfl
  refine pure_ (i := 25) (N := some 76) (v := undef) (a' := ?_) #[true, true, true, true, true, true, true, true, true, true, true, true, true, true, true, true, true, true, true, true, true, true, true, true, true, true, false, false, false, false, false, false, false, false, false, false, false, false, false, false, false, false, false, false, false, false, false, false, false] rfl rfl (any_of HT_.out (by kernel_rfl)) (fun _ _ _ h => h) (Or.inr ⟨by rfl, rfl⟩) ?_ ?_
  rotate_left
  · simp only [Act.put, List.setIfInBounds_toArray, List.set_cons_zero, List.set_cons_succ, i64_w, i32_w]
    rfl
  refine pure_ (i := 26) (N := some 77) (v := undef) (a' := ?_) #[true, true, true, true, true, true, true, true, true, true, true, true, true, true, true, true, true, true, true, true, true, true, true, true, true, true, true, false, false, false, false, false, false, false, false, false, false, false, false, false, false, false, false, false, false, false, false, false, false] rfl rfl (any_of HT_.out (by kernel_rfl)) (fun _ _ _ h => h) (Or.inr ⟨by rfl, rfl⟩) ?_ ?_
  rotate_left
  · simp only [Act.put, List.setIfInBounds_toArray, List.set_cons_zero, List.set_cons_succ, i64_w, i32_w]
    rfl
  refine pure_ (i := 27) (N := some 78) (v := undef) (a' := ?_) #[true, true, true, true, true, true, true, true, true, true, true, true, true, true, true, true, true, true, true, true, true, true, true, true, true, true, true, true, false, false, false, false, false, false, false, false, false, false, false, false, false, false, false, false, false, false, false, false, false] rfl rfl (any_of HT_.out (by kernel_rfl)) (fun _ _ _ h => h) (Or.inr ⟨by rfl, rfl⟩) ?_ ?_
  rotate_left
  · simp only [Act.put, List.setIfInBounds_toArray, List.set_cons_zero, List.set_cons_succ, i64_w, i32_w]
    rfl
  refine pure_ (i := 28) (N := some 79) (v := undef) (a' := ?_) #[true, true, true, true, true, true, true, true, true, true, true, true, true, true, true, true, true, true, true, true, true, true, true, true, true, true, true, true, true, false, false, false, false, false, false, false, false, false, false, false, false, false, false, false, false, false, false, false, false] rfl rfl (any_of HT_.out (by kernel_rfl)) (fun _ _ _ h => h) (Or.inr ⟨by rfl, rfl⟩) ?_ ?_
  rotate_left
  · simp only [Act.put, List.setIfInBounds_toArray, List.set_cons_zero, List.set_cons_succ, i64_w, i32_w]
    rfl
  refine pure_ (i := 29) (N := some 80) (v := undef) (a' := ?_) #[true, true, true, true, true, true, true, true, true, true, true, true, true, true, true, true, true, true, true, true, true, true, true, true, true, true, true, true, true, true, false, false, false, false, false, false, false, false, false, false, false, false, false, false, false, false, false, false, false] rfl rfl (any_of HT_.out (by kernel_rfl)) (fun _ _ _ h => h) (Or.inr ⟨by rfl, rfl⟩) ?_ ?_
  rotate_left
  · simp only [Act.put, List.setIfInBounds_toArray, List.set_cons_zero, List.set_cons_succ, i64_w, i32_w]
    rfl
  refine pure_ (i := 30) (N := some 81) (v := undef) (a' := ?_) #[true, true, true, true, true, true, true, true, true, true, true, true, true, true, true, true, true, true, true, true, true, true, true, true, true, true, true, true, true, true, true, false, false, false, false, false, false, false, false, false, false, false, false, false, false, false, false, false, false] rfl rfl (any_of HT_.out (by kernel_rfl)) (fun _ _ _ h => h) (Or.inr ⟨by rfl, rfl⟩) ?_ ?_
  rotate_left
  · simp only [Act.put, List.setIfInBounds_toArray, List.set_cons_zero, List.set_cons_succ, i64_w, i32_w]
    rfl
  refine pure_ (i := 31) (N := some 82) (v := ?_) (a' := ?_) #[true, true, true, true, true, true, true, true, true, true, true, true, true, true, true, true, true, true, true, true, true, true, true, true, true, true, true, true, true, true, true, true, false, false, false, false, false, false, false, false, false, false, false, false, false, false, false, false, false] rfl rfl (any_of HT_.out (by kernel_rfl)) (fun _ _ _ h => h) (Or.inl ⟨by rfl, ?_⟩) ?_ ?_
  rotate_left
  · intro w'
    go_simp
    with_reducible rfl
  rotate_left
  · simp only [Act.put, List.setIfInBounds_toArray, List.set_cons_zero, List.set_cons_succ, i64_w, i32_w]
    rfl
  refine pure_ (i := 32) (N := some 83) (v := ?_) (a' := ?_) #[true, true, true, true, true, true, true, true, true, true, true, true, true, true, true, true, true, true, true, true, true, true, true, true, true, true, true, true, true, true, true, true, true, false, false, false, false, false, false, false, false, false, false, false, false, false, false, false, false] rfl rfl (any_of HT_.out (by kernel_rfl)) (fun _ _ _ h => h) (Or.inl ⟨by rfl, ?_⟩) ?_ ?_
  rotate_left
  · intro w'
    go_simp
    with_reducible rfl
  rotate_left
  · simp only [Act.put, List.setIfInBounds_toArray, List.set_cons_zero, List.set_cons_succ, i64_w, i32_w]
    rfl
  refine pure_ (i := 33) (N := some 84) (v := ?_) (a' := ?_) #[true, true, true, true, true, true, true, true, true, true, true, true, true, true, true, true, true, true, true, true, true, true, true, true, true, true, true, true, true, true, true, true, true, true, false, false, false, false, false, false, false, false, false, false, false, false, false, false, false] rfl rfl (any_of HT_.out (by kernel_rfl)) (fun _ _ _ h => h) (Or.inl ⟨by rfl, ?_⟩) ?_ ?_
  rotate_left
  · intro w'
    go_simp
    with_reducible rfl
  rotate_left
  · simp only [Act.put, List.setIfInBounds_toArray, List.set_cons_zero, List.set_cons_succ, i64_w, i32_w]
    rfl
  refine pure_ (i := 34) (N := some 85) (v := ?_) (a' := ?_) #[true, true, true, true, true, true, true, true, true, true, true, true, true, true, true, true, true, true, true, true, true, true, true, true, true, true, true, true, true, true, true, true, true, true, true, false, false, false, false, false, false, false, false, false, false, false, false, false, false] rfl rfl (any_of HT_.out (by kernel_rfl)) (fun _ _ _ h => h) (Or.inl ⟨by rfl, ?_⟩) ?_ ?_
  rotate_left
  · intro w'
    go_simp
    with_reducible rfl
  rotate_left
  · simp only [Act.put, List.setIfInBounds_toArray, List.set_cons_zero, List.set_cons_succ, i64_w, i32_w]
    rfl
  refine take_ (i := 35) (N := some 86) (v := ?_) (a' := ?_) #[true, true, true, true, true, true, true, true, true, true, true, true, true, true, true, true, true, true, true, true, true, true, true, true, true, true, true, true, true, true, true, true, true, true, true, true, false, false, false, false, false, false, false, false, false, false, false, false, false] rfl rfl (take_ofW HT_.out HW_.out (by kernel_rfl)) (fun _ _ _ h => h) (Or.inl ⟨by rfl, ?_⟩) hHeld ?_ ?_
  rotate_left
  · rintro w' ⟨s0, s1, s2, s3, s4, s5, s6, s7, s8, s9, s10, s11⟩
    go_simp
    with_reducible rfl
  rotate_left
  · simp only [Act.put, List.setIfInBounds_toArray, List.set_cons_zero, List.set_cons_succ, i64_w, i32_w]
    rfl
  refine pure_ (i := 36) (N := some 87) (v := ?_) (a' := ?_) #[true, true, true, true, true, true, true, true, true, true, true, true, true, true, true, true, true, true, true, true, true, true, true, true, true, true, true, true, true, true, true, true, true, true, true, true, true, false, false, false, false, false, false, false, false, false, false, false, false] rfl rfl (any_of HT_.out (by kernel_rfl)) (fun _ _ _ h => h) (Or.inl ⟨by rfl, ?_⟩) ?_ ?_
  rotate_left
  · intro w'
    go_simp
    with_reducible rfl
  rotate_left
  · simp only [Act.put, List.setIfInBounds_toArray, List.set_cons_zero, List.set_cons_succ, i64_w, i32_w]
    rfl
  refine pure_ (i := 37) (N := some 88) (v := ?_) (a' := ?_) #[true, true, true, true, true, true, true, true, true, true, true, true, true, true, true, true, true, true, true, true, true, true, true, true, true, true, true, true, true, true, true, true, true, true, true, true, true, true, false, false, false, false, false, false, false, false, false, false, false] rfl rfl (any_of HT_.out (by kernel_rfl)) (fun _ _ _ h => h) (Or.inl ⟨by rfl, ?_⟩) ?_ ?_
  rotate_left
  · intro w'
    go_simp
    with_reducible rfl
  rotate_left
  · simp only [Act.put, List.setIfInBounds_toArray, List.set_cons_zero, List.set_cons_succ, i64_w, i32_w]
    rfl
  refine take_ (i := 38) (N := some 89) (v := ?_) (a' := ?_) #[true, true, true, true, true, true, true, true, true, true, true, true, true, true, true, true, true, true, true, true, true, true, true, true, true, true, true, true, true, true, true, true, true, true, true, true, true, true, true, false, false, false, false, false, false, false, false, false, false] rfl rfl (take_ofW HT_.out HW_.out (by kernel_rfl)) (fun _ _ _ h => h) (Or.inl ⟨by rfl, ?_⟩) hHeld ?_ ?_
  rotate_left
  · rintro w' ⟨s0, s1, s2, s3, s4, s5, s6, s7, s8, s9, s10, s11⟩
    go_simp
    with_reducible rfl
  rotate_left
  · simp only [Act.put, List.setIfInBounds_toArray, List.set_cons_zero, List.set_cons_succ, i64_w, i32_w]
    rfl
  refine take_ (i := 40) (N := some 91) (v := ?_) (a' := ?_) #[true, true, true, true, true, true, true, true, true, true, true, true, true, true, true, true, true, true, true, true, true, true, true, true, true, true, true, true, true, true, true, true, true, true, true, true, true, true, true, false, true, false, false, false, false, false, false, false, false] rfl rfl (take_ofW HT_.out HW_.out (by kernel_rfl)) (fun _ _ _ h => h) (Or.inl ⟨by rfl, ?_⟩) hHeld ?_ ?_
  rotate_left
  · rintro w' ⟨s0, s1, s2, s3, s4, s5, s6, s7, s8, s9, s10, s11⟩
    go_simp
    with_reducible rfl
  rotate_left
  · simp only [Act.put, List.setIfInBounds_toArray, List.set_cons_zero, List.set_cons_succ, i64_w, i32_w]
    rfl
  refine take_ (i := 43) (N := some 94) (v := ?_) (a' := ?_) #[true, true, true, true, true, true, true, true, true, true, true, true, true, true, true, true, true, true, true, true, true, true, true, true, true, true, true, true, true, true, true, true, true, true, true, true, true, true, true, false, true, false, false, true, false, false, false, false, false] rfl rfl (take_ofW HT_.out HW_.out (by kernel_rfl)) (fun _ _ _ h => h) (Or.inl ⟨by rfl, ?_⟩) hHeld ?_ ?_
  rotate_left
  · rintro w' ⟨s0, s1, s2, s3, s4, s5, s6, s7, s8, s9, s10, s11⟩
    go_simp
    with_reducible rfl
  rotate_left
  · simp only [Act.put, List.setIfInBounds_toArray, List.set_cons_zero, List.set_cons_succ, i64_w, i32_w]
    rfl
  refine take_ (i := 44) (N := some 95) (v := ?_) (a' := ?_) #[true, true, true, true, true, true, true, true, true, true, true, true, true, true, true, true, true, true, true, true, true, true, true, true, true, true, true, true, true, true, true, true, true, true, true, true, true, true, true, false, true, false, false, true, true, false, false, false, false] rfl rfl (take_ofW HT_.out HW_.out (by kernel_rfl)) (fun _ _ _ h => h) (Or.inl ⟨by rfl, ?_⟩) hHeld ?_ ?_
  rotate_left
  · rintro w' ⟨s0, s1, s2, s3, s4, s5, s6, s7, s8, s9, s10, s11⟩
    go_simp
    with_reducible rfl
  rotate_left
  · simp only [Act.put, List.setIfInBounds_toArray, List.set_cons_zero, List.set_cons_succ, i64_w, i32_w]
    rfl
  refine pure_ (i := 45) (N := some 96) (v := ?_) (a' := ?_) #[true, true, true, true, true, true, true, true, true, true, true, true, true, true, true, true, true, true, true, true, true, true, true, true, true, true, true, true, true, true, true, true, true, true, true, true, true, true, true, false, true, false, false, true, true, true, false, false, false] rfl rfl (any_of HT_.out (by kernel_rfl)) (fun _ _ _ h => h) (Or.inl ⟨by rfl, ?_⟩) ?_ ?_
  rotate_left
  · intro w'
    go_simp
    with_reducible rfl
  rotate_left
  · simp only [Act.put, List.setIfInBounds_toArray, List.set_cons_zero, List.set_cons_succ, i64_w, i32_w]
    rfl
  refine one_ (i := 39) (N := some 90) #[true, true, true, true, true, true, true, true, true, true, true, true, true, true, true, true, true, true, true, true, true, true, true, true, true, true, true, true, true, true, true, true, true, true, true, true, true, true, true, true, true, false, false, true, true, true, false, false, false] rfl rfl (one_of HT_.out (by kernel_rfl)) (by decide) (fun K hK => ?_)
  refine goes_ Tryd.func30 (by kernel_rfl) rfl #[.agg #[.int .u64 t5282, .int .u64 t5283, .int .u64 t5284, .int .u64 t5285]] (by rfl) rfl rfl (by (try simp only [List.map_toArray, List.map_cons, List.map_nil]); first | done | rfl | (simp only [List.length_drop, List.length_take]; rfl)) ?_
  refine (BigText.callsT w HT _ (by repeat (first | (with_reducible first | exact HB.out | apply below_alloc | apply pw_below_drewN | apply below_drew1 | refine below_set ?_ GE5279.out | refine below_set ?_ GE5280.out | refine below_set ?_ GE5286.out | refine below_set ?_ GE5291.out | refine below_set ?_ GE5299.out | refine below_set ?_ GE5300.out | refine below_set ?_ GE5307.out | refine below_set ?_ GE5308.out) | exact HB.out)) t5282 t5283 t5284 t5285 t5315 A25.out).mono ?_
  rintro e w83 ⟨rfl, hb⟩
  refine ⟨_, rfl, ?_⟩
  have n0_ := Aside0.mk (blk_below (g := gb5279) (o := .cells #[.int .u64 a0_0, .int .u64 a0_1, .int .u64 a0_2, .int .u64 a0_3, .bool a0_4] 26 (0, 0)) (by (with_reducible repeat (first | refine blk_drewN ?_ _ | refine blk_drew ?_ | refine blk_alloc ?_ _)); exact BK5279.out) hb)
  have n1_ := Aside0.mk (blk_below (g := gb5280) (o := .cells #[.int .u64 a1_0, .int .u64 a1_1, .int .u64 a1_2, .int .u64 a1_3, .bool a1_4] 26 (0, 0)) (by (with_reducible repeat (first | refine blk_drewN ?_ _ | refine blk_drew ?_ | refine blk_alloc ?_ _)); exact BK5280.out) hb)
  have n2_ := Aside0.mk (blk_below (g := gb5286) (o := .cells #[.int .u64 t5282, .int .u64 t5283, .int .u64 t5284, .int .u64 t5285] 24 (0, 0)) (by (with_reducible repeat (first | refine blk_drewN ?_ _ | refine blk_drew ?_ | refine blk_alloc ?_ _)); exact BK5286.out) hb)
  have n3_ := Aside0.mk (blk_below (g := gb5291) (o := .cells #[.int .u64 t5287, .int .u64 t5288, .int .u64 t5289, .int .u64 t5290] 24 (0, 0)) (by (with_reducible repeat (first | refine blk_drewN ?_ _ | refine blk_drew ?_ | refine blk_alloc ?_ _)); exact BK5291.out) hb)
  have n4_ := Aside0.mk (blk_below (g := gb5299) (o := .cells #[.int .u64 t5293, .int .u64 t5294, .int .u64 t5295, .int .u64 t5296] 24 (0, 0)) (by (with_reducible repeat (first | refine blk_drewN ?_ _ | refine blk_drew ?_ | refine blk_alloc ?_ _)); exact BK5299.out) hb)
  have n5_ := Aside0.mk (blk_below (g := gb5300) (o := .cells #[.string t5297, .bool true] 51 (0, 0)) (by (with_reducible repeat (first | refine blk_drewN ?_ _ | refine blk_drew ?_ | refine blk_alloc ?_ _)); exact BK5300.out) hb)
  have n6_ := Aside0.mk (blk_below (g := gb5307) (o := .cells #[.int .u64 t5301, .int .u64 t5302, .int .u64 t5303, .int .u64 t5304] 24 (0, 0)) (by (with_reducible repeat (first | refine blk_drewN ?_ _ | refine blk_drew ?_ | refine blk_alloc ?_ _)); exact BK5307.out) hb)
  have n7_ := Aside0.mk (blk_below (g := gb5308) (o := .cells #[.string t5305, .bool true] 51 (0, 0)) (by (with_reducible repeat (first | refine blk_drewN ?_ _ | refine blk_drew ?_ | refine blk_alloc ?_ _)); exact BK5308.out) hb)
  have n8_ := Aside0.mk (below_step (by repeat (first | (with_reducible first | exact HB.out | apply below_alloc | apply pw_below_drewN | apply below_drew1 | refine below_set ?_ GE5279.out | refine below_set ?_ GE5280.out | refine below_set ?_ GE5286.out | refine below_set ?_ GE5291.out | refine below_set ?_ GE5299.out | refine below_set ?_ GE5300.out | refine below_set ?_ GE5307.out | refine below_set ?_ GE5308.out) | exact HB.out)) hb)
  clear BK5279
  clear BK5280
  clear BK5286
  clear BK5291
  clear BK5299
  clear BK5300
  clear BK5307
  clear BK5308
  clear HB
  have BK5279 := n0_
  have BK5280 := n1_
  have BK5286 := n2_
  have BK5291 := n3_
  have BK5299 := n4_
  have BK5300 := n5_
  have BK5307 := n6_
  have BK5308 := n7_
  have HB := n8_
  clear n0_ n1_ n2_ n3_ n4_ n5_ n6_ n7_ n8_
  (try clear hb)
  (try clear hb2)
  (try clear hk)
  (try clear hi)
  refine hK.out _ _ ⟨(blk_cell BK5291.out 0).trans rfl, (blk_cell BK5291.out 1).trans rfl, (blk_cell BK5291.out 2).trans rfl, (blk_cell BK5291.out 3).trans rfl, (blk_cell BK5286.out 0).trans rfl, (blk_cell BK5286.out 1).trans rfl, (blk_cell BK5286.out 2).trans rfl, (blk_cell BK5286.out 3).trans rfl, (blk_cell BK5300.out 0).trans rfl, (blk_cell BK5300.out 1).trans rfl, (blk_cell BK5308.out 0).trans rfl, (blk_cell BK5308.out 1).trans rfl⟩ (fun hHeld => ?_)
  clear hK K
  refine norm_ (a' := ?_) ?_ ?_
  rotate_left
  · show Act.put _ (some 90) _ = _
    simp only [Act.put, List.setIfInBounds_toArray, List.set_cons_zero, List.set_cons_succ, i64_w, i32_w]
    rfl
  refine one_ (i := 41) (N := some 92) #[true, true, true, true, true, true, true, true, true, true, true, true, true, true, true, true, true, true, true, true, true, true, true, true, true, true, true, true, true, true, true, true, true, true, true, true, true, true, true, true, true, true, false, true, true, true, false, false, false] rfl rfl (one_of HT_.out (by kernel_rfl)) (by decide) (fun K hK => ?_)
  refine goes_ Tryd.func30 (by kernel_rfl) rfl #[.agg #[.int .u64 t5287, .int .u64 t5288, .int .u64 t5289, .int .u64 t5290]] (by rfl) rfl rfl (by (try simp only [List.map_toArray, List.map_cons, List.map_nil]); first | done | rfl | (simp only [List.length_drop, List.length_take]; rfl)) ?_
  refine (BigText.callsT w HT _ (by repeat (first | (with_reducible first | exact HB.out | apply below_alloc | apply pw_below_drewN | apply below_drew1 | refine below_set ?_ GE5279.out | refine below_set ?_ GE5280.out | refine below_set ?_ GE5286.out | refine below_set ?_ GE5291.out | refine below_set ?_ GE5299.out | refine below_set ?_ GE5300.out | refine below_set ?_ GE5307.out | refine below_set ?_ GE5308.out) | exact HB.out)) t5287 t5288 t5289 t5290 t5316 A26.out).mono ?_
  rintro e w84 ⟨rfl, hb⟩
  refine ⟨_, rfl, ?_⟩
  have n0_ := Aside0.mk (blk_below (g := gb5279) (o := .cells #[.int .u64 a0_0, .int .u64 a0_1, .int .u64 a0_2, .int .u64 a0_3, .bool a0_4] 26 (0, 0)) (by (with_reducible repeat (first | refine blk_drewN ?_ _ | refine blk_drew ?_ | refine blk_alloc ?_ _)); exact BK5279.out) hb)
  have n1_ := Aside0.mk (blk_below (g := gb5280) (o := .cells #[.int .u64 a1_0, .int .u64 a1_1, .int .u64 a1_2, .int .u64 a1_3, .bool a1_4] 26 (0, 0)) (by (with_reducible repeat (first | refine blk_drewN ?_ _ | refine blk_drew ?_ | refine blk_alloc ?_ _)); exact BK5280.out) hb)
  have n2_ := Aside0.mk (blk_below (g := gb5286) (o := .cells #[.int .u64 t5282, .int .u64 t5283, .int .u64 t5284, .int .u64 t5285] 24 (0, 0)) (by (with_reducible repeat (first | refine blk_drewN ?_ _ | refine blk_drew ?_ | refine blk_alloc ?_ _)); exact BK5286.out) hb)
  have n3_ := Aside0.mk (blk_below (g := gb5291) (o := .cells #[.int .u64 t5287, .int .u64 t5288, .int .u64 t5289, .int .u64 t5290] 24 (0, 0)) (by (with_reducible repeat (first | refine blk_drewN ?_ _ | refine blk_drew ?_ | refine blk_alloc ?_ _)); exact BK5291.out) hb)
  have n4_ := Aside0.mk (blk_below (g := gb5299) (o := .cells #[.int .u64 t5293, .int .u64 t5294, .int .u64 t5295, .int .u64 t5296] 24 (0, 0)) (by (with_reducible repeat (first | refine blk_drewN ?_ _ | refine blk_drew ?_ | refine blk_alloc ?_ _)); exact BK5299.out) hb)
  have n5_ := Aside0.mk (blk_below (g := gb5300) (o := .cells #[.string t5297, .bool true] 51 (0, 0)) (by (with_reducible repeat (first | refine blk_drewN ?_ _ | refine blk_drew ?_ | refine blk_alloc ?_ _)); exact BK5300.out) hb)
  have n6_ := Aside0.mk (blk_below (g := gb5307) (o := .cells #[.int .u64 t5301, .int .u64 t5302, .int .u64 t5303, .int .u64 t5304] 24 (0, 0)) (by (with_reducible repeat (first | refine blk_drewN ?_ _ | refine blk_drew ?_ | refine blk_alloc ?_ _)); exact BK5307.out) hb)
  have n7_ := Aside0.mk (blk_below (g := gb5308) (o := .cells #[.string t5305, .bool true] 51 (0, 0)) (by (with_reducible repeat (first | refine blk_drewN ?_ _ | refine blk_drew ?_ | refine blk_alloc ?_ _)); exact BK5308.out) hb)
  have n8_ := Aside0.mk (below_step (by repeat (first | (with_reducible first | exact HB.out | apply below_alloc | apply pw_below_drewN | apply below_drew1 | refine below_set ?_ GE5279.out | refine below_set ?_ GE5280.out | refine below_set ?_ GE5286.out | refine below_set ?_ GE5291.out | refine below_set ?_ GE5299.out | refine below_set ?_ GE5300.out | refine below_set ?_ GE5307.out | refine below_set ?_ GE5308.out) | exact HB.out)) hb)
  clear BK5279
  clear BK5280
  clear BK5286
  clear BK5291
  clear BK5299
  clear BK5300
  clear BK5307
  clear BK5308
  clear HB
  have BK5279 := n0_
  have BK5280 := n1_
  have BK5286 := n2_
  have BK5291 := n3_
  have BK5299 := n4_
  have BK5300 := n5_
  have BK5307 := n6_
  have BK5308 := n7_
  have HB := n8_
  clear n0_ n1_ n2_ n3_ n4_ n5_ n6_ n7_ n8_
  (try clear hb)
  (try clear hb2)
  (try clear hk)
  (try clear hi)
  refine hK.out _ _ ⟨(blk_cell BK5291.out 0).trans rfl, (blk_cell BK5291.out 1).trans rfl, (blk_cell BK5291.out 2).trans rfl, (blk_cell BK5291.out 3).trans rfl, (blk_cell BK5286.out 0).trans rfl, (blk_cell BK5286.out 1).trans rfl, (blk_cell BK5286.out 2).trans rfl, (blk_cell BK5286.out 3).trans rfl, (blk_cell BK5300.out 0).trans rfl, (blk_cell BK5300.out 1).trans rfl, (blk_cell BK5308.out 0).trans rfl, (blk_cell BK5308.out 1).trans rfl⟩ (fun hHeld => ?_)
  clear hK K
  refine norm_ (a' := ?_) ?_ ?_
  rotate_left
  · show Act.put _ (some 92) _ = _
    simp only [Act.put, List.setIfInBounds_toArray, List.set_cons_zero, List.set_cons_succ, i64_w, i32_w]
    rfl
  refine pure_ (i := 42) (N := some 93) (v := ?_) (a' := ?_) #[true, true, true, true, true, true, true, true, true, true, true, true, true, true, true, true, true, true, true, true, true, true, true, true, true, true, true, true, true, true, true, true, true, true, true, true, true, true, true, true, true, true, true, true, true, true, false, false, false] rfl rfl (any_of HT_.out (by kernel_rfl)) (fun _ _ _ h => h) (Or.inl ⟨by rfl, ?_⟩) ?_ ?_
  rotate_left
  · intro w'
    go_simp
    with_reducible rfl
  rotate_left
  · simp only [Act.put, List.setIfInBounds_toArray, List.set_cons_zero, List.set_cons_succ, i64_w, i32_w]
    rfl
  refine pure_ (i := 46) (N := some 97) (v := ?_) (a' := ?_) #[true, true, true, true, true, true, true, true, true, true, true, true, true, true, true, true, true, true, true, true, true, true, true, true, true, true, true, true, true, true, true, true, true, true, true, true, true, true, true, true, true, true, true, true, true, true, true, false, false] rfl rfl (any_of HT_.out (by kernel_rfl)) (fun _ _ _ h => h) (Or.inl ⟨by rfl, ?_⟩) ?_ ?_
  rotate_left
  · intro w'
    go_simp
    with_reducible rfl
  rotate_left
  · simp only [Act.put, List.setIfInBounds_toArray, List.set_cons_zero, List.set_cons_succ, i64_w, i32_w]
    rfl
  refine pure_ (i := 47) (N := some 98) (v := ?_) (a' := ?_) #[true, true, true, true, true, true, true, true, true, true, true, true, true, true, true, true, true, true, true, true, true, true, true, true, true, true, true, true, true, true, true, true, true, true, true, true, true, true, true, true, true, true, true, true, true, true, true, true, false] rfl rfl (any_of HT_.out (by kernel_rfl)) (fun _ _ _ h => h) (Or.inl ⟨by rfl, ?_⟩) ?_ ?_
  rotate_left
  · intro w'
    go_simp
    with_reducible rfl
  rotate_left
  · simp only [Act.put, List.setIfInBounds_toArray, List.set_cons_zero, List.set_cons_succ, i64_w, i32_w]
    rfl
  refine pure_ (i := 48) (N := some 8) (v := ?_) (a' := ?_) #[true, true, true, true, true, true, true, true, true, true, true, true, true, true, true, true, true, true, true, true, true, true, true, true, true, true, true, true, true, true, true, true, true, true, true, true, true, true, true, true, true, true, true, true, true, true, true, true, true] rfl rfl (any_of HT_.out (by kernel_rfl)) (fun _ _ _ h => h) (Or.inl ⟨by rfl, ?_⟩) ?_ ?_
  rotate_left
  · intro w'
    go_simp
    with_reducible rfl
  rotate_left
  · simp only [Act.put, List.setIfInBounds_toArray, List.set_cons_zero, List.set_cons_succ, i64_w, i32_w]
    rfl
  refine done_ (done_of HT_.out (by kernel_rfl)) ?_
  try go_wp2
  go_ret
  exact ⟨by first | rfl | (simp [errW_none, errW_some] <;> rfl) | (simp only [← hji14]; first | rfl | (simp [errW_none, errW_some] <;> rfl)) | (simp [*, errW_none, errW_some] <;> rfl), by repeat (first | (with_reducible first | exact HB.out | apply below_alloc | apply pw_below_drewN | apply below_drew1 | refine below_set ?_ GE5279.out | refine below_set ?_ GE5280.out | refine below_set ?_ GE5286.out | refine below_set ?_ GE5291.out | refine below_set ?_ GE5299.out | refine below_set ?_ GE5300.out | refine below_set ?_ GE5307.out | refine below_set ?_ GE5308.out) | exact HB.out)⟩

end Go.Proofs.YtakhahfegialfaaDoor.Q
