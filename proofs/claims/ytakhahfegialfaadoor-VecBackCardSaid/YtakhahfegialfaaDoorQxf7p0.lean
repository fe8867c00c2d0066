-- Written by this session's own driver (wip/hybrid.py) of the kit's printer; contracts marked FOREIGN are by hand.
import Derived.Test.YtakhahfegialfaaDoorQx0
import Derived.Test.YtakhahfegialfaaDoorQxe24
import Derived.Test.YtakhahfegialfaaDoorQxf20
import Derived.Test.YtakhahfegialfaaDoorQxf28
import Derived.Test.YtakhahfegialfaaDoorQxf41
import Derived.Test.YtakhahfegialfaaDoorQxf33
import Derived.Test.YtakhahfegialfaaDoorQxf10
import Derived.Test.YtakhahfegialfaaDoorQxf11
namespace Go.Proofs.YtakhahfegialfaaDoor.Q
open Go.RowKit Go.Proofs.YtakhahfegialfaaDoorW.PrintWords Go.Proofs.YtakhahfegialfaaDoorW.PrintLast Go.Proofs.YtakhahfegialfaaDoorW.PrintMore
attribute [local go_sem] max2_int min2_int max_two min_two max_three min_three max_four min_four   -- for this text's walks alone
set_option linter.unusedVariables false
set_option linter.unusedSimpArgs false

attribute [local go_sem] ixA24_0 ixA24_1 ixA24_2 ixA24_3   -- for this text's walks alone
attribute [local go_sem high] eqA24
/-! ### tenementlaw06_VecBack_p0: function 7 -/
def tenementlaw06_VecBack_p0.f (k : Nat) (a0_0 : Int) (a0_1 : Int) (a0_2 : Int) (a0_3 : Int) (a0_4 : Bool) (a1_0 : Int) (a1_1 : Int) (a1_2 : Int) (a1_3 : Int) (a1_4 : Bool) (a2 : ByteArray) (a3 : Int) : Option (Bool) := (tenementlaw06_examples.f k).bind fun t5201 => (if t5201 = true then ((tenementlaw06_Vector_vector.f k a0_0 a0_1 a0_2 a0_3 a0_4).bind fun bt5202 => ((tenementlaw06_Vector_vector.f k a1_0 a1_1 a1_2 a1_3 a1_4).bind fun bt5207 => ((vec_Put.f k bt5202.1 bt5202.2.1 bt5202.2.2.1 bt5202.2.2.2).bind fun t5212 => (if t5212.toList = ([] : List UInt8) then (none) else (if t5212.size + a2.size ≤ 9223372036854775807 then ((vec_Get.f k (t5212 ++ a2) false).bind fun bt5213 => (if (t5212.size : Int) = 0 then (none) else (if 0 ≤ (Int.tmod (wrap64 (a3)) (t5212.size : Int)) then (if (Int.tmod (wrap64 (a3)) (t5212.size : Int)) ≤ (t5212.size : Int) then ((vec_Get.f k (t5212.extract 0 ((Int.tmod (wrap64 (a3)) (t5212.size : Int)) : Int).toNat) false).bind fun bt5221 => ((vec_Right.f bt5202.1 bt5202.2.1 bt5202.2.2.1 bt5202.2.2.2).bind fun t5229 => ((vec_Put.f k bt5207.1 bt5207.2.1 bt5207.2.2.1 bt5207.2.2.2).bind fun t5230 => (if t5212.toList = t5230.toList then (if (bt5202.1 == bt5207.1 && (bt5202.2.1 == bt5207.2.1 && (bt5202.2.2.1 == bt5207.2.2.1 && (bt5202.2.2.2 == bt5207.2.2.2)))) = true then (if bt5213.2.2.2.2.2 = true then (if t5229 = true then (none) else (if bt5221.2.2.2.2.2 = true then ((BigText.g bt5202.1 bt5202.2.1 bt5202.2.2.1 bt5202.2.2.2).bind fun t5231 => ((BigText.g bt5207.1 bt5207.2.1 bt5207.2.2.1 bt5207.2.2.2).bind fun t5232 => (if t5231.toList = t5232.toList then (some true) else (none)))) else (none))) else (none)) else (none)) else (none))))) else (none)) else (none)))) else (none)))))) else (none))
theorem tenementlaw06_VecBack_p0.mono : ∀ a0 a1 a2 a3 a4 a5 a6 a7 a8 a9 a10 a11 k, LeO (tenementlaw06_VecBack_p0.f k a0 a1 a2 a3 a4 a5 a6 a7 a8 a9 a10 a11) (tenementlaw06_VecBack_p0.f (k + 1) a0 a1 a2 a3 a4 a5 a6 a7 a8 a9 a10 a11) := by
  intro a0 a1 a2 a3 a4 a5 a6 a7 a8 a9 a10 a11 k
  unfold tenementlaw06_VecBack_p0.f
  repeat' first
      | (with_reducible exact tenementlaw06_Vector_vector.mono _ _ _ _ _ _)
      | (with_reducible exact tenementlaw06_examples.mono _)
      | (with_reducible exact vec_Get.mono _ _ _)
      | (with_reducible exact vec_Put.mono _ _ _ _ _)
      | (with_reducible exact LeO.refl _)
      | (with_reducible exact LeO.none _)
      | (with_reducible refine LeO.ite ?_ ?_)
      | (with_reducible refine LeO.bind ?_ (fun _ => ?_))
      | exact tenementlaw06_Vector_vector.mono _ _ _ _ _ _
      | exact tenementlaw06_examples.mono _
      | exact vec_Get.mono _ _ _
      | exact vec_Put.mono _ _ _ _ _
      | exact LeO.none _
      | refine LeO.ite ?_ ?_
      | refine LeO.bind ?_ (fun _ => ?_)
def tenementlaw06_VecBack_p0.T12 : Bool × List (List Nat × List Nat) := (true, [([], []), ([0], [0]), ([1], [1]), ([1], [1]), ([3, 1, 1], [1, 3]), ([2, 4, 1], [1, 2, 4]), ([1], [1]), ([1], [1]), ([6, 7, 1], [1, 6, 7]), ([5, 8, 1], [1, 5, 8]), ([1, 9], [1, 9]), ([10, 4], [10]), ([11], [11]), ([12, 11], [11, 12]), ([11], [11]), ([14, 11], [11, 14]), ([13, 15, 11], [11, 13, 15]), ([11, 16], [11, 16]), ([17, 11], [17]), ([18], [18]), ([19, 18], [18, 19]), ([20, 18, 18], [18, 20]), ([21], [21]), ([21], [21]), ([22, 23, 21], [21, 22, 23]), ([24, 21, 21], [21, 24]), ([25], [25]), ([26, 25], [25, 26]), ([25], [25]), ([27, 28, 25], [25, 27, 28]), ([25, 29, 21], [21, 25, 29]), ([21, 30, 18], [18, 21, 30]), ([18, 31], [18, 31]), ([32, 25], [32]), ([33], [33]), ([34, 33], [33, 34]), ([33, 35], [33, 35]), ([36, 33], [36]), ([37], [37]), ([38, 37, 37], [37, 38]), ([37], [37]), ([40, 39, 37], [37, 40]), ([39, 41, 37], [37, 39, 41]), ([37], [37]), ([37], [37]), ([43, 44, 37], [37, 43, 44]), ([42, 45, 37], [37, 42, 45]), ([37, 46], [37, 46]), ([47, 41, 0, 1, 2, 3, 4, 5, 6, 7, 8, 9, 10, 11, 12, 13, 14, 15, 16, 17, 18, 19, 20, 21, 22, 23, 24, 25, 26, 27, 28, 29, 30, 31, 32, 33, 34, 35, 36, 37, 38, 39, 40, 41, 42, 43, 44, 45, 46, 47], [47])])
def tenementlaw06_VecBack_p0.B12 : List Nat := [0, 1, 3, 3, 11, 31, 3, 3, 195, 511, 1023, 2047, 4095, 8191, 4095, 20479, 65535, 131071, 262143, 524287, 1048575, 2097151, 4194303, 4194303, 16777215, 33554431, 67108863, 134217727, 67108863, 536870911, 1073741823, 2147483647, 4294967295, 8589934591, 17179869183, 34359738367, 68719476735, 137438953471, 274877906943, 549755813887, 274877906943, 2199023255551, 4398046511103, 274877906943, 274877906943, 26663156973567, 70368744177663, 140737488355327, 281474976710655]
theorem tenementlaw06_VecBack_p0.tab12 : rtab .any (opsOf Tryd.f7 12) = tenementlaw06_VecBack_p0.T12 := by kernel_rfl
theorem tenementlaw06_VecBack_p0.bits12 : waitsOk tenementlaw06_VecBack_p0.T12.2 tenementlaw06_VecBack_p0.B12 = true := by kernel_rfl
set_option maxHeartbeats 8000000 in
set_option maxRecDepth 100000 in
theorem tenementlaw06_VecBack_p0.calls (k : Nat) (a0_0 : Int) (a0_1 : Int) (a0_2 : Int) (a0_3 : Int) (a0_4 : Bool) (a1_0 : Int) (a1_1 : Int) (a1_2 : Int) (a1_3 : Int) (a1_4 : Bool) (a2 : ByteArray) (a3 : Int) (r : Bool) (w : World) (HT : BigText.Tab w) (h : tenementlaw06_VecBack_p0.f k a0_0 a0_1 a0_2 a0_3 a0_4 a1_0 a1_1 a1_2 a1_3 a1_4 a2 a3 = some r) :
    Calls Tryd.prog 7 #[.agg #[.int .u64 a0_0, .int .u64 a0_1, .int .u64 a0_2, .int .u64 a0_3, .bool a0_4], .agg #[.int .u64 a1_0, .int .u64 a1_1, .int .u64 a1_2, .int .u64 a1_3, .bool a1_4], .string a2, .int .u8 a3] w fun e w' => e = .returned (.bool r) ∧ Below w.heap.size w w' := by
  have hu26 := Tryd.underlying26
  have hu24 := Tryd.underlying24
  have hu51 := Tryd.underlying51
  have HB := Aside0.mk (Below.refl w.heap.size w)
  have H : ((tenementlaw06_examples.f k).bind fun t5201 => (if t5201 = true then ((tenementlaw06_Vector_vector.f k a0_0 a0_1 a0_2 a0_3 a0_4).bind fun bt5202 => ((tenementlaw06_Vector_vector.f k a1_0 a1_1 a1_2 a1_3 a1_4).bind fun bt5207 => ((vec_Put.f k bt5202.1 bt5202.2.1 bt5202.2.2.1 bt5202.2.2.2).bind fun t5212 => (if t5212.toList = ([] : List UInt8) then (none) else (if t5212.size + a2.size ≤ 9223372036854775807 then ((vec_Get.f k (t5212 ++ a2) false).bind fun bt5213 => (if (t5212.size : Int) = 0 then (none) else (if 0 ≤ (Int.tmod (wrap64 (a3)) (t5212.size : Int)) then (if (Int.tmod (wrap64 (a3)) (t5212.size : Int)) ≤ (t5212.size : Int) then ((vec_Get.f k (t5212.extract 0 ((Int.tmod (wrap64 (a3)) (t5212.size : Int)) : Int).toNat) false).bind fun bt5221 => ((vec_Right.f bt5202.1 bt5202.2.1 bt5202.2.2.1 bt5202.2.2.2).bind fun t5229 => ((vec_Put.f k bt5207.1 bt5207.2.1 bt5207.2.2.1 bt5207.2.2.2).bind fun t5230 => (if t5212.toList = t5230.toList then (if (bt5202.1 == bt5207.1 && (bt5202.2.1 == bt5207.2.1 && (bt5202.2.2.1 == bt5207.2.2.1 && (bt5202.2.2.2 == bt5207.2.2.2)))) = true then (if bt5213.2.2.2.2.2 = true then (if t5229 = true then (none) else (if bt5221.2.2.2.2.2 = true then ((BigText.g bt5202.1 bt5202.2.1 bt5202.2.2.1 bt5202.2.2.2).bind fun t5231 => ((BigText.g bt5207.1 bt5207.2.1 bt5207.2.2.1 bt5207.2.2.2).bind fun t5232 => (if t5231.toList = t5232.toList then (some true) else (none)))) else (none))) else (none)) else (none)) else (none))))) else (none)) else (none)))) else (none)))))) else (none))) = some r := h
  clear h
  replace H := Option.bind_eq_some_iff.mp H
  obtain ⟨t5201, A50, H⟩ := H
  replace H : (if t5201 = true then ((tenementlaw06_Vector_vector.f k a0_0 a0_1 a0_2 a0_3 a0_4).bind fun bt5202 => ((tenementlaw06_Vector_vector.f k a1_0 a1_1 a1_2 a1_3 a1_4).bind fun bt5207 => ((vec_Put.f k bt5202.1 bt5202.2.1 bt5202.2.2.1 bt5202.2.2.2).bind fun t5212 => (if t5212.toList = ([] : List UInt8) then (none) else (if t5212.size + a2.size ≤ 9223372036854775807 then ((vec_Get.f k (t5212 ++ a2) false).bind fun bt5213 => (if (t5212.size : Int) = 0 then (none) else (if 0 ≤ (Int.tmod (wrap64 (a3)) (t5212.size : Int)) then (if (Int.tmod (wrap64 (a3)) (t5212.size : Int)) ≤ (t5212.size : Int) then ((vec_Get.f k (t5212.extract 0 ((Int.tmod (wrap64 (a3)) (t5212.size : Int)) : Int).toNat) false).bind fun bt5221 => ((vec_Right.f bt5202.1 bt5202.2.1 bt5202.2.2.1 bt5202.2.2.2).bind fun t5229 => ((vec_Put.f k bt5207.1 bt5207.2.1 bt5207.2.2.1 bt5207.2.2.2).bind fun t5230 => (if t5212.toList = t5230.toList then (if (bt5202.1 == bt5207.1 && (bt5202.2.1 == bt5207.2.1 && (bt5202.2.2.1 == bt5207.2.2.1 && (bt5202.2.2.2 == bt5207.2.2.2)))) = true then (if bt5213.2.2.2.2.2 = true then (if t5229 = true then (none) else (if bt5221.2.2.2.2.2 = true then ((BigText.g bt5202.1 bt5202.2.1 bt5202.2.2.1 bt5202.2.2.2).bind fun t5231 => ((BigText.g bt5207.1 bt5207.2.1 bt5207.2.2.1 bt5207.2.2.2).bind fun t5232 => (if t5231.toList = t5232.toList then (some true) else (none)))) else (none))) else (none)) else (none)) else (none))))) else (none)) else (none)))) else (none)))))) else (none)) = some r := H
  have A5 := Aside0.mk A50
  clear A50
  by_cases c6 : t5201 = true
  rotate_left
  · replace c6 := Bool.eq_false_iff.mpr c6
    subst c6
    have H1 : (none) = some r := by rw [if_neg (show ¬ (false = true) by decide)] at H; exact H
    clear H
    have H := H1
    clear H1
    exact absurd H (by simp)
  subst c6
  have H1 : ((tenementlaw06_Vector_vector.f k a0_0 a0_1 a0_2 a0_3 a0_4).bind fun bt5202 => ((tenementlaw06_Vector_vector.f k a1_0 a1_1 a1_2 a1_3 a1_4).bind fun bt5207 => ((vec_Put.f k bt5202.1 bt5202.2.1 bt5202.2.2.1 bt5202.2.2.2).bind fun t5212 => (if t5212.toList = ([] : List UInt8) then (none) else (if t5212.size + a2.size ≤ 9223372036854775807 then ((vec_Get.f k (t5212 ++ a2) false).bind fun bt5213 => (if (t5212.size : Int) = 0 then (none) else (if 0 ≤ (Int.tmod (wrap64 (a3)) (t5212.size : Int)) then (if (Int.tmod (wrap64 (a3)) (t5212.size : Int)) ≤ (t5212.size : Int) then ((vec_Get.f k (t5212.extract 0 ((Int.tmod (wrap64 (a3)) (t5212.size : Int)) : Int).toNat) false).bind fun bt5221 => ((vec_Right.f bt5202.1 bt5202.2.1 bt5202.2.2.1 bt5202.2.2.2).bind fun t5229 => ((vec_Put.f k bt5207.1 bt5207.2.1 bt5207.2.2.1 bt5207.2.2.2).bind fun t5230 => (if t5212.toList = t5230.toList then (if (bt5202.1 == bt5207.1 && (bt5202.2.1 == bt5207.2.1 && (bt5202.2.2.1 == bt5207.2.2.1 && (bt5202.2.2.2 == bt5207.2.2.2)))) = true then (if bt5213.2.2.2.2.2 = true then (if t5229 = true then (none) else (if bt5221.2.2.2.2.2 = true then ((BigText.g bt5202.1 bt5202.2.1 bt5202.2.2.1 bt5202.2.2.2).bind fun t5231 => ((BigText.g bt5207.1 bt5207.2.1 bt5207.2.2.1 bt5207.2.2.2).bind fun t5232 => (if t5231.toList = t5232.toList then (some true) else (none)))) else (none))) else (none)) else (none)) else (none))))) else (none)) else (none)))) else (none)))))) = some r := by rw [if_pos rfl] at H; exact H
  clear H
  have H := H1
  clear H1
  replace H := Option.bind_eq_some_iff.mp H
  obtain ⟨⟨t5202, t5203, t5204, t5205⟩, A70, H⟩ := H
  replace H : ((tenementlaw06_Vector_vector.f k a1_0 a1_1 a1_2 a1_3 a1_4).bind fun bt5207 => ((vec_Put.f k t5202 t5203 t5204 t5205).bind fun t5212 => (if t5212.toList = ([] : List UInt8) then (none) else (if t5212.size + a2.size ≤ 9223372036854775807 then ((vec_Get.f k (t5212 ++ a2) false).bind fun bt5213 => (if (t5212.size : Int) = 0 then (none) else (if 0 ≤ (Int.tmod (wrap64 (a3)) (t5212.size : Int)) then (if (Int.tmod (wrap64 (a3)) (t5212.size : Int)) ≤ (t5212.size : Int) then ((vec_Get.f k (t5212.extract 0 ((Int.tmod (wrap64 (a3)) (t5212.size : Int)) : Int).toNat) false).bind fun bt5221 => ((vec_Right.f t5202 t5203 t5204 t5205).bind fun t5229 => ((vec_Put.f k bt5207.1 bt5207.2.1 bt5207.2.2.1 bt5207.2.2.2).bind fun t5230 => (if t5212.toList = t5230.toList then (if (t5202 == bt5207.1 && (t5203 == bt5207.2.1 && (t5204 == bt5207.2.2.1 && (t5205 == bt5207.2.2.2)))) = true then (if bt5213.2.2.2.2.2 = true then (if t5229 = true then (none) else (if bt5221.2.2.2.2.2 = true then ((BigText.g t5202 t5203 t5204 t5205).bind fun t5231 => ((BigText.g bt5207.1 bt5207.2.1 bt5207.2.2.1 bt5207.2.2.2).bind fun t5232 => (if t5231.toList = t5232.toList then (some true) else (none)))) else (none))) else (none)) else (none)) else (none))))) else (none)) else (none)))) else (none))))) = some r := H
  have A7 := Aside0.mk A70
  clear A70
  replace H := Option.bind_eq_some_iff.mp H
  obtain ⟨⟨t5207, t5208, t5209, t5210⟩, A80, H⟩ := H
  replace H : ((vec_Put.f k t5202 t5203 t5204 t5205).bind fun t5212 => (if t5212.toList = ([] : List UInt8) then (none) else (if t5212.size + a2.size ≤ 9223372036854775807 then ((vec_Get.f k (t5212 ++ a2) false).bind fun bt5213 => (if (t5212.size : Int) = 0 then (none) else (if 0 ≤ (Int.tmod (wrap64 (a3)) (t5212.size : Int)) then (if (Int.tmod (wrap64 (a3)) (t5212.size : Int)) ≤ (t5212.size : Int) then ((vec_Get.f k (t5212.extract 0 ((Int.tmod (wrap64 (a3)) (t5212.size : Int)) : Int).toNat) false).bind fun bt5221 => ((vec_Right.f t5202 t5203 t5204 t5205).bind fun t5229 => ((vec_Put.f k t5207 t5208 t5209 t5210).bind fun t5230 => (if t5212.toList = t5230.toList then (if (t5202 == t5207 && (t5203 == t5208 && (t5204 == t5209 && (t5205 == t5210)))) = true then (if bt5213.2.2.2.2.2 = true then (if t5229 = true then (none) else (if bt5221.2.2.2.2.2 = true then ((BigText.g t5202 t5203 t5204 t5205).bind fun t5231 => ((BigText.g t5207 t5208 t5209 t5210).bind fun t5232 => (if t5231.toList = t5232.toList then (some true) else (none)))) else (none))) else (none)) else (none)) else (none))))) else (none)) else (none)))) else (none)))) = some r := H
  have A8 := Aside0.mk A80
  clear A80
  replace H := Option.bind_eq_some_iff.mp H
  obtain ⟨t5212, A90, H⟩ := H
  replace H : (if t5212.toList = ([] : List UInt8) then (none) else (if t5212.size + a2.size ≤ 9223372036854775807 then ((vec_Get.f k (t5212 ++ a2) false).bind fun bt5213 => (if (t5212.size : Int) = 0 then (none) else (if 0 ≤ (Int.tmod (wrap64 (a3)) (t5212.size : Int)) then (if (Int.tmod (wrap64 (a3)) (t5212.size : Int)) ≤ (t5212.size : Int) then ((vec_Get.f k (t5212.extract 0 ((Int.tmod (wrap64 (a3)) (t5212.size : Int)) : Int).toNat) false).bind fun bt5221 => ((vec_Right.f t5202 t5203 t5204 t5205).bind fun t5229 => ((vec_Put.f k t5207 t5208 t5209 t5210).bind fun t5230 => (if t5212.toList = t5230.toList then (if (t5202 == t5207 && (t5203 == t5208 && (t5204 == t5209 && (t5205 == t5210)))) = true then (if bt5213.2.2.2.2.2 = true then (if t5229 = true then (none) else (if bt5221.2.2.2.2.2 = true then ((BigText.g t5202 t5203 t5204 t5205).bind fun t5231 => ((BigText.g t5207 t5208 t5209 t5210).bind fun t5232 => (if t5231.toList = t5232.toList then (some true) else (none)))) else (none))) else (none)) else (none)) else (none))))) else (none)) else (none)))) else (none))) = some r := H
  have A9 := Aside0.mk A90
  clear A90
  by_cases c10 : t5212.toList = ([] : List UInt8)
  · rw [if_pos c10] at H
    exact absurd H (by simp)
  rw [if_neg c10] at H
  have c10b0 : (t5212.toList == ([] : List UInt8)) = false := beq_eq_false_iff_ne.mpr c10
  have c10b1 : (t5212.toList != ([] : List UInt8)) = true := bne_iff_ne.mpr c10
  by_cases c11 : t5212.size + a2.size ≤ 9223372036854775807
  rotate_left
  · rw [if_neg c11] at H
    exact absurd H (by simp)
  rw [if_pos c11] at H
  have c11b0 := eq_true c11
  have c11b1 : decide (t5212.size + a2.size ≤ 9223372036854775807) = true := decide_eq_true c11
  try have c11b2 : (9223372036854775807 < t5212.size + a2.size) = False := eq_false (Nat.not_lt.2 c11)
  replace H := Option.bind_eq_some_iff.mp H
  obtain ⟨⟨t5213, t5214, t5215, t5216, t5217, t5218⟩, A120, H⟩ := H
  replace H : (if (t5212.size : Int) = 0 then (none) else (if 0 ≤ (Int.tmod (wrap64 (a3)) (t5212.size : Int)) then (if (Int.tmod (wrap64 (a3)) (t5212.size : Int)) ≤ (t5212.size : Int) then ((vec_Get.f k (t5212.extract 0 ((Int.tmod (wrap64 (a3)) (t5212.size : Int)) : Int).toNat) false).bind fun bt5221 => ((vec_Right.f t5202 t5203 t5204 t5205).bind fun t5229 => ((vec_Put.f k t5207 t5208 t5209 t5210).bind fun t5230 => (if t5212.toList = t5230.toList then (if (t5202 == t5207 && (t5203 == t5208 && (t5204 == t5209 && (t5205 == t5210)))) = true then (if t5218 = true then (if t5229 = true then (none) else (if bt5221.2.2.2.2.2 = true then ((BigText.g t5202 t5203 t5204 t5205).bind fun t5231 => ((BigText.g t5207 t5208 t5209 t5210).bind fun t5232 => (if t5231.toList = t5232.toList then (some true) else (none)))) else (none))) else (none)) else (none)) else (none))))) else (none)) else (none))) = some r := H
  have A12 := Aside0.mk A120
  clear A120
  by_cases c13 : (t5212.size : Int) = 0
  · rw [if_pos c13] at H
    exact absurd H (by simp)
  rw [if_neg c13] at H
  have c13b0 : ((t5212.size : Int) == 0) = false := beq_eq_false_iff_ne.mpr c13
  have c13b1 : ((t5212.size : Int) != 0) = true := bne_iff_ne.mpr c13
  obtain ⟨ji14, hji14⟩ : ∃ j_ : Int, (Int.tmod (wrap64 (a3)) (t5212.size : Int)) = j_ := ⟨_, rfl⟩
  replace H : (if 0 ≤ (ji14) then (if (ji14) ≤ (t5212.size : Int) then ((vec_Get.f k (t5212.extract 0 ((ji14) : Int).toNat) false).bind fun bt5221 => ((vec_Right.f t5202 t5203 t5204 t5205).bind fun t5229 => ((vec_Put.f k t5207 t5208 t5209 t5210).bind fun t5230 => (if t5212.toList = t5230.toList then (if (t5202 == t5207 && (t5203 == t5208 && (t5204 == t5209 && (t5205 == t5210)))) = true then (if t5218 = true then (if t5229 = true then (none) else (if bt5221.2.2.2.2.2 = true then ((BigText.g t5202 t5203 t5204 t5205).bind fun t5231 => ((BigText.g t5207 t5208 t5209 t5210).bind fun t5232 => (if t5231.toList = t5232.toList then (some true) else (none)))) else (none))) else (none)) else (none)) else (none))))) else (none)) else (none)) = some r := by first | (rw [hji14] at H; exact H) | (simp only [hji14] at H ⊢; exact H)
  (try rw [hji14] at A5)
  (try rw [hji14] at A7)
  (try rw [hji14] at A8)
  (try rw [hji14] at A9)
  (try rw [hji14] at A12)
  by_cases c15 : 0 ≤ (ji14)
  rotate_left
  · rw [if_neg c15] at H
    exact absurd H (by simp)
  rw [if_pos c15] at H
  have c15b0 := eq_true c15
  have c15b1 : decide (0 ≤ (ji14)) = true := decide_eq_true c15
  clear c15
  by_cases c16 : (ji14) ≤ (t5212.size : Int)
  rotate_left
  · rw [if_neg c16] at H
    exact absurd H (by simp)
  rw [if_pos c16] at H
  have c16b0 := eq_true c16
  have c16b1 : decide ((ji14) ≤ (t5212.size : Int)) = true := decide_eq_true c16
  clear c16
  replace H := Option.bind_eq_some_iff.mp H
  obtain ⟨⟨t5221, t5222, t5223, t5224, t5225, t5226⟩, A170, H⟩ := H
  replace H : ((vec_Right.f t5202 t5203 t5204 t5205).bind fun t5229 => ((vec_Put.f k t5207 t5208 t5209 t5210).bind fun t5230 => (if t5212.toList = t5230.toList then (if (t5202 == t5207 && (t5203 == t5208 && (t5204 == t5209 && (t5205 == t5210)))) = true then (if t5218 = true then (if t5229 = true then (none) else (if t5226 = true then ((BigText.g t5202 t5203 t5204 t5205).bind fun t5231 => ((BigText.g t5207 t5208 t5209 t5210).bind fun t5232 => (if t5231.toList = t5232.toList then (some true) else (none)))) else (none))) else (none)) else (none)) else (none)))) = some r := H
  have A17 := Aside0.mk A170
  clear A170
  replace H := Option.bind_eq_some_iff.mp H
  obtain ⟨t5229, A180, H⟩ := H
  replace H : ((vec_Put.f k t5207 t5208 t5209 t5210).bind fun t5230 => (if t5212.toList = t5230.toList then (if (t5202 == t5207 && (t5203 == t5208 && (t5204 == t5209 && (t5205 == t5210)))) = true then (if t5218 = true then (if t5229 = true then (none) else (if t5226 = true then ((BigText.g t5202 t5203 t5204 t5205).bind fun t5231 => ((BigText.g t5207 t5208 t5209 t5210).bind fun t5232 => (if t5231.toList = t5232.toList then (some true) else (none)))) else (none))) else (none)) else (none)) else (none))) = some r := H
  have A18 := Aside0.mk A180
  clear A180
  replace H := Option.bind_eq_some_iff.mp H
  obtain ⟨t5230, A190, H⟩ := H
  replace H : (if t5212.toList = t5230.toList then (if (t5202 == t5207 && (t5203 == t5208 && (t5204 == t5209 && (t5205 == t5210)))) = true then (if t5218 = true then (if t5229 = true then (none) else (if t5226 = true then ((BigText.g t5202 t5203 t5204 t5205).bind fun t5231 => ((BigText.g t5207 t5208 t5209 t5210).bind fun t5232 => (if t5231.toList = t5232.toList then (some true) else (none)))) else (none))) else (none)) else (none)) else (none)) = some r := H
  have A19 := Aside0.mk A190
  clear A190
  by_cases c20 : t5212.toList = t5230.toList
  rotate_left
  · rw [if_neg c20] at H
    exact absurd H (by simp)
  rw [if_pos c20] at H
  have c20b0 : (t5212.toList == t5230.toList) = true := beq_iff_eq.mpr c20
  have c20b1 : (t5212.toList != t5230.toList) = false := bne_eq_false_iff_eq.mpr c20
  clear c20
  by_cases c21 : (t5202 == t5207 && (t5203 == t5208 && (t5204 == t5209 && (t5205 == t5210)))) = true
  rotate_left
  · rw [if_neg c21] at H
    exact absurd H (by simp)
  rw [if_pos c21] at H
  have c21b0 : (t5202 == t5207 && (t5203 == t5208 && (t5204 == t5209 && (t5205 == t5210)))) = true := c21
  (try (have c21b1 : decide (t5202 = t5207 && (t5203 == t5208 && (t5204 == t5209 && (t5205 == t5210)))) = true := by simpa using c21))
  (try (have c21b2 : (t5202 == t5207 && (t5203 == t5208 && (t5204 == t5209 && (t5205 == t5210)))) = true := by simpa using c21))
  clear c21
  by_cases c22 : t5218 = true
  rotate_left
  · replace c22 := Bool.eq_false_iff.mpr c22
    subst c22
    have H1 : (none) = some r := by rw [if_neg (show ¬ (false = true) by decide)] at H; exact H
    clear H
    have H := H1
    clear H1
    exact absurd H (by simp)
  subst c22
  have H1 : (if t5229 = true then (none) else (if t5226 = true then ((BigText.g t5202 t5203 t5204 t5205).bind fun t5231 => ((BigText.g t5207 t5208 t5209 t5210).bind fun t5232 => (if t5231.toList = t5232.toList then (some true) else (none)))) else (none))) = some r := by rw [if_pos rfl] at H; exact H
  clear H
  have H := H1
  clear H1
  by_cases c23 : t5229 = true
  · subst c23
    have H1 : (none) = some r := by rw [if_pos rfl] at H; exact H
    clear H
    have H := H1
    clear H1
    exact absurd H (by simp)
  replace c23 := Bool.eq_false_iff.mpr c23
  subst c23
  have H1 : (if t5226 = true then ((BigText.g t5202 t5203 t5204 t5205).bind fun t5231 => ((BigText.g t5207 t5208 t5209 t5210).bind fun t5232 => (if t5231.toList = t5232.toList then (some true) else (none)))) else (none)) = some r := by rw [if_neg (show ¬ (false = true) by decide)] at H; exact H
  clear H
  have H := H1
  clear H1
  by_cases c24 : t5226 = true
  rotate_left
  · replace c24 := Bool.eq_false_iff.mpr c24
    subst c24
    have H1 : (none) = some r := by rw [if_neg (show ¬ (false = true) by decide)] at H; exact H
    clear H
    have H := H1
    clear H1
    exact absurd H (by simp)
  subst c24
  have H1 : ((BigText.g t5202 t5203 t5204 t5205).bind fun t5231 => ((BigText.g t5207 t5208 t5209 t5210).bind fun t5232 => (if t5231.toList = t5232.toList then (some true) else (none)))) = some r := by rw [if_pos rfl] at H; exact H
  clear H
  have H := H1
  clear H1
  replace H := Option.bind_eq_some_iff.mp H
  obtain ⟨t5231, A250, H⟩ := H
  replace H : ((BigText.g t5207 t5208 t5209 t5210).bind fun t5232 => (if t5231.toList = t5232.toList then (some true) else (none))) = some r := H
  have A25 := Aside0.mk A250
  clear A250
  replace H := Option.bind_eq_some_iff.mp H
  obtain ⟨t5232, A260, H⟩ := H
  replace H : (if t5231.toList = t5232.toList then (some true) else (none)) = some r := H
  have A26 := Aside0.mk A260
  clear A260
  by_cases c27 : t5231.toList = t5232.toList
  rotate_left
  · rw [if_neg c27] at H
    exact absurd H (by simp)
  rw [if_pos c27] at H
  have c27b0 : (t5231.toList == t5232.toList) = true := beq_iff_eq.mpr c27
  have c27b1 : (t5231.toList != t5232.toList) = false := bne_eq_false_iff_eq.mpr c27
  clear c27
  obtain rfl := Option.some.inj H
  go_enter Tryd.func7, Tryd.ntmps7
  try go_wp2_with (first | ((with_reducible refine gate_dst (N := 4) rfl ?_); refine box_event ?hg (N := 4) ?hd (cs := #[.int .u64 a0_0, .int .u64 a0_1, .int .u64 a0_2, .int .u64 a0_3, .bool a0_4]) (t := 26) ?hr ?_; (case hd => rfl); (case hg => rfl); (case hr => first | (go_simp; done) | (go_simp; rfl)); intro gb5199 hg w28 hbox hb; have n0_ := Aside0.mk (below_step (by repeat (first | (with_reducible first | exact HB.out | apply below_alloc | apply pw_below_drewN | apply below_drew1) | exact HB.out)) hb); have n1_ := Aside0.mk (hbox); have n2_ := Aside0.mk ((by rw [hg]; exact (below_size (by repeat (first | (with_reducible first | exact HB.out | apply below_alloc | apply pw_below_drewN | apply below_drew1) | exact HB.out))) : w.heap.size ≤ gb5199)); have n3_ := Aside0.mk ((by rw [hg]; exact (below_size (by repeat (first | (with_reducible first | exact HB.out | apply below_alloc | apply pw_below_drewN | apply below_drew1) | exact HB.out))) : w.heap.size ≤ gb5199)); clear HB; have HB := n0_; have BK5199 := n1_; have GW5199 := n2_; have GE5199 := n3_; clear n0_ n1_ n2_ n3_; clear hb hbox hg) | ((with_reducible refine gate_dst (N := 5) rfl ?_); refine box_event ?hg (N := 5) ?hd (cs := #[.int .u64 a1_0, .int .u64 a1_1, .int .u64 a1_2, .int .u64 a1_3, .bool a1_4]) (t := 26) ?hr ?_; (case hd => rfl); (case hg => rfl); (case hr => first | (go_simp; done) | (go_simp; rfl)); intro gb5200 hg w29 hbox hb; have n0_ := Aside0.mk (blk_below (g := gb5199) (o := .cells #[.int .u64 a0_0, .int .u64 a0_1, .int .u64 a0_2, .int .u64 a0_3, .bool a0_4] 26 (0, 0)) (by (with_reducible repeat (first | refine blk_drewN ?_ _ | refine blk_drew ?_ | refine blk_alloc ?_ _)); exact BK5199.out) hb); have n1_ := Aside0.mk (below_step (by repeat (first | (with_reducible first | exact HB.out | apply below_alloc | apply pw_below_drewN | apply below_drew1 | refine below_set ?_ GE5199.out) | exact HB.out)) hb); have n2_ := Aside0.mk (hbox); have n3_ := Aside0.mk ((by rw [hg]; exact (below_size (by repeat (first | (with_reducible first | exact HB.out | apply below_alloc | apply pw_below_drewN | apply below_drew1 | refine below_set ?_ GE5199.out) | exact HB.out))) : w.heap.size ≤ gb5200)); have n4_ := Aside0.mk ((by rw [hg]; exact (below_size (by repeat (first | (with_reducible first | exact HB.out | apply below_alloc | apply pw_below_drewN | apply below_drew1 | refine below_set ?_ GE5199.out) | exact HB.out))) : w.heap.size ≤ gb5200)); have n5_ := Aside0.mk ((by rw [hg]; exact Nat.ne_of_lt (blk_lt (g := gb5199) (o := .cells #[.int .u64 a0_0, .int .u64 a0_1, .int .u64 a0_2, .int .u64 a0_3, .bool a0_4] 26 (0, 0)) (by (with_reducible repeat (first | refine blk_drewN ?_ _ | refine blk_drew ?_ | refine blk_alloc ?_ _)); exact BK5199.out)) : gb5199 ≠ gb5200)); have n6_ := Aside0.mk ((by rw [hg]; exact Nat.ne_of_gt (blk_lt (g := gb5199) (o := .cells #[.int .u64 a0_0, .int .u64 a0_1, .int .u64 a0_2, .int .u64 a0_3, .bool a0_4] 26 (0, 0)) (by (with_reducible repeat (first | refine blk_drewN ?_ _ | refine blk_drew ?_ | refine blk_alloc ?_ _)); exact BK5199.out)) : gb5200 ≠ gb5199)); clear BK5199; clear HB; have BK5199 := n0_; have HB := n1_; have BK5200 := n2_; have GW5200 := n3_; have GE5200 := n4_; have NB5199_5200 := n5_; have NB5200_5199 := n6_; clear n0_ n1_ n2_ n3_ n4_ n5_ n6_; clear hb hbox hg) | ((with_reducible refine gate_callee (f := 10) rfl ?_); refine goesL_ (some 18) rfl rfl Tryd.func10 (by kernel_rfl) rfl #[] rfl (by (try simp only [List.map_toArray, List.map_cons, List.map_nil]); first | done | rfl | (simp only [List.length_drop, List.length_take]; rfl)) ?_; (with_reducible refine (tenementlaw06_examples.calls k  true _ A5.out).mono ?_); rintro e w30 ⟨rfl, hb⟩; refine ⟨_, rfl, ?_⟩; have n0_ := Aside0.mk (blk_below (g := gb5199) (o := .cells #[.int .u64 a0_0, .int .u64 a0_1, .int .u64 a0_2, .int .u64 a0_3, .bool a0_4] 26 (0, 0)) (by (with_reducible repeat (first | refine blk_drewN ?_ _ | refine blk_drew ?_ | refine blk_alloc ?_ _)); exact BK5199.out) hb); have n1_ := Aside0.mk (blk_below (g := gb5200) (o := .cells #[.int .u64 a1_0, .int .u64 a1_1, .int .u64 a1_2, .int .u64 a1_3, .bool a1_4] 26 (0, 0)) (by (with_reducible repeat (first | refine blk_drewN ?_ _ | refine blk_drew ?_ | refine blk_alloc ?_ _)); exact BK5200.out) hb); have n2_ := Aside0.mk (below_step (by repeat (first | (with_reducible first | exact HB.out | apply below_alloc | apply pw_below_drewN | apply below_drew1 | refine below_set ?_ GE5199.out | refine below_set ?_ GE5200.out) | exact HB.out)) hb); clear BK5199; clear BK5200; clear HB; have BK5199 := n0_; have BK5200 := n1_; have HB := n2_; clear n0_ n1_ n2_; (try clear hb); (try clear hb2); (try clear hk); (try clear hi); have hnb31 := NB5199_5200.out; have hnc31 := NB5200_5199.out; have hcz32_0 : w30.cell? ⟨gb5199, 0, none⟩ = some (.int .u64 a0_0) := (blk_cell BK5199.out 0).trans rfl; have hcz32_1 : w30.cell? ⟨gb5199, 1, none⟩ = some (.int .u64 a0_1) := (blk_cell BK5199.out 1).trans rfl; have hcz32_2 : w30.cell? ⟨gb5199, 2, none⟩ = some (.int .u64 a0_2) := (blk_cell BK5199.out 2).trans rfl; have hcz32_3 : w30.cell? ⟨gb5199, 3, none⟩ = some (.int .u64 a0_3) := (blk_cell BK5199.out 3).trans rfl; have hcz32_4 : w30.cell? ⟨gb5199, 4, none⟩ = some (.bool a0_4) := (blk_cell BK5199.out 4).trans rfl; have hfz32_0 := blk_frozen BK5199.out 0; have hfz32_1 := blk_frozen BK5199.out 1; have hfz32_2 := blk_frozen BK5199.out 2; have hfz32_3 := blk_frozen BK5199.out 3; have hfz32_4 := blk_frozen BK5199.out 4) | ((with_reducible refine gate_callee (f := 11) rfl ?_); refine goesL_ (some 22) rfl rfl Tryd.func11 (by kernel_rfl) rfl #[.agg #[.int .u64 a0_0, .int .u64 a0_1, .int .u64 a0_2, .int .u64 a0_3, .bool a0_4]] rfl (by (try simp only [List.map_toArray, List.map_cons, List.map_nil]); first | done | rfl | (simp only [List.length_drop, List.length_take]; rfl)) ?_; (with_reducible refine (tenementlaw06_Vector_vector.calls k a0_0 a0_1 a0_2 a0_3 a0_4 t5202 t5203 t5204 t5205 _ A7.out).mono ?_); rintro e w33 ⟨rfl, hb⟩; refine ⟨_, rfl, ?_⟩; have n0_ := Aside0.mk (blk_below (g := gb5199) (o := .cells #[.int .u64 a0_0, .int .u64 a0_1, .int .u64 a0_2, .int .u64 a0_3, .bool a0_4] 26 (0, 0)) (by (with_reducible repeat (first | refine blk_drewN ?_ _ | refine blk_drew ?_ | refine blk_alloc ?_ _)); exact BK5199.out) hb); have n1_ := Aside0.mk (blk_below (g := gb5200) (o := .cells #[.int .u64 a1_0, .int .u64 a1_1, .int .u64 a1_2, .int .u64 a1_3, .bool a1_4] 26 (0, 0)) (by (with_reducible repeat (first | refine blk_drewN ?_ _ | refine blk_drew ?_ | refine blk_alloc ?_ _)); exact BK5200.out) hb); have n2_ := Aside0.mk (below_step (by repeat (first | (with_reducible first | exact HB.out | apply below_alloc | apply pw_below_drewN | apply below_drew1 | refine below_set ?_ GE5199.out | refine below_set ?_ GE5200.out) | exact HB.out)) hb); clear BK5199; clear BK5200; clear HB; have BK5199 := n0_; have BK5200 := n1_; have HB := n2_; clear n0_ n1_ n2_; (try clear hb); (try clear hb2); (try clear hk); (try clear hi)) | ((with_reducible refine gate_dst (N := 10) rfl ?_); refine box_event ?hg (N := 10) ?hd (cs := #[.int .u64 0, .int .u64 0, .int .u64 0, .int .u64 0]) (t := 24) ?hr ?_; (case hd => rfl); (case hg => rfl); (case hr => first | (go_simp; done) | (go_simp; rfl)); intro gb5206 hg w34 hbox hb; have n0_ := Aside0.mk (blk_below (g := gb5199) (o := .cells #[.int .u64 a0_0, .int .u64 a0_1, .int .u64 a0_2, .int .u64 a0_3, .bool a0_4] 26 (0, 0)) (by (with_reducible repeat (first | refine blk_drewN ?_ _ | refine blk_drew ?_ | refine blk_alloc ?_ _)); exact BK5199.out) hb); have n1_ := Aside0.mk (blk_below (g := gb5200) (o := .cells #[.int .u64 a1_0, .int .u64 a1_1, .int .u64 a1_2, .int .u64 a1_3, .bool a1_4] 26 (0, 0)) (by (with_reducible repeat (first | refine blk_drewN ?_ _ | refine blk_drew ?_ | refine blk_alloc ?_ _)); exact BK5200.out) hb); have n2_ := Aside0.mk (below_step (by repeat (first | (with_reducible first | exact HB.out | apply below_alloc | apply pw_below_drewN | apply below_drew1 | refine below_set ?_ GE5199.out | refine below_set ?_ GE5200.out) | exact HB.out)) hb); have n3_ := Aside0.mk (hbox); have n4_ := Aside0.mk ((by rw [hg]; exact (below_size (by repeat (first | (with_reducible first | exact HB.out | apply below_alloc | apply pw_below_drewN | apply below_drew1 | refine below_set ?_ GE5199.out | refine below_set ?_ GE5200.out) | exact HB.out))) : w.heap.size ≤ gb5206)); have n5_ := Aside0.mk ((by rw [hg]; exact (below_size (by repeat (first | (with_reducible first | exact HB.out | apply below_alloc | apply pw_below_drewN | apply below_drew1 | refine below_set ?_ GE5199.out | refine below_set ?_ GE5200.out) | exact HB.out))) : w.heap.size ≤ gb5206)); have n6_ := Aside0.mk ((by rw [hg]; exact Nat.ne_of_lt (blk_lt (g := gb5199) (o := .cells #[.int .u64 a0_0, .int .u64 a0_1, .int .u64 a0_2, .int .u64 a0_3, .bool a0_4] 26 (0, 0)) (by (with_reducible repeat (first | refine blk_drewN ?_ _ | refine blk_drew ?_ | refine blk_alloc ?_ _)); exact BK5199.out)) : gb5199 ≠ gb5206)); have n7_ := Aside0.mk ((by rw [hg]; exact Nat.ne_of_gt (blk_lt (g := gb5199) (o := .cells #[.int .u64 a0_0, .int .u64 a0_1, .int .u64 a0_2, .int .u64 a0_3, .bool a0_4] 26 (0, 0)) (by (with_reducible repeat (first | refine blk_drewN ?_ _ | refine blk_drew ?_ | refine blk_alloc ?_ _)); exact BK5199.out)) : gb5206 ≠ gb5199)); have n8_ := Aside0.mk ((by rw [hg]; exact Nat.ne_of_lt (blk_lt (g := gb5200) (o := .cells #[.int .u64 a1_0, .int .u64 a1_1, .int .u64 a1_2, .int .u64 a1_3, .bool a1_4] 26 (0, 0)) (by (with_reducible repeat (first | refine blk_drewN ?_ _ | refine blk_drew ?_ | refine blk_alloc ?_ _)); exact BK5200.out)) : gb5200 ≠ gb5206)); have n9_ := Aside0.mk ((by rw [hg]; exact Nat.ne_of_gt (blk_lt (g := gb5200) (o := .cells #[.int .u64 a1_0, .int .u64 a1_1, .int .u64 a1_2, .int .u64 a1_3, .bool a1_4] 26 (0, 0)) (by (with_reducible repeat (first | refine blk_drewN ?_ _ | refine blk_drew ?_ | refine blk_alloc ?_ _)); exact BK5200.out)) : gb5206 ≠ gb5200)); clear BK5199; clear BK5200; clear HB; have BK5199 := n0_; have BK5200 := n1_; have HB := n2_; have BK5206 := n3_; have GW5206 := n4_; have GE5206 := n5_; have NB5199_5206 := n6_; have NB5206_5199 := n7_; have NB5200_5206 := n8_; have NB5206_5200 := n9_; clear n0_ n1_ n2_ n3_ n4_ n5_ n6_ n7_ n8_ n9_; clear hb hbox hg; have hnb35 := NB5206_5199.out; have hnc35 := NB5199_5206.out; have hnb36 := NB5206_5200.out; have hnc36 := NB5200_5206.out; have hcz37_0 : w34.cell? ⟨gb5206, 0, none⟩ = some (.int .u64 0) := (blk_cell BK5206.out 0).trans rfl; have hcz37_1 : w34.cell? ⟨gb5206, 1, none⟩ = some (.int .u64 0) := (blk_cell BK5206.out 1).trans rfl; have hcz37_2 : w34.cell? ⟨gb5206, 2, none⟩ = some (.int .u64 0) := (blk_cell BK5206.out 2).trans rfl; have hcz37_3 : w34.cell? ⟨gb5206, 3, none⟩ = some (.int .u64 0) := (blk_cell BK5206.out 3).trans rfl; have hfz37_0 := blk_frozen BK5206.out 0; have hfz37_1 := blk_frozen BK5206.out 1; have hfz37_2 := blk_frozen BK5206.out 2; have hfz37_3 := blk_frozen BK5206.out 3; have hcz38_0 : w34.cell? ⟨gb5200, 0, none⟩ = some (.int .u64 a1_0) := (blk_cell BK5200.out 0).trans rfl; have hcz38_1 : w34.cell? ⟨gb5200, 1, none⟩ = some (.int .u64 a1_1) := (blk_cell BK5200.out 1).trans rfl; have hcz38_2 : w34.cell? ⟨gb5200, 2, none⟩ = some (.int .u64 a1_2) := (blk_cell BK5200.out 2).trans rfl; have hcz38_3 : w34.cell? ⟨gb5200, 3, none⟩ = some (.int .u64 a1_3) := (blk_cell BK5200.out 3).trans rfl; have hcz38_4 : w34.cell? ⟨gb5200, 4, none⟩ = some (.bool a1_4) := (blk_cell BK5200.out 4).trans rfl; have hfz38_0 := blk_frozen BK5200.out 0; have hfz38_1 := blk_frozen BK5200.out 1; have hfz38_2 := blk_frozen BK5200.out 2; have hfz38_3 := blk_frozen BK5200.out 3; have hfz38_4 := blk_frozen BK5200.out 4) | ((with_reducible refine gate_callee (f := 11) rfl ?_); refine goesL_ (some 24) rfl rfl Tryd.func11 (by kernel_rfl) rfl #[.agg #[.int .u64 a1_0, .int .u64 a1_1, .int .u64 a1_2, .int .u64 a1_3, .bool a1_4]] rfl (by (try simp only [List.map_toArray, List.map_cons, List.map_nil]); first | done | rfl | (simp only [List.length_drop, List.length_take]; rfl)) ?_; (with_reducible refine (tenementlaw06_Vector_vector.calls k a1_0 a1_1 a1_2 a1_3 a1_4 t5207 t5208 t5209 t5210 _ A8.out).mono ?_); rintro e w39 ⟨rfl, hb⟩; refine ⟨_, rfl, ?_⟩; have n0_ := Aside0.mk (blk_below (g := gb5199) (o := .cells #[.int .u64 a0_0, .int .u64 a0_1, .int .u64 a0_2, .int .u64 a0_3, .bool a0_4] 26 (0, 0)) (by (repeat (first | (with_reducible first | refine blk_drewN ?_ _ | refine blk_drew ?_ | refine blk_alloc ?_ _) | refine blk_far ?_ NB5199_5206.out _)); exact BK5199.out) hb); have n1_ := Aside0.mk (blk_below (g := gb5200) (o := .cells #[.int .u64 a1_0, .int .u64 a1_1, .int .u64 a1_2, .int .u64 a1_3, .bool a1_4] 26 (0, 0)) (by (repeat (first | (with_reducible first | refine blk_drewN ?_ _ | refine blk_drew ?_ | refine blk_alloc ?_ _) | refine blk_far ?_ NB5200_5206.out _)); exact BK5200.out) hb); have n2_ := Aside0.mk (blk_below (g := gb5206) (o := .cells #[.int .u64 t5202, .int .u64 t5203, .int .u64 t5204, .int .u64 t5205] 24 (0, 0)) (by (with_reducible repeat (first | refine blk_drewN ?_ _ | refine blk_drew ?_ | refine blk_alloc ?_ _)); refine blk_put (cs := #[.int .u64 t5202, .int .u64 t5203, .int .u64 t5204, .int .u64 0]) ?_ 3 _ rfl; (with_reducible repeat (first | refine blk_drewN ?_ _ | refine blk_drew ?_ | refine blk_alloc ?_ _)); refine blk_put (cs := #[.int .u64 t5202, .int .u64 t5203, .int .u64 0, .int .u64 0]) ?_ 2 _ rfl; (with_reducible repeat (first | refine blk_drewN ?_ _ | refine blk_drew ?_ | refine blk_alloc ?_ _)); refine blk_put (cs := #[.int .u64 t5202, .int .u64 0, .int .u64 0, .int .u64 0]) ?_ 1 _ rfl; (with_reducible repeat (first | refine blk_drewN ?_ _ | refine blk_drew ?_ | refine blk_alloc ?_ _)); refine blk_put (cs := #[.int .u64 0, .int .u64 0, .int .u64 0, .int .u64 0]) ?_ 0 _ rfl; (with_reducible repeat (first | refine blk_drewN ?_ _ | refine blk_drew ?_ | refine blk_alloc ?_ _)); exact BK5206.out) hb); have n3_ := Aside0.mk (below_step (by repeat (first | (with_reducible first | exact HB.out | apply below_alloc | apply pw_below_drewN | apply below_drew1 | refine below_set ?_ GE5199.out | refine below_set ?_ GE5200.out | refine below_set ?_ GE5206.out) | exact HB.out)) hb); clear BK5199; clear BK5200; clear BK5206; clear HB; have BK5199 := n0_; have BK5200 := n1_; have BK5206 := n2_; have HB := n3_; clear n0_ n1_ n2_ n3_; (try clear hb); (try clear hb2); (try clear hk); (try clear hi)) | ((with_reducible refine gate_dst (N := 11) rfl ?_); refine box_event ?hg (N := 11) ?hd (cs := #[.int .u64 0, .int .u64 0, .int .u64 0, .int .u64 0]) (t := 24) ?hr ?_; (case hd => rfl); (case hg => rfl); (case hr => first | (go_simp; done) | (go_simp; rfl)); intro gb5211 hg w40 hbox hb; have n0_ := Aside0.mk (blk_below (g := gb5199) (o := .cells #[.int .u64 a0_0, .int .u64 a0_1, .int .u64 a0_2, .int .u64 a0_3, .bool a0_4] 26 (0, 0)) (by (with_reducible repeat (first | refine blk_drewN ?_ _ | refine blk_drew ?_ | refine blk_alloc ?_ _)); exact BK5199.out) hb); have n1_ := Aside0.mk (blk_below (g := gb5200) (o := .cells #[.int .u64 a1_0, .int .u64 a1_1, .int .u64 a1_2, .int .u64 a1_3, .bool a1_4] 26 (0, 0)) (by (with_reducible repeat (first | refine blk_drewN ?_ _ | refine blk_drew ?_ | refine blk_alloc ?_ _)); exact BK5200.out) hb); have n2_ := Aside0.mk (blk_below (g := gb5206) (o := .cells #[.int .u64 t5202, .int .u64 t5203, .int .u64 t5204, .int .u64 t5205] 24 (0, 0)) (by (with_reducible repeat (first | refine blk_drewN ?_ _ | refine blk_drew ?_ | refine blk_alloc ?_ _)); exact BK5206.out) hb); have n3_ := Aside0.mk (below_step (by repeat (first | (with_reducible first | exact HB.out | apply below_alloc | apply pw_below_drewN | apply below_drew1 | refine below_set ?_ GE5199.out | refine below_set ?_ GE5200.out | refine below_set ?_ GE5206.out) | exact HB.out)) hb); have n4_ := Aside0.mk (hbox); have n5_ := Aside0.mk ((by rw [hg]; exact (below_size (by repeat (first | (with_reducible first | exact HB.out | apply below_alloc | apply pw_below_drewN | apply below_drew1 | refine below_set ?_ GE5199.out | refine below_set ?_ GE5200.out | refine below_set ?_ GE5206.out) | exact HB.out))) : w.heap.size ≤ gb5211)); have n6_ := Aside0.mk ((by rw [hg]; exact (below_size (by repeat (first | (with_reducible first | exact HB.out | apply below_alloc | apply pw_below_drewN | apply below_drew1 | refine below_set ?_ GE5199.out | refine below_set ?_ GE5200.out | refine below_set ?_ GE5206.out) | exact HB.out))) : w.heap.size ≤ gb5211)); have n7_ := Aside0.mk ((by rw [hg]; exact Nat.ne_of_lt (blk_lt (g := gb5199) (o := .cells #[.int .u64 a0_0, .int .u64 a0_1, .int .u64 a0_2, .int .u64 a0_3, .bool a0_4] 26 (0, 0)) (by (with_reducible repeat (first | refine blk_drewN ?_ _ | refine blk_drew ?_ | refine blk_alloc ?_ _)); exact BK5199.out)) : gb5199 ≠ gb5211)); have n8_ := Aside0.mk ((by rw [hg]; exact Nat.ne_of_gt (blk_lt (g := gb5199) (o := .cells #[.int .u64 a0_0, .int .u64 a0_1, .int .u64 a0_2, .int .u64 a0_3, .bool a0_4] 26 (0, 0)) (by (with_reducible repeat (first | refine blk_drewN ?_ _ | refine blk_drew ?_ | refine blk_alloc ?_ _)); exact BK5199.out)) : gb5211 ≠ gb5199)); have n9_ := Aside0.mk ((by rw [hg]; exact Nat.ne_of_lt (blk_lt (g := gb5200) (o := .cells #[.int .u64 a1_0, .int .u64 a1_1, .int .u64 a1_2, .int .u64 a1_3, .bool a1_4] 26 (0, 0)) (by (with_reducible repeat (first | refine blk_drewN ?_ _ | refine blk_drew ?_ | refine blk_alloc ?_ _)); exact BK5200.out)) : gb5200 ≠ gb5211)); have n10_ := Aside0.mk ((by rw [hg]; exact Nat.ne_of_gt (blk_lt (g := gb5200) (o := .cells #[.int .u64 a1_0, .int .u64 a1_1, .int .u64 a1_2, .int .u64 a1_3, .bool a1_4] 26 (0, 0)) (by (with_reducible repeat (first | refine blk_drewN ?_ _ | refine blk_drew ?_ | refine blk_alloc ?_ _)); exact BK5200.out)) : gb5211 ≠ gb5200)); have n11_ := Aside0.mk ((by rw [hg]; exact Nat.ne_of_lt (blk_lt (g := gb5206) (o := .cells #[.int .u64 t5202, .int .u64 t5203, .int .u64 t5204, .int .u64 t5205] 24 (0, 0)) (by (with_reducible repeat (first | refine blk_drewN ?_ _ | refine blk_drew ?_ | refine blk_alloc ?_ _)); exact BK5206.out)) : gb5206 ≠ gb5211)); have n12_ := Aside0.mk ((by rw [hg]; exact Nat.ne_of_gt (blk_lt (g := gb5206) (o := .cells #[.int .u64 t5202, .int .u64 t5203, .int .u64 t5204, .int .u64 t5205] 24 (0, 0)) (by (with_reducible repeat (first | refine blk_drewN ?_ _ | refine blk_drew ?_ | refine blk_alloc ?_ _)); exact BK5206.out)) : gb5211 ≠ gb5206)); clear BK5199; clear BK5200; clear BK5206; clear HB; have BK5199 := n0_; have BK5200 := n1_; have BK5206 := n2_; have HB := n3_; have BK5211 := n4_; have GW5211 := n5_; have GE5211 := n6_; have NB5199_5211 := n7_; have NB5211_5199 := n8_; have NB5200_5211 := n9_; have NB5211_5200 := n10_; have NB5206_5211 := n11_; have NB5211_5206 := n12_; clear n0_ n1_ n2_ n3_ n4_ n5_ n6_ n7_ n8_ n9_ n10_ n11_ n12_; clear hb hbox hg; have hnb41 := NB5211_5199.out; have hnc41 := NB5199_5211.out; have hnb42 := NB5211_5200.out; have hnc42 := NB5200_5211.out; have hnb43 := NB5211_5206.out; have hnc43 := NB5206_5211.out; have hcz44_0 : w40.cell? ⟨gb5211, 0, none⟩ = some (.int .u64 0) := (blk_cell BK5211.out 0).trans rfl; have hcz44_1 : w40.cell? ⟨gb5211, 1, none⟩ = some (.int .u64 0) := (blk_cell BK5211.out 1).trans rfl; have hcz44_2 : w40.cell? ⟨gb5211, 2, none⟩ = some (.int .u64 0) := (blk_cell BK5211.out 2).trans rfl; have hcz44_3 : w40.cell? ⟨gb5211, 3, none⟩ = some (.int .u64 0) := (blk_cell BK5211.out 3).trans rfl; have hfz44_0 := blk_frozen BK5211.out 0; have hfz44_1 := blk_frozen BK5211.out 1; have hfz44_2 := blk_frozen BK5211.out 2; have hfz44_3 := blk_frozen BK5211.out 3; have hcz45_0 : w40.cell? ⟨gb5206, 0, none⟩ = some (.int .u64 t5202) := (blk_cell BK5206.out 0).trans rfl; have hcz45_1 : w40.cell? ⟨gb5206, 1, none⟩ = some (.int .u64 t5203) := (blk_cell BK5206.out 1).trans rfl; have hcz45_2 : w40.cell? ⟨gb5206, 2, none⟩ = some (.int .u64 t5204) := (blk_cell BK5206.out 2).trans rfl; have hcz45_3 : w40.cell? ⟨gb5206, 3, none⟩ = some (.int .u64 t5205) := (blk_cell BK5206.out 3).trans rfl; have hfz45_0 := blk_frozen BK5206.out 0; have hfz45_1 := blk_frozen BK5206.out 1; have hfz45_2 := blk_frozen BK5206.out 2; have hfz45_3 := blk_frozen BK5206.out 3) | ((with_reducible refine gate_callee (f := 28) rfl ?_); refine goesL_ (some 26) rfl rfl Tryd.func28 (by kernel_rfl) rfl #[.agg #[.int .u64 t5202, .int .u64 t5203, .int .u64 t5204, .int .u64 t5205]] rfl (by (try simp only [List.map_toArray, List.map_cons, List.map_nil]); first | done | rfl | (simp only [List.length_drop, List.length_take]; rfl)) ?_; (with_reducible refine (vec_Put.calls k t5202 t5203 t5204 t5205 t5212 _ A9.out).mono ?_); rintro e w46 ⟨rfl, hb⟩; refine ⟨_, rfl, ?_⟩; have n0_ := Aside0.mk (blk_below (g := gb5199) (o := .cells #[.int .u64 a0_0, .int .u64 a0_1, .int .u64 a0_2, .int .u64 a0_3, .bool a0_4] 26 (0, 0)) (by (repeat (first | (with_reducible first | refine blk_drewN ?_ _ | refine blk_drew ?_ | refine blk_alloc ?_ _) | refine blk_far ?_ NB5199_5211.out _)); exact BK5199.out) hb); have n1_ := Aside0.mk (blk_below (g := gb5200) (o := .cells #[.int .u64 a1_0, .int .u64 a1_1, .int .u64 a1_2, .int .u64 a1_3, .bool a1_4] 26 (0, 0)) (by (repeat (first | (with_reducible first | refine blk_drewN ?_ _ | refine blk_drew ?_ | refine blk_alloc ?_ _) | refine blk_far ?_ NB5200_5211.out _)); exact BK5200.out) hb); have n2_ := Aside0.mk (blk_below (g := gb5206) (o := .cells #[.int .u64 t5202, .int .u64 t5203, .int .u64 t5204, .int .u64 t5205] 24 (0, 0)) (by (repeat (first | (with_reducible first | refine blk_drewN ?_ _ | refine blk_drew ?_ | refine blk_alloc ?_ _) | refine blk_far ?_ NB5206_5211.out _)); exact BK5206.out) hb); have n3_ := Aside0.mk (blk_below (g := gb5211) (o := .cells #[.int .u64 t5207, .int .u64 t5208, .int .u64 t5209, .int .u64 t5210] 24 (0, 0)) (by (with_reducible repeat (first | refine blk_drewN ?_ _ | refine blk_drew ?_ | refine blk_alloc ?_ _)); refine blk_put (cs := #[.int .u64 t5207, .int .u64 t5208, .int .u64 t5209, .int .u64 0]) ?_ 3 _ rfl; (with_reducible repeat (first | refine blk_drewN ?_ _ | refine blk_drew ?_ | refine blk_alloc ?_ _)); refine blk_put (cs := #[.int .u64 t5207, .int .u64 t5208, .int .u64 0, .int .u64 0]) ?_ 2 _ rfl; (with_reducible repeat (first | refine blk_drewN ?_ _ | refine blk_drew ?_ | refine blk_alloc ?_ _)); refine blk_put (cs := #[.int .u64 t5207, .int .u64 0, .int .u64 0, .int .u64 0]) ?_ 1 _ rfl; (with_reducible repeat (first | refine blk_drewN ?_ _ | refine blk_drew ?_ | refine blk_alloc ?_ _)); refine blk_put (cs := #[.int .u64 0, .int .u64 0, .int .u64 0, .int .u64 0]) ?_ 0 _ rfl; (with_reducible repeat (first | refine blk_drewN ?_ _ | refine blk_drew ?_ | refine blk_alloc ?_ _)); exact BK5211.out) hb); have n4_ := Aside0.mk (below_step (by repeat (first | (with_reducible first | exact HB.out | apply below_alloc | apply pw_below_drewN | apply below_drew1 | refine below_set ?_ GE5199.out | refine below_set ?_ GE5200.out | refine below_set ?_ GE5206.out | refine below_set ?_ GE5211.out) | exact HB.out)) hb); clear BK5199; clear BK5200; clear BK5206; clear BK5211; clear HB; have BK5199 := n0_; have BK5200 := n1_; have BK5206 := n2_; have BK5211 := n3_; have HB := n4_; clear n0_ n1_ n2_ n3_ n4_; (try clear hb); (try clear hb2); (try clear hk); (try clear hi)) | ((with_reducible refine gate_callee (f := 33) rfl ?_); refine goesL_ (some 34) rfl rfl Tryd.func33 (by kernel_rfl) rfl #[.agg #[.string (t5212 ++ a2), .bool false]] rfl (by (try simp only [List.map_toArray, List.map_cons, List.map_nil]); first | done | rfl | (simp only [List.length_drop, List.length_take]; rfl)) ?_; (with_reducible refine (vec_Get.calls k (t5212 ++ a2) false t5213 t5214 t5215 t5216 t5217 true _ A12.out).mono ?_); rintro e w47 ⟨rfl, hb⟩; refine ⟨_, rfl, ?_⟩; have n0_ := Aside0.mk (blk_below (g := gb5199) (o := .cells #[.int .u64 a0_0, .int .u64 a0_1, .int .u64 a0_2, .int .u64 a0_3, .bool a0_4] 26 (0, 0)) (by (with_reducible repeat (first | refine blk_drewN ?_ _ | refine blk_drew ?_ | refine blk_alloc ?_ _)); exact BK5199.out) hb); have n1_ := Aside0.mk (blk_below (g := gb5200) (o := .cells #[.int .u64 a1_0, .int .u64 a1_1, .int .u64 a1_2, .int .u64 a1_3, .bool a1_4] 26 (0, 0)) (by (with_reducible repeat (first | refine blk_drewN ?_ _ | refine blk_drew ?_ | refine blk_alloc ?_ _)); exact BK5200.out) hb); have n2_ := Aside0.mk (blk_below (g := gb5206) (o := .cells #[.int .u64 t5202, .int .u64 t5203, .int .u64 t5204, .int .u64 t5205] 24 (0, 0)) (by (with_reducible repeat (first | refine blk_drewN ?_ _ | refine blk_drew ?_ | refine blk_alloc ?_ _)); exact BK5206.out) hb); have n3_ := Aside0.mk (blk_below (g := gb5211) (o := .cells #[.int .u64 t5207, .int .u64 t5208, .int .u64 t5209, .int .u64 t5210] 24 (0, 0)) (by (with_reducible repeat (first | refine blk_drewN ?_ _ | refine blk_drew ?_ | refine blk_alloc ?_ _)); exact BK5211.out) hb); have n4_ := Aside0.mk (below_step (by repeat (first | (with_reducible first | exact HB.out | apply below_alloc | apply pw_below_drewN | apply below_drew1 | refine below_set ?_ GE5199.out | refine below_set ?_ GE5200.out | refine below_set ?_ GE5206.out | refine below_set ?_ GE5211.out) | exact HB.out)) hb); clear BK5199; clear BK5200; clear BK5206; clear BK5211; clear HB; have BK5199 := n0_; have BK5200 := n1_; have BK5206 := n2_; have BK5211 := n3_; have HB := n4_; clear n0_ n1_ n2_ n3_ n4_; (try clear hb); (try clear hb2); (try clear hk); (try clear hi)) | ((with_reducible refine gate_dst (N := 13) rfl ?_); refine box_event ?hg (N := 13) ?hd (cs := #[.int .u64 0, .int .u64 0, .int .u64 0, .int .u64 0]) (t := 24) ?hr ?_; (case hd => rfl); (case hg => rfl); (case hr => first | (go_simp; done) | (go_simp; rfl)); intro gb5219 hg w48 hbox hb; have n0_ := Aside0.mk (blk_below (g := gb5199) (o := .cells #[.int .u64 a0_0, .int .u64 a0_1, .int .u64 a0_2, .int .u64 a0_3, .bool a0_4] 26 (0, 0)) (by (with_reducible repeat (first | refine blk_drewN ?_ _ | refine blk_drew ?_ | refine blk_alloc ?_ _)); exact BK5199.out) hb); have n1_ := Aside0.mk (blk_below (g := gb5200) (o := .cells #[.int .u64 a1_0, .int .u64 a1_1, .int .u64 a1_2, .int .u64 a1_3, .bool a1_4] 26 (0, 0)) (by (with_reducible repeat (first | refine blk_drewN ?_ _ | refine blk_drew ?_ | refine blk_alloc ?_ _)); exact BK5200.out) hb); have n2_ := Aside0.mk (blk_below (g := gb5206) (o := .cells #[.int .u64 t5202, .int .u64 t5203, .int .u64 t5204, .int .u64 t5205] 24 (0, 0)) (by (with_reducible repeat (first | refine blk_drewN ?_ _ | refine blk_drew ?_ | refine blk_alloc ?_ _)); exact BK5206.out) hb); have n3_ := Aside0.mk (blk_below (g := gb5211) (o := .cells #[.int .u64 t5207, .int .u64 t5208, .int .u64 t5209, .int .u64 t5210] 24 (0, 0)) (by (with_reducible repeat (first | refine blk_drewN ?_ _ | refine blk_drew ?_ | refine blk_alloc ?_ _)); exact BK5211.out) hb); have n4_ := Aside0.mk (below_step (by repeat (first | (with_reducible first | exact HB.out | apply below_alloc | apply pw_below_drewN | apply below_drew1 | refine below_set ?_ GE5199.out | refine below_set ?_ GE5200.out | refine below_set ?_ GE5206.out | refine below_set ?_ GE5211.out) | exact HB.out)) hb); have n5_ := Aside0.mk (hbox); have n6_ := Aside0.mk ((by rw [hg]; exact (below_size (by repeat (first | (with_reducible first | exact HB.out | apply below_alloc | apply pw_below_drewN | apply below_drew1 | refine below_set ?_ GE5199.out | refine below_set ?_ GE5200.out | refine below_set ?_ GE5206.out | refine below_set ?_ GE5211.out) | exact HB.out))) : w.heap.size ≤ gb5219)); have n7_ := Aside0.mk ((by rw [hg]; exact (below_size (by repeat (first | (with_reducible first | exact HB.out | apply below_alloc | apply pw_below_drewN | apply below_drew1 | refine below_set ?_ GE5199.out | refine below_set ?_ GE5200.out | refine below_set ?_ GE5206.out | refine below_set ?_ GE5211.out) | exact HB.out))) : w.heap.size ≤ gb5219)); have n8_ := Aside0.mk ((by rw [hg]; exact Nat.ne_of_lt (blk_lt (g := gb5199) (o := .cells #[.int .u64 a0_0, .int .u64 a0_1, .int .u64 a0_2, .int .u64 a0_3, .bool a0_4] 26 (0, 0)) (by (with_reducible repeat (first | refine blk_drewN ?_ _ | refine blk_drew ?_ | refine blk_alloc ?_ _)); exact BK5199.out)) : gb5199 ≠ gb5219)); have n9_ := Aside0.mk ((by rw [hg]; exact Nat.ne_of_gt (blk_lt (g := gb5199) (o := .cells #[.int .u64 a0_0, .int .u64 a0_1, .int .u64 a0_2, .int .u64 a0_3, .bool a0_4] 26 (0, 0)) (by (with_reducible repeat (first | refine blk_drewN ?_ _ | refine blk_drew ?_ | refine blk_alloc ?_ _)); exact BK5199.out)) : gb5219 ≠ gb5199)); have n10_ := Aside0.mk ((by rw [hg]; exact Nat.ne_of_lt (blk_lt (g := gb5200) (o := .cells #[.int .u64 a1_0, .int .u64 a1_1, .int .u64 a1_2, .int .u64 a1_3, .bool a1_4] 26 (0, 0)) (by (with_reducible repeat (first | refine blk_drewN ?_ _ | refine blk_drew ?_ | refine blk_alloc ?_ _)); exact BK5200.out)) : gb5200 ≠ gb5219)); have n11_ := Aside0.mk ((by rw [hg]; exact Nat.ne_of_gt (blk_lt (g := gb5200) (o := .cells #[.int .u64 a1_0, .int .u64 a1_1, .int .u64 a1_2, .int .u64 a1_3, .bool a1_4] 26 (0, 0)) (by (with_reducible repeat (first | refine blk_drewN ?_ _ | refine blk_drew ?_ | refine blk_alloc ?_ _)); exact BK5200.out)) : gb5219 ≠ gb5200)); have n12_ := Aside0.mk ((by rw [hg]; exact Nat.ne_of_lt (blk_lt (g := gb5206) (o := .cells #[.int .u64 t5202, .int .u64 t5203, .int .u64 t5204, .int .u64 t5205] 24 (0, 0)) (by (with_reducible repeat (first | refine blk_drewN ?_ _ | refine blk_drew ?_ | refine blk_alloc ?_ _)); exact BK5206.out)) : gb5206 ≠ gb5219)); have n13_ := Aside0.mk ((by rw [hg]; exact Nat.ne_of_gt (blk_lt (g := gb5206) (o := .cells #[.int .u64 t5202, .int .u64 t5203, .int .u64 t5204, .int .u64 t5205] 24 (0, 0)) (by (with_reducible repeat (first | refine blk_drewN ?_ _ | refine blk_drew ?_ | refine blk_alloc ?_ _)); exact BK5206.out)) : gb5219 ≠ gb5206)); have n14_ := Aside0.mk ((by rw [hg]; exact Nat.ne_of_lt (blk_lt (g := gb5211) (o := .cells #[.int .u64 t5207, .int .u64 t5208, .int .u64 t5209, .int .u64 t5210] 24 (0, 0)) (by (with_reducible repeat (first | refine blk_drewN ?_ _ | refine blk_drew ?_ | refine blk_alloc ?_ _)); exact BK5211.out)) : gb5211 ≠ gb5219)); have n15_ := Aside0.mk ((by rw [hg]; exact Nat.ne_of_gt (blk_lt (g := gb5211) (o := .cells #[.int .u64 t5207, .int .u64 t5208, .int .u64 t5209, .int .u64 t5210] 24 (0, 0)) (by (with_reducible repeat (first | refine blk_drewN ?_ _ | refine blk_drew ?_ | refine blk_alloc ?_ _)); exact BK5211.out)) : gb5219 ≠ gb5211)); clear BK5199; clear BK5200; clear BK5206; clear BK5211; clear HB; have BK5199 := n0_; have BK5200 := n1_; have BK5206 := n2_; have BK5211 := n3_; have HB := n4_; have BK5219 := n5_; have GW5219 := n6_; have GE5219 := n7_; have NB5199_5219 := n8_; have NB5219_5199 := n9_; have NB5200_5219 := n10_; have NB5219_5200 := n11_; have NB5206_5219 := n12_; have NB5219_5206 := n13_; have NB5211_5219 := n14_; have NB5219_5211 := n15_; clear n0_ n1_ n2_ n3_ n4_ n5_ n6_ n7_ n8_ n9_ n10_ n11_ n12_ n13_ n14_ n15_; clear hb hbox hg) | ((with_reducible refine gate_dst (N := 14) rfl ?_); refine box_event ?hg (N := 14) ?hd (cs := #[.string (⟨#[]⟩ : ByteArray), .bool false]) (t := 51) ?hr ?_; (case hd => rfl); (case hg => rfl); (case hr => first | (go_simp; done) | (go_simp; rfl)); intro gb5220 hg w49 hbox hb; have n0_ := Aside0.mk (blk_below (g := gb5199) (o := .cells #[.int .u64 a0_0, .int .u64 a0_1, .int .u64 a0_2, .int .u64 a0_3, .bool a0_4] 26 (0, 0)) (by (with_reducible repeat (first | refine blk_drewN ?_ _ | refine blk_drew ?_ | refine blk_alloc ?_ _)); exact BK5199.out) hb); have n1_ := Aside0.mk (blk_below (g := gb5200) (o := .cells #[.int .u64 a1_0, .int .u64 a1_1, .int .u64 a1_2, .int .u64 a1_3, .bool a1_4] 26 (0, 0)) (by (with_reducible repeat (first | refine blk_drewN ?_ _ | refine blk_drew ?_ | refine blk_alloc ?_ _)); exact BK5200.out) hb); have n2_ := Aside0.mk (blk_below (g := gb5206) (o := .cells #[.int .u64 t5202, .int .u64 t5203, .int .u64 t5204, .int .u64 t5205] 24 (0, 0)) (by (with_reducible repeat (first | refine blk_drewN ?_ _ | refine blk_drew ?_ | refine blk_alloc ?_ _)); exact BK5206.out) hb); have n3_ := Aside0.mk (blk_below (g := gb5211) (o := .cells #[.int .u64 t5207, .int .u64 t5208, .int .u64 t5209, .int .u64 t5210] 24 (0, 0)) (by (with_reducible repeat (first | refine blk_drewN ?_ _ | refine blk_drew ?_ | refine blk_alloc ?_ _)); exact BK5211.out) hb); have n4_ := Aside0.mk (blk_below (g := gb5219) (o := .cells #[.int .u64 0, .int .u64 0, .int .u64 0, .int .u64 0] 24 (0, 0)) (by (with_reducible repeat (first | refine blk_drewN ?_ _ | refine blk_drew ?_ | refine blk_alloc ?_ _)); exact BK5219.out) hb); have n5_ := Aside0.mk (below_step (by repeat (first | (with_reducible first | exact HB.out | apply below_alloc | apply pw_below_drewN | apply below_drew1 | refine below_set ?_ GE5199.out | refine below_set ?_ GE5200.out | refine below_set ?_ GE5206.out | refine below_set ?_ GE5211.out | refine below_set ?_ GE5219.out) | exact HB.out)) hb); have n6_ := Aside0.mk (hbox); have n7_ := Aside0.mk ((by rw [hg]; exact (below_size (by repeat (first | (with_reducible first | exact HB.out | apply below_alloc | apply pw_below_drewN | apply below_drew1 | refine below_set ?_ GE5199.out | refine below_set ?_ GE5200.out | refine below_set ?_ GE5206.out | refine below_set ?_ GE5211.out | refine below_set ?_ GE5219.out) | exact HB.out))) : w.heap.size ≤ gb5220)); have n8_ := Aside0.mk ((by rw [hg]; exact (below_size (by repeat (first | (with_reducible first | exact HB.out | apply below_alloc | apply pw_below_drewN | apply below_drew1 | refine below_set ?_ GE5199.out | refine below_set ?_ GE5200.out | refine below_set ?_ GE5206.out | refine below_set ?_ GE5211.out | refine below_set ?_ GE5219.out) | exact HB.out))) : w.heap.size ≤ gb5220)); have n9_ := Aside0.mk ((by rw [hg]; exact Nat.ne_of_lt (blk_lt (g := gb5199) (o := .cells #[.int .u64 a0_0, .int .u64 a0_1, .int .u64 a0_2, .int .u64 a0_3, .bool a0_4] 26 (0, 0)) (by (with_reducible repeat (first | refine blk_drewN ?_ _ | refine blk_drew ?_ | refine blk_alloc ?_ _)); exact BK5199.out)) : gb5199 ≠ gb5220)); have n10_ := Aside0.mk ((by rw [hg]; exact Nat.ne_of_gt (blk_lt (g := gb5199) (o := .cells #[.int .u64 a0_0, .int .u64 a0_1, .int .u64 a0_2, .int .u64 a0_3, .bool a0_4] 26 (0, 0)) (by (with_reducible repeat (first | refine blk_drewN ?_ _ | refine blk_drew ?_ | refine blk_alloc ?_ _)); exact BK5199.out)) : gb5220 ≠ gb5199)); have n11_ := Aside0.mk ((by rw [hg]; exact Nat.ne_of_lt (blk_lt (g := gb5200) (o := .cells #[.int .u64 a1_0, .int .u64 a1_1, .int .u64 a1_2, .int .u64 a1_3, .bool a1_4] 26 (0, 0)) (by (with_reducible repeat (first | refine blk_drewN ?_ _ | refine blk_drew ?_ | refine blk_alloc ?_ _)); exact BK5200.out)) : gb5200 ≠ gb5220)); have n12_ := Aside0.mk ((by rw [hg]; exact Nat.ne_of_gt (blk_lt (g := gb5200) (o := .cells #[.int .u64 a1_0, .int .u64 a1_1, .int .u64 a1_2, .int .u64 a1_3, .bool a1_4] 26 (0, 0)) (by (with_reducible repeat (first | refine blk_drewN ?_ _ | refine blk_drew ?_ | refine blk_alloc ?_ _)); exact BK5200.out)) : gb5220 ≠ gb5200)); have n13_ := Aside0.mk ((by rw [hg]; exact Nat.ne_of_lt (blk_lt (g := gb5206) (o := .cells #[.int .u64 t5202, .int .u64 t5203, .int .u64 t5204, .int .u64 t5205] 24 (0, 0)) (by (with_reducible repeat (first | refine blk_drewN ?_ _ | refine blk_drew ?_ | refine blk_alloc ?_ _)); exact BK5206.out)) : gb5206 ≠ gb5220)); have n14_ := Aside0.mk ((by rw [hg]; exact Nat.ne_of_gt (blk_lt (g := gb5206) (o := .cells #[.int .u64 t5202, .int .u64 t5203, .int .u64 t5204, .int .u64 t5205] 24 (0, 0)) (by (with_reducible repeat (first | refine blk_drewN ?_ _ | refine blk_drew ?_ | refine blk_alloc ?_ _)); exact BK5206.out)) : gb5220 ≠ gb5206)); have n15_ := Aside0.mk ((by rw [hg]; exact Nat.ne_of_lt (blk_lt (g := gb5211) (o := .cells #[.int .u64 t5207, .int .u64 t5208, .int .u64 t5209, .int .u64 t5210] 24 (0, 0)) (by (with_reducible repeat (first | refine blk_drewN ?_ _ | refine blk_drew ?_ | refine blk_alloc ?_ _)); exact BK5211.out)) : gb5211 ≠ gb5220)); have n16_ := Aside0.mk ((by rw [hg]; exact Nat.ne_of_gt (blk_lt (g := gb5211) (o := .cells #[.int .u64 t5207, .int .u64 t5208, .int .u64 t5209, .int .u64 t5210] 24 (0, 0)) (by (with_reducible repeat (first | refine blk_drewN ?_ _ | refine blk_drew ?_ | refine blk_alloc ?_ _)); exact BK5211.out)) : gb5220 ≠ gb5211)); have n17_ := Aside0.mk ((by rw [hg]; exact Nat.ne_of_lt (blk_lt (g := gb5219) (o := .cells #[.int .u64 0, .int .u64 0, .int .u64 0, .int .u64 0] 24 (0, 0)) (by (with_reducible repeat (first | refine blk_drewN ?_ _ | refine blk_drew ?_ | refine blk_alloc ?_ _)); exact BK5219.out)) : gb5219 ≠ gb5220)); have n18_ := Aside0.mk ((by rw [hg]; exact Nat.ne_of_gt (blk_lt (g := gb5219) (o := .cells #[.int .u64 0, .int .u64 0, .int .u64 0, .int .u64 0] 24 (0, 0)) (by (with_reducible repeat (first | refine blk_drewN ?_ _ | refine blk_drew ?_ | refine blk_alloc ?_ _)); exact BK5219.out)) : gb5220 ≠ gb5219)); clear BK5199; clear BK5200; clear BK5206; clear BK5211; clear BK5219; clear HB; have BK5199 := n0_; have BK5200 := n1_; have BK5206 := n2_; have BK5211 := n3_; have BK5219 := n4_; have HB := n5_; have BK5220 := n6_; have GW5220 := n7_; have GE5220 := n8_; have NB5199_5220 := n9_; have NB5220_5199 := n10_; have NB5200_5220 := n11_; have NB5220_5200 := n12_; have NB5206_5220 := n13_; have NB5220_5206 := n14_; have NB5211_5220 := n15_; have NB5220_5211 := n16_; have NB5219_5220 := n17_; have NB5220_5219 := n18_; clear n0_ n1_ n2_ n3_ n4_ n5_ n6_ n7_ n8_ n9_ n10_ n11_ n12_ n13_ n14_ n15_ n16_ n17_ n18_; clear hb hbox hg; have hnb50 := NB5219_5199.out; have hnc50 := NB5199_5219.out; have hnb51 := NB5219_5200.out; have hnc51 := NB5200_5219.out; have hnb52 := NB5219_5206.out; have hnc52 := NB5206_5219.out; have hnb53 := NB5219_5211.out; have hnc53 := NB5211_5219.out; have hnb54 := NB5219_5220.out; have hnc54 := NB5220_5219.out; have hcz55_0 : w49.cell? ⟨gb5219, 0, none⟩ = some (.int .u64 0) := (blk_cell BK5219.out 0).trans rfl; have hcz55_1 : w49.cell? ⟨gb5219, 1, none⟩ = some (.int .u64 0) := (blk_cell BK5219.out 1).trans rfl; have hcz55_2 : w49.cell? ⟨gb5219, 2, none⟩ = some (.int .u64 0) := (blk_cell BK5219.out 2).trans rfl; have hcz55_3 : w49.cell? ⟨gb5219, 3, none⟩ = some (.int .u64 0) := (blk_cell BK5219.out 3).trans rfl; have hfz55_0 := blk_frozen BK5219.out 0; have hfz55_1 := blk_frozen BK5219.out 1; have hfz55_2 := blk_frozen BK5219.out 2; have hfz55_3 := blk_frozen BK5219.out 3; have hnb56 := NB5220_5199.out; have hnc56 := NB5199_5220.out; have hnb57 := NB5220_5200.out; have hnc57 := NB5200_5220.out; have hnb58 := NB5220_5206.out; have hnc58 := NB5206_5220.out; have hnb59 := NB5220_5211.out; have hnc59 := NB5211_5220.out; have hcz60_0 : w49.cell? ⟨gb5220, 0, none⟩ = some (.string (⟨#[]⟩ : ByteArray)) := (blk_cell BK5220.out 0).trans rfl; have hcz60_1 : w49.cell? ⟨gb5220, 1, none⟩ = some (.bool false) := (blk_cell BK5220.out 1).trans rfl; have hfz60_0 := blk_frozen BK5220.out 0; have hfz60_1 := blk_frozen BK5220.out 1) | ((with_reducible refine gate_callee (f := 33) rfl ?_); refine goesL_ (some 46) rfl rfl Tryd.func33 (by kernel_rfl) rfl #[.agg #[.string (t5212.extract 0 ((ji14) : Int).toNat), .bool false]] rfl (by (try simp only [List.map_toArray, List.map_cons, List.map_nil]); first | done | (simp only [hji14]; rfl) | rfl | (simp only [List.length_drop, List.length_take]; rfl)) ?_; (with_reducible refine (vec_Get.calls k (t5212.extract 0 ((ji14) : Int).toNat) false t5221 t5222 t5223 t5224 t5225 true _ A17.out).mono ?_); rintro e w61 ⟨rfl, hb⟩; refine ⟨_, rfl, ?_⟩; have n0_ := Aside0.mk (blk_below (g := gb5199) (o := .cells #[.int .u64 a0_0, .int .u64 a0_1, .int .u64 a0_2, .int .u64 a0_3, .bool a0_4] 26 (0, 0)) (by (repeat (first | (with_reducible first | refine blk_drewN ?_ _ | refine blk_drew ?_ | refine blk_alloc ?_ _) | refine blk_far ?_ NB5199_5220.out _ | refine blk_far ?_ NB5199_5219.out _)); exact BK5199.out) hb); have n1_ := Aside0.mk (blk_below (g := gb5200) (o := .cells #[.int .u64 a1_0, .int .u64 a1_1, .int .u64 a1_2, .int .u64 a1_3, .bool a1_4] 26 (0, 0)) (by (repeat (first | (with_reducible first | refine blk_drewN ?_ _ | refine blk_drew ?_ | refine blk_alloc ?_ _) | refine blk_far ?_ NB5200_5220.out _ | refine blk_far ?_ NB5200_5219.out _)); exact BK5200.out) hb); have n2_ := Aside0.mk (blk_below (g := gb5206) (o := .cells #[.int .u64 t5202, .int .u64 t5203, .int .u64 t5204, .int .u64 t5205] 24 (0, 0)) (by (repeat (first | (with_reducible first | refine blk_drewN ?_ _ | refine blk_drew ?_ | refine blk_alloc ?_ _) | refine blk_far ?_ NB5206_5220.out _ | refine blk_far ?_ NB5206_5219.out _)); exact BK5206.out) hb); have n3_ := Aside0.mk (blk_below (g := gb5211) (o := .cells #[.int .u64 t5207, .int .u64 t5208, .int .u64 t5209, .int .u64 t5210] 24 (0, 0)) (by (repeat (first | (with_reducible first | refine blk_drewN ?_ _ | refine blk_drew ?_ | refine blk_alloc ?_ _) | refine blk_far ?_ NB5211_5220.out _ | refine blk_far ?_ NB5211_5219.out _)); exact BK5211.out) hb); have n4_ := Aside0.mk (blk_below (g := gb5219) (o := .cells #[.int .u64 t5213, .int .u64 t5214, .int .u64 t5215, .int .u64 t5216] 24 (0, 0)) (by (repeat (first | (with_reducible first | refine blk_drewN ?_ _ | refine blk_drew ?_ | refine blk_alloc ?_ _) | refine blk_far ?_ NB5219_5220.out _)); refine blk_put (cs := #[.int .u64 t5213, .int .u64 t5214, .int .u64 t5215, .int .u64 0]) ?_ 3 _ rfl; (with_reducible repeat (first | refine blk_drewN ?_ _ | refine blk_drew ?_ | refine blk_alloc ?_ _)); refine blk_put (cs := #[.int .u64 t5213, .int .u64 t5214, .int .u64 0, .int .u64 0]) ?_ 2 _ rfl; (with_reducible repeat (first | refine blk_drewN ?_ _ | refine blk_drew ?_ | refine blk_alloc ?_ _)); refine blk_put (cs := #[.int .u64 t5213, .int .u64 0, .int .u64 0, .int .u64 0]) ?_ 1 _ rfl; (with_reducible repeat (first | refine blk_drewN ?_ _ | refine blk_drew ?_ | refine blk_alloc ?_ _)); refine blk_put (cs := #[.int .u64 0, .int .u64 0, .int .u64 0, .int .u64 0]) ?_ 0 _ rfl; (with_reducible repeat (first | refine blk_drewN ?_ _ | refine blk_drew ?_ | refine blk_alloc ?_ _)); exact BK5219.out) hb); have n5_ := Aside0.mk (blk_below (g := gb5220) (o := .cells #[.string t5217, .bool true] 51 (0, 0)) (by (with_reducible repeat (first | refine blk_drewN ?_ _ | refine blk_drew ?_ | refine blk_alloc ?_ _)); refine blk_put (cs := #[.string t5217, .bool false]) ?_ 1 _ rfl; (with_reducible repeat (first | refine blk_drewN ?_ _ | refine blk_drew ?_ | refine blk_alloc ?_ _)); refine blk_put (cs := #[.string (⟨#[]⟩ : ByteArray), .bool false]) ?_ 0 _ rfl; (repeat (first | (with_reducible first | refine blk_drewN ?_ _ | refine blk_drew ?_ | refine blk_alloc ?_ _) | refine blk_far ?_ NB5220_5219.out _)); exact BK5220.out) hb); have n6_ := Aside0.mk (below_step (by repeat (first | (with_reducible first | exact HB.out | apply below_alloc | apply pw_below_drewN | apply below_drew1 | refine below_set ?_ GE5199.out | refine below_set ?_ GE5200.out | refine below_set ?_ GE5206.out | refine below_set ?_ GE5211.out | refine below_set ?_ GE5219.out | refine below_set ?_ GE5220.out) | exact HB.out)) hb); clear BK5199; clear BK5200; clear BK5206; clear BK5211; clear BK5219; clear BK5220; clear HB; have BK5199 := n0_; have BK5200 := n1_; have BK5206 := n2_; have BK5211 := n3_; have BK5219 := n4_; have BK5220 := n5_; have HB := n6_; clear n0_ n1_ n2_ n3_ n4_ n5_ n6_; (try clear hb); (try clear hb2); (try clear hk); (try clear hi)) | ((with_reducible refine gate_dst (N := 15) rfl ?_); refine box_event ?hg (N := 15) ?hd (cs := #[.int .u64 0, .int .u64 0, .int .u64 0, .int .u64 0]) (t := 24) ?hr ?_; (case hd => rfl); (case hg => rfl); (case hr => first | (go_simp; done) | (go_simp; rfl)); intro gb5227 hg w62 hbox hb; have n0_ := Aside0.mk (blk_below (g := gb5199) (o := .cells #[.int .u64 a0_0, .int .u64 a0_1, .int .u64 a0_2, .int .u64 a0_3, .bool a0_4] 26 (0, 0)) (by (with_reducible repeat (first | refine blk_drewN ?_ _ | refine blk_drew ?_ | refine blk_alloc ?_ _)); exact BK5199.out) hb); have n1_ := Aside0.mk (blk_below (g := gb5200) (o := .cells #[.int .u64 a1_0, .int .u64 a1_1, .int .u64 a1_2, .int .u64 a1_3, .bool a1_4] 26 (0, 0)) (by (with_reducible repeat (first | refine blk_drewN ?_ _ | refine blk_drew ?_ | refine blk_alloc ?_ _)); exact BK5200.out) hb); have n2_ := Aside0.mk (blk_below (g := gb5206) (o := .cells #[.int .u64 t5202, .int .u64 t5203, .int .u64 t5204, .int .u64 t5205] 24 (0, 0)) (by (with_reducible repeat (first | refine blk_drewN ?_ _ | refine blk_drew ?_ | refine blk_alloc ?_ _)); exact BK5206.out) hb); have n3_ := Aside0.mk (blk_below (g := gb5211) (o := .cells #[.int .u64 t5207, .int .u64 t5208, .int .u64 t5209, .int .u64 t5210] 24 (0, 0)) (by (with_reducible repeat (first | refine blk_drewN ?_ _ | refine blk_drew ?_ | refine blk_alloc ?_ _)); exact BK5211.out) hb); have n4_ := Aside0.mk (blk_below (g := gb5219) (o := .cells #[.int .u64 t5213, .int .u64 t5214, .int .u64 t5215, .int .u64 t5216] 24 (0, 0)) (by (with_reducible repeat (first | refine blk_drewN ?_ _ | refine blk_drew ?_ | refine blk_alloc ?_ _)); exact BK5219.out) hb); have n5_ := Aside0.mk (blk_below (g := gb5220) (o := .cells #[.string t5217, .bool true] 51 (0, 0)) (by (with_reducible repeat (first | refine blk_drewN ?_ _ | refine blk_drew ?_ | refine blk_alloc ?_ _)); exact BK5220.out) hb); have n6_ := Aside0.mk (below_step (by repeat (first | (with_reducible first | exact HB.out | apply below_alloc | apply pw_below_drewN | apply below_drew1 | refine below_set ?_ GE5199.out | refine below_set ?_ GE5200.out | refine below_set ?_ GE5206.out | refine below_set ?_ GE5211.out | refine below_set ?_ GE5219.out | refine below_set ?_ GE5220.out) | exact HB.out)) hb); have n7_ := Aside0.mk (hbox); have n8_ := Aside0.mk ((by rw [hg]; exact (below_size (by repeat (first | (with_reducible first | exact HB.out | apply below_alloc | apply pw_below_drewN | apply below_drew1 | refine below_set ?_ GE5199.out | refine below_set ?_ GE5200.out | refine below_set ?_ GE5206.out | refine below_set ?_ GE5211.out | refine below_set ?_ GE5219.out | refine below_set ?_ GE5220.out) | exact HB.out))) : w.heap.size ≤ gb5227)); have n9_ := Aside0.mk ((by rw [hg]; exact (below_size (by repeat (first | (with_reducible first | exact HB.out | apply below_alloc | apply pw_below_drewN | apply below_drew1 | refine below_set ?_ GE5199.out | refine below_set ?_ GE5200.out | refine below_set ?_ GE5206.out | refine below_set ?_ GE5211.out | refine below_set ?_ GE5219.out | refine below_set ?_ GE5220.out) | exact HB.out))) : w.heap.size ≤ gb5227)); have n10_ := Aside0.mk ((by rw [hg]; exact Nat.ne_of_lt (blk_lt (g := gb5199) (o := .cells #[.int .u64 a0_0, .int .u64 a0_1, .int .u64 a0_2, .int .u64 a0_3, .bool a0_4] 26 (0, 0)) (by (with_reducible repeat (first | refine blk_drewN ?_ _ | refine blk_drew ?_ | refine blk_alloc ?_ _)); exact BK5199.out)) : gb5199 ≠ gb5227)); have n11_ := Aside0.mk ((by rw [hg]; exact Nat.ne_of_gt (blk_lt (g := gb5199) (o := .cells #[.int .u64 a0_0, .int .u64 a0_1, .int .u64 a0_2, .int .u64 a0_3, .bool a0_4] 26 (0, 0)) (by (with_reducible repeat (first | refine blk_drewN ?_ _ | refine blk_drew ?_ | refine blk_alloc ?_ _)); exact BK5199.out)) : gb5227 ≠ gb5199)); have n12_ := Aside0.mk ((by rw [hg]; exact Nat.ne_of_lt (blk_lt (g := gb5200) (o := .cells #[.int .u64 a1_0, .int .u64 a1_1, .int .u64 a1_2, .int .u64 a1_3, .bool a1_4] 26 (0, 0)) (by (with_reducible repeat (first | refine blk_drewN ?_ _ | refine blk_drew ?_ | refine blk_alloc ?_ _)); exact BK5200.out)) : gb5200 ≠ gb5227)); have n13_ := Aside0.mk ((by rw [hg]; exact Nat.ne_of_gt (blk_lt (g := gb5200) (o := .cells #[.int .u64 a1_0, .int .u64 a1_1, .int .u64 a1_2, .int .u64 a1_3, .bool a1_4] 26 (0, 0)) (by (with_reducible repeat (first | refine blk_drewN ?_ _ | refine blk_drew ?_ | refine blk_alloc ?_ _)); exact BK5200.out)) : gb5227 ≠ gb5200)); have n14_ := Aside0.mk ((by rw [hg]; exact Nat.ne_of_lt (blk_lt (g := gb5206) (o := .cells #[.int .u64 t5202, .int .u64 t5203, .int .u64 t5204, .int .u64 t5205] 24 (0, 0)) (by (with_reducible repeat (first | refine blk_drewN ?_ _ | refine blk_drew ?_ | refine blk_alloc ?_ _)); exact BK5206.out)) : gb5206 ≠ gb5227)); have n15_ := Aside0.mk ((by rw [hg]; exact Nat.ne_of_gt (blk_lt (g := gb5206) (o := .cells #[.int .u64 t5202, .int .u64 t5203, .int .u64 t5204, .int .u64 t5205] 24 (0, 0)) (by (with_reducible repeat (first | refine blk_drewN ?_ _ | refine blk_drew ?_ | refine blk_alloc ?_ _)); exact BK5206.out)) : gb5227 ≠ gb5206)); have n16_ := Aside0.mk ((by rw [hg]; exact Nat.ne_of_lt (blk_lt (g := gb5211) (o := .cells #[.int .u64 t5207, .int .u64 t5208, .int .u64 t5209, .int .u64 t5210] 24 (0, 0)) (by (with_reducible repeat (first | refine blk_drewN ?_ _ | refine blk_drew ?_ | refine blk_alloc ?_ _)); exact BK5211.out)) : gb5211 ≠ gb5227)); have n17_ := Aside0.mk ((by rw [hg]; exact Nat.ne_of_gt (blk_lt (g := gb5211) (o := .cells #[.int .u64 t5207, .int .u64 t5208, .int .u64 t5209, .int .u64 t5210] 24 (0, 0)) (by (with_reducible repeat (first | refine blk_drewN ?_ _ | refine blk_drew ?_ | refine blk_alloc ?_ _)); exact BK5211.out)) : gb5227 ≠ gb5211)); have n18_ := Aside0.mk ((by rw [hg]; exact Nat.ne_of_lt (blk_lt (g := gb5219) (o := .cells #[.int .u64 t5213, .int .u64 t5214, .int .u64 t5215, .int .u64 t5216] 24 (0, 0)) (by (with_reducible repeat (first | refine blk_drewN ?_ _ | refine blk_drew ?_ | refine blk_alloc ?_ _)); exact BK5219.out)) : gb5219 ≠ gb5227)); have n19_ := Aside0.mk ((by rw [hg]; exact Nat.ne_of_gt (blk_lt (g := gb5219) (o := .cells #[.int .u64 t5213, .int .u64 t5214, .int .u64 t5215, .int .u64 t5216] 24 (0, 0)) (by (with_reducible repeat (first | refine blk_drewN ?_ _ | refine blk_drew ?_ | refine blk_alloc ?_ _)); exact BK5219.out)) : gb5227 ≠ gb5219)); have n20_ := Aside0.mk ((by rw [hg]; exact Nat.ne_of_lt (blk_lt (g := gb5220) (o := .cells #[.string t5217, .bool true] 51 (0, 0)) (by (with_reducible repeat (first | refine blk_drewN ?_ _ | refine blk_drew ?_ | refine blk_alloc ?_ _)); exact BK5220.out)) : gb5220 ≠ gb5227)); have n21_ := Aside0.mk ((by rw [hg]; exact Nat.ne_of_gt (blk_lt (g := gb5220) (o := .cells #[.string t5217, .bool true] 51 (0, 0)) (by (with_reducible repeat (first | refine blk_drewN ?_ _ | refine blk_drew ?_ | refine blk_alloc ?_ _)); exact BK5220.out)) : gb5227 ≠ gb5220)); clear BK5199; clear BK5200; clear BK5206; clear BK5211; clear BK5219; clear BK5220; clear HB; have BK5199 := n0_; have BK5200 := n1_; have BK5206 := n2_; have BK5211 := n3_; have BK5219 := n4_; have BK5220 := n5_; have HB := n6_; have BK5227 := n7_; have GW5227 := n8_; have GE5227 := n9_; have NB5199_5227 := n10_; have NB5227_5199 := n11_; have NB5200_5227 := n12_; have NB5227_5200 := n13_; have NB5206_5227 := n14_; have NB5227_5206 := n15_; have NB5211_5227 := n16_; have NB5227_5211 := n17_; have NB5219_5227 := n18_; have NB5227_5219 := n19_; have NB5220_5227 := n20_; have NB5227_5220 := n21_; clear n0_ n1_ n2_ n3_ n4_ n5_ n6_ n7_ n8_ n9_ n10_ n11_ n12_ n13_ n14_ n15_ n16_ n17_ n18_ n19_ n20_ n21_; clear hb hbox hg) | ((with_reducible refine gate_dst (N := 16) rfl ?_); refine box_event ?hg (N := 16) ?hd (cs := #[.string (⟨#[]⟩ : ByteArray), .bool false]) (t := 51) ?hr ?_; (case hd => rfl); (case hg => rfl); (case hr => first | (go_simp; done) | (go_simp; rfl)); intro gb5228 hg w63 hbox hb; have n0_ := Aside0.mk (blk_below (g := gb5199) (o := .cells #[.int .u64 a0_0, .int .u64 a0_1, .int .u64 a0_2, .int .u64 a0_3, .bool a0_4] 26 (0, 0)) (by (with_reducible repeat (first | refine blk_drewN ?_ _ | refine blk_drew ?_ | refine blk_alloc ?_ _)); exact BK5199.out) hb); have n1_ := Aside0.mk (blk_below (g := gb5200) (o := .cells #[.int .u64 a1_0, .int .u64 a1_1, .int .u64 a1_2, .int .u64 a1_3, .bool a1_4] 26 (0, 0)) (by (with_reducible repeat (first | refine blk_drewN ?_ _ | refine blk_drew ?_ | refine blk_alloc ?_ _)); exact BK5200.out) hb); have n2_ := Aside0.mk (blk_below (g := gb5206) (o := .cells #[.int .u64 t5202, .int .u64 t5203, .int .u64 t5204, .int .u64 t5205] 24 (0, 0)) (by (with_reducible repeat (first | refine blk_drewN ?_ _ | refine blk_drew ?_ | refine blk_alloc ?_ _)); exact BK5206.out) hb); have n3_ := Aside0.mk (blk_below (g := gb5211) (o := .cells #[.int .u64 t5207, .int .u64 t5208, .int .u64 t5209, .int .u64 t5210] 24 (0, 0)) (by (with_reducible repeat (first | refine blk_drewN ?_ _ | refine blk_drew ?_ | refine blk_alloc ?_ _)); exact BK5211.out) hb); have n4_ := Aside0.mk (blk_below (g := gb5219) (o := .cells #[.int .u64 t5213, .int .u64 t5214, .int .u64 t5215, .int .u64 t5216] 24 (0, 0)) (by (with_reducible repeat (first | refine blk_drewN ?_ _ | refine blk_drew ?_ | refine blk_alloc ?_ _)); exact BK5219.out) hb); have n5_ := Aside0.mk (blk_below (g := gb5220) (o := .cells #[.string t5217, .bool true] 51 (0, 0)) (by (with_reducible repeat (first | refine blk_drewN ?_ _ | refine blk_drew ?_ | refine blk_alloc ?_ _)); exact BK5220.out) hb); have n6_ := Aside0.mk (blk_below (g := gb5227) (o := .cells #[.int .u64 0, .int .u64 0, .int .u64 0, .int .u64 0] 24 (0, 0)) (by (with_reducible repeat (first | refine blk_drewN ?_ _ | refine blk_drew ?_ | refine blk_alloc ?_ _)); exact BK5227.out) hb); have n7_ := Aside0.mk (below_step (by repeat (first | (with_reducible first | exact HB.out | apply below_alloc | apply pw_below_drewN | apply below_drew1 | refine below_set ?_ GE5199.out | refine below_set ?_ GE5200.out | refine below_set ?_ GE5206.out | refine below_set ?_ GE5211.out | refine below_set ?_ GE5219.out | refine below_set ?_ GE5220.out | refine below_set ?_ GE5227.out) | exact HB.out)) hb); have n8_ := Aside0.mk (hbox); have n9_ := Aside0.mk ((by rw [hg]; exact (below_size (by repeat (first | (with_reducible first | exact HB.out | apply below_alloc | apply pw_below_drewN | apply below_drew1 | refine below_set ?_ GE5199.out | refine below_set ?_ GE5200.out | refine below_set ?_ GE5206.out | refine below_set ?_ GE5211.out | refine below_set ?_ GE5219.out | refine below_set ?_ GE5220.out | refine below_set ?_ GE5227.out) | exact HB.out))) : w.heap.size ≤ gb5228)); have n10_ := Aside0.mk ((by rw [hg]; exact (below_size (by repeat (first | (with_reducible first | exact HB.out | apply below_alloc | apply pw_below_drewN | apply below_drew1 | refine below_set ?_ GE5199.out | refine below_set ?_ GE5200.out | refine below_set ?_ GE5206.out | refine below_set ?_ GE5211.out | refine below_set ?_ GE5219.out | refine below_set ?_ GE5220.out | refine below_set ?_ GE5227.out) | exact HB.out))) : w.heap.size ≤ gb5228)); have n11_ := Aside0.mk ((by rw [hg]; exact Nat.ne_of_lt (blk_lt (g := gb5199) (o := .cells #[.int .u64 a0_0, .int .u64 a0_1, .int .u64 a0_2, .int .u64 a0_3, .bool a0_4] 26 (0, 0)) (by (with_reducible repeat (first | refine blk_drewN ?_ _ | refine blk_drew ?_ | refine blk_alloc ?_ _)); exact BK5199.out)) : gb5199 ≠ gb5228)); have n12_ := Aside0.mk ((by rw [hg]; exact Nat.ne_of_gt (blk_lt (g := gb5199) (o := .cells #[.int .u64 a0_0, .int .u64 a0_1, .int .u64 a0_2, .int .u64 a0_3, .bool a0_4] 26 (0, 0)) (by (with_reducible repeat (first | refine blk_drewN ?_ _ | refine blk_drew ?_ | refine blk_alloc ?_ _)); exact BK5199.out)) : gb5228 ≠ gb5199)); have n13_ := Aside0.mk ((by rw [hg]; exact Nat.ne_of_lt (blk_lt (g := gb5200) (o := .cells #[.int .u64 a1_0, .int .u64 a1_1, .int .u64 a1_2, .int .u64 a1_3, .bool a1_4] 26 (0, 0)) (by (with_reducible repeat (first | refine blk_drewN ?_ _ | refine blk_drew ?_ | refine blk_alloc ?_ _)); exact BK5200.out)) : gb5200 ≠ gb5228)); have n14_ := Aside0.mk ((by rw [hg]; exact Nat.ne_of_gt (blk_lt (g := gb5200) (o := .cells #[.int .u64 a1_0, .int .u64 a1_1, .int .u64 a1_2, .int .u64 a1_3, .bool a1_4] 26 (0, 0)) (by (with_reducible repeat (first | refine blk_drewN ?_ _ | refine blk_drew ?_ | refine blk_alloc ?_ _)); exact BK5200.out)) : gb5228 ≠ gb5200)); have n15_ := Aside0.mk ((by rw [hg]; exact Nat.ne_of_lt (blk_lt (g := gb5206) (o := .cells #[.int .u64 t5202, .int .u64 t5203, .int .u64 t5204, .int .u64 t5205] 24 (0, 0)) (by (with_reducible repeat (first | refine blk_drewN ?_ _ | refine blk_drew ?_ | refine blk_alloc ?_ _)); exact BK5206.out)) : gb5206 ≠ gb5228)); have n16_ := Aside0.mk ((by rw [hg]; exact Nat.ne_of_gt (blk_lt (g := gb5206) (o := .cells #[.int .u64 t5202, .int .u64 t5203, .int .u64 t5204, .int .u64 t5205] 24 (0, 0)) (by (with_reducible repeat (first | refine blk_drewN ?_ _ | refine blk_drew ?_ | refine blk_alloc ?_ _)); exact BK5206.out)) : gb5228 ≠ gb5206)); have n17_ := Aside0.mk ((by rw [hg]; exact Nat.ne_of_lt (blk_lt (g := gb5211) (o := .cells #[.int .u64 t5207, .int .u64 t5208, .int .u64 t5209, .int .u64 t5210] 24 (0, 0)) (by (with_reducible repeat (first | refine blk_drewN ?_ _ | refine blk_drew ?_ | refine blk_alloc ?_ _)); exact BK5211.out)) : gb5211 ≠ gb5228)); have n18_ := Aside0.mk ((by rw [hg]; exact Nat.ne_of_gt (blk_lt (g := gb5211) (o := .cells #[.int .u64 t5207, .int .u64 t5208, .int .u64 t5209, .int .u64 t5210] 24 (0, 0)) (by (with_reducible repeat (first | refine blk_drewN ?_ _ | refine blk_drew ?_ | refine blk_alloc ?_ _)); exact BK5211.out)) : gb5228 ≠ gb5211)); have n19_ := Aside0.mk ((by rw [hg]; exact Nat.ne_of_lt (blk_lt (g := gb5219) (o := .cells #[.int .u64 t5213, .int .u64 t5214, .int .u64 t5215, .int .u64 t5216] 24 (0, 0)) (by (with_reducible repeat (first | refine blk_drewN ?_ _ | refine blk_drew ?_ | refine blk_alloc ?_ _)); exact BK5219.out)) : gb5219 ≠ gb5228)); have n20_ := Aside0.mk ((by rw [hg]; exact Nat.ne_of_gt (blk_lt (g := gb5219) (o := .cells #[.int .u64 t5213, .int .u64 t5214, .int .u64 t5215, .int .u64 t5216] 24 (0, 0)) (by (with_reducible repeat (first | refine blk_drewN ?_ _ | refine blk_drew ?_ | refine blk_alloc ?_ _)); exact BK5219.out)) : gb5228 ≠ gb5219)); have n21_ := Aside0.mk ((by rw [hg]; exact Nat.ne_of_lt (blk_lt (g := gb5220) (o := .cells #[.string t5217, .bool true] 51 (0, 0)) (by (with_reducible repeat (first | refine blk_drewN ?_ _ | refine blk_drew ?_ | refine blk_alloc ?_ _)); exact BK5220.out)) : gb5220 ≠ gb5228)); have n22_ := Aside0.mk ((by rw [hg]; exact Nat.ne_of_gt (blk_lt (g := gb5220) (o := .cells #[.string t5217, .bool true] 51 (0, 0)) (by (with_reducible repeat (first | refine blk_drewN ?_ _ | refine blk_drew ?_ | refine blk_alloc ?_ _)); exact BK5220.out)) : gb5228 ≠ gb5220)); have n23_ := Aside0.mk ((by rw [hg]; exact Nat.ne_of_lt (blk_lt (g := gb5227) (o := .cells #[.int .u64 0, .int .u64 0, .int .u64 0, .int .u64 0] 24 (0, 0)) (by (with_reducible repeat (first | refine blk_drewN ?_ _ | refine blk_drew ?_ | refine blk_alloc ?_ _)); exact BK5227.out)) : gb5227 ≠ gb5228)); have n24_ := Aside0.mk ((by rw [hg]; exact Nat.ne_of_gt (blk_lt (g := gb5227) (o := .cells #[.int .u64 0, .int .u64 0, .int .u64 0, .int .u64 0] 24 (0, 0)) (by (with_reducible repeat (first | refine blk_drewN ?_ _ | refine blk_drew ?_ | refine blk_alloc ?_ _)); exact BK5227.out)) : gb5228 ≠ gb5227)); clear BK5199; clear BK5200; clear BK5206; clear BK5211; clear BK5219; clear BK5220; clear BK5227; clear HB; have BK5199 := n0_; have BK5200 := n1_; have BK5206 := n2_; have BK5211 := n3_; have BK5219 := n4_; have BK5220 := n5_; have BK5227 := n6_; have HB := n7_; have BK5228 := n8_; have GW5228 := n9_; have GE5228 := n10_; have NB5199_5228 := n11_; have NB5228_5199 := n12_; have NB5200_5228 := n13_; have NB5228_5200 := n14_; have NB5206_5228 := n15_; have NB5228_5206 := n16_; have NB5211_5228 := n17_; have NB5228_5211 := n18_; have NB5219_5228 := n19_; have NB5228_5219 := n20_; have NB5220_5228 := n21_; have NB5228_5220 := n22_; have NB5227_5228 := n23_; have NB5228_5227 := n24_; clear n0_ n1_ n2_ n3_ n4_ n5_ n6_ n7_ n8_ n9_ n10_ n11_ n12_ n13_ n14_ n15_ n16_ n17_ n18_ n19_ n20_ n21_ n22_ n23_ n24_; clear hb hbox hg; have hnb64 := NB5227_5199.out; have hnc64 := NB5199_5227.out; have hnb65 := NB5227_5200.out; have hnc65 := NB5200_5227.out; have hnb66 := NB5227_5206.out; have hnc66 := NB5206_5227.out; have hnb67 := NB5227_5211.out; have hnc67 := NB5211_5227.out; have hnb68 := NB5227_5219.out; have hnc68 := NB5219_5227.out; have hnb69 := NB5227_5220.out; have hnc69 := NB5220_5227.out; have hnb70 := NB5227_5228.out; have hnc70 := NB5228_5227.out; have hcz71_0 : w63.cell? ⟨gb5227, 0, none⟩ = some (.int .u64 0) := (blk_cell BK5227.out 0).trans rfl; have hcz71_1 : w63.cell? ⟨gb5227, 1, none⟩ = some (.int .u64 0) := (blk_cell BK5227.out 1).trans rfl; have hcz71_2 : w63.cell? ⟨gb5227, 2, none⟩ = some (.int .u64 0) := (blk_cell BK5227.out 2).trans rfl; have hcz71_3 : w63.cell? ⟨gb5227, 3, none⟩ = some (.int .u64 0) := (blk_cell BK5227.out 3).trans rfl; have hfz71_0 := blk_frozen BK5227.out 0; have hfz71_1 := blk_frozen BK5227.out 1; have hfz71_2 := blk_frozen BK5227.out 2; have hfz71_3 := blk_frozen BK5227.out 3; have hnb72 := NB5228_5199.out; have hnc72 := NB5199_5228.out; have hnb73 := NB5228_5200.out; have hnc73 := NB5200_5228.out; have hnb74 := NB5228_5206.out; have hnc74 := NB5206_5228.out; have hnb75 := NB5228_5211.out; have hnc75 := NB5211_5228.out; have hnb76 := NB5228_5219.out; have hnc76 := NB5219_5228.out; have hnb77 := NB5228_5220.out; have hnc77 := NB5220_5228.out; have hcz78_0 : w63.cell? ⟨gb5228, 0, none⟩ = some (.string (⟨#[]⟩ : ByteArray)) := (blk_cell BK5228.out 0).trans rfl; have hcz78_1 : w63.cell? ⟨gb5228, 1, none⟩ = some (.bool false) := (blk_cell BK5228.out 1).trans rfl; have hfz78_0 := blk_frozen BK5228.out 0; have hfz78_1 := blk_frozen BK5228.out 1; have hcz79_0 : w63.cell? ⟨gb5206, 0, none⟩ = some (.int .u64 t5202) := (blk_cell BK5206.out 0).trans rfl; have hcz79_1 : w63.cell? ⟨gb5206, 1, none⟩ = some (.int .u64 t5203) := (blk_cell BK5206.out 1).trans rfl; have hcz79_2 : w63.cell? ⟨gb5206, 2, none⟩ = some (.int .u64 t5204) := (blk_cell BK5206.out 2).trans rfl; have hcz79_3 : w63.cell? ⟨gb5206, 3, none⟩ = some (.int .u64 t5205) := (blk_cell BK5206.out 3).trans rfl; have hfz79_0 := blk_frozen BK5206.out 0; have hfz79_1 := blk_frozen BK5206.out 1; have hfz79_2 := blk_frozen BK5206.out 2; have hfz79_3 := blk_frozen BK5206.out 3) | ((with_reducible refine gate_callee (f := 20) rfl ?_); refine goesL_ (some 50) rfl rfl Tryd.func20 (by kernel_rfl) rfl #[.agg #[.int .u64 t5202, .int .u64 t5203, .int .u64 t5204, .int .u64 t5205]] rfl (by (try simp only [List.map_toArray, List.map_cons, List.map_nil]); first | done | rfl | (simp only [List.length_drop, List.length_take]; rfl)) ?_; (with_reducible refine (vec_Right.calls t5202 t5203 t5204 t5205 false _ A18.out).mono ?_); rintro e w80 ⟨rfl, hb⟩; refine ⟨_, rfl, ?_⟩; have n0_ := Aside0.mk (blk_below (g := gb5199) (o := .cells #[.int .u64 a0_0, .int .u64 a0_1, .int .u64 a0_2, .int .u64 a0_3, .bool a0_4] 26 (0, 0)) (by (repeat (first | (with_reducible first | refine blk_drewN ?_ _ | refine blk_drew ?_ | refine blk_alloc ?_ _) | refine blk_far ?_ NB5199_5228.out _ | refine blk_far ?_ NB5199_5227.out _)); exact BK5199.out) hb); have n1_ := Aside0.mk (blk_below (g := gb5200) (o := .cells #[.int .u64 a1_0, .int .u64 a1_1, .int .u64 a1_2, .int .u64 a1_3, .bool a1_4] 26 (0, 0)) (by (repeat (first | (with_reducible first | refine blk_drewN ?_ _ | refine blk_drew ?_ | refine blk_alloc ?_ _) | refine blk_far ?_ NB5200_5228.out _ | refine blk_far ?_ NB5200_5227.out _)); exact BK5200.out) hb); have n2_ := Aside0.mk (blk_below (g := gb5206) (o := .cells #[.int .u64 t5202, .int .u64 t5203, .int .u64 t5204, .int .u64 t5205] 24 (0, 0)) (by (repeat (first | (with_reducible first | refine blk_drewN ?_ _ | refine blk_drew ?_ | refine blk_alloc ?_ _) | refine blk_far ?_ NB5206_5228.out _ | refine blk_far ?_ NB5206_5227.out _)); exact BK5206.out) hb); have n3_ := Aside0.mk (blk_below (g := gb5211) (o := .cells #[.int .u64 t5207, .int .u64 t5208, .int .u64 t5209, .int .u64 t5210] 24 (0, 0)) (by (repeat (first | (with_reducible first | refine blk_drewN ?_ _ | refine blk_drew ?_ | refine blk_alloc ?_ _) | refine blk_far ?_ NB5211_5228.out _ | refine blk_far ?_ NB5211_5227.out _)); exact BK5211.out) hb); have n4_ := Aside0.mk (blk_below (g := gb5219) (o := .cells #[.int .u64 t5213, .int .u64 t5214, .int .u64 t5215, .int .u64 t5216] 24 (0, 0)) (by (repeat (first | (with_reducible first | refine blk_drewN ?_ _ | refine blk_drew ?_ | refine blk_alloc ?_ _) | refine blk_far ?_ NB5219_5228.out _ | refine blk_far ?_ NB5219_5227.out _)); exact BK5219.out) hb); have n5_ := Aside0.mk (blk_below (g := gb5220) (o := .cells #[.string t5217, .bool true] 51 (0, 0)) (by (repeat (first | (with_reducible first | refine blk_drewN ?_ _ | refine blk_drew ?_ | refine blk_alloc ?_ _) | refine blk_far ?_ NB5220_5228.out _ | refine blk_far ?_ NB5220_5227.out _)); exact BK5220.out) hb); have n6_ := Aside0.mk (blk_below (g := gb5227) (o := .cells #[.int .u64 t5221, .int .u64 t5222, .int .u64 t5223, .int .u64 t5224] 24 (0, 0)) (by (repeat (first | (with_reducible first | refine blk_drewN ?_ _ | refine blk_drew ?_ | refine blk_alloc ?_ _) | refine blk_far ?_ NB5227_5228.out _)); refine blk_put (cs := #[.int .u64 t5221, .int .u64 t5222, .int .u64 t5223, .int .u64 0]) ?_ 3 _ rfl; (with_reducible repeat (first | refine blk_drewN ?_ _ | refine blk_drew ?_ | refine blk_alloc ?_ _)); refine blk_put (cs := #[.int .u64 t5221, .int .u64 t5222, .int .u64 0, .int .u64 0]) ?_ 2 _ rfl; (with_reducible repeat (first | refine blk_drewN ?_ _ | refine blk_drew ?_ | refine blk_alloc ?_ _)); refine blk_put (cs := #[.int .u64 t5221, .int .u64 0, .int .u64 0, .int .u64 0]) ?_ 1 _ rfl; (with_reducible repeat (first | refine blk_drewN ?_ _ | refine blk_drew ?_ | refine blk_alloc ?_ _)); refine blk_put (cs := #[.int .u64 0, .int .u64 0, .int .u64 0, .int .u64 0]) ?_ 0 _ rfl; (with_reducible repeat (first | refine blk_drewN ?_ _ | refine blk_drew ?_ | refine blk_alloc ?_ _)); exact BK5227.out) hb); have n7_ := Aside0.mk (blk_below (g := gb5228) (o := .cells #[.string t5225, .bool true] 51 (0, 0)) (by (with_reducible repeat (first | refine blk_drewN ?_ _ | refine blk_drew ?_ | refine blk_alloc ?_ _)); refine blk_put (cs := #[.string t5225, .bool false]) ?_ 1 _ rfl; (with_reducible repeat (first | refine blk_drewN ?_ _ | refine blk_drew ?_ | refine blk_alloc ?_ _)); refine blk_put (cs := #[.string (⟨#[]⟩ : ByteArray), .bool false]) ?_ 0 _ rfl; (repeat (first | (with_reducible first | refine blk_drewN ?_ _ | refine blk_drew ?_ | refine blk_alloc ?_ _) | refine blk_far ?_ NB5228_5227.out _)); exact BK5228.out) hb); have n8_ := Aside0.mk (below_step (by repeat (first | (with_reducible first | exact HB.out | apply below_alloc | apply pw_below_drewN | apply below_drew1 | refine below_set ?_ GE5199.out | refine below_set ?_ GE5200.out | refine below_set ?_ GE5206.out | refine below_set ?_ GE5211.out | refine below_set ?_ GE5219.out | refine below_set ?_ GE5220.out | refine below_set ?_ GE5227.out | refine below_set ?_ GE5228.out) | exact HB.out)) hb); clear BK5199; clear BK5200; clear BK5206; clear BK5211; clear BK5219; clear BK5220; clear BK5227; clear BK5228; clear HB; have BK5199 := n0_; have BK5200 := n1_; have BK5206 := n2_; have BK5211 := n3_; have BK5219 := n4_; have BK5220 := n5_; have BK5227 := n6_; have BK5228 := n7_; have HB := n8_; clear n0_ n1_ n2_ n3_ n4_ n5_ n6_ n7_ n8_; (try clear hb); (try clear hb2); (try clear hk); (try clear hi)))
  have n0_ := Aside0.mk (blk_drew BK5199.out)
  have n1_ := Aside0.mk (blk_drew BK5200.out)
  have n2_ := Aside0.mk (blk_drew BK5206.out)
  have n3_ := Aside0.mk (blk_drew BK5211.out)
  have n4_ := Aside0.mk (blk_drew BK5219.out)
  have n5_ := Aside0.mk (blk_drew BK5220.out)
  have n6_ := Aside0.mk (blk_drew BK5227.out)
  have n7_ := Aside0.mk (blk_drew BK5228.out)
  have n8_ := Aside0.mk (below_drew1 HB.out)
  clear BK5199
  clear BK5200
  clear BK5206
  clear BK5211
  clear BK5219
  clear BK5220
  clear BK5227
  clear BK5228
  clear HB
  have BK5199 := n0_
  have BK5200 := n1_
  have BK5206 := n2_
  have BK5211 := n3_
  have BK5219 := n4_
  have BK5220 := n5_
  have BK5227 := n6_
  have BK5228 := n7_
  have HB := n8_
  clear n0_ n1_ n2_ n3_ n4_ n5_ n6_ n7_ n8_
  refine start_ (n := 49) (S := fun w' => w'.cell? ⟨gb5211, 0, none⟩ = some (.int .u64 t5207) ∧ w'.cell? ⟨gb5211, 1, none⟩ = some (.int .u64 t5208) ∧ w'.cell? ⟨gb5211, 2, none⟩ = some (.int .u64 t5209) ∧ w'.cell? ⟨gb5211, 3, none⟩ = some (.int .u64 t5210) ∧ w'.cell? ⟨gb5206, 0, none⟩ = some (.int .u64 t5202) ∧ w'.cell? ⟨gb5206, 1, none⟩ = some (.int .u64 t5203) ∧ w'.cell? ⟨gb5206, 2, none⟩ = some (.int .u64 t5204) ∧ w'.cell? ⟨gb5206, 3, none⟩ = some (.int .u64 t5205) ∧ w'.cell? ⟨gb5220, 0, none⟩ = some (.string t5217) ∧ w'.cell? ⟨gb5220, 1, none⟩ = some (.bool true) ∧ w'.cell? ⟨gb5228, 0, none⟩ = some (.string t5225) ∧ w'.cell? ⟨gb5228, 1, none⟩ = some (.bool true)) (ds := []) #[false, false, false, false, false, false, false, false, false, false, false, false, false, false, false, false, false, false, false, false, false, false, false, false, false, false, false, false, false, false, false, false, false, false, false, false, false, false, false, false, false, false, false, false, false, false, false, false, false] (by kernel_rfl) rfl rfl ⟨(blk_cell BK5211.out 0).trans rfl, (blk_cell BK5211.out 1).trans rfl, (blk_cell BK5211.out 2).trans rfl, (blk_cell BK5211.out 3).trans rfl, (blk_cell BK5206.out 0).trans rfl, (blk_cell BK5206.out 1).trans rfl, (blk_cell BK5206.out 2).trans rfl, (blk_cell BK5206.out 3).trans rfl, (blk_cell BK5220.out 0).trans rfl, (blk_cell BK5220.out 1).trans rfl, (blk_cell BK5228.out 0).trans rfl, (blk_cell BK5228.out 1).trans rfl⟩ (fun hHeld => ?_); refine with_tabW tenementlaw06_VecBack_p0.tab12 tenementlaw06_VecBack_p0.bits12 (fun HT_ HW_ => ?_)
  generalize w80.drew = w81 at BK5199 BK5200 BK5206 BK5211 BK5219 BK5220 BK5227 BK5228 HB hHeld ⊢
  refine pure_ (i := 0) (N := some 51) (v := ?_) (a' := ?_) #[true, false, false, false, false, false, false, false, false, false, false, false, false, false, false, false, false, false, false, false, false, false, false, false, false, false, false, false, false, false, false, false, false, false, false, false, false, false, false, false, false, false, false, false, false, false, false, false, false] rfl rfl (any_of HT_.out (by kernel_rfl)) (fun _ _ _ h => h) (Or.inl ⟨by rfl, ?_⟩) ?_ ?_
  rotate_left
  · intro w'
    go_simp
    with_reducible rfl
  rotate_left
  · simp only [Act.put, List.setIfInBounds_toArray, List.set_cons_zero, List.set_cons_succ, i64_w, i32_w]
    rfl
  refine pure_ (i := 1) (N := some 52) (v := ?_) (a' := ?_) #[true, true, false, false, false, false, false, false, false, false, false, false, false, false, false, false, false, false, false, false, false, false, false, false, false, false, false, false, false, false, false, false, false, false, false, false, false, false, false, false, false, false, false, false, false, false, false, false, false] rfl rfl (any_of HT_.out (by kernel_rfl)) (fun _ _ _ h => h) (Or.inl ⟨by rfl, ?_⟩) ?_ ?_
  rotate_left
  · intro w'
    go_simp
    with_reducible rfl
  rotate_left
  · simp only [Act.put, List.setIfInBounds_toArray, List.set_cons_zero, List.set_cons_succ, i64_w, i32_w]
    rfl
  refine pure_ (i := 2) (N := some 53) (v := ?_) (a' := ?_) #[true, true, true, false, false, false, false, false, false, false, false, false, false, false, false, false, false, false, false, false, false, false, false, false, false, false, false, false, false, false, false, false, false, false, false, false, false, false, false, false, false, false, false, false, false, false, false, false, false] rfl rfl (any_of HT_.out (by kernel_rfl)) (fun _ _ _ h => h) (Or.inl ⟨by rfl, ?_⟩) ?_ ?_
  rotate_left
  · intro w'
    go_simp
    with_reducible rfl
  rotate_left
  · simp only [Act.put, List.setIfInBounds_toArray, List.set_cons_zero, List.set_cons_succ, i64_w, i32_w]
    rfl
  refine take_ (i := 3) (N := some 54) (v := ?_) (a' := ?_) #[true, true, true, true, false, false, false, false, false, false, false, false, false, false, false, false, false, false, false, false, false, false, false, false, false, false, false, false, false, false, false, false, false, false, false, false, false, false, false, false, false, false, false, false, false, false, false, false, false] rfl rfl (take_ofW HT_.out HW_.out (by kernel_rfl)) (fun _ _ _ h => h) (Or.inl ⟨by rfl, ?_⟩) hHeld ?_ ?_
  rotate_left
  · rintro w' ⟨s0, s1, s2, s3, s4, s5, s6, s7, s8, s9, s10, s11⟩
    go_simp
    with_reducible rfl
  rotate_left
  · simp only [Act.put, List.setIfInBounds_toArray, List.set_cons_zero, List.set_cons_succ, i64_w, i32_w]
    rfl
  refine take_ (i := 6) (N := some 57) (v := ?_) (a' := ?_) #[true, true, true, true, false, false, true, false, false, false, false, false, false, false, false, false, false, false, false, false, false, false, false, false, false, false, false, false, false, false, false, false, false, false, false, false, false, false, false, false, false, false, false, false, false, false, false, false, false] rfl rfl (take_ofW HT_.out HW_.out (by kernel_rfl)) (fun _ _ _ h => h) (Or.inl ⟨by rfl, ?_⟩) hHeld ?_ ?_
  rotate_left
  · rintro w' ⟨s0, s1, s2, s3, s4, s5, s6, s7, s8, s9, s10, s11⟩
    go_simp
    with_reducible rfl
  rotate_left
  · simp only [Act.put, List.setIfInBounds_toArray, List.set_cons_zero, List.set_cons_succ, i64_w, i32_w]
    rfl
  refine take_ (i := 7) (N := some 58) (v := ?_) (a' := ?_) #[true, true, true, true, false, false, true, true, false, false, false, false, false, false, false, false, false, false, false, false, false, false, false, false, false, false, false, false, false, false, false, false, false, false, false, false, false, false, false, false, false, false, false, false, false, false, false, false, false] rfl rfl (take_ofW HT_.out HW_.out (by kernel_rfl)) (fun _ _ _ h => h) (Or.inl ⟨by rfl, ?_⟩) hHeld ?_ ?_
  rotate_left
  · rintro w' ⟨s0, s1, s2, s3, s4, s5, s6, s7, s8, s9, s10, s11⟩
    go_simp
    with_reducible rfl
  rotate_left
  · simp only [Act.put, List.setIfInBounds_toArray, List.set_cons_zero, List.set_cons_succ, i64_w, i32_w]
    rfl
  refine pure_ (i := 8) (N := some 59) (v := ?_) (a' := ?_) #[true, true, true, true, false, false, true, true, true, false, false, false, false, false, false, false, false, false, false, false, false, false, false, false, false, false, false, false, false, false, false, false, false, false, false, false, false, false, false, false, false, false, false, false, false, false, false, false, false] rfl rfl (any_of HT_.out (by kernel_rfl)) (fun _ _ _ h => h) (Or.inl ⟨by rfl, ?_⟩) ?_ ?_
  rotate_left
  · intro w'
    go_simp
    with_reducible rfl
  rotate_left
  · simp only [Act.put, List.setIfInBounds_toArray, List.set_cons_zero, List.set_cons_succ, i64_w, i32_w]
    rfl
  refine one_ (i := 4) (N := some 55) #[true, true, true, true, true, false, true, true, true, false, false, false, false, false, false, false, false, false, false, false, false, false, false, false, false, false, false, false, false, false, false, false, false, false, false, false, false, false, false, false, false, false, false, false, false, false, false, false, false] rfl rfl (one_of HT_.out (by kernel_rfl)) (by decide) (fun K hK => ?_)
  refine goes_ Tryd.func28 (by kernel_rfl) rfl #[.agg #[.int .u64 t5207, .int .u64 t5208, .int .u64 t5209, .int .u64 t5210]] (by rfl) rfl rfl (by (try simp only [List.map_toArray, List.map_cons, List.map_nil]); first | done | rfl | (simp only [List.length_drop, List.length_take]; rfl)) ?_
  with_reducible refine (vec_Put.calls k t5207 t5208 t5209 t5210 t5230 _ A19.out).mono ?_
  rintro e w82 ⟨rfl, hb⟩
  refine ⟨_, rfl, ?_⟩
  have n0_ := Aside0.mk (blk_below (g := gb5199) (o := .cells #[.int .u64 a0_0, .int .u64 a0_1, .int .u64 a0_2, .int .u64 a0_3, .bool a0_4] 26 (0, 0)) (by (with_reducible repeat (first | refine blk_drewN ?_ _ | refine blk_drew ?_ | refine blk_alloc ?_ _)); exact BK5199.out) hb)
  have n1_ := Aside0.mk (blk_below (g := gb5200) (o := .cells #[.int .u64 a1_0, .int .u64 a1_1, .int .u64 a1_2, .int .u64 a1_3, .bool a1_4] 26 (0, 0)) (by (with_reducible repeat (first | refine blk_drewN ?_ _ | refine blk_drew ?_ | refine blk_alloc ?_ _)); exact BK5200.out) hb)
  have n2_ := Aside0.mk (blk_below (g := gb5206) (o := .cells #[.int .u64 t5202, .int .u64 t5203, .int .u64 t5204, .int .u64 t5205] 24 (0, 0)) (by (with_reducible repeat (first | refine blk_drewN ?_ _ | refine blk_drew ?_ | refine blk_alloc ?_ _)); exact BK5206.out) hb)
  have n3_ := Aside0.mk (blk_below (g := gb5211) (o := .cells #[.int .u64 t5207, .int .u64 t5208, .int .u64 t5209, .int .u64 t5210] 24 (0, 0)) (by (with_reducible repeat (first | refine blk_drewN ?_ _ | refine blk_drew ?_ | refine blk_alloc ?_ _)); exact BK5211.out) hb)
  have n4_ := Aside0.mk (blk_below (g := gb5219) (o := .cells #[.int .u64 t5213, .int .u64 t5214, .int .u64 t5215, .int .u64 t5216] 24 (0, 0)) (by (with_reducible repeat (first | refine blk_drewN ?_ _ | refine blk_drew ?_ | refine blk_alloc ?_ _)); exact BK5219.out) hb)
  have n5_ := Aside0.mk (blk_below (g := gb5220) (o := .cells #[.string t5217, .bool true] 51 (0, 0)) (by (with_reducible repeat (first | refine blk_drewN ?_ _ | refine blk_drew ?_ | refine blk_alloc ?_ _)); exact BK5220.out) hb)
  have n6_ := Aside0.mk (blk_below (g := gb5227) (o := .cells #[.int .u64 t5221, .int .u64 t5222, .int .u64 t5223, .int .u64 t5224] 24 (0, 0)) (by (with_reducible repeat (first | refine blk_drewN ?_ _ | refine blk_drew ?_ | refine blk_alloc ?_ _)); exact BK5227.out) hb)
  have n7_ := Aside0.mk (blk_below (g := gb5228) (o := .cells #[.string t5225, .bool true] 51 (0, 0)) (by (with_reducible repeat (first | refine blk_drewN ?_ _ | refine blk_drew ?_ | refine blk_alloc ?_ _)); exact BK5228.out) hb)
  have n8_ := Aside0.mk (below_step (by repeat (first | (with_reducible first | exact HB.out | apply below_alloc | apply pw_below_drewN | apply below_drew1 | refine below_set ?_ GE5199.out | refine below_set ?_ GE5200.out | refine below_set ?_ GE5206.out | refine below_set ?_ GE5211.out | refine below_set ?_ GE5219.out | refine below_set ?_ GE5220.out | refine below_set ?_ GE5227.out | refine below_set ?_ GE5228.out) | exact HB.out)) hb)
  clear BK5199
  clear BK5200
  clear BK5206
  clear BK5211
  clear BK5219
  clear BK5220
  clear BK5227
  clear BK5228
  clear HB
  have BK5199 := n0_
  have BK5200 := n1_
  have BK5206 := n2_
  have BK5211 := n3_
  have BK5219 := n4_
  have BK5220 := n5_
  have BK5227 := n6_
  have BK5228 := n7_
  have HB := n8_
  clear n0_ n1_ n2_ n3_ n4_ n5_ n6_ n7_ n8_
  (try clear hb)
  (try clear hb2)
  (try clear hk)
  (try clear hi)
  refine hK.out _ _ ⟨(blk_cell BK5211.out 0).trans rfl, (blk_cell BK5211.out 1).trans rfl, (blk_cell BK5211.out 2).trans rfl, (blk_cell BK5211.out 3).trans rfl, (blk_cell BK5206.out 0).trans rfl, (blk_cell BK5206.out 1).trans rfl, (blk_cell BK5206.out 2).trans rfl, (blk_cell BK5206.out 3).trans rfl, (blk_cell BK5220.out 0).trans rfl, (blk_cell BK5220.out 1).trans rfl, (blk_cell BK5228.out 0).trans rfl, (blk_cell BK5228.out 1).trans rfl⟩ (fun hHeld => ?_)
  clear hK K
  refine norm_ (a' := ?_) ?_ ?_
  rotate_left
  · show Act.put _ (some 55) _ = _
    simp only [Act.put, List.setIfInBounds_toArray, List.set_cons_zero, List.set_cons_succ, i64_w, i32_w]
    rfl
  refine pure_ (i := 5) (N := some 56) (v := ?_) (a' := ?_) #[true, true, true, true, true, true, true, true, true, false, false, false, false, false, false, false, false, false, false, false, false, false, false, false, false, false, false, false, false, false, false, false, false, false, false, false, false, false, false, false, false, false, false, false, false, false, false, false, false] rfl rfl (any_of HT_.out (by kernel_rfl)) (fun _ _ _ h => h) (Or.inl ⟨by rfl, ?_⟩) ?_ ?_
  rotate_left
  · intro w'
    go_simp
    with_reducible rfl
  rotate_left
  · simp only [Act.put, List.setIfInBounds_toArray, List.set_cons_zero, List.set_cons_succ, i64_w, i32_w]
    rfl
  refine pure_ (i := 9) (N := some 60) (v := ?_) (a' := ?_) #[true, true, true, true, true, true, true, true, true, true, false, false, false, false, false, false, false, false, false, false, false, false, false, false, false, false, false, false, false, false, false, false, false, false, false, false, false, false, false, false, false, false, false, false, false, false, false, false, false] rfl rfl (any_of HT_.out (by kernel_rfl)) (fun _ _ _ h => h) (Or.inl ⟨by rfl, ?_⟩) ?_ ?_
  rotate_left
  · intro w'
    go_simp
    with_reducible rfl
  rotate_left
  · simp only [Act.put, List.setIfInBounds_toArray, List.set_cons_zero, List.set_cons_succ, i64_w, i32_w]
    rfl
  refine pure_ (i := 10) (N := some 61) (v := ?_) (a' := ?_) #[true, true, true, true, true, true, true, true, true, true, true, false, false, false, false, false, false, false, false, false, false, false, false, false, false, false, false, false, false, false, false, false, false, false, false, false, false, false, false, false, false, false, false, false, false, false, false, false, false] rfl rfl (any_of HT_.out (by kernel_rfl)) (fun _ _ _ h => h) (Or.inl ⟨by rfl, ?_⟩) ?_ ?_
  rotate_left
  · intro w'
    go_simp
    with_reducible rfl
  rotate_left
  · simp only [Act.put, List.setIfInBounds_toArray, List.set_cons_zero, List.set_cons_succ, i64_w, i32_w]
    rfl
  refine pure_ (i := 11) (N := some 62) (v := ?_) (a' := ?_) #[true, true, true, true, true, true, true, true, true, true, true, true, false, false, false, false, false, false, false, false, false, false, false, false, false, false, false, false, false, false, false, false, false, false, false, false, false, false, false, false, false, false, false, false, false, false, false, false, false] rfl rfl (any_of HT_.out (by kernel_rfl)) (fun _ _ _ h => h) (Or.inl ⟨by rfl, ?_⟩) ?_ ?_
  rotate_left
  · intro w'
    go_simp
    with_reducible rfl
  rotate_left
  · simp only [Act.put, List.setIfInBounds_toArray, List.set_cons_zero, List.set_cons_succ, i64_w, i32_w]
    rfl
  refine pure_ (i := 12) (N := some 63) (v := ?_) (a' := ?_) #[true, true, true, true, true, true, true, true, true, true, true, true, true, false, false, false, false, false, false, false, false, false, false, false, false, false, false, false, false, false, false, false, false, false, false, false, false, false, false, false, false, false, false, false, false, false, false, false, false] rfl rfl (any_of HT_.out (by kernel_rfl)) (fun _ _ _ h => h) (Or.inl ⟨by rfl, ?_⟩) ?_ ?_
  rotate_left
  · intro w'
    go_simp
    with_reducible rfl
  rotate_left
  · simp only [Act.put, List.setIfInBounds_toArray, List.set_cons_zero, List.set_cons_succ, i64_w, i32_w]
    rfl
  refine pure_ (i := 14) (N := some 65) (v := ?_) (a' := ?_) #[true, true, true, true, true, true, true, true, true, true, true, true, true, false, true, false, false, false, false, false, false, false, false, false, false, false, false, false, false, false, false, false, false, false, false, false, false, false, false, false, false, false, false, false, false, false, false, false, false] rfl rfl (any_of HT_.out (by kernel_rfl)) (fun _ _ _ h => h) (Or.inl ⟨by rfl, ?_⟩) ?_ ?_
  rotate_left
  · intro w'
    go_simp
    with_reducible rfl
  rotate_left
  · simp only [Act.put, List.setIfInBounds_toArray, List.set_cons_zero, List.set_cons_succ, i64_w, i32_w]
    rfl
  refine pure_ (i := 15) (N := some 66) (v := ?_) (a' := ?_) #[true, true, true, true, true, true, true, true, true, true, true, true, true, false, true, true, false, false, false, false, false, false, false, false, false, false, false, false, false, false, false, false, false, false, false, false, false, false, false, false, false, false, false, false, false, false, false, false, false] rfl rfl (any_of HT_.out (by kernel_rfl)) (fun _ _ _ h => h) (Or.inl ⟨by rfl, ?_⟩) ?_ ?_
  rotate_left
  · intro w'
    go_simp
    with_reducible rfl
  rotate_left
  · simp only [Act.put, List.setIfInBounds_toArray, List.set_cons_zero, List.set_cons_succ, i64_w, i32_w]
    rfl
  refine take_ (i := 13) (N := some 64) (v := ?_) (a' := ?_) #[true, true, true, true, true, true, true, true, true, true, true, true, true, true, true, true, false, false, false, false, false, false, false, false, false, false, false, false, false, false, false, false, false, false, false, false, false, false, false, false, false, false, false, false, false, false, false, false, false] rfl rfl (take_ofW HT_.out HW_.out (by kernel_rfl)) (fun _ _ _ h => h) (Or.inl ⟨by rfl, ?_⟩) hHeld ?_ ?_
  rotate_left
  · rintro w' ⟨s0, s1, s2, s3, s4, s5, s6, s7, s8, s9, s10, s11⟩
    go_simp
    with_reducible rfl
  rotate_left
  · simp only [Act.put, List.setIfInBounds_toArray, List.set_cons_zero, List.set_cons_succ, i64_w, i32_w]
    rfl
  refine pure_ (i := 16) (N := some 67) (v := ?_) (a' := ?_) #[true, true, true, true, true, true, true, true, true, true, true, true, true, true, true, true, true, false, false, false, false, false, false, false, false, false, false, false, false, false, false, false, false, false, false, false, false, false, false, false, false, false, false, false, false, false, false, false, false] rfl rfl (any_of HT_.out (by kernel_rfl)) (fun _ _ _ h => h) (Or.inl ⟨by rfl, ?_⟩) ?_ ?_
  rotate_left
  · intro w'
    go_simp
    with_reducible rfl
  rotate_left
  · simp only [Act.put, List.setIfInBounds_toArray, List.set_cons_zero, List.set_cons_succ, i64_w, i32_w]
    rfl
  refine pure_ (i := 17) (N := some 68) (v := ?_) (a' := ?_) #[true, true, true, true, true, true, true, true, true, true, true, true, true, true, true, true, true, true, false, false, false, false, false, false, false, false, false, false, false, false, false, false, false, false, false, false, false, false, false, false, false, false, false, false, false, false, false, false, false] rfl rfl (any_of HT_.out (by kernel_rfl)) (fun _ _ _ h => h) (Or.inl ⟨by rfl, ?_⟩) ?_ ?_
  rotate_left
  · intro w'
    go_simp
    with_reducible rfl
  rotate_left
  · simp only [Act.put, List.setIfInBounds_toArray, List.set_cons_zero, List.set_cons_succ, i64_w, i32_w]
    rfl
  refine pure_ (i := 18) (N := some 69) (v := ?_) (a' := ?_) #[true, true, true, true, true, true, true, true, true, true, true, true, true, true, true, true, true, true, true, false, false, false, false, false, false, false, false, false, false, false, false, false, false, false, false, false, false, false, false, false, false, false, false, false, false, false, false, false, false] rfl rfl (any_of HT_.out (by kernel_rfl)) (fun _ _ _ h => h) (Or.inl ⟨by rfl, ?_⟩) ?_ ?_
  rotate_left
  · intro w'
    go_simp
    with_reducible rfl
  rotate_left
  · simp only [Act.put, List.setIfInBounds_toArray, List.set_cons_zero, List.set_cons_succ, i64_w, i32_w]
    rfl
  refine pure_ (i := 19) (N := some 70) (v := ?_) (a' := ?_) #[true, true, true, true, true, true, true, true, true, true, true, true, true, true, true, true, true, true, true, true, false, false, false, false, false, false, false, false, false, false, false, false, false, false, false, false, false, false, false, false, false, false, false, false, false, false, false, false, false] rfl rfl (any_of HT_.out (by kernel_rfl)) (fun _ _ _ h => h) (Or.inl ⟨by rfl, ?_⟩) ?_ ?_
  rotate_left
  · intro w'
    go_simp
    with_reducible rfl
  rotate_left
  · simp only [Act.put, List.setIfInBounds_toArray, List.set_cons_zero, List.set_cons_succ, i64_w, i32_w]
    rfl
  refine pure_ (i := 20) (N := some 71) (v := ?_) (a' := ?_) #[true, true, true, true, true, true, true, true, true, true, true, true, true, true, true, true, true, true, true, true, true, false, false, false, false, false, false, false, false, false, false, false, false, false, false, false, false, false, false, false, false, false, false, false, false, false, false, false, false] rfl rfl (any_of HT_.out (by kernel_rfl)) (fun _ _ _ h => h) (Or.inl ⟨by rfl, ?_⟩) ?_ ?_
  rotate_left
  · intro w'
    go_simp
    with_reducible rfl
  rotate_left
  · simp only [Act.put, List.setIfInBounds_toArray, List.set_cons_zero, List.set_cons_succ, i64_w, i32_w]
    rfl
  refine pure_ (i := 21) (N := some 72) (v := ?_) (a' := ?_) #[true, true, true, true, true, true, true, true, true, true, true, true, true, true, true, true, true, true, true, true, true, true, false, false, false, false, false, false, false, false, false, false, false, false, false, false, false, false, false, false, false, false, false, false, false, false, false, false, false] rfl rfl (any_of HT_.out (by kernel_rfl)) (fun _ _ _ h => h) (Or.inl ⟨by rfl, ?_⟩) ?_ ?_
  rotate_left
  · intro w'
    go_simp
    with_reducible rfl
  rotate_left
  · simp only [Act.put, List.setIfInBounds_toArray, List.set_cons_zero, List.set_cons_succ, i64_w, i32_w]
    rfl
  refine pure_ (i := 22) (N := some 73) (v := undef) (a' := ?_) #[true, true, true, true, true, true, true, true, true, true, true, true, true, true, true, true, true, true, true, true, true, true, true, false, false, false, false, false, false, false, false, false, false, false, false, false, false, false, false, false, false, false, false, false, false, false, false, false, false] rfl rfl (any_of HT_.out (by kernel_rfl)) (fun _ _ _ h => h) (Or.inr ⟨by rfl, rfl⟩) ?_ ?_
  rotate_left
  · simp only [Act.put, List.setIfInBounds_toArray, List.set_cons_zero, List.set_cons_succ, i64_w, i32_w]
    rfl
  refine pure_ (i := 23) (N := some 74) (v := undef) (a' := ?_) #[true, true, true, true, true, true, true, true, true, true, true, true, true, true, true, true, true, true, true, true, true, true, true, true, false, false, false, false, false, false, false, false, false, false, false, false, false, false, false, false, false, false, false, false, false, false, false, false, false] rfl rfl (any_of HT_.out (by kernel_rfl)) (fun _ _ _ h => h) (Or.inr ⟨by rfl, rfl⟩) ?_ ?_
  rotate_left
  · simp only [Act.put, List.setIfInBounds_toArray, List.set_cons_zero, List.set_cons_succ, i64_w, i32_w]
    rfl
  refine pure_ (i := 24) (N := some 75) (v := undef) (a' := ?_) #[true, true, true, true, true, true, true, true, true, true, true, true, true, true, true, true, true, true, true, true, true, true, true, true, true, false, false, false, false, false, false, false, false, false, false, false, false, false, false, false, false, false, false, false, false, false, false, false, false] rfl rfl (any_of HT_.out (by kernel_rfl)) (fun _ _ _ h => h) (Or.inr ⟨by rfl, rfl⟩) ?_ ?_
  rotate_left
  · simp only [Act.put, List.setIfInBounds_toArray, List.set_cons_zero, List.set_cons_succ, i64_w, i32_w]
    rfl
  refine pure_ (i := 25) (N := some 76) (v := undef) (a' := ?_) #[true, true, true, true, true, true, true, true, true, true, true, true, true, true, true, true, true, true, true, true, true, true, true, true, true, true, false, false, false, false, false, false, false, false, false, false, false, false, false, false, false, false, false, false, false, false, false, false, false] rfl rfl (any_of HT_.out (by kernel_rfl)) (fun _ _ _ h => h) (Or.inr ⟨by rfl, rfl⟩) ?_ ?_
  rotate_left
  · simp only [Act.put, List.setIfInBounds_toArray, List.set_cons_zero, List.set_cons_succ, i64_w, i32_w]
    rfl
  refine pure_ (i := 26) (N := some 77) (v := undef) (a' := ?_) #[true, true, true, true, true, true, true, true, true, true, true, true, true, true, true, true, true, true, true, true, true, true, true, true, true, true, true, false, false, false, false, false, false, false, false, false, false, false, false, false, false, false, false, false, false, false, false, false, false] rfl rfl (any_of HT_.out (by kernel_rfl)) (fun _ _ _ h => h) (Or.inr ⟨by rfl, rfl⟩) ?_ ?_
  rotate_left
  · simp only [Act.put, List.setIfInBounds_toArray, List.set_cons_zero, List.set_cons_succ, i64_w, i32_w]
    rfl
  refine pure_ (i := 27) (N := some 78) (v := undef) (a' := ?_) #[true, true, true, true, true, true, true, true, true, true, true, true, true, true, true, true, true, true, true, true, true, true, true, true, true, true, true, true, false, false, false, false, false, false, false, false, false, false, false, false, false, false, false, false, false, false, false, false, false] rfl rfl (any_of HT_.out (by kernel_rfl)) (fun _ _ _ h => h) (Or.inr ⟨by rfl, rfl⟩) ?_ ?_
  rotate_left
  · simp only [Act.put, List.setIfInBounds_toArray, List.set_cons_zero, List.set_cons_succ, i64_w, i32_w]
    rfl
  refine pure_ (i := 28) (N := some 79) (v := undef) (a' := ?_) #[true, true, true, true, true, true, true, true, true, true, true, true, true, true, true, true, true, true, true, true, true, true, true, true, true, true, true, true, true, false, false, false, false, false, false, false, false, false, false, false, false, false, false, false, false, false, false, false, false] rfl rfl (any_of HT_.out (by kernel_rfl)) (fun _ _ _ h => h) (Or.inr ⟨by rfl, rfl⟩) ?_ ?_
  rotate_left
  · simp only [Act.put, List.setIfInBounds_toArray, List.set_cons_zero, List.set_cons_succ, i64_w, i32_w]
    rfl
  refine pure_ (i := 29) (N := some 80) (v := undef) (a' := ?_) #[true, true, true, true, true, true, true, true, true, true, true, true, true, true, true, true, true, true, true, true, true, true, true, true, true, true, true, true, true, true, false, false, false, false, false, false, false, false, false, false, false, false, false, false, false, false, false, false, false] rfl rfl (any_of HT_.out (by kernel_rfl)) (fun _ _ _ h => h) (Or.inr ⟨by rfl, rfl⟩) ?_ ?_
  rotate_left
  · simp only [Act.put, List.setIfInBounds_toArray, List.set_cons_zero, List.set_cons_succ, i64_w, i32_w]
    rfl
  refine pure_ (i := 30) (N := some 81) (v := undef) (a' := ?_) #[true, true, true, true, true, true, true, true, true, true, true, true, true, true, true, true, true, true, true, true, true, true, true, true, true, true, true, true, true, true, true, false, false, false, false, false, false, false, false, false, false, false, false, false, false, false, false, false, false] rfl rfl (any_of HT_.out (by kernel_rfl)) (fun _ _ _ h => h) (Or.inr ⟨by rfl, rfl⟩) ?_ ?_
  rotate_left
  · simp only [Act.put, List.setIfInBounds_toArray, List.set_cons_zero, List.set_cons_succ, i64_w, i32_w]
    rfl
  refine pure_ (i := 31) (N := some 82) (v := ?_) (a' := ?_) #[true, true, true, true, true, true, true, true, true, true, true, true, true, true, true, true, true, true, true, true, true, true, true, true, true, true, true, true, true, true, true, true, false, false, false, false, false, false, false, false, false, false, false, false, false, false, false, false, false] rfl rfl (any_of HT_.out (by kernel_rfl)) (fun _ _ _ h => h) (Or.inl ⟨by rfl, ?_⟩) ?_ ?_
  rotate_left
  · intro w'
    go_simp
    with_reducible rfl
  rotate_left
  · simp only [Act.put, List.setIfInBounds_toArray, List.set_cons_zero, List.set_cons_succ, i64_w, i32_w]
    rfl
  refine pure_ (i := 32) (N := some 83) (v := ?_) (a' := ?_) #[true, true, true, true, true, true, true, true, true, true, true, true, true, true, true, true, true, true, true, true, true, true, true, true, true, true, true, true, true, true, true, true, true, false, false, false, false, false, false, false, false, false, false, false, false, false, false, false, false] rfl rfl (any_of HT_.out (by kernel_rfl)) (fun _ _ _ h => h) (Or.inl ⟨by rfl, ?_⟩) ?_ ?_
  rotate_left
  · intro w'
    go_simp
    with_reducible rfl
  rotate_left
  · simp only [Act.put, List.setIfInBounds_toArray, List.set_cons_zero, List.set_cons_succ, i64_w, i32_w]
    rfl
  refine pure_ (i := 33) (N := some 84) (v := ?_) (a' := ?_) #[true, true, true, true, true, true, true, true, true, true, true, true, true, true, true, true, true, true, true, true, true, true, true, true, true, true, true, true, true, true, true, true, true, true, false, false, false, false, false, false, false, false, false, false, false, false, false, false, false] rfl rfl (any_of HT_.out (by kernel_rfl)) (fun _ _ _ h => h) (Or.inl ⟨by rfl, ?_⟩) ?_ ?_
  rotate_left
  · intro w'
    go_simp
    with_reducible rfl
  rotate_left
  · simp only [Act.put, List.setIfInBounds_toArray, List.set_cons_zero, List.set_cons_succ, i64_w, i32_w]
    rfl
  refine pure_ (i := 34) (N := some 85) (v := ?_) (a' := ?_) #[true, true, true, true, true, true, true, true, true, true, true, true, true, true, true, true, true, true, true, true, true, true, true, true, true, true, true, true, true, true, true, true, true, true, true, false, false, false, false, false, false, false, false, false, false, false, false, false, false] rfl rfl (any_of HT_.out (by kernel_rfl)) (fun _ _ _ h => h) (Or.inl ⟨by rfl, ?_⟩) ?_ ?_
  rotate_left
  · intro w'
    go_simp
    with_reducible rfl
  rotate_left
  · simp only [Act.put, List.setIfInBounds_toArray, List.set_cons_zero, List.set_cons_succ, i64_w, i32_w]
    rfl
  refine take_ (i := 35) (N := some 86) (v := ?_) (a' := ?_) #[true, true, true, true, true, true, true, true, true, true, true, true, true, true, true, true, true, true, true, true, true, true, true, true, true, true, true, true, true, true, true, true, true, true, true, true, false, false, false, false, false, false, false, false, false, false, false, false, false] rfl rfl (take_ofW HT_.out HW_.out (by kernel_rfl)) (fun _ _ _ h => h) (Or.inl ⟨by rfl, ?_⟩) hHeld ?_ ?_
  rotate_left
  · rintro w' ⟨s0, s1, s2, s3, s4, s5, s6, s7, s8, s9, s10, s11⟩
    go_simp
    with_reducible rfl
  rotate_left
  · simp only [Act.put, List.setIfInBounds_toArray, List.set_cons_zero, List.set_cons_succ, i64_w, i32_w]
    rfl
  refine pure_ (i := 36) (N := some 87) (v := ?_) (a' := ?_) #[true, true, true, true, true, true, true, true, true, true, true, true, true, true, true, true, true, true, true, true, true, true, true, true, true, true, true, true, true, true, true, true, true, true, true, true, true, false, false, false, false, false, false, false, false, false, false, false, false] rfl rfl (any_of HT_.out (by kernel_rfl)) (fun _ _ _ h => h) (Or.inl ⟨by rfl, ?_⟩) ?_ ?_
  rotate_left
  · intro w'
    go_simp
    with_reducible rfl
  rotate_left
  · simp only [Act.put, List.setIfInBounds_toArray, List.set_cons_zero, List.set_cons_succ, i64_w, i32_w]
    rfl
  refine pure_ (i := 37) (N := some 88) (v := ?_) (a' := ?_) #[true, true, true, true, true, true, true, true, true, true, true, true, true, true, true, true, true, true, true, true, true, true, true, true, true, true, true, true, true, true, true, true, true, true, true, true, true, true, false, false, false, false, false, false, false, false, false, false, false] rfl rfl (any_of HT_.out (by kernel_rfl)) (fun _ _ _ h => h) (Or.inl ⟨by rfl, ?_⟩) ?_ ?_
  rotate_left
  · intro w'
    go_simp
    with_reducible rfl
  rotate_left
  · simp only [Act.put, List.setIfInBounds_toArray, List.set_cons_zero, List.set_cons_succ, i64_w, i32_w]
    rfl
  refine take_ (i := 38) (N := some 89) (v := ?_) (a' := ?_) #[true, true, true, true, true, true, true, true, true, true, true, true, true, true, true, true, true, true, true, true, true, true, true, true, true, true, true, true, true, true, true, true, true, true, true, true, true, true, true, false, false, false, false, false, false, false, false, false, false] rfl rfl (take_ofW HT_.out HW_.out (by kernel_rfl)) (fun _ _ _ h => h) (Or.inl ⟨by rfl, ?_⟩) hHeld ?_ ?_
  rotate_left
  · rintro w' ⟨s0, s1, s2, s3, s4, s5, s6, s7, s8, s9, s10, s11⟩
    go_simp
    with_reducible rfl
  rotate_left
  · simp only [Act.put, List.setIfInBounds_toArray, List.set_cons_zero, List.set_cons_succ, i64_w, i32_w]
    rfl
  refine take_ (i := 40) (N := some 91) (v := ?_) (a' := ?_) #[true, true, true, true, true, true, true, true, true, true, true, true, true, true, true, true, true, true, true, true, true, true, true, true, true, true, true, true, true, true, true, true, true, true, true, true, true, true, true, false, true, false, false, false, false, false, false, false, false] rfl rfl (take_ofW HT_.out HW_.out (by kernel_rfl)) (fun _ _ _ h => h) (Or.inl ⟨by rfl, ?_⟩) hHeld ?_ ?_
  rotate_left
  · rintro w' ⟨s0, s1, s2, s3, s4, s5, s6, s7, s8, s9, s10, s11⟩
    go_simp
    with_reducible rfl
  rotate_left
  · simp only [Act.put, List.setIfInBounds_toArray, List.set_cons_zero, List.set_cons_succ, i64_w, i32_w]
    rfl
  refine take_ (i := 43) (N := some 94) (v := ?_) (a' := ?_) #[true, true, true, true, true, true, true, true, true, true, true, true, true, true, true, true, true, true, true, true, true, true, true, true, true, true, true, true, true, true, true, true, true, true, true, true, true, true, true, false, true, false, false, true, false, false, false, false, false] rfl rfl (take_ofW HT_.out HW_.out (by kernel_rfl)) (fun _ _ _ h => h) (Or.inl ⟨by rfl, ?_⟩) hHeld ?_ ?_
  rotate_left
  · rintro w' ⟨s0, s1, s2, s3, s4, s5, s6, s7, s8, s9, s10, s11⟩
    go_simp
    with_reducible rfl
  rotate_left
  · simp only [Act.put, List.setIfInBounds_toArray, List.set_cons_zero, List.set_cons_succ, i64_w, i32_w]
    rfl
  refine take_ (i := 44) (N := some 95) (v := ?_) (a' := ?_) #[true, true, true, true, true, true, true, true, true, true, true, true, true, true, true, true, true, true, true, true, true, true, true, true, true, true, true, true, true, true, true, true, true, true, true, true, true, true, true, false, true, false, false, true, true, false, false, false, false] rfl rfl (take_ofW HT_.out HW_.out (by kernel_rfl)) (fun _ _ _ h => h) (Or.inl ⟨by rfl, ?_⟩) hHeld ?_ ?_
  rotate_left
  · rintro w' ⟨s0, s1, s2, s3, s4, s5, s6, s7, s8, s9, s10, s11⟩
    go_simp
    with_reducible rfl
  rotate_left
  · simp only [Act.put, List.setIfInBounds_toArray, List.set_cons_zero, List.set_cons_succ, i64_w, i32_w]
    rfl
  refine pure_ (i := 45) (N := some 96) (v := ?_) (a' := ?_) #[true, true, true, true, true, true, true, true, true, true, true, true, true, true, true, true, true, true, true, true, true, true, true, true, true, true, true, true, true, true, true, true, true, true, true, true, true, true, true, false, true, false, false, true, true, true, false, false, false] rfl rfl (any_of HT_.out (by kernel_rfl)) (fun _ _ _ h => h) (Or.inl ⟨by rfl, ?_⟩) ?_ ?_
  rotate_left
  · intro w'
    go_simp
    with_reducible rfl
  rotate_left
  · simp only [Act.put, List.setIfInBounds_toArray, List.set_cons_zero, List.set_cons_succ, i64_w, i32_w]
    rfl
  refine one_ (i := 39) (N := some 90) #[true, true, true, true, true, true, true, true, true, true, true, true, true, true, true, true, true, true, true, true, true, true, true, true, true, true, true, true, true, true, true, true, true, true, true, true, true, true, true, true, true, false, false, true, true, true, false, false, false] rfl rfl (one_of HT_.out (by kernel_rfl)) (by decide) (fun K hK => ?_)
  refine goes_ Tryd.func30 (by kernel_rfl) rfl #[.agg #[.int .u64 t5202, .int .u64 t5203, .int .u64 t5204, .int .u64 t5205]] (by rfl) rfl rfl (by (try simp only [List.map_toArray, List.map_cons, List.map_nil]); first | done | rfl | (simp only [List.length_drop, List.length_take]; rfl)) ?_
  refine (BigText.callsT w HT _ (by repeat (first | (with_reducible first | exact HB.out | apply below_alloc | apply pw_below_drewN | apply below_drew1 | refine below_set ?_ GE5199.out | refine below_set ?_ GE5200.out | refine below_set ?_ GE5206.out | refine below_set ?_ GE5211.out | refine below_set ?_ GE5219.out | refine below_set ?_ GE5220.out | refine below_set ?_ GE5227.out | refine below_set ?_ GE5228.out) | exact HB.out)) t5202 t5203 t5204 t5205 t5231 A25.out).mono ?_
  rintro e w83 ⟨rfl, hb⟩
  refine ⟨_, rfl, ?_⟩
  have n0_ := Aside0.mk (blk_below (g := gb5199) (o := .cells #[.int .u64 a0_0, .int .u64 a0_1, .int .u64 a0_2, .int .u64 a0_3, .bool a0_4] 26 (0, 0)) (by (with_reducible repeat (first | refine blk_drewN ?_ _ | refine blk_drew ?_ | refine blk_alloc ?_ _)); exact BK5199.out) hb)
  have n1_ := Aside0.mk (blk_below (g := gb5200) (o := .cells #[.int .u64 a1_0, .int .u64 a1_1, .int .u64 a1_2, .int .u64 a1_3, .bool a1_4] 26 (0, 0)) (by (with_reducible repeat (first | refine blk_drewN ?_ _ | refine blk_drew ?_ | refine blk_alloc ?_ _)); exact BK5200.out) hb)
  have n2_ := Aside0.mk (blk_below (g := gb5206) (o := .cells #[.int .u64 t5202, .int .u64 t5203, .int .u64 t5204, .int .u64 t5205] 24 (0, 0)) (by (with_reducible repeat (first | refine blk_drewN ?_ _ | refine blk_drew ?_ | refine blk_alloc ?_ _)); exact BK5206.out) hb)
  have n3_ := Aside0.mk (blk_below (g := gb5211) (o := .cells #[.int .u64 t5207, .int .u64 t5208, .int .u64 t5209, .int .u64 t5210] 24 (0, 0)) (by (with_reducible repeat (first | refine blk_drewN ?_ _ | refine blk_drew ?_ | refine blk_alloc ?_ _)); exact BK5211.out) hb)
  have n4_ := Aside0.mk (blk_below (g := gb5219) (o := .cells #[.int .u64 t5213, .int .u64 t5214, .int .u64 t5215, .int .u64 t5216] 24 (0, 0)) (by (with_reducible repeat (first | refine blk_drewN ?_ _ | refine blk_drew ?_ | refine blk_alloc ?_ _)); exact BK5219.out) hb)
  have n5_ := Aside0.mk (blk_below (g := gb5220) (o := .cells #[.string t5217, .bool true] 51 (0, 0)) (by (with_reducible repeat (first | refine blk_drewN ?_ _ | refine blk_drew ?_ | refine blk_alloc ?_ _)); exact BK5220.out) hb)
  have n6_ := Aside0.mk (blk_below (g := gb5227) (o := .cells #[.int .u64 t5221, .int .u64 t5222, .int .u64 t5223, .int .u64 t5224] 24 (0, 0)) (by (with_reducible repeat (first | refine blk_drewN ?_ _ | refine blk_drew ?_ | refine blk_alloc ?_ _)); exact BK5227.out) hb)
  have n7_ := Aside0.mk (blk_below (g := gb5228) (o := .cells #[.string t5225, .bool true] 51 (0, 0)) (by (with_reducible repeat (first | refine blk_drewN ?_ _ | refine blk_drew ?_ | refine blk_alloc ?_ _)); exact BK5228.out) hb)
  have n8_ := Aside0.mk (below_step (by repeat (first | (with_reducible first | exact HB.out | apply below_alloc | apply pw_below_drewN | apply below_drew1 | refine below_set ?_ GE5199.out | refine below_set ?_ GE5200.out | refine below_set ?_ GE5206.out | refine below_set ?_ GE5211.out | refine below_set ?_ GE5219.out | refine below_set ?_ GE5220.out | refine below_set ?_ GE5227.out | refine below_set ?_ GE5228.out) | exact HB.out)) hb)
  clear BK5199
  clear BK5200
  clear BK5206
  clear BK5211
  clear BK5219
  clear BK5220
  clear BK5227
  clear BK5228
  clear HB
  have BK5199 := n0_
  have BK5200 := n1_
  have BK5206 := n2_
  have BK5211 := n3_
  have BK5219 := n4_
  have BK5220 := n5_
  have BK5227 := n6_
  have BK5228 := n7_
  have HB := n8_
  clear n0_ n1_ n2_ n3_ n4_ n5_ n6_ n7_ n8_
  (try clear hb)
  (try clear hb2)
  (try clear hk)
  (try clear hi)
  refine hK.out _ _ ⟨(blk_cell BK5211.out 0).trans rfl, (blk_cell BK5211.out 1).trans rfl, (blk_cell BK5211.out 2).trans rfl, (blk_cell BK5211.out 3).trans rfl, (blk_cell BK5206.out 0).trans rfl, (blk_cell BK5206.out 1).trans rfl, (blk_cell BK5206.out 2).trans rfl, (blk_cell BK5206.out 3).trans rfl, (blk_cell BK5220.out 0).trans rfl, (blk_cell BK5220.out 1).trans rfl, (blk_cell BK5228.out 0).trans rfl, (blk_cell BK5228.out 1).trans rfl⟩ (fun hHeld => ?_)
  clear hK K
  refine norm_ (a' := ?_) ?_ ?_
  rotate_left
  · show Act.put _ (some 90) _ = _
    simp only [Act.put, List.setIfInBounds_toArray, List.set_cons_zero, List.set_cons_succ, i64_w, i32_w]
    rfl
  refine one_ (i := 41) (N := some 92) #[true, true, true, true, true, true, true, true, true, true, true, true, true, true, true, true, true, true, true, true, true, true, true, true, true, true, true, true, true, true, true, true, true, true, true, true, true, true, true, true, true, true, false, true, true, true, false, false, false] rfl rfl (one_of HT_.out (by kernel_rfl)) (by decide) (fun K hK => ?_)
  refine goes_ Tryd.func30 (by kernel_rfl) rfl #[.agg #[.int .u64 t5207, .int .u64 t5208, .int .u64 t5209, .int .u64 t5210]] (by rfl) rfl rfl (by (try simp only [List.map_toArray, List.map_cons, List.map_nil]); first | done | rfl | (simp only [List.length_drop, List.length_take]; rfl)) ?_
  refine (BigText.callsT w HT _ (by repeat (first | (with_reducible first | exact HB.out | apply below_alloc | apply pw_below_drewN | apply below_drew1 | refine below_set ?_ GE5199.out | refine below_set ?_ GE5200.out | refine below_set ?_ GE5206.out | refine below_set ?_ GE5211.out | refine below_set ?_ GE5219.out | refine below_set ?_ GE5220.out | refine below_set ?_ GE5227.out | refine below_set ?_ GE5228.out) | exact HB.out)) t5207 t5208 t5209 t5210 t5232 A26.out).mono ?_
  rintro e w84 ⟨rfl, hb⟩
  refine ⟨_, rfl, ?_⟩
  have n0_ := Aside0.mk (blk_below (g := gb5199) (o := .cells #[.int .u64 a0_0, .int .u64 a0_1, .int .u64 a0_2, .int .u64 a0_3, .bool a0_4] 26 (0, 0)) (by (with_reducible repeat (first | refine blk_drewN ?_ _ | refine blk_drew ?_ | refine blk_alloc ?_ _)); exact BK5199.out) hb)
  have n1_ := Aside0.mk (blk_below (g := gb5200) (o := .cells #[.int .u64 a1_0, .int .u64 a1_1, .int .u64 a1_2, .int .u64 a1_3, .bool a1_4] 26 (0, 0)) (by (with_reducible repeat (first | refine blk_drewN ?_ _ | refine blk_drew ?_ | refine blk_alloc ?_ _)); exact BK5200.out) hb)
  have n2_ := Aside0.mk (blk_below (g := gb5206) (o := .cells #[.int .u64 t5202, .int .u64 t5203, .int .u64 t5204, .int .u64 t5205] 24 (0, 0)) (by (with_reducible repeat (first | refine blk_drewN ?_ _ | refine blk_drew ?_ | refine blk_alloc ?_ _)); exact BK5206.out) hb)
  have n3_ := Aside0.mk (blk_below (g := gb5211) (o := .cells #[.int .u64 t5207, .int .u64 t5208, .int .u64 t5209, .int .u64 t5210] 24 (0, 0)) (by (with_reducible repeat (first | refine blk_drewN ?_ _ | refine blk_drew ?_ | refine blk_alloc ?_ _)); exact BK5211.out) hb)
  have n4_ := Aside0.mk (blk_below (g := gb5219) (o := .cells #[.int .u64 t5213, .int .u64 t5214, .int .u64 t5215, .int .u64 t5216] 24 (0, 0)) (by (with_reducible repeat (first | refine blk_drewN ?_ _ | refine blk_drew ?_ | refine blk_alloc ?_ _)); exact BK5219.out) hb)
  have n5_ := Aside0.mk (blk_below (g := gb5220) (o := .cells #[.string t5217, .bool true] 51 (0, 0)) (by (with_reducible repeat (first | refine blk_drewN ?_ _ | refine blk_drew ?_ | refine blk_alloc ?_ _)); exact BK5220.out) hb)
  have n6_ := Aside0.mk (blk_below (g := gb5227) (o := .cells #[.int .u64 t5221, .int .u64 t5222, .int .u64 t5223, .int .u64 t5224] 24 (0, 0)) (by (with_reducible repeat (first | refine blk_drewN ?_ _ | refine blk_drew ?_ | refine blk_alloc ?_ _)); exact BK5227.out) hb)
  have n7_ := Aside0.mk (blk_below (g := gb5228) (o := .cells #[.string t5225, .bool true] 51 (0, 0)) (by (with_reducible repeat (first | refine blk_drewN ?_ _ | refine blk_drew ?_ | refine blk_alloc ?_ _)); exact BK5228.out) hb)
  have n8_ := Aside0.mk (below_step (by repeat (first | (with_reducible first | exact HB.out | apply below_alloc | apply pw_below_drewN | apply below_drew1 | refine below_set ?_ GE5199.out | refine below_set ?_ GE5200.out | refine below_set ?_ GE5206.out | refine below_set ?_ GE5211.out | refine below_set ?_ GE5219.out | refine below_set ?_ GE5220.out | refine below_set ?_ GE5227.out | refine below_set ?_ GE5228.out) | exact HB.out)) hb)
  clear BK5199
  clear BK5200
  clear BK5206
  clear BK5211
  clear BK5219
  clear BK5220
  clear BK5227
  clear BK5228
  clear HB
  have BK5199 := n0_
  have BK5200 := n1_
  have BK5206 := n2_
  have BK5211 := n3_
  have BK5219 := n4_
  have BK5220 := n5_
  have BK5227 := n6_
  have BK5228 := n7_
  have HB := n8_
  clear n0_ n1_ n2_ n3_ n4_ n5_ n6_ n7_ n8_
  (try clear hb)
  (try clear hb2)
  (try clear hk)
  (try clear hi)
  refine hK.out _ _ ⟨(blk_cell BK5211.out 0).trans rfl, (blk_cell BK5211.out 1).trans rfl, (blk_cell BK5211.out 2).trans rfl, (blk_cell BK5211.out 3).trans rfl, (blk_cell BK5206.out 0).trans rfl, (blk_cell BK5206.out 1).trans rfl, (blk_cell BK5206.out 2).trans rfl, (blk_cell BK5206.out 3).trans rfl, (blk_cell BK5220.out 0).trans rfl, (blk_cell BK5220.out 1).trans rfl, (blk_cell BK5228.out 0).trans rfl, (blk_cell BK5228.out 1).trans rfl⟩ (fun hHeld => ?_)
  clear hK K
  refine norm_ (a' := ?_) ?_ ?_
  rotate_left
  · show Act.put _ (some 92) _ = _
    simp only [Act.put, List.setIfInBounds_toArray, List.set_cons_zero, List.set_cons_succ, i64_w, i32_w]
    rfl
  refine pure_ (i := 42) (N := some 93) (v := ?_) (a' := ?_) #[true, true, true, true, true, true, true, true, true, true, true, true, true, true, true, true, true, true, true, true, true, true, true, true, true, true, true, true, true, true, true, true, true, true, true, true, true, true, true, true, true, true, true, true, true, true, false, false, false] rfl rfl (any_of HT_.out (by kernel_rfl)) (fun _ _ _ h => h) (Or.inl ⟨by rfl, ?_⟩) ?_ ?_
  rotate_left
  · intro w'
    go_simp
    with_reducible rfl
  rotate_left
  · simp only [Act.put, List.setIfInBounds_toArray, List.set_cons_zero, List.set_cons_succ, i64_w, i32_w]
    rfl
  refine pure_ (i := 46) (N := some 97) (v := ?_) (a' := ?_) #[true, true, true, true, true, true, true, true, true, true, true, true, true, true, true, true, true, true, true, true, true, true, true, true, true, true, true, true, true, true, true, true, true, true, true, true, true, true, true, true, true, true, true, true, true, true, true, false, false] rfl rfl (any_of HT_.out (by kernel_rfl)) (fun _ _ _ h => h) (Or.inl ⟨by rfl, ?_⟩) ?_ ?_
  rotate_left
  · intro w'
    go_simp
    with_reducible rfl
  rotate_left
  · simp only [Act.put, List.setIfInBounds_toArray, List.set_cons_zero, List.set_cons_succ, i64_w, i32_w]
    rfl
  refine pure_ (i := 47) (N := some 98) (v := ?_) (a' := ?_) #[true, true, true, true, true, true, true, true, true, true, true, true, true, true, true, true, true, true, true, true, true, true, true, true, true, true, true, true, true, true, true, true, true, true, true, true, true, true, true, true, true, true, true, true, true, true, true, true, false] rfl rfl (any_of HT_.out (by kernel_rfl)) (fun _ _ _ h => h) (Or.inl ⟨by rfl, ?_⟩) ?_ ?_
  rotate_left
  · intro w'
    go_simp
    with_reducible rfl
  rotate_left
  · simp only [Act.put, List.setIfInBounds_toArray, List.set_cons_zero, List.set_cons_succ, i64_w, i32_w]
    rfl
  refine pure_ (i := 48) (N := some 8) (v := ?_) (a' := ?_) #[true, true, true, true, true, true, true, true, true, true, true, true, true, true, true, true, true, true, true, true, true, true, true, true, true, true, true, true, true, true, true, true, true, true, true, true, true, true, true, true, true, true, true, true, true, true, true, true, true] rfl rfl (any_of HT_.out (by kernel_rfl)) (fun _ _ _ h => h) (Or.inl ⟨by rfl, ?_⟩) ?_ ?_
  rotate_left
  · intro w'
    go_simp
    with_reducible rfl
  rotate_left
  · simp only [Act.put, List.setIfInBounds_toArray, List.set_cons_zero, List.set_cons_succ, i64_w, i32_w]
    rfl
  refine done_ (done_of HT_.out (by kernel_rfl)) ?_
  try go_wp2
  go_ret
  exact ⟨by first | rfl | (simp [errW_none, errW_some] <;> rfl) | (simp only [← hji14]; first | rfl | (simp [errW_none, errW_some] <;> rfl)) | (simp [*, errW_none, errW_some] <;> rfl), by repeat (first | (with_reducible first | exact HB.out | apply below_alloc | apply pw_below_drewN | apply below_drew1 | refine below_set ?_ GE5199.out | refine below_set ?_ GE5200.out | refine below_set ?_ GE5206.out | refine below_set ?_ GE5211.out | refine below_set ?_ GE5219.out | refine below_set ?_ GE5220.out | refine below_set ?_ GE5227.out | refine below_set ?_ GE5228.out) | exact HB.out)⟩

end Go.Proofs.YtakhahfegialfaaDoor.Q
