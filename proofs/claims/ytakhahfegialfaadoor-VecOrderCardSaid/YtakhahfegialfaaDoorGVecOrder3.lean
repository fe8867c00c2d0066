import Derived.Test.YtakhahfegialfaaDoorQx0
import Derived.Test.YtakhahfegialfaaDoorGVecOrder0
import Derived.Test.YtakhahfegialfaaDoorGVecOrder1
namespace Go.Proofs.YtakhahfegialfaaDoor.Q
open Go.RowKit Go.Proofs.YtakhahfegialfaaDoorW.PrintWords Go.Proofs.YtakhahfegialfaaDoorW.PrintLast Go.Proofs.YtakhahfegialfaaDoorW.PrintMore
attribute [local go_sem] max2_int min2_int max_two min_two max_three min_three max_four min_four   -- for this text's walks alone
set_option linter.unusedVariables false
set_option linter.unusedSimpArgs false
attribute [local go_sem] ixA24_0 ixA24_1 ixA24_2 ixA24_3   -- for this text's walks alone
attribute [local go_sem high] eqA24
/-! ### tenementlaw06_VecOrder_p0: function 6 -/
mutual
def tenementlaw06_VecOrder_p0.j0 : Nat → Bool → Bool → Int → Int → Int → Int → Int → Int → Int → Int → Int → Int → Int → Int → Option (Bool)
  | 0, _, _, _, _, _, _, _, _, _, _, _, _, _, _ => none
  | k + 1, x7, x11, x602000, x602001, x602002, x602003, x607000, x607001, x607002, x607003, x612000, x612001, x612002, x612003 => (vec_Right.f x602000 x602001 x602002 x602003).bind fun t614 => (if t614 = true then ((vec_Right.f x607000 x607001 x607002 x607003).bind fun t615 => (tenementlaw06_VecOrder_p0.j1 k x7 x11 t615 x602000 x602001 x602002 x602003 x607000 x607001 x607002 x607003 x612000 x612001 x612002 x612003)) else (tenementlaw06_VecOrder_p0.j1 k x7 x11 false x602000 x602001 x602002 x602003 x607000 x607001 x607002 x607003 x612000 x612001 x612002 x612003))
def tenementlaw06_VecOrder_p0.j1 : Nat → Bool → Bool → Bool → Int → Int → Int → Int → Int → Int → Int → Int → Int → Int → Int → Int → Option (Bool)
  | 0, _, _, _, _, _, _, _, _, _, _, _, _, _, _, _ => none
  | k + 1, x7, x11, x12, x602000, x602001, x602002, x602003, x607000, x607001, x607002, x607003, x612000, x612001, x612002, x612003 => if x7 = true then ((vec_Leq.f x602000 x602001 x602002 x602003 x602000 x602001 x602002 x602003).bind fun t616 => (if t616 = true then (if x11 = true then (if (x602000 == x607000 && (x602001 == x607001 && (x602002 == x607002 && (x602003 == x607003)))) = true then ((vec_Leq.f x602000 x602001 x602002 x602003 x607000 x607001 x607002 x607003).bind fun t617 => (if t617 = true then ((vec_Leq.f x607000 x607001 x607002 x607003 x612000 x612001 x612002 x612003).bind fun t618 => (if t618 = true then ((vec_Leq.f x602000 x602001 x602002 x602003 x612000 x612001 x612002 x612003).bind fun t619 => (if t619 = true then (if x12 = true then ((vec_Leq.f x602000 x602001 x602002 x602003 x607000 x607001 x607002 x607003).bind fun t620 => ((vec_Join.f x602000 x602001 x602002 x602003 x607000 x607001 x607002 x607003).bind fun bt621 => (if t620 = true then (if (bt621.1 == x607000 && (bt621.2.1 == x607001 && (bt621.2.2.1 == x607002 && (bt621.2.2.2 == x607003)))) = true then ((vec_Leq.f 0 0 0 0 x602000 x602001 x602002 x602003).bind fun t625 => (if t625 = true then (some true) else (none))) else (none)) else (none)))) else ((vec_Leq.f x602000 x602001 x602002 x602003 x607000 x607001 x607002 x607003).bind fun t627 => ((vec_Join.f x602000 x602001 x602002 x602003 x607000 x607001 x607002 x607003).bind fun bt628 => (if t627 = true then (if (bt628.1 == x607000 && (bt628.2.1 == x607001 && (bt628.2.2.1 == x607002 && (bt628.2.2.2 == x607003)))) = true then ((vec_Leq.f 0 0 0 0 x602000 x602001 x602002 x602003).bind fun t632 => (if t632 = true then (some true) else (none))) else (none)) else (none))))) else (none))) else (if x12 = true then ((vec_Leq.f x602000 x602001 x602002 x602003 x607000 x607001 x607002 x607003).bind fun t634 => ((vec_Join.f x602000 x602001 x602002 x602003 x607000 x607001 x607002 x607003).bind fun bt635 => (if t634 = true then (if (bt635.1 == x607000 && (bt635.2.1 == x607001 && (bt635.2.2.1 == x607002 && (bt635.2.2.2 == x607003)))) = true then ((vec_Leq.f 0 0 0 0 x602000 x602001 x602002 x602003).bind fun t639 => (if t639 = true then (some true) else (none))) else (none)) else (none)))) else ((vec_Leq.f x602000 x602001 x602002 x602003 x607000 x607001 x607002 x607003).bind fun t641 => ((vec_Join.f x602000 x602001 x602002 x602003 x607000 x607001 x607002 x607003).bind fun bt642 => (if t641 = true then (if (bt642.1 == x607000 && (bt642.2.1 == x607001 && (bt642.2.2.1 == x607002 && (bt642.2.2.2 == x607003)))) = true then ((vec_Leq.f 0 0 0 0 x602000 x602001 x602002 x602003).bind fun t646 => (if t646 = true then (some true) else (none))) else (none)) else (none))))))) else (none))) else (none)) else (none)) else (none))) else (none)
end
def tenementlaw06_VecOrder_p0.f (k : Nat) (a0_0 : Int) (a0_1 : Int) (a0_2 : Int) (a0_3 : Int) (a0_4 : Bool) (a1_0 : Int) (a1_1 : Int) (a1_2 : Int) (a1_3 : Int) (a1_4 : Bool) (a2_0 : Int) (a2_1 : Int) (a2_2 : Int) (a2_3 : Int) (a2_4 : Bool) : Option (Bool) := (tenementlaw06_examples.f k).bind fun t596 => (if t596 = true then ((tenementlaw06_Vector_vector.f k a0_0 a0_1 a0_2 a0_3 a0_4).bind fun bt597 => ((tenementlaw06_Vector_vector.f k a1_0 a1_1 a1_2 a1_3 a1_4).bind fun bt602 => ((tenementlaw06_Vector_vector.f k a2_0 a2_1 a2_2 a2_3 a2_4).bind fun bt607 => ((vec_Leq.f bt597.1 bt597.2.1 bt597.2.2.1 bt597.2.2.2 bt602.1 bt602.2.1 bt602.2.2.1 bt602.2.2.2).bind fun t612 => (if t612 = true then ((vec_Leq.f bt602.1 bt602.2.1 bt602.2.2.1 bt602.2.2.2 bt597.1 bt597.2.1 bt597.2.2.1 bt597.2.2.2).bind fun t613 => (tenementlaw06_VecOrder_p0.j0 k t596 t613 bt597.1 bt597.2.1 bt597.2.2.1 bt597.2.2.2 bt602.1 bt602.2.1 bt602.2.2.1 bt602.2.2.2 bt607.1 bt607.2.1 bt607.2.2.1 bt607.2.2.2)) else (tenementlaw06_VecOrder_p0.j0 k t596 false bt597.1 bt597.2.1 bt597.2.2.1 bt597.2.2.2 bt602.1 bt602.2.1 bt602.2.2.1 bt602.2.2.2 bt607.1 bt607.2.1 bt607.2.2.1 bt607.2.2.2)))))) else (none))
theorem tenementlaw06_VecOrder_p0.mono_l : ∀ k, (∀ y0 y1 y2 y3 y4 y5 y6 y7 y8 y9 y10 y11 y12 y13, LeO (tenementlaw06_VecOrder_p0.j0 k y0 y1 y2 y3 y4 y5 y6 y7 y8 y9 y10 y11 y12 y13) (tenementlaw06_VecOrder_p0.j0 (k + 1) y0 y1 y2 y3 y4 y5 y6 y7 y8 y9 y10 y11 y12 y13)) ∧ (∀ y0 y1 y2 y3 y4 y5 y6 y7 y8 y9 y10 y11 y12 y13 y14, LeO (tenementlaw06_VecOrder_p0.j1 k y0 y1 y2 y3 y4 y5 y6 y7 y8 y9 y10 y11 y12 y13 y14) (tenementlaw06_VecOrder_p0.j1 (k + 1) y0 y1 y2 y3 y4 y5 y6 y7 y8 y9 y10 y11 y12 y13 y14))
  | 0 => ⟨fun _ _ _ _ _ _ _ _ _ _ _ _ _ _ r h => by simp [tenementlaw06_VecOrder_p0.j0] at h, fun _ _ _ _ _ _ _ _ _ _ _ _ _ _ _ r h => by simp [tenementlaw06_VecOrder_p0.j1] at h⟩
  | k + 1 => by
    obtain ⟨ih0, ih1⟩ := tenementlaw06_VecOrder_p0.mono_l k
    refine ⟨?_, ?_⟩
    · intro y0 y1 y2 y3 y4 y5 y6 y7 y8 y9 y10 y11 y12 y13
      unfold tenementlaw06_VecOrder_p0.j0
      repeat' first
      | (with_reducible exact ih0 _ _ _ _ _ _ _ _ _ _ _ _ _ _)
      | (with_reducible exact ih1 _ _ _ _ _ _ _ _ _ _ _ _ _ _ _)
      | (with_reducible exact tenementlaw06_Vector_vector.mono _ _ _ _ _ _)
      | (with_reducible exact tenementlaw06_examples.mono _)
      | (with_reducible exact LeO.refl _)
      | (with_reducible exact LeO.none _)
      | (with_reducible refine LeO.ite ?_ ?_)
      | (with_reducible refine LeO.bind ?_ (fun _ => ?_))
      | exact ih0 _ _ _ _ _ _ _ _ _ _ _ _ _ _
      | exact ih1 _ _ _ _ _ _ _ _ _ _ _ _ _ _ _
      | exact tenementlaw06_Vector_vector.mono _ _ _ _ _ _
      | exact tenementlaw06_examples.mono _
      | exact LeO.none _
      | refine LeO.ite ?_ ?_
      | refine LeO.bind ?_ (fun _ => ?_)
    · intro y0 y1 y2 y3 y4 y5 y6 y7 y8 y9 y10 y11 y12 y13 y14
      unfold tenementlaw06_VecOrder_p0.j1
      repeat' first
      | (with_reducible exact ih0 _ _ _ _ _ _ _ _ _ _ _ _ _ _)
      | (with_reducible exact ih1 _ _ _ _ _ _ _ _ _ _ _ _ _ _ _)
      | (with_reducible exact tenementlaw06_Vector_vector.mono _ _ _ _ _ _)
      | (with_reducible exact tenementlaw06_examples.mono _)
      | (with_reducible exact LeO.refl _)
      | (with_reducible exact LeO.none _)
      | (with_reducible refine LeO.ite ?_ ?_)
      | (with_reducible refine LeO.bind ?_ (fun _ => ?_))
      | exact ih0 _ _ _ _ _ _ _ _ _ _ _ _ _ _
      | exact ih1 _ _ _ _ _ _ _ _ _ _ _ _ _ _ _
      | exact tenementlaw06_Vector_vector.mono _ _ _ _ _ _
      | exact tenementlaw06_examples.mono _
      | exact LeO.none _
      | refine LeO.ite ?_ ?_
      | refine LeO.bind ?_ (fun _ => ?_)
theorem tenementlaw06_VecOrder_p0.mono : ∀ a0 a1 a2 a3 a4 a5 a6 a7 a8 a9 a10 a11 a12 a13 a14 k, LeO (tenementlaw06_VecOrder_p0.f k a0 a1 a2 a3 a4 a5 a6 a7 a8 a9 a10 a11 a12 a13 a14) (tenementlaw06_VecOrder_p0.f (k + 1) a0 a1 a2 a3 a4 a5 a6 a7 a8 a9 a10 a11 a12 a13 a14) := by
  intro a0 a1 a2 a3 a4 a5 a6 a7 a8 a9 a10 a11 a12 a13 a14 k
  obtain ⟨ih0, ih1⟩ := tenementlaw06_VecOrder_p0.mono_l k
  unfold tenementlaw06_VecOrder_p0.f
  repeat' first
      | (with_reducible exact ih0 _ _ _ _ _ _ _ _ _ _ _ _ _ _)
      | (with_reducible exact ih1 _ _ _ _ _ _ _ _ _ _ _ _ _ _ _)
      | (with_reducible exact tenementlaw06_Vector_vector.mono _ _ _ _ _ _)
      | (with_reducible exact tenementlaw06_examples.mono _)
      | (with_reducible exact LeO.refl _)
      | (with_reducible exact LeO.none _)
      | (with_reducible refine LeO.ite ?_ ?_)
      | (with_reducible refine LeO.bind ?_ (fun _ => ?_))
      | exact ih0 _ _ _ _ _ _ _ _ _ _ _ _ _ _
      | exact ih1 _ _ _ _ _ _ _ _ _ _ _ _ _ _ _
      | exact tenementlaw06_Vector_vector.mono _ _ _ _ _ _
      | exact tenementlaw06_examples.mono _
      | exact LeO.none _
      | refine LeO.ite ?_ ?_
      | refine LeO.bind ?_ (fun _ => ?_)
def tenementlaw06_VecOrder_p0.T9 : Bool × List (List Nat × List Nat) := (true, [([], []), ([0], [0]), ([1], [1]), ([1], [1]), ([2, 3, 1, 1], [1, 2, 3]), ([1, 4], [1, 4]), ([5, 4], [5]), ([6], [6]), ([6], [6]), ([6], [6]), ([8, 9, 6], [6, 8, 9]), ([7, 10, 6], [6, 7, 10]), ([6, 11], [6, 11]), ([12, 6], [12]), ([13], [13]), ([13], [13]), ([14, 15, 13, 13], [13, 14, 15]), ([16, 13], [13, 16]), ([17, 16, 13], [13, 17]), ([18], [18]), ([18], [18]), ([19, 20, 18, 18], [18, 19, 20]), ([21, 18], [18, 21]), ([18, 22, 13], [13, 18, 22]), ([23, 21, 13], [13, 23]), ([24], [24]), ([24], [24]), ([25, 26, 24, 24], [24, 25, 26]), ([24, 27, 13], [13, 24, 27]), ([13, 28], [13, 28]), ([29, 27], [29]), ([30], [30]), ([31, 30], [30, 31]), ([32, 30, 30], [30, 32]), ([33], [33]), ([33], [33]), ([34, 35, 33], [33, 34, 35]), ([33, 36, 30], [30, 33, 36]), ([37, 33, 30], [30, 37]), ([38], [38]), ([38], [38]), ([39, 40, 38, 38], [38, 39, 40]), ([41, 38], [38, 41]), ([38, 42, 30], [30, 38, 42]), ([43, 41, 30], [30, 43]), ([44], [44]), ([45, 44, 44], [44, 45]), ([44], [44]), ([47, 46, 44], [44, 47]), ([46, 48, 44], [44, 46, 48]), ([44, 49, 30], [30, 44, 49]), ([30, 50], [30, 50]), ([51, 48], [51]), ([52], [52]), ([52], [52]), ([53, 54, 52, 52], [52, 53, 54]), ([52], [52]), ([52], [52]), ([56, 57, 55, 52], [52, 56, 57]), ([52], [52]), ([58, 59, 52], [52, 58, 59]), ([55, 60, 52], [52, 55, 60]), ([52, 61], [52, 61]), ([62, 58], [62]), ([63], [63]), ([63], [63]), ([64, 65, 63, 63], [63, 64, 65]), ([63, 66], [63, 66]), ([67, 66, 0, 1, 2, 3, 4, 5, 6, 7, 8, 9, 10, 11, 12, 13, 14, 15, 16, 17, 18, 19, 20, 21, 22, 23, 24, 25, 26, 27, 28, 29, 30, 31, 32, 33, 34, 35, 36, 37, 38, 39, 40, 41, 42, 43, 44, 45, 46, 47, 48, 49, 50, 51, 52, 53, 54, 55, 56, 57, 58, 59, 60, 61, 62, 63, 64, 65, 66, 67], [67])])
def tenementlaw06_VecOrder_p0.B9 : List Nat := [0, 1, 3, 3, 15, 31, 63, 127, 127, 127, 895, 2047, 4095, 8191, 16383, 16383, 65535, 131071, 262143, 524287, 524287, 2097151, 4194303, 8388607, 16777215, 33554431, 33554431, 134217727, 268435455, 536870911, 1073741823, 2147483647, 4294967295, 8589934591, 17179869183, 17179869183, 68719476735, 137438953471, 274877906943, 549755813887, 549755813887, 2199023255551, 4398046511103, 8796093022207, 17592186044415, 35184372088831, 70368744177663, 35184372088831, 281474976710655, 562949953421311, 1125899906842623, 2251799813685247, 4503599627370495, 9007199254740991, 9007199254740991, 36028797018963967, 9007199254740991, 9007199254740991, 288230376151711743, 9007199254740991, 1152921504606846975, 2305843009213693951, 4611686018427387903, 9223372036854775807, 18446744073709551615, 18446744073709551615, 73786976294838206463, 147573952589676412927, 295147905179352825855]
theorem tenementlaw06_VecOrder_p0.tab9 : rtab .any (opsOf Tryd.f6 9) = tenementlaw06_VecOrder_p0.T9 := by kernel_rfl
theorem tenementlaw06_VecOrder_p0.bits9 : waitsOk tenementlaw06_VecOrder_p0.T9.2 tenementlaw06_VecOrder_p0.B9 = true := by kernel_rfl
set_option maxHeartbeats 8000000 in
set_option maxRecDepth 100000 in
theorem tenementlaw06_VecOrder_p0.calls (k : Nat) (a0_0 : Int) (a0_1 : Int) (a0_2 : Int) (a0_3 : Int) (a0_4 : Bool) (a1_0 : Int) (a1_1 : Int) (a1_2 : Int) (a1_3 : Int) (a1_4 : Bool) (a2_0 : Int) (a2_1 : Int) (a2_2 : Int) (a2_3 : Int) (a2_4 : Bool) (r : Bool) (w : World) (h : tenementlaw06_VecOrder_p0.f k a0_0 a0_1 a0_2 a0_3 a0_4 a1_0 a1_1 a1_2 a1_3 a1_4 a2_0 a2_1 a2_2 a2_3 a2_4 = some r) :
    Calls Tryd.prog 6 #[.agg #[.int .u64 a0_0, .int .u64 a0_1, .int .u64 a0_2, .int .u64 a0_3, .bool a0_4], .agg #[.int .u64 a1_0, .int .u64 a1_1, .int .u64 a1_2, .int .u64 a1_3, .bool a1_4], .agg #[.int .u64 a2_0, .int .u64 a2_1, .int .u64 a2_2, .int .u64 a2_3, .bool a2_4]] w fun e w' => e = .returned (.bool r) ∧ Below w.heap.size w w' := by
  have hu26 := Tryd.underlying26
  have hu24 := Tryd.underlying24
  have HB := Aside0.mk (Below.refl w.heap.size w)
  have H : ((tenementlaw06_examples.f k).bind fun t596 => (if t596 = true then ((tenementlaw06_Vector_vector.f k a0_0 a0_1 a0_2 a0_3 a0_4).bind fun bt597 => ((tenementlaw06_Vector_vector.f k a1_0 a1_1 a1_2 a1_3 a1_4).bind fun bt602 => ((tenementlaw06_Vector_vector.f k a2_0 a2_1 a2_2 a2_3 a2_4).bind fun bt607 => ((vec_Leq.f bt597.1 bt597.2.1 bt597.2.2.1 bt597.2.2.2 bt602.1 bt602.2.1 bt602.2.2.1 bt602.2.2.2).bind fun t612 => (if t612 = true then ((vec_Leq.f bt602.1 bt602.2.1 bt602.2.2.1 bt602.2.2.2 bt597.1 bt597.2.1 bt597.2.2.1 bt597.2.2.2).bind fun t613 => (tenementlaw06_VecOrder_p0.j0 k t596 t613 bt597.1 bt597.2.1 bt597.2.2.1 bt597.2.2.2 bt602.1 bt602.2.1 bt602.2.2.1 bt602.2.2.2 bt607.1 bt607.2.1 bt607.2.2.1 bt607.2.2.2)) else (tenementlaw06_VecOrder_p0.j0 k t596 false bt597.1 bt597.2.1 bt597.2.2.1 bt597.2.2.2 bt602.1 bt602.2.1 bt602.2.2.1 bt602.2.2.2 bt607.1 bt607.2.1 bt607.2.2.1 bt607.2.2.2)))))) else (none))) = some r := h
  clear h
  replace H := Option.bind_eq_some_iff.mp H
  obtain ⟨t596, A40, H⟩ := H
  replace H : (if t596 = true then ((tenementlaw06_Vector_vector.f k a0_0 a0_1 a0_2 a0_3 a0_4).bind fun bt597 => ((tenementlaw06_Vector_vector.f k a1_0 a1_1 a1_2 a1_3 a1_4).bind fun bt602 => ((tenementlaw06_Vector_vector.f k a2_0 a2_1 a2_2 a2_3 a2_4).bind fun bt607 => ((vec_Leq.f bt597.1 bt597.2.1 bt597.2.2.1 bt597.2.2.2 bt602.1 bt602.2.1 bt602.2.2.1 bt602.2.2.2).bind fun t612 => (if t612 = true then ((vec_Leq.f bt602.1 bt602.2.1 bt602.2.2.1 bt602.2.2.2 bt597.1 bt597.2.1 bt597.2.2.1 bt597.2.2.2).bind fun t613 => (tenementlaw06_VecOrder_p0.j0 k t596 t613 bt597.1 bt597.2.1 bt597.2.2.1 bt597.2.2.2 bt602.1 bt602.2.1 bt602.2.2.1 bt602.2.2.2 bt607.1 bt607.2.1 bt607.2.2.1 bt607.2.2.2)) else (tenementlaw06_VecOrder_p0.j0 k t596 false bt597.1 bt597.2.1 bt597.2.2.1 bt597.2.2.2 bt602.1 bt602.2.1 bt602.2.2.1 bt602.2.2.2 bt607.1 bt607.2.1 bt607.2.2.1 bt607.2.2.2)))))) else (none)) = some r := H
  have A4 := Aside0.mk A40
  clear A40
  by_cases c5 : t596 = true
  rotate_left
  · replace c5 := Bool.eq_false_iff.mpr c5
    subst c5
    have H1 : (none) = some r := by rw [if_neg (show ¬ (false = true) by decide)] at H; exact H
    clear H
    have H := H1
    clear H1
    exact absurd H (by simp)
  subst c5
  have H1 : ((tenementlaw06_Vector_vector.f k a0_0 a0_1 a0_2 a0_3 a0_4).bind fun bt597 => ((tenementlaw06_Vector_vector.f k a1_0 a1_1 a1_2 a1_3 a1_4).bind fun bt602 => ((tenementlaw06_Vector_vector.f k a2_0 a2_1 a2_2 a2_3 a2_4).bind fun bt607 => ((vec_Leq.f bt597.1 bt597.2.1 bt597.2.2.1 bt597.2.2.2 bt602.1 bt602.2.1 bt602.2.2.1 bt602.2.2.2).bind fun t612 => (if t612 = true then ((vec_Leq.f bt602.1 bt602.2.1 bt602.2.2.1 bt602.2.2.2 bt597.1 bt597.2.1 bt597.2.2.1 bt597.2.2.2).bind fun t613 => (tenementlaw06_VecOrder_p0.j0 k true t613 bt597.1 bt597.2.1 bt597.2.2.1 bt597.2.2.2 bt602.1 bt602.2.1 bt602.2.2.1 bt602.2.2.2 bt607.1 bt607.2.1 bt607.2.2.1 bt607.2.2.2)) else (tenementlaw06_VecOrder_p0.j0 k true false bt597.1 bt597.2.1 bt597.2.2.1 bt597.2.2.2 bt602.1 bt602.2.1 bt602.2.2.1 bt602.2.2.2 bt607.1 bt607.2.1 bt607.2.2.1 bt607.2.2.2)))))) = some r := by rw [if_pos rfl] at H; exact H
  clear H
  have H := H1
  clear H1
  replace H := Option.bind_eq_some_iff.mp H
  obtain ⟨⟨t597, t598, t599, t600⟩, A60, H⟩ := H
  replace H : ((tenementlaw06_Vector_vector.f k a1_0 a1_1 a1_2 a1_3 a1_4).bind fun bt602 => ((tenementlaw06_Vector_vector.f k a2_0 a2_1 a2_2 a2_3 a2_4).bind fun bt607 => ((vec_Leq.f t597 t598 t599 t600 bt602.1 bt602.2.1 bt602.2.2.1 bt602.2.2.2).bind fun t612 => (if t612 = true then ((vec_Leq.f bt602.1 bt602.2.1 bt602.2.2.1 bt602.2.2.2 t597 t598 t599 t600).bind fun t613 => (tenementlaw06_VecOrder_p0.j0 k true t613 t597 t598 t599 t600 bt602.1 bt602.2.1 bt602.2.2.1 bt602.2.2.2 bt607.1 bt607.2.1 bt607.2.2.1 bt607.2.2.2)) else (tenementlaw06_VecOrder_p0.j0 k true false t597 t598 t599 t600 bt602.1 bt602.2.1 bt602.2.2.1 bt602.2.2.2 bt607.1 bt607.2.1 bt607.2.2.1 bt607.2.2.2))))) = some r := H
  have A6 := Aside0.mk A60
  clear A60
  replace H := Option.bind_eq_some_iff.mp H
  obtain ⟨⟨t602, t603, t604, t605⟩, A70, H⟩ := H
  replace H : ((tenementlaw06_Vector_vector.f k a2_0 a2_1 a2_2 a2_3 a2_4).bind fun bt607 => ((vec_Leq.f t597 t598 t599 t600 t602 t603 t604 t605).bind fun t612 => (if t612 = true then ((vec_Leq.f t602 t603 t604 t605 t597 t598 t599 t600).bind fun t613 => (tenementlaw06_VecOrder_p0.j0 k true t613 t597 t598 t599 t600 t602 t603 t604 t605 bt607.1 bt607.2.1 bt607.2.2.1 bt607.2.2.2)) else (tenementlaw06_VecOrder_p0.j0 k true false t597 t598 t599 t600 t602 t603 t604 t605 bt607.1 bt607.2.1 bt607.2.2.1 bt607.2.2.2)))) = some r := H
  have A7 := Aside0.mk A70
  clear A70
  replace H := Option.bind_eq_some_iff.mp H
  obtain ⟨⟨t607, t608, t609, t610⟩, A80, H⟩ := H
  replace H : ((vec_Leq.f t597 t598 t599 t600 t602 t603 t604 t605).bind fun t612 => (if t612 = true then ((vec_Leq.f t602 t603 t604 t605 t597 t598 t599 t600).bind fun t613 => (tenementlaw06_VecOrder_p0.j0 k true t613 t597 t598 t599 t600 t602 t603 t604 t605 t607 t608 t609 t610)) else (tenementlaw06_VecOrder_p0.j0 k true false t597 t598 t599 t600 t602 t603 t604 t605 t607 t608 t609 t610))) = some r := H
  have A8 := Aside0.mk A80
  clear A80
  have HC9 := Aside0.mk H
  clear H
  go_enter Tryd.func6, Tryd.ntmps6
  go_upto_region 7 with (first | ((with_reducible refine gate_dst (N := 3) rfl ?_); refine Ka_ 3 #[.int .u64 a0_0, .int .u64 a0_1, .int .u64 a0_2, .int .u64 a0_3, .bool a0_4] 26 ?_; intro gb593 hg w10 hbox hb; have BK593 := Aside0.mk (hbox); have GW593 := Kw_ HB hg; have GE593 := GW593; replace HB := Ks_ HB hb; clear hb hbox hg) | ((with_reducible refine gate_dst (N := 4) rfl ?_); refine Ka_ 4 #[.int .u64 a1_0, .int .u64 a1_1, .int .u64 a1_2, .int .u64 a1_3, .bool a1_4] 26 ?_; intro gb594 hg w11 hbox hb; have BK594 := Aside0.mk (hbox); have GW594 := Kw_ HB hg; have GE594 := GW594; have NB593_594 := Kl_ BK593 hg; have NB594_593 := Kr_ BK593 hg; replace BK593 := Kb_ BK593 hb; replace HB := Ks_ HB hb; clear hb hbox hg) | ((with_reducible refine gate_dst (N := 5) rfl ?_); refine Ka_ 5 #[.int .u64 a2_0, .int .u64 a2_1, .int .u64 a2_2, .int .u64 a2_3, .bool a2_4] 26 ?_; intro gb595 hg w12 hbox hb; have BK595 := Aside0.mk (hbox); have GW595 := Kw_ HB hg; have GE595 := GW595; have NB593_595 := Kl_ BK593 hg; have NB595_593 := Kr_ BK593 hg; have NB594_595 := Kl_ BK594 hg; have NB595_594 := Kr_ BK594 hg; replace BK593 := Kb_ BK593 hb; replace BK594 := Kb_ BK594 hb; replace HB := Ks_ HB hb; clear hb hbox hg) | ((with_reducible refine gate_callee (f := 10) rfl ?_); refine Kg_ (some 13) rfl rfl Tryd.func10 (by kernel_rfl) rfl #[] rfl ?_; (with_reducible refine (tenementlaw06_examples.calls k  true _ A4.out).mono ?_); rintro e w13 ⟨rfl, hb⟩; refine ⟨_, rfl, ?_⟩; replace BK593 := Kb_ BK593 hb; replace BK594 := Kb_ BK594 hb; replace BK595 := Kb_ BK595 hb; replace HB := Ks_ HB hb; (try clear hb); (try clear hb2); (try clear hk); (try clear hi); have hnb14 := NB593_594.out; have hnc14 := NB594_593.out; have hnb15 := NB593_595.out; have hnc15 := NB595_593.out; obtain ⟨hcz16_0, hcz16_1, hcz16_2, hcz16_3, hcz16_4, hfz16_0, hfz16_1, hfz16_2, hfz16_3, hfz16_4⟩ := Ke5_ BK593.out) | ((with_reducible refine gate_callee (f := 11) rfl ?_); refine Kg_ (some 17) rfl rfl Tryd.func11 (by kernel_rfl) rfl #[.agg #[.int .u64 a0_0, .int .u64 a0_1, .int .u64 a0_2, .int .u64 a0_3, .bool a0_4]] rfl ?_; (with_reducible refine (tenementlaw06_Vector_vector.calls k a0_0 a0_1 a0_2 a0_3 a0_4 t597 t598 t599 t600 _ A6.out).mono ?_); rintro e w17 ⟨rfl, hb⟩; refine ⟨_, rfl, ?_⟩; replace BK593 := Kb_ BK593 hb; replace BK594 := Kb_ BK594 hb; replace BK595 := Kb_ BK595 hb; replace HB := Ks_ HB hb; (try clear hb); (try clear hb2); (try clear hk); (try clear hi)) | ((with_reducible refine gate_dst (N := 8) rfl ?_); refine Ka_ 8 #[.int .u64 0, .int .u64 0, .int .u64 0, .int .u64 0] 24 ?_; intro gb601 hg w18 hbox hb; have BK601 := Aside0.mk (hbox); have GW601 := Kw_ HB hg; have GE601 := GW601; have NB593_601 := Kl_ BK593 hg; have NB601_593 := Kr_ BK593 hg; have NB594_601 := Kl_ BK594 hg; have NB601_594 := Kr_ BK594 hg; have NB595_601 := Kl_ BK595 hg; have NB601_595 := Kr_ BK595 hg; replace BK593 := Kb_ BK593 hb; replace BK594 := Kb_ BK594 hb; replace BK595 := Kb_ BK595 hb; replace HB := Ks_ HB hb; clear hb hbox hg; have hnb19 := NB601_593.out; have hnc19 := NB593_601.out; have hnb20 := NB601_594.out; have hnc20 := NB594_601.out; have hnb21 := NB601_595.out; have hnc21 := NB595_601.out; obtain ⟨hcz22_0, hcz22_1, hcz22_2, hcz22_3, hfz22_0, hfz22_1, hfz22_2, hfz22_3⟩ := Ke4_ BK601.out; have hnb23 := NB594_595.out; have hnc23 := NB595_594.out; obtain ⟨hcz24_0, hcz24_1, hcz24_2, hcz24_3, hcz24_4, hfz24_0, hfz24_1, hfz24_2, hfz24_3, hfz24_4⟩ := Ke5_ BK594.out) | ((with_reducible refine gate_callee (f := 11) rfl ?_); refine Kg_ (some 19) rfl rfl Tryd.func11 (by kernel_rfl) rfl #[.agg #[.int .u64 a1_0, .int .u64 a1_1, .int .u64 a1_2, .int .u64 a1_3, .bool a1_4]] rfl ?_; (with_reducible refine (tenementlaw06_Vector_vector.calls k a1_0 a1_1 a1_2 a1_3 a1_4 t602 t603 t604 t605 _ A7.out).mono ?_); rintro e w25 ⟨rfl, hb⟩; refine ⟨_, rfl, ?_⟩; replace BK593 := Kf_ BK593 NB593_601 hb; replace BK594 := Kf_ BK594 NB594_601 hb; replace BK595 := Kf_ BK595 NB595_601 hb; replace BK601 := Aside0.mk (blk_below (g := gb601) (o := .cells #[.int .u64 t597, .int .u64 t598, .int .u64 t599, .int .u64 t600] 24 (0, 0)) (by refine Kv_ ?_; refine blk_put (cs := #[.int .u64 t597, .int .u64 t598, .int .u64 t599, .int .u64 0]) ?_ 3 _ rfl; refine Kv_ ?_; refine blk_put (cs := #[.int .u64 t597, .int .u64 t598, .int .u64 0, .int .u64 0]) ?_ 2 _ rfl; refine Kv_ ?_; refine blk_put (cs := #[.int .u64 t597, .int .u64 0, .int .u64 0, .int .u64 0]) ?_ 1 _ rfl; refine Kv_ ?_; refine blk_put (cs := #[.int .u64 0, .int .u64 0, .int .u64 0, .int .u64 0]) ?_ 0 _ rfl; exact Kq_ BK601) hb); replace HB := Kt_ HB GE601 hb; (try clear hb); (try clear hb2); (try clear hk); (try clear hi)) | ((with_reducible refine gate_dst (N := 9) rfl ?_); refine Ka_ 9 #[.int .u64 0, .int .u64 0, .int .u64 0, .int .u64 0] 24 ?_; intro gb606 hg w26 hbox hb; have BK606 := Aside0.mk (hbox); have GW606 := Kw_ HB hg; have GE606 := GW606; have NB593_606 := Kl_ BK593 hg; have NB606_593 := Kr_ BK593 hg; have NB594_606 := Kl_ BK594 hg; have NB606_594 := Kr_ BK594 hg; have NB595_606 := Kl_ BK595 hg; have NB606_595 := Kr_ BK595 hg; have NB601_606 := Kl_ BK601 hg; have NB606_601 := Kr_ BK601 hg; replace BK593 := Kb_ BK593 hb; replace BK594 := Kb_ BK594 hb; replace BK595 := Kb_ BK595 hb; replace BK601 := Kb_ BK601 hb; replace HB := Ks_ HB hb; clear hb hbox hg; have hnb27 := NB606_593.out; have hnc27 := NB593_606.out; have hnb28 := NB606_594.out; have hnc28 := NB594_606.out; have hnb29 := NB606_595.out; have hnc29 := NB595_606.out; have hnb30 := NB606_601.out; have hnc30 := NB601_606.out; obtain ⟨hcz31_0, hcz31_1, hcz31_2, hcz31_3, hfz31_0, hfz31_1, hfz31_2, hfz31_3⟩ := Ke4_ BK606.out; obtain ⟨hcz32_0, hcz32_1, hcz32_2, hcz32_3, hcz32_4, hfz32_0, hfz32_1, hfz32_2, hfz32_3, hfz32_4⟩ := Ke5_ BK595.out) | ((with_reducible refine gate_callee (f := 11) rfl ?_); refine Kg_ (some 21) rfl rfl Tryd.func11 (by kernel_rfl) rfl #[.agg #[.int .u64 a2_0, .int .u64 a2_1, .int .u64 a2_2, .int .u64 a2_3, .bool a2_4]] rfl ?_; (with_reducible refine (tenementlaw06_Vector_vector.calls k a2_0 a2_1 a2_2 a2_3 a2_4 t607 t608 t609 t610 _ A8.out).mono ?_); rintro e w33 ⟨rfl, hb⟩; refine ⟨_, rfl, ?_⟩; replace BK593 := Kf_ BK593 NB593_606 hb; replace BK594 := Kf_ BK594 NB594_606 hb; replace BK595 := Kf_ BK595 NB595_606 hb; replace BK601 := Kf_ BK601 NB601_606 hb; replace BK606 := Aside0.mk (blk_below (g := gb606) (o := .cells #[.int .u64 t602, .int .u64 t603, .int .u64 t604, .int .u64 t605] 24 (0, 0)) (by refine Kv_ ?_; refine blk_put (cs := #[.int .u64 t602, .int .u64 t603, .int .u64 t604, .int .u64 0]) ?_ 3 _ rfl; refine Kv_ ?_; refine blk_put (cs := #[.int .u64 t602, .int .u64 t603, .int .u64 0, .int .u64 0]) ?_ 2 _ rfl; refine Kv_ ?_; refine blk_put (cs := #[.int .u64 t602, .int .u64 0, .int .u64 0, .int .u64 0]) ?_ 1 _ rfl; refine Kv_ ?_; refine blk_put (cs := #[.int .u64 0, .int .u64 0, .int .u64 0, .int .u64 0]) ?_ 0 _ rfl; exact Kq_ BK606) hb); replace HB := Kt_ HB GE606 hb; (try clear hb); (try clear hb2); (try clear hk); (try clear hi)) | ((with_reducible refine gate_dst (N := 10) rfl ?_); refine Ka_ 10 #[.int .u64 0, .int .u64 0, .int .u64 0, .int .u64 0] 24 ?_; intro gb611 hg w34 hbox hb; have BK611 := Aside0.mk (hbox); have GW611 := Kw_ HB hg; have GE611 := GW611; have NB593_611 := Kl_ BK593 hg; have NB611_593 := Kr_ BK593 hg; have NB594_611 := Kl_ BK594 hg; have NB611_594 := Kr_ BK594 hg; have NB595_611 := Kl_ BK595 hg; have NB611_595 := Kr_ BK595 hg; have NB601_611 := Kl_ BK601 hg; have NB611_601 := Kr_ BK601 hg; have NB606_611 := Kl_ BK606 hg; have NB611_606 := Kr_ BK606 hg; replace BK593 := Kb_ BK593 hb; replace BK594 := Kb_ BK594 hb; replace BK595 := Kb_ BK595 hb; replace BK601 := Kb_ BK601 hb; replace BK606 := Kb_ BK606 hb; replace HB := Ks_ HB hb; clear hb hbox hg; have hnb35 := NB611_593.out; have hnc35 := NB593_611.out; have hnb36 := NB611_594.out; have hnc36 := NB594_611.out; have hnb37 := NB611_595.out; have hnc37 := NB595_611.out; have hnb38 := NB611_601.out; have hnc38 := NB601_611.out; have hnb39 := NB611_606.out; have hnc39 := NB606_611.out; obtain ⟨hcz40_0, hcz40_1, hcz40_2, hcz40_3, hfz40_0, hfz40_1, hfz40_2, hfz40_3⟩ := Ke4_ BK611.out))
  (try simp only [Act.put, List.setIfInBounds_toArray, List.set_cons_zero, List.set_cons_succ])
  go_cut [11] (fun v11 wc => ∃ (kq : Nat) (x11_8 : Bool), v11 = .bool x11_8 ∧ Aside0 (tenementlaw06_VecOrder_p0.j0 kq true x11_8 t597 t598 t599 t600 t602 t603 t604 t605 t607 t608 t609 t610 = some r) ∧ Aside0 (kq ≤ k) ∧ Aside0 (wc.heap[gb593]? = some (.cells #[.int .u64 a0_0, .int .u64 a0_1, .int .u64 a0_2, .int .u64 a0_3, .bool a0_4] 26 (0, 0))) ∧ Aside0 (wc.heap[gb594]? = some (.cells #[.int .u64 a1_0, .int .u64 a1_1, .int .u64 a1_2, .int .u64 a1_3, .bool a1_4] 26 (0, 0))) ∧ Aside0 (wc.heap[gb595]? = some (.cells #[.int .u64 a2_0, .int .u64 a2_1, .int .u64 a2_2, .int .u64 a2_3, .bool a2_4] 26 (0, 0))) ∧ Aside0 (wc.heap[gb601]? = some (.cells #[.int .u64 t597, .int .u64 t598, .int .u64 t599, .int .u64 t600] 24 (0, 0))) ∧ Aside0 (wc.heap[gb606]? = some (.cells #[.int .u64 t602, .int .u64 t603, .int .u64 t604, .int .u64 t605] 24 (0, 0))) ∧ Aside0 (wc.heap[gb611]? = some (.cells #[.int .u64 t607, .int .u64 t608, .int .u64 t609, .int .u64 t610] 24 (0, 0))) ∧ Aside0 (Below w.heap.size w wc))
  case first =>
    have H := HC9.out
    clear HC9
    replace H := Option.bind_eq_some_iff.mp H
    obtain ⟨t612, A410, H⟩ := H
    replace H : (if t612 = true then ((vec_Leq.f t602 t603 t604 t605 t597 t598 t599 t600).bind fun t613 => (tenementlaw06_VecOrder_p0.j0 k true t613 t597 t598 t599 t600 t602 t603 t604 t605 t607 t608 t609 t610)) else (tenementlaw06_VecOrder_p0.j0 k true false t597 t598 t599 t600 t602 t603 t604 t605 t607 t608 t609 t610)) = some r := H
    have A41 := Aside0.mk A410
    clear A410
    by_cases c42 : t612 = true
    rotate_left
    · replace c42 := Bool.eq_false_iff.mpr c42
      subst c42
      have H1 : (tenementlaw06_VecOrder_p0.j0 k true false t597 t598 t599 t600 t602 t603 t604 t605 t607 t608 t609 t610) = some r := by rw [if_neg (show ¬ (false = true) by decide)] at H; exact H
      clear H
      have H := H1
      clear H1
      have H' := Aside0.mk H
      clear H
      have hnb59 := NB601_593.out
      have hnc59 := NB593_601.out
      have hnb60 := NB601_594.out
      have hnc60 := NB594_601.out
      have hnb61 := NB601_595.out
      have hnc61 := NB595_601.out
      have hnb62 := NB601_606.out
      have hnc62 := NB606_601.out
      have hnb63 := NB601_611.out
      have hnc63 := NB611_601.out
      obtain ⟨hcz64_0, hcz64_1, hcz64_2, hcz64_3, hfz64_0, hfz64_1, hfz64_2, hfz64_3⟩ := Ke4_ BK601.out
      have hnb65 := NB606_593.out
      have hnc65 := NB593_606.out
      have hnb66 := NB606_594.out
      have hnc66 := NB594_606.out
      have hnb67 := NB606_595.out
      have hnc67 := NB595_606.out
      have hnb68 := NB606_611.out
      have hnc68 := NB611_606.out
      obtain ⟨hcz69_0, hcz69_1, hcz69_2, hcz69_3, hfz69_0, hfz69_1, hfz69_2, hfz69_3⟩ := Ke4_ BK606.out
      go_wp2_with (first | ((with_reducible refine gate_callee (f := 22) rfl ?_); refine Kg_ (some 24) rfl rfl Tryd.func22 (by kernel_rfl) rfl #[.agg #[.int .u64 t597, .int .u64 t598, .int .u64 t599, .int .u64 t600], .agg #[.int .u64 t602, .int .u64 t603, .int .u64 t604, .int .u64 t605]] rfl ?_; (with_reducible refine (vec_Leq.calls t597 t598 t599 t600 t602 t603 t604 t605 false _ A41.out).mono ?_); rintro e w70 ⟨rfl, hb⟩; refine ⟨_, rfl, ?_⟩; replace BK593 := Kf_ BK593 NB593_611 hb; replace BK594 := Kf_ BK594 NB594_611 hb; replace BK595 := Kf_ BK595 NB595_611 hb; replace BK601 := Kf_ BK601 NB601_611 hb; replace BK606 := Kf_ BK606 NB606_611 hb; replace BK611 := Aside0.mk (blk_below (g := gb611) (o := .cells #[.int .u64 t607, .int .u64 t608, .int .u64 t609, .int .u64 t610] 24 (0, 0)) (by refine Kv_ ?_; refine blk_put (cs := #[.int .u64 t607, .int .u64 t608, .int .u64 t609, .int .u64 0]) ?_ 3 _ rfl; refine Kv_ ?_; refine blk_put (cs := #[.int .u64 t607, .int .u64 t608, .int .u64 0, .int .u64 0]) ?_ 2 _ rfl; refine Kv_ ?_; refine blk_put (cs := #[.int .u64 t607, .int .u64 0, .int .u64 0, .int .u64 0]) ?_ 1 _ rfl; refine Kv_ ?_; refine blk_put (cs := #[.int .u64 0, .int .u64 0, .int .u64 0, .int .u64 0]) ?_ 0 _ rfl; exact Kq_ BK611) hb); replace HB := Kt_ HB GE611 hb; (try clear hb); (try clear hb2); (try clear hk); (try clear hi)))
      go_meet
      case rel => exact ⟨_, (false), (by first | rfl | (simp; done) | (simp [*]; done)), H', ⟨by first | omega | exact Nat.le_refl _⟩, ⟨by exact Kq_ BK593⟩, ⟨by exact Kq_ BK594⟩, ⟨by exact Kq_ BK595⟩, ⟨by exact Kq_ BK601⟩, ⟨by exact Kq_ BK606⟩, ⟨by exact Kq_ BK611⟩, ⟨by repeat (first | (with_reducible first | exact HB.out | apply below_alloc | apply pw_below_drewN | apply below_drew1 | refine below_set ?_ GE593.out | refine below_set ?_ GE594.out | refine below_set ?_ GE595.out | refine below_set ?_ GE601.out | refine below_set ?_ GE606.out | refine below_set ?_ GE611.out) | exact HB.out)⟩⟩
    subst c42
    have H1 : ((vec_Leq.f t602 t603 t604 t605 t597 t598 t599 t600).bind fun t613 => (tenementlaw06_VecOrder_p0.j0 k true t613 t597 t598 t599 t600 t602 t603 t604 t605 t607 t608 t609 t610)) = some r := by rw [if_pos rfl] at H; exact H
    clear H
    have H := H1
    clear H1
    replace H := Option.bind_eq_some_iff.mp H
    obtain ⟨t613, A430, H⟩ := H
    replace H : (tenementlaw06_VecOrder_p0.j0 k true t613 t597 t598 t599 t600 t602 t603 t604 t605 t607 t608 t609 t610) = some r := H
    have A43 := Aside0.mk A430
    clear A430
    have H' := Aside0.mk H
    clear H
    have hnb44 := NB601_593.out
    have hnc44 := NB593_601.out
    have hnb45 := NB601_594.out
    have hnc45 := NB594_601.out
    have hnb46 := NB601_595.out
    have hnc46 := NB595_601.out
    have hnb47 := NB601_606.out
    have hnc47 := NB606_601.out
    have hnb48 := NB601_611.out
    have hnc48 := NB611_601.out
    obtain ⟨hcz49_0, hcz49_1, hcz49_2, hcz49_3, hfz49_0, hfz49_1, hfz49_2, hfz49_3⟩ := Ke4_ BK601.out
    have hnb50 := NB606_593.out
    have hnc50 := NB593_606.out
    have hnb51 := NB606_594.out
    have hnc51 := NB594_606.out
    have hnb52 := NB606_595.out
    have hnc52 := NB595_606.out
    have hnb53 := NB606_611.out
    have hnc53 := NB611_606.out
    obtain ⟨hcz54_0, hcz54_1, hcz54_2, hcz54_3, hfz54_0, hfz54_1, hfz54_2, hfz54_3⟩ := Ke4_ BK606.out
    go_wp2_with (first | ((with_reducible refine gate_callee (f := 22) rfl ?_); refine Kg_ (some 24) rfl rfl Tryd.func22 (by kernel_rfl) rfl #[.agg #[.int .u64 t597, .int .u64 t598, .int .u64 t599, .int .u64 t600], .agg #[.int .u64 t602, .int .u64 t603, .int .u64 t604, .int .u64 t605]] rfl ?_; (with_reducible refine (vec_Leq.calls t597 t598 t599 t600 t602 t603 t604 t605 true _ A41.out).mono ?_); rintro e w55 ⟨rfl, hb⟩; refine ⟨_, rfl, ?_⟩; replace BK593 := Kf_ BK593 NB593_611 hb; replace BK594 := Kf_ BK594 NB594_611 hb; replace BK595 := Kf_ BK595 NB595_611 hb; replace BK601 := Kf_ BK601 NB601_611 hb; replace BK606 := Kf_ BK606 NB606_611 hb; replace BK611 := Aside0.mk (blk_below (g := gb611) (o := .cells #[.int .u64 t607, .int .u64 t608, .int .u64 t609, .int .u64 t610] 24 (0, 0)) (by refine Kv_ ?_; refine blk_put (cs := #[.int .u64 t607, .int .u64 t608, .int .u64 t609, .int .u64 0]) ?_ 3 _ rfl; refine Kv_ ?_; refine blk_put (cs := #[.int .u64 t607, .int .u64 t608, .int .u64 0, .int .u64 0]) ?_ 2 _ rfl; refine Kv_ ?_; refine blk_put (cs := #[.int .u64 t607, .int .u64 0, .int .u64 0, .int .u64 0]) ?_ 1 _ rfl; refine Kv_ ?_; refine blk_put (cs := #[.int .u64 0, .int .u64 0, .int .u64 0, .int .u64 0]) ?_ 0 _ rfl; exact Kq_ BK611) hb); replace HB := Kt_ HB GE611 hb; (try clear hb); (try clear hb2); (try clear hk); (try clear hi); obtain ⟨hcz56_0, hcz56_1, hcz56_2, hcz56_3, hfz56_0, hfz56_1, hfz56_2, hfz56_3⟩ := Ke4_ BK606.out; obtain ⟨hcz57_0, hcz57_1, hcz57_2, hcz57_3, hfz57_0, hfz57_1, hfz57_2, hfz57_3⟩ := Ke4_ BK601.out) | (go_at_call 22; (with_reducible refine (vec_Leq.calls t602 t603 t604 t605 t597 t598 t599 t600 t613 _ A43.out).mono ?_); rintro e w58 ⟨rfl, hb⟩; replace BK593 := Kb_ BK593 hb; replace BK594 := Kb_ BK594 hb; replace BK595 := Kb_ BK595 hb; replace BK601 := Kb_ BK601 hb; replace BK606 := Kb_ BK606 hb; replace BK611 := Kb_ BK611 hb; replace HB := Ks_ HB hb; (try clear hb); (try clear hb2); (try clear hk); (try clear hi)))
    go_meet
    case rel => exact ⟨_, (t613), (by first | rfl | (simp; done) | (simp [*]; done)), H', ⟨by first | omega | exact Nat.le_refl _⟩, ⟨by exact Kq_ BK593⟩, ⟨by exact Kq_ BK594⟩, ⟨by exact Kq_ BK595⟩, ⟨by exact Kq_ BK601⟩, ⟨by exact Kq_ BK606⟩, ⟨by exact Kq_ BK611⟩, ⟨by repeat (first | (with_reducible first | exact HB.out | apply below_alloc | apply pw_below_drewN | apply below_drew1 | refine below_set ?_ GE593.out | refine below_set ?_ GE594.out | refine below_set ?_ GE595.out | refine below_set ?_ GE601.out | refine below_set ?_ GE606.out | refine below_set ?_ GE611.out) | exact HB.out)⟩⟩
  case rest =>
    clear HC9
    try clear c1
    try clear c2
    try clear p2
    try clear c3
    try clear c4
    try clear c5
    try clear c6
    try clear c10
    try clear c11
    try clear c14
    try clear c15
    try clear c19
    try clear c20
    try clear c21
    try clear c22
    try clear c23
    try clear c27
    try clear c28
    try clear c29
    try clear c30
    try clear c35
    try clear c36
    try clear c37
    try clear c38
    try clear c39
    try clear c42
    try clear c44
    try clear c45
    try clear c46
    try clear c47
    try clear c48
    try clear c50
    try clear c51
    try clear c52
    try clear c53
    try clear c59
    try clear c60
    try clear c61
    try clear c62
    try clear c63
    try clear c65
    try clear c66
    try clear c67
    try clear c68
    try clear hcz16_0
    try clear hcz16_1
    try clear hcz16_2
    try clear hcz16_3
    try clear hcz16_4
    try clear hcz22_0
    try clear hcz22_1
    try clear hcz22_2
    try clear hcz22_3
    try clear hcz24_0
    try clear hcz24_1
    try clear hcz24_2
    try clear hcz24_3
    try clear hcz24_4
    try clear hcz31_0
    try clear hcz31_1
    try clear hcz31_2
    try clear hcz31_3
    try clear hcz32_0
    try clear hcz32_1
    try clear hcz32_2
    try clear hcz32_3
    try clear hcz32_4
    try clear hcz40_0
    try clear hcz40_1
    try clear hcz40_2
    try clear hcz40_3
    try clear hcz49_0
    try clear hcz49_1
    try clear hcz49_2
    try clear hcz49_3
    try clear hcz54_0
    try clear hcz54_1
    try clear hcz54_2
    try clear hcz54_3
    try clear hcz56_0
    try clear hcz56_1
    try clear hcz56_2
    try clear hcz56_3
    try clear hcz57_0
    try clear hcz57_1
    try clear hcz57_2
    try clear hcz57_3
    try clear hcz64_0
    try clear hcz64_1
    try clear hcz64_2
    try clear hcz64_3
    try clear hcz69_0
    try clear hcz69_1
    try clear hcz69_2
    try clear hcz69_3
    try clear hfz16_0
    try clear hfz16_1
    try clear hfz16_2
    try clear hfz16_3
    try clear hfz16_4
    try clear hfz22_0
    try clear hfz22_1
    try clear hfz22_2
    try clear hfz22_3
    try clear hfz24_0
    try clear hfz24_1
    try clear hfz24_2
    try clear hfz24_3
    try clear hfz24_4
    try clear hfz31_0
    try clear hfz31_1
    try clear hfz31_2
    try clear hfz31_3
    try clear hfz32_0
    try clear hfz32_1
    try clear hfz32_2
    try clear hfz32_3
    try clear hfz32_4
    try clear hfz40_0
    try clear hfz40_1
    try clear hfz40_2
    try clear hfz40_3
    try clear hfz49_0
    try clear hfz49_1
    try clear hfz49_2
    try clear hfz49_3
    try clear hfz54_0
    try clear hfz54_1
    try clear hfz54_2
    try clear hfz54_3
    try clear hfz56_0
    try clear hfz56_1
    try clear hfz56_2
    try clear hfz56_3
    try clear hfz57_0
    try clear hfz57_1
    try clear hfz57_2
    try clear hfz57_3
    try clear hfz64_0
    try clear hfz64_1
    try clear hfz64_2
    try clear hfz64_3
    try clear hfz69_0
    try clear hfz69_1
    try clear hfz69_2
    try clear hfz69_3
    obtain ⟨kq, x11_8, rfl, HA, HJ8, BK593, BK594, BK595, BK601, BK606, BK611, HB⟩ := hcut
    cases kq with
    | zero => exact absurd HA.out (by simp [tenementlaw06_VecOrder_p0.j0])
    | succ kj8 =>
      have H := HA.out
      clear HA
      simp only [tenementlaw06_VecOrder_p0.j0] at H
      have HC71 := Aside0.mk H
      clear H
      go_upto_region 8 with (fail)
      go_cut [12] (fun v12 wc => ∃ (kq : Nat) (x12_70 : Bool), v12 = .bool x12_70 ∧ Aside0 (tenementlaw06_VecOrder_p0.j1 kq true x11_8 x12_70 t597 t598 t599 t600 t602 t603 t604 t605 t607 t608 t609 t610 = some r) ∧ Aside0 (kq ≤ kj8) ∧ Aside0 (wc.heap[gb593]? = some (.cells #[.int .u64 a0_0, .int .u64 a0_1, .int .u64 a0_2, .int .u64 a0_3, .bool a0_4] 26 (0, 0))) ∧ Aside0 (wc.heap[gb594]? = some (.cells #[.int .u64 a1_0, .int .u64 a1_1, .int .u64 a1_2, .int .u64 a1_3, .bool a1_4] 26 (0, 0))) ∧ Aside0 (wc.heap[gb595]? = some (.cells #[.int .u64 a2_0, .int .u64 a2_1, .int .u64 a2_2, .int .u64 a2_3, .bool a2_4] 26 (0, 0))) ∧ Aside0 (wc.heap[gb601]? = some (.cells #[.int .u64 t597, .int .u64 t598, .int .u64 t599, .int .u64 t600] 24 (0, 0))) ∧ Aside0 (wc.heap[gb606]? = some (.cells #[.int .u64 t602, .int .u64 t603, .int .u64 t604, .int .u64 t605] 24 (0, 0))) ∧ Aside0 (wc.heap[gb611]? = some (.cells #[.int .u64 t607, .int .u64 t608, .int .u64 t609, .int .u64 t610] 24 (0, 0))) ∧ Aside0 (Below w.heap.size w wc))
      case first =>
        have H := HC71.out
        clear HC71
        replace H := Option.bind_eq_some_iff.mp H
        obtain ⟨t614, A720, H⟩ := H
        replace H : (if t614 = true then ((vec_Right.f t602 t603 t604 t605).bind fun t615 => (tenementlaw06_VecOrder_p0.j1 kj8 true x11_8 t615 t597 t598 t599 t600 t602 t603 t604 t605 t607 t608 t609 t610)) else (tenementlaw06_VecOrder_p0.j1 kj8 true x11_8 false t597 t598 t599 t600 t602 t603 t604 t605 t607 t608 t609 t610)) = some r := H
        have A72 := Aside0.mk A720
        clear A720
        by_cases c73 : t614 = true
        rotate_left
        · replace c73 := Bool.eq_false_iff.mpr c73
          subst c73
          have H1 : (tenementlaw06_VecOrder_p0.j1 kj8 true x11_8 false t597 t598 t599 t600 t602 t603 t604 t605 t607 t608 t609 t610) = some r := by rw [if_neg (show ¬ (false = true) by decide)] at H; exact H
          clear H
          have H := H1
          clear H1
          have H' := Aside0.mk H
          clear H
          have hnb88 := NB601_593.out
          have hnc88 := NB593_601.out
          have hnb89 := NB601_594.out
          have hnc89 := NB594_601.out
          have hnb90 := NB601_595.out
          have hnc90 := NB595_601.out
          have hnb91 := NB601_606.out
          have hnc91 := NB606_601.out
          have hnb92 := NB601_611.out
          have hnc92 := NB611_601.out
          obtain ⟨hcz93_0, hcz93_1, hcz93_2, hcz93_3, hfz93_0, hfz93_1, hfz93_2, hfz93_3⟩ := Ke4_ BK601.out
          go_wp2_with (first | ((with_reducible refine gate_callee (f := 20) rfl ?_); refine Kg_ (some 31) rfl rfl Tryd.func20 (by kernel_rfl) rfl #[.agg #[.int .u64 t597, .int .u64 t598, .int .u64 t599, .int .u64 t600]] rfl ?_; (with_reducible refine (vec_Right.calls t597 t598 t599 t600 false _ A72.out).mono ?_); rintro e w94 ⟨rfl, hb⟩; refine ⟨_, rfl, ?_⟩; replace BK593 := Kb_ BK593 hb; replace BK594 := Kb_ BK594 hb; replace BK595 := Kb_ BK595 hb; replace BK601 := Kb_ BK601 hb; replace BK606 := Kb_ BK606 hb; replace BK611 := Kb_ BK611 hb; replace HB := Ks_ HB hb; (try clear hb); (try clear hb2); (try clear hk); (try clear hi)))
          go_meet
          case rel => exact ⟨_, (false), (by first | rfl | (simp; done) | (simp [*]; done)), H', ⟨by have := HJ8.out; first | omega | exact Nat.le_refl _⟩, ⟨by exact Kq_ BK593⟩, ⟨by exact Kq_ BK594⟩, ⟨by exact Kq_ BK595⟩, ⟨by exact Kq_ BK601⟩, ⟨by exact Kq_ BK606⟩, ⟨by exact Kq_ BK611⟩, ⟨by repeat (first | (with_reducible first | exact HB.out | apply below_alloc | apply pw_below_drewN | apply below_drew1 | refine below_set ?_ GE593.out | refine below_set ?_ GE594.out | refine below_set ?_ GE595.out | refine below_set ?_ GE601.out | refine below_set ?_ GE606.out | refine below_set ?_ GE611.out) | exact HB.out)⟩⟩
        subst c73
        have H1 : ((vec_Right.f t602 t603 t604 t605).bind fun t615 => (tenementlaw06_VecOrder_p0.j1 kj8 true x11_8 t615 t597 t598 t599 t600 t602 t603 t604 t605 t607 t608 t609 t610)) = some r := by rw [if_pos rfl] at H; exact H
        clear H
        have H := H1
        clear H1
        replace H := Option.bind_eq_some_iff.mp H
        obtain ⟨t615, A740, H⟩ := H
        replace H : (tenementlaw06_VecOrder_p0.j1 kj8 true x11_8 t615 t597 t598 t599 t600 t602 t603 t604 t605 t607 t608 t609 t610) = some r := H
        have A74 := Aside0.mk A740
        clear A740
        have H' := Aside0.mk H
        clear H
        have hnb75 := NB601_593.out
        have hnc75 := NB593_601.out
        have hnb76 := NB601_594.out
        have hnc76 := NB594_601.out
        have hnb77 := NB601_595.out
        have hnc77 := NB595_601.out
        have hnb78 := NB601_606.out
        have hnc78 := NB606_601.out
        have hnb79 := NB601_611.out
        have hnc79 := NB611_601.out
        obtain ⟨hcz80_0, hcz80_1, hcz80_2, hcz80_3, hfz80_0, hfz80_1, hfz80_2, hfz80_3⟩ := Ke4_ BK601.out
        go_wp2_with (first | ((with_reducible refine gate_callee (f := 20) rfl ?_); refine Kg_ (some 31) rfl rfl Tryd.func20 (by kernel_rfl) rfl #[.agg #[.int .u64 t597, .int .u64 t598, .int .u64 t599, .int .u64 t600]] rfl ?_; (with_reducible refine (vec_Right.calls t597 t598 t599 t600 true _ A72.out).mono ?_); rintro e w81 ⟨rfl, hb⟩; refine ⟨_, rfl, ?_⟩; replace BK593 := Kb_ BK593 hb; replace BK594 := Kb_ BK594 hb; replace BK595 := Kb_ BK595 hb; replace BK601 := Kb_ BK601 hb; replace BK606 := Kb_ BK606 hb; replace BK611 := Kb_ BK611 hb; replace HB := Ks_ HB hb; (try clear hb); (try clear hb2); (try clear hk); (try clear hi); have hnb82 := NB606_593.out; have hnc82 := NB593_606.out; have hnb83 := NB606_594.out; have hnc83 := NB594_606.out; have hnb84 := NB606_595.out; have hnc84 := NB595_606.out; have hnb85 := NB606_611.out; have hnc85 := NB611_606.out; obtain ⟨hcz86_0, hcz86_1, hcz86_2, hcz86_3, hfz86_0, hfz86_1, hfz86_2, hfz86_3⟩ := Ke4_ BK606.out) | (go_at_call 20; (with_reducible refine (vec_Right.calls t602 t603 t604 t605 t615 _ A74.out).mono ?_); rintro e w87 ⟨rfl, hb⟩; replace BK593 := Kb_ BK593 hb; replace BK594 := Kb_ BK594 hb; replace BK595 := Kb_ BK595 hb; replace BK601 := Kb_ BK601 hb; replace BK606 := Kb_ BK606 hb; replace BK611 := Kb_ BK611 hb; replace HB := Ks_ HB hb; (try clear hb); (try clear hb2); (try clear hk); (try clear hi)))
        go_meet
        case rel => exact ⟨_, (t615), (by first | rfl | (simp; done) | (simp [*]; done)), H', ⟨by have := HJ8.out; first | omega | exact Nat.le_refl _⟩, ⟨by exact Kq_ BK593⟩, ⟨by exact Kq_ BK594⟩, ⟨by exact Kq_ BK595⟩, ⟨by exact Kq_ BK601⟩, ⟨by exact Kq_ BK606⟩, ⟨by exact Kq_ BK611⟩, ⟨by repeat (first | (with_reducible first | exact HB.out | apply below_alloc | apply pw_below_drewN | apply below_drew1 | refine below_set ?_ GE593.out | refine below_set ?_ GE594.out | refine below_set ?_ GE595.out | refine below_set ?_ GE601.out | refine below_set ?_ GE606.out | refine below_set ?_ GE611.out) | exact HB.out)⟩⟩
      case rest =>
        clear HC71
        try clear c1
        try clear c2
        try clear p2
        try clear c3
        try clear c4
        try clear c5
        try clear c6
        try clear c7
        try clear c8
        try clear c9
        try clear c10
        try clear c11
        try clear c14
        try clear c15
        try clear c19
        try clear c20
        try clear c21
        try clear c22
        try clear c23
        try clear c27
        try clear c28
        try clear c29
        try clear c30
        try clear c35
        try clear c36
        try clear c37
        try clear c38
        try clear c39
        try clear c42
        try clear c44
        try clear c45
        try clear c46
        try clear c47
        try clear c48
        try clear c50
        try clear c51
        try clear c52
        try clear c53
        try clear c59
        try clear c60
        try clear c61
        try clear c62
        try clear c63
        try clear c65
        try clear c66
        try clear c67
        try clear c68
        try clear c73
        try clear c75
        try clear c76
        try clear c77
        try clear c78
        try clear c79
        try clear c82
        try clear c83
        try clear c84
        try clear c85
        try clear c88
        try clear c89
        try clear c90
        try clear c91
        try clear c92
        try clear hcz16_0
        try clear hcz16_1
        try clear hcz16_2
        try clear hcz16_3
        try clear hcz16_4
        try clear hcz22_0
        try clear hcz22_1
        try clear hcz22_2
        try clear hcz22_3
        try clear hcz24_0
        try clear hcz24_1
        try clear hcz24_2
        try clear hcz24_3
        try clear hcz24_4
        try clear hcz31_0
        try clear hcz31_1
        try clear hcz31_2
        try clear hcz31_3
        try clear hcz32_0
        try clear hcz32_1
        try clear hcz32_2
        try clear hcz32_3
        try clear hcz32_4
        try clear hcz40_0
        try clear hcz40_1
        try clear hcz40_2
        try clear hcz40_3
        try clear hcz49_0
        try clear hcz49_1
        try clear hcz49_2
        try clear hcz49_3
        try clear hcz54_0
        try clear hcz54_1
        try clear hcz54_2
        try clear hcz54_3
        try clear hcz56_0
        try clear hcz56_1
        try clear hcz56_2
        try clear hcz56_3
        try clear hcz57_0
        try clear hcz57_1
        try clear hcz57_2
        try clear hcz57_3
        try clear hcz64_0
        try clear hcz64_1
        try clear hcz64_2
        try clear hcz64_3
        try clear hcz69_0
        try clear hcz69_1
        try clear hcz69_2
        try clear hcz69_3
        try clear hcz80_0
        try clear hcz80_1
        try clear hcz80_2
        try clear hcz80_3
        try clear hcz86_0
        try clear hcz86_1
        try clear hcz86_2
        try clear hcz86_3
        try clear hcz93_0
        try clear hcz93_1
        try clear hcz93_2
        try clear hcz93_3
        try clear hfz16_0
        try clear hfz16_1
        try clear hfz16_2
        try clear hfz16_3
        try clear hfz16_4
        try clear hfz22_0
        try clear hfz22_1
        try clear hfz22_2
        try clear hfz22_3
        try clear hfz24_0
        try clear hfz24_1
        try clear hfz24_2
        try clear hfz24_3
        try clear hfz24_4
        try clear hfz31_0
        try clear hfz31_1
        try clear hfz31_2
        try clear hfz31_3
        try clear hfz32_0
        try clear hfz32_1
        try clear hfz32_2
        try clear hfz32_3
        try clear hfz32_4
        try clear hfz40_0
        try clear hfz40_1
        try clear hfz40_2
        try clear hfz40_3
        try clear hfz49_0
        try clear hfz49_1
        try clear hfz49_2
        try clear hfz49_3
        try clear hfz54_0
        try clear hfz54_1
        try clear hfz54_2
        try clear hfz54_3
        try clear hfz56_0
        try clear hfz56_1
        try clear hfz56_2
        try clear hfz56_3
        try clear hfz57_0
        try clear hfz57_1
        try clear hfz57_2
        try clear hfz57_3
        try clear hfz64_0
        try clear hfz64_1
        try clear hfz64_2
        try clear hfz64_3
        try clear hfz69_0
        try clear hfz69_1
        try clear hfz69_2
        try clear hfz69_3
        try clear hfz80_0
        try clear hfz80_1
        try clear hfz80_2
        try clear hfz80_3
        try clear hfz86_0
        try clear hfz86_1
        try clear hfz86_2
        try clear hfz86_3
        try clear hfz93_0
        try clear hfz93_1
        try clear hfz93_2
        try clear hfz93_3
        try clear p2
        obtain ⟨kq, x12_70, rfl, HA, HJ70, BK593, BK594, BK595, BK601, BK606, BK611, HB⟩ := hcut
        cases kq with
        | zero => exact absurd HA.out (by simp [tenementlaw06_VecOrder_p0.j1])
        | succ kj70 =>
          have H := HA.out
          clear HA
          simp only [tenementlaw06_VecOrder_p0.j1] at H
          replace H : ((vec_Leq.f t597 t598 t599 t600 t597 t598 t599 t600).bind fun t616 => (if t616 = true then (if x11_8 = true then (if (t597 == t602 && (t598 == t603 && (t599 == t604 && (t600 == t605)))) = true then ((vec_Leq.f t597 t598 t599 t600 t602 t603 t604 t605).bind fun t617 => (if t617 = true then ((vec_Leq.f t602 t603 t604 t605 t607 t608 t609 t610).bind fun t618 => (if t618 = true then ((vec_Leq.f t597 t598 t599 t600 t607 t608 t609 t610).bind fun t619 => (if t619 = true then (if x12_70 = true then ((vec_Leq.f t597 t598 t599 t600 t602 t603 t604 t605).bind fun t620 => ((vec_Join.f t597 t598 t599 t600 t602 t603 t604 t605).bind fun bt621 => (if t620 = true then (if (bt621.1 == t602 && (bt621.2.1 == t603 && (bt621.2.2.1 == t604 && (bt621.2.2.2 == t605)))) = true then ((vec_Leq.f 0 0 0 0 t597 t598 t599 t600).bind fun t625 => (if t625 = true then (some true) else (none))) else (none)) else (none)))) else ((vec_Leq.f t597 t598 t599 t600 t602 t603 t604 t605).bind fun t627 => ((vec_Join.f t597 t598 t599 t600 t602 t603 t604 t605).bind fun bt628 => (if t627 = true then (if (bt628.1 == t602 && (bt628.2.1 == t603 && (bt628.2.2.1 == t604 && (bt628.2.2.2 == t605)))) = true then ((vec_Leq.f 0 0 0 0 t597 t598 t599 t600).bind fun t632 => (if t632 = true then (some true) else (none))) else (none)) else (none))))) else (none))) else (if x12_70 = true then ((vec_Leq.f t597 t598 t599 t600 t602 t603 t604 t605).bind fun t634 => ((vec_Join.f t597 t598 t599 t600 t602 t603 t604 t605).bind fun bt635 => (if t634 = true then (if (bt635.1 == t602 && (bt635.2.1 == t603 && (bt635.2.2.1 == t604 && (bt635.2.2.2 == t605)))) = true then ((vec_Leq.f 0 0 0 0 t597 t598 t599 t600).bind fun t639 => (if t639 = true then (some true) else (none))) else (none)) else (none)))) else ((vec_Leq.f t597 t598 t599 t600 t602 t603 t604 t605).bind fun t641 => ((vec_Join.f t597 t598 t599 t600 t602 t603 t604 t605).bind fun bt642 => (if t641 = true then (if (bt642.1 == t602 && (bt642.2.1 == t603 && (bt642.2.2.1 == t604 && (bt642.2.2.2 == t605)))) = true then ((vec_Leq.f 0 0 0 0 t597 t598 t599 t600).bind fun t646 => (if t646 = true then (some true) else (none))) else (none)) else (none))))))) else (none))) else (none)) else (none)) else (none))) = some r := by first | (rw [if_pos rfl] at H; exact H) | (rw [if_pos trivial] at H; exact H)
          replace H := Option.bind_eq_some_iff.mp H
          obtain ⟨t616, A950, H⟩ := H
          replace H : (if t616 = true then (if x11_8 = true then (if (t597 == t602 && (t598 == t603 && (t599 == t604 && (t600 == t605)))) = true then ((vec_Leq.f t597 t598 t599 t600 t602 t603 t604 t605).bind fun t617 => (if t617 = true then ((vec_Leq.f t602 t603 t604 t605 t607 t608 t609 t610).bind fun t618 => (if t618 = true then ((vec_Leq.f t597 t598 t599 t600 t607 t608 t609 t610).bind fun t619 => (if t619 = true then (if x12_70 = true then ((vec_Leq.f t597 t598 t599 t600 t602 t603 t604 t605).bind fun t620 => ((vec_Join.f t597 t598 t599 t600 t602 t603 t604 t605).bind fun bt621 => (if t620 = true then (if (bt621.1 == t602 && (bt621.2.1 == t603 && (bt621.2.2.1 == t604 && (bt621.2.2.2 == t605)))) = true then ((vec_Leq.f 0 0 0 0 t597 t598 t599 t600).bind fun t625 => (if t625 = true then (some true) else (none))) else (none)) else (none)))) else ((vec_Leq.f t597 t598 t599 t600 t602 t603 t604 t605).bind fun t627 => ((vec_Join.f t597 t598 t599 t600 t602 t603 t604 t605).bind fun bt628 => (if t627 = true then (if (bt628.1 == t602 && (bt628.2.1 == t603 && (bt628.2.2.1 == t604 && (bt628.2.2.2 == t605)))) = true then ((vec_Leq.f 0 0 0 0 t597 t598 t599 t600).bind fun t632 => (if t632 = true then (some true) else (none))) else (none)) else (none))))) else (none))) else (if x12_70 = true then ((vec_Leq.f t597 t598 t599 t600 t602 t603 t604 t605).bind fun t634 => ((vec_Join.f t597 t598 t599 t600 t602 t603 t604 t605).bind fun bt635 => (if t634 = true then (if (bt635.1 == t602 && (bt635.2.1 == t603 && (bt635.2.2.1 == t604 && (bt635.2.2.2 == t605)))) = true then ((vec_Leq.f 0 0 0 0 t597 t598 t599 t600).bind fun t639 => (if t639 = true then (some true) else (none))) else (none)) else (none)))) else ((vec_Leq.f t597 t598 t599 t600 t602 t603 t604 t605).bind fun t641 => ((vec_Join.f t597 t598 t599 t600 t602 t603 t604 t605).bind fun bt642 => (if t641 = true then (if (bt642.1 == t602 && (bt642.2.1 == t603 && (bt642.2.2.1 == t604 && (bt642.2.2.2 == t605)))) = true then ((vec_Leq.f 0 0 0 0 t597 t598 t599 t600).bind fun t646 => (if t646 = true then (some true) else (none))) else (none)) else (none))))))) else (none))) else (none)) else (none)) else (none)) = some r := H
          have A95 := Aside0.mk A950
          clear A950
          by_cases c96 : t616 = true
          rotate_left
          · replace c96 := Bool.eq_false_iff.mpr c96
            subst c96
            have H1 : (none) = some r := by rw [if_neg (show ¬ (false = true) by decide)] at H; exact H
            clear H
            have H := H1
            clear H1
            exact absurd H (by simp)
          subst c96
          have H1 : (if x11_8 = true then (if (t597 == t602 && (t598 == t603 && (t599 == t604 && (t600 == t605)))) = true then ((vec_Leq.f t597 t598 t599 t600 t602 t603 t604 t605).bind fun t617 => (if t617 = true then ((vec_Leq.f t602 t603 t604 t605 t607 t608 t609 t610).bind fun t618 => (if t618 = true then ((vec_Leq.f t597 t598 t599 t600 t607 t608 t609 t610).bind fun t619 => (if t619 = true then (if x12_70 = true then ((vec_Leq.f t597 t598 t599 t600 t602 t603 t604 t605).bind fun t620 => ((vec_Join.f t597 t598 t599 t600 t602 t603 t604 t605).bind fun bt621 => (if t620 = true then (if (bt621.1 == t602 && (bt621.2.1 == t603 && (bt621.2.2.1 == t604 && (bt621.2.2.2 == t605)))) = true then ((vec_Leq.f 0 0 0 0 t597 t598 t599 t600).bind fun t625 => (if t625 = true then (some true) else (none))) else (none)) else (none)))) else ((vec_Leq.f t597 t598 t599 t600 t602 t603 t604 t605).bind fun t627 => ((vec_Join.f t597 t598 t599 t600 t602 t603 t604 t605).bind fun bt628 => (if t627 = true then (if (bt628.1 == t602 && (bt628.2.1 == t603 && (bt628.2.2.1 == t604 && (bt628.2.2.2 == t605)))) = true then ((vec_Leq.f 0 0 0 0 t597 t598 t599 t600).bind fun t632 => (if t632 = true then (some true) else (none))) else (none)) else (none))))) else (none))) else (if x12_70 = true then ((vec_Leq.f t597 t598 t599 t600 t602 t603 t604 t605).bind fun t634 => ((vec_Join.f t597 t598 t599 t600 t602 t603 t604 t605).bind fun bt635 => (if t634 = true then (if (bt635.1 == t602 && (bt635.2.1 == t603 && (bt635.2.2.1 == t604 && (bt635.2.2.2 == t605)))) = true then ((vec_Leq.f 0 0 0 0 t597 t598 t599 t600).bind fun t639 => (if t639 = true then (some true) else (none))) else (none)) else (none)))) else ((vec_Leq.f t597 t598 t599 t600 t602 t603 t604 t605).bind fun t641 => ((vec_Join.f t597 t598 t599 t600 t602 t603 t604 t605).bind fun bt642 => (if t641 = true then (if (bt642.1 == t602 && (bt642.2.1 == t603 && (bt642.2.2.1 == t604 && (bt642.2.2.2 == t605)))) = true then ((vec_Leq.f 0 0 0 0 t597 t598 t599 t600).bind fun t646 => (if t646 = true then (some true) else (none))) else (none)) else (none))))))) else (none))) else (none)) else (none)) = some r := by rw [if_pos rfl] at H; exact H
          clear H
          have H := H1
          clear H1
          by_cases c97 : x11_8 = true
          rotate_left
          · replace c97 := Bool.eq_false_iff.mpr c97
            subst c97
            have H1 : (none) = some r := by rw [if_neg (show ¬ (false = true) by decide)] at H; exact H
            clear H
            have H := H1
            clear H1
            exact absurd H (by simp)
          subst c97
          have H1 : (if (t597 == t602 && (t598 == t603 && (t599 == t604 && (t600 == t605)))) = true then ((vec_Leq.f t597 t598 t599 t600 t602 t603 t604 t605).bind fun t617 => (if t617 = true then ((vec_Leq.f t602 t603 t604 t605 t607 t608 t609 t610).bind fun t618 => (if t618 = true then ((vec_Leq.f t597 t598 t599 t600 t607 t608 t609 t610).bind fun t619 => (if t619 = true then (if x12_70 = true then ((vec_Leq.f t597 t598 t599 t600 t602 t603 t604 t605).bind fun t620 => ((vec_Join.f t597 t598 t599 t600 t602 t603 t604 t605).bind fun bt621 => (if t620 = true then (if (bt621.1 == t602 && (bt621.2.1 == t603 && (bt621.2.2.1 == t604 && (bt621.2.2.2 == t605)))) = true then ((vec_Leq.f 0 0 0 0 t597 t598 t599 t600).bind fun t625 => (if t625 = true then (some true) else (none))) else (none)) else (none)))) else ((vec_Leq.f t597 t598 t599 t600 t602 t603 t604 t605).bind fun t627 => ((vec_Join.f t597 t598 t599 t600 t602 t603 t604 t605).bind fun bt628 => (if t627 = true then (if (bt628.1 == t602 && (bt628.2.1 == t603 && (bt628.2.2.1 == t604 && (bt628.2.2.2 == t605)))) = true then ((vec_Leq.f 0 0 0 0 t597 t598 t599 t600).bind fun t632 => (if t632 = true then (some true) else (none))) else (none)) else (none))))) else (none))) else (if x12_70 = true then ((vec_Leq.f t597 t598 t599 t600 t602 t603 t604 t605).bind fun t634 => ((vec_Join.f t597 t598 t599 t600 t602 t603 t604 t605).bind fun bt635 => (if t634 = true then (if (bt635.1 == t602 && (bt635.2.1 == t603 && (bt635.2.2.1 == t604 && (bt635.2.2.2 == t605)))) = true then ((vec_Leq.f 0 0 0 0 t597 t598 t599 t600).bind fun t639 => (if t639 = true then (some true) else (none))) else (none)) else (none)))) else ((vec_Leq.f t597 t598 t599 t600 t602 t603 t604 t605).bind fun t641 => ((vec_Join.f t597 t598 t599 t600 t602 t603 t604 t605).bind fun bt642 => (if t641 = true then (if (bt642.1 == t602 && (bt642.2.1 == t603 && (bt642.2.2.1 == t604 && (bt642.2.2.2 == t605)))) = true then ((vec_Leq.f 0 0 0 0 t597 t598 t599 t600).bind fun t646 => (if t646 = true then (some true) else (none))) else (none)) else (none))))))) else (none))) else (none)) = some r := by rw [if_pos rfl] at H; exact H
          clear H
          have H := H1
          clear H1
          by_cases c98 : (t597 == t602 && (t598 == t603 && (t599 == t604 && (t600 == t605)))) = true
          rotate_left
          · rw [if_neg c98] at H
            exact absurd H (by simp)
          rw [if_pos c98] at H
          have c98b0 : (t597 == t602 && (t598 == t603 && (t599 == t604 && (t600 == t605)))) = true := c98
          (try (have c98b1 : decide (t597 = t602 && (t598 == t603 && (t599 == t604 && (t600 == t605)))) = true := by simpa using c98))
          (try (have c98b2 : (t597 == t602 && (t598 == t603 && (t599 == t604 && (t600 == t605)))) = true := by simpa using c98))
          clear c98
          replace H := Option.bind_eq_some_iff.mp H
          obtain ⟨t617, A990, H⟩ := H
          replace H : (if t617 = true then ((vec_Leq.f t602 t603 t604 t605 t607 t608 t609 t610).bind fun t618 => (if t618 = true then ((vec_Leq.f t597 t598 t599 t600 t607 t608 t609 t610).bind fun t619 => (if t619 = true then (if x12_70 = true then ((vec_Leq.f t597 t598 t599 t600 t602 t603 t604 t605).bind fun t620 => ((vec_Join.f t597 t598 t599 t600 t602 t603 t604 t605).bind fun bt621 => (if t620 = true then (if (bt621.1 == t602 && (bt621.2.1 == t603 && (bt621.2.2.1 == t604 && (bt621.2.2.2 == t605)))) = true then ((vec_Leq.f 0 0 0 0 t597 t598 t599 t600).bind fun t625 => (if t625 = true then (some true) else (none))) else (none)) else (none)))) else ((vec_Leq.f t597 t598 t599 t600 t602 t603 t604 t605).bind fun t627 => ((vec_Join.f t597 t598 t599 t600 t602 t603 t604 t605).bind fun bt628 => (if t627 = true then (if (bt628.1 == t602 && (bt628.2.1 == t603 && (bt628.2.2.1 == t604 && (bt628.2.2.2 == t605)))) = true then ((vec_Leq.f 0 0 0 0 t597 t598 t599 t600).bind fun t632 => (if t632 = true then (some true) else (none))) else (none)) else (none))))) else (none))) else (if x12_70 = true then ((vec_Leq.f t597 t598 t599 t600 t602 t603 t604 t605).bind fun t634 => ((vec_Join.f t597 t598 t599 t600 t602 t603 t604 t605).bind fun bt635 => (if t634 = true then (if (bt635.1 == t602 && (bt635.2.1 == t603 && (bt635.2.2.1 == t604 && (bt635.2.2.2 == t605)))) = true then ((vec_Leq.f 0 0 0 0 t597 t598 t599 t600).bind fun t639 => (if t639 = true then (some true) else (none))) else (none)) else (none)))) else ((vec_Leq.f t597 t598 t599 t600 t602 t603 t604 t605).bind fun t641 => ((vec_Join.f t597 t598 t599 t600 t602 t603 t604 t605).bind fun bt642 => (if t641 = true then (if (bt642.1 == t602 && (bt642.2.1 == t603 && (bt642.2.2.1 == t604 && (bt642.2.2.2 == t605)))) = true then ((vec_Leq.f 0 0 0 0 t597 t598 t599 t600).bind fun t646 => (if t646 = true then (some true) else (none))) else (none)) else (none))))))) else (none)) = some r := H
          have A99 := Aside0.mk A990
          clear A990
          by_cases c100 : t617 = true
          rotate_left
          · replace c100 := Bool.eq_false_iff.mpr c100
            subst c100
            have H1 : (none) = some r := by rw [if_neg (show ¬ (false = true) by decide)] at H; exact H
            clear H
            have H := H1
            clear H1
            exact absurd H (by simp)
          subst c100
          have H1 : ((vec_Leq.f t602 t603 t604 t605 t607 t608 t609 t610).bind fun t618 => (if t618 = true then ((vec_Leq.f t597 t598 t599 t600 t607 t608 t609 t610).bind fun t619 => (if t619 = true then (if x12_70 = true then ((vec_Leq.f t597 t598 t599 t600 t602 t603 t604 t605).bind fun t620 => ((vec_Join.f t597 t598 t599 t600 t602 t603 t604 t605).bind fun bt621 => (if t620 = true then (if (bt621.1 == t602 && (bt621.2.1 == t603 && (bt621.2.2.1 == t604 && (bt621.2.2.2 == t605)))) = true then ((vec_Leq.f 0 0 0 0 t597 t598 t599 t600).bind fun t625 => (if t625 = true then (some true) else (none))) else (none)) else (none)))) else ((vec_Leq.f t597 t598 t599 t600 t602 t603 t604 t605).bind fun t627 => ((vec_Join.f t597 t598 t599 t600 t602 t603 t604 t605).bind fun bt628 => (if t627 = true then (if (bt628.1 == t602 && (bt628.2.1 == t603 && (bt628.2.2.1 == t604 && (bt628.2.2.2 == t605)))) = true then ((vec_Leq.f 0 0 0 0 t597 t598 t599 t600).bind fun t632 => (if t632 = true then (some true) else (none))) else (none)) else (none))))) else (none))) else (if x12_70 = true then ((vec_Leq.f t597 t598 t599 t600 t602 t603 t604 t605).bind fun t634 => ((vec_Join.f t597 t598 t599 t600 t602 t603 t604 t605).bind fun bt635 => (if t634 = true then (if (bt635.1 == t602 && (bt635.2.1 == t603 && (bt635.2.2.1 == t604 && (bt635.2.2.2 == t605)))) = true then ((vec_Leq.f 0 0 0 0 t597 t598 t599 t600).bind fun t639 => (if t639 = true then (some true) else (none))) else (none)) else (none)))) else ((vec_Leq.f t597 t598 t599 t600 t602 t603 t604 t605).bind fun t641 => ((vec_Join.f t597 t598 t599 t600 t602 t603 t604 t605).bind fun bt642 => (if t641 = true then (if (bt642.1 == t602 && (bt642.2.1 == t603 && (bt642.2.2.1 == t604 && (bt642.2.2.2 == t605)))) = true then ((vec_Leq.f 0 0 0 0 t597 t598 t599 t600).bind fun t646 => (if t646 = true then (some true) else (none))) else (none)) else (none))))))) = some r := by rw [if_pos rfl] at H; exact H
          clear H
          have H := H1
          clear H1
          replace H := Option.bind_eq_some_iff.mp H
          obtain ⟨t618, A1010, H⟩ := H
          replace H : (if t618 = true then ((vec_Leq.f t597 t598 t599 t600 t607 t608 t609 t610).bind fun t619 => (if t619 = true then (if x12_70 = true then ((vec_Leq.f t597 t598 t599 t600 t602 t603 t604 t605).bind fun t620 => ((vec_Join.f t597 t598 t599 t600 t602 t603 t604 t605).bind fun bt621 => (if t620 = true then (if (bt621.1 == t602 && (bt621.2.1 == t603 && (bt621.2.2.1 == t604 && (bt621.2.2.2 == t605)))) = true then ((vec_Leq.f 0 0 0 0 t597 t598 t599 t600).bind fun t625 => (if t625 = true then (some true) else (none))) else (none)) else (none)))) else ((vec_Leq.f t597 t598 t599 t600 t602 t603 t604 t605).bind fun t627 => ((vec_Join.f t597 t598 t599 t600 t602 t603 t604 t605).bind fun bt628 => (if t627 = true then (if (bt628.1 == t602 && (bt628.2.1 == t603 && (bt628.2.2.1 == t604 && (bt628.2.2.2 == t605)))) = true then ((vec_Leq.f 0 0 0 0 t597 t598 t599 t600).bind fun t632 => (if t632 = true then (some true) else (none))) else (none)) else (none))))) else (none))) else (if x12_70 = true then ((vec_Leq.f t597 t598 t599 t600 t602 t603 t604 t605).bind fun t634 => ((vec_Join.f t597 t598 t599 t600 t602 t603 t604 t605).bind fun bt635 => (if t634 = true then (if (bt635.1 == t602 && (bt635.2.1 == t603 && (bt635.2.2.1 == t604 && (bt635.2.2.2 == t605)))) = true then ((vec_Leq.f 0 0 0 0 t597 t598 t599 t600).bind fun t639 => (if t639 = true then (some true) else (none))) else (none)) else (none)))) else ((vec_Leq.f t597 t598 t599 t600 t602 t603 t604 t605).bind fun t641 => ((vec_Join.f t597 t598 t599 t600 t602 t603 t604 t605).bind fun bt642 => (if t641 = true then (if (bt642.1 == t602 && (bt642.2.1 == t603 && (bt642.2.2.1 == t604 && (bt642.2.2.2 == t605)))) = true then ((vec_Leq.f 0 0 0 0 t597 t598 t599 t600).bind fun t646 => (if t646 = true then (some true) else (none))) else (none)) else (none)))))) = some r := H
          have A101 := Aside0.mk A1010
          clear A1010
          by_cases c102 : t618 = true
          rotate_left
          · replace c102 := Bool.eq_false_iff.mpr c102
            subst c102
            have H1 : (if x12_70 = true then ((vec_Leq.f t597 t598 t599 t600 t602 t603 t604 t605).bind fun t634 => ((vec_Join.f t597 t598 t599 t600 t602 t603 t604 t605).bind fun bt635 => (if t634 = true then (if (bt635.1 == t602 && (bt635.2.1 == t603 && (bt635.2.2.1 == t604 && (bt635.2.2.2 == t605)))) = true then ((vec_Leq.f 0 0 0 0 t597 t598 t599 t600).bind fun t639 => (if t639 = true then (some true) else (none))) else (none)) else (none)))) else ((vec_Leq.f t597 t598 t599 t600 t602 t603 t604 t605).bind fun t641 => ((vec_Join.f t597 t598 t599 t600 t602 t603 t604 t605).bind fun bt642 => (if t641 = true then (if (bt642.1 == t602 && (bt642.2.1 == t603 && (bt642.2.2.1 == t604 && (bt642.2.2.2 == t605)))) = true then ((vec_Leq.f 0 0 0 0 t597 t598 t599 t600).bind fun t646 => (if t646 = true then (some true) else (none))) else (none)) else (none))))) = some r := by rw [if_neg (show ¬ (false = true) by decide)] at H; exact H
            clear H
            have H := H1
            clear H1
            by_cases c134 : x12_70 = true
            rotate_left
            · replace c134 := Bool.eq_false_iff.mpr c134
              subst c134
              have H1 : ((vec_Leq.f t597 t598 t599 t600 t602 t603 t604 t605).bind fun t641 => ((vec_Join.f t597 t598 t599 t600 t602 t603 t604 t605).bind fun bt642 => (if t641 = true then (if (bt642.1 == t602 && (bt642.2.1 == t603 && (bt642.2.2.1 == t604 && (bt642.2.2.2 == t605)))) = true then ((vec_Leq.f 0 0 0 0 t597 t598 t599 t600).bind fun t646 => (if t646 = true then (some true) else (none))) else (none)) else (none)))) = some r := by rw [if_neg (show ¬ (false = true) by decide)] at H; exact H
              clear H
              have H := H1
              clear H1
              replace H := Option.bind_eq_some_iff.mp H
              obtain ⟨t641, A1480, H⟩ := H
              replace H : ((vec_Join.f t597 t598 t599 t600 t602 t603 t604 t605).bind fun bt642 => (if t641 = true then (if (bt642.1 == t602 && (bt642.2.1 == t603 && (bt642.2.2.1 == t604 && (bt642.2.2.2 == t605)))) = true then ((vec_Leq.f 0 0 0 0 t597 t598 t599 t600).bind fun t646 => (if t646 = true then (some true) else (none))) else (none)) else (none))) = some r := H
              have A148 := Aside0.mk A1480
              clear A1480
              replace H := Option.bind_eq_some_iff.mp H
              obtain ⟨⟨t642, t643, t644, t645⟩, A1490, H⟩ := H
              replace H : (if t641 = true then (if (t642 == t602 && (t643 == t603 && (t644 == t604 && (t645 == t605)))) = true then ((vec_Leq.f 0 0 0 0 t597 t598 t599 t600).bind fun t646 => (if t646 = true then (some true) else (none))) else (none)) else (none)) = some r := H
              have A149 := Aside0.mk A1490
              clear A1490
              by_cases c150 : t641 = true
              rotate_left
              · replace c150 := Bool.eq_false_iff.mpr c150
                subst c150
                have H1 : (none) = some r := by rw [if_neg (show ¬ (false = true) by decide)] at H; exact H
                clear H
                have H := H1
                clear H1
                exact absurd H (by simp)
              subst c150
              have H1 : (if (t642 == t602 && (t643 == t603 && (t644 == t604 && (t645 == t605)))) = true then ((vec_Leq.f 0 0 0 0 t597 t598 t599 t600).bind fun t646 => (if t646 = true then (some true) else (none))) else (none)) = some r := by rw [if_pos rfl] at H; exact H
              clear H
              have H := H1
              clear H1
              by_cases c151 : (t642 == t602 && (t643 == t603 && (t644 == t604 && (t645 == t605)))) = true
              rotate_left
              · rw [if_neg c151] at H
                exact absurd H (by simp)
              rw [if_pos c151] at H
              have c151b0 : (t642 == t602 && (t643 == t603 && (t644 == t604 && (t645 == t605)))) = true := c151
              (try (have c151b1 : decide (t642 = t602 && (t643 == t603 && (t644 == t604 && (t645 == t605)))) = true := by simpa using c151))
              (try (have c151b2 : (t642 == t602 && (t643 == t603 && (t644 == t604 && (t645 == t605)))) = true := by simpa using c151))
              clear c151
              replace H := Option.bind_eq_some_iff.mp H
              obtain ⟨t646, A1520, H⟩ := H
              replace H : (if t646 = true then (some true) else (none)) = some r := H
              have A152 := Aside0.mk A1520
              clear A1520
              by_cases c153 : t646 = true
              rotate_left
              · replace c153 := Bool.eq_false_iff.mpr c153
                subst c153
                have H1 : (none) = some r := by rw [if_neg (show ¬ (false = true) by decide)] at H; exact H
                clear H
                have H := H1
                clear H1
                exact absurd H (by simp)
              subst c153
              have H1 : (some true) = some r := by rw [if_pos rfl] at H; exact H
              clear H
              have H := H1
              clear H1
              obtain rfl := Option.some.inj H
              try go_wp2
              replace BK593 := Kd_ BK593
              replace BK594 := Kd_ BK594
              replace BK595 := Kd_ BK595
              replace BK601 := Kd_ BK601
              replace BK606 := Kd_ BK606
              replace BK611 := Kd_ BK611
              replace HB := Aside0.mk (below_drew1 HB.out)
              refine start_ (n := 69) (S := fun w' => w'.cell? ⟨gb601, 0, none⟩ = some (.int .u64 t597) ∧ w'.cell? ⟨gb601, 1, none⟩ = some (.int .u64 t598) ∧ w'.cell? ⟨gb601, 2, none⟩ = some (.int .u64 t599) ∧ w'.cell? ⟨gb601, 3, none⟩ = some (.int .u64 t600) ∧ w'.cell? ⟨gb606, 0, none⟩ = some (.int .u64 t602) ∧ w'.cell? ⟨gb606, 1, none⟩ = some (.int .u64 t603) ∧ w'.cell? ⟨gb606, 2, none⟩ = some (.int .u64 t604) ∧ w'.cell? ⟨gb606, 3, none⟩ = some (.int .u64 t605) ∧ w'.cell? ⟨gb611, 0, none⟩ = some (.int .u64 t607) ∧ w'.cell? ⟨gb611, 1, none⟩ = some (.int .u64 t608) ∧ w'.cell? ⟨gb611, 2, none⟩ = some (.int .u64 t609) ∧ w'.cell? ⟨gb611, 3, none⟩ = some (.int .u64 t610)) (ds := []) #[false, false, false, false, false, false, false, false, false, false, false, false, false, false, false, false, false, false, false, false, false, false, false, false, false, false, false, false, false, false, false, false, false, false, false, false, false, false, false, false, false, false, false, false, false, false, false, false, false, false, false, false, false, false, false, false, false, false, false, false, false, false, false, false, false, false, false, false, false] (by kernel_rfl) rfl rfl ⟨Km_ BK601 0, Km_ BK601 1, Km_ BK601 2, Km_ BK601 3, Km_ BK606 0, Km_ BK606 1, Km_ BK606 2, Km_ BK606 3, Km_ BK611 0, Km_ BK611 1, Km_ BK611 2, Km_ BK611 3⟩ (fun hHeld => ?_); refine with_tabW tenementlaw06_VecOrder_p0.tab9 tenementlaw06_VecOrder_p0.bits9 (fun HT_ HW_ => ?_)
              generalize wc.drew = w154 at BK593 BK594 BK595 BK601 BK606 BK611 HB hHeld ⊢
              refine Kp_ 0 36 (Bz 69 1) (any_of HT_.out (by kernel_rfl)) ?_
              refine Kp_ 1 37 (Bz 69 3) (any_of HT_.out (by kernel_rfl)) ?_
              refine Ko_ 2 38 (Bz 69 7) (take_ofW HT_.out HW_.out (by kernel_rfl)) hHeld ?_
              refine Ko_ 3 39 (Bz 69 15) (take_ofW HT_.out HW_.out (by kernel_rfl)) hHeld ?_
              refine one_ (i := 4) (N := some 40) (Bz 69 31) rfl rfl (one_of HT_.out (by kernel_rfl)) (by decide) (fun K hK => ?_)
              refine goes_ Tryd.func22 (by kernel_rfl) rfl #[.agg #[.int .u64 t597, .int .u64 t598, .int .u64 t599, .int .u64 t600], .agg #[.int .u64 t597, .int .u64 t598, .int .u64 t599, .int .u64 t600]] (by rfl) rfl rfl (by (try simp only [List.map_toArray, List.map_cons, List.map_nil]); first | done | rfl | (simp only [List.length_drop, List.length_take]; rfl)) ?_
              with_reducible refine (vec_Leq.calls t597 t598 t599 t600 t597 t598 t599 t600 true _ A95.out).mono ?_
              rintro e w155 ⟨rfl, hb⟩
              refine ⟨_, rfl, ?_⟩
              replace BK593 := Kb_ BK593 hb
              replace BK594 := Kb_ BK594 hb
              replace BK595 := Kb_ BK595 hb
              replace BK601 := Kb_ BK601 hb
              replace BK606 := Kb_ BK606 hb
              replace BK611 := Kb_ BK611 hb
              replace HB := Ks_ HB hb
              (try clear hb)
              (try clear hb2)
              (try clear hk)
              (try clear hi)
              refine hK.out _ _ ⟨Km_ BK601 0, Km_ BK601 1, Km_ BK601 2, Km_ BK601 3, Km_ BK606 0, Km_ BK606 1, Km_ BK606 2, Km_ BK606 3, Km_ BK611 0, Km_ BK611 1, Km_ BK611 2, Km_ BK611 3⟩ (fun hHeld => ?_)
              clear hK K
              refine Kn_ 40 ?_
              refine Kp_ 5 41 (Bz 69 63) (any_of HT_.out (by kernel_rfl)) ?_
              refine Kp_ 6 42 (Bz 69 127) (any_of HT_.out (by kernel_rfl)) ?_
              refine Kp_ 7 43 (Bz 69 255) (any_of HT_.out (by kernel_rfl)) ?_
              refine Ko_ 8 44 (Bz 69 511) (take_ofW HT_.out HW_.out (by kernel_rfl)) hHeld ?_
              refine Ko_ 9 45 (Bz 69 1023) (take_ofW HT_.out HW_.out (by kernel_rfl)) hHeld ?_
              refine Kp_ 10 46 (Bz 69 2047) (any_of HT_.out (by kernel_rfl)) ?_
              refine Kp_ 11 47 (Bz 69 4095) (any_of HT_.out (by kernel_rfl)) ?_
              refine Kp_ 12 48 (Bz 69 8191) (any_of HT_.out (by kernel_rfl)) ?_
              refine Kp_ 13 49 (Bz 69 16383) (any_of HT_.out (by kernel_rfl)) ?_
              refine Ko_ 14 50 (Bz 69 32767) (take_ofW HT_.out HW_.out (by kernel_rfl)) hHeld ?_
              refine Ko_ 15 51 (Bz 69 65535) (take_ofW HT_.out HW_.out (by kernel_rfl)) hHeld ?_
              refine one_ (i := 16) (N := some 52) (Bz 69 131071) rfl rfl (one_of HT_.out (by kernel_rfl)) (by decide) (fun K hK => ?_)
              refine goes_ Tryd.func22 (by kernel_rfl) rfl #[.agg #[.int .u64 t597, .int .u64 t598, .int .u64 t599, .int .u64 t600], .agg #[.int .u64 t602, .int .u64 t603, .int .u64 t604, .int .u64 t605]] (by rfl) rfl rfl (by (try simp only [List.map_toArray, List.map_cons, List.map_nil]); first | done | rfl | (simp only [List.length_drop, List.length_take]; rfl)) ?_
              with_reducible refine (vec_Leq.calls t597 t598 t599 t600 t602 t603 t604 t605 true _ A99.out).mono ?_
              rintro e w156 ⟨rfl, hb⟩
              refine ⟨_, rfl, ?_⟩
              replace BK593 := Kb_ BK593 hb
              replace BK594 := Kb_ BK594 hb
              replace BK595 := Kb_ BK595 hb
              replace BK601 := Kb_ BK601 hb
              replace BK606 := Kb_ BK606 hb
              replace BK611 := Kb_ BK611 hb
              replace HB := Ks_ HB hb
              (try clear hb)
              (try clear hb2)
              (try clear hk)
              (try clear hi)
              refine hK.out _ _ ⟨Km_ BK601 0, Km_ BK601 1, Km_ BK601 2, Km_ BK601 3, Km_ BK606 0, Km_ BK606 1, Km_ BK606 2, Km_ BK606 3, Km_ BK611 0, Km_ BK611 1, Km_ BK611 2, Km_ BK611 3⟩ (fun hHeld => ?_)
              clear hK K
              refine Kn_ 52 ?_
              refine Kp_ 17 53 (Bz 69 262143) (any_of HT_.out (by kernel_rfl)) ?_
              refine Kp_ 18 54 (Bz 69 524287) (any_of HT_.out (by kernel_rfl)) ?_
              refine Ko_ 19 55 (Bz 69 1048575) (take_ofW HT_.out HW_.out (by kernel_rfl)) hHeld ?_
              refine Ko_ 20 56 (Bz 69 2097151) (take_ofW HT_.out HW_.out (by kernel_rfl)) hHeld ?_
              refine one_ (i := 21) (N := some 57) (Bz 69 4194303) rfl rfl (one_of HT_.out (by kernel_rfl)) (by decide) (fun K hK => ?_)
              refine goes_ Tryd.func22 (by kernel_rfl) rfl #[.agg #[.int .u64 t602, .int .u64 t603, .int .u64 t604, .int .u64 t605], .agg #[.int .u64 t607, .int .u64 t608, .int .u64 t609, .int .u64 t610]] (by rfl) rfl rfl (by (try simp only [List.map_toArray, List.map_cons, List.map_nil]); first | done | rfl | (simp only [List.length_drop, List.length_take]; rfl)) ?_
              with_reducible refine (vec_Leq.calls t602 t603 t604 t605 t607 t608 t609 t610 false _ A101.out).mono ?_
              rintro e w157 ⟨rfl, hb⟩
              refine ⟨_, rfl, ?_⟩
              replace BK593 := Kb_ BK593 hb
              replace BK594 := Kb_ BK594 hb
              replace BK595 := Kb_ BK595 hb
              replace BK601 := Kb_ BK601 hb
              replace BK606 := Kb_ BK606 hb
              replace BK611 := Kb_ BK611 hb
              replace HB := Ks_ HB hb
              (try clear hb)
              (try clear hb2)
              (try clear hk)
              (try clear hi)
              refine hK.out _ _ ⟨Km_ BK601 0, Km_ BK601 1, Km_ BK601 2, Km_ BK601 3, Km_ BK606 0, Km_ BK606 1, Km_ BK606 2, Km_ BK606 3, Km_ BK611 0, Km_ BK611 1, Km_ BK611 2, Km_ BK611 3⟩ (fun hHeld => ?_)
              clear hK K
              refine Kn_ 57 ?_
              refine Kp_ 22 58 (Bz 69 8388607) (any_of HT_.out (by kernel_rfl)) ?_
              refine Kp_ 23 59 (Bz 69 16777215) (any_of HT_.out (by kernel_rfl)) ?_
              refine Kp_ 24 60 (Bz 69 33554431) (any_of HT_.out (by kernel_rfl)) ?_
              refine pure_ (i := 25) (N := some 61) (v := undef) (a' := ?_) #[true, true, true, true, true, true, true, true, true, true, true, true, true, true, true, true, true, true, true, true, true, true, true, true, true, true, false, false, false, false, false, false, false, false, false, false, false, false, false, false, false, false, false, false, false, false, false, false, false, false, false, false, false, false, false, false, false, false, false, false, false, false, false, false, false, false, false, false, false] rfl rfl (any_of HT_.out (by kernel_rfl)) (fun _ _ _ h => h) (Or.inr ⟨by rfl, rfl⟩) ?_ ?_
              rotate_left
              · simp only [Act.put, List.setIfInBounds_toArray, List.set_cons_zero, List.set_cons_succ, i64_w, i32_w]
                rfl
              refine pure_ (i := 26) (N := some 62) (v := undef) (a' := ?_) #[true, true, true, true, true, true, true, true, true, true, true, true, true, true, true, true, true, true, true, true, true, true, true, true, true, true, true, false, false, false, false, false, false, false, false, false, false, false, false, false, false, false, false, false, false, false, false, false, false, false, false, false, false, false, false, false, false, false, false, false, false, false, false, false, false, false, false, false, false] rfl rfl (any_of HT_.out (by kernel_rfl)) (fun _ _ _ h => h) (Or.inr ⟨by rfl, rfl⟩) ?_ ?_
              rotate_left
              · simp only [Act.put, List.setIfInBounds_toArray, List.set_cons_zero, List.set_cons_succ, i64_w, i32_w]
                rfl
              refine pure_ (i := 27) (N := some 63) (v := undef) (a' := ?_) #[true, true, true, true, true, true, true, true, true, true, true, true, true, true, true, true, true, true, true, true, true, true, true, true, true, true, true, true, false, false, false, false, false, false, false, false, false, false, false, false, false, false, false, false, false, false, false, false, false, false, false, false, false, false, false, false, false, false, false, false, false, false, false, false, false, false, false, false, false] rfl rfl (any_of HT_.out (by kernel_rfl)) (fun _ _ _ h => h) (Or.inr ⟨by rfl, rfl⟩) ?_ ?_
              rotate_left
              · simp only [Act.put, List.setIfInBounds_toArray, List.set_cons_zero, List.set_cons_succ, i64_w, i32_w]
                rfl
              refine Kp_ 28 64 (Bz 69 536870911) (any_of HT_.out (by kernel_rfl)) ?_
              refine Kp_ 29 65 (Bz 69 1073741823) (any_of HT_.out (by kernel_rfl)) ?_
              refine Kp_ 30 66 (Bz 69 2147483647) (any_of HT_.out (by kernel_rfl)) ?_
              refine Kp_ 31 67 (Bz 69 4294967295) (any_of HT_.out (by kernel_rfl)) ?_
              refine Kp_ 32 68 (Bz 69 8589934591) (any_of HT_.out (by kernel_rfl)) ?_
              refine Kp_ 33 69 (Bz 69 17179869183) (any_of HT_.out (by kernel_rfl)) ?_
              refine pure_ (i := 34) (N := some 70) (v := undef) (a' := ?_) #[true, true, true, true, true, true, true, true, true, true, true, true, true, true, true, true, true, true, true, true, true, true, true, true, true, true, true, true, true, true, true, true, true, true, true, false, false, false, false, false, false, false, false, false, false, false, false, false, false, false, false, false, false, false, false, false, false, false, false, false, false, false, false, false, false, false, false, false, false] rfl rfl (any_of HT_.out (by kernel_rfl)) (fun _ _ _ h => h) (Or.inr ⟨by rfl, rfl⟩) ?_ ?_
              rotate_left
              · simp only [Act.put, List.setIfInBounds_toArray, List.set_cons_zero, List.set_cons_succ, i64_w, i32_w]
                rfl
              refine pure_ (i := 35) (N := some 71) (v := undef) (a' := ?_) #[true, true, true, true, true, true, true, true, true, true, true, true, true, true, true, true, true, true, true, true, true, true, true, true, true, true, true, true, true, true, true, true, true, true, true, true, false, false, false, false, false, false, false, false, false, false, false, false, false, false, false, false, false, false, false, false, false, false, false, false, false, false, false, false, false, false, false, false, false] rfl rfl (any_of HT_.out (by kernel_rfl)) (fun _ _ _ h => h) (Or.inr ⟨by rfl, rfl⟩) ?_ ?_
              rotate_left
              · simp only [Act.put, List.setIfInBounds_toArray, List.set_cons_zero, List.set_cons_succ, i64_w, i32_w]
                rfl
              refine pure_ (i := 36) (N := some 72) (v := undef) (a' := ?_) #[true, true, true, true, true, true, true, true, true, true, true, true, true, true, true, true, true, true, true, true, true, true, true, true, true, true, true, true, true, true, true, true, true, true, true, true, true, false, false, false, false, false, false, false, false, false, false, false, false, false, false, false, false, false, false, false, false, false, false, false, false, false, false, false, false, false, false, false, false] rfl rfl (any_of HT_.out (by kernel_rfl)) (fun _ _ _ h => h) (Or.inr ⟨by rfl, rfl⟩) ?_ ?_
              rotate_left
              · simp only [Act.put, List.setIfInBounds_toArray, List.set_cons_zero, List.set_cons_succ, i64_w, i32_w]
                rfl
              refine Kp_ 37 73 (Bz 69 274877906943) (any_of HT_.out (by kernel_rfl)) ?_
              refine Kp_ 38 74 (Bz 69 549755813887) (any_of HT_.out (by kernel_rfl)) ?_
              refine pure_ (i := 39) (N := some 75) (v := undef) (a' := ?_) #[true, true, true, true, true, true, true, true, true, true, true, true, true, true, true, true, true, true, true, true, true, true, true, true, true, true, true, true, true, true, true, true, true, true, true, true, true, true, true, true, false, false, false, false, false, false, false, false, false, false, false, false, false, false, false, false, false, false, false, false, false, false, false, false, false, false, false, false, false] rfl rfl (any_of HT_.out (by kernel_rfl)) (fun _ _ _ h => h) (Or.inr ⟨by rfl, rfl⟩) ?_ ?_
              rotate_left
              · simp only [Act.put, List.setIfInBounds_toArray, List.set_cons_zero, List.set_cons_succ, i64_w, i32_w]
                rfl
              refine pure_ (i := 40) (N := some 76) (v := undef) (a' := ?_) #[true, true, true, true, true, true, true, true, true, true, true, true, true, true, true, true, true, true, true, true, true, true, true, true, true, true, true, true, true, true, true, true, true, true, true, true, true, true, true, true, true, false, false, false, false, false, false, false, false, false, false, false, false, false, false, false, false, false, false, false, false, false, false, false, false, false, false, false, false] rfl rfl (any_of HT_.out (by kernel_rfl)) (fun _ _ _ h => h) (Or.inr ⟨by rfl, rfl⟩) ?_ ?_
              rotate_left
              · simp only [Act.put, List.setIfInBounds_toArray, List.set_cons_zero, List.set_cons_succ, i64_w, i32_w]
                rfl
              refine pure_ (i := 41) (N := some 77) (v := undef) (a' := ?_) #[true, true, true, true, true, true, true, true, true, true, true, true, true, true, true, true, true, true, true, true, true, true, true, true, true, true, true, true, true, true, true, true, true, true, true, true, true, true, true, true, true, true, false, false, false, false, false, false, false, false, false, false, false, false, false, false, false, false, false, false, false, false, false, false, false, false, false, false, false] rfl rfl (any_of HT_.out (by kernel_rfl)) (fun _ _ _ h => h) (Or.inr ⟨by rfl, rfl⟩) ?_ ?_
              rotate_left
              · simp only [Act.put, List.setIfInBounds_toArray, List.set_cons_zero, List.set_cons_succ, i64_w, i32_w]
                rfl
              refine pure_ (i := 42) (N := some 78) (v := undef) (a' := ?_) #[true, true, true, true, true, true, true, true, true, true, true, true, true, true, true, true, true, true, true, true, true, true, true, true, true, true, true, true, true, true, true, true, true, true, true, true, true, true, true, true, true, true, true, false, false, false, false, false, false, false, false, false, false, false, false, false, false, false, false, false, false, false, false, false, false, false, false, false, false] rfl rfl (any_of HT_.out (by kernel_rfl)) (fun _ _ _ h => h) (Or.inr ⟨by rfl, rfl⟩) ?_ ?_
              rotate_left
              · simp only [Act.put, List.setIfInBounds_toArray, List.set_cons_zero, List.set_cons_succ, i64_w, i32_w]
                rfl
              refine Kp_ 43 79 (Bz 69 17592186044415) (any_of HT_.out (by kernel_rfl)) ?_
              refine Kp_ 44 80 (Bz 69 35184372088831) (any_of HT_.out (by kernel_rfl)) ?_
              refine pure_ (i := 45) (N := some 81) (v := undef) (a' := ?_) #[true, true, true, true, true, true, true, true, true, true, true, true, true, true, true, true, true, true, true, true, true, true, true, true, true, true, true, true, true, true, true, true, true, true, true, true, true, true, true, true, true, true, true, true, true, true, false, false, false, false, false, false, false, false, false, false, false, false, false, false, false, false, false, false, false, false, false, false, false] rfl rfl (any_of HT_.out (by kernel_rfl)) (fun _ _ _ h => h) (Or.inr ⟨by rfl, rfl⟩) ?_ ?_
              rotate_left
              · simp only [Act.put, List.setIfInBounds_toArray, List.set_cons_zero, List.set_cons_succ, i64_w, i32_w]
                rfl
              refine pure_ (i := 46) (N := some 82) (v := undef) (a' := ?_) #[true, true, true, true, true, true, true, true, true, true, true, true, true, true, true, true, true, true, true, true, true, true, true, true, true, true, true, true, true, true, true, true, true, true, true, true, true, true, true, true, true, true, true, true, true, true, true, false, false, false, false, false, false, false, false, false, false, false, false, false, false, false, false, false, false, false, false, false, false] rfl rfl (any_of HT_.out (by kernel_rfl)) (fun _ _ _ h => h) (Or.inr ⟨by rfl, rfl⟩) ?_ ?_
              rotate_left
              · simp only [Act.put, List.setIfInBounds_toArray, List.set_cons_zero, List.set_cons_succ, i64_w, i32_w]
                rfl
              refine pure_ (i := 47) (N := some 83) (v := undef) (a' := ?_) #[true, true, true, true, true, true, true, true, true, true, true, true, true, true, true, true, true, true, true, true, true, true, true, true, true, true, true, true, true, true, true, true, true, true, true, true, true, true, true, true, true, true, true, true, true, true, true, true, false, false, false, false, false, false, false, false, false, false, false, false, false, false, false, false, false, false, false, false, false] rfl rfl (any_of HT_.out (by kernel_rfl)) (fun _ _ _ h => h) (Or.inr ⟨by rfl, rfl⟩) ?_ ?_
              rotate_left
              · simp only [Act.put, List.setIfInBounds_toArray, List.set_cons_zero, List.set_cons_succ, i64_w, i32_w]
                rfl
              refine pure_ (i := 48) (N := some 84) (v := undef) (a' := ?_) #[true, true, true, true, true, true, true, true, true, true, true, true, true, true, true, true, true, true, true, true, true, true, true, true, true, true, true, true, true, true, true, true, true, true, true, true, true, true, true, true, true, true, true, true, true, true, true, true, true, false, false, false, false, false, false, false, false, false, false, false, false, false, false, false, false, false, false, false, false] rfl rfl (any_of HT_.out (by kernel_rfl)) (fun _ _ _ h => h) (Or.inr ⟨by rfl, rfl⟩) ?_ ?_
              rotate_left
              · simp only [Act.put, List.setIfInBounds_toArray, List.set_cons_zero, List.set_cons_succ, i64_w, i32_w]
                rfl
              refine pure_ (i := 49) (N := some 85) (v := undef) (a' := ?_) #[true, true, true, true, true, true, true, true, true, true, true, true, true, true, true, true, true, true, true, true, true, true, true, true, true, true, true, true, true, true, true, true, true, true, true, true, true, true, true, true, true, true, true, true, true, true, true, true, true, true, false, false, false, false, false, false, false, false, false, false, false, false, false, false, false, false, false, false, false] rfl rfl (any_of HT_.out (by kernel_rfl)) (fun _ _ _ h => h) (Or.inr ⟨by rfl, rfl⟩) ?_ ?_
              rotate_left
              · simp only [Act.put, List.setIfInBounds_toArray, List.set_cons_zero, List.set_cons_succ, i64_w, i32_w]
                rfl
              refine Kp_ 50 86 (Bz 69 2251799813685247) (any_of HT_.out (by kernel_rfl)) ?_
              refine Kp_ 51 87 (Bz 69 4503599627370495) (any_of HT_.out (by kernel_rfl)) ?_
              refine Kp_ 52 88 (Bz 69 9007199254740991) (any_of HT_.out (by kernel_rfl)) ?_
              refine Ko_ 53 89 (Bz 69 18014398509481983) (take_ofW HT_.out HW_.out (by kernel_rfl)) hHeld ?_
              refine Ko_ 54 90 (Bz 69 36028797018963967) (take_ofW HT_.out HW_.out (by kernel_rfl)) hHeld ?_
              refine Ko_ 56 92 (Bz 69 108086391056891903) (take_ofW HT_.out HW_.out (by kernel_rfl)) hHeld ?_
              refine Ko_ 57 93 (Bz 69 252201579132747775) (take_ofW HT_.out HW_.out (by kernel_rfl)) hHeld ?_
              refine Ko_ 59 95 (Bz 69 828662331436171263) (take_ofW HT_.out HW_.out (by kernel_rfl)) hHeld ?_
              refine one_ (i := 55) (N := some 91) (Bz 69 864691128455135231) rfl rfl (one_of HT_.out (by kernel_rfl)) (by decide) (fun K hK => ?_)
              refine goes_ Tryd.func22 (by kernel_rfl) rfl #[.agg #[.int .u64 t597, .int .u64 t598, .int .u64 t599, .int .u64 t600], .agg #[.int .u64 t602, .int .u64 t603, .int .u64 t604, .int .u64 t605]] (by rfl) rfl rfl (by (try simp only [List.map_toArray, List.map_cons, List.map_nil]); first | done | rfl | (simp only [List.length_drop, List.length_take]; rfl)) ?_
              with_reducible refine (vec_Leq.calls t597 t598 t599 t600 t602 t603 t604 t605 true _ A148.out).mono ?_
              rintro e w158 ⟨rfl, hb⟩
              refine ⟨_, rfl, ?_⟩
              replace BK593 := Kb_ BK593 hb
              replace BK594 := Kb_ BK594 hb
              replace BK595 := Kb_ BK595 hb
              replace BK601 := Kb_ BK601 hb
              replace BK606 := Kb_ BK606 hb
              replace BK611 := Kb_ BK611 hb
              replace HB := Ks_ HB hb
              (try clear hb)
              (try clear hb2)
              (try clear hk)
              (try clear hi)
              refine hK.out _ _ ⟨Km_ BK601 0, Km_ BK601 1, Km_ BK601 2, Km_ BK601 3, Km_ BK606 0, Km_ BK606 1, Km_ BK606 2, Km_ BK606 3, Km_ BK611 0, Km_ BK611 1, Km_ BK611 2, Km_ BK611 3⟩ (fun hHeld => ?_)
              clear hK K
              refine Kn_ 91 ?_
              refine one_ (i := 58) (N := some 94) (Bz 69 1152921504606846975) rfl rfl (one_of HT_.out (by kernel_rfl)) (by decide) (fun K hK => ?_)
              refine goes_ Tryd.func12 (by kernel_rfl) rfl #[.agg #[.int .u64 t597, .int .u64 t598, .int .u64 t599, .int .u64 t600], .agg #[.int .u64 t602, .int .u64 t603, .int .u64 t604, .int .u64 t605]] (by rfl) rfl rfl (by (try simp only [List.map_toArray, List.map_cons, List.map_nil]); first | done | rfl | (simp only [List.length_drop, List.length_take]; rfl)) ?_
              with_reducible refine (vec_Join.calls t597 t598 t599 t600 t602 t603 t604 t605 t642 t643 t644 t645 _ A149.out).mono ?_
              rintro e w159 ⟨rfl, hb⟩
              refine ⟨_, rfl, ?_⟩
              replace BK593 := Kb_ BK593 hb
              replace BK594 := Kb_ BK594 hb
              replace BK595 := Kb_ BK595 hb
              replace BK601 := Kb_ BK601 hb
              replace BK606 := Kb_ BK606 hb
              replace BK611 := Kb_ BK611 hb
              replace HB := Ks_ HB hb
              (try clear hb)
              (try clear hb2)
              (try clear hk)
              (try clear hi)
              refine hK.out _ _ ⟨Km_ BK601 0, Km_ BK601 1, Km_ BK601 2, Km_ BK601 3, Km_ BK606 0, Km_ BK606 1, Km_ BK606 2, Km_ BK606 3, Km_ BK611 0, Km_ BK611 1, Km_ BK611 2, Km_ BK611 3⟩ (fun hHeld => ?_)
              clear hK K
              refine Kn_ 94 ?_
              refine Kp_ 60 96 (Bz 69 2305843009213693951) (any_of HT_.out (by kernel_rfl)) ?_
              refine Kp_ 61 97 (Bz 69 4611686018427387903) (any_of HT_.out (by kernel_rfl)) ?_
              refine Kp_ 62 98 (Bz 69 9223372036854775807) (any_of HT_.out (by kernel_rfl)) ?_
              refine Kp_ 63 99 (Bz 69 18446744073709551615) (any_of HT_.out (by kernel_rfl)) ?_
              refine Kp_ 64 100 (Bz 69 36893488147419103231) (any_of HT_.out (by kernel_rfl)) ?_
              refine Ko_ 65 101 (Bz 69 73786976294838206463) (take_ofW HT_.out HW_.out (by kernel_rfl)) hHeld ?_
              refine one_ (i := 66) (N := some 102) (Bz 69 147573952589676412927) rfl rfl (one_of HT_.out (by kernel_rfl)) (by decide) (fun K hK => ?_)
              refine goes_ Tryd.func22 (by kernel_rfl) rfl #[.agg #[.int .u64 0, .int .u64 0, .int .u64 0, .int .u64 0], .agg #[.int .u64 t597, .int .u64 t598, .int .u64 t599, .int .u64 t600]] (by rfl) rfl rfl (by (try simp only [List.map_toArray, List.map_cons, List.map_nil]); first | done | rfl | (simp only [List.length_drop, List.length_take]; rfl)) ?_
              with_reducible refine (vec_Leq.calls 0 0 0 0 t597 t598 t599 t600 true _ A152.out).mono ?_
              rintro e w160 ⟨rfl, hb⟩
              refine ⟨_, rfl, ?_⟩
              replace BK593 := Kb_ BK593 hb
              replace BK594 := Kb_ BK594 hb
              replace BK595 := Kb_ BK595 hb
              replace BK601 := Kb_ BK601 hb
              replace BK606 := Kb_ BK606 hb
              replace BK611 := Kb_ BK611 hb
              replace HB := Ks_ HB hb
              (try clear hb)
              (try clear hb2)
              (try clear hk)
              (try clear hi)
              refine hK.out _ _ ⟨Km_ BK601 0, Km_ BK601 1, Km_ BK601 2, Km_ BK601 3, Km_ BK606 0, Km_ BK606 1, Km_ BK606 2, Km_ BK606 3, Km_ BK611 0, Km_ BK611 1, Km_ BK611 2, Km_ BK611 3⟩ (fun hHeld => ?_)
              clear hK K
              refine Kn_ 102 ?_
              refine Kp_ 67 103 (Bz 69 295147905179352825855) (any_of HT_.out (by kernel_rfl)) ?_
              refine Kp_ 68 6 (Bz 69 590295810358705651711) (any_of HT_.out (by kernel_rfl)) ?_
              refine done_ (done_of HT_.out (by kernel_rfl)) ?_
              try go_wp2
              go_ret
              exact ⟨Kh_, by repeat (first | (with_reducible first | exact HB.out | apply below_alloc | apply pw_below_drewN | apply below_drew1 | refine below_set ?_ GE593.out | refine below_set ?_ GE594.out | refine below_set ?_ GE595.out | refine below_set ?_ GE601.out | refine below_set ?_ GE606.out | refine below_set ?_ GE611.out) | exact HB.out)⟩
            subst c134
            have H1 : ((vec_Leq.f t597 t598 t599 t600 t602 t603 t604 t605).bind fun t634 => ((vec_Join.f t597 t598 t599 t600 t602 t603 t604 t605).bind fun bt635 => (if t634 = true then (if (bt635.1 == t602 && (bt635.2.1 == t603 && (bt635.2.2.1 == t604 && (bt635.2.2.2 == t605)))) = true then ((vec_Leq.f 0 0 0 0 t597 t598 t599 t600).bind fun t639 => (if t639 = true then (some true) else (none))) else (none)) else (none)))) = some r := by rw [if_pos rfl] at H; exact H
            clear H
            have H := H1
            clear H1
            replace H := Option.bind_eq_some_iff.mp H
            obtain ⟨t634, A1350, H⟩ := H
            replace H : ((vec_Join.f t597 t598 t599 t600 t602 t603 t604 t605).bind fun bt635 => (if t634 = true then (if (bt635.1 == t602 && (bt635.2.1 == t603 && (bt635.2.2.1 == t604 && (bt635.2.2.2 == t605)))) = true then ((vec_Leq.f 0 0 0 0 t597 t598 t599 t600).bind fun t639 => (if t639 = true then (some true) else (none))) else (none)) else (none))) = some r := H
            have A135 := Aside0.mk A1350
            clear A1350
            replace H := Option.bind_eq_some_iff.mp H
            obtain ⟨⟨t635, t636, t637, t638⟩, A1360, H⟩ := H
            replace H : (if t634 = true then (if (t635 == t602 && (t636 == t603 && (t637 == t604 && (t638 == t605)))) = true then ((vec_Leq.f 0 0 0 0 t597 t598 t599 t600).bind fun t639 => (if t639 = true then (some true) else (none))) else (none)) else (none)) = some r := H
            have A136 := Aside0.mk A1360
            clear A1360
            by_cases c137 : t634 = true
            rotate_left
            · replace c137 := Bool.eq_false_iff.mpr c137
              subst c137
              have H1 : (none) = some r := by rw [if_neg (show ¬ (false = true) by decide)] at H; exact H
              clear H
              have H := H1
              clear H1
              exact absurd H (by simp)
            subst c137
            have H1 : (if (t635 == t602 && (t636 == t603 && (t637 == t604 && (t638 == t605)))) = true then ((vec_Leq.f 0 0 0 0 t597 t598 t599 t600).bind fun t639 => (if t639 = true then (some true) else (none))) else (none)) = some r := by rw [if_pos rfl] at H; exact H
            clear H
            have H := H1
            clear H1
            by_cases c138 : (t635 == t602 && (t636 == t603 && (t637 == t604 && (t638 == t605)))) = true
            rotate_left
            · rw [if_neg c138] at H
              exact absurd H (by simp)
            rw [if_pos c138] at H
            have c138b0 : (t635 == t602 && (t636 == t603 && (t637 == t604 && (t638 == t605)))) = true := c138
            (try (have c138b1 : decide (t635 = t602 && (t636 == t603 && (t637 == t604 && (t638 == t605)))) = true := by simpa using c138))
            (try (have c138b2 : (t635 == t602 && (t636 == t603 && (t637 == t604 && (t638 == t605)))) = true := by simpa using c138))
            clear c138
            replace H := Option.bind_eq_some_iff.mp H
            obtain ⟨t639, A1390, H⟩ := H
            replace H : (if t639 = true then (some true) else (none)) = some r := H
            have A139 := Aside0.mk A1390
            clear A1390
            by_cases c140 : t639 = true
            rotate_left
            · replace c140 := Bool.eq_false_iff.mpr c140
              subst c140
              have H1 : (none) = some r := by rw [if_neg (show ¬ (false = true) by decide)] at H; exact H
              clear H
              have H := H1
              clear H1
              exact absurd H (by simp)
            subst c140
            have H1 : (some true) = some r := by rw [if_pos rfl] at H; exact H
            clear H
            have H := H1
            clear H1
            obtain rfl := Option.some.inj H
            try go_wp2
            replace BK593 := Kd_ BK593
            replace BK594 := Kd_ BK594
            replace BK595 := Kd_ BK595
            replace BK601 := Kd_ BK601
            replace BK606 := Kd_ BK606
            replace BK611 := Kd_ BK611
            replace HB := Aside0.mk (below_drew1 HB.out)
            refine start_ (n := 69) (S := fun w' => w'.cell? ⟨gb601, 0, none⟩ = some (.int .u64 t597) ∧ w'.cell? ⟨gb601, 1, none⟩ = some (.int .u64 t598) ∧ w'.cell? ⟨gb601, 2, none⟩ = some (.int .u64 t599) ∧ w'.cell? ⟨gb601, 3, none⟩ = some (.int .u64 t600) ∧ w'.cell? ⟨gb606, 0, none⟩ = some (.int .u64 t602) ∧ w'.cell? ⟨gb606, 1, none⟩ = some (.int .u64 t603) ∧ w'.cell? ⟨gb606, 2, none⟩ = some (.int .u64 t604) ∧ w'.cell? ⟨gb606, 3, none⟩ = some (.int .u64 t605) ∧ w'.cell? ⟨gb611, 0, none⟩ = some (.int .u64 t607) ∧ w'.cell? ⟨gb611, 1, none⟩ = some (.int .u64 t608) ∧ w'.cell? ⟨gb611, 2, none⟩ = some (.int .u64 t609) ∧ w'.cell? ⟨gb611, 3, none⟩ = some (.int .u64 t610)) (ds := []) #[false, false, false, false, false, false, false, false, false, false, false, false, false, false, false, false, false, false, false, false, false, false, false, false, false, false, false, false, false, false, false, false, false, false, false, false, false, false, false, false, false, false, false, false, false, false, false, false, false, false, false, false, false, false, false, false, false, false, false, false, false, false, false, false, false, false, false, false, false] (by kernel_rfl) rfl rfl ⟨Km_ BK601 0, Km_ BK601 1, Km_ BK601 2, Km_ BK601 3, Km_ BK606 0, Km_ BK606 1, Km_ BK606 2, Km_ BK606 3, Km_ BK611 0, Km_ BK611 1, Km_ BK611 2, Km_ BK611 3⟩ (fun hHeld => ?_); refine with_tabW tenementlaw06_VecOrder_p0.tab9 tenementlaw06_VecOrder_p0.bits9 (fun HT_ HW_ => ?_)
            generalize wc.drew = w141 at BK593 BK594 BK595 BK601 BK606 BK611 HB hHeld ⊢
            refine Kp_ 0 36 (Bz 69 1) (any_of HT_.out (by kernel_rfl)) ?_
            refine Kp_ 1 37 (Bz 69 3) (any_of HT_.out (by kernel_rfl)) ?_
            refine Ko_ 2 38 (Bz 69 7) (take_ofW HT_.out HW_.out (by kernel_rfl)) hHeld ?_
            refine Ko_ 3 39 (Bz 69 15) (take_ofW HT_.out HW_.out (by kernel_rfl)) hHeld ?_
            refine one_ (i := 4) (N := some 40) (Bz 69 31) rfl rfl (one_of HT_.out (by kernel_rfl)) (by decide) (fun K hK => ?_)
            refine goes_ Tryd.func22 (by kernel_rfl) rfl #[.agg #[.int .u64 t597, .int .u64 t598, .int .u64 t599, .int .u64 t600], .agg #[.int .u64 t597, .int .u64 t598, .int .u64 t599, .int .u64 t600]] (by rfl) rfl rfl (by (try simp only [List.map_toArray, List.map_cons, List.map_nil]); first | done | rfl | (simp only [List.length_drop, List.length_take]; rfl)) ?_
            with_reducible refine (vec_Leq.calls t597 t598 t599 t600 t597 t598 t599 t600 true _ A95.out).mono ?_
            rintro e w142 ⟨rfl, hb⟩
            refine ⟨_, rfl, ?_⟩
            replace BK593 := Kb_ BK593 hb
            replace BK594 := Kb_ BK594 hb
            replace BK595 := Kb_ BK595 hb
            replace BK601 := Kb_ BK601 hb
            replace BK606 := Kb_ BK606 hb
            replace BK611 := Kb_ BK611 hb
            replace HB := Ks_ HB hb
            (try clear hb)
            (try clear hb2)
            (try clear hk)
            (try clear hi)
            refine hK.out _ _ ⟨Km_ BK601 0, Km_ BK601 1, Km_ BK601 2, Km_ BK601 3, Km_ BK606 0, Km_ BK606 1, Km_ BK606 2, Km_ BK606 3, Km_ BK611 0, Km_ BK611 1, Km_ BK611 2, Km_ BK611 3⟩ (fun hHeld => ?_)
            clear hK K
            refine Kn_ 40 ?_
            refine Kp_ 5 41 (Bz 69 63) (any_of HT_.out (by kernel_rfl)) ?_
            refine Kp_ 6 42 (Bz 69 127) (any_of HT_.out (by kernel_rfl)) ?_
            refine Kp_ 7 43 (Bz 69 255) (any_of HT_.out (by kernel_rfl)) ?_
            refine Ko_ 8 44 (Bz 69 511) (take_ofW HT_.out HW_.out (by kernel_rfl)) hHeld ?_
            refine Ko_ 9 45 (Bz 69 1023) (take_ofW HT_.out HW_.out (by kernel_rfl)) hHeld ?_
            refine Kp_ 10 46 (Bz 69 2047) (any_of HT_.out (by kernel_rfl)) ?_
            refine Kp_ 11 47 (Bz 69 4095) (any_of HT_.out (by kernel_rfl)) ?_
            refine Kp_ 12 48 (Bz 69 8191) (any_of HT_.out (by kernel_rfl)) ?_
            refine Kp_ 13 49 (Bz 69 16383) (any_of HT_.out (by kernel_rfl)) ?_
            refine Ko_ 14 50 (Bz 69 32767) (take_ofW HT_.out HW_.out (by kernel_rfl)) hHeld ?_
            refine Ko_ 15 51 (Bz 69 65535) (take_ofW HT_.out HW_.out (by kernel_rfl)) hHeld ?_
            refine one_ (i := 16) (N := some 52) (Bz 69 131071) rfl rfl (one_of HT_.out (by kernel_rfl)) (by decide) (fun K hK => ?_)
            refine goes_ Tryd.func22 (by kernel_rfl) rfl #[.agg #[.int .u64 t597, .int .u64 t598, .int .u64 t599, .int .u64 t600], .agg #[.int .u64 t602, .int .u64 t603, .int .u64 t604, .int .u64 t605]] (by rfl) rfl rfl (by (try simp only [List.map_toArray, List.map_cons, List.map_nil]); first | done | rfl | (simp only [List.length_drop, List.length_take]; rfl)) ?_
            with_reducible refine (vec_Leq.calls t597 t598 t599 t600 t602 t603 t604 t605 true _ A99.out).mono ?_
            rintro e w143 ⟨rfl, hb⟩
            refine ⟨_, rfl, ?_⟩
            replace BK593 := Kb_ BK593 hb
            replace BK594 := Kb_ BK594 hb
            replace BK595 := Kb_ BK595 hb
            replace BK601 := Kb_ BK601 hb
            replace BK606 := Kb_ BK606 hb
            replace BK611 := Kb_ BK611 hb
            replace HB := Ks_ HB hb
            (try clear hb)
            (try clear hb2)
            (try clear hk)
            (try clear hi)
            refine hK.out _ _ ⟨Km_ BK601 0, Km_ BK601 1, Km_ BK601 2, Km_ BK601 3, Km_ BK606 0, Km_ BK606 1, Km_ BK606 2, Km_ BK606 3, Km_ BK611 0, Km_ BK611 1, Km_ BK611 2, Km_ BK611 3⟩ (fun hHeld => ?_)
            clear hK K
            refine Kn_ 52 ?_
            refine Kp_ 17 53 (Bz 69 262143) (any_of HT_.out (by kernel_rfl)) ?_
            refine Kp_ 18 54 (Bz 69 524287) (any_of HT_.out (by kernel_rfl)) ?_
            refine Ko_ 19 55 (Bz 69 1048575) (take_ofW HT_.out HW_.out (by kernel_rfl)) hHeld ?_
            refine Ko_ 20 56 (Bz 69 2097151) (take_ofW HT_.out HW_.out (by kernel_rfl)) hHeld ?_
            refine one_ (i := 21) (N := some 57) (Bz 69 4194303) rfl rfl (one_of HT_.out (by kernel_rfl)) (by decide) (fun K hK => ?_)
            refine goes_ Tryd.func22 (by kernel_rfl) rfl #[.agg #[.int .u64 t602, .int .u64 t603, .int .u64 t604, .int .u64 t605], .agg #[.int .u64 t607, .int .u64 t608, .int .u64 t609, .int .u64 t610]] (by rfl) rfl rfl (by (try simp only [List.map_toArray, List.map_cons, List.map_nil]); first | done | rfl | (simp only [List.length_drop, List.length_take]; rfl)) ?_
            with_reducible refine (vec_Leq.calls t602 t603 t604 t605 t607 t608 t609 t610 false _ A101.out).mono ?_
            rintro e w144 ⟨rfl, hb⟩
            refine ⟨_, rfl, ?_⟩
            replace BK593 := Kb_ BK593 hb
            replace BK594 := Kb_ BK594 hb
            replace BK595 := Kb_ BK595 hb
            replace BK601 := Kb_ BK601 hb
            replace BK606 := Kb_ BK606 hb
            replace BK611 := Kb_ BK611 hb
            replace HB := Ks_ HB hb
            (try clear hb)
            (try clear hb2)
            (try clear hk)
            (try clear hi)
            refine hK.out _ _ ⟨Km_ BK601 0, Km_ BK601 1, Km_ BK601 2, Km_ BK601 3, Km_ BK606 0, Km_ BK606 1, Km_ BK606 2, Km_ BK606 3, Km_ BK611 0, Km_ BK611 1, Km_ BK611 2, Km_ BK611 3⟩ (fun hHeld => ?_)
            clear hK K
            refine Kn_ 57 ?_
            refine Kp_ 22 58 (Bz 69 8388607) (any_of HT_.out (by kernel_rfl)) ?_
            refine Kp_ 23 59 (Bz 69 16777215) (any_of HT_.out (by kernel_rfl)) ?_
            refine Kp_ 24 60 (Bz 69 33554431) (any_of HT_.out (by kernel_rfl)) ?_
            refine pure_ (i := 25) (N := some 61) (v := undef) (a' := ?_) #[true, true, true, true, true, true, true, true, true, true, true, true, true, true, true, true, true, true, true, true, true, true, true, true, true, true, false, false, false, false, false, false, false, false, false, false, false, false, false, false, false, false, false, false, false, false, false, false, false, false, false, false, false, false, false, false, false, false, false, false, false, false, false, false, false, false, false, false, false] rfl rfl (any_of HT_.out (by kernel_rfl)) (fun _ _ _ h => h) (Or.inr ⟨by rfl, rfl⟩) ?_ ?_
            rotate_left
            · simp only [Act.put, List.setIfInBounds_toArray, List.set_cons_zero, List.set_cons_succ, i64_w, i32_w]
              rfl
            refine pure_ (i := 26) (N := some 62) (v := undef) (a' := ?_) #[true, true, true, true, true, true, true, true, true, true, true, true, true, true, true, true, true, true, true, true, true, true, true, true, true, true, true, false, false, false, false, false, false, false, false, false, false, false, false, false, false, false, false, false, false, false, false, false, false, false, false, false, false, false, false, false, false, false, false, false, false, false, false, false, false, false, false, false, false] rfl rfl (any_of HT_.out (by kernel_rfl)) (fun _ _ _ h => h) (Or.inr ⟨by rfl, rfl⟩) ?_ ?_
            rotate_left
            · simp only [Act.put, List.setIfInBounds_toArray, List.set_cons_zero, List.set_cons_succ, i64_w, i32_w]
              rfl
            refine pure_ (i := 27) (N := some 63) (v := undef) (a' := ?_) #[true, true, true, true, true, true, true, true, true, true, true, true, true, true, true, true, true, true, true, true, true, true, true, true, true, true, true, true, false, false, false, false, false, false, false, false, false, false, false, false, false, false, false, false, false, false, false, false, false, false, false, false, false, false, false, false, false, false, false, false, false, false, false, false, false, false, false, false, false] rfl rfl (any_of HT_.out (by kernel_rfl)) (fun _ _ _ h => h) (Or.inr ⟨by rfl, rfl⟩) ?_ ?_
            rotate_left
            · simp only [Act.put, List.setIfInBounds_toArray, List.set_cons_zero, List.set_cons_succ, i64_w, i32_w]
              rfl
            refine Kp_ 28 64 (Bz 69 536870911) (any_of HT_.out (by kernel_rfl)) ?_
            refine Kp_ 29 65 (Bz 69 1073741823) (any_of HT_.out (by kernel_rfl)) ?_
            refine Kp_ 30 66 (Bz 69 2147483647) (any_of HT_.out (by kernel_rfl)) ?_
            refine Kp_ 31 67 (Bz 69 4294967295) (any_of HT_.out (by kernel_rfl)) ?_
            refine Kp_ 32 68 (Bz 69 8589934591) (any_of HT_.out (by kernel_rfl)) ?_
            refine Kp_ 33 69 (Bz 69 17179869183) (any_of HT_.out (by kernel_rfl)) ?_
            refine Ko_ 34 70 (Bz 69 34359738367) (take_ofW HT_.out HW_.out (by kernel_rfl)) hHeld ?_
            refine Ko_ 35 71 (Bz 69 68719476735) (take_ofW HT_.out HW_.out (by kernel_rfl)) hHeld ?_
            refine Kp_ 36 72 (Bz 69 137438953471) (any_of HT_.out (by kernel_rfl)) ?_
            refine Kp_ 37 73 (Bz 69 274877906943) (any_of HT_.out (by kernel_rfl)) ?_
            refine Kp_ 38 74 (Bz 69 549755813887) (any_of HT_.out (by kernel_rfl)) ?_
            refine pure_ (i := 39) (N := some 75) (v := undef) (a' := ?_) #[true, true, true, true, true, true, true, true, true, true, true, true, true, true, true, true, true, true, true, true, true, true, true, true, true, true, true, true, true, true, true, true, true, true, true, true, true, true, true, true, false, false, false, false, false, false, false, false, false, false, false, false, false, false, false, false, false, false, false, false, false, false, false, false, false, false, false, false, false] rfl rfl (any_of HT_.out (by kernel_rfl)) (fun _ _ _ h => h) (Or.inr ⟨by rfl, rfl⟩) ?_ ?_
            rotate_left
            · simp only [Act.put, List.setIfInBounds_toArray, List.set_cons_zero, List.set_cons_succ, i64_w, i32_w]
              rfl
            refine pure_ (i := 40) (N := some 76) (v := undef) (a' := ?_) #[true, true, true, true, true, true, true, true, true, true, true, true, true, true, true, true, true, true, true, true, true, true, true, true, true, true, true, true, true, true, true, true, true, true, true, true, true, true, true, true, true, false, false, false, false, false, false, false, false, false, false, false, false, false, false, false, false, false, false, false, false, false, false, false, false, false, false, false, false] rfl rfl (any_of HT_.out (by kernel_rfl)) (fun _ _ _ h => h) (Or.inr ⟨by rfl, rfl⟩) ?_ ?_
            rotate_left
            · simp only [Act.put, List.setIfInBounds_toArray, List.set_cons_zero, List.set_cons_succ, i64_w, i32_w]
              rfl
            refine pure_ (i := 41) (N := some 77) (v := undef) (a' := ?_) #[true, true, true, true, true, true, true, true, true, true, true, true, true, true, true, true, true, true, true, true, true, true, true, true, true, true, true, true, true, true, true, true, true, true, true, true, true, true, true, true, true, true, false, false, false, false, false, false, false, false, false, false, false, false, false, false, false, false, false, false, false, false, false, false, false, false, false, false, false] rfl rfl (any_of HT_.out (by kernel_rfl)) (fun _ _ _ h => h) (Or.inr ⟨by rfl, rfl⟩) ?_ ?_
            rotate_left
            · simp only [Act.put, List.setIfInBounds_toArray, List.set_cons_zero, List.set_cons_succ, i64_w, i32_w]
              rfl
            refine pure_ (i := 42) (N := some 78) (v := undef) (a' := ?_) #[true, true, true, true, true, true, true, true, true, true, true, true, true, true, true, true, true, true, true, true, true, true, true, true, true, true, true, true, true, true, true, true, true, true, true, true, true, true, true, true, true, true, true, false, false, false, false, false, false, false, false, false, false, false, false, false, false, false, false, false, false, false, false, false, false, false, false, false, false] rfl rfl (any_of HT_.out (by kernel_rfl)) (fun _ _ _ h => h) (Or.inr ⟨by rfl, rfl⟩) ?_ ?_
            rotate_left
            · simp only [Act.put, List.setIfInBounds_toArray, List.set_cons_zero, List.set_cons_succ, i64_w, i32_w]
              rfl
            refine Kp_ 43 79 (Bz 69 17592186044415) (any_of HT_.out (by kernel_rfl)) ?_
            refine Kp_ 44 80 (Bz 69 35184372088831) (any_of HT_.out (by kernel_rfl)) ?_
            refine pure_ (i := 45) (N := some 81) (v := undef) (a' := ?_) #[true, true, true, true, true, true, true, true, true, true, true, true, true, true, true, true, true, true, true, true, true, true, true, true, true, true, true, true, true, true, true, true, true, true, true, true, true, true, true, true, true, true, true, true, true, true, false, false, false, false, false, false, false, false, false, false, false, false, false, false, false, false, false, false, false, false, false, false, false] rfl rfl (any_of HT_.out (by kernel_rfl)) (fun _ _ _ h => h) (Or.inr ⟨by rfl, rfl⟩) ?_ ?_
            rotate_left
            · simp only [Act.put, List.setIfInBounds_toArray, List.set_cons_zero, List.set_cons_succ, i64_w, i32_w]
              rfl
            refine pure_ (i := 46) (N := some 82) (v := undef) (a' := ?_) #[true, true, true, true, true, true, true, true, true, true, true, true, true, true, true, true, true, true, true, true, true, true, true, true, true, true, true, true, true, true, true, true, true, true, true, true, true, true, true, true, true, true, true, true, true, true, true, false, false, false, false, false, false, false, false, false, false, false, false, false, false, false, false, false, false, false, false, false, false] rfl rfl (any_of HT_.out (by kernel_rfl)) (fun _ _ _ h => h) (Or.inr ⟨by rfl, rfl⟩) ?_ ?_
            rotate_left
            · simp only [Act.put, List.setIfInBounds_toArray, List.set_cons_zero, List.set_cons_succ, i64_w, i32_w]
              rfl
            refine pure_ (i := 47) (N := some 83) (v := undef) (a' := ?_) #[true, true, true, true, true, true, true, true, true, true, true, true, true, true, true, true, true, true, true, true, true, true, true, true, true, true, true, true, true, true, true, true, true, true, true, true, true, true, true, true, true, true, true, true, true, true, true, true, false, false, false, false, false, false, false, false, false, false, false, false, false, false, false, false, false, false, false, false, false] rfl rfl (any_of HT_.out (by kernel_rfl)) (fun _ _ _ h => h) (Or.inr ⟨by rfl, rfl⟩) ?_ ?_
            rotate_left
            · simp only [Act.put, List.setIfInBounds_toArray, List.set_cons_zero, List.set_cons_succ, i64_w, i32_w]
              rfl
            refine pure_ (i := 48) (N := some 84) (v := undef) (a' := ?_) #[true, true, true, true, true, true, true, true, true, true, true, true, true, true, true, true, true, true, true, true, true, true, true, true, true, true, true, true, true, true, true, true, true, true, true, true, true, true, true, true, true, true, true, true, true, true, true, true, true, false, false, false, false, false, false, false, false, false, false, false, false, false, false, false, false, false, false, false, false] rfl rfl (any_of HT_.out (by kernel_rfl)) (fun _ _ _ h => h) (Or.inr ⟨by rfl, rfl⟩) ?_ ?_
            rotate_left
            · simp only [Act.put, List.setIfInBounds_toArray, List.set_cons_zero, List.set_cons_succ, i64_w, i32_w]
              rfl
            refine pure_ (i := 49) (N := some 85) (v := undef) (a' := ?_) #[true, true, true, true, true, true, true, true, true, true, true, true, true, true, true, true, true, true, true, true, true, true, true, true, true, true, true, true, true, true, true, true, true, true, true, true, true, true, true, true, true, true, true, true, true, true, true, true, true, true, false, false, false, false, false, false, false, false, false, false, false, false, false, false, false, false, false, false, false] rfl rfl (any_of HT_.out (by kernel_rfl)) (fun _ _ _ h => h) (Or.inr ⟨by rfl, rfl⟩) ?_ ?_
            rotate_left
            · simp only [Act.put, List.setIfInBounds_toArray, List.set_cons_zero, List.set_cons_succ, i64_w, i32_w]
              rfl
            refine Kp_ 50 86 (Bz 69 2251799813685247) (any_of HT_.out (by kernel_rfl)) ?_
            refine Kp_ 51 87 (Bz 69 4503599627370495) (any_of HT_.out (by kernel_rfl)) ?_
            refine Kp_ 52 88 (Bz 69 9007199254740991) (any_of HT_.out (by kernel_rfl)) ?_
            refine Ko_ 53 89 (Bz 69 18014398509481983) (take_ofW HT_.out HW_.out (by kernel_rfl)) hHeld ?_
            refine Ko_ 54 90 (Bz 69 36028797018963967) (take_ofW HT_.out HW_.out (by kernel_rfl)) hHeld ?_
            refine Ko_ 56 92 (Bz 69 108086391056891903) (take_ofW HT_.out HW_.out (by kernel_rfl)) hHeld ?_
            refine Ko_ 57 93 (Bz 69 252201579132747775) (take_ofW HT_.out HW_.out (by kernel_rfl)) hHeld ?_
            refine Ko_ 59 95 (Bz 69 828662331436171263) (take_ofW HT_.out HW_.out (by kernel_rfl)) hHeld ?_
            refine one_ (i := 55) (N := some 91) (Bz 69 864691128455135231) rfl rfl (one_of HT_.out (by kernel_rfl)) (by decide) (fun K hK => ?_)
            refine goes_ Tryd.func22 (by kernel_rfl) rfl #[.agg #[.int .u64 t597, .int .u64 t598, .int .u64 t599, .int .u64 t600], .agg #[.int .u64 t602, .int .u64 t603, .int .u64 t604, .int .u64 t605]] (by rfl) rfl rfl (by (try simp only [List.map_toArray, List.map_cons, List.map_nil]); first | done | rfl | (simp only [List.length_drop, List.length_take]; rfl)) ?_
            with_reducible refine (vec_Leq.calls t597 t598 t599 t600 t602 t603 t604 t605 true _ A135.out).mono ?_
            rintro e w145 ⟨rfl, hb⟩
            refine ⟨_, rfl, ?_⟩
            replace BK593 := Kb_ BK593 hb
            replace BK594 := Kb_ BK594 hb
            replace BK595 := Kb_ BK595 hb
            replace BK601 := Kb_ BK601 hb
            replace BK606 := Kb_ BK606 hb
            replace BK611 := Kb_ BK611 hb
            replace HB := Ks_ HB hb
            (try clear hb)
            (try clear hb2)
            (try clear hk)
            (try clear hi)
            refine hK.out _ _ ⟨Km_ BK601 0, Km_ BK601 1, Km_ BK601 2, Km_ BK601 3, Km_ BK606 0, Km_ BK606 1, Km_ BK606 2, Km_ BK606 3, Km_ BK611 0, Km_ BK611 1, Km_ BK611 2, Km_ BK611 3⟩ (fun hHeld => ?_)
            clear hK K
            refine Kn_ 91 ?_
            refine one_ (i := 58) (N := some 94) (Bz 69 1152921504606846975) rfl rfl (one_of HT_.out (by kernel_rfl)) (by decide) (fun K hK => ?_)
            refine goes_ Tryd.func12 (by kernel_rfl) rfl #[.agg #[.int .u64 t597, .int .u64 t598, .int .u64 t599, .int .u64 t600], .agg #[.int .u64 t602, .int .u64 t603, .int .u64 t604, .int .u64 t605]] (by rfl) rfl rfl (by (try simp only [List.map_toArray, List.map_cons, List.map_nil]); first | done | rfl | (simp only [List.length_drop, List.length_take]; rfl)) ?_
            with_reducible refine (vec_Join.calls t597 t598 t599 t600 t602 t603 t604 t605 t635 t636 t637 t638 _ A136.out).mono ?_
            rintro e w146 ⟨rfl, hb⟩
            refine ⟨_, rfl, ?_⟩
            replace BK593 := Kb_ BK593 hb
            replace BK594 := Kb_ BK594 hb
            replace BK595 := Kb_ BK595 hb
            replace BK601 := Kb_ BK601 hb
            replace BK606 := Kb_ BK606 hb
            replace BK611 := Kb_ BK611 hb
            replace HB := Ks_ HB hb
            (try clear hb)
            (try clear hb2)
            (try clear hk)
            (try clear hi)
            refine hK.out _ _ ⟨Km_ BK601 0, Km_ BK601 1, Km_ BK601 2, Km_ BK601 3, Km_ BK606 0, Km_ BK606 1, Km_ BK606 2, Km_ BK606 3, Km_ BK611 0, Km_ BK611 1, Km_ BK611 2, Km_ BK611 3⟩ (fun hHeld => ?_)
            clear hK K
            refine Kn_ 94 ?_
            refine Kp_ 60 96 (Bz 69 2305843009213693951) (any_of HT_.out (by kernel_rfl)) ?_
            refine Kp_ 61 97 (Bz 69 4611686018427387903) (any_of HT_.out (by kernel_rfl)) ?_
            refine Kp_ 62 98 (Bz 69 9223372036854775807) (any_of HT_.out (by kernel_rfl)) ?_
            refine Kp_ 63 99 (Bz 69 18446744073709551615) (any_of HT_.out (by kernel_rfl)) ?_
            refine Kp_ 64 100 (Bz 69 36893488147419103231) (any_of HT_.out (by kernel_rfl)) ?_
            refine Ko_ 65 101 (Bz 69 73786976294838206463) (take_ofW HT_.out HW_.out (by kernel_rfl)) hHeld ?_
            refine one_ (i := 66) (N := some 102) (Bz 69 147573952589676412927) rfl rfl (one_of HT_.out (by kernel_rfl)) (by decide) (fun K hK => ?_)
            refine goes_ Tryd.func22 (by kernel_rfl) rfl #[.agg #[.int .u64 0, .int .u64 0, .int .u64 0, .int .u64 0], .agg #[.int .u64 t597, .int .u64 t598, .int .u64 t599, .int .u64 t600]] (by rfl) rfl rfl (by (try simp only [List.map_toArray, List.map_cons, List.map_nil]); first | done | rfl | (simp only [List.length_drop, List.length_take]; rfl)) ?_
            with_reducible refine (vec_Leq.calls 0 0 0 0 t597 t598 t599 t600 true _ A139.out).mono ?_
            rintro e w147 ⟨rfl, hb⟩
            refine ⟨_, rfl, ?_⟩
            replace BK593 := Kb_ BK593 hb
            replace BK594 := Kb_ BK594 hb
            replace BK595 := Kb_ BK595 hb
            replace BK601 := Kb_ BK601 hb
            replace BK606 := Kb_ BK606 hb
            replace BK611 := Kb_ BK611 hb
            replace HB := Ks_ HB hb
            (try clear hb)
            (try clear hb2)
            (try clear hk)
            (try clear hi)
            refine hK.out _ _ ⟨Km_ BK601 0, Km_ BK601 1, Km_ BK601 2, Km_ BK601 3, Km_ BK606 0, Km_ BK606 1, Km_ BK606 2, Km_ BK606 3, Km_ BK611 0, Km_ BK611 1, Km_ BK611 2, Km_ BK611 3⟩ (fun hHeld => ?_)
            clear hK K
            refine Kn_ 102 ?_
            refine Kp_ 67 103 (Bz 69 295147905179352825855) (any_of HT_.out (by kernel_rfl)) ?_
            refine Kp_ 68 6 (Bz 69 590295810358705651711) (any_of HT_.out (by kernel_rfl)) ?_
            refine done_ (done_of HT_.out (by kernel_rfl)) ?_
            try go_wp2
            go_ret
            exact ⟨Kh_, by repeat (first | (with_reducible first | exact HB.out | apply below_alloc | apply pw_below_drewN | apply below_drew1 | refine below_set ?_ GE593.out | refine below_set ?_ GE594.out | refine below_set ?_ GE595.out | refine below_set ?_ GE601.out | refine below_set ?_ GE606.out | refine below_set ?_ GE611.out) | exact HB.out)⟩
          subst c102
          have H1 : ((vec_Leq.f t597 t598 t599 t600 t607 t608 t609 t610).bind fun t619 => (if t619 = true then (if x12_70 = true then ((vec_Leq.f t597 t598 t599 t600 t602 t603 t604 t605).bind fun t620 => ((vec_Join.f t597 t598 t599 t600 t602 t603 t604 t605).bind fun bt621 => (if t620 = true then (if (bt621.1 == t602 && (bt621.2.1 == t603 && (bt621.2.2.1 == t604 && (bt621.2.2.2 == t605)))) = true then ((vec_Leq.f 0 0 0 0 t597 t598 t599 t600).bind fun t625 => (if t625 = true then (some true) else (none))) else (none)) else (none)))) else ((vec_Leq.f t597 t598 t599 t600 t602 t603 t604 t605).bind fun t627 => ((vec_Join.f t597 t598 t599 t600 t602 t603 t604 t605).bind fun bt628 => (if t627 = true then (if (bt628.1 == t602 && (bt628.2.1 == t603 && (bt628.2.2.1 == t604 && (bt628.2.2.2 == t605)))) = true then ((vec_Leq.f 0 0 0 0 t597 t598 t599 t600).bind fun t632 => (if t632 = true then (some true) else (none))) else (none)) else (none))))) else (none))) = some r := by rw [if_pos rfl] at H; exact H
          clear H
          have H := H1
          clear H1
          replace H := Option.bind_eq_some_iff.mp H
          obtain ⟨t619, A1030, H⟩ := H
          replace H : (if t619 = true then (if x12_70 = true then ((vec_Leq.f t597 t598 t599 t600 t602 t603 t604 t605).bind fun t620 => ((vec_Join.f t597 t598 t599 t600 t602 t603 t604 t605).bind fun bt621 => (if t620 = true then (if (bt621.1 == t602 && (bt621.2.1 == t603 && (bt621.2.2.1 == t604 && (bt621.2.2.2 == t605)))) = true then ((vec_Leq.f 0 0 0 0 t597 t598 t599 t600).bind fun t625 => (if t625 = true then (some true) else (none))) else (none)) else (none)))) else ((vec_Leq.f t597 t598 t599 t600 t602 t603 t604 t605).bind fun t627 => ((vec_Join.f t597 t598 t599 t600 t602 t603 t604 t605).bind fun bt628 => (if t627 = true then (if (bt628.1 == t602 && (bt628.2.1 == t603 && (bt628.2.2.1 == t604 && (bt628.2.2.2 == t605)))) = true then ((vec_Leq.f 0 0 0 0 t597 t598 t599 t600).bind fun t632 => (if t632 = true then (some true) else (none))) else (none)) else (none))))) else (none)) = some r := H
          have A103 := Aside0.mk A1030
          clear A1030
          by_cases c104 : t619 = true
          rotate_left
          · replace c104 := Bool.eq_false_iff.mpr c104
            subst c104
            have H1 : (none) = some r := by rw [if_neg (show ¬ (false = true) by decide)] at H; exact H
            clear H
            have H := H1
            clear H1
            exact absurd H (by simp)
          subst c104
          have H1 : (if x12_70 = true then ((vec_Leq.f t597 t598 t599 t600 t602 t603 t604 t605).bind fun t620 => ((vec_Join.f t597 t598 t599 t600 t602 t603 t604 t605).bind fun bt621 => (if t620 = true then (if (bt621.1 == t602 && (bt621.2.1 == t603 && (bt621.2.2.1 == t604 && (bt621.2.2.2 == t605)))) = true then ((vec_Leq.f 0 0 0 0 t597 t598 t599 t600).bind fun t625 => (if t625 = true then (some true) else (none))) else (none)) else (none)))) else ((vec_Leq.f t597 t598 t599 t600 t602 t603 t604 t605).bind fun t627 => ((vec_Join.f t597 t598 t599 t600 t602 t603 t604 t605).bind fun bt628 => (if t627 = true then (if (bt628.1 == t602 && (bt628.2.1 == t603 && (bt628.2.2.1 == t604 && (bt628.2.2.2 == t605)))) = true then ((vec_Leq.f 0 0 0 0 t597 t598 t599 t600).bind fun t632 => (if t632 = true then (some true) else (none))) else (none)) else (none))))) = some r := by rw [if_pos rfl] at H; exact H
          clear H
          have H := H1
          clear H1
          by_cases c105 : x12_70 = true
          rotate_left
          · replace c105 := Bool.eq_false_iff.mpr c105
            subst c105
            have H1 : ((vec_Leq.f t597 t598 t599 t600 t602 t603 t604 t605).bind fun t627 => ((vec_Join.f t597 t598 t599 t600 t602 t603 t604 t605).bind fun bt628 => (if t627 = true then (if (bt628.1 == t602 && (bt628.2.1 == t603 && (bt628.2.2.1 == t604 && (bt628.2.2.2 == t605)))) = true then ((vec_Leq.f 0 0 0 0 t597 t598 t599 t600).bind fun t632 => (if t632 = true then (some true) else (none))) else (none)) else (none)))) = some r := by rw [if_neg (show ¬ (false = true) by decide)] at H; exact H
            clear H
            have H := H1
            clear H1
            replace H := Option.bind_eq_some_iff.mp H
            obtain ⟨t627, A1200, H⟩ := H
            replace H : ((vec_Join.f t597 t598 t599 t600 t602 t603 t604 t605).bind fun bt628 => (if t627 = true then (if (bt628.1 == t602 && (bt628.2.1 == t603 && (bt628.2.2.1 == t604 && (bt628.2.2.2 == t605)))) = true then ((vec_Leq.f 0 0 0 0 t597 t598 t599 t600).bind fun t632 => (if t632 = true then (some true) else (none))) else (none)) else (none))) = some r := H
            have A120 := Aside0.mk A1200
            clear A1200
            replace H := Option.bind_eq_some_iff.mp H
            obtain ⟨⟨t628, t629, t630, t631⟩, A1210, H⟩ := H
            replace H : (if t627 = true then (if (t628 == t602 && (t629 == t603 && (t630 == t604 && (t631 == t605)))) = true then ((vec_Leq.f 0 0 0 0 t597 t598 t599 t600).bind fun t632 => (if t632 = true then (some true) else (none))) else (none)) else (none)) = some r := H
            have A121 := Aside0.mk A1210
            clear A1210
            by_cases c122 : t627 = true
            rotate_left
            · replace c122 := Bool.eq_false_iff.mpr c122
              subst c122
              have H1 : (none) = some r := by rw [if_neg (show ¬ (false = true) by decide)] at H; exact H
              clear H
              have H := H1
              clear H1
              exact absurd H (by simp)
            subst c122
            have H1 : (if (t628 == t602 && (t629 == t603 && (t630 == t604 && (t631 == t605)))) = true then ((vec_Leq.f 0 0 0 0 t597 t598 t599 t600).bind fun t632 => (if t632 = true then (some true) else (none))) else (none)) = some r := by rw [if_pos rfl] at H; exact H
            clear H
            have H := H1
            clear H1
            by_cases c123 : (t628 == t602 && (t629 == t603 && (t630 == t604 && (t631 == t605)))) = true
            rotate_left
            · rw [if_neg c123] at H
              exact absurd H (by simp)
            rw [if_pos c123] at H
            have c123b0 : (t628 == t602 && (t629 == t603 && (t630 == t604 && (t631 == t605)))) = true := c123
            (try (have c123b1 : decide (t628 = t602 && (t629 == t603 && (t630 == t604 && (t631 == t605)))) = true := by simpa using c123))
            (try (have c123b2 : (t628 == t602 && (t629 == t603 && (t630 == t604 && (t631 == t605)))) = true := by simpa using c123))
            clear c123
            replace H := Option.bind_eq_some_iff.mp H
            obtain ⟨t632, A1240, H⟩ := H
            replace H : (if t632 = true then (some true) else (none)) = some r := H
            have A124 := Aside0.mk A1240
            clear A1240
            by_cases c125 : t632 = true
            rotate_left
            · replace c125 := Bool.eq_false_iff.mpr c125
              subst c125
              have H1 : (none) = some r := by rw [if_neg (show ¬ (false = true) by decide)] at H; exact H
              clear H
              have H := H1
              clear H1
              exact absurd H (by simp)
            subst c125
            have H1 : (some true) = some r := by rw [if_pos rfl] at H; exact H
            clear H
            have H := H1
            clear H1
            obtain rfl := Option.some.inj H
            try go_wp2
            replace BK593 := Kd_ BK593
            replace BK594 := Kd_ BK594
            replace BK595 := Kd_ BK595
            replace BK601 := Kd_ BK601
            replace BK606 := Kd_ BK606
            replace BK611 := Kd_ BK611
            replace HB := Aside0.mk (below_drew1 HB.out)
            refine start_ (n := 69) (S := fun w' => w'.cell? ⟨gb601, 0, none⟩ = some (.int .u64 t597) ∧ w'.cell? ⟨gb601, 1, none⟩ = some (.int .u64 t598) ∧ w'.cell? ⟨gb601, 2, none⟩ = some (.int .u64 t599) ∧ w'.cell? ⟨gb601, 3, none⟩ = some (.int .u64 t600) ∧ w'.cell? ⟨gb606, 0, none⟩ = some (.int .u64 t602) ∧ w'.cell? ⟨gb606, 1, none⟩ = some (.int .u64 t603) ∧ w'.cell? ⟨gb606, 2, none⟩ = some (.int .u64 t604) ∧ w'.cell? ⟨gb606, 3, none⟩ = some (.int .u64 t605) ∧ w'.cell? ⟨gb611, 0, none⟩ = some (.int .u64 t607) ∧ w'.cell? ⟨gb611, 1, none⟩ = some (.int .u64 t608) ∧ w'.cell? ⟨gb611, 2, none⟩ = some (.int .u64 t609) ∧ w'.cell? ⟨gb611, 3, none⟩ = some (.int .u64 t610)) (ds := []) #[false, false, false, false, false, false, false, false, false, false, false, false, false, false, false, false, false, false, false, false, false, false, false, false, false, false, false, false, false, false, false, false, false, false, false, false, false, false, false, false, false, false, false, false, false, false, false, false, false, false, false, false, false, false, false, false, false, false, false, false, false, false, false, false, false, false, false, false, false] (by kernel_rfl) rfl rfl ⟨Km_ BK601 0, Km_ BK601 1, Km_ BK601 2, Km_ BK601 3, Km_ BK606 0, Km_ BK606 1, Km_ BK606 2, Km_ BK606 3, Km_ BK611 0, Km_ BK611 1, Km_ BK611 2, Km_ BK611 3⟩ (fun hHeld => ?_); refine with_tabW tenementlaw06_VecOrder_p0.tab9 tenementlaw06_VecOrder_p0.bits9 (fun HT_ HW_ => ?_)
            generalize wc.drew = w126 at BK593 BK594 BK595 BK601 BK606 BK611 HB hHeld ⊢
            refine Kp_ 0 36 (Bz 69 1) (any_of HT_.out (by kernel_rfl)) ?_
            refine Kp_ 1 37 (Bz 69 3) (any_of HT_.out (by kernel_rfl)) ?_
            refine Ko_ 2 38 (Bz 69 7) (take_ofW HT_.out HW_.out (by kernel_rfl)) hHeld ?_
            refine Ko_ 3 39 (Bz 69 15) (take_ofW HT_.out HW_.out (by kernel_rfl)) hHeld ?_
            refine one_ (i := 4) (N := some 40) (Bz 69 31) rfl rfl (one_of HT_.out (by kernel_rfl)) (by decide) (fun K hK => ?_)
            refine goes_ Tryd.func22 (by kernel_rfl) rfl #[.agg #[.int .u64 t597, .int .u64 t598, .int .u64 t599, .int .u64 t600], .agg #[.int .u64 t597, .int .u64 t598, .int .u64 t599, .int .u64 t600]] (by rfl) rfl rfl (by (try simp only [List.map_toArray, List.map_cons, List.map_nil]); first | done | rfl | (simp only [List.length_drop, List.length_take]; rfl)) ?_
            with_reducible refine (vec_Leq.calls t597 t598 t599 t600 t597 t598 t599 t600 true _ A95.out).mono ?_
            rintro e w127 ⟨rfl, hb⟩
            refine ⟨_, rfl, ?_⟩
            replace BK593 := Kb_ BK593 hb
            replace BK594 := Kb_ BK594 hb
            replace BK595 := Kb_ BK595 hb
            replace BK601 := Kb_ BK601 hb
            replace BK606 := Kb_ BK606 hb
            replace BK611 := Kb_ BK611 hb
            replace HB := Ks_ HB hb
            (try clear hb)
            (try clear hb2)
            (try clear hk)
            (try clear hi)
            refine hK.out _ _ ⟨Km_ BK601 0, Km_ BK601 1, Km_ BK601 2, Km_ BK601 3, Km_ BK606 0, Km_ BK606 1, Km_ BK606 2, Km_ BK606 3, Km_ BK611 0, Km_ BK611 1, Km_ BK611 2, Km_ BK611 3⟩ (fun hHeld => ?_)
            clear hK K
            refine Kn_ 40 ?_
            refine Kp_ 5 41 (Bz 69 63) (any_of HT_.out (by kernel_rfl)) ?_
            refine Kp_ 6 42 (Bz 69 127) (any_of HT_.out (by kernel_rfl)) ?_
            refine Kp_ 7 43 (Bz 69 255) (any_of HT_.out (by kernel_rfl)) ?_
            refine Ko_ 8 44 (Bz 69 511) (take_ofW HT_.out HW_.out (by kernel_rfl)) hHeld ?_
            refine Ko_ 9 45 (Bz 69 1023) (take_ofW HT_.out HW_.out (by kernel_rfl)) hHeld ?_
            refine Kp_ 10 46 (Bz 69 2047) (any_of HT_.out (by kernel_rfl)) ?_
            refine Kp_ 11 47 (Bz 69 4095) (any_of HT_.out (by kernel_rfl)) ?_
            refine Kp_ 12 48 (Bz 69 8191) (any_of HT_.out (by kernel_rfl)) ?_
            refine Kp_ 13 49 (Bz 69 16383) (any_of HT_.out (by kernel_rfl)) ?_
            refine Ko_ 14 50 (Bz 69 32767) (take_ofW HT_.out HW_.out (by kernel_rfl)) hHeld ?_
            refine Ko_ 15 51 (Bz 69 65535) (take_ofW HT_.out HW_.out (by kernel_rfl)) hHeld ?_
            refine one_ (i := 16) (N := some 52) (Bz 69 131071) rfl rfl (one_of HT_.out (by kernel_rfl)) (by decide) (fun K hK => ?_)
            refine goes_ Tryd.func22 (by kernel_rfl) rfl #[.agg #[.int .u64 t597, .int .u64 t598, .int .u64 t599, .int .u64 t600], .agg #[.int .u64 t602, .int .u64 t603, .int .u64 t604, .int .u64 t605]] (by rfl) rfl rfl (by (try simp only [List.map_toArray, List.map_cons, List.map_nil]); first | done | rfl | (simp only [List.length_drop, List.length_take]; rfl)) ?_
            with_reducible refine (vec_Leq.calls t597 t598 t599 t600 t602 t603 t604 t605 true _ A99.out).mono ?_
            rintro e w128 ⟨rfl, hb⟩
            refine ⟨_, rfl, ?_⟩
            replace BK593 := Kb_ BK593 hb
            replace BK594 := Kb_ BK594 hb
            replace BK595 := Kb_ BK595 hb
            replace BK601 := Kb_ BK601 hb
            replace BK606 := Kb_ BK606 hb
            replace BK611 := Kb_ BK611 hb
            replace HB := Ks_ HB hb
            (try clear hb)
            (try clear hb2)
            (try clear hk)
            (try clear hi)
            refine hK.out _ _ ⟨Km_ BK601 0, Km_ BK601 1, Km_ BK601 2, Km_ BK601 3, Km_ BK606 0, Km_ BK606 1, Km_ BK606 2, Km_ BK606 3, Km_ BK611 0, Km_ BK611 1, Km_ BK611 2, Km_ BK611 3⟩ (fun hHeld => ?_)
            clear hK K
            refine Kn_ 52 ?_
            refine Kp_ 17 53 (Bz 69 262143) (any_of HT_.out (by kernel_rfl)) ?_
            refine Kp_ 18 54 (Bz 69 524287) (any_of HT_.out (by kernel_rfl)) ?_
            refine Ko_ 19 55 (Bz 69 1048575) (take_ofW HT_.out HW_.out (by kernel_rfl)) hHeld ?_
            refine Ko_ 20 56 (Bz 69 2097151) (take_ofW HT_.out HW_.out (by kernel_rfl)) hHeld ?_
            refine one_ (i := 21) (N := some 57) (Bz 69 4194303) rfl rfl (one_of HT_.out (by kernel_rfl)) (by decide) (fun K hK => ?_)
            refine goes_ Tryd.func22 (by kernel_rfl) rfl #[.agg #[.int .u64 t602, .int .u64 t603, .int .u64 t604, .int .u64 t605], .agg #[.int .u64 t607, .int .u64 t608, .int .u64 t609, .int .u64 t610]] (by rfl) rfl rfl (by (try simp only [List.map_toArray, List.map_cons, List.map_nil]); first | done | rfl | (simp only [List.length_drop, List.length_take]; rfl)) ?_
            with_reducible refine (vec_Leq.calls t602 t603 t604 t605 t607 t608 t609 t610 true _ A101.out).mono ?_
            rintro e w129 ⟨rfl, hb⟩
            refine ⟨_, rfl, ?_⟩
            replace BK593 := Kb_ BK593 hb
            replace BK594 := Kb_ BK594 hb
            replace BK595 := Kb_ BK595 hb
            replace BK601 := Kb_ BK601 hb
            replace BK606 := Kb_ BK606 hb
            replace BK611 := Kb_ BK611 hb
            replace HB := Ks_ HB hb
            (try clear hb)
            (try clear hb2)
            (try clear hk)
            (try clear hi)
            refine hK.out _ _ ⟨Km_ BK601 0, Km_ BK601 1, Km_ BK601 2, Km_ BK601 3, Km_ BK606 0, Km_ BK606 1, Km_ BK606 2, Km_ BK606 3, Km_ BK611 0, Km_ BK611 1, Km_ BK611 2, Km_ BK611 3⟩ (fun hHeld => ?_)
            clear hK K
            refine Kn_ 57 ?_
            refine Kp_ 22 58 (Bz 69 8388607) (any_of HT_.out (by kernel_rfl)) ?_
            refine Kp_ 23 59 (Bz 69 16777215) (any_of HT_.out (by kernel_rfl)) ?_
            refine Kp_ 24 60 (Bz 69 33554431) (any_of HT_.out (by kernel_rfl)) ?_
            refine Ko_ 25 61 (Bz 69 67108863) (take_ofW HT_.out HW_.out (by kernel_rfl)) hHeld ?_
            refine Ko_ 26 62 (Bz 69 134217727) (take_ofW HT_.out HW_.out (by kernel_rfl)) hHeld ?_
            refine one_ (i := 27) (N := some 63) (Bz 69 268435455) rfl rfl (one_of HT_.out (by kernel_rfl)) (by decide) (fun K hK => ?_)
            refine goes_ Tryd.func22 (by kernel_rfl) rfl #[.agg #[.int .u64 t597, .int .u64 t598, .int .u64 t599, .int .u64 t600], .agg #[.int .u64 t607, .int .u64 t608, .int .u64 t609, .int .u64 t610]] (by rfl) rfl rfl (by (try simp only [List.map_toArray, List.map_cons, List.map_nil]); first | done | rfl | (simp only [List.length_drop, List.length_take]; rfl)) ?_
            with_reducible refine (vec_Leq.calls t597 t598 t599 t600 t607 t608 t609 t610 true _ A103.out).mono ?_
            rintro e w130 ⟨rfl, hb⟩
            refine ⟨_, rfl, ?_⟩
            replace BK593 := Kb_ BK593 hb
            replace BK594 := Kb_ BK594 hb
            replace BK595 := Kb_ BK595 hb
            replace BK601 := Kb_ BK601 hb
            replace BK606 := Kb_ BK606 hb
            replace BK611 := Kb_ BK611 hb
            replace HB := Ks_ HB hb
            (try clear hb)
            (try clear hb2)
            (try clear hk)
            (try clear hi)
            refine hK.out _ _ ⟨Km_ BK601 0, Km_ BK601 1, Km_ BK601 2, Km_ BK601 3, Km_ BK606 0, Km_ BK606 1, Km_ BK606 2, Km_ BK606 3, Km_ BK611 0, Km_ BK611 1, Km_ BK611 2, Km_ BK611 3⟩ (fun hHeld => ?_)
            clear hK K
            refine Kn_ 63 ?_
            refine Kp_ 28 64 (Bz 69 536870911) (any_of HT_.out (by kernel_rfl)) ?_
            refine Kp_ 29 65 (Bz 69 1073741823) (any_of HT_.out (by kernel_rfl)) ?_
            refine Kp_ 30 66 (Bz 69 2147483647) (any_of HT_.out (by kernel_rfl)) ?_
            refine Kp_ 31 67 (Bz 69 4294967295) (any_of HT_.out (by kernel_rfl)) ?_
            refine Kp_ 32 68 (Bz 69 8589934591) (any_of HT_.out (by kernel_rfl)) ?_
            refine Kp_ 33 69 (Bz 69 17179869183) (any_of HT_.out (by kernel_rfl)) ?_
            refine pure_ (i := 34) (N := some 70) (v := undef) (a' := ?_) #[true, true, true, true, true, true, true, true, true, true, true, true, true, true, true, true, true, true, true, true, true, true, true, true, true, true, true, true, true, true, true, true, true, true, true, false, false, false, false, false, false, false, false, false, false, false, false, false, false, false, false, false, false, false, false, false, false, false, false, false, false, false, false, false, false, false, false, false, false] rfl rfl (any_of HT_.out (by kernel_rfl)) (fun _ _ _ h => h) (Or.inr ⟨by rfl, rfl⟩) ?_ ?_
            rotate_left
            · simp only [Act.put, List.setIfInBounds_toArray, List.set_cons_zero, List.set_cons_succ, i64_w, i32_w]
              rfl
            refine pure_ (i := 35) (N := some 71) (v := undef) (a' := ?_) #[true, true, true, true, true, true, true, true, true, true, true, true, true, true, true, true, true, true, true, true, true, true, true, true, true, true, true, true, true, true, true, true, true, true, true, true, false, false, false, false, false, false, false, false, false, false, false, false, false, false, false, false, false, false, false, false, false, false, false, false, false, false, false, false, false, false, false, false, false] rfl rfl (any_of HT_.out (by kernel_rfl)) (fun _ _ _ h => h) (Or.inr ⟨by rfl, rfl⟩) ?_ ?_
            rotate_left
            · simp only [Act.put, List.setIfInBounds_toArray, List.set_cons_zero, List.set_cons_succ, i64_w, i32_w]
              rfl
            refine pure_ (i := 36) (N := some 72) (v := undef) (a' := ?_) #[true, true, true, true, true, true, true, true, true, true, true, true, true, true, true, true, true, true, true, true, true, true, true, true, true, true, true, true, true, true, true, true, true, true, true, true, true, false, false, false, false, false, false, false, false, false, false, false, false, false, false, false, false, false, false, false, false, false, false, false, false, false, false, false, false, false, false, false, false] rfl rfl (any_of HT_.out (by kernel_rfl)) (fun _ _ _ h => h) (Or.inr ⟨by rfl, rfl⟩) ?_ ?_
            rotate_left
            · simp only [Act.put, List.setIfInBounds_toArray, List.set_cons_zero, List.set_cons_succ, i64_w, i32_w]
              rfl
            refine Kp_ 37 73 (Bz 69 274877906943) (any_of HT_.out (by kernel_rfl)) ?_
            refine Kp_ 38 74 (Bz 69 549755813887) (any_of HT_.out (by kernel_rfl)) ?_
            refine pure_ (i := 39) (N := some 75) (v := undef) (a' := ?_) #[true, true, true, true, true, true, true, true, true, true, true, true, true, true, true, true, true, true, true, true, true, true, true, true, true, true, true, true, true, true, true, true, true, true, true, true, true, true, true, true, false, false, false, false, false, false, false, false, false, false, false, false, false, false, false, false, false, false, false, false, false, false, false, false, false, false, false, false, false] rfl rfl (any_of HT_.out (by kernel_rfl)) (fun _ _ _ h => h) (Or.inr ⟨by rfl, rfl⟩) ?_ ?_
            rotate_left
            · simp only [Act.put, List.setIfInBounds_toArray, List.set_cons_zero, List.set_cons_succ, i64_w, i32_w]
              rfl
            refine pure_ (i := 40) (N := some 76) (v := undef) (a' := ?_) #[true, true, true, true, true, true, true, true, true, true, true, true, true, true, true, true, true, true, true, true, true, true, true, true, true, true, true, true, true, true, true, true, true, true, true, true, true, true, true, true, true, false, false, false, false, false, false, false, false, false, false, false, false, false, false, false, false, false, false, false, false, false, false, false, false, false, false, false, false] rfl rfl (any_of HT_.out (by kernel_rfl)) (fun _ _ _ h => h) (Or.inr ⟨by rfl, rfl⟩) ?_ ?_
            rotate_left
            · simp only [Act.put, List.setIfInBounds_toArray, List.set_cons_zero, List.set_cons_succ, i64_w, i32_w]
              rfl
            refine pure_ (i := 41) (N := some 77) (v := undef) (a' := ?_) #[true, true, true, true, true, true, true, true, true, true, true, true, true, true, true, true, true, true, true, true, true, true, true, true, true, true, true, true, true, true, true, true, true, true, true, true, true, true, true, true, true, true, false, false, false, false, false, false, false, false, false, false, false, false, false, false, false, false, false, false, false, false, false, false, false, false, false, false, false] rfl rfl (any_of HT_.out (by kernel_rfl)) (fun _ _ _ h => h) (Or.inr ⟨by rfl, rfl⟩) ?_ ?_
            rotate_left
            · simp only [Act.put, List.setIfInBounds_toArray, List.set_cons_zero, List.set_cons_succ, i64_w, i32_w]
              rfl
            refine pure_ (i := 42) (N := some 78) (v := undef) (a' := ?_) #[true, true, true, true, true, true, true, true, true, true, true, true, true, true, true, true, true, true, true, true, true, true, true, true, true, true, true, true, true, true, true, true, true, true, true, true, true, true, true, true, true, true, true, false, false, false, false, false, false, false, false, false, false, false, false, false, false, false, false, false, false, false, false, false, false, false, false, false, false] rfl rfl (any_of HT_.out (by kernel_rfl)) (fun _ _ _ h => h) (Or.inr ⟨by rfl, rfl⟩) ?_ ?_
            rotate_left
            · simp only [Act.put, List.setIfInBounds_toArray, List.set_cons_zero, List.set_cons_succ, i64_w, i32_w]
              rfl
            refine Kp_ 43 79 (Bz 69 17592186044415) (any_of HT_.out (by kernel_rfl)) ?_
            refine Kp_ 44 80 (Bz 69 35184372088831) (any_of HT_.out (by kernel_rfl)) ?_
            refine pure_ (i := 45) (N := some 81) (v := undef) (a' := ?_) #[true, true, true, true, true, true, true, true, true, true, true, true, true, true, true, true, true, true, true, true, true, true, true, true, true, true, true, true, true, true, true, true, true, true, true, true, true, true, true, true, true, true, true, true, true, true, false, false, false, false, false, false, false, false, false, false, false, false, false, false, false, false, false, false, false, false, false, false, false] rfl rfl (any_of HT_.out (by kernel_rfl)) (fun _ _ _ h => h) (Or.inr ⟨by rfl, rfl⟩) ?_ ?_
            rotate_left
            · simp only [Act.put, List.setIfInBounds_toArray, List.set_cons_zero, List.set_cons_succ, i64_w, i32_w]
              rfl
            refine pure_ (i := 46) (N := some 82) (v := undef) (a' := ?_) #[true, true, true, true, true, true, true, true, true, true, true, true, true, true, true, true, true, true, true, true, true, true, true, true, true, true, true, true, true, true, true, true, true, true, true, true, true, true, true, true, true, true, true, true, true, true, true, false, false, false, false, false, false, false, false, false, false, false, false, false, false, false, false, false, false, false, false, false, false] rfl rfl (any_of HT_.out (by kernel_rfl)) (fun _ _ _ h => h) (Or.inr ⟨by rfl, rfl⟩) ?_ ?_
            rotate_left
            · simp only [Act.put, List.setIfInBounds_toArray, List.set_cons_zero, List.set_cons_succ, i64_w, i32_w]
              rfl
            refine pure_ (i := 47) (N := some 83) (v := undef) (a' := ?_) #[true, true, true, true, true, true, true, true, true, true, true, true, true, true, true, true, true, true, true, true, true, true, true, true, true, true, true, true, true, true, true, true, true, true, true, true, true, true, true, true, true, true, true, true, true, true, true, true, false, false, false, false, false, false, false, false, false, false, false, false, false, false, false, false, false, false, false, false, false] rfl rfl (any_of HT_.out (by kernel_rfl)) (fun _ _ _ h => h) (Or.inr ⟨by rfl, rfl⟩) ?_ ?_
            rotate_left
            · simp only [Act.put, List.setIfInBounds_toArray, List.set_cons_zero, List.set_cons_succ, i64_w, i32_w]
              rfl
            refine pure_ (i := 48) (N := some 84) (v := undef) (a' := ?_) #[true, true, true, true, true, true, true, true, true, true, true, true, true, true, true, true, true, true, true, true, true, true, true, true, true, true, true, true, true, true, true, true, true, true, true, true, true, true, true, true, true, true, true, true, true, true, true, true, true, false, false, false, false, false, false, false, false, false, false, false, false, false, false, false, false, false, false, false, false] rfl rfl (any_of HT_.out (by kernel_rfl)) (fun _ _ _ h => h) (Or.inr ⟨by rfl, rfl⟩) ?_ ?_
            rotate_left
            · simp only [Act.put, List.setIfInBounds_toArray, List.set_cons_zero, List.set_cons_succ, i64_w, i32_w]
              rfl
            refine pure_ (i := 49) (N := some 85) (v := undef) (a' := ?_) #[true, true, true, true, true, true, true, true, true, true, true, true, true, true, true, true, true, true, true, true, true, true, true, true, true, true, true, true, true, true, true, true, true, true, true, true, true, true, true, true, true, true, true, true, true, true, true, true, true, true, false, false, false, false, false, false, false, false, false, false, false, false, false, false, false, false, false, false, false] rfl rfl (any_of HT_.out (by kernel_rfl)) (fun _ _ _ h => h) (Or.inr ⟨by rfl, rfl⟩) ?_ ?_
            rotate_left
            · simp only [Act.put, List.setIfInBounds_toArray, List.set_cons_zero, List.set_cons_succ, i64_w, i32_w]
              rfl
            refine Kp_ 50 86 (Bz 69 2251799813685247) (any_of HT_.out (by kernel_rfl)) ?_
            refine Kp_ 51 87 (Bz 69 4503599627370495) (any_of HT_.out (by kernel_rfl)) ?_
            refine Kp_ 52 88 (Bz 69 9007199254740991) (any_of HT_.out (by kernel_rfl)) ?_
            refine Ko_ 53 89 (Bz 69 18014398509481983) (take_ofW HT_.out HW_.out (by kernel_rfl)) hHeld ?_
            refine Ko_ 54 90 (Bz 69 36028797018963967) (take_ofW HT_.out HW_.out (by kernel_rfl)) hHeld ?_
            refine Ko_ 56 92 (Bz 69 108086391056891903) (take_ofW HT_.out HW_.out (by kernel_rfl)) hHeld ?_
            refine Ko_ 57 93 (Bz 69 252201579132747775) (take_ofW HT_.out HW_.out (by kernel_rfl)) hHeld ?_
            refine Ko_ 59 95 (Bz 69 828662331436171263) (take_ofW HT_.out HW_.out (by kernel_rfl)) hHeld ?_
            refine one_ (i := 55) (N := some 91) (Bz 69 864691128455135231) rfl rfl (one_of HT_.out (by kernel_rfl)) (by decide) (fun K hK => ?_)
            refine goes_ Tryd.func22 (by kernel_rfl) rfl #[.agg #[.int .u64 t597, .int .u64 t598, .int .u64 t599, .int .u64 t600], .agg #[.int .u64 t602, .int .u64 t603, .int .u64 t604, .int .u64 t605]] (by rfl) rfl rfl (by (try simp only [List.map_toArray, List.map_cons, List.map_nil]); first | done | rfl | (simp only [List.length_drop, List.length_take]; rfl)) ?_
            with_reducible refine (vec_Leq.calls t597 t598 t599 t600 t602 t603 t604 t605 true _ A120.out).mono ?_
            rintro e w131 ⟨rfl, hb⟩
            refine ⟨_, rfl, ?_⟩
            replace BK593 := Kb_ BK593 hb
            replace BK594 := Kb_ BK594 hb
            replace BK595 := Kb_ BK595 hb
            replace BK601 := Kb_ BK601 hb
            replace BK606 := Kb_ BK606 hb
            replace BK611 := Kb_ BK611 hb
            replace HB := Ks_ HB hb
            (try clear hb)
            (try clear hb2)
            (try clear hk)
            (try clear hi)
            refine hK.out _ _ ⟨Km_ BK601 0, Km_ BK601 1, Km_ BK601 2, Km_ BK601 3, Km_ BK606 0, Km_ BK606 1, Km_ BK606 2, Km_ BK606 3, Km_ BK611 0, Km_ BK611 1, Km_ BK611 2, Km_ BK611 3⟩ (fun hHeld => ?_)
            clear hK K
            refine Kn_ 91 ?_
            refine one_ (i := 58) (N := some 94) (Bz 69 1152921504606846975) rfl rfl (one_of HT_.out (by kernel_rfl)) (by decide) (fun K hK => ?_)
            refine goes_ Tryd.func12 (by kernel_rfl) rfl #[.agg #[.int .u64 t597, .int .u64 t598, .int .u64 t599, .int .u64 t600], .agg #[.int .u64 t602, .int .u64 t603, .int .u64 t604, .int .u64 t605]] (by rfl) rfl rfl (by (try simp only [List.map_toArray, List.map_cons, List.map_nil]); first | done | rfl | (simp only [List.length_drop, List.length_take]; rfl)) ?_
            with_reducible refine (vec_Join.calls t597 t598 t599 t600 t602 t603 t604 t605 t628 t629 t630 t631 _ A121.out).mono ?_
            rintro e w132 ⟨rfl, hb⟩
            refine ⟨_, rfl, ?_⟩
            replace BK593 := Kb_ BK593 hb
            replace BK594 := Kb_ BK594 hb
            replace BK595 := Kb_ BK595 hb
            replace BK601 := Kb_ BK601 hb
            replace BK606 := Kb_ BK606 hb
            replace BK611 := Kb_ BK611 hb
            replace HB := Ks_ HB hb
            (try clear hb)
            (try clear hb2)
            (try clear hk)
            (try clear hi)
            refine hK.out _ _ ⟨Km_ BK601 0, Km_ BK601 1, Km_ BK601 2, Km_ BK601 3, Km_ BK606 0, Km_ BK606 1, Km_ BK606 2, Km_ BK606 3, Km_ BK611 0, Km_ BK611 1, Km_ BK611 2, Km_ BK611 3⟩ (fun hHeld => ?_)
            clear hK K
            refine Kn_ 94 ?_
            refine Kp_ 60 96 (Bz 69 2305843009213693951) (any_of HT_.out (by kernel_rfl)) ?_
            refine Kp_ 61 97 (Bz 69 4611686018427387903) (any_of HT_.out (by kernel_rfl)) ?_
            refine Kp_ 62 98 (Bz 69 9223372036854775807) (any_of HT_.out (by kernel_rfl)) ?_
            refine Kp_ 63 99 (Bz 69 18446744073709551615) (any_of HT_.out (by kernel_rfl)) ?_
            refine Kp_ 64 100 (Bz 69 36893488147419103231) (any_of HT_.out (by kernel_rfl)) ?_
            refine Ko_ 65 101 (Bz 69 73786976294838206463) (take_ofW HT_.out HW_.out (by kernel_rfl)) hHeld ?_
            refine one_ (i := 66) (N := some 102) (Bz 69 147573952589676412927) rfl rfl (one_of HT_.out (by kernel_rfl)) (by decide) (fun K hK => ?_)
            refine goes_ Tryd.func22 (by kernel_rfl) rfl #[.agg #[.int .u64 0, .int .u64 0, .int .u64 0, .int .u64 0], .agg #[.int .u64 t597, .int .u64 t598, .int .u64 t599, .int .u64 t600]] (by rfl) rfl rfl (by (try simp only [List.map_toArray, List.map_cons, List.map_nil]); first | done | rfl | (simp only [List.length_drop, List.length_take]; rfl)) ?_
            with_reducible refine (vec_Leq.calls 0 0 0 0 t597 t598 t599 t600 true _ A124.out).mono ?_
            rintro e w133 ⟨rfl, hb⟩
            refine ⟨_, rfl, ?_⟩
            replace BK593 := Kb_ BK593 hb
            replace BK594 := Kb_ BK594 hb
            replace BK595 := Kb_ BK595 hb
            replace BK601 := Kb_ BK601 hb
            replace BK606 := Kb_ BK606 hb
            replace BK611 := Kb_ BK611 hb
            replace HB := Ks_ HB hb
            (try clear hb)
            (try clear hb2)
            (try clear hk)
            (try clear hi)
            refine hK.out _ _ ⟨Km_ BK601 0, Km_ BK601 1, Km_ BK601 2, Km_ BK601 3, Km_ BK606 0, Km_ BK606 1, Km_ BK606 2, Km_ BK606 3, Km_ BK611 0, Km_ BK611 1, Km_ BK611 2, Km_ BK611 3⟩ (fun hHeld => ?_)
            clear hK K
            refine Kn_ 102 ?_
            refine Kp_ 67 103 (Bz 69 295147905179352825855) (any_of HT_.out (by kernel_rfl)) ?_
            refine Kp_ 68 6 (Bz 69 590295810358705651711) (any_of HT_.out (by kernel_rfl)) ?_
            refine done_ (done_of HT_.out (by kernel_rfl)) ?_
            try go_wp2
            go_ret
            exact ⟨Kh_, by repeat (first | (with_reducible first | exact HB.out | apply below_alloc | apply pw_below_drewN | apply below_drew1 | refine below_set ?_ GE593.out | refine below_set ?_ GE594.out | refine below_set ?_ GE595.out | refine below_set ?_ GE601.out | refine below_set ?_ GE606.out | refine below_set ?_ GE611.out) | exact HB.out)⟩
          subst c105
          have H1 : ((vec_Leq.f t597 t598 t599 t600 t602 t603 t604 t605).bind fun t620 => ((vec_Join.f t597 t598 t599 t600 t602 t603 t604 t605).bind fun bt621 => (if t620 = true then (if (bt621.1 == t602 && (bt621.2.1 == t603 && (bt621.2.2.1 == t604 && (bt621.2.2.2 == t605)))) = true then ((vec_Leq.f 0 0 0 0 t597 t598 t599 t600).bind fun t625 => (if t625 = true then (some true) else (none))) else (none)) else (none)))) = some r := by rw [if_pos rfl] at H; exact H
          clear H
          have H := H1
          clear H1
          replace H := Option.bind_eq_some_iff.mp H
          obtain ⟨t620, A1060, H⟩ := H
          replace H : ((vec_Join.f t597 t598 t599 t600 t602 t603 t604 t605).bind fun bt621 => (if t620 = true then (if (bt621.1 == t602 && (bt621.2.1 == t603 && (bt621.2.2.1 == t604 && (bt621.2.2.2 == t605)))) = true then ((vec_Leq.f 0 0 0 0 t597 t598 t599 t600).bind fun t625 => (if t625 = true then (some true) else (none))) else (none)) else (none))) = some r := H
          have A106 := Aside0.mk A1060
          clear A1060
          replace H := Option.bind_eq_some_iff.mp H
          obtain ⟨⟨t621, t622, t623, t624⟩, A1070, H⟩ := H
          replace H : (if t620 = true then (if (t621 == t602 && (t622 == t603 && (t623 == t604 && (t624 == t605)))) = true then ((vec_Leq.f 0 0 0 0 t597 t598 t599 t600).bind fun t625 => (if t625 = true then (some true) else (none))) else (none)) else (none)) = some r := H
          have A107 := Aside0.mk A1070
          clear A1070
          by_cases c108 : t620 = true
          rotate_left
          · replace c108 := Bool.eq_false_iff.mpr c108
            subst c108
            have H1 : (none) = some r := by rw [if_neg (show ¬ (false = true) by decide)] at H; exact H
            clear H
            have H := H1
            clear H1
            exact absurd H (by simp)
          subst c108
          have H1 : (if (t621 == t602 && (t622 == t603 && (t623 == t604 && (t624 == t605)))) = true then ((vec_Leq.f 0 0 0 0 t597 t598 t599 t600).bind fun t625 => (if t625 = true then (some true) else (none))) else (none)) = some r := by rw [if_pos rfl] at H; exact H
          clear H
          have H := H1
          clear H1
          by_cases c109 : (t621 == t602 && (t622 == t603 && (t623 == t604 && (t624 == t605)))) = true
          rotate_left
          · rw [if_neg c109] at H
            exact absurd H (by simp)
          rw [if_pos c109] at H
          have c109b0 : (t621 == t602 && (t622 == t603 && (t623 == t604 && (t624 == t605)))) = true := c109
          (try (have c109b1 : decide (t621 = t602 && (t622 == t603 && (t623 == t604 && (t624 == t605)))) = true := by simpa using c109))
          (try (have c109b2 : (t621 == t602 && (t622 == t603 && (t623 == t604 && (t624 == t605)))) = true := by simpa using c109))
          clear c109
          replace H := Option.bind_eq_some_iff.mp H
          obtain ⟨t625, A1100, H⟩ := H
          replace H : (if t625 = true then (some true) else (none)) = some r := H
          have A110 := Aside0.mk A1100
          clear A1100
          by_cases c111 : t625 = true
          rotate_left
          · replace c111 := Bool.eq_false_iff.mpr c111
            subst c111
            have H1 : (none) = some r := by rw [if_neg (show ¬ (false = true) by decide)] at H; exact H
            clear H
            have H := H1
            clear H1
            exact absurd H (by simp)
          subst c111
          have H1 : (some true) = some r := by rw [if_pos rfl] at H; exact H
          clear H
          have H := H1
          clear H1
          obtain rfl := Option.some.inj H
          try go_wp2
          replace BK593 := Kd_ BK593
          replace BK594 := Kd_ BK594
          replace BK595 := Kd_ BK595
          replace BK601 := Kd_ BK601
          replace BK606 := Kd_ BK606
          replace BK611 := Kd_ BK611
          replace HB := Aside0.mk (below_drew1 HB.out)
          refine start_ (n := 69) (S := fun w' => w'.cell? ⟨gb601, 0, none⟩ = some (.int .u64 t597) ∧ w'.cell? ⟨gb601, 1, none⟩ = some (.int .u64 t598) ∧ w'.cell? ⟨gb601, 2, none⟩ = some (.int .u64 t599) ∧ w'.cell? ⟨gb601, 3, none⟩ = some (.int .u64 t600) ∧ w'.cell? ⟨gb606, 0, none⟩ = some (.int .u64 t602) ∧ w'.cell? ⟨gb606, 1, none⟩ = some (.int .u64 t603) ∧ w'.cell? ⟨gb606, 2, none⟩ = some (.int .u64 t604) ∧ w'.cell? ⟨gb606, 3, none⟩ = some (.int .u64 t605) ∧ w'.cell? ⟨gb611, 0, none⟩ = some (.int .u64 t607) ∧ w'.cell? ⟨gb611, 1, none⟩ = some (.int .u64 t608) ∧ w'.cell? ⟨gb611, 2, none⟩ = some (.int .u64 t609) ∧ w'.cell? ⟨gb611, 3, none⟩ = some (.int .u64 t610)) (ds := []) #[false, false, false, false, false, false, false, false, false, false, false, false, false, false, false, false, false, false, false, false, false, false, false, false, false, false, false, false, false, false, false, false, false, false, false, false, false, false, false, false, false, false, false, false, false, false, false, false, false, false, false, false, false, false, false, false, false, false, false, false, false, false, false, false, false, false, false, false, false] (by kernel_rfl) rfl rfl ⟨Km_ BK601 0, Km_ BK601 1, Km_ BK601 2, Km_ BK601 3, Km_ BK606 0, Km_ BK606 1, Km_ BK606 2, Km_ BK606 3, Km_ BK611 0, Km_ BK611 1, Km_ BK611 2, Km_ BK611 3⟩ (fun hHeld => ?_); refine with_tabW tenementlaw06_VecOrder_p0.tab9 tenementlaw06_VecOrder_p0.bits9 (fun HT_ HW_ => ?_)
          generalize wc.drew = w112 at BK593 BK594 BK595 BK601 BK606 BK611 HB hHeld ⊢
          refine Kp_ 0 36 (Bz 69 1) (any_of HT_.out (by kernel_rfl)) ?_
          refine Kp_ 1 37 (Bz 69 3) (any_of HT_.out (by kernel_rfl)) ?_
          refine Ko_ 2 38 (Bz 69 7) (take_ofW HT_.out HW_.out (by kernel_rfl)) hHeld ?_
          refine Ko_ 3 39 (Bz 69 15) (take_ofW HT_.out HW_.out (by kernel_rfl)) hHeld ?_
          refine one_ (i := 4) (N := some 40) (Bz 69 31) rfl rfl (one_of HT_.out (by kernel_rfl)) (by decide) (fun K hK => ?_)
          refine goes_ Tryd.func22 (by kernel_rfl) rfl #[.agg #[.int .u64 t597, .int .u64 t598, .int .u64 t599, .int .u64 t600], .agg #[.int .u64 t597, .int .u64 t598, .int .u64 t599, .int .u64 t600]] (by rfl) rfl rfl (by (try simp only [List.map_toArray, List.map_cons, List.map_nil]); first | done | rfl | (simp only [List.length_drop, List.length_take]; rfl)) ?_
          with_reducible refine (vec_Leq.calls t597 t598 t599 t600 t597 t598 t599 t600 true _ A95.out).mono ?_
          rintro e w113 ⟨rfl, hb⟩
          refine ⟨_, rfl, ?_⟩
          replace BK593 := Kb_ BK593 hb
          replace BK594 := Kb_ BK594 hb
          replace BK595 := Kb_ BK595 hb
          replace BK601 := Kb_ BK601 hb
          replace BK606 := Kb_ BK606 hb
          replace BK611 := Kb_ BK611 hb
          replace HB := Ks_ HB hb
          (try clear hb)
          (try clear hb2)
          (try clear hk)
          (try clear hi)
          refine hK.out _ _ ⟨Km_ BK601 0, Km_ BK601 1, Km_ BK601 2, Km_ BK601 3, Km_ BK606 0, Km_ BK606 1, Km_ BK606 2, Km_ BK606 3, Km_ BK611 0, Km_ BK611 1, Km_ BK611 2, Km_ BK611 3⟩ (fun hHeld => ?_)
          clear hK K
          refine Kn_ 40 ?_
          refine Kp_ 5 41 (Bz 69 63) (any_of HT_.out (by kernel_rfl)) ?_
          refine Kp_ 6 42 (Bz 69 127) (any_of HT_.out (by kernel_rfl)) ?_
          refine Kp_ 7 43 (Bz 69 255) (any_of HT_.out (by kernel_rfl)) ?_
          refine Ko_ 8 44 (Bz 69 511) (take_ofW HT_.out HW_.out (by kernel_rfl)) hHeld ?_
          refine Ko_ 9 45 (Bz 69 1023) (take_ofW HT_.out HW_.out (by kernel_rfl)) hHeld ?_
          refine Kp_ 10 46 (Bz 69 2047) (any_of HT_.out (by kernel_rfl)) ?_
          refine Kp_ 11 47 (Bz 69 4095) (any_of HT_.out (by kernel_rfl)) ?_
          refine Kp_ 12 48 (Bz 69 8191) (any_of HT_.out (by kernel_rfl)) ?_
          refine Kp_ 13 49 (Bz 69 16383) (any_of HT_.out (by kernel_rfl)) ?_
          refine Ko_ 14 50 (Bz 69 32767) (take_ofW HT_.out HW_.out (by kernel_rfl)) hHeld ?_
          refine Ko_ 15 51 (Bz 69 65535) (take_ofW HT_.out HW_.out (by kernel_rfl)) hHeld ?_
          refine one_ (i := 16) (N := some 52) (Bz 69 131071) rfl rfl (one_of HT_.out (by kernel_rfl)) (by decide) (fun K hK => ?_)
          refine goes_ Tryd.func22 (by kernel_rfl) rfl #[.agg #[.int .u64 t597, .int .u64 t598, .int .u64 t599, .int .u64 t600], .agg #[.int .u64 t602, .int .u64 t603, .int .u64 t604, .int .u64 t605]] (by rfl) rfl rfl (by (try simp only [List.map_toArray, List.map_cons, List.map_nil]); first | done | rfl | (simp only [List.length_drop, List.length_take]; rfl)) ?_
          with_reducible refine (vec_Leq.calls t597 t598 t599 t600 t602 t603 t604 t605 true _ A99.out).mono ?_
          rintro e w114 ⟨rfl, hb⟩
          refine ⟨_, rfl, ?_⟩
          replace BK593 := Kb_ BK593 hb
          replace BK594 := Kb_ BK594 hb
          replace BK595 := Kb_ BK595 hb
          replace BK601 := Kb_ BK601 hb
          replace BK606 := Kb_ BK606 hb
          replace BK611 := Kb_ BK611 hb
          replace HB := Ks_ HB hb
          (try clear hb)
          (try clear hb2)
          (try clear hk)
          (try clear hi)
          refine hK.out _ _ ⟨Km_ BK601 0, Km_ BK601 1, Km_ BK601 2, Km_ BK601 3, Km_ BK606 0, Km_ BK606 1, Km_ BK606 2, Km_ BK606 3, Km_ BK611 0, Km_ BK611 1, Km_ BK611 2, Km_ BK611 3⟩ (fun hHeld => ?_)
          clear hK K
          refine Kn_ 52 ?_
          refine Kp_ 17 53 (Bz 69 262143) (any_of HT_.out (by kernel_rfl)) ?_
          refine Kp_ 18 54 (Bz 69 524287) (any_of HT_.out (by kernel_rfl)) ?_
          refine Ko_ 19 55 (Bz 69 1048575) (take_ofW HT_.out HW_.out (by kernel_rfl)) hHeld ?_
          refine Ko_ 20 56 (Bz 69 2097151) (take_ofW HT_.out HW_.out (by kernel_rfl)) hHeld ?_
          refine one_ (i := 21) (N := some 57) (Bz 69 4194303) rfl rfl (one_of HT_.out (by kernel_rfl)) (by decide) (fun K hK => ?_)
          refine goes_ Tryd.func22 (by kernel_rfl) rfl #[.agg #[.int .u64 t602, .int .u64 t603, .int .u64 t604, .int .u64 t605], .agg #[.int .u64 t607, .int .u64 t608, .int .u64 t609, .int .u64 t610]] (by rfl) rfl rfl (by (try simp only [List.map_toArray, List.map_cons, List.map_nil]); first | done | rfl | (simp only [List.length_drop, List.length_take]; rfl)) ?_
          with_reducible refine (vec_Leq.calls t602 t603 t604 t605 t607 t608 t609 t610 true _ A101.out).mono ?_
          rintro e w115 ⟨rfl, hb⟩
          refine ⟨_, rfl, ?_⟩
          replace BK593 := Kb_ BK593 hb
          replace BK594 := Kb_ BK594 hb
          replace BK595 := Kb_ BK595 hb
          replace BK601 := Kb_ BK601 hb
          replace BK606 := Kb_ BK606 hb
          replace BK611 := Kb_ BK611 hb
          replace HB := Ks_ HB hb
          (try clear hb)
          (try clear hb2)
          (try clear hk)
          (try clear hi)
          refine hK.out _ _ ⟨Km_ BK601 0, Km_ BK601 1, Km_ BK601 2, Km_ BK601 3, Km_ BK606 0, Km_ BK606 1, Km_ BK606 2, Km_ BK606 3, Km_ BK611 0, Km_ BK611 1, Km_ BK611 2, Km_ BK611 3⟩ (fun hHeld => ?_)
          clear hK K
          refine Kn_ 57 ?_
          refine Kp_ 22 58 (Bz 69 8388607) (any_of HT_.out (by kernel_rfl)) ?_
          refine Kp_ 23 59 (Bz 69 16777215) (any_of HT_.out (by kernel_rfl)) ?_
          refine Kp_ 24 60 (Bz 69 33554431) (any_of HT_.out (by kernel_rfl)) ?_
          refine Ko_ 25 61 (Bz 69 67108863) (take_ofW HT_.out HW_.out (by kernel_rfl)) hHeld ?_
          refine Ko_ 26 62 (Bz 69 134217727) (take_ofW HT_.out HW_.out (by kernel_rfl)) hHeld ?_
          refine one_ (i := 27) (N := some 63) (Bz 69 268435455) rfl rfl (one_of HT_.out (by kernel_rfl)) (by decide) (fun K hK => ?_)
          refine goes_ Tryd.func22 (by kernel_rfl) rfl #[.agg #[.int .u64 t597, .int .u64 t598, .int .u64 t599, .int .u64 t600], .agg #[.int .u64 t607, .int .u64 t608, .int .u64 t609, .int .u64 t610]] (by rfl) rfl rfl (by (try simp only [List.map_toArray, List.map_cons, List.map_nil]); first | done | rfl | (simp only [List.length_drop, List.length_take]; rfl)) ?_
          with_reducible refine (vec_Leq.calls t597 t598 t599 t600 t607 t608 t609 t610 true _ A103.out).mono ?_
          rintro e w116 ⟨rfl, hb⟩
          refine ⟨_, rfl, ?_⟩
          replace BK593 := Kb_ BK593 hb
          replace BK594 := Kb_ BK594 hb
          replace BK595 := Kb_ BK595 hb
          replace BK601 := Kb_ BK601 hb
          replace BK606 := Kb_ BK606 hb
          replace BK611 := Kb_ BK611 hb
          replace HB := Ks_ HB hb
          (try clear hb)
          (try clear hb2)
          (try clear hk)
          (try clear hi)
          refine hK.out _ _ ⟨Km_ BK601 0, Km_ BK601 1, Km_ BK601 2, Km_ BK601 3, Km_ BK606 0, Km_ BK606 1, Km_ BK606 2, Km_ BK606 3, Km_ BK611 0, Km_ BK611 1, Km_ BK611 2, Km_ BK611 3⟩ (fun hHeld => ?_)
          clear hK K
          refine Kn_ 63 ?_
          refine Kp_ 28 64 (Bz 69 536870911) (any_of HT_.out (by kernel_rfl)) ?_
          refine Kp_ 29 65 (Bz 69 1073741823) (any_of HT_.out (by kernel_rfl)) ?_
          refine Kp_ 30 66 (Bz 69 2147483647) (any_of HT_.out (by kernel_rfl)) ?_
          refine Kp_ 31 67 (Bz 69 4294967295) (any_of HT_.out (by kernel_rfl)) ?_
          refine Kp_ 32 68 (Bz 69 8589934591) (any_of HT_.out (by kernel_rfl)) ?_
          refine Kp_ 33 69 (Bz 69 17179869183) (any_of HT_.out (by kernel_rfl)) ?_
          refine Ko_ 34 70 (Bz 69 34359738367) (take_ofW HT_.out HW_.out (by kernel_rfl)) hHeld ?_
          refine Ko_ 35 71 (Bz 69 68719476735) (take_ofW HT_.out HW_.out (by kernel_rfl)) hHeld ?_
          refine Kp_ 36 72 (Bz 69 137438953471) (any_of HT_.out (by kernel_rfl)) ?_
          refine Kp_ 37 73 (Bz 69 274877906943) (any_of HT_.out (by kernel_rfl)) ?_
          refine Kp_ 38 74 (Bz 69 549755813887) (any_of HT_.out (by kernel_rfl)) ?_
          refine pure_ (i := 39) (N := some 75) (v := undef) (a' := ?_) #[true, true, true, true, true, true, true, true, true, true, true, true, true, true, true, true, true, true, true, true, true, true, true, true, true, true, true, true, true, true, true, true, true, true, true, true, true, true, true, true, false, false, false, false, false, false, false, false, false, false, false, false, false, false, false, false, false, false, false, false, false, false, false, false, false, false, false, false, false] rfl rfl (any_of HT_.out (by kernel_rfl)) (fun _ _ _ h => h) (Or.inr ⟨by rfl, rfl⟩) ?_ ?_
          rotate_left
          · simp only [Act.put, List.setIfInBounds_toArray, List.set_cons_zero, List.set_cons_succ, i64_w, i32_w]
            rfl
          refine pure_ (i := 40) (N := some 76) (v := undef) (a' := ?_) #[true, true, true, true, true, true, true, true, true, true, true, true, true, true, true, true, true, true, true, true, true, true, true, true, true, true, true, true, true, true, true, true, true, true, true, true, true, true, true, true, true, false, false, false, false, false, false, false, false, false, false, false, false, false, false, false, false, false, false, false, false, false, false, false, false, false, false, false, false] rfl rfl (any_of HT_.out (by kernel_rfl)) (fun _ _ _ h => h) (Or.inr ⟨by rfl, rfl⟩) ?_ ?_
          rotate_left
          · simp only [Act.put, List.setIfInBounds_toArray, List.set_cons_zero, List.set_cons_succ, i64_w, i32_w]
            rfl
          refine pure_ (i := 41) (N := some 77) (v := undef) (a' := ?_) #[true, true, true, true, true, true, true, true, true, true, true, true, true, true, true, true, true, true, true, true, true, true, true, true, true, true, true, true, true, true, true, true, true, true, true, true, true, true, true, true, true, true, false, false, false, false, false, false, false, false, false, false, false, false, false, false, false, false, false, false, false, false, false, false, false, false, false, false, false] rfl rfl (any_of HT_.out (by kernel_rfl)) (fun _ _ _ h => h) (Or.inr ⟨by rfl, rfl⟩) ?_ ?_
          rotate_left
          · simp only [Act.put, List.setIfInBounds_toArray, List.set_cons_zero, List.set_cons_succ, i64_w, i32_w]
            rfl
          refine pure_ (i := 42) (N := some 78) (v := undef) (a' := ?_) #[true, true, true, true, true, true, true, true, true, true, true, true, true, true, true, true, true, true, true, true, true, true, true, true, true, true, true, true, true, true, true, true, true, true, true, true, true, true, true, true, true, true, true, false, false, false, false, false, false, false, false, false, false, false, false, false, false, false, false, false, false, false, false, false, false, false, false, false, false] rfl rfl (any_of HT_.out (by kernel_rfl)) (fun _ _ _ h => h) (Or.inr ⟨by rfl, rfl⟩) ?_ ?_
          rotate_left
          · simp only [Act.put, List.setIfInBounds_toArray, List.set_cons_zero, List.set_cons_succ, i64_w, i32_w]
            rfl
          refine Kp_ 43 79 (Bz 69 17592186044415) (any_of HT_.out (by kernel_rfl)) ?_
          refine Kp_ 44 80 (Bz 69 35184372088831) (any_of HT_.out (by kernel_rfl)) ?_
          refine pure_ (i := 45) (N := some 81) (v := undef) (a' := ?_) #[true, true, true, true, true, true, true, true, true, true, true, true, true, true, true, true, true, true, true, true, true, true, true, true, true, true, true, true, true, true, true, true, true, true, true, true, true, true, true, true, true, true, true, true, true, true, false, false, false, false, false, false, false, false, false, false, false, false, false, false, false, false, false, false, false, false, false, false, false] rfl rfl (any_of HT_.out (by kernel_rfl)) (fun _ _ _ h => h) (Or.inr ⟨by rfl, rfl⟩) ?_ ?_
          rotate_left
          · simp only [Act.put, List.setIfInBounds_toArray, List.set_cons_zero, List.set_cons_succ, i64_w, i32_w]
            rfl
          refine pure_ (i := 46) (N := some 82) (v := undef) (a' := ?_) #[true, true, true, true, true, true, true, true, true, true, true, true, true, true, true, true, true, true, true, true, true, true, true, true, true, true, true, true, true, true, true, true, true, true, true, true, true, true, true, true, true, true, true, true, true, true, true, false, false, false, false, false, false, false, false, false, false, false, false, false, false, false, false, false, false, false, false, false, false] rfl rfl (any_of HT_.out (by kernel_rfl)) (fun _ _ _ h => h) (Or.inr ⟨by rfl, rfl⟩) ?_ ?_
          rotate_left
          · simp only [Act.put, List.setIfInBounds_toArray, List.set_cons_zero, List.set_cons_succ, i64_w, i32_w]
            rfl
          refine pure_ (i := 47) (N := some 83) (v := undef) (a' := ?_) #[true, true, true, true, true, true, true, true, true, true, true, true, true, true, true, true, true, true, true, true, true, true, true, true, true, true, true, true, true, true, true, true, true, true, true, true, true, true, true, true, true, true, true, true, true, true, true, true, false, false, false, false, false, false, false, false, false, false, false, false, false, false, false, false, false, false, false, false, false] rfl rfl (any_of HT_.out (by kernel_rfl)) (fun _ _ _ h => h) (Or.inr ⟨by rfl, rfl⟩) ?_ ?_
          rotate_left
          · simp only [Act.put, List.setIfInBounds_toArray, List.set_cons_zero, List.set_cons_succ, i64_w, i32_w]
            rfl
          refine pure_ (i := 48) (N := some 84) (v := undef) (a' := ?_) #[true, true, true, true, true, true, true, true, true, true, true, true, true, true, true, true, true, true, true, true, true, true, true, true, true, true, true, true, true, true, true, true, true, true, true, true, true, true, true, true, true, true, true, true, true, true, true, true, true, false, false, false, false, false, false, false, false, false, false, false, false, false, false, false, false, false, false, false, false] rfl rfl (any_of HT_.out (by kernel_rfl)) (fun _ _ _ h => h) (Or.inr ⟨by rfl, rfl⟩) ?_ ?_
          rotate_left
          · simp only [Act.put, List.setIfInBounds_toArray, List.set_cons_zero, List.set_cons_succ, i64_w, i32_w]
            rfl
          refine pure_ (i := 49) (N := some 85) (v := undef) (a' := ?_) #[true, true, true, true, true, true, true, true, true, true, true, true, true, true, true, true, true, true, true, true, true, true, true, true, true, true, true, true, true, true, true, true, true, true, true, true, true, true, true, true, true, true, true, true, true, true, true, true, true, true, false, false, false, false, false, false, false, false, false, false, false, false, false, false, false, false, false, false, false] rfl rfl (any_of HT_.out (by kernel_rfl)) (fun _ _ _ h => h) (Or.inr ⟨by rfl, rfl⟩) ?_ ?_
          rotate_left
          · simp only [Act.put, List.setIfInBounds_toArray, List.set_cons_zero, List.set_cons_succ, i64_w, i32_w]
            rfl
          refine Kp_ 50 86 (Bz 69 2251799813685247) (any_of HT_.out (by kernel_rfl)) ?_
          refine Kp_ 51 87 (Bz 69 4503599627370495) (any_of HT_.out (by kernel_rfl)) ?_
          refine Kp_ 52 88 (Bz 69 9007199254740991) (any_of HT_.out (by kernel_rfl)) ?_
          refine Ko_ 53 89 (Bz 69 18014398509481983) (take_ofW HT_.out HW_.out (by kernel_rfl)) hHeld ?_
          refine Ko_ 54 90 (Bz 69 36028797018963967) (take_ofW HT_.out HW_.out (by kernel_rfl)) hHeld ?_
          refine Ko_ 56 92 (Bz 69 108086391056891903) (take_ofW HT_.out HW_.out (by kernel_rfl)) hHeld ?_
          refine Ko_ 57 93 (Bz 69 252201579132747775) (take_ofW HT_.out HW_.out (by kernel_rfl)) hHeld ?_
          refine Ko_ 59 95 (Bz 69 828662331436171263) (take_ofW HT_.out HW_.out (by kernel_rfl)) hHeld ?_
          refine one_ (i := 55) (N := some 91) (Bz 69 864691128455135231) rfl rfl (one_of HT_.out (by kernel_rfl)) (by decide) (fun K hK => ?_)
          refine goes_ Tryd.func22 (by kernel_rfl) rfl #[.agg #[.int .u64 t597, .int .u64 t598, .int .u64 t599, .int .u64 t600], .agg #[.int .u64 t602, .int .u64 t603, .int .u64 t604, .int .u64 t605]] (by rfl) rfl rfl (by (try simp only [List.map_toArray, List.map_cons, List.map_nil]); first | done | rfl | (simp only [List.length_drop, List.length_take]; rfl)) ?_
          with_reducible refine (vec_Leq.calls t597 t598 t599 t600 t602 t603 t604 t605 true _ A106.out).mono ?_
          rintro e w117 ⟨rfl, hb⟩
          refine ⟨_, rfl, ?_⟩
          replace BK593 := Kb_ BK593 hb
          replace BK594 := Kb_ BK594 hb
          replace BK595 := Kb_ BK595 hb
          replace BK601 := Kb_ BK601 hb
          replace BK606 := Kb_ BK606 hb
          replace BK611 := Kb_ BK611 hb
          replace HB := Ks_ HB hb
          (try clear hb)
          (try clear hb2)
          (try clear hk)
          (try clear hi)
          refine hK.out _ _ ⟨Km_ BK601 0, Km_ BK601 1, Km_ BK601 2, Km_ BK601 3, Km_ BK606 0, Km_ BK606 1, Km_ BK606 2, Km_ BK606 3, Km_ BK611 0, Km_ BK611 1, Km_ BK611 2, Km_ BK611 3⟩ (fun hHeld => ?_)
          clear hK K
          refine Kn_ 91 ?_
          refine one_ (i := 58) (N := some 94) (Bz 69 1152921504606846975) rfl rfl (one_of HT_.out (by kernel_rfl)) (by decide) (fun K hK => ?_)
          refine goes_ Tryd.func12 (by kernel_rfl) rfl #[.agg #[.int .u64 t597, .int .u64 t598, .int .u64 t599, .int .u64 t600], .agg #[.int .u64 t602, .int .u64 t603, .int .u64 t604, .int .u64 t605]] (by rfl) rfl rfl (by (try simp only [List.map_toArray, List.map_cons, List.map_nil]); first | done | rfl | (simp only [List.length_drop, List.length_take]; rfl)) ?_
          with_reducible refine (vec_Join.calls t597 t598 t599 t600 t602 t603 t604 t605 t621 t622 t623 t624 _ A107.out).mono ?_
          rintro e w118 ⟨rfl, hb⟩
          refine ⟨_, rfl, ?_⟩
          replace BK593 := Kb_ BK593 hb
          replace BK594 := Kb_ BK594 hb
          replace BK595 := Kb_ BK595 hb
          replace BK601 := Kb_ BK601 hb
          replace BK606 := Kb_ BK606 hb
          replace BK611 := Kb_ BK611 hb
          replace HB := Ks_ HB hb
          (try clear hb)
          (try clear hb2)
          (try clear hk)
          (try clear hi)
          refine hK.out _ _ ⟨Km_ BK601 0, Km_ BK601 1, Km_ BK601 2, Km_ BK601 3, Km_ BK606 0, Km_ BK606 1, Km_ BK606 2, Km_ BK606 3, Km_ BK611 0, Km_ BK611 1, Km_ BK611 2, Km_ BK611 3⟩ (fun hHeld => ?_)
          clear hK K
          refine Kn_ 94 ?_
          refine Kp_ 60 96 (Bz 69 2305843009213693951) (any_of HT_.out (by kernel_rfl)) ?_
          refine Kp_ 61 97 (Bz 69 4611686018427387903) (any_of HT_.out (by kernel_rfl)) ?_
          refine Kp_ 62 98 (Bz 69 9223372036854775807) (any_of HT_.out (by kernel_rfl)) ?_
          refine Kp_ 63 99 (Bz 69 18446744073709551615) (any_of HT_.out (by kernel_rfl)) ?_
          refine Kp_ 64 100 (Bz 69 36893488147419103231) (any_of HT_.out (by kernel_rfl)) ?_
          refine Ko_ 65 101 (Bz 69 73786976294838206463) (take_ofW HT_.out HW_.out (by kernel_rfl)) hHeld ?_
          refine one_ (i := 66) (N := some 102) (Bz 69 147573952589676412927) rfl rfl (one_of HT_.out (by kernel_rfl)) (by decide) (fun K hK => ?_)
          refine goes_ Tryd.func22 (by kernel_rfl) rfl #[.agg #[.int .u64 0, .int .u64 0, .int .u64 0, .int .u64 0], .agg #[.int .u64 t597, .int .u64 t598, .int .u64 t599, .int .u64 t600]] (by rfl) rfl rfl (by (try simp only [List.map_toArray, List.map_cons, List.map_nil]); first | done | rfl | (simp only [List.length_drop, List.length_take]; rfl)) ?_
          with_reducible refine (vec_Leq.calls 0 0 0 0 t597 t598 t599 t600 true _ A110.out).mono ?_
          rintro e w119 ⟨rfl, hb⟩
          refine ⟨_, rfl, ?_⟩
          replace BK593 := Kb_ BK593 hb
          replace BK594 := Kb_ BK594 hb
          replace BK595 := Kb_ BK595 hb
          replace BK601 := Kb_ BK601 hb
          replace BK606 := Kb_ BK606 hb
          replace BK611 := Kb_ BK611 hb
          replace HB := Ks_ HB hb
          (try clear hb)
          (try clear hb2)
          (try clear hk)
          (try clear hi)
          refine hK.out _ _ ⟨Km_ BK601 0, Km_ BK601 1, Km_ BK601 2, Km_ BK601 3, Km_ BK606 0, Km_ BK606 1, Km_ BK606 2, Km_ BK606 3, Km_ BK611 0, Km_ BK611 1, Km_ BK611 2, Km_ BK611 3⟩ (fun hHeld => ?_)
          clear hK K
          refine Kn_ 102 ?_
          refine Kp_ 67 103 (Bz 69 295147905179352825855) (any_of HT_.out (by kernel_rfl)) ?_
          refine Kp_ 68 6 (Bz 69 590295810358705651711) (any_of HT_.out (by kernel_rfl)) ?_
          refine done_ (done_of HT_.out (by kernel_rfl)) ?_
          try go_wp2
          go_ret
          exact ⟨Kh_, by repeat (first | (with_reducible first | exact HB.out | apply below_alloc | apply pw_below_drewN | apply below_drew1 | refine below_set ?_ GE593.out | refine below_set ?_ GE594.out | refine below_set ?_ GE595.out | refine below_set ?_ GE601.out | refine below_set ?_ GE606.out | refine below_set ?_ GE611.out) | exact HB.out)⟩
end Go.Proofs.YtakhahfegialfaaDoor.Q
