import Derived.Test.YtakhahfegialfaaDoorQx0
import Derived.Test.YtakhahfegialfaaDoorGVecOrder0
import Derived.Test.YtakhahfegialfaaDoorGVecOrder1
namespace Go.Proofs.YtakhahfegialfaaDoor.Q
open Go.RowKit Go.Proofs.YtakhahfegialfaaDoorW.PrintWords Go.Proofs.YtakhahfegialfaaDoorW.PrintLast Go.Proofs.YtakhahfegialfaaDoorW.PrintMore
attribute [local go_sem] max2_int min2_int max_two min_two max_three min_three max_four min_four   -- for this text's walks alone
set_option linter.unusedVariables false
set_option linter.unusedSimpArgs false
attribute [local go_sem] ixA24_0 ixA24_1 ixA24_2 ixA24_3   -- for this text's walks alone
attribute [local go_sem high] eqA24
/-! ### tenementlaw06_VecOrder_p1: function 6 -/
mutual
def tenementlaw06_VecOrder_p1.j0 : Nat → Bool → Bool → Int → Int → Int → Int → Int → Int → Int → Int → Int → Int → Int → Int → Option (Bool)
  | 0, _, _, _, _, _, _, _, _, _, _, _, _, _, _ => none
  | k + 1, x7, x11, x746000, x746001, x746002, x746003, x751000, x751001, x751002, x751003, x756000, x756001, x756002, x756003 => (vec_Right.f x746000 x746001 x746002 x746003).bind fun t758 => (if t758 = true then ((vec_Right.f x751000 x751001 x751002 x751003).bind fun t759 => (tenementlaw06_VecOrder_p1.j1 k x7 x11 t759 x746000 x746001 x746002 x746003 x751000 x751001 x751002 x751003 x756000 x756001 x756002 x756003)) else (tenementlaw06_VecOrder_p1.j1 k x7 x11 false x746000 x746001 x746002 x746003 x751000 x751001 x751002 x751003 x756000 x756001 x756002 x756003))
def tenementlaw06_VecOrder_p1.j1 : Nat → Bool → Bool → Bool → Int → Int → Int → Int → Int → Int → Int → Int → Int → Int → Int → Int → Option (Bool)
  | 0, _, _, _, _, _, _, _, _, _, _, _, _, _, _, _ => none
  | k + 1, x7, x11, x12, x746000, x746001, x746002, x746003, x751000, x751001, x751002, x751003, x756000, x756001, x756002, x756003 => if x7 = true then ((vec_Leq.f x746000 x746001 x746002 x746003 x746000 x746001 x746002 x746003).bind fun t760 => (if t760 = true then (if x11 = true then (none) else (if (x746000 == x751000 && (x746001 == x751001 && (x746002 == x751002 && (x746003 == x751003)))) = true then (none) else ((vec_Leq.f x746000 x746001 x746002 x746003 x751000 x751001 x751002 x751003).bind fun t806 => (if t806 = true then ((vec_Leq.f x751000 x751001 x751002 x751003 x756000 x756001 x756002 x756003).bind fun t807 => (if t807 = true then ((vec_Leq.f x746000 x746001 x746002 x746003 x756000 x756001 x756002 x756003).bind fun t808 => (if t808 = true then (if x12 = true then ((vec_Leq.f x746000 x746001 x746002 x746003 x751000 x751001 x751002 x751003).bind fun t809 => (if t809 = true then ((vec_Sum.f x746000 x746001 x746002 x746003).bind fun t810 => ((vec_Sum.f x751000 x751001 x751002 x751003).bind fun t811 => (if t810 < t811 then ((vec_Leq.f x746000 x746001 x746002 x746003 x751000 x751001 x751002 x751003).bind fun t812 => ((vec_Join.f x746000 x746001 x746002 x746003 x751000 x751001 x751002 x751003).bind fun bt813 => (if t812 = true then (if (bt813.1 == x751000 && (bt813.2.1 == x751001 && (bt813.2.2.1 == x751002 && (bt813.2.2.2 == x751003)))) = true then ((vec_Leq.f 0 0 0 0 x746000 x746001 x746002 x746003).bind fun t817 => (if t817 = true then (some true) else (none))) else (none)) else (none)))) else (none)))) else (none))) else ((vec_Leq.f x746000 x746001 x746002 x746003 x751000 x751001 x751002 x751003).bind fun t826 => ((vec_Join.f x746000 x746001 x746002 x746003 x751000 x751001 x751002 x751003).bind fun bt827 => (if t826 = true then (if (bt827.1 == x751000 && (bt827.2.1 == x751001 && (bt827.2.2.1 == x751002 && (bt827.2.2.2 == x751003)))) = true then ((vec_Leq.f 0 0 0 0 x746000 x746001 x746002 x746003).bind fun t831 => (if t831 = true then (some true) else (none))) else (none)) else (none))))) else (none))) else (if x12 = true then ((vec_Leq.f x746000 x746001 x746002 x746003 x751000 x751001 x751002 x751003).bind fun t833 => (if t833 = true then ((vec_Sum.f x746000 x746001 x746002 x746003).bind fun t834 => ((vec_Sum.f x751000 x751001 x751002 x751003).bind fun t835 => (if t834 < t835 then ((vec_Leq.f x746000 x746001 x746002 x746003 x751000 x751001 x751002 x751003).bind fun t836 => ((vec_Join.f x746000 x746001 x746002 x746003 x751000 x751001 x751002 x751003).bind fun bt837 => (if t836 = true then (if (bt837.1 == x751000 && (bt837.2.1 == x751001 && (bt837.2.2.1 == x751002 && (bt837.2.2.2 == x751003)))) = true then ((vec_Leq.f 0 0 0 0 x746000 x746001 x746002 x746003).bind fun t841 => (if t841 = true then (some true) else (none))) else (none)) else (none)))) else (none)))) else (none))) else (none)))) else (none))))) else (none))) else (none)
end
def tenementlaw06_VecOrder_p1.f (k : Nat) (a0_0 : Int) (a0_1 : Int) (a0_2 : Int) (a0_3 : Int) (a0_4 : Bool) (a1_0 : Int) (a1_1 : Int) (a1_2 : Int) (a1_3 : Int) (a1_4 : Bool) (a2_0 : Int) (a2_1 : Int) (a2_2 : Int) (a2_3 : Int) (a2_4 : Bool) : Option (Bool) := (tenementlaw06_examples.f k).bind fun t740 => (if t740 = true then ((tenementlaw06_Vector_vector.f k a0_0 a0_1 a0_2 a0_3 a0_4).bind fun bt741 => ((tenementlaw06_Vector_vector.f k a1_0 a1_1 a1_2 a1_3 a1_4).bind fun bt746 => ((tenementlaw06_Vector_vector.f k a2_0 a2_1 a2_2 a2_3 a2_4).bind fun bt751 => ((vec_Leq.f bt741.1 bt741.2.1 bt741.2.2.1 bt741.2.2.2 bt746.1 bt746.2.1 bt746.2.2.1 bt746.2.2.2).bind fun t756 => (if t756 = true then ((vec_Leq.f bt746.1 bt746.2.1 bt746.2.2.1 bt746.2.2.2 bt741.1 bt741.2.1 bt741.2.2.1 bt741.2.2.2).bind fun t757 => (tenementlaw06_VecOrder_p1.j0 k t740 t757 bt741.1 bt741.2.1 bt741.2.2.1 bt741.2.2.2 bt746.1 bt746.2.1 bt746.2.2.1 bt746.2.2.2 bt751.1 bt751.2.1 bt751.2.2.1 bt751.2.2.2)) else (tenementlaw06_VecOrder_p1.j0 k t740 false bt741.1 bt741.2.1 bt741.2.2.1 bt741.2.2.2 bt746.1 bt746.2.1 bt746.2.2.1 bt746.2.2.2 bt751.1 bt751.2.1 bt751.2.2.1 bt751.2.2.2)))))) else (none))
theorem tenementlaw06_VecOrder_p1.mono_l : ∀ k, (∀ y0 y1 y2 y3 y4 y5 y6 y7 y8 y9 y10 y11 y12 y13, LeO (tenementlaw06_VecOrder_p1.j0 k y0 y1 y2 y3 y4 y5 y6 y7 y8 y9 y10 y11 y12 y13) (tenementlaw06_VecOrder_p1.j0 (k + 1) y0 y1 y2 y3 y4 y5 y6 y7 y8 y9 y10 y11 y12 y13)) ∧ (∀ y0 y1 y2 y3 y4 y5 y6 y7 y8 y9 y10 y11 y12 y13 y14, LeO (tenementlaw06_VecOrder_p1.j1 k y0 y1 y2 y3 y4 y5 y6 y7 y8 y9 y10 y11 y12 y13 y14) (tenementlaw06_VecOrder_p1.j1 (k + 1) y0 y1 y2 y3 y4 y5 y6 y7 y8 y9 y10 y11 y12 y13 y14))
  | 0 => ⟨fun _ _ _ _ _ _ _ _ _ _ _ _ _ _ r h => by simp [tenementlaw06_VecOrder_p1.j0] at h, fun _ _ _ _ _ _ _ _ _ _ _ _ _ _ _ r h => by simp [tenementlaw06_VecOrder_p1.j1] at h⟩
  | k + 1 => by
    obtain ⟨ih0, ih1⟩ := tenementlaw06_VecOrder_p1.mono_l k
    refine ⟨?_, ?_⟩
    · intro y0 y1 y2 y3 y4 y5 y6 y7 y8 y9 y10 y11 y12 y13
      unfold tenementlaw06_VecOrder_p1.j0
      repeat' first
      | (with_reducible exact ih0 _ _ _ _ _ _ _ _ _ _ _ _ _ _)
      | (with_reducible exact ih1 _ _ _ _ _ _ _ _ _ _ _ _ _ _ _)
      | (with_reducible exact tenementlaw06_Vector_vector.mono _ _ _ _ _ _)
      | (with_reducible exact tenementlaw06_examples.mono _)
      | (with_reducible exact LeO.refl _)
      | (with_reducible exact LeO.none _)
      | (with_reducible refine LeO.ite ?_ ?_)
      | (with_reducible refine LeO.bind ?_ (fun _ => ?_))
      | exact ih0 _ _ _ _ _ _ _ _ _ _ _ _ _ _
      | exact ih1 _ _ _ _ _ _ _ _ _ _ _ _ _ _ _
      | exact tenementlaw06_Vector_vector.mono _ _ _ _ _ _
      | exact tenementlaw06_examples.mono _
      | exact LeO.none _
      | refine LeO.ite ?_ ?_
      | refine LeO.bind ?_ (fun _ => ?_)
    · intro y0 y1 y2 y3 y4 y5 y6 y7 y8 y9 y10 y11 y12 y13 y14
      unfold tenementlaw06_VecOrder_p1.j1
      repeat' first
      | (with_reducible exact ih0 _ _ _ _ _ _ _ _ _ _ _ _ _ _)
      | (with_reducible exact ih1 _ _ _ _ _ _ _ _ _ _ _ _ _ _ _)
      | (with_reducible exact tenementlaw06_Vector_vector.mono _ _ _ _ _ _)
      | (with_reducible exact tenementlaw06_examples.mono _)
      | (with_reducible exact LeO.refl _)
      | (with_reducible exact LeO.none _)
      | (with_reducible refine LeO.ite ?_ ?_)
      | (with_reducible refine LeO.bind ?_ (fun _ => ?_))
      | exact ih0 _ _ _ _ _ _ _ _ _ _ _ _ _ _
      | exact ih1 _ _ _ _ _ _ _ _ _ _ _ _ _ _ _
      | exact tenementlaw06_Vector_vector.mono _ _ _ _ _ _
      | exact tenementlaw06_examples.mono _
      | exact LeO.none _
      | refine LeO.ite ?_ ?_
      | refine LeO.bind ?_ (fun _ => ?_)
theorem tenementlaw06_VecOrder_p1.mono : ∀ a0 a1 a2 a3 a4 a5 a6 a7 a8 a9 a10 a11 a12 a13 a14 k, LeO (tenementlaw06_VecOrder_p1.f k a0 a1 a2 a3 a4 a5 a6 a7 a8 a9 a10 a11 a12 a13 a14) (tenementlaw06_VecOrder_p1.f (k + 1) a0 a1 a2 a3 a4 a5 a6 a7 a8 a9 a10 a11 a12 a13 a14) := by
  intro a0 a1 a2 a3 a4 a5 a6 a7 a8 a9 a10 a11 a12 a13 a14 k
  obtain ⟨ih0, ih1⟩ := tenementlaw06_VecOrder_p1.mono_l k
  unfold tenementlaw06_VecOrder_p1.f
  repeat' first
      | (with_reducible exact ih0 _ _ _ _ _ _ _ _ _ _ _ _ _ _)
      | (with_reducible exact ih1 _ _ _ _ _ _ _ _ _ _ _ _ _ _ _)
      | (with_reducible exact tenementlaw06_Vector_vector.mono _ _ _ _ _ _)
      | (with_reducible exact tenementlaw06_examples.mono _)
      | (with_reducible exact LeO.refl _)
      | (with_reducible exact LeO.none _)
      | (with_reducible refine LeO.ite ?_ ?_)
      | (with_reducible refine LeO.bind ?_ (fun _ => ?_))
      | exact ih0 _ _ _ _ _ _ _ _ _ _ _ _ _ _
      | exact ih1 _ _ _ _ _ _ _ _ _ _ _ _ _ _ _
      | exact tenementlaw06_Vector_vector.mono _ _ _ _ _ _
      | exact tenementlaw06_examples.mono _
      | exact LeO.none _
      | refine LeO.ite ?_ ?_
      | refine LeO.bind ?_ (fun _ => ?_)
def tenementlaw06_VecOrder_p1.T9 : Bool × List (List Nat × List Nat) := (true, [([], []), ([0], [0]), ([1], [1]), ([1], [1]), ([2, 3, 1, 1], [1, 2, 3]), ([1, 4], [1, 4]), ([5, 4], [5]), ([6], [6]), ([6], [6]), ([6], [6]), ([8, 9, 6], [6, 8, 9]), ([7, 10, 6], [6, 7, 10]), ([6, 11], [6, 11]), ([12, 6], [12]), ([13], [13]), ([13], [13]), ([14, 15, 13, 13], [13, 14, 15]), ([16, 13], [13, 16]), ([17, 16, 13], [13, 17]), ([18], [18]), ([18], [18]), ([19, 20, 18, 18], [18, 19, 20]), ([21, 18], [18, 21]), ([18, 22, 13], [13, 18, 22]), ([23, 21, 13], [13, 23]), ([24], [24]), ([24], [24]), ([25, 26, 24, 24], [24, 25, 26]), ([24, 27, 13], [13, 24, 27]), ([13, 28], [13, 28]), ([29, 27], [29]), ([30], [30]), ([31, 30], [30, 31]), ([32, 30, 30], [30, 32]), ([33], [33]), ([33], [33]), ([34, 35, 33], [33, 34, 35]), ([33, 36, 30], [30, 33, 36]), ([37, 33, 30], [30, 37]), ([38], [38]), ([38], [38]), ([39, 40, 38, 38], [38, 39, 40]), ([41, 38], [38, 41]), ([38, 42, 30], [30, 38, 42]), ([43, 41, 30], [30, 43]), ([44], [44]), ([45, 44, 44], [44, 45]), ([44], [44]), ([47, 46, 44], [44, 47]), ([46, 48, 44], [44, 46, 48]), ([44, 49, 30], [30, 44, 49]), ([30, 50], [30, 50]), ([51, 48], [51]), ([52], [52]), ([52], [52]), ([53, 54, 52, 52], [52, 53, 54]), ([52], [52]), ([52], [52]), ([56, 57, 55, 52], [52, 56, 57]), ([52], [52]), ([58, 59, 52], [52, 58, 59]), ([55, 60, 52], [52, 55, 60]), ([52, 61], [52, 61]), ([62, 58], [62]), ([63], [63]), ([63], [63]), ([64, 65, 63, 63], [63, 64, 65]), ([63, 66], [63, 66]), ([67, 66, 0, 1, 2, 3, 4, 5, 6, 7, 8, 9, 10, 11, 12, 13, 14, 15, 16, 17, 18, 19, 20, 21, 22, 23, 24, 25, 26, 27, 28, 29, 30, 31, 32, 33, 34, 35, 36, 37, 38, 39, 40, 41, 42, 43, 44, 45, 46, 47, 48, 49, 50, 51, 52, 53, 54, 55, 56, 57, 58, 59, 60, 61, 62, 63, 64, 65, 66, 67], [67])])
def tenementlaw06_VecOrder_p1.B9 : List Nat := [0, 1, 3, 3, 15, 31, 63, 127, 127, 127, 895, 2047, 4095, 8191, 16383, 16383, 65535, 131071, 262143, 524287, 524287, 2097151, 4194303, 8388607, 16777215, 33554431, 33554431, 134217727, 268435455, 536870911, 1073741823, 2147483647, 4294967295, 8589934591, 17179869183, 17179869183, 68719476735, 137438953471, 274877906943, 549755813887, 549755813887, 2199023255551, 4398046511103, 8796093022207, 17592186044415, 35184372088831, 70368744177663, 35184372088831, 281474976710655, 562949953421311, 1125899906842623, 2251799813685247, 4503599627370495, 9007199254740991, 9007199254740991, 36028797018963967, 9007199254740991, 9007199254740991, 288230376151711743, 9007199254740991, 1152921504606846975, 2305843009213693951, 4611686018427387903, 9223372036854775807, 18446744073709551615, 18446744073709551615, 73786976294838206463, 147573952589676412927, 295147905179352825855]
theorem tenementlaw06_VecOrder_p1.tab9 : rtab .any (opsOf Tryd.f6 9) = tenementlaw06_VecOrder_p1.T9 := by kernel_rfl
theorem tenementlaw06_VecOrder_p1.bits9 : waitsOk tenementlaw06_VecOrder_p1.T9.2 tenementlaw06_VecOrder_p1.B9 = true := by kernel_rfl
set_option maxHeartbeats 8000000 in
set_option maxRecDepth 100000 in
theorem tenementlaw06_VecOrder_p1.calls (k : Nat) (a0_0 : Int) (a0_1 : Int) (a0_2 : Int) (a0_3 : Int) (a0_4 : Bool) (a1_0 : Int) (a1_1 : Int) (a1_2 : Int) (a1_3 : Int) (a1_4 : Bool) (a2_0 : Int) (a2_1 : Int) (a2_2 : Int) (a2_3 : Int) (a2_4 : Bool) (r : Bool) (w : World) (h : tenementlaw06_VecOrder_p1.f k a0_0 a0_1 a0_2 a0_3 a0_4 a1_0 a1_1 a1_2 a1_3 a1_4 a2_0 a2_1 a2_2 a2_3 a2_4 = some r) :
    Calls Tryd.prog 6 #[.agg #[.int .u64 a0_0, .int .u64 a0_1, .int .u64 a0_2, .int .u64 a0_3, .bool a0_4], .agg #[.int .u64 a1_0, .int .u64 a1_1, .int .u64 a1_2, .int .u64 a1_3, .bool a1_4], .agg #[.int .u64 a2_0, .int .u64 a2_1, .int .u64 a2_2, .int .u64 a2_3, .bool a2_4]] w fun e w' => e = .returned (.bool r) ∧ Below w.heap.size w w' := by
  have hu26 := Tryd.underlying26
  have hu24 := Tryd.underlying24
  have HB := Aside0.mk (Below.refl w.heap.size w)
  have H : ((tenementlaw06_examples.f k).bind fun t740 => (if t740 = true then ((tenementlaw06_Vector_vector.f k a0_0 a0_1 a0_2 a0_3 a0_4).bind fun bt741 => ((tenementlaw06_Vector_vector.f k a1_0 a1_1 a1_2 a1_3 a1_4).bind fun bt746 => ((tenementlaw06_Vector_vector.f k a2_0 a2_1 a2_2 a2_3 a2_4).bind fun bt751 => ((vec_Leq.f bt741.1 bt741.2.1 bt741.2.2.1 bt741.2.2.2 bt746.1 bt746.2.1 bt746.2.2.1 bt746.2.2.2).bind fun t756 => (if t756 = true then ((vec_Leq.f bt746.1 bt746.2.1 bt746.2.2.1 bt746.2.2.2 bt741.1 bt741.2.1 bt741.2.2.1 bt741.2.2.2).bind fun t757 => (tenementlaw06_VecOrder_p1.j0 k t740 t757 bt741.1 bt741.2.1 bt741.2.2.1 bt741.2.2.2 bt746.1 bt746.2.1 bt746.2.2.1 bt746.2.2.2 bt751.1 bt751.2.1 bt751.2.2.1 bt751.2.2.2)) else (tenementlaw06_VecOrder_p1.j0 k t740 false bt741.1 bt741.2.1 bt741.2.2.1 bt741.2.2.2 bt746.1 bt746.2.1 bt746.2.2.1 bt746.2.2.2 bt751.1 bt751.2.1 bt751.2.2.1 bt751.2.2.2)))))) else (none))) = some r := h
  clear h
  replace H := Option.bind_eq_some_iff.mp H
  obtain ⟨t740, A40, H⟩ := H
  replace H : (if t740 = true then ((tenementlaw06_Vector_vector.f k a0_0 a0_1 a0_2 a0_3 a0_4).bind fun bt741 => ((tenementlaw06_Vector_vector.f k a1_0 a1_1 a1_2 a1_3 a1_4).bind fun bt746 => ((tenementlaw06_Vector_vector.f k a2_0 a2_1 a2_2 a2_3 a2_4).bind fun bt751 => ((vec_Leq.f bt741.1 bt741.2.1 bt741.2.2.1 bt741.2.2.2 bt746.1 bt746.2.1 bt746.2.2.1 bt746.2.2.2).bind fun t756 => (if t756 = true then ((vec_Leq.f bt746.1 bt746.2.1 bt746.2.2.1 bt746.2.2.2 bt741.1 bt741.2.1 bt741.2.2.1 bt741.2.2.2).bind fun t757 => (tenementlaw06_VecOrder_p1.j0 k t740 t757 bt741.1 bt741.2.1 bt741.2.2.1 bt741.2.2.2 bt746.1 bt746.2.1 bt746.2.2.1 bt746.2.2.2 bt751.1 bt751.2.1 bt751.2.2.1 bt751.2.2.2)) else (tenementlaw06_VecOrder_p1.j0 k t740 false bt741.1 bt741.2.1 bt741.2.2.1 bt741.2.2.2 bt746.1 bt746.2.1 bt746.2.2.1 bt746.2.2.2 bt751.1 bt751.2.1 bt751.2.2.1 bt751.2.2.2)))))) else (none)) = some r := H
  have A4 := Aside0.mk A40
  clear A40
  by_cases c5 : t740 = true
  rotate_left
  · replace c5 := Bool.eq_false_iff.mpr c5
    subst c5
    have H1 : (none) = some r := by rw [if_neg (show ¬ (false = true) by decide)] at H; exact H
    clear H
    have H := H1
    clear H1
    exact absurd H (by simp)
  subst c5
  have H1 : ((tenementlaw06_Vector_vector.f k a0_0 a0_1 a0_2 a0_3 a0_4).bind fun bt741 => ((tenementlaw06_Vector_vector.f k a1_0 a1_1 a1_2 a1_3 a1_4).bind fun bt746 => ((tenementlaw06_Vector_vector.f k a2_0 a2_1 a2_2 a2_3 a2_4).bind fun bt751 => ((vec_Leq.f bt741.1 bt741.2.1 bt741.2.2.1 bt741.2.2.2 bt746.1 bt746.2.1 bt746.2.2.1 bt746.2.2.2).bind fun t756 => (if t756 = true then ((vec_Leq.f bt746.1 bt746.2.1 bt746.2.2.1 bt746.2.2.2 bt741.1 bt741.2.1 bt741.2.2.1 bt741.2.2.2).bind fun t757 => (tenementlaw06_VecOrder_p1.j0 k true t757 bt741.1 bt741.2.1 bt741.2.2.1 bt741.2.2.2 bt746.1 bt746.2.1 bt746.2.2.1 bt746.2.2.2 bt751.1 bt751.2.1 bt751.2.2.1 bt751.2.2.2)) else (tenementlaw06_VecOrder_p1.j0 k true false bt741.1 bt741.2.1 bt741.2.2.1 bt741.2.2.2 bt746.1 bt746.2.1 bt746.2.2.1 bt746.2.2.2 bt751.1 bt751.2.1 bt751.2.2.1 bt751.2.2.2)))))) = some r := by rw [if_pos rfl] at H; exact H
  clear H
  have H := H1
  clear H1
  replace H := Option.bind_eq_some_iff.mp H
  obtain ⟨⟨t741, t742, t743, t744⟩, A60, H⟩ := H
  replace H : ((tenementlaw06_Vector_vector.f k a1_0 a1_1 a1_2 a1_3 a1_4).bind fun bt746 => ((tenementlaw06_Vector_vector.f k a2_0 a2_1 a2_2 a2_3 a2_4).bind fun bt751 => ((vec_Leq.f t741 t742 t743 t744 bt746.1 bt746.2.1 bt746.2.2.1 bt746.2.2.2).bind fun t756 => (if t756 = true then ((vec_Leq.f bt746.1 bt746.2.1 bt746.2.2.1 bt746.2.2.2 t741 t742 t743 t744).bind fun t757 => (tenementlaw06_VecOrder_p1.j0 k true t757 t741 t742 t743 t744 bt746.1 bt746.2.1 bt746.2.2.1 bt746.2.2.2 bt751.1 bt751.2.1 bt751.2.2.1 bt751.2.2.2)) else (tenementlaw06_VecOrder_p1.j0 k true false t741 t742 t743 t744 bt746.1 bt746.2.1 bt746.2.2.1 bt746.2.2.2 bt751.1 bt751.2.1 bt751.2.2.1 bt751.2.2.2))))) = some r := H
  have A6 := Aside0.mk A60
  clear A60
  replace H := Option.bind_eq_some_iff.mp H
  obtain ⟨⟨t746, t747, t748, t749⟩, A70, H⟩ := H
  replace H : ((tenementlaw06_Vector_vector.f k a2_0 a2_1 a2_2 a2_3 a2_4).bind fun bt751 => ((vec_Leq.f t741 t742 t743 t744 t746 t747 t748 t749).bind fun t756 => (if t756 = true then ((vec_Leq.f t746 t747 t748 t749 t741 t742 t743 t744).bind fun t757 => (tenementlaw06_VecOrder_p1.j0 k true t757 t741 t742 t743 t744 t746 t747 t748 t749 bt751.1 bt751.2.1 bt751.2.2.1 bt751.2.2.2)) else (tenementlaw06_VecOrder_p1.j0 k true false t741 t742 t743 t744 t746 t747 t748 t749 bt751.1 bt751.2.1 bt751.2.2.1 bt751.2.2.2)))) = some r := H
  have A7 := Aside0.mk A70
  clear A70
  replace H := Option.bind_eq_some_iff.mp H
  obtain ⟨⟨t751, t752, t753, t754⟩, A80, H⟩ := H
  replace H : ((vec_Leq.f t741 t742 t743 t744 t746 t747 t748 t749).bind fun t756 => (if t756 = true then ((vec_Leq.f t746 t747 t748 t749 t741 t742 t743 t744).bind fun t757 => (tenementlaw06_VecOrder_p1.j0 k true t757 t741 t742 t743 t744 t746 t747 t748 t749 t751 t752 t753 t754)) else (tenementlaw06_VecOrder_p1.j0 k true false t741 t742 t743 t744 t746 t747 t748 t749 t751 t752 t753 t754))) = some r := H
  have A8 := Aside0.mk A80
  clear A80
  have HC9 := Aside0.mk H
  clear H
  go_enter Tryd.func6, Tryd.ntmps6
  go_upto_region 7 with (first | ((with_reducible refine gate_dst (N := 3) rfl ?_); refine Ka_ 3 #[.int .u64 a0_0, .int .u64 a0_1, .int .u64 a0_2, .int .u64 a0_3, .bool a0_4] 26 ?_; intro gb737 hg w10 hbox hb; have BK737 := Aside0.mk (hbox); have GW737 := Kw_ HB hg; have GE737 := GW737; replace HB := Ks_ HB hb; clear hb hbox hg) | ((with_reducible refine gate_dst (N := 4) rfl ?_); refine Ka_ 4 #[.int .u64 a1_0, .int .u64 a1_1, .int .u64 a1_2, .int .u64 a1_3, .bool a1_4] 26 ?_; intro gb738 hg w11 hbox hb; have BK738 := Aside0.mk (hbox); have GW738 := Kw_ HB hg; have GE738 := GW738; have NB737_738 := Kl_ BK737 hg; have NB738_737 := Kr_ BK737 hg; replace BK737 := Kb_ BK737 hb; replace HB := Ks_ HB hb; clear hb hbox hg) | ((with_reducible refine gate_dst (N := 5) rfl ?_); refine Ka_ 5 #[.int .u64 a2_0, .int .u64 a2_1, .int .u64 a2_2, .int .u64 a2_3, .bool a2_4] 26 ?_; intro gb739 hg w12 hbox hb; have BK739 := Aside0.mk (hbox); have GW739 := Kw_ HB hg; have GE739 := GW739; have NB737_739 := Kl_ BK737 hg; have NB739_737 := Kr_ BK737 hg; have NB738_739 := Kl_ BK738 hg; have NB739_738 := Kr_ BK738 hg; replace BK737 := Kb_ BK737 hb; replace BK738 := Kb_ BK738 hb; replace HB := Ks_ HB hb; clear hb hbox hg) | ((with_reducible refine gate_callee (f := 10) rfl ?_); refine Kg_ (some 13) rfl rfl Tryd.func10 (by kernel_rfl) rfl #[] rfl ?_; (with_reducible refine (tenementlaw06_examples.calls k  true _ A4.out).mono ?_); rintro e w13 ⟨rfl, hb⟩; refine ⟨_, rfl, ?_⟩; replace BK737 := Kb_ BK737 hb; replace BK738 := Kb_ BK738 hb; replace BK739 := Kb_ BK739 hb; replace HB := Ks_ HB hb; (try clear hb); (try clear hb2); (try clear hk); (try clear hi); have hnb14 := NB737_738.out; have hnc14 := NB738_737.out; have hnb15 := NB737_739.out; have hnc15 := NB739_737.out; obtain ⟨hcz16_0, hcz16_1, hcz16_2, hcz16_3, hcz16_4, hfz16_0, hfz16_1, hfz16_2, hfz16_3, hfz16_4⟩ := Ke5_ BK737.out) | ((with_reducible refine gate_callee (f := 11) rfl ?_); refine Kg_ (some 17) rfl rfl Tryd.func11 (by kernel_rfl) rfl #[.agg #[.int .u64 a0_0, .int .u64 a0_1, .int .u64 a0_2, .int .u64 a0_3, .bool a0_4]] rfl ?_; (with_reducible refine (tenementlaw06_Vector_vector.calls k a0_0 a0_1 a0_2 a0_3 a0_4 t741 t742 t743 t744 _ A6.out).mono ?_); rintro e w17 ⟨rfl, hb⟩; refine ⟨_, rfl, ?_⟩; replace BK737 := Kb_ BK737 hb; replace BK738 := Kb_ BK738 hb; replace BK739 := Kb_ BK739 hb; replace HB := Ks_ HB hb; (try clear hb); (try clear hb2); (try clear hk); (try clear hi)) | ((with_reducible refine gate_dst (N := 8) rfl ?_); refine Ka_ 8 #[.int .u64 0, .int .u64 0, .int .u64 0, .int .u64 0] 24 ?_; intro gb745 hg w18 hbox hb; have BK745 := Aside0.mk (hbox); have GW745 := Kw_ HB hg; have GE745 := GW745; have NB737_745 := Kl_ BK737 hg; have NB745_737 := Kr_ BK737 hg; have NB738_745 := Kl_ BK738 hg; have NB745_738 := Kr_ BK738 hg; have NB739_745 := Kl_ BK739 hg; have NB745_739 := Kr_ BK739 hg; replace BK737 := Kb_ BK737 hb; replace BK738 := Kb_ BK738 hb; replace BK739 := Kb_ BK739 hb; replace HB := Ks_ HB hb; clear hb hbox hg; have hnb19 := NB745_737.out; have hnc19 := NB737_745.out; have hnb20 := NB745_738.out; have hnc20 := NB738_745.out; have hnb21 := NB745_739.out; have hnc21 := NB739_745.out; obtain ⟨hcz22_0, hcz22_1, hcz22_2, hcz22_3, hfz22_0, hfz22_1, hfz22_2, hfz22_3⟩ := Ke4_ BK745.out; have hnb23 := NB738_739.out; have hnc23 := NB739_738.out; obtain ⟨hcz24_0, hcz24_1, hcz24_2, hcz24_3, hcz24_4, hfz24_0, hfz24_1, hfz24_2, hfz24_3, hfz24_4⟩ := Ke5_ BK738.out) | ((with_reducible refine gate_callee (f := 11) rfl ?_); refine Kg_ (some 19) rfl rfl Tryd.func11 (by kernel_rfl) rfl #[.agg #[.int .u64 a1_0, .int .u64 a1_1, .int .u64 a1_2, .int .u64 a1_3, .bool a1_4]] rfl ?_; (with_reducible refine (tenementlaw06_Vector_vector.calls k a1_0 a1_1 a1_2 a1_3 a1_4 t746 t747 t748 t749 _ A7.out).mono ?_); rintro e w25 ⟨rfl, hb⟩; refine ⟨_, rfl, ?_⟩; replace BK737 := Kf_ BK737 NB737_745 hb; replace BK738 := Kf_ BK738 NB738_745 hb; replace BK739 := Kf_ BK739 NB739_745 hb; replace BK745 := Aside0.mk (blk_below (g := gb745) (o := .cells #[.int .u64 t741, .int .u64 t742, .int .u64 t743, .int .u64 t744] 24 (0, 0)) (by refine Kv_ ?_; refine blk_put (cs := #[.int .u64 t741, .int .u64 t742, .int .u64 t743, .int .u64 0]) ?_ 3 _ rfl; refine Kv_ ?_; refine blk_put (cs := #[.int .u64 t741, .int .u64 t742, .int .u64 0, .int .u64 0]) ?_ 2 _ rfl; refine Kv_ ?_; refine blk_put (cs := #[.int .u64 t741, .int .u64 0, .int .u64 0, .int .u64 0]) ?_ 1 _ rfl; refine Kv_ ?_; refine blk_put (cs := #[.int .u64 0, .int .u64 0, .int .u64 0, .int .u64 0]) ?_ 0 _ rfl; exact Kq_ BK745) hb); replace HB := Kt_ HB GE745 hb; (try clear hb); (try clear hb2); (try clear hk); (try clear hi)) | ((with_reducible refine gate_dst (N := 9) rfl ?_); refine Ka_ 9 #[.int .u64 0, .int .u64 0, .int .u64 0, .int .u64 0] 24 ?_; intro gb750 hg w26 hbox hb; have BK750 := Aside0.mk (hbox); have GW750 := Kw_ HB hg; have GE750 := GW750; have NB737_750 := Kl_ BK737 hg; have NB750_737 := Kr_ BK737 hg; have NB738_750 := Kl_ BK738 hg; have NB750_738 := Kr_ BK738 hg; have NB739_750 := Kl_ BK739 hg; have NB750_739 := Kr_ BK739 hg; have NB745_750 := Kl_ BK745 hg; have NB750_745 := Kr_ BK745 hg; replace BK737 := Kb_ BK737 hb; replace BK738 := Kb_ BK738 hb; replace BK739 := Kb_ BK739 hb; replace BK745 := Kb_ BK745 hb; replace HB := Ks_ HB hb; clear hb hbox hg; have hnb27 := NB750_737.out; have hnc27 := NB737_750.out; have hnb28 := NB750_738.out; have hnc28 := NB738_750.out; have hnb29 := NB750_739.out; have hnc29 := NB739_750.out; have hnb30 := NB750_745.out; have hnc30 := NB745_750.out; obtain ⟨hcz31_0, hcz31_1, hcz31_2, hcz31_3, hfz31_0, hfz31_1, hfz31_2, hfz31_3⟩ := Ke4_ BK750.out; obtain ⟨hcz32_0, hcz32_1, hcz32_2, hcz32_3, hcz32_4, hfz32_0, hfz32_1, hfz32_2, hfz32_3, hfz32_4⟩ := Ke5_ BK739.out) | ((with_reducible refine gate_callee (f := 11) rfl ?_); refine Kg_ (some 21) rfl rfl Tryd.func11 (by kernel_rfl) rfl #[.agg #[.int .u64 a2_0, .int .u64 a2_1, .int .u64 a2_2, .int .u64 a2_3, .bool a2_4]] rfl ?_; (with_reducible refine (tenementlaw06_Vector_vector.calls k a2_0 a2_1 a2_2 a2_3 a2_4 t751 t752 t753 t754 _ A8.out).mono ?_); rintro e w33 ⟨rfl, hb⟩; refine ⟨_, rfl, ?_⟩; replace BK737 := Kf_ BK737 NB737_750 hb; replace BK738 := Kf_ BK738 NB738_750 hb; replace BK739 := Kf_ BK739 NB739_750 hb; replace BK745 := Kf_ BK745 NB745_750 hb; replace BK750 := Aside0.mk (blk_below (g := gb750) (o := .cells #[.int .u64 t746, .int .u64 t747, .int .u64 t748, .int .u64 t749] 24 (0, 0)) (by refine Kv_ ?_; refine blk_put (cs := #[.int .u64 t746, .int .u64 t747, .int .u64 t748, .int .u64 0]) ?_ 3 _ rfl; refine Kv_ ?_; refine blk_put (cs := #[.int .u64 t746, .int .u64 t747, .int .u64 0, .int .u64 0]) ?_ 2 _ rfl; refine Kv_ ?_; refine blk_put (cs := #[.int .u64 t746, .int .u64 0, .int .u64 0, .int .u64 0]) ?_ 1 _ rfl; refine Kv_ ?_; refine blk_put (cs := #[.int .u64 0, .int .u64 0, .int .u64 0, .int .u64 0]) ?_ 0 _ rfl; exact Kq_ BK750) hb); replace HB := Kt_ HB GE750 hb; (try clear hb); (try clear hb2); (try clear hk); (try clear hi)) | ((with_reducible refine gate_dst (N := 10) rfl ?_); refine Ka_ 10 #[.int .u64 0, .int .u64 0, .int .u64 0, .int .u64 0] 24 ?_; intro gb755 hg w34 hbox hb; have BK755 := Aside0.mk (hbox); have GW755 := Kw_ HB hg; have GE755 := GW755; have NB737_755 := Kl_ BK737 hg; have NB755_737 := Kr_ BK737 hg; have NB738_755 := Kl_ BK738 hg; have NB755_738 := Kr_ BK738 hg; have NB739_755 := Kl_ BK739 hg; have NB755_739 := Kr_ BK739 hg; have NB745_755 := Kl_ BK745 hg; have NB755_745 := Kr_ BK745 hg; have NB750_755 := Kl_ BK750 hg; have NB755_750 := Kr_ BK750 hg; replace BK737 := Kb_ BK737 hb; replace BK738 := Kb_ BK738 hb; replace BK739 := Kb_ BK739 hb; replace BK745 := Kb_ BK745 hb; replace BK750 := Kb_ BK750 hb; replace HB := Ks_ HB hb; clear hb hbox hg; have hnb35 := NB755_737.out; have hnc35 := NB737_755.out; have hnb36 := NB755_738.out; have hnc36 := NB738_755.out; have hnb37 := NB755_739.out; have hnc37 := NB739_755.out; have hnb38 := NB755_745.out; have hnc38 := NB745_755.out; have hnb39 := NB755_750.out; have hnc39 := NB750_755.out; obtain ⟨hcz40_0, hcz40_1, hcz40_2, hcz40_3, hfz40_0, hfz40_1, hfz40_2, hfz40_3⟩ := Ke4_ BK755.out))
  (try simp only [Act.put, List.setIfInBounds_toArray, List.set_cons_zero, List.set_cons_succ])
  go_cut [11] (fun v11 wc => ∃ (kq : Nat) (x11_8 : Bool), v11 = .bool x11_8 ∧ Aside0 (tenementlaw06_VecOrder_p1.j0 kq true x11_8 t741 t742 t743 t744 t746 t747 t748 t749 t751 t752 t753 t754 = some r) ∧ Aside0 (kq ≤ k) ∧ Aside0 (wc.heap[gb737]? = some (.cells #[.int .u64 a0_0, .int .u64 a0_1, .int .u64 a0_2, .int .u64 a0_3, .bool a0_4] 26 (0, 0))) ∧ Aside0 (wc.heap[gb738]? = some (.cells #[.int .u64 a1_0, .int .u64 a1_1, .int .u64 a1_2, .int .u64 a1_3, .bool a1_4] 26 (0, 0))) ∧ Aside0 (wc.heap[gb739]? = some (.cells #[.int .u64 a2_0, .int .u64 a2_1, .int .u64 a2_2, .int .u64 a2_3, .bool a2_4] 26 (0, 0))) ∧ Aside0 (wc.heap[gb745]? = some (.cells #[.int .u64 t741, .int .u64 t742, .int .u64 t743, .int .u64 t744] 24 (0, 0))) ∧ Aside0 (wc.heap[gb750]? = some (.cells #[.int .u64 t746, .int .u64 t747, .int .u64 t748, .int .u64 t749] 24 (0, 0))) ∧ Aside0 (wc.heap[gb755]? = some (.cells #[.int .u64 t751, .int .u64 t752, .int .u64 t753, .int .u64 t754] 24 (0, 0))) ∧ Aside0 (Below w.heap.size w wc))
  case first =>
    have H := HC9.out
    clear HC9
    replace H := Option.bind_eq_some_iff.mp H
    obtain ⟨t756, A410, H⟩ := H
    replace H : (if t756 = true then ((vec_Leq.f t746 t747 t748 t749 t741 t742 t743 t744).bind fun t757 => (tenementlaw06_VecOrder_p1.j0 k true t757 t741 t742 t743 t744 t746 t747 t748 t749 t751 t752 t753 t754)) else (tenementlaw06_VecOrder_p1.j0 k true false t741 t742 t743 t744 t746 t747 t748 t749 t751 t752 t753 t754)) = some r := H
    have A41 := Aside0.mk A410
    clear A410
    by_cases c42 : t756 = true
    rotate_left
    · replace c42 := Bool.eq_false_iff.mpr c42
      subst c42
      have H1 : (tenementlaw06_VecOrder_p1.j0 k true false t741 t742 t743 t744 t746 t747 t748 t749 t751 t752 t753 t754) = some r := by rw [if_neg (show ¬ (false = true) by decide)] at H; exact H
      clear H
      have H := H1
      clear H1
      have H' := Aside0.mk H
      clear H
      have hnb59 := NB745_737.out
      have hnc59 := NB737_745.out
      have hnb60 := NB745_738.out
      have hnc60 := NB738_745.out
      have hnb61 := NB745_739.out
      have hnc61 := NB739_745.out
      have hnb62 := NB745_750.out
      have hnc62 := NB750_745.out
      have hnb63 := NB745_755.out
      have hnc63 := NB755_745.out
      obtain ⟨hcz64_0, hcz64_1, hcz64_2, hcz64_3, hfz64_0, hfz64_1, hfz64_2, hfz64_3⟩ := Ke4_ BK745.out
      have hnb65 := NB750_737.out
      have hnc65 := NB737_750.out
      have hnb66 := NB750_738.out
      have hnc66 := NB738_750.out
      have hnb67 := NB750_739.out
      have hnc67 := NB739_750.out
      have hnb68 := NB750_755.out
      have hnc68 := NB755_750.out
      obtain ⟨hcz69_0, hcz69_1, hcz69_2, hcz69_3, hfz69_0, hfz69_1, hfz69_2, hfz69_3⟩ := Ke4_ BK750.out
      go_wp2_with (first | ((with_reducible refine gate_callee (f := 22) rfl ?_); refine Kg_ (some 24) rfl rfl Tryd.func22 (by kernel_rfl) rfl #[.agg #[.int .u64 t741, .int .u64 t742, .int .u64 t743, .int .u64 t744], .agg #[.int .u64 t746, .int .u64 t747, .int .u64 t748, .int .u64 t749]] rfl ?_; (with_reducible refine (vec_Leq.calls t741 t742 t743 t744 t746 t747 t748 t749 false _ A41.out).mono ?_); rintro e w70 ⟨rfl, hb⟩; refine ⟨_, rfl, ?_⟩; replace BK737 := Kf_ BK737 NB737_755 hb; replace BK738 := Kf_ BK738 NB738_755 hb; replace BK739 := Kf_ BK739 NB739_755 hb; replace BK745 := Kf_ BK745 NB745_755 hb; replace BK750 := Kf_ BK750 NB750_755 hb; replace BK755 := Aside0.mk (blk_below (g := gb755) (o := .cells #[.int .u64 t751, .int .u64 t752, .int .u64 t753, .int .u64 t754] 24 (0, 0)) (by refine Kv_ ?_; refine blk_put (cs := #[.int .u64 t751, .int .u64 t752, .int .u64 t753, .int .u64 0]) ?_ 3 _ rfl; refine Kv_ ?_; refine blk_put (cs := #[.int .u64 t751, .int .u64 t752, .int .u64 0, .int .u64 0]) ?_ 2 _ rfl; refine Kv_ ?_; refine blk_put (cs := #[.int .u64 t751, .int .u64 0, .int .u64 0, .int .u64 0]) ?_ 1 _ rfl; refine Kv_ ?_; refine blk_put (cs := #[.int .u64 0, .int .u64 0, .int .u64 0, .int .u64 0]) ?_ 0 _ rfl; exact Kq_ BK755) hb); replace HB := Kt_ HB GE755 hb; (try clear hb); (try clear hb2); (try clear hk); (try clear hi)))
      go_meet
      case rel => exact ⟨_, (false), (by first | rfl | (simp; done) | (simp [*]; done)), H', ⟨by first | omega | exact Nat.le_refl _⟩, ⟨by exact Kq_ BK737⟩, ⟨by exact Kq_ BK738⟩, ⟨by exact Kq_ BK739⟩, ⟨by exact Kq_ BK745⟩, ⟨by exact Kq_ BK750⟩, ⟨by exact Kq_ BK755⟩, ⟨by repeat (first | (with_reducible first | exact HB.out | apply below_alloc | apply pw_below_drewN | apply below_drew1 | refine below_set ?_ GE737.out | refine below_set ?_ GE738.out | refine below_set ?_ GE739.out | refine below_set ?_ GE745.out | refine below_set ?_ GE750.out | refine below_set ?_ GE755.out) | exact HB.out)⟩⟩
    subst c42
    have H1 : ((vec_Leq.f t746 t747 t748 t749 t741 t742 t743 t744).bind fun t757 => (tenementlaw06_VecOrder_p1.j0 k true t757 t741 t742 t743 t744 t746 t747 t748 t749 t751 t752 t753 t754)) = some r := by rw [if_pos rfl] at H; exact H
    clear H
    have H := H1
    clear H1
    replace H := Option.bind_eq_some_iff.mp H
    obtain ⟨t757, A430, H⟩ := H
    replace H : (tenementlaw06_VecOrder_p1.j0 k true t757 t741 t742 t743 t744 t746 t747 t748 t749 t751 t752 t753 t754) = some r := H
    have A43 := Aside0.mk A430
    clear A430
    have H' := Aside0.mk H
    clear H
    have hnb44 := NB745_737.out
    have hnc44 := NB737_745.out
    have hnb45 := NB745_738.out
    have hnc45 := NB738_745.out
    have hnb46 := NB745_739.out
    have hnc46 := NB739_745.out
    have hnb47 := NB745_750.out
    have hnc47 := NB750_745.out
    have hnb48 := NB745_755.out
    have hnc48 := NB755_745.out
    obtain ⟨hcz49_0, hcz49_1, hcz49_2, hcz49_3, hfz49_0, hfz49_1, hfz49_2, hfz49_3⟩ := Ke4_ BK745.out
    have hnb50 := NB750_737.out
    have hnc50 := NB737_750.out
    have hnb51 := NB750_738.out
    have hnc51 := NB738_750.out
    have hnb52 := NB750_739.out
    have hnc52 := NB739_750.out
    have hnb53 := NB750_755.out
    have hnc53 := NB755_750.out
    obtain ⟨hcz54_0, hcz54_1, hcz54_2, hcz54_3, hfz54_0, hfz54_1, hfz54_2, hfz54_3⟩ := Ke4_ BK750.out
    go_wp2_with (first | ((with_reducible refine gate_callee (f := 22) rfl ?_); refine Kg_ (some 24) rfl rfl Tryd.func22 (by kernel_rfl) rfl #[.agg #[.int .u64 t741, .int .u64 t742, .int .u64 t743, .int .u64 t744], .agg #[.int .u64 t746, .int .u64 t747, .int .u64 t748, .int .u64 t749]] rfl ?_; (with_reducible refine (vec_Leq.calls t741 t742 t743 t744 t746 t747 t748 t749 true _ A41.out).mono ?_); rintro e w55 ⟨rfl, hb⟩; refine ⟨_, rfl, ?_⟩; replace BK737 := Kf_ BK737 NB737_755 hb; replace BK738 := Kf_ BK738 NB738_755 hb; replace BK739 := Kf_ BK739 NB739_755 hb; replace BK745 := Kf_ BK745 NB745_755 hb; replace BK750 := Kf_ BK750 NB750_755 hb; replace BK755 := Aside0.mk (blk_below (g := gb755) (o := .cells #[.int .u64 t751, .int .u64 t752, .int .u64 t753, .int .u64 t754] 24 (0, 0)) (by refine Kv_ ?_; refine blk_put (cs := #[.int .u64 t751, .int .u64 t752, .int .u64 t753, .int .u64 0]) ?_ 3 _ rfl; refine Kv_ ?_; refine blk_put (cs := #[.int .u64 t751, .int .u64 t752, .int .u64 0, .int .u64 0]) ?_ 2 _ rfl; refine Kv_ ?_; refine blk_put (cs := #[.int .u64 t751, .int .u64 0, .int .u64 0, .int .u64 0]) ?_ 1 _ rfl; refine Kv_ ?_; refine blk_put (cs := #[.int .u64 0, .int .u64 0, .int .u64 0, .int .u64 0]) ?_ 0 _ rfl; exact Kq_ BK755) hb); replace HB := Kt_ HB GE755 hb; (try clear hb); (try clear hb2); (try clear hk); (try clear hi); obtain ⟨hcz56_0, hcz56_1, hcz56_2, hcz56_3, hfz56_0, hfz56_1, hfz56_2, hfz56_3⟩ := Ke4_ BK750.out; obtain ⟨hcz57_0, hcz57_1, hcz57_2, hcz57_3, hfz57_0, hfz57_1, hfz57_2, hfz57_3⟩ := Ke4_ BK745.out) | (go_at_call 22; (with_reducible refine (vec_Leq.calls t746 t747 t748 t749 t741 t742 t743 t744 t757 _ A43.out).mono ?_); rintro e w58 ⟨rfl, hb⟩; replace BK737 := Kb_ BK737 hb; replace BK738 := Kb_ BK738 hb; replace BK739 := Kb_ BK739 hb; replace BK745 := Kb_ BK745 hb; replace BK750 := Kb_ BK750 hb; replace BK755 := Kb_ BK755 hb; replace HB := Ks_ HB hb; (try clear hb); (try clear hb2); (try clear hk); (try clear hi)))
    go_meet
    case rel => exact ⟨_, (t757), (by first | rfl | (simp; done) | (simp [*]; done)), H', ⟨by first | omega | exact Nat.le_refl _⟩, ⟨by exact Kq_ BK737⟩, ⟨by exact Kq_ BK738⟩, ⟨by exact Kq_ BK739⟩, ⟨by exact Kq_ BK745⟩, ⟨by exact Kq_ BK750⟩, ⟨by exact Kq_ BK755⟩, ⟨by repeat (first | (with_reducible first | exact HB.out | apply below_alloc | apply pw_below_drewN | apply below_drew1 | refine below_set ?_ GE737.out | refine below_set ?_ GE738.out | refine below_set ?_ GE739.out | refine below_set ?_ GE745.out | refine below_set ?_ GE750.out | refine below_set ?_ GE755.out) | exact HB.out)⟩⟩
  case rest =>
    clear HC9
    try clear c1
    try clear p1
    try clear c2
    try clear p2
    try clear c3
    try clear c4
    try clear c5
    try clear c6
    try clear c10
    try clear c11
    try clear c14
    try clear c15
    try clear c19
    try clear c20
    try clear c21
    try clear c22
    try clear c23
    try clear c27
    try clear c28
    try clear c29
    try clear c30
    try clear c35
    try clear c36
    try clear c37
    try clear c38
    try clear c39
    try clear c42
    try clear c44
    try clear c45
    try clear c46
    try clear c47
    try clear c48
    try clear c50
    try clear c51
    try clear c52
    try clear c53
    try clear c59
    try clear c60
    try clear c61
    try clear c62
    try clear c63
    try clear c65
    try clear c66
    try clear c67
    try clear c68
    try clear hcz16_0
    try clear hcz16_1
    try clear hcz16_2
    try clear hcz16_3
    try clear hcz16_4
    try clear hcz22_0
    try clear hcz22_1
    try clear hcz22_2
    try clear hcz22_3
    try clear hcz24_0
    try clear hcz24_1
    try clear hcz24_2
    try clear hcz24_3
    try clear hcz24_4
    try clear hcz31_0
    try clear hcz31_1
    try clear hcz31_2
    try clear hcz31_3
    try clear hcz32_0
    try clear hcz32_1
    try clear hcz32_2
    try clear hcz32_3
    try clear hcz32_4
    try clear hcz40_0
    try clear hcz40_1
    try clear hcz40_2
    try clear hcz40_3
    try clear hcz49_0
    try clear hcz49_1
    try clear hcz49_2
    try clear hcz49_3
    try clear hcz54_0
    try clear hcz54_1
    try clear hcz54_2
    try clear hcz54_3
    try clear hcz56_0
    try clear hcz56_1
    try clear hcz56_2
    try clear hcz56_3
    try clear hcz57_0
    try clear hcz57_1
    try clear hcz57_2
    try clear hcz57_3
    try clear hcz64_0
    try clear hcz64_1
    try clear hcz64_2
    try clear hcz64_3
    try clear hcz69_0
    try clear hcz69_1
    try clear hcz69_2
    try clear hcz69_3
    try clear hfz16_0
    try clear hfz16_1
    try clear hfz16_2
    try clear hfz16_3
    try clear hfz16_4
    try clear hfz22_0
    try clear hfz22_1
    try clear hfz22_2
    try clear hfz22_3
    try clear hfz24_0
    try clear hfz24_1
    try clear hfz24_2
    try clear hfz24_3
    try clear hfz24_4
    try clear hfz31_0
    try clear hfz31_1
    try clear hfz31_2
    try clear hfz31_3
    try clear hfz32_0
    try clear hfz32_1
    try clear hfz32_2
    try clear hfz32_3
    try clear hfz32_4
    try clear hfz40_0
    try clear hfz40_1
    try clear hfz40_2
    try clear hfz40_3
    try clear hfz49_0
    try clear hfz49_1
    try clear hfz49_2
    try clear hfz49_3
    try clear hfz54_0
    try clear hfz54_1
    try clear hfz54_2
    try clear hfz54_3
    try clear hfz56_0
    try clear hfz56_1
    try clear hfz56_2
    try clear hfz56_3
    try clear hfz57_0
    try clear hfz57_1
    try clear hfz57_2
    try clear hfz57_3
    try clear hfz64_0
    try clear hfz64_1
    try clear hfz64_2
    try clear hfz64_3
    try clear hfz69_0
    try clear hfz69_1
    try clear hfz69_2
    try clear hfz69_3
    obtain ⟨kq, x11_8, rfl, HA, HJ8, BK737, BK738, BK739, BK745, BK750, BK755, HB⟩ := hcut
    cases kq with
    | zero => exact absurd HA.out (by simp [tenementlaw06_VecOrder_p1.j0])
    | succ kj8 =>
      have H := HA.out
      clear HA
      simp only [tenementlaw06_VecOrder_p1.j0] at H
      have HC71 := Aside0.mk H
      clear H
      go_upto_region 8 with (fail)
      go_cut [12] (fun v12 wc => ∃ (kq : Nat) (x12_70 : Bool), v12 = .bool x12_70 ∧ Aside0 (tenementlaw06_VecOrder_p1.j1 kq true x11_8 x12_70 t741 t742 t743 t744 t746 t747 t748 t749 t751 t752 t753 t754 = some r) ∧ Aside0 (kq ≤ kj8) ∧ Aside0 (wc.heap[gb737]? = some (.cells #[.int .u64 a0_0, .int .u64 a0_1, .int .u64 a0_2, .int .u64 a0_3, .bool a0_4] 26 (0, 0))) ∧ Aside0 (wc.heap[gb738]? = some (.cells #[.int .u64 a1_0, .int .u64 a1_1, .int .u64 a1_2, .int .u64 a1_3, .bool a1_4] 26 (0, 0))) ∧ Aside0 (wc.heap[gb739]? = some (.cells #[.int .u64 a2_0, .int .u64 a2_1, .int .u64 a2_2, .int .u64 a2_3, .bool a2_4] 26 (0, 0))) ∧ Aside0 (wc.heap[gb745]? = some (.cells #[.int .u64 t741, .int .u64 t742, .int .u64 t743, .int .u64 t744] 24 (0, 0))) ∧ Aside0 (wc.heap[gb750]? = some (.cells #[.int .u64 t746, .int .u64 t747, .int .u64 t748, .int .u64 t749] 24 (0, 0))) ∧ Aside0 (wc.heap[gb755]? = some (.cells #[.int .u64 t751, .int .u64 t752, .int .u64 t753, .int .u64 t754] 24 (0, 0))) ∧ Aside0 (Below w.heap.size w wc))
      case first =>
        have H := HC71.out
        clear HC71
        replace H := Option.bind_eq_some_iff.mp H
        obtain ⟨t758, A720, H⟩ := H
        replace H : (if t758 = true then ((vec_Right.f t746 t747 t748 t749).bind fun t759 => (tenementlaw06_VecOrder_p1.j1 kj8 true x11_8 t759 t741 t742 t743 t744 t746 t747 t748 t749 t751 t752 t753 t754)) else (tenementlaw06_VecOrder_p1.j1 kj8 true x11_8 false t741 t742 t743 t744 t746 t747 t748 t749 t751 t752 t753 t754)) = some r := H
        have A72 := Aside0.mk A720
        clear A720
        by_cases c73 : t758 = true
        rotate_left
        · replace c73 := Bool.eq_false_iff.mpr c73
          subst c73
          have H1 : (tenementlaw06_VecOrder_p1.j1 kj8 true x11_8 false t741 t742 t743 t744 t746 t747 t748 t749 t751 t752 t753 t754) = some r := by rw [if_neg (show ¬ (false = true) by decide)] at H; exact H
          clear H
          have H := H1
          clear H1
          have H' := Aside0.mk H
          clear H
          have hnb88 := NB745_737.out
          have hnc88 := NB737_745.out
          have hnb89 := NB745_738.out
          have hnc89 := NB738_745.out
          have hnb90 := NB745_739.out
          have hnc90 := NB739_745.out
          have hnb91 := NB745_750.out
          have hnc91 := NB750_745.out
          have hnb92 := NB745_755.out
          have hnc92 := NB755_745.out
          obtain ⟨hcz93_0, hcz93_1, hcz93_2, hcz93_3, hfz93_0, hfz93_1, hfz93_2, hfz93_3⟩ := Ke4_ BK745.out
          go_wp2_with (first | ((with_reducible refine gate_callee (f := 20) rfl ?_); refine Kg_ (some 31) rfl rfl Tryd.func20 (by kernel_rfl) rfl #[.agg #[.int .u64 t741, .int .u64 t742, .int .u64 t743, .int .u64 t744]] rfl ?_; (with_reducible refine (vec_Right.calls t741 t742 t743 t744 false _ A72.out).mono ?_); rintro e w94 ⟨rfl, hb⟩; refine ⟨_, rfl, ?_⟩; replace BK737 := Kb_ BK737 hb; replace BK738 := Kb_ BK738 hb; replace BK739 := Kb_ BK739 hb; replace BK745 := Kb_ BK745 hb; replace BK750 := Kb_ BK750 hb; replace BK755 := Kb_ BK755 hb; replace HB := Ks_ HB hb; (try clear hb); (try clear hb2); (try clear hk); (try clear hi)))
          go_meet
          case rel => exact ⟨_, (false), (by first | rfl | (simp; done) | (simp [*]; done)), H', ⟨by have := HJ8.out; first | omega | exact Nat.le_refl _⟩, ⟨by exact Kq_ BK737⟩, ⟨by exact Kq_ BK738⟩, ⟨by exact Kq_ BK739⟩, ⟨by exact Kq_ BK745⟩, ⟨by exact Kq_ BK750⟩, ⟨by exact Kq_ BK755⟩, ⟨by repeat (first | (with_reducible first | exact HB.out | apply below_alloc | apply pw_below_drewN | apply below_drew1 | refine below_set ?_ GE737.out | refine below_set ?_ GE738.out | refine below_set ?_ GE739.out | refine below_set ?_ GE745.out | refine below_set ?_ GE750.out | refine below_set ?_ GE755.out) | exact HB.out)⟩⟩
        subst c73
        have H1 : ((vec_Right.f t746 t747 t748 t749).bind fun t759 => (tenementlaw06_VecOrder_p1.j1 kj8 true x11_8 t759 t741 t742 t743 t744 t746 t747 t748 t749 t751 t752 t753 t754)) = some r := by rw [if_pos rfl] at H; exact H
        clear H
        have H := H1
        clear H1
        replace H := Option.bind_eq_some_iff.mp H
        obtain ⟨t759, A740, H⟩ := H
        replace H : (tenementlaw06_VecOrder_p1.j1 kj8 true x11_8 t759 t741 t742 t743 t744 t746 t747 t748 t749 t751 t752 t753 t754) = some r := H
        have A74 := Aside0.mk A740
        clear A740
        have H' := Aside0.mk H
        clear H
        have hnb75 := NB745_737.out
        have hnc75 := NB737_745.out
        have hnb76 := NB745_738.out
        have hnc76 := NB738_745.out
        have hnb77 := NB745_739.out
        have hnc77 := NB739_745.out
        have hnb78 := NB745_750.out
        have hnc78 := NB750_745.out
        have hnb79 := NB745_755.out
        have hnc79 := NB755_745.out
        obtain ⟨hcz80_0, hcz80_1, hcz80_2, hcz80_3, hfz80_0, hfz80_1, hfz80_2, hfz80_3⟩ := Ke4_ BK745.out
        go_wp2_with (first | ((with_reducible refine gate_callee (f := 20) rfl ?_); refine Kg_ (some 31) rfl rfl Tryd.func20 (by kernel_rfl) rfl #[.agg #[.int .u64 t741, .int .u64 t742, .int .u64 t743, .int .u64 t744]] rfl ?_; (with_reducible refine (vec_Right.calls t741 t742 t743 t744 true _ A72.out).mono ?_); rintro e w81 ⟨rfl, hb⟩; refine ⟨_, rfl, ?_⟩; replace BK737 := Kb_ BK737 hb; replace BK738 := Kb_ BK738 hb; replace BK739 := Kb_ BK739 hb; replace BK745 := Kb_ BK745 hb; replace BK750 := Kb_ BK750 hb; replace BK755 := Kb_ BK755 hb; replace HB := Ks_ HB hb; (try clear hb); (try clear hb2); (try clear hk); (try clear hi); have hnb82 := NB750_737.out; have hnc82 := NB737_750.out; have hnb83 := NB750_738.out; have hnc83 := NB738_750.out; have hnb84 := NB750_739.out; have hnc84 := NB739_750.out; have hnb85 := NB750_755.out; have hnc85 := NB755_750.out; obtain ⟨hcz86_0, hcz86_1, hcz86_2, hcz86_3, hfz86_0, hfz86_1, hfz86_2, hfz86_3⟩ := Ke4_ BK750.out) | (go_at_call 20; (with_reducible refine (vec_Right.calls t746 t747 t748 t749 t759 _ A74.out).mono ?_); rintro e w87 ⟨rfl, hb⟩; replace BK737 := Kb_ BK737 hb; replace BK738 := Kb_ BK738 hb; replace BK739 := Kb_ BK739 hb; replace BK745 := Kb_ BK745 hb; replace BK750 := Kb_ BK750 hb; replace BK755 := Kb_ BK755 hb; replace HB := Ks_ HB hb; (try clear hb); (try clear hb2); (try clear hk); (try clear hi)))
        go_meet
        case rel => exact ⟨_, (t759), (by first | rfl | (simp; done) | (simp [*]; done)), H', ⟨by have := HJ8.out; first | omega | exact Nat.le_refl _⟩, ⟨by exact Kq_ BK737⟩, ⟨by exact Kq_ BK738⟩, ⟨by exact Kq_ BK739⟩, ⟨by exact Kq_ BK745⟩, ⟨by exact Kq_ BK750⟩, ⟨by exact Kq_ BK755⟩, ⟨by repeat (first | (with_reducible first | exact HB.out | apply below_alloc | apply pw_below_drewN | apply below_drew1 | refine below_set ?_ GE737.out | refine below_set ?_ GE738.out | refine below_set ?_ GE739.out | refine below_set ?_ GE745.out | refine below_set ?_ GE750.out | refine below_set ?_ GE755.out) | exact HB.out)⟩⟩
      case rest =>
        clear HC71
        try clear c1
        try clear p1
        try clear c2
        try clear p2
        try clear c3
        try clear c4
        try clear c5
        try clear c6
        try clear c7
        try clear c8
        try clear c9
        try clear c10
        try clear c11
        try clear c14
        try clear c15
        try clear c19
        try clear c20
        try clear c21
        try clear c22
        try clear c23
        try clear c27
        try clear c28
        try clear c29
        try clear c30
        try clear c35
        try clear c36
        try clear c37
        try clear c38
        try clear c39
        try clear c42
        try clear c44
        try clear c45
        try clear c46
        try clear c47
        try clear c48
        try clear c50
        try clear c51
        try clear c52
        try clear c53
        try clear c59
        try clear c60
        try clear c61
        try clear c62
        try clear c63
        try clear c65
        try clear c66
        try clear c67
        try clear c68
        try clear c73
        try clear c75
        try clear c76
        try clear c77
        try clear c78
        try clear c79
        try clear c82
        try clear c83
        try clear c84
        try clear c85
        try clear c88
        try clear c89
        try clear c90
        try clear c91
        try clear c92
        try clear hcz16_0
        try clear hcz16_1
        try clear hcz16_2
        try clear hcz16_3
        try clear hcz16_4
        try clear hcz22_0
        try clear hcz22_1
        try clear hcz22_2
        try clear hcz22_3
        try clear hcz24_0
        try clear hcz24_1
        try clear hcz24_2
        try clear hcz24_3
        try clear hcz24_4
        try clear hcz31_0
        try clear hcz31_1
        try clear hcz31_2
        try clear hcz31_3
        try clear hcz32_0
        try clear hcz32_1
        try clear hcz32_2
        try clear hcz32_3
        try clear hcz32_4
        try clear hcz40_0
        try clear hcz40_1
        try clear hcz40_2
        try clear hcz40_3
        try clear hcz49_0
        try clear hcz49_1
        try clear hcz49_2
        try clear hcz49_3
        try clear hcz54_0
        try clear hcz54_1
        try clear hcz54_2
        try clear hcz54_3
        try clear hcz56_0
        try clear hcz56_1
        try clear hcz56_2
        try clear hcz56_3
        try clear hcz57_0
        try clear hcz57_1
        try clear hcz57_2
        try clear hcz57_3
        try clear hcz64_0
        try clear hcz64_1
        try clear hcz64_2
        try clear hcz64_3
        try clear hcz69_0
        try clear hcz69_1
        try clear hcz69_2
        try clear hcz69_3
        try clear hcz80_0
        try clear hcz80_1
        try clear hcz80_2
        try clear hcz80_3
        try clear hcz86_0
        try clear hcz86_1
        try clear hcz86_2
        try clear hcz86_3
        try clear hcz93_0
        try clear hcz93_1
        try clear hcz93_2
        try clear hcz93_3
        try clear hfz16_0
        try clear hfz16_1
        try clear hfz16_2
        try clear hfz16_3
        try clear hfz16_4
        try clear hfz22_0
        try clear hfz22_1
        try clear hfz22_2
        try clear hfz22_3
        try clear hfz24_0
        try clear hfz24_1
        try clear hfz24_2
        try clear hfz24_3
        try clear hfz24_4
        try clear hfz31_0
        try clear hfz31_1
        try clear hfz31_2
        try clear hfz31_3
        try clear hfz32_0
        try clear hfz32_1
        try clear hfz32_2
        try clear hfz32_3
        try clear hfz32_4
        try clear hfz40_0
        try clear hfz40_1
        try clear hfz40_2
        try clear hfz40_3
        try clear hfz49_0
        try clear hfz49_1
        try clear hfz49_2
        try clear hfz49_3
        try clear hfz54_0
        try clear hfz54_1
        try clear hfz54_2
        try clear hfz54_3
        try clear hfz56_0
        try clear hfz56_1
        try clear hfz56_2
        try clear hfz56_3
        try clear hfz57_0
        try clear hfz57_1
        try clear hfz57_2
        try clear hfz57_3
        try clear hfz64_0
        try clear hfz64_1
        try clear hfz64_2
        try clear hfz64_3
        try clear hfz69_0
        try clear hfz69_1
        try clear hfz69_2
        try clear hfz69_3
        try clear hfz80_0
        try clear hfz80_1
        try clear hfz80_2
        try clear hfz80_3
        try clear hfz86_0
        try clear hfz86_1
        try clear hfz86_2
        try clear hfz86_3
        try clear hfz93_0
        try clear hfz93_1
        try clear hfz93_2
        try clear hfz93_3
        try clear p1
        try clear p2
        obtain ⟨kq, x12_70, rfl, HA, HJ70, BK737, BK738, BK739, BK745, BK750, BK755, HB⟩ := hcut
        cases kq with
        | zero => exact absurd HA.out (by simp [tenementlaw06_VecOrder_p1.j1])
        | succ kj70 =>
          have H := HA.out
          clear HA
          simp only [tenementlaw06_VecOrder_p1.j1] at H
          replace H : ((vec_Leq.f t741 t742 t743 t744 t741 t742 t743 t744).bind fun t760 => (if t760 = true then (if x11_8 = true then (none) else (if (t741 == t746 && (t742 == t747 && (t743 == t748 && (t744 == t749)))) = true then (none) else ((vec_Leq.f t741 t742 t743 t744 t746 t747 t748 t749).bind fun t806 => (if t806 = true then ((vec_Leq.f t746 t747 t748 t749 t751 t752 t753 t754).bind fun t807 => (if t807 = true then ((vec_Leq.f t741 t742 t743 t744 t751 t752 t753 t754).bind fun t808 => (if t808 = true then (if x12_70 = true then ((vec_Leq.f t741 t742 t743 t744 t746 t747 t748 t749).bind fun t809 => (if t809 = true then ((vec_Sum.f t741 t742 t743 t744).bind fun t810 => ((vec_Sum.f t746 t747 t748 t749).bind fun t811 => (if t810 < t811 then ((vec_Leq.f t741 t742 t743 t744 t746 t747 t748 t749).bind fun t812 => ((vec_Join.f t741 t742 t743 t744 t746 t747 t748 t749).bind fun bt813 => (if t812 = true then (if (bt813.1 == t746 && (bt813.2.1 == t747 && (bt813.2.2.1 == t748 && (bt813.2.2.2 == t749)))) = true then ((vec_Leq.f 0 0 0 0 t741 t742 t743 t744).bind fun t817 => (if t817 = true then (some true) else (none))) else (none)) else (none)))) else (none)))) else (none))) else ((vec_Leq.f t741 t742 t743 t744 t746 t747 t748 t749).bind fun t826 => ((vec_Join.f t741 t742 t743 t744 t746 t747 t748 t749).bind fun bt827 => (if t826 = true then (if (bt827.1 == t746 && (bt827.2.1 == t747 && (bt827.2.2.1 == t748 && (bt827.2.2.2 == t749)))) = true then ((vec_Leq.f 0 0 0 0 t741 t742 t743 t744).bind fun t831 => (if t831 = true then (some true) else (none))) else (none)) else (none))))) else (none))) else (if x12_70 = true then ((vec_Leq.f t741 t742 t743 t744 t746 t747 t748 t749).bind fun t833 => (if t833 = true then ((vec_Sum.f t741 t742 t743 t744).bind fun t834 => ((vec_Sum.f t746 t747 t748 t749).bind fun t835 => (if t834 < t835 then ((vec_Leq.f t741 t742 t743 t744 t746 t747 t748 t749).bind fun t836 => ((vec_Join.f t741 t742 t743 t744 t746 t747 t748 t749).bind fun bt837 => (if t836 = true then (if (bt837.1 == t746 && (bt837.2.1 == t747 && (bt837.2.2.1 == t748 && (bt837.2.2.2 == t749)))) = true then ((vec_Leq.f 0 0 0 0 t741 t742 t743 t744).bind fun t841 => (if t841 = true then (some true) else (none))) else (none)) else (none)))) else (none)))) else (none))) else (none)))) else (none))))) else (none))) = some r := by first | (rw [if_pos rfl] at H; exact H) | (rw [if_pos trivial] at H; exact H)
          replace H := Option.bind_eq_some_iff.mp H
          obtain ⟨t760, A950, H⟩ := H
          replace H : (if t760 = true then (if x11_8 = true then (none) else (if (t741 == t746 && (t742 == t747 && (t743 == t748 && (t744 == t749)))) = true then (none) else ((vec_Leq.f t741 t742 t743 t744 t746 t747 t748 t749).bind fun t806 => (if t806 = true then ((vec_Leq.f t746 t747 t748 t749 t751 t752 t753 t754).bind fun t807 => (if t807 = true then ((vec_Leq.f t741 t742 t743 t744 t751 t752 t753 t754).bind fun t808 => (if t808 = true then (if x12_70 = true then ((vec_Leq.f t741 t742 t743 t744 t746 t747 t748 t749).bind fun t809 => (if t809 = true then ((vec_Sum.f t741 t742 t743 t744).bind fun t810 => ((vec_Sum.f t746 t747 t748 t749).bind fun t811 => (if t810 < t811 then ((vec_Leq.f t741 t742 t743 t744 t746 t747 t748 t749).bind fun t812 => ((vec_Join.f t741 t742 t743 t744 t746 t747 t748 t749).bind fun bt813 => (if t812 = true then (if (bt813.1 == t746 && (bt813.2.1 == t747 && (bt813.2.2.1 == t748 && (bt813.2.2.2 == t749)))) = true then ((vec_Leq.f 0 0 0 0 t741 t742 t743 t744).bind fun t817 => (if t817 = true then (some true) else (none))) else (none)) else (none)))) else (none)))) else (none))) else ((vec_Leq.f t741 t742 t743 t744 t746 t747 t748 t749).bind fun t826 => ((vec_Join.f t741 t742 t743 t744 t746 t747 t748 t749).bind fun bt827 => (if t826 = true then (if (bt827.1 == t746 && (bt827.2.1 == t747 && (bt827.2.2.1 == t748 && (bt827.2.2.2 == t749)))) = true then ((vec_Leq.f 0 0 0 0 t741 t742 t743 t744).bind fun t831 => (if t831 = true then (some true) else (none))) else (none)) else (none))))) else (none))) else (if x12_70 = true then ((vec_Leq.f t741 t742 t743 t744 t746 t747 t748 t749).bind fun t833 => (if t833 = true then ((vec_Sum.f t741 t742 t743 t744).bind fun t834 => ((vec_Sum.f t746 t747 t748 t749).bind fun t835 => (if t834 < t835 then ((vec_Leq.f t741 t742 t743 t744 t746 t747 t748 t749).bind fun t836 => ((vec_Join.f t741 t742 t743 t744 t746 t747 t748 t749).bind fun bt837 => (if t836 = true then (if (bt837.1 == t746 && (bt837.2.1 == t747 && (bt837.2.2.1 == t748 && (bt837.2.2.2 == t749)))) = true then ((vec_Leq.f 0 0 0 0 t741 t742 t743 t744).bind fun t841 => (if t841 = true then (some true) else (none))) else (none)) else (none)))) else (none)))) else (none))) else (none)))) else (none))))) else (none)) = some r := H
          have A95 := Aside0.mk A950
          clear A950
          by_cases c96 : t760 = true
          rotate_left
          · replace c96 := Bool.eq_false_iff.mpr c96
            subst c96
            have H1 : (none) = some r := by rw [if_neg (show ¬ (false = true) by decide)] at H; exact H
            clear H
            have H := H1
            clear H1
            exact absurd H (by simp)
          subst c96
          have H1 : (if x11_8 = true then (none) else (if (t741 == t746 && (t742 == t747 && (t743 == t748 && (t744 == t749)))) = true then (none) else ((vec_Leq.f t741 t742 t743 t744 t746 t747 t748 t749).bind fun t806 => (if t806 = true then ((vec_Leq.f t746 t747 t748 t749 t751 t752 t753 t754).bind fun t807 => (if t807 = true then ((vec_Leq.f t741 t742 t743 t744 t751 t752 t753 t754).bind fun t808 => (if t808 = true then (if x12_70 = true then ((vec_Leq.f t741 t742 t743 t744 t746 t747 t748 t749).bind fun t809 => (if t809 = true then ((vec_Sum.f t741 t742 t743 t744).bind fun t810 => ((vec_Sum.f t746 t747 t748 t749).bind fun t811 => (if t810 < t811 then ((vec_Leq.f t741 t742 t743 t744 t746 t747 t748 t749).bind fun t812 => ((vec_Join.f t741 t742 t743 t744 t746 t747 t748 t749).bind fun bt813 => (if t812 = true then (if (bt813.1 == t746 && (bt813.2.1 == t747 && (bt813.2.2.1 == t748 && (bt813.2.2.2 == t749)))) = true then ((vec_Leq.f 0 0 0 0 t741 t742 t743 t744).bind fun t817 => (if t817 = true then (some true) else (none))) else (none)) else (none)))) else (none)))) else (none))) else ((vec_Leq.f t741 t742 t743 t744 t746 t747 t748 t749).bind fun t826 => ((vec_Join.f t741 t742 t743 t744 t746 t747 t748 t749).bind fun bt827 => (if t826 = true then (if (bt827.1 == t746 && (bt827.2.1 == t747 && (bt827.2.2.1 == t748 && (bt827.2.2.2 == t749)))) = true then ((vec_Leq.f 0 0 0 0 t741 t742 t743 t744).bind fun t831 => (if t831 = true then (some true) else (none))) else (none)) else (none))))) else (none))) else (if x12_70 = true then ((vec_Leq.f t741 t742 t743 t744 t746 t747 t748 t749).bind fun t833 => (if t833 = true then ((vec_Sum.f t741 t742 t743 t744).bind fun t834 => ((vec_Sum.f t746 t747 t748 t749).bind fun t835 => (if t834 < t835 then ((vec_Leq.f t741 t742 t743 t744 t746 t747 t748 t749).bind fun t836 => ((vec_Join.f t741 t742 t743 t744 t746 t747 t748 t749).bind fun bt837 => (if t836 = true then (if (bt837.1 == t746 && (bt837.2.1 == t747 && (bt837.2.2.1 == t748 && (bt837.2.2.2 == t749)))) = true then ((vec_Leq.f 0 0 0 0 t741 t742 t743 t744).bind fun t841 => (if t841 = true then (some true) else (none))) else (none)) else (none)))) else (none)))) else (none))) else (none)))) else (none))))) = some r := by rw [if_pos rfl] at H; exact H
          clear H
          have H := H1
          clear H1
          by_cases c97 : x11_8 = true
          · subst c97
            have H1 : (none) = some r := by rw [if_pos rfl] at H; exact H
            clear H
            have H := H1
            clear H1
            exact absurd H (by simp)
          replace c97 := Bool.eq_false_iff.mpr c97
          subst c97
          have H1 : (if (t741 == t746 && (t742 == t747 && (t743 == t748 && (t744 == t749)))) = true then (none) else ((vec_Leq.f t741 t742 t743 t744 t746 t747 t748 t749).bind fun t806 => (if t806 = true then ((vec_Leq.f t746 t747 t748 t749 t751 t752 t753 t754).bind fun t807 => (if t807 = true then ((vec_Leq.f t741 t742 t743 t744 t751 t752 t753 t754).bind fun t808 => (if t808 = true then (if x12_70 = true then ((vec_Leq.f t741 t742 t743 t744 t746 t747 t748 t749).bind fun t809 => (if t809 = true then ((vec_Sum.f t741 t742 t743 t744).bind fun t810 => ((vec_Sum.f t746 t747 t748 t749).bind fun t811 => (if t810 < t811 then ((vec_Leq.f t741 t742 t743 t744 t746 t747 t748 t749).bind fun t812 => ((vec_Join.f t741 t742 t743 t744 t746 t747 t748 t749).bind fun bt813 => (if t812 = true then (if (bt813.1 == t746 && (bt813.2.1 == t747 && (bt813.2.2.1 == t748 && (bt813.2.2.2 == t749)))) = true then ((vec_Leq.f 0 0 0 0 t741 t742 t743 t744).bind fun t817 => (if t817 = true then (some true) else (none))) else (none)) else (none)))) else (none)))) else (none))) else ((vec_Leq.f t741 t742 t743 t744 t746 t747 t748 t749).bind fun t826 => ((vec_Join.f t741 t742 t743 t744 t746 t747 t748 t749).bind fun bt827 => (if t826 = true then (if (bt827.1 == t746 && (bt827.2.1 == t747 && (bt827.2.2.1 == t748 && (bt827.2.2.2 == t749)))) = true then ((vec_Leq.f 0 0 0 0 t741 t742 t743 t744).bind fun t831 => (if t831 = true then (some true) else (none))) else (none)) else (none))))) else (none))) else (if x12_70 = true then ((vec_Leq.f t741 t742 t743 t744 t746 t747 t748 t749).bind fun t833 => (if t833 = true then ((vec_Sum.f t741 t742 t743 t744).bind fun t834 => ((vec_Sum.f t746 t747 t748 t749).bind fun t835 => (if t834 < t835 then ((vec_Leq.f t741 t742 t743 t744 t746 t747 t748 t749).bind fun t836 => ((vec_Join.f t741 t742 t743 t744 t746 t747 t748 t749).bind fun bt837 => (if t836 = true then (if (bt837.1 == t746 && (bt837.2.1 == t747 && (bt837.2.2.1 == t748 && (bt837.2.2.2 == t749)))) = true then ((vec_Leq.f 0 0 0 0 t741 t742 t743 t744).bind fun t841 => (if t841 = true then (some true) else (none))) else (none)) else (none)))) else (none)))) else (none))) else (none)))) else (none)))) = some r := by rw [if_neg (show ¬ (false = true) by decide)] at H; exact H
          clear H
          have H := H1
          clear H1
          by_cases c98 : (t741 == t746 && (t742 == t747 && (t743 == t748 && (t744 == t749)))) = true
          · rw [if_pos c98] at H
            exact absurd H (by simp)
          rw [if_neg c98] at H
          have c98b0 : (t741 == t746 && (t742 == t747 && (t743 == t748 && (t744 == t749)))) = false := by simpa using c98
          (try (have c98b1 : decide (t741 = t746 && (t742 == t747 && (t743 == t748 && (t744 == t749)))) = false := by simpa using c98))
          (try (have c98b2 : (t741 == t746 && (t742 == t747 && (t743 == t748 && (t744 == t749)))) = false := by simpa using c98))
          (try (have c98b3 : ¬ (t741 = t746 && (t742 == t747 && (t743 == t748 && (t744 == t749)))) := by simpa using c98))
          clear c98
          replace H := Option.bind_eq_some_iff.mp H
          obtain ⟨t806, A990, H⟩ := H
          replace H : (if t806 = true then ((vec_Leq.f t746 t747 t748 t749 t751 t752 t753 t754).bind fun t807 => (if t807 = true then ((vec_Leq.f t741 t742 t743 t744 t751 t752 t753 t754).bind fun t808 => (if t808 = true then (if x12_70 = true then ((vec_Leq.f t741 t742 t743 t744 t746 t747 t748 t749).bind fun t809 => (if t809 = true then ((vec_Sum.f t741 t742 t743 t744).bind fun t810 => ((vec_Sum.f t746 t747 t748 t749).bind fun t811 => (if t810 < t811 then ((vec_Leq.f t741 t742 t743 t744 t746 t747 t748 t749).bind fun t812 => ((vec_Join.f t741 t742 t743 t744 t746 t747 t748 t749).bind fun bt813 => (if t812 = true then (if (bt813.1 == t746 && (bt813.2.1 == t747 && (bt813.2.2.1 == t748 && (bt813.2.2.2 == t749)))) = true then ((vec_Leq.f 0 0 0 0 t741 t742 t743 t744).bind fun t817 => (if t817 = true then (some true) else (none))) else (none)) else (none)))) else (none)))) else (none))) else ((vec_Leq.f t741 t742 t743 t744 t746 t747 t748 t749).bind fun t826 => ((vec_Join.f t741 t742 t743 t744 t746 t747 t748 t749).bind fun bt827 => (if t826 = true then (if (bt827.1 == t746 && (bt827.2.1 == t747 && (bt827.2.2.1 == t748 && (bt827.2.2.2 == t749)))) = true then ((vec_Leq.f 0 0 0 0 t741 t742 t743 t744).bind fun t831 => (if t831 = true then (some true) else (none))) else (none)) else (none))))) else (none))) else (if x12_70 = true then ((vec_Leq.f t741 t742 t743 t744 t746 t747 t748 t749).bind fun t833 => (if t833 = true then ((vec_Sum.f t741 t742 t743 t744).bind fun t834 => ((vec_Sum.f t746 t747 t748 t749).bind fun t835 => (if t834 < t835 then ((vec_Leq.f t741 t742 t743 t744 t746 t747 t748 t749).bind fun t836 => ((vec_Join.f t741 t742 t743 t744 t746 t747 t748 t749).bind fun bt837 => (if t836 = true then (if (bt837.1 == t746 && (bt837.2.1 == t747 && (bt837.2.2.1 == t748 && (bt837.2.2.2 == t749)))) = true then ((vec_Leq.f 0 0 0 0 t741 t742 t743 t744).bind fun t841 => (if t841 = true then (some true) else (none))) else (none)) else (none)))) else (none)))) else (none))) else (none)))) else (none)) = some r := H
          have A99 := Aside0.mk A990
          clear A990
          by_cases c100 : t806 = true
          rotate_left
          · replace c100 := Bool.eq_false_iff.mpr c100
            subst c100
            have H1 : (none) = some r := by rw [if_neg (show ¬ (false = true) by decide)] at H; exact H
            clear H
            have H := H1
            clear H1
            exact absurd H (by simp)
          subst c100
          have H1 : ((vec_Leq.f t746 t747 t748 t749 t751 t752 t753 t754).bind fun t807 => (if t807 = true then ((vec_Leq.f t741 t742 t743 t744 t751 t752 t753 t754).bind fun t808 => (if t808 = true then (if x12_70 = true then ((vec_Leq.f t741 t742 t743 t744 t746 t747 t748 t749).bind fun t809 => (if t809 = true then ((vec_Sum.f t741 t742 t743 t744).bind fun t810 => ((vec_Sum.f t746 t747 t748 t749).bind fun t811 => (if t810 < t811 then ((vec_Leq.f t741 t742 t743 t744 t746 t747 t748 t749).bind fun t812 => ((vec_Join.f t741 t742 t743 t744 t746 t747 t748 t749).bind fun bt813 => (if t812 = true then (if (bt813.1 == t746 && (bt813.2.1 == t747 && (bt813.2.2.1 == t748 && (bt813.2.2.2 == t749)))) = true then ((vec_Leq.f 0 0 0 0 t741 t742 t743 t744).bind fun t817 => (if t817 = true then (some true) else (none))) else (none)) else (none)))) else (none)))) else (none))) else ((vec_Leq.f t741 t742 t743 t744 t746 t747 t748 t749).bind fun t826 => ((vec_Join.f t741 t742 t743 t744 t746 t747 t748 t749).bind fun bt827 => (if t826 = true then (if (bt827.1 == t746 && (bt827.2.1 == t747 && (bt827.2.2.1 == t748 && (bt827.2.2.2 == t749)))) = true then ((vec_Leq.f 0 0 0 0 t741 t742 t743 t744).bind fun t831 => (if t831 = true then (some true) else (none))) else (none)) else (none))))) else (none))) else (if x12_70 = true then ((vec_Leq.f t741 t742 t743 t744 t746 t747 t748 t749).bind fun t833 => (if t833 = true then ((vec_Sum.f t741 t742 t743 t744).bind fun t834 => ((vec_Sum.f t746 t747 t748 t749).bind fun t835 => (if t834 < t835 then ((vec_Leq.f t741 t742 t743 t744 t746 t747 t748 t749).bind fun t836 => ((vec_Join.f t741 t742 t743 t744 t746 t747 t748 t749).bind fun bt837 => (if t836 = true then (if (bt837.1 == t746 && (bt837.2.1 == t747 && (bt837.2.2.1 == t748 && (bt837.2.2.2 == t749)))) = true then ((vec_Leq.f 0 0 0 0 t741 t742 t743 t744).bind fun t841 => (if t841 = true then (some true) else (none))) else (none)) else (none)))) else (none)))) else (none))) else (none)))) = some r := by rw [if_pos rfl] at H; exact H
          clear H
          have H := H1
          clear H1
          replace H := Option.bind_eq_some_iff.mp H
          obtain ⟨t807, A1010, H⟩ := H
          replace H : (if t807 = true then ((vec_Leq.f t741 t742 t743 t744 t751 t752 t753 t754).bind fun t808 => (if t808 = true then (if x12_70 = true then ((vec_Leq.f t741 t742 t743 t744 t746 t747 t748 t749).bind fun t809 => (if t809 = true then ((vec_Sum.f t741 t742 t743 t744).bind fun t810 => ((vec_Sum.f t746 t747 t748 t749).bind fun t811 => (if t810 < t811 then ((vec_Leq.f t741 t742 t743 t744 t746 t747 t748 t749).bind fun t812 => ((vec_Join.f t741 t742 t743 t744 t746 t747 t748 t749).bind fun bt813 => (if t812 = true then (if (bt813.1 == t746 && (bt813.2.1 == t747 && (bt813.2.2.1 == t748 && (bt813.2.2.2 == t749)))) = true then ((vec_Leq.f 0 0 0 0 t741 t742 t743 t744).bind fun t817 => (if t817 = true then (some true) else (none))) else (none)) else (none)))) else (none)))) else (none))) else ((vec_Leq.f t741 t742 t743 t744 t746 t747 t748 t749).bind fun t826 => ((vec_Join.f t741 t742 t743 t744 t746 t747 t748 t749).bind fun bt827 => (if t826 = true then (if (bt827.1 == t746 && (bt827.2.1 == t747 && (bt827.2.2.1 == t748 && (bt827.2.2.2 == t749)))) = true then ((vec_Leq.f 0 0 0 0 t741 t742 t743 t744).bind fun t831 => (if t831 = true then (some true) else (none))) else (none)) else (none))))) else (none))) else (if x12_70 = true then ((vec_Leq.f t741 t742 t743 t744 t746 t747 t748 t749).bind fun t833 => (if t833 = true then ((vec_Sum.f t741 t742 t743 t744).bind fun t834 => ((vec_Sum.f t746 t747 t748 t749).bind fun t835 => (if t834 < t835 then ((vec_Leq.f t741 t742 t743 t744 t746 t747 t748 t749).bind fun t836 => ((vec_Join.f t741 t742 t743 t744 t746 t747 t748 t749).bind fun bt837 => (if t836 = true then (if (bt837.1 == t746 && (bt837.2.1 == t747 && (bt837.2.2.1 == t748 && (bt837.2.2.2 == t749)))) = true then ((vec_Leq.f 0 0 0 0 t741 t742 t743 t744).bind fun t841 => (if t841 = true then (some true) else (none))) else (none)) else (none)))) else (none)))) else (none))) else (none))) = some r := H
          have A101 := Aside0.mk A1010
          clear A1010
          by_cases c102 : t807 = true
          rotate_left
          · replace c102 := Bool.eq_false_iff.mpr c102
            subst c102
            have H1 : (if x12_70 = true then ((vec_Leq.f t741 t742 t743 t744 t746 t747 t748 t749).bind fun t833 => (if t833 = true then ((vec_Sum.f t741 t742 t743 t744).bind fun t834 => ((vec_Sum.f t746 t747 t748 t749).bind fun t835 => (if t834 < t835 then ((vec_Leq.f t741 t742 t743 t744 t746 t747 t748 t749).bind fun t836 => ((vec_Join.f t741 t742 t743 t744 t746 t747 t748 t749).bind fun bt837 => (if t836 = true then (if (bt837.1 == t746 && (bt837.2.1 == t747 && (bt837.2.2.1 == t748 && (bt837.2.2.2 == t749)))) = true then ((vec_Leq.f 0 0 0 0 t741 t742 t743 t744).bind fun t841 => (if t841 = true then (some true) else (none))) else (none)) else (none)))) else (none)))) else (none))) else (none)) = some r := by rw [if_neg (show ¬ (false = true) by decide)] at H; exact H
            clear H
            have H := H1
            clear H1
            by_cases c142 : x12_70 = true
            rotate_left
            · replace c142 := Bool.eq_false_iff.mpr c142
              subst c142
              have H1 : (none) = some r := by rw [if_neg (show ¬ (false = true) by decide)] at H; exact H
              clear H
              have H := H1
              clear H1
              exact absurd H (by simp)
            subst c142
            have H1 : ((vec_Leq.f t741 t742 t743 t744 t746 t747 t748 t749).bind fun t833 => (if t833 = true then ((vec_Sum.f t741 t742 t743 t744).bind fun t834 => ((vec_Sum.f t746 t747 t748 t749).bind fun t835 => (if t834 < t835 then ((vec_Leq.f t741 t742 t743 t744 t746 t747 t748 t749).bind fun t836 => ((vec_Join.f t741 t742 t743 t744 t746 t747 t748 t749).bind fun bt837 => (if t836 = true then (if (bt837.1 == t746 && (bt837.2.1 == t747 && (bt837.2.2.1 == t748 && (bt837.2.2.2 == t749)))) = true then ((vec_Leq.f 0 0 0 0 t741 t742 t743 t744).bind fun t841 => (if t841 = true then (some true) else (none))) else (none)) else (none)))) else (none)))) else (none))) = some r := by rw [if_pos rfl] at H; exact H
            clear H
            have H := H1
            clear H1
            replace H := Option.bind_eq_some_iff.mp H
            obtain ⟨t833, A1430, H⟩ := H
            replace H : (if t833 = true then ((vec_Sum.f t741 t742 t743 t744).bind fun t834 => ((vec_Sum.f t746 t747 t748 t749).bind fun t835 => (if t834 < t835 then ((vec_Leq.f t741 t742 t743 t744 t746 t747 t748 t749).bind fun t836 => ((vec_Join.f t741 t742 t743 t744 t746 t747 t748 t749).bind fun bt837 => (if t836 = true then (if (bt837.1 == t746 && (bt837.2.1 == t747 && (bt837.2.2.1 == t748 && (bt837.2.2.2 == t749)))) = true then ((vec_Leq.f 0 0 0 0 t741 t742 t743 t744).bind fun t841 => (if t841 = true then (some true) else (none))) else (none)) else (none)))) else (none)))) else (none)) = some r := H
            have A143 := Aside0.mk A1430
            clear A1430
            by_cases c144 : t833 = true
            rotate_left
            · replace c144 := Bool.eq_false_iff.mpr c144
              subst c144
              have H1 : (none) = some r := by rw [if_neg (show ¬ (false = true) by decide)] at H; exact H
              clear H
              have H := H1
              clear H1
              exact absurd H (by simp)
            subst c144
            have H1 : ((vec_Sum.f t741 t742 t743 t744).bind fun t834 => ((vec_Sum.f t746 t747 t748 t749).bind fun t835 => (if t834 < t835 then ((vec_Leq.f t741 t742 t743 t744 t746 t747 t748 t749).bind fun t836 => ((vec_Join.f t741 t742 t743 t744 t746 t747 t748 t749).bind fun bt837 => (if t836 = true then (if (bt837.1 == t746 && (bt837.2.1 == t747 && (bt837.2.2.1 == t748 && (bt837.2.2.2 == t749)))) = true then ((vec_Leq.f 0 0 0 0 t741 t742 t743 t744).bind fun t841 => (if t841 = true then (some true) else (none))) else (none)) else (none)))) else (none)))) = some r := by rw [if_pos rfl] at H; exact H
            clear H
            have H := H1
            clear H1
            replace H := Option.bind_eq_some_iff.mp H
            obtain ⟨t834, A1450, H⟩ := H
            replace H : ((vec_Sum.f t746 t747 t748 t749).bind fun t835 => (if t834 < t835 then ((vec_Leq.f t741 t742 t743 t744 t746 t747 t748 t749).bind fun t836 => ((vec_Join.f t741 t742 t743 t744 t746 t747 t748 t749).bind fun bt837 => (if t836 = true then (if (bt837.1 == t746 && (bt837.2.1 == t747 && (bt837.2.2.1 == t748 && (bt837.2.2.2 == t749)))) = true then ((vec_Leq.f 0 0 0 0 t741 t742 t743 t744).bind fun t841 => (if t841 = true then (some true) else (none))) else (none)) else (none)))) else (none))) = some r := H
            have A145 := Aside0.mk A1450
            clear A1450
            replace H := Option.bind_eq_some_iff.mp H
            obtain ⟨t835, A1460, H⟩ := H
            replace H : (if t834 < t835 then ((vec_Leq.f t741 t742 t743 t744 t746 t747 t748 t749).bind fun t836 => ((vec_Join.f t741 t742 t743 t744 t746 t747 t748 t749).bind fun bt837 => (if t836 = true then (if (bt837.1 == t746 && (bt837.2.1 == t747 && (bt837.2.2.1 == t748 && (bt837.2.2.2 == t749)))) = true then ((vec_Leq.f 0 0 0 0 t741 t742 t743 t744).bind fun t841 => (if t841 = true then (some true) else (none))) else (none)) else (none)))) else (none)) = some r := H
            have A146 := Aside0.mk A1460
            clear A1460
            by_cases c147 : t834 < t835
            rotate_left
            · rw [if_neg c147] at H
              exact absurd H (by simp)
            rw [if_pos c147] at H
            have c147b0 : decide (t834 < t835) = true := decide_eq_true c147
            clear c147
            replace H := Option.bind_eq_some_iff.mp H
            obtain ⟨t836, A1480, H⟩ := H
            replace H : ((vec_Join.f t741 t742 t743 t744 t746 t747 t748 t749).bind fun bt837 => (if t836 = true then (if (bt837.1 == t746 && (bt837.2.1 == t747 && (bt837.2.2.1 == t748 && (bt837.2.2.2 == t749)))) = true then ((vec_Leq.f 0 0 0 0 t741 t742 t743 t744).bind fun t841 => (if t841 = true then (some true) else (none))) else (none)) else (none))) = some r := H
            have A148 := Aside0.mk A1480
            clear A1480
            replace H := Option.bind_eq_some_iff.mp H
            obtain ⟨⟨t837, t838, t839, t840⟩, A1490, H⟩ := H
            replace H : (if t836 = true then (if (t837 == t746 && (t838 == t747 && (t839 == t748 && (t840 == t749)))) = true then ((vec_Leq.f 0 0 0 0 t741 t742 t743 t744).bind fun t841 => (if t841 = true then (some true) else (none))) else (none)) else (none)) = some r := H
            have A149 := Aside0.mk A1490
            clear A1490
            by_cases c150 : t836 = true
            rotate_left
            · replace c150 := Bool.eq_false_iff.mpr c150
              subst c150
              have H1 : (none) = some r := by rw [if_neg (show ¬ (false = true) by decide)] at H; exact H
              clear H
              have H := H1
              clear H1
              exact absurd H (by simp)
            subst c150
            have H1 : (if (t837 == t746 && (t838 == t747 && (t839 == t748 && (t840 == t749)))) = true then ((vec_Leq.f 0 0 0 0 t741 t742 t743 t744).bind fun t841 => (if t841 = true then (some true) else (none))) else (none)) = some r := by rw [if_pos rfl] at H; exact H
            clear H
            have H := H1
            clear H1
            by_cases c151 : (t837 == t746 && (t838 == t747 && (t839 == t748 && (t840 == t749)))) = true
            rotate_left
            · rw [if_neg c151] at H
              exact absurd H (by simp)
            rw [if_pos c151] at H
            have c151b0 : (t837 == t746 && (t838 == t747 && (t839 == t748 && (t840 == t749)))) = true := c151
            (try (have c151b1 : decide (t837 = t746 && (t838 == t747 && (t839 == t748 && (t840 == t749)))) = true := by simpa using c151))
            (try (have c151b2 : (t837 == t746 && (t838 == t747 && (t839 == t748 && (t840 == t749)))) = true := by simpa using c151))
            clear c151
            replace H := Option.bind_eq_some_iff.mp H
            obtain ⟨t841, A1520, H⟩ := H
            replace H : (if t841 = true then (some true) else (none)) = some r := H
            have A152 := Aside0.mk A1520
            clear A1520
            by_cases c153 : t841 = true
            rotate_left
            · replace c153 := Bool.eq_false_iff.mpr c153
              subst c153
              have H1 : (none) = some r := by rw [if_neg (show ¬ (false = true) by decide)] at H; exact H
              clear H
              have H := H1
              clear H1
              exact absurd H (by simp)
            subst c153
            have H1 : (some true) = some r := by rw [if_pos rfl] at H; exact H
            clear H
            have H := H1
            clear H1
            obtain rfl := Option.some.inj H
            try go_wp2
            replace BK737 := Kd_ BK737
            replace BK738 := Kd_ BK738
            replace BK739 := Kd_ BK739
            replace BK745 := Kd_ BK745
            replace BK750 := Kd_ BK750
            replace BK755 := Kd_ BK755
            replace HB := Aside0.mk (below_drew1 HB.out)
            refine start_ (n := 69) (S := fun w' => w'.cell? ⟨gb745, 0, none⟩ = some (.int .u64 t741) ∧ w'.cell? ⟨gb745, 1, none⟩ = some (.int .u64 t742) ∧ w'.cell? ⟨gb745, 2, none⟩ = some (.int .u64 t743) ∧ w'.cell? ⟨gb745, 3, none⟩ = some (.int .u64 t744) ∧ w'.cell? ⟨gb750, 0, none⟩ = some (.int .u64 t746) ∧ w'.cell? ⟨gb750, 1, none⟩ = some (.int .u64 t747) ∧ w'.cell? ⟨gb750, 2, none⟩ = some (.int .u64 t748) ∧ w'.cell? ⟨gb750, 3, none⟩ = some (.int .u64 t749) ∧ w'.cell? ⟨gb755, 0, none⟩ = some (.int .u64 t751) ∧ w'.cell? ⟨gb755, 1, none⟩ = some (.int .u64 t752) ∧ w'.cell? ⟨gb755, 2, none⟩ = some (.int .u64 t753) ∧ w'.cell? ⟨gb755, 3, none⟩ = some (.int .u64 t754)) (ds := []) #[false, false, false, false, false, false, false, false, false, false, false, false, false, false, false, false, false, false, false, false, false, false, false, false, false, false, false, false, false, false, false, false, false, false, false, false, false, false, false, false, false, false, false, false, false, false, false, false, false, false, false, false, false, false, false, false, false, false, false, false, false, false, false, false, false, false, false, false, false] (by kernel_rfl) rfl rfl ⟨Km_ BK745 0, Km_ BK745 1, Km_ BK745 2, Km_ BK745 3, Km_ BK750 0, Km_ BK750 1, Km_ BK750 2, Km_ BK750 3, Km_ BK755 0, Km_ BK755 1, Km_ BK755 2, Km_ BK755 3⟩ (fun hHeld => ?_); refine with_tabW tenementlaw06_VecOrder_p1.tab9 tenementlaw06_VecOrder_p1.bits9 (fun HT_ HW_ => ?_)
            generalize wc.drew = w154 at BK737 BK738 BK739 BK745 BK750 BK755 HB hHeld ⊢
            refine Kp_ 0 36 (Bz 69 1) (any_of HT_.out (by kernel_rfl)) ?_
            refine Kp_ 1 37 (Bz 69 3) (any_of HT_.out (by kernel_rfl)) ?_
            refine Ko_ 2 38 (Bz 69 7) (take_ofW HT_.out HW_.out (by kernel_rfl)) hHeld ?_
            refine Ko_ 3 39 (Bz 69 15) (take_ofW HT_.out HW_.out (by kernel_rfl)) hHeld ?_
            refine one_ (i := 4) (N := some 40) (Bz 69 31) rfl rfl (one_of HT_.out (by kernel_rfl)) (by decide) (fun K hK => ?_)
            refine goes_ Tryd.func22 (by kernel_rfl) rfl #[.agg #[.int .u64 t741, .int .u64 t742, .int .u64 t743, .int .u64 t744], .agg #[.int .u64 t741, .int .u64 t742, .int .u64 t743, .int .u64 t744]] (by rfl) rfl rfl (by (try simp only [List.map_toArray, List.map_cons, List.map_nil]); first | done | rfl | (simp only [List.length_drop, List.length_take]; rfl)) ?_
            with_reducible refine (vec_Leq.calls t741 t742 t743 t744 t741 t742 t743 t744 true _ A95.out).mono ?_
            rintro e w155 ⟨rfl, hb⟩
            refine ⟨_, rfl, ?_⟩
            replace BK737 := Kb_ BK737 hb
            replace BK738 := Kb_ BK738 hb
            replace BK739 := Kb_ BK739 hb
            replace BK745 := Kb_ BK745 hb
            replace BK750 := Kb_ BK750 hb
            replace BK755 := Kb_ BK755 hb
            replace HB := Ks_ HB hb
            (try clear hb)
            (try clear hb2)
            (try clear hk)
            (try clear hi)
            refine hK.out _ _ ⟨Km_ BK745 0, Km_ BK745 1, Km_ BK745 2, Km_ BK745 3, Km_ BK750 0, Km_ BK750 1, Km_ BK750 2, Km_ BK750 3, Km_ BK755 0, Km_ BK755 1, Km_ BK755 2, Km_ BK755 3⟩ (fun hHeld => ?_)
            clear hK K
            refine Kn_ 40 ?_
            refine Kp_ 5 41 (Bz 69 63) (any_of HT_.out (by kernel_rfl)) ?_
            refine Kp_ 6 42 (Bz 69 127) (any_of HT_.out (by kernel_rfl)) ?_
            refine Kp_ 7 43 (Bz 69 255) (any_of HT_.out (by kernel_rfl)) ?_
            refine Ko_ 8 44 (Bz 69 511) (take_ofW HT_.out HW_.out (by kernel_rfl)) hHeld ?_
            refine Ko_ 9 45 (Bz 69 1023) (take_ofW HT_.out HW_.out (by kernel_rfl)) hHeld ?_
            refine Kp_ 10 46 (Bz 69 2047) (any_of HT_.out (by kernel_rfl)) ?_
            refine Kp_ 11 47 (Bz 69 4095) (any_of HT_.out (by kernel_rfl)) ?_
            refine Kp_ 12 48 (Bz 69 8191) (any_of HT_.out (by kernel_rfl)) ?_
            refine Kp_ 13 49 (Bz 69 16383) (any_of HT_.out (by kernel_rfl)) ?_
            refine Ko_ 14 50 (Bz 69 32767) (take_ofW HT_.out HW_.out (by kernel_rfl)) hHeld ?_
            refine Ko_ 15 51 (Bz 69 65535) (take_ofW HT_.out HW_.out (by kernel_rfl)) hHeld ?_
            refine one_ (i := 16) (N := some 52) (Bz 69 131071) rfl rfl (one_of HT_.out (by kernel_rfl)) (by decide) (fun K hK => ?_)
            refine goes_ Tryd.func22 (by kernel_rfl) rfl #[.agg #[.int .u64 t741, .int .u64 t742, .int .u64 t743, .int .u64 t744], .agg #[.int .u64 t746, .int .u64 t747, .int .u64 t748, .int .u64 t749]] (by rfl) rfl rfl (by (try simp only [List.map_toArray, List.map_cons, List.map_nil]); first | done | rfl | (simp only [List.length_drop, List.length_take]; rfl)) ?_
            with_reducible refine (vec_Leq.calls t741 t742 t743 t744 t746 t747 t748 t749 true _ A99.out).mono ?_
            rintro e w156 ⟨rfl, hb⟩
            refine ⟨_, rfl, ?_⟩
            replace BK737 := Kb_ BK737 hb
            replace BK738 := Kb_ BK738 hb
            replace BK739 := Kb_ BK739 hb
            replace BK745 := Kb_ BK745 hb
            replace BK750 := Kb_ BK750 hb
            replace BK755 := Kb_ BK755 hb
            replace HB := Ks_ HB hb
            (try clear hb)
            (try clear hb2)
            (try clear hk)
            (try clear hi)
            refine hK.out _ _ ⟨Km_ BK745 0, Km_ BK745 1, Km_ BK745 2, Km_ BK745 3, Km_ BK750 0, Km_ BK750 1, Km_ BK750 2, Km_ BK750 3, Km_ BK755 0, Km_ BK755 1, Km_ BK755 2, Km_ BK755 3⟩ (fun hHeld => ?_)
            clear hK K
            refine Kn_ 52 ?_
            refine Kp_ 17 53 (Bz 69 262143) (any_of HT_.out (by kernel_rfl)) ?_
            refine Kp_ 18 54 (Bz 69 524287) (any_of HT_.out (by kernel_rfl)) ?_
            refine Ko_ 19 55 (Bz 69 1048575) (take_ofW HT_.out HW_.out (by kernel_rfl)) hHeld ?_
            refine Ko_ 20 56 (Bz 69 2097151) (take_ofW HT_.out HW_.out (by kernel_rfl)) hHeld ?_
            refine one_ (i := 21) (N := some 57) (Bz 69 4194303) rfl rfl (one_of HT_.out (by kernel_rfl)) (by decide) (fun K hK => ?_)
            refine goes_ Tryd.func22 (by kernel_rfl) rfl #[.agg #[.int .u64 t746, .int .u64 t747, .int .u64 t748, .int .u64 t749], .agg #[.int .u64 t751, .int .u64 t752, .int .u64 t753, .int .u64 t754]] (by rfl) rfl rfl (by (try simp only [List.map_toArray, List.map_cons, List.map_nil]); first | done | rfl | (simp only [List.length_drop, List.length_take]; rfl)) ?_
            with_reducible refine (vec_Leq.calls t746 t747 t748 t749 t751 t752 t753 t754 false _ A101.out).mono ?_
            rintro e w157 ⟨rfl, hb⟩
            refine ⟨_, rfl, ?_⟩
            replace BK737 := Kb_ BK737 hb
            replace BK738 := Kb_ BK738 hb
            replace BK739 := Kb_ BK739 hb
            replace BK745 := Kb_ BK745 hb
            replace BK750 := Kb_ BK750 hb
            replace BK755 := Kb_ BK755 hb
            replace HB := Ks_ HB hb
            (try clear hb)
            (try clear hb2)
            (try clear hk)
            (try clear hi)
            refine hK.out _ _ ⟨Km_ BK745 0, Km_ BK745 1, Km_ BK745 2, Km_ BK745 3, Km_ BK750 0, Km_ BK750 1, Km_ BK750 2, Km_ BK750 3, Km_ BK755 0, Km_ BK755 1, Km_ BK755 2, Km_ BK755 3⟩ (fun hHeld => ?_)
            clear hK K
            refine Kn_ 57 ?_
            refine Kp_ 22 58 (Bz 69 8388607) (any_of HT_.out (by kernel_rfl)) ?_
            refine Kp_ 23 59 (Bz 69 16777215) (any_of HT_.out (by kernel_rfl)) ?_
            refine Kp_ 24 60 (Bz 69 33554431) (any_of HT_.out (by kernel_rfl)) ?_
            refine pure_ (i := 25) (N := some 61) (v := undef) (a' := ?_) #[true, true, true, true, true, true, true, true, true, true, true, true, true, true, true, true, true, true, true, true, true, true, true, true, true, true, false, false, false, false, false, false, false, false, false, false, false, false, false, false, false, false, false, false, false, false, false, false, false, false, false, false, false, false, false, false, false, false, false, false, false, false, false, false, false, false, false, false, false] rfl rfl (any_of HT_.out (by kernel_rfl)) (fun _ _ _ h => h) (Or.inr ⟨by rfl, rfl⟩) ?_ ?_
            rotate_left
            · simp only [Act.put, List.setIfInBounds_toArray, List.set_cons_zero, List.set_cons_succ, i64_w, i32_w]
              rfl
            refine pure_ (i := 26) (N := some 62) (v := undef) (a' := ?_) #[true, true, true, true, true, true, true, true, true, true, true, true, true, true, true, true, true, true, true, true, true, true, true, true, true, true, true, false, false, false, false, false, false, false, false, false, false, false, false, false, false, false, false, false, false, false, false, false, false, false, false, false, false, false, false, false, false, false, false, false, false, false, false, false, false, false, false, false, false] rfl rfl (any_of HT_.out (by kernel_rfl)) (fun _ _ _ h => h) (Or.inr ⟨by rfl, rfl⟩) ?_ ?_
            rotate_left
            · simp only [Act.put, List.setIfInBounds_toArray, List.set_cons_zero, List.set_cons_succ, i64_w, i32_w]
              rfl
            refine pure_ (i := 27) (N := some 63) (v := undef) (a' := ?_) #[true, true, true, true, true, true, true, true, true, true, true, true, true, true, true, true, true, true, true, true, true, true, true, true, true, true, true, true, false, false, false, false, false, false, false, false, false, false, false, false, false, false, false, false, false, false, false, false, false, false, false, false, false, false, false, false, false, false, false, false, false, false, false, false, false, false, false, false, false] rfl rfl (any_of HT_.out (by kernel_rfl)) (fun _ _ _ h => h) (Or.inr ⟨by rfl, rfl⟩) ?_ ?_
            rotate_left
            · simp only [Act.put, List.setIfInBounds_toArray, List.set_cons_zero, List.set_cons_succ, i64_w, i32_w]
              rfl
            refine Kp_ 28 64 (Bz 69 536870911) (any_of HT_.out (by kernel_rfl)) ?_
            refine Kp_ 29 65 (Bz 69 1073741823) (any_of HT_.out (by kernel_rfl)) ?_
            refine Kp_ 30 66 (Bz 69 2147483647) (any_of HT_.out (by kernel_rfl)) ?_
            refine Kp_ 31 67 (Bz 69 4294967295) (any_of HT_.out (by kernel_rfl)) ?_
            refine Kp_ 32 68 (Bz 69 8589934591) (any_of HT_.out (by kernel_rfl)) ?_
            refine Kp_ 33 69 (Bz 69 17179869183) (any_of HT_.out (by kernel_rfl)) ?_
            refine Ko_ 34 70 (Bz 69 34359738367) (take_ofW HT_.out HW_.out (by kernel_rfl)) hHeld ?_
            refine Ko_ 35 71 (Bz 69 68719476735) (take_ofW HT_.out HW_.out (by kernel_rfl)) hHeld ?_
            refine Kp_ 36 72 (Bz 69 137438953471) (any_of HT_.out (by kernel_rfl)) ?_
            refine Kp_ 37 73 (Bz 69 274877906943) (any_of HT_.out (by kernel_rfl)) ?_
            refine Kp_ 38 74 (Bz 69 549755813887) (any_of HT_.out (by kernel_rfl)) ?_
            refine Ko_ 39 75 (Bz 69 1099511627775) (take_ofW HT_.out HW_.out (by kernel_rfl)) hHeld ?_
            refine Ko_ 40 76 (Bz 69 2199023255551) (take_ofW HT_.out HW_.out (by kernel_rfl)) hHeld ?_
            refine one_ (i := 41) (N := some 77) (Bz 69 4398046511103) rfl rfl (one_of HT_.out (by kernel_rfl)) (by decide) (fun K hK => ?_)
            refine goes_ Tryd.func22 (by kernel_rfl) rfl #[.agg #[.int .u64 t741, .int .u64 t742, .int .u64 t743, .int .u64 t744], .agg #[.int .u64 t746, .int .u64 t747, .int .u64 t748, .int .u64 t749]] (by rfl) rfl rfl (by (try simp only [List.map_toArray, List.map_cons, List.map_nil]); first | done | rfl | (simp only [List.length_drop, List.length_take]; rfl)) ?_
            with_reducible refine (vec_Leq.calls t741 t742 t743 t744 t746 t747 t748 t749 true _ A143.out).mono ?_
            rintro e w158 ⟨rfl, hb⟩
            refine ⟨_, rfl, ?_⟩
            replace BK737 := Kb_ BK737 hb
            replace BK738 := Kb_ BK738 hb
            replace BK739 := Kb_ BK739 hb
            replace BK745 := Kb_ BK745 hb
            replace BK750 := Kb_ BK750 hb
            replace BK755 := Kb_ BK755 hb
            replace HB := Ks_ HB hb
            (try clear hb)
            (try clear hb2)
            (try clear hk)
            (try clear hi)
            refine hK.out _ _ ⟨Km_ BK745 0, Km_ BK745 1, Km_ BK745 2, Km_ BK745 3, Km_ BK750 0, Km_ BK750 1, Km_ BK750 2, Km_ BK750 3, Km_ BK755 0, Km_ BK755 1, Km_ BK755 2, Km_ BK755 3⟩ (fun hHeld => ?_)
            clear hK K
            refine Kn_ 77 ?_
            refine Kp_ 42 78 (Bz 69 8796093022207) (any_of HT_.out (by kernel_rfl)) ?_
            refine Kp_ 43 79 (Bz 69 17592186044415) (any_of HT_.out (by kernel_rfl)) ?_
            refine Kp_ 44 80 (Bz 69 35184372088831) (any_of HT_.out (by kernel_rfl)) ?_
            refine Ko_ 45 81 (Bz 69 70368744177663) (take_ofW HT_.out HW_.out (by kernel_rfl)) hHeld ?_
            refine Ko_ 47 83 (Bz 69 211106232532991) (take_ofW HT_.out HW_.out (by kernel_rfl)) hHeld ?_
            refine one_ (i := 46) (N := some 82) (Bz 69 281474976710655) rfl rfl (one_of HT_.out (by kernel_rfl)) (by decide) (fun K hK => ?_)
            refine goes_ Tryd.func26 (by kernel_rfl) rfl #[.agg #[.int .u64 t741, .int .u64 t742, .int .u64 t743, .int .u64 t744]] (by rfl) rfl rfl (by (try simp only [List.map_toArray, List.map_cons, List.map_nil]); first | done | rfl | (simp only [List.length_drop, List.length_take]; rfl)) ?_
            with_reducible refine (vec_Sum.calls t741 t742 t743 t744 t834 _ A145.out).mono ?_
            rintro e w159 ⟨rfl, hb⟩
            refine ⟨_, rfl, ?_⟩
            replace BK737 := Kb_ BK737 hb
            replace BK738 := Kb_ BK738 hb
            replace BK739 := Kb_ BK739 hb
            replace BK745 := Kb_ BK745 hb
            replace BK750 := Kb_ BK750 hb
            replace BK755 := Kb_ BK755 hb
            replace HB := Ks_ HB hb
            (try clear hb)
            (try clear hb2)
            (try clear hk)
            (try clear hi)
            refine hK.out _ _ ⟨Km_ BK745 0, Km_ BK745 1, Km_ BK745 2, Km_ BK745 3, Km_ BK750 0, Km_ BK750 1, Km_ BK750 2, Km_ BK750 3, Km_ BK755 0, Km_ BK755 1, Km_ BK755 2, Km_ BK755 3⟩ (fun hHeld => ?_)
            clear hK K
            refine Kn_ 82 ?_
            refine one_ (i := 48) (N := some 84) (Bz 69 562949953421311) rfl rfl (one_of HT_.out (by kernel_rfl)) (by decide) (fun K hK => ?_)
            refine goes_ Tryd.func26 (by kernel_rfl) rfl #[.agg #[.int .u64 t746, .int .u64 t747, .int .u64 t748, .int .u64 t749]] (by rfl) rfl rfl (by (try simp only [List.map_toArray, List.map_cons, List.map_nil]); first | done | rfl | (simp only [List.length_drop, List.length_take]; rfl)) ?_
            with_reducible refine (vec_Sum.calls t746 t747 t748 t749 t835 _ A146.out).mono ?_
            rintro e w160 ⟨rfl, hb⟩
            refine ⟨_, rfl, ?_⟩
            replace BK737 := Kb_ BK737 hb
            replace BK738 := Kb_ BK738 hb
            replace BK739 := Kb_ BK739 hb
            replace BK745 := Kb_ BK745 hb
            replace BK750 := Kb_ BK750 hb
            replace BK755 := Kb_ BK755 hb
            replace HB := Ks_ HB hb
            (try clear hb)
            (try clear hb2)
            (try clear hk)
            (try clear hi)
            refine hK.out _ _ ⟨Km_ BK745 0, Km_ BK745 1, Km_ BK745 2, Km_ BK745 3, Km_ BK750 0, Km_ BK750 1, Km_ BK750 2, Km_ BK750 3, Km_ BK755 0, Km_ BK755 1, Km_ BK755 2, Km_ BK755 3⟩ (fun hHeld => ?_)
            clear hK K
            refine Kn_ 84 ?_
            refine Kp_ 49 85 (Bz 69 1125899906842623) (any_of HT_.out (by kernel_rfl)) ?_
            refine Kp_ 50 86 (Bz 69 2251799813685247) (any_of HT_.out (by kernel_rfl)) ?_
            refine Kp_ 51 87 (Bz 69 4503599627370495) (any_of HT_.out (by kernel_rfl)) ?_
            refine Kp_ 52 88 (Bz 69 9007199254740991) (any_of HT_.out (by kernel_rfl)) ?_
            refine Ko_ 53 89 (Bz 69 18014398509481983) (take_ofW HT_.out HW_.out (by kernel_rfl)) hHeld ?_
            refine Ko_ 54 90 (Bz 69 36028797018963967) (take_ofW HT_.out HW_.out (by kernel_rfl)) hHeld ?_
            refine Ko_ 56 92 (Bz 69 108086391056891903) (take_ofW HT_.out HW_.out (by kernel_rfl)) hHeld ?_
            refine Ko_ 57 93 (Bz 69 252201579132747775) (take_ofW HT_.out HW_.out (by kernel_rfl)) hHeld ?_
            refine Ko_ 59 95 (Bz 69 828662331436171263) (take_ofW HT_.out HW_.out (by kernel_rfl)) hHeld ?_
            refine one_ (i := 55) (N := some 91) (Bz 69 864691128455135231) rfl rfl (one_of HT_.out (by kernel_rfl)) (by decide) (fun K hK => ?_)
            refine goes_ Tryd.func22 (by kernel_rfl) rfl #[.agg #[.int .u64 t741, .int .u64 t742, .int .u64 t743, .int .u64 t744], .agg #[.int .u64 t746, .int .u64 t747, .int .u64 t748, .int .u64 t749]] (by rfl) rfl rfl (by (try simp only [List.map_toArray, List.map_cons, List.map_nil]); first | done | rfl | (simp only [List.length_drop, List.length_take]; rfl)) ?_
            with_reducible refine (vec_Leq.calls t741 t742 t743 t744 t746 t747 t748 t749 true _ A148.out).mono ?_
            rintro e w161 ⟨rfl, hb⟩
            refine ⟨_, rfl, ?_⟩
            replace BK737 := Kb_ BK737 hb
            replace BK738 := Kb_ BK738 hb
            replace BK739 := Kb_ BK739 hb
            replace BK745 := Kb_ BK745 hb
            replace BK750 := Kb_ BK750 hb
            replace BK755 := Kb_ BK755 hb
            replace HB := Ks_ HB hb
            (try clear hb)
            (try clear hb2)
            (try clear hk)
            (try clear hi)
            refine hK.out _ _ ⟨Km_ BK745 0, Km_ BK745 1, Km_ BK745 2, Km_ BK745 3, Km_ BK750 0, Km_ BK750 1, Km_ BK750 2, Km_ BK750 3, Km_ BK755 0, Km_ BK755 1, Km_ BK755 2, Km_ BK755 3⟩ (fun hHeld => ?_)
            clear hK K
            refine Kn_ 91 ?_
            refine one_ (i := 58) (N := some 94) (Bz 69 1152921504606846975) rfl rfl (one_of HT_.out (by kernel_rfl)) (by decide) (fun K hK => ?_)
            refine goes_ Tryd.func12 (by kernel_rfl) rfl #[.agg #[.int .u64 t741, .int .u64 t742, .int .u64 t743, .int .u64 t744], .agg #[.int .u64 t746, .int .u64 t747, .int .u64 t748, .int .u64 t749]] (by rfl) rfl rfl (by (try simp only [List.map_toArray, List.map_cons, List.map_nil]); first | done | rfl | (simp only [List.length_drop, List.length_take]; rfl)) ?_
            with_reducible refine (vec_Join.calls t741 t742 t743 t744 t746 t747 t748 t749 t837 t838 t839 t840 _ A149.out).mono ?_
            rintro e w162 ⟨rfl, hb⟩
            refine ⟨_, rfl, ?_⟩
            replace BK737 := Kb_ BK737 hb
            replace BK738 := Kb_ BK738 hb
            replace BK739 := Kb_ BK739 hb
            replace BK745 := Kb_ BK745 hb
            replace BK750 := Kb_ BK750 hb
            replace BK755 := Kb_ BK755 hb
            replace HB := Ks_ HB hb
            (try clear hb)
            (try clear hb2)
            (try clear hk)
            (try clear hi)
            refine hK.out _ _ ⟨Km_ BK745 0, Km_ BK745 1, Km_ BK745 2, Km_ BK745 3, Km_ BK750 0, Km_ BK750 1, Km_ BK750 2, Km_ BK750 3, Km_ BK755 0, Km_ BK755 1, Km_ BK755 2, Km_ BK755 3⟩ (fun hHeld => ?_)
            clear hK K
            refine Kn_ 94 ?_
            refine Kp_ 60 96 (Bz 69 2305843009213693951) (any_of HT_.out (by kernel_rfl)) ?_
            refine Kp_ 61 97 (Bz 69 4611686018427387903) (any_of HT_.out (by kernel_rfl)) ?_
            refine Kp_ 62 98 (Bz 69 9223372036854775807) (any_of HT_.out (by kernel_rfl)) ?_
            refine Kp_ 63 99 (Bz 69 18446744073709551615) (any_of HT_.out (by kernel_rfl)) ?_
            refine Kp_ 64 100 (Bz 69 36893488147419103231) (any_of HT_.out (by kernel_rfl)) ?_
            refine Ko_ 65 101 (Bz 69 73786976294838206463) (take_ofW HT_.out HW_.out (by kernel_rfl)) hHeld ?_
            refine one_ (i := 66) (N := some 102) (Bz 69 147573952589676412927) rfl rfl (one_of HT_.out (by kernel_rfl)) (by decide) (fun K hK => ?_)
            refine goes_ Tryd.func22 (by kernel_rfl) rfl #[.agg #[.int .u64 0, .int .u64 0, .int .u64 0, .int .u64 0], .agg #[.int .u64 t741, .int .u64 t742, .int .u64 t743, .int .u64 t744]] (by rfl) rfl rfl (by (try simp only [List.map_toArray, List.map_cons, List.map_nil]); first | done | rfl | (simp only [List.length_drop, List.length_take]; rfl)) ?_
            with_reducible refine (vec_Leq.calls 0 0 0 0 t741 t742 t743 t744 true _ A152.out).mono ?_
            rintro e w163 ⟨rfl, hb⟩
            refine ⟨_, rfl, ?_⟩
            replace BK737 := Kb_ BK737 hb
            replace BK738 := Kb_ BK738 hb
            replace BK739 := Kb_ BK739 hb
            replace BK745 := Kb_ BK745 hb
            replace BK750 := Kb_ BK750 hb
            replace BK755 := Kb_ BK755 hb
            replace HB := Ks_ HB hb
            (try clear hb)
            (try clear hb2)
            (try clear hk)
            (try clear hi)
            refine hK.out _ _ ⟨Km_ BK745 0, Km_ BK745 1, Km_ BK745 2, Km_ BK745 3, Km_ BK750 0, Km_ BK750 1, Km_ BK750 2, Km_ BK750 3, Km_ BK755 0, Km_ BK755 1, Km_ BK755 2, Km_ BK755 3⟩ (fun hHeld => ?_)
            clear hK K
            refine Kn_ 102 ?_
            refine Kp_ 67 103 (Bz 69 295147905179352825855) (any_of HT_.out (by kernel_rfl)) ?_
            refine Kp_ 68 6 (Bz 69 590295810358705651711) (any_of HT_.out (by kernel_rfl)) ?_
            refine done_ (done_of HT_.out (by kernel_rfl)) ?_
            try go_wp2
            go_ret
            exact ⟨Kh_, by repeat (first | (with_reducible first | exact HB.out | apply below_alloc | apply pw_below_drewN | apply below_drew1 | refine below_set ?_ GE737.out | refine below_set ?_ GE738.out | refine below_set ?_ GE739.out | refine below_set ?_ GE745.out | refine below_set ?_ GE750.out | refine below_set ?_ GE755.out) | exact HB.out)⟩
          subst c102
          have H1 : ((vec_Leq.f t741 t742 t743 t744 t751 t752 t753 t754).bind fun t808 => (if t808 = true then (if x12_70 = true then ((vec_Leq.f t741 t742 t743 t744 t746 t747 t748 t749).bind fun t809 => (if t809 = true then ((vec_Sum.f t741 t742 t743 t744).bind fun t810 => ((vec_Sum.f t746 t747 t748 t749).bind fun t811 => (if t810 < t811 then ((vec_Leq.f t741 t742 t743 t744 t746 t747 t748 t749).bind fun t812 => ((vec_Join.f t741 t742 t743 t744 t746 t747 t748 t749).bind fun bt813 => (if t812 = true then (if (bt813.1 == t746 && (bt813.2.1 == t747 && (bt813.2.2.1 == t748 && (bt813.2.2.2 == t749)))) = true then ((vec_Leq.f 0 0 0 0 t741 t742 t743 t744).bind fun t817 => (if t817 = true then (some true) else (none))) else (none)) else (none)))) else (none)))) else (none))) else ((vec_Leq.f t741 t742 t743 t744 t746 t747 t748 t749).bind fun t826 => ((vec_Join.f t741 t742 t743 t744 t746 t747 t748 t749).bind fun bt827 => (if t826 = true then (if (bt827.1 == t746 && (bt827.2.1 == t747 && (bt827.2.2.1 == t748 && (bt827.2.2.2 == t749)))) = true then ((vec_Leq.f 0 0 0 0 t741 t742 t743 t744).bind fun t831 => (if t831 = true then (some true) else (none))) else (none)) else (none))))) else (none))) = some r := by rw [if_pos rfl] at H; exact H
          clear H
          have H := H1
          clear H1
          replace H := Option.bind_eq_some_iff.mp H
          obtain ⟨t808, A1030, H⟩ := H
          replace H : (if t808 = true then (if x12_70 = true then ((vec_Leq.f t741 t742 t743 t744 t746 t747 t748 t749).bind fun t809 => (if t809 = true then ((vec_Sum.f t741 t742 t743 t744).bind fun t810 => ((vec_Sum.f t746 t747 t748 t749).bind fun t811 => (if t810 < t811 then ((vec_Leq.f t741 t742 t743 t744 t746 t747 t748 t749).bind fun t812 => ((vec_Join.f t741 t742 t743 t744 t746 t747 t748 t749).bind fun bt813 => (if t812 = true then (if (bt813.1 == t746 && (bt813.2.1 == t747 && (bt813.2.2.1 == t748 && (bt813.2.2.2 == t749)))) = true then ((vec_Leq.f 0 0 0 0 t741 t742 t743 t744).bind fun t817 => (if t817 = true then (some true) else (none))) else (none)) else (none)))) else (none)))) else (none))) else ((vec_Leq.f t741 t742 t743 t744 t746 t747 t748 t749).bind fun t826 => ((vec_Join.f t741 t742 t743 t744 t746 t747 t748 t749).bind fun bt827 => (if t826 = true then (if (bt827.1 == t746 && (bt827.2.1 == t747 && (bt827.2.2.1 == t748 && (bt827.2.2.2 == t749)))) = true then ((vec_Leq.f 0 0 0 0 t741 t742 t743 t744).bind fun t831 => (if t831 = true then (some true) else (none))) else (none)) else (none))))) else (none)) = some r := H
          have A103 := Aside0.mk A1030
          clear A1030
          by_cases c104 : t808 = true
          rotate_left
          · replace c104 := Bool.eq_false_iff.mpr c104
            subst c104
            have H1 : (none) = some r := by rw [if_neg (show ¬ (false = true) by decide)] at H; exact H
            clear H
            have H := H1
            clear H1
            exact absurd H (by simp)
          subst c104
          have H1 : (if x12_70 = true then ((vec_Leq.f t741 t742 t743 t744 t746 t747 t748 t749).bind fun t809 => (if t809 = true then ((vec_Sum.f t741 t742 t743 t744).bind fun t810 => ((vec_Sum.f t746 t747 t748 t749).bind fun t811 => (if t810 < t811 then ((vec_Leq.f t741 t742 t743 t744 t746 t747 t748 t749).bind fun t812 => ((vec_Join.f t741 t742 t743 t744 t746 t747 t748 t749).bind fun bt813 => (if t812 = true then (if (bt813.1 == t746 && (bt813.2.1 == t747 && (bt813.2.2.1 == t748 && (bt813.2.2.2 == t749)))) = true then ((vec_Leq.f 0 0 0 0 t741 t742 t743 t744).bind fun t817 => (if t817 = true then (some true) else (none))) else (none)) else (none)))) else (none)))) else (none))) else ((vec_Leq.f t741 t742 t743 t744 t746 t747 t748 t749).bind fun t826 => ((vec_Join.f t741 t742 t743 t744 t746 t747 t748 t749).bind fun bt827 => (if t826 = true then (if (bt827.1 == t746 && (bt827.2.1 == t747 && (bt827.2.2.1 == t748 && (bt827.2.2.2 == t749)))) = true then ((vec_Leq.f 0 0 0 0 t741 t742 t743 t744).bind fun t831 => (if t831 = true then (some true) else (none))) else (none)) else (none))))) = some r := by rw [if_pos rfl] at H; exact H
          clear H
          have H := H1
          clear H1
          by_cases c105 : x12_70 = true
          rotate_left
          · replace c105 := Bool.eq_false_iff.mpr c105
            subst c105
            have H1 : ((vec_Leq.f t741 t742 t743 t744 t746 t747 t748 t749).bind fun t826 => ((vec_Join.f t741 t742 t743 t744 t746 t747 t748 t749).bind fun bt827 => (if t826 = true then (if (bt827.1 == t746 && (bt827.2.1 == t747 && (bt827.2.2.1 == t748 && (bt827.2.2.2 == t749)))) = true then ((vec_Leq.f 0 0 0 0 t741 t742 t743 t744).bind fun t831 => (if t831 = true then (some true) else (none))) else (none)) else (none)))) = some r := by rw [if_neg (show ¬ (false = true) by decide)] at H; exact H
            clear H
            have H := H1
            clear H1
            replace H := Option.bind_eq_some_iff.mp H
            obtain ⟨t826, A1280, H⟩ := H
            replace H : ((vec_Join.f t741 t742 t743 t744 t746 t747 t748 t749).bind fun bt827 => (if t826 = true then (if (bt827.1 == t746 && (bt827.2.1 == t747 && (bt827.2.2.1 == t748 && (bt827.2.2.2 == t749)))) = true then ((vec_Leq.f 0 0 0 0 t741 t742 t743 t744).bind fun t831 => (if t831 = true then (some true) else (none))) else (none)) else (none))) = some r := H
            have A128 := Aside0.mk A1280
            clear A1280
            replace H := Option.bind_eq_some_iff.mp H
            obtain ⟨⟨t827, t828, t829, t830⟩, A1290, H⟩ := H
            replace H : (if t826 = true then (if (t827 == t746 && (t828 == t747 && (t829 == t748 && (t830 == t749)))) = true then ((vec_Leq.f 0 0 0 0 t741 t742 t743 t744).bind fun t831 => (if t831 = true then (some true) else (none))) else (none)) else (none)) = some r := H
            have A129 := Aside0.mk A1290
            clear A1290
            by_cases c130 : t826 = true
            rotate_left
            · replace c130 := Bool.eq_false_iff.mpr c130
              subst c130
              have H1 : (none) = some r := by rw [if_neg (show ¬ (false = true) by decide)] at H; exact H
              clear H
              have H := H1
              clear H1
              exact absurd H (by simp)
            subst c130
            have H1 : (if (t827 == t746 && (t828 == t747 && (t829 == t748 && (t830 == t749)))) = true then ((vec_Leq.f 0 0 0 0 t741 t742 t743 t744).bind fun t831 => (if t831 = true then (some true) else (none))) else (none)) = some r := by rw [if_pos rfl] at H; exact H
            clear H
            have H := H1
            clear H1
            by_cases c131 : (t827 == t746 && (t828 == t747 && (t829 == t748 && (t830 == t749)))) = true
            rotate_left
            · rw [if_neg c131] at H
              exact absurd H (by simp)
            rw [if_pos c131] at H
            have c131b0 : (t827 == t746 && (t828 == t747 && (t829 == t748 && (t830 == t749)))) = true := c131
            (try (have c131b1 : decide (t827 = t746 && (t828 == t747 && (t829 == t748 && (t830 == t749)))) = true := by simpa using c131))
            (try (have c131b2 : (t827 == t746 && (t828 == t747 && (t829 == t748 && (t830 == t749)))) = true := by simpa using c131))
            clear c131
            replace H := Option.bind_eq_some_iff.mp H
            obtain ⟨t831, A1320, H⟩ := H
            replace H : (if t831 = true then (some true) else (none)) = some r := H
            have A132 := Aside0.mk A1320
            clear A1320
            by_cases c133 : t831 = true
            rotate_left
            · replace c133 := Bool.eq_false_iff.mpr c133
              subst c133
              have H1 : (none) = some r := by rw [if_neg (show ¬ (false = true) by decide)] at H; exact H
              clear H
              have H := H1
              clear H1
              exact absurd H (by simp)
            subst c133
            have H1 : (some true) = some r := by rw [if_pos rfl] at H; exact H
            clear H
            have H := H1
            clear H1
            obtain rfl := Option.some.inj H
            try go_wp2
            replace BK737 := Kd_ BK737
            replace BK738 := Kd_ BK738
            replace BK739 := Kd_ BK739
            replace BK745 := Kd_ BK745
            replace BK750 := Kd_ BK750
            replace BK755 := Kd_ BK755
            replace HB := Aside0.mk (below_drew1 HB.out)
            refine start_ (n := 69) (S := fun w' => w'.cell? ⟨gb745, 0, none⟩ = some (.int .u64 t741) ∧ w'.cell? ⟨gb745, 1, none⟩ = some (.int .u64 t742) ∧ w'.cell? ⟨gb745, 2, none⟩ = some (.int .u64 t743) ∧ w'.cell? ⟨gb745, 3, none⟩ = some (.int .u64 t744) ∧ w'.cell? ⟨gb750, 0, none⟩ = some (.int .u64 t746) ∧ w'.cell? ⟨gb750, 1, none⟩ = some (.int .u64 t747) ∧ w'.cell? ⟨gb750, 2, none⟩ = some (.int .u64 t748) ∧ w'.cell? ⟨gb750, 3, none⟩ = some (.int .u64 t749) ∧ w'.cell? ⟨gb755, 0, none⟩ = some (.int .u64 t751) ∧ w'.cell? ⟨gb755, 1, none⟩ = some (.int .u64 t752) ∧ w'.cell? ⟨gb755, 2, none⟩ = some (.int .u64 t753) ∧ w'.cell? ⟨gb755, 3, none⟩ = some (.int .u64 t754)) (ds := []) #[false, false, false, false, false, false, false, false, false, false, false, false, false, false, false, false, false, false, false, false, false, false, false, false, false, false, false, false, false, false, false, false, false, false, false, false, false, false, false, false, false, false, false, false, false, false, false, false, false, false, false, false, false, false, false, false, false, false, false, false, false, false, false, false, false, false, false, false, false] (by kernel_rfl) rfl rfl ⟨Km_ BK745 0, Km_ BK745 1, Km_ BK745 2, Km_ BK745 3, Km_ BK750 0, Km_ BK750 1, Km_ BK750 2, Km_ BK750 3, Km_ BK755 0, Km_ BK755 1, Km_ BK755 2, Km_ BK755 3⟩ (fun hHeld => ?_); refine with_tabW tenementlaw06_VecOrder_p1.tab9 tenementlaw06_VecOrder_p1.bits9 (fun HT_ HW_ => ?_)
            generalize wc.drew = w134 at BK737 BK738 BK739 BK745 BK750 BK755 HB hHeld ⊢
            refine Kp_ 0 36 (Bz 69 1) (any_of HT_.out (by kernel_rfl)) ?_
            refine Kp_ 1 37 (Bz 69 3) (any_of HT_.out (by kernel_rfl)) ?_
            refine Ko_ 2 38 (Bz 69 7) (take_ofW HT_.out HW_.out (by kernel_rfl)) hHeld ?_
            refine Ko_ 3 39 (Bz 69 15) (take_ofW HT_.out HW_.out (by kernel_rfl)) hHeld ?_
            refine one_ (i := 4) (N := some 40) (Bz 69 31) rfl rfl (one_of HT_.out (by kernel_rfl)) (by decide) (fun K hK => ?_)
            refine goes_ Tryd.func22 (by kernel_rfl) rfl #[.agg #[.int .u64 t741, .int .u64 t742, .int .u64 t743, .int .u64 t744], .agg #[.int .u64 t741, .int .u64 t742, .int .u64 t743, .int .u64 t744]] (by rfl) rfl rfl (by (try simp only [List.map_toArray, List.map_cons, List.map_nil]); first | done | rfl | (simp only [List.length_drop, List.length_take]; rfl)) ?_
            with_reducible refine (vec_Leq.calls t741 t742 t743 t744 t741 t742 t743 t744 true _ A95.out).mono ?_
            rintro e w135 ⟨rfl, hb⟩
            refine ⟨_, rfl, ?_⟩
            replace BK737 := Kb_ BK737 hb
            replace BK738 := Kb_ BK738 hb
            replace BK739 := Kb_ BK739 hb
            replace BK745 := Kb_ BK745 hb
            replace BK750 := Kb_ BK750 hb
            replace BK755 := Kb_ BK755 hb
            replace HB := Ks_ HB hb
            (try clear hb)
            (try clear hb2)
            (try clear hk)
            (try clear hi)
            refine hK.out _ _ ⟨Km_ BK745 0, Km_ BK745 1, Km_ BK745 2, Km_ BK745 3, Km_ BK750 0, Km_ BK750 1, Km_ BK750 2, Km_ BK750 3, Km_ BK755 0, Km_ BK755 1, Km_ BK755 2, Km_ BK755 3⟩ (fun hHeld => ?_)
            clear hK K
            refine Kn_ 40 ?_
            refine Kp_ 5 41 (Bz 69 63) (any_of HT_.out (by kernel_rfl)) ?_
            refine Kp_ 6 42 (Bz 69 127) (any_of HT_.out (by kernel_rfl)) ?_
            refine Kp_ 7 43 (Bz 69 255) (any_of HT_.out (by kernel_rfl)) ?_
            refine Ko_ 8 44 (Bz 69 511) (take_ofW HT_.out HW_.out (by kernel_rfl)) hHeld ?_
            refine Ko_ 9 45 (Bz 69 1023) (take_ofW HT_.out HW_.out (by kernel_rfl)) hHeld ?_
            refine Kp_ 10 46 (Bz 69 2047) (any_of HT_.out (by kernel_rfl)) ?_
            refine Kp_ 11 47 (Bz 69 4095) (any_of HT_.out (by kernel_rfl)) ?_
            refine Kp_ 12 48 (Bz 69 8191) (any_of HT_.out (by kernel_rfl)) ?_
            refine Kp_ 13 49 (Bz 69 16383) (any_of HT_.out (by kernel_rfl)) ?_
            refine Ko_ 14 50 (Bz 69 32767) (take_ofW HT_.out HW_.out (by kernel_rfl)) hHeld ?_
            refine Ko_ 15 51 (Bz 69 65535) (take_ofW HT_.out HW_.out (by kernel_rfl)) hHeld ?_
            refine one_ (i := 16) (N := some 52) (Bz 69 131071) rfl rfl (one_of HT_.out (by kernel_rfl)) (by decide) (fun K hK => ?_)
            refine goes_ Tryd.func22 (by kernel_rfl) rfl #[.agg #[.int .u64 t741, .int .u64 t742, .int .u64 t743, .int .u64 t744], .agg #[.int .u64 t746, .int .u64 t747, .int .u64 t748, .int .u64 t749]] (by rfl) rfl rfl (by (try simp only [List.map_toArray, List.map_cons, List.map_nil]); first | done | rfl | (simp only [List.length_drop, List.length_take]; rfl)) ?_
            with_reducible refine (vec_Leq.calls t741 t742 t743 t744 t746 t747 t748 t749 true _ A99.out).mono ?_
            rintro e w136 ⟨rfl, hb⟩
            refine ⟨_, rfl, ?_⟩
            replace BK737 := Kb_ BK737 hb
            replace BK738 := Kb_ BK738 hb
            replace BK739 := Kb_ BK739 hb
            replace BK745 := Kb_ BK745 hb
            replace BK750 := Kb_ BK750 hb
            replace BK755 := Kb_ BK755 hb
            replace HB := Ks_ HB hb
            (try clear hb)
            (try clear hb2)
            (try clear hk)
            (try clear hi)
            refine hK.out _ _ ⟨Km_ BK745 0, Km_ BK745 1, Km_ BK745 2, Km_ BK745 3, Km_ BK750 0, Km_ BK750 1, Km_ BK750 2, Km_ BK750 3, Km_ BK755 0, Km_ BK755 1, Km_ BK755 2, Km_ BK755 3⟩ (fun hHeld => ?_)
            clear hK K
            refine Kn_ 52 ?_
            refine Kp_ 17 53 (Bz 69 262143) (any_of HT_.out (by kernel_rfl)) ?_
            refine Kp_ 18 54 (Bz 69 524287) (any_of HT_.out (by kernel_rfl)) ?_
            refine Ko_ 19 55 (Bz 69 1048575) (take_ofW HT_.out HW_.out (by kernel_rfl)) hHeld ?_
            refine Ko_ 20 56 (Bz 69 2097151) (take_ofW HT_.out HW_.out (by kernel_rfl)) hHeld ?_
            refine one_ (i := 21) (N := some 57) (Bz 69 4194303) rfl rfl (one_of HT_.out (by kernel_rfl)) (by decide) (fun K hK => ?_)
            refine goes_ Tryd.func22 (by kernel_rfl) rfl #[.agg #[.int .u64 t746, .int .u64 t747, .int .u64 t748, .int .u64 t749], .agg #[.int .u64 t751, .int .u64 t752, .int .u64 t753, .int .u64 t754]] (by rfl) rfl rfl (by (try simp only [List.map_toArray, List.map_cons, List.map_nil]); first | done | rfl | (simp only [List.length_drop, List.length_take]; rfl)) ?_
            with_reducible refine (vec_Leq.calls t746 t747 t748 t749 t751 t752 t753 t754 true _ A101.out).mono ?_
            rintro e w137 ⟨rfl, hb⟩
            refine ⟨_, rfl, ?_⟩
            replace BK737 := Kb_ BK737 hb
            replace BK738 := Kb_ BK738 hb
            replace BK739 := Kb_ BK739 hb
            replace BK745 := Kb_ BK745 hb
            replace BK750 := Kb_ BK750 hb
            replace BK755 := Kb_ BK755 hb
            replace HB := Ks_ HB hb
            (try clear hb)
            (try clear hb2)
            (try clear hk)
            (try clear hi)
            refine hK.out _ _ ⟨Km_ BK745 0, Km_ BK745 1, Km_ BK745 2, Km_ BK745 3, Km_ BK750 0, Km_ BK750 1, Km_ BK750 2, Km_ BK750 3, Km_ BK755 0, Km_ BK755 1, Km_ BK755 2, Km_ BK755 3⟩ (fun hHeld => ?_)
            clear hK K
            refine Kn_ 57 ?_
            refine Kp_ 22 58 (Bz 69 8388607) (any_of HT_.out (by kernel_rfl)) ?_
            refine Kp_ 23 59 (Bz 69 16777215) (any_of HT_.out (by kernel_rfl)) ?_
            refine Kp_ 24 60 (Bz 69 33554431) (any_of HT_.out (by kernel_rfl)) ?_
            refine Ko_ 25 61 (Bz 69 67108863) (take_ofW HT_.out HW_.out (by kernel_rfl)) hHeld ?_
            refine Ko_ 26 62 (Bz 69 134217727) (take_ofW HT_.out HW_.out (by kernel_rfl)) hHeld ?_
            refine one_ (i := 27) (N := some 63) (Bz 69 268435455) rfl rfl (one_of HT_.out (by kernel_rfl)) (by decide) (fun K hK => ?_)
            refine goes_ Tryd.func22 (by kernel_rfl) rfl #[.agg #[.int .u64 t741, .int .u64 t742, .int .u64 t743, .int .u64 t744], .agg #[.int .u64 t751, .int .u64 t752, .int .u64 t753, .int .u64 t754]] (by rfl) rfl rfl (by (try simp only [List.map_toArray, List.map_cons, List.map_nil]); first | done | rfl | (simp only [List.length_drop, List.length_take]; rfl)) ?_
            with_reducible refine (vec_Leq.calls t741 t742 t743 t744 t751 t752 t753 t754 true _ A103.out).mono ?_
            rintro e w138 ⟨rfl, hb⟩
            refine ⟨_, rfl, ?_⟩
            replace BK737 := Kb_ BK737 hb
            replace BK738 := Kb_ BK738 hb
            replace BK739 := Kb_ BK739 hb
            replace BK745 := Kb_ BK745 hb
            replace BK750 := Kb_ BK750 hb
            replace BK755 := Kb_ BK755 hb
            replace HB := Ks_ HB hb
            (try clear hb)
            (try clear hb2)
            (try clear hk)
            (try clear hi)
            refine hK.out _ _ ⟨Km_ BK745 0, Km_ BK745 1, Km_ BK745 2, Km_ BK745 3, Km_ BK750 0, Km_ BK750 1, Km_ BK750 2, Km_ BK750 3, Km_ BK755 0, Km_ BK755 1, Km_ BK755 2, Km_ BK755 3⟩ (fun hHeld => ?_)
            clear hK K
            refine Kn_ 63 ?_
            refine Kp_ 28 64 (Bz 69 536870911) (any_of HT_.out (by kernel_rfl)) ?_
            refine Kp_ 29 65 (Bz 69 1073741823) (any_of HT_.out (by kernel_rfl)) ?_
            refine Kp_ 30 66 (Bz 69 2147483647) (any_of HT_.out (by kernel_rfl)) ?_
            refine Kp_ 31 67 (Bz 69 4294967295) (any_of HT_.out (by kernel_rfl)) ?_
            refine Kp_ 32 68 (Bz 69 8589934591) (any_of HT_.out (by kernel_rfl)) ?_
            refine Kp_ 33 69 (Bz 69 17179869183) (any_of HT_.out (by kernel_rfl)) ?_
            refine pure_ (i := 34) (N := some 70) (v := undef) (a' := ?_) #[true, true, true, true, true, true, true, true, true, true, true, true, true, true, true, true, true, true, true, true, true, true, true, true, true, true, true, true, true, true, true, true, true, true, true, false, false, false, false, false, false, false, false, false, false, false, false, false, false, false, false, false, false, false, false, false, false, false, false, false, false, false, false, false, false, false, false, false, false] rfl rfl (any_of HT_.out (by kernel_rfl)) (fun _ _ _ h => h) (Or.inr ⟨by rfl, rfl⟩) ?_ ?_
            rotate_left
            · simp only [Act.put, List.setIfInBounds_toArray, List.set_cons_zero, List.set_cons_succ, i64_w, i32_w]
              rfl
            refine pure_ (i := 35) (N := some 71) (v := undef) (a' := ?_) #[true, true, true, true, true, true, true, true, true, true, true, true, true, true, true, true, true, true, true, true, true, true, true, true, true, true, true, true, true, true, true, true, true, true, true, true, false, false, false, false, false, false, false, false, false, false, false, false, false, false, false, false, false, false, false, false, false, false, false, false, false, false, false, false, false, false, false, false, false] rfl rfl (any_of HT_.out (by kernel_rfl)) (fun _ _ _ h => h) (Or.inr ⟨by rfl, rfl⟩) ?_ ?_
            rotate_left
            · simp only [Act.put, List.setIfInBounds_toArray, List.set_cons_zero, List.set_cons_succ, i64_w, i32_w]
              rfl
            refine pure_ (i := 36) (N := some 72) (v := undef) (a' := ?_) #[true, true, true, true, true, true, true, true, true, true, true, true, true, true, true, true, true, true, true, true, true, true, true, true, true, true, true, true, true, true, true, true, true, true, true, true, true, false, false, false, false, false, false, false, false, false, false, false, false, false, false, false, false, false, false, false, false, false, false, false, false, false, false, false, false, false, false, false, false] rfl rfl (any_of HT_.out (by kernel_rfl)) (fun _ _ _ h => h) (Or.inr ⟨by rfl, rfl⟩) ?_ ?_
            rotate_left
            · simp only [Act.put, List.setIfInBounds_toArray, List.set_cons_zero, List.set_cons_succ, i64_w, i32_w]
              rfl
            refine Kp_ 37 73 (Bz 69 274877906943) (any_of HT_.out (by kernel_rfl)) ?_
            refine Kp_ 38 74 (Bz 69 549755813887) (any_of HT_.out (by kernel_rfl)) ?_
            refine pure_ (i := 39) (N := some 75) (v := undef) (a' := ?_) #[true, true, true, true, true, true, true, true, true, true, true, true, true, true, true, true, true, true, true, true, true, true, true, true, true, true, true, true, true, true, true, true, true, true, true, true, true, true, true, true, false, false, false, false, false, false, false, false, false, false, false, false, false, false, false, false, false, false, false, false, false, false, false, false, false, false, false, false, false] rfl rfl (any_of HT_.out (by kernel_rfl)) (fun _ _ _ h => h) (Or.inr ⟨by rfl, rfl⟩) ?_ ?_
            rotate_left
            · simp only [Act.put, List.setIfInBounds_toArray, List.set_cons_zero, List.set_cons_succ, i64_w, i32_w]
              rfl
            refine pure_ (i := 40) (N := some 76) (v := undef) (a' := ?_) #[true, true, true, true, true, true, true, true, true, true, true, true, true, true, true, true, true, true, true, true, true, true, true, true, true, true, true, true, true, true, true, true, true, true, true, true, true, true, true, true, true, false, false, false, false, false, false, false, false, false, false, false, false, false, false, false, false, false, false, false, false, false, false, false, false, false, false, false, false] rfl rfl (any_of HT_.out (by kernel_rfl)) (fun _ _ _ h => h) (Or.inr ⟨by rfl, rfl⟩) ?_ ?_
            rotate_left
            · simp only [Act.put, List.setIfInBounds_toArray, List.set_cons_zero, List.set_cons_succ, i64_w, i32_w]
              rfl
            refine pure_ (i := 41) (N := some 77) (v := undef) (a' := ?_) #[true, true, true, true, true, true, true, true, true, true, true, true, true, true, true, true, true, true, true, true, true, true, true, true, true, true, true, true, true, true, true, true, true, true, true, true, true, true, true, true, true, true, false, false, false, false, false, false, false, false, false, false, false, false, false, false, false, false, false, false, false, false, false, false, false, false, false, false, false] rfl rfl (any_of HT_.out (by kernel_rfl)) (fun _ _ _ h => h) (Or.inr ⟨by rfl, rfl⟩) ?_ ?_
            rotate_left
            · simp only [Act.put, List.setIfInBounds_toArray, List.set_cons_zero, List.set_cons_succ, i64_w, i32_w]
              rfl
            refine pure_ (i := 42) (N := some 78) (v := undef) (a' := ?_) #[true, true, true, true, true, true, true, true, true, true, true, true, true, true, true, true, true, true, true, true, true, true, true, true, true, true, true, true, true, true, true, true, true, true, true, true, true, true, true, true, true, true, true, false, false, false, false, false, false, false, false, false, false, false, false, false, false, false, false, false, false, false, false, false, false, false, false, false, false] rfl rfl (any_of HT_.out (by kernel_rfl)) (fun _ _ _ h => h) (Or.inr ⟨by rfl, rfl⟩) ?_ ?_
            rotate_left
            · simp only [Act.put, List.setIfInBounds_toArray, List.set_cons_zero, List.set_cons_succ, i64_w, i32_w]
              rfl
            refine Kp_ 43 79 (Bz 69 17592186044415) (any_of HT_.out (by kernel_rfl)) ?_
            refine Kp_ 44 80 (Bz 69 35184372088831) (any_of HT_.out (by kernel_rfl)) ?_
            refine pure_ (i := 45) (N := some 81) (v := undef) (a' := ?_) #[true, true, true, true, true, true, true, true, true, true, true, true, true, true, true, true, true, true, true, true, true, true, true, true, true, true, true, true, true, true, true, true, true, true, true, true, true, true, true, true, true, true, true, true, true, true, false, false, false, false, false, false, false, false, false, false, false, false, false, false, false, false, false, false, false, false, false, false, false] rfl rfl (any_of HT_.out (by kernel_rfl)) (fun _ _ _ h => h) (Or.inr ⟨by rfl, rfl⟩) ?_ ?_
            rotate_left
            · simp only [Act.put, List.setIfInBounds_toArray, List.set_cons_zero, List.set_cons_succ, i64_w, i32_w]
              rfl
            refine pure_ (i := 46) (N := some 82) (v := undef) (a' := ?_) #[true, true, true, true, true, true, true, true, true, true, true, true, true, true, true, true, true, true, true, true, true, true, true, true, true, true, true, true, true, true, true, true, true, true, true, true, true, true, true, true, true, true, true, true, true, true, true, false, false, false, false, false, false, false, false, false, false, false, false, false, false, false, false, false, false, false, false, false, false] rfl rfl (any_of HT_.out (by kernel_rfl)) (fun _ _ _ h => h) (Or.inr ⟨by rfl, rfl⟩) ?_ ?_
            rotate_left
            · simp only [Act.put, List.setIfInBounds_toArray, List.set_cons_zero, List.set_cons_succ, i64_w, i32_w]
              rfl
            refine pure_ (i := 47) (N := some 83) (v := undef) (a' := ?_) #[true, true, true, true, true, true, true, true, true, true, true, true, true, true, true, true, true, true, true, true, true, true, true, true, true, true, true, true, true, true, true, true, true, true, true, true, true, true, true, true, true, true, true, true, true, true, true, true, false, false, false, false, false, false, false, false, false, false, false, false, false, false, false, false, false, false, false, false, false] rfl rfl (any_of HT_.out (by kernel_rfl)) (fun _ _ _ h => h) (Or.inr ⟨by rfl, rfl⟩) ?_ ?_
            rotate_left
            · simp only [Act.put, List.setIfInBounds_toArray, List.set_cons_zero, List.set_cons_succ, i64_w, i32_w]
              rfl
            refine pure_ (i := 48) (N := some 84) (v := undef) (a' := ?_) #[true, true, true, true, true, true, true, true, true, true, true, true, true, true, true, true, true, true, true, true, true, true, true, true, true, true, true, true, true, true, true, true, true, true, true, true, true, true, true, true, true, true, true, true, true, true, true, true, true, false, false, false, false, false, false, false, false, false, false, false, false, false, false, false, false, false, false, false, false] rfl rfl (any_of HT_.out (by kernel_rfl)) (fun _ _ _ h => h) (Or.inr ⟨by rfl, rfl⟩) ?_ ?_
            rotate_left
            · simp only [Act.put, List.setIfInBounds_toArray, List.set_cons_zero, List.set_cons_succ, i64_w, i32_w]
              rfl
            refine pure_ (i := 49) (N := some 85) (v := undef) (a' := ?_) #[true, true, true, true, true, true, true, true, true, true, true, true, true, true, true, true, true, true, true, true, true, true, true, true, true, true, true, true, true, true, true, true, true, true, true, true, true, true, true, true, true, true, true, true, true, true, true, true, true, true, false, false, false, false, false, false, false, false, false, false, false, false, false, false, false, false, false, false, false] rfl rfl (any_of HT_.out (by kernel_rfl)) (fun _ _ _ h => h) (Or.inr ⟨by rfl, rfl⟩) ?_ ?_
            rotate_left
            · simp only [Act.put, List.setIfInBounds_toArray, List.set_cons_zero, List.set_cons_succ, i64_w, i32_w]
              rfl
            refine Kp_ 50 86 (Bz 69 2251799813685247) (any_of HT_.out (by kernel_rfl)) ?_
            refine Kp_ 51 87 (Bz 69 4503599627370495) (any_of HT_.out (by kernel_rfl)) ?_
            refine Kp_ 52 88 (Bz 69 9007199254740991) (any_of HT_.out (by kernel_rfl)) ?_
            refine Ko_ 53 89 (Bz 69 18014398509481983) (take_ofW HT_.out HW_.out (by kernel_rfl)) hHeld ?_
            refine Ko_ 54 90 (Bz 69 36028797018963967) (take_ofW HT_.out HW_.out (by kernel_rfl)) hHeld ?_
            refine Ko_ 56 92 (Bz 69 108086391056891903) (take_ofW HT_.out HW_.out (by kernel_rfl)) hHeld ?_
            refine Ko_ 57 93 (Bz 69 252201579132747775) (take_ofW HT_.out HW_.out (by kernel_rfl)) hHeld ?_
            refine Ko_ 59 95 (Bz 69 828662331436171263) (take_ofW HT_.out HW_.out (by kernel_rfl)) hHeld ?_
            refine one_ (i := 55) (N := some 91) (Bz 69 864691128455135231) rfl rfl (one_of HT_.out (by kernel_rfl)) (by decide) (fun K hK => ?_)
            refine goes_ Tryd.func22 (by kernel_rfl) rfl #[.agg #[.int .u64 t741, .int .u64 t742, .int .u64 t743, .int .u64 t744], .agg #[.int .u64 t746, .int .u64 t747, .int .u64 t748, .int .u64 t749]] (by rfl) rfl rfl (by (try simp only [List.map_toArray, List.map_cons, List.map_nil]); first | done | rfl | (simp only [List.length_drop, List.length_take]; rfl)) ?_
            with_reducible refine (vec_Leq.calls t741 t742 t743 t744 t746 t747 t748 t749 true _ A128.out).mono ?_
            rintro e w139 ⟨rfl, hb⟩
            refine ⟨_, rfl, ?_⟩
            replace BK737 := Kb_ BK737 hb
            replace BK738 := Kb_ BK738 hb
            replace BK739 := Kb_ BK739 hb
            replace BK745 := Kb_ BK745 hb
            replace BK750 := Kb_ BK750 hb
            replace BK755 := Kb_ BK755 hb
            replace HB := Ks_ HB hb
            (try clear hb)
            (try clear hb2)
            (try clear hk)
            (try clear hi)
            refine hK.out _ _ ⟨Km_ BK745 0, Km_ BK745 1, Km_ BK745 2, Km_ BK745 3, Km_ BK750 0, Km_ BK750 1, Km_ BK750 2, Km_ BK750 3, Km_ BK755 0, Km_ BK755 1, Km_ BK755 2, Km_ BK755 3⟩ (fun hHeld => ?_)
            clear hK K
            refine Kn_ 91 ?_
            refine one_ (i := 58) (N := some 94) (Bz 69 1152921504606846975) rfl rfl (one_of HT_.out (by kernel_rfl)) (by decide) (fun K hK => ?_)
            refine goes_ Tryd.func12 (by kernel_rfl) rfl #[.agg #[.int .u64 t741, .int .u64 t742, .int .u64 t743, .int .u64 t744], .agg #[.int .u64 t746, .int .u64 t747, .int .u64 t748, .int .u64 t749]] (by rfl) rfl rfl (by (try simp only [List.map_toArray, List.map_cons, List.map_nil]); first | done | rfl | (simp only [List.length_drop, List.length_take]; rfl)) ?_
            with_reducible refine (vec_Join.calls t741 t742 t743 t744 t746 t747 t748 t749 t827 t828 t829 t830 _ A129.out).mono ?_
            rintro e w140 ⟨rfl, hb⟩
            refine ⟨_, rfl, ?_⟩
            replace BK737 := Kb_ BK737 hb
            replace BK738 := Kb_ BK738 hb
            replace BK739 := Kb_ BK739 hb
            replace BK745 := Kb_ BK745 hb
            replace BK750 := Kb_ BK750 hb
            replace BK755 := Kb_ BK755 hb
            replace HB := Ks_ HB hb
            (try clear hb)
            (try clear hb2)
            (try clear hk)
            (try clear hi)
            refine hK.out _ _ ⟨Km_ BK745 0, Km_ BK745 1, Km_ BK745 2, Km_ BK745 3, Km_ BK750 0, Km_ BK750 1, Km_ BK750 2, Km_ BK750 3, Km_ BK755 0, Km_ BK755 1, Km_ BK755 2, Km_ BK755 3⟩ (fun hHeld => ?_)
            clear hK K
            refine Kn_ 94 ?_
            refine Kp_ 60 96 (Bz 69 2305843009213693951) (any_of HT_.out (by kernel_rfl)) ?_
            refine Kp_ 61 97 (Bz 69 4611686018427387903) (any_of HT_.out (by kernel_rfl)) ?_
            refine Kp_ 62 98 (Bz 69 9223372036854775807) (any_of HT_.out (by kernel_rfl)) ?_
            refine Kp_ 63 99 (Bz 69 18446744073709551615) (any_of HT_.out (by kernel_rfl)) ?_
            refine Kp_ 64 100 (Bz 69 36893488147419103231) (any_of HT_.out (by kernel_rfl)) ?_
            refine Ko_ 65 101 (Bz 69 73786976294838206463) (take_ofW HT_.out HW_.out (by kernel_rfl)) hHeld ?_
            refine one_ (i := 66) (N := some 102) (Bz 69 147573952589676412927) rfl rfl (one_of HT_.out (by kernel_rfl)) (by decide) (fun K hK => ?_)
            refine goes_ Tryd.func22 (by kernel_rfl) rfl #[.agg #[.int .u64 0, .int .u64 0, .int .u64 0, .int .u64 0], .agg #[.int .u64 t741, .int .u64 t742, .int .u64 t743, .int .u64 t744]] (by rfl) rfl rfl (by (try simp only [List.map_toArray, List.map_cons, List.map_nil]); first | done | rfl | (simp only [List.length_drop, List.length_take]; rfl)) ?_
            with_reducible refine (vec_Leq.calls 0 0 0 0 t741 t742 t743 t744 true _ A132.out).mono ?_
            rintro e w141 ⟨rfl, hb⟩
            refine ⟨_, rfl, ?_⟩
            replace BK737 := Kb_ BK737 hb
            replace BK738 := Kb_ BK738 hb
            replace BK739 := Kb_ BK739 hb
            replace BK745 := Kb_ BK745 hb
            replace BK750 := Kb_ BK750 hb
            replace BK755 := Kb_ BK755 hb
            replace HB := Ks_ HB hb
            (try clear hb)
            (try clear hb2)
            (try clear hk)
            (try clear hi)
            refine hK.out _ _ ⟨Km_ BK745 0, Km_ BK745 1, Km_ BK745 2, Km_ BK745 3, Km_ BK750 0, Km_ BK750 1, Km_ BK750 2, Km_ BK750 3, Km_ BK755 0, Km_ BK755 1, Km_ BK755 2, Km_ BK755 3⟩ (fun hHeld => ?_)
            clear hK K
            refine Kn_ 102 ?_
            refine Kp_ 67 103 (Bz 69 295147905179352825855) (any_of HT_.out (by kernel_rfl)) ?_
            refine Kp_ 68 6 (Bz 69 590295810358705651711) (any_of HT_.out (by kernel_rfl)) ?_
            refine done_ (done_of HT_.out (by kernel_rfl)) ?_
            try go_wp2
            go_ret
            exact ⟨Kh_, by repeat (first | (with_reducible first | exact HB.out | apply below_alloc | apply pw_below_drewN | apply below_drew1 | refine below_set ?_ GE737.out | refine below_set ?_ GE738.out | refine below_set ?_ GE739.out | refine below_set ?_ GE745.out | refine below_set ?_ GE750.out | refine below_set ?_ GE755.out) | exact HB.out)⟩
          subst c105
          have H1 : ((vec_Leq.f t741 t742 t743 t744 t746 t747 t748 t749).bind fun t809 => (if t809 = true then ((vec_Sum.f t741 t742 t743 t744).bind fun t810 => ((vec_Sum.f t746 t747 t748 t749).bind fun t811 => (if t810 < t811 then ((vec_Leq.f t741 t742 t743 t744 t746 t747 t748 t749).bind fun t812 => ((vec_Join.f t741 t742 t743 t744 t746 t747 t748 t749).bind fun bt813 => (if t812 = true then (if (bt813.1 == t746 && (bt813.2.1 == t747 && (bt813.2.2.1 == t748 && (bt813.2.2.2 == t749)))) = true then ((vec_Leq.f 0 0 0 0 t741 t742 t743 t744).bind fun t817 => (if t817 = true then (some true) else (none))) else (none)) else (none)))) else (none)))) else (none))) = some r := by rw [if_pos rfl] at H; exact H
          clear H
          have H := H1
          clear H1
          replace H := Option.bind_eq_some_iff.mp H
          obtain ⟨t809, A1060, H⟩ := H
          replace H : (if t809 = true then ((vec_Sum.f t741 t742 t743 t744).bind fun t810 => ((vec_Sum.f t746 t747 t748 t749).bind fun t811 => (if t810 < t811 then ((vec_Leq.f t741 t742 t743 t744 t746 t747 t748 t749).bind fun t812 => ((vec_Join.f t741 t742 t743 t744 t746 t747 t748 t749).bind fun bt813 => (if t812 = true then (if (bt813.1 == t746 && (bt813.2.1 == t747 && (bt813.2.2.1 == t748 && (bt813.2.2.2 == t749)))) = true then ((vec_Leq.f 0 0 0 0 t741 t742 t743 t744).bind fun t817 => (if t817 = true then (some true) else (none))) else (none)) else (none)))) else (none)))) else (none)) = some r := H
          have A106 := Aside0.mk A1060
          clear A1060
          by_cases c107 : t809 = true
          rotate_left
          · replace c107 := Bool.eq_false_iff.mpr c107
            subst c107
            have H1 : (none) = some r := by rw [if_neg (show ¬ (false = true) by decide)] at H; exact H
            clear H
            have H := H1
            clear H1
            exact absurd H (by simp)
          subst c107
          have H1 : ((vec_Sum.f t741 t742 t743 t744).bind fun t810 => ((vec_Sum.f t746 t747 t748 t749).bind fun t811 => (if t810 < t811 then ((vec_Leq.f t741 t742 t743 t744 t746 t747 t748 t749).bind fun t812 => ((vec_Join.f t741 t742 t743 t744 t746 t747 t748 t749).bind fun bt813 => (if t812 = true then (if (bt813.1 == t746 && (bt813.2.1 == t747 && (bt813.2.2.1 == t748 && (bt813.2.2.2 == t749)))) = true then ((vec_Leq.f 0 0 0 0 t741 t742 t743 t744).bind fun t817 => (if t817 = true then (some true) else (none))) else (none)) else (none)))) else (none)))) = some r := by rw [if_pos rfl] at H; exact H
          clear H
          have H := H1
          clear H1
          replace H := Option.bind_eq_some_iff.mp H
          obtain ⟨t810, A1080, H⟩ := H
          replace H : ((vec_Sum.f t746 t747 t748 t749).bind fun t811 => (if t810 < t811 then ((vec_Leq.f t741 t742 t743 t744 t746 t747 t748 t749).bind fun t812 => ((vec_Join.f t741 t742 t743 t744 t746 t747 t748 t749).bind fun bt813 => (if t812 = true then (if (bt813.1 == t746 && (bt813.2.1 == t747 && (bt813.2.2.1 == t748 && (bt813.2.2.2 == t749)))) = true then ((vec_Leq.f 0 0 0 0 t741 t742 t743 t744).bind fun t817 => (if t817 = true then (some true) else (none))) else (none)) else (none)))) else (none))) = some r := H
          have A108 := Aside0.mk A1080
          clear A1080
          replace H := Option.bind_eq_some_iff.mp H
          obtain ⟨t811, A1090, H⟩ := H
          replace H : (if t810 < t811 then ((vec_Leq.f t741 t742 t743 t744 t746 t747 t748 t749).bind fun t812 => ((vec_Join.f t741 t742 t743 t744 t746 t747 t748 t749).bind fun bt813 => (if t812 = true then (if (bt813.1 == t746 && (bt813.2.1 == t747 && (bt813.2.2.1 == t748 && (bt813.2.2.2 == t749)))) = true then ((vec_Leq.f 0 0 0 0 t741 t742 t743 t744).bind fun t817 => (if t817 = true then (some true) else (none))) else (none)) else (none)))) else (none)) = some r := H
          have A109 := Aside0.mk A1090
          clear A1090
          by_cases c110 : t810 < t811
          rotate_left
          · rw [if_neg c110] at H
            exact absurd H (by simp)
          rw [if_pos c110] at H
          have c110b0 : decide (t810 < t811) = true := decide_eq_true c110
          clear c110
          replace H := Option.bind_eq_some_iff.mp H
          obtain ⟨t812, A1110, H⟩ := H
          replace H : ((vec_Join.f t741 t742 t743 t744 t746 t747 t748 t749).bind fun bt813 => (if t812 = true then (if (bt813.1 == t746 && (bt813.2.1 == t747 && (bt813.2.2.1 == t748 && (bt813.2.2.2 == t749)))) = true then ((vec_Leq.f 0 0 0 0 t741 t742 t743 t744).bind fun t817 => (if t817 = true then (some true) else (none))) else (none)) else (none))) = some r := H
          have A111 := Aside0.mk A1110
          clear A1110
          replace H := Option.bind_eq_some_iff.mp H
          obtain ⟨⟨t813, t814, t815, t816⟩, A1120, H⟩ := H
          replace H : (if t812 = true then (if (t813 == t746 && (t814 == t747 && (t815 == t748 && (t816 == t749)))) = true then ((vec_Leq.f 0 0 0 0 t741 t742 t743 t744).bind fun t817 => (if t817 = true then (some true) else (none))) else (none)) else (none)) = some r := H
          have A112 := Aside0.mk A1120
          clear A1120
          by_cases c113 : t812 = true
          rotate_left
          · replace c113 := Bool.eq_false_iff.mpr c113
            subst c113
            have H1 : (none) = some r := by rw [if_neg (show ¬ (false = true) by decide)] at H; exact H
            clear H
            have H := H1
            clear H1
            exact absurd H (by simp)
          subst c113
          have H1 : (if (t813 == t746 && (t814 == t747 && (t815 == t748 && (t816 == t749)))) = true then ((vec_Leq.f 0 0 0 0 t741 t742 t743 t744).bind fun t817 => (if t817 = true then (some true) else (none))) else (none)) = some r := by rw [if_pos rfl] at H; exact H
          clear H
          have H := H1
          clear H1
          by_cases c114 : (t813 == t746 && (t814 == t747 && (t815 == t748 && (t816 == t749)))) = true
          rotate_left
          · rw [if_neg c114] at H
            exact absurd H (by simp)
          rw [if_pos c114] at H
          have c114b0 : (t813 == t746 && (t814 == t747 && (t815 == t748 && (t816 == t749)))) = true := c114
          (try (have c114b1 : decide (t813 = t746 && (t814 == t747 && (t815 == t748 && (t816 == t749)))) = true := by simpa using c114))
          (try (have c114b2 : (t813 == t746 && (t814 == t747 && (t815 == t748 && (t816 == t749)))) = true := by simpa using c114))
          clear c114
          replace H := Option.bind_eq_some_iff.mp H
          obtain ⟨t817, A1150, H⟩ := H
          replace H : (if t817 = true then (some true) else (none)) = some r := H
          have A115 := Aside0.mk A1150
          clear A1150
          by_cases c116 : t817 = true
          rotate_left
          · replace c116 := Bool.eq_false_iff.mpr c116
            subst c116
            have H1 : (none) = some r := by rw [if_neg (show ¬ (false = true) by decide)] at H; exact H
            clear H
            have H := H1
            clear H1
            exact absurd H (by simp)
          subst c116
          have H1 : (some true) = some r := by rw [if_pos rfl] at H; exact H
          clear H
          have H := H1
          clear H1
          obtain rfl := Option.some.inj H
          try go_wp2
          replace BK737 := Kd_ BK737
          replace BK738 := Kd_ BK738
          replace BK739 := Kd_ BK739
          replace BK745 := Kd_ BK745
          replace BK750 := Kd_ BK750
          replace BK755 := Kd_ BK755
          replace HB := Aside0.mk (below_drew1 HB.out)
          refine start_ (n := 69) (S := fun w' => w'.cell? ⟨gb745, 0, none⟩ = some (.int .u64 t741) ∧ w'.cell? ⟨gb745, 1, none⟩ = some (.int .u64 t742) ∧ w'.cell? ⟨gb745, 2, none⟩ = some (.int .u64 t743) ∧ w'.cell? ⟨gb745, 3, none⟩ = some (.int .u64 t744) ∧ w'.cell? ⟨gb750, 0, none⟩ = some (.int .u64 t746) ∧ w'.cell? ⟨gb750, 1, none⟩ = some (.int .u64 t747) ∧ w'.cell? ⟨gb750, 2, none⟩ = some (.int .u64 t748) ∧ w'.cell? ⟨gb750, 3, none⟩ = some (.int .u64 t749) ∧ w'.cell? ⟨gb755, 0, none⟩ = some (.int .u64 t751) ∧ w'.cell? ⟨gb755, 1, none⟩ = some (.int .u64 t752) ∧ w'.cell? ⟨gb755, 2, none⟩ = some (.int .u64 t753) ∧ w'.cell? ⟨gb755, 3, none⟩ = some (.int .u64 t754)) (ds := []) #[false, false, false, false, false, false, false, false, false, false, false, false, false, false, false, false, false, false, false, false, false, false, false, false, false, false, false, false, false, false, false, false, false, false, false, false, false, false, false, false, false, false, false, false, false, false, false, false, false, false, false, false, false, false, false, false, false, false, false, false, false, false, false, false, false, false, false, false, false] (by kernel_rfl) rfl rfl ⟨Km_ BK745 0, Km_ BK745 1, Km_ BK745 2, Km_ BK745 3, Km_ BK750 0, Km_ BK750 1, Km_ BK750 2, Km_ BK750 3, Km_ BK755 0, Km_ BK755 1, Km_ BK755 2, Km_ BK755 3⟩ (fun hHeld => ?_); refine with_tabW tenementlaw06_VecOrder_p1.tab9 tenementlaw06_VecOrder_p1.bits9 (fun HT_ HW_ => ?_)
          generalize wc.drew = w117 at BK737 BK738 BK739 BK745 BK750 BK755 HB hHeld ⊢
          refine Kp_ 0 36 (Bz 69 1) (any_of HT_.out (by kernel_rfl)) ?_
          refine Kp_ 1 37 (Bz 69 3) (any_of HT_.out (by kernel_rfl)) ?_
          refine Ko_ 2 38 (Bz 69 7) (take_ofW HT_.out HW_.out (by kernel_rfl)) hHeld ?_
          refine Ko_ 3 39 (Bz 69 15) (take_ofW HT_.out HW_.out (by kernel_rfl)) hHeld ?_
          refine one_ (i := 4) (N := some 40) (Bz 69 31) rfl rfl (one_of HT_.out (by kernel_rfl)) (by decide) (fun K hK => ?_)
          refine goes_ Tryd.func22 (by kernel_rfl) rfl #[.agg #[.int .u64 t741, .int .u64 t742, .int .u64 t743, .int .u64 t744], .agg #[.int .u64 t741, .int .u64 t742, .int .u64 t743, .int .u64 t744]] (by rfl) rfl rfl (by (try simp only [List.map_toArray, List.map_cons, List.map_nil]); first | done | rfl | (simp only [List.length_drop, List.length_take]; rfl)) ?_
          with_reducible refine (vec_Leq.calls t741 t742 t743 t744 t741 t742 t743 t744 true _ A95.out).mono ?_
          rintro e w118 ⟨rfl, hb⟩
          refine ⟨_, rfl, ?_⟩
          replace BK737 := Kb_ BK737 hb
          replace BK738 := Kb_ BK738 hb
          replace BK739 := Kb_ BK739 hb
          replace BK745 := Kb_ BK745 hb
          replace BK750 := Kb_ BK750 hb
          replace BK755 := Kb_ BK755 hb
          replace HB := Ks_ HB hb
          (try clear hb)
          (try clear hb2)
          (try clear hk)
          (try clear hi)
          refine hK.out _ _ ⟨Km_ BK745 0, Km_ BK745 1, Km_ BK745 2, Km_ BK745 3, Km_ BK750 0, Km_ BK750 1, Km_ BK750 2, Km_ BK750 3, Km_ BK755 0, Km_ BK755 1, Km_ BK755 2, Km_ BK755 3⟩ (fun hHeld => ?_)
          clear hK K
          refine Kn_ 40 ?_
          refine Kp_ 5 41 (Bz 69 63) (any_of HT_.out (by kernel_rfl)) ?_
          refine Kp_ 6 42 (Bz 69 127) (any_of HT_.out (by kernel_rfl)) ?_
          refine Kp_ 7 43 (Bz 69 255) (any_of HT_.out (by kernel_rfl)) ?_
          refine Ko_ 8 44 (Bz 69 511) (take_ofW HT_.out HW_.out (by kernel_rfl)) hHeld ?_
          refine Ko_ 9 45 (Bz 69 1023) (take_ofW HT_.out HW_.out (by kernel_rfl)) hHeld ?_
          refine Kp_ 10 46 (Bz 69 2047) (any_of HT_.out (by kernel_rfl)) ?_
          refine Kp_ 11 47 (Bz 69 4095) (any_of HT_.out (by kernel_rfl)) ?_
          refine Kp_ 12 48 (Bz 69 8191) (any_of HT_.out (by kernel_rfl)) ?_
          refine Kp_ 13 49 (Bz 69 16383) (any_of HT_.out (by kernel_rfl)) ?_
          refine Ko_ 14 50 (Bz 69 32767) (take_ofW HT_.out HW_.out (by kernel_rfl)) hHeld ?_
          refine Ko_ 15 51 (Bz 69 65535) (take_ofW HT_.out HW_.out (by kernel_rfl)) hHeld ?_
          refine one_ (i := 16) (N := some 52) (Bz 69 131071) rfl rfl (one_of HT_.out (by kernel_rfl)) (by decide) (fun K hK => ?_)
          refine goes_ Tryd.func22 (by kernel_rfl) rfl #[.agg #[.int .u64 t741, .int .u64 t742, .int .u64 t743, .int .u64 t744], .agg #[.int .u64 t746, .int .u64 t747, .int .u64 t748, .int .u64 t749]] (by rfl) rfl rfl (by (try simp only [List.map_toArray, List.map_cons, List.map_nil]); first | done | rfl | (simp only [List.length_drop, List.length_take]; rfl)) ?_
          with_reducible refine (vec_Leq.calls t741 t742 t743 t744 t746 t747 t748 t749 true _ A99.out).mono ?_
          rintro e w119 ⟨rfl, hb⟩
          refine ⟨_, rfl, ?_⟩
          replace BK737 := Kb_ BK737 hb
          replace BK738 := Kb_ BK738 hb
          replace BK739 := Kb_ BK739 hb
          replace BK745 := Kb_ BK745 hb
          replace BK750 := Kb_ BK750 hb
          replace BK755 := Kb_ BK755 hb
          replace HB := Ks_ HB hb
          (try clear hb)
          (try clear hb2)
          (try clear hk)
          (try clear hi)
          refine hK.out _ _ ⟨Km_ BK745 0, Km_ BK745 1, Km_ BK745 2, Km_ BK745 3, Km_ BK750 0, Km_ BK750 1, Km_ BK750 2, Km_ BK750 3, Km_ BK755 0, Km_ BK755 1, Km_ BK755 2, Km_ BK755 3⟩ (fun hHeld => ?_)
          clear hK K
          refine Kn_ 52 ?_
          refine Kp_ 17 53 (Bz 69 262143) (any_of HT_.out (by kernel_rfl)) ?_
          refine Kp_ 18 54 (Bz 69 524287) (any_of HT_.out (by kernel_rfl)) ?_
          refine Ko_ 19 55 (Bz 69 1048575) (take_ofW HT_.out HW_.out (by kernel_rfl)) hHeld ?_
          refine Ko_ 20 56 (Bz 69 2097151) (take_ofW HT_.out HW_.out (by kernel_rfl)) hHeld ?_
          refine one_ (i := 21) (N := some 57) (Bz 69 4194303) rfl rfl (one_of HT_.out (by kernel_rfl)) (by decide) (fun K hK => ?_)
          refine goes_ Tryd.func22 (by kernel_rfl) rfl #[.agg #[.int .u64 t746, .int .u64 t747, .int .u64 t748, .int .u64 t749], .agg #[.int .u64 t751, .int .u64 t752, .int .u64 t753, .int .u64 t754]] (by rfl) rfl rfl (by (try simp only [List.map_toArray, List.map_cons, List.map_nil]); first | done | rfl | (simp only [List.length_drop, List.length_take]; rfl)) ?_
          with_reducible refine (vec_Leq.calls t746 t747 t748 t749 t751 t752 t753 t754 true _ A101.out).mono ?_
          rintro e w120 ⟨rfl, hb⟩
          refine ⟨_, rfl, ?_⟩
          replace BK737 := Kb_ BK737 hb
          replace BK738 := Kb_ BK738 hb
          replace BK739 := Kb_ BK739 hb
          replace BK745 := Kb_ BK745 hb
          replace BK750 := Kb_ BK750 hb
          replace BK755 := Kb_ BK755 hb
          replace HB := Ks_ HB hb
          (try clear hb)
          (try clear hb2)
          (try clear hk)
          (try clear hi)
          refine hK.out _ _ ⟨Km_ BK745 0, Km_ BK745 1, Km_ BK745 2, Km_ BK745 3, Km_ BK750 0, Km_ BK750 1, Km_ BK750 2, Km_ BK750 3, Km_ BK755 0, Km_ BK755 1, Km_ BK755 2, Km_ BK755 3⟩ (fun hHeld => ?_)
          clear hK K
          refine Kn_ 57 ?_
          refine Kp_ 22 58 (Bz 69 8388607) (any_of HT_.out (by kernel_rfl)) ?_
          refine Kp_ 23 59 (Bz 69 16777215) (any_of HT_.out (by kernel_rfl)) ?_
          refine Kp_ 24 60 (Bz 69 33554431) (any_of HT_.out (by kernel_rfl)) ?_
          refine Ko_ 25 61 (Bz 69 67108863) (take_ofW HT_.out HW_.out (by kernel_rfl)) hHeld ?_
          refine Ko_ 26 62 (Bz 69 134217727) (take_ofW HT_.out HW_.out (by kernel_rfl)) hHeld ?_
          refine one_ (i := 27) (N := some 63) (Bz 69 268435455) rfl rfl (one_of HT_.out (by kernel_rfl)) (by decide) (fun K hK => ?_)
          refine goes_ Tryd.func22 (by kernel_rfl) rfl #[.agg #[.int .u64 t741, .int .u64 t742, .int .u64 t743, .int .u64 t744], .agg #[.int .u64 t751, .int .u64 t752, .int .u64 t753, .int .u64 t754]] (by rfl) rfl rfl (by (try simp only [List.map_toArray, List.map_cons, List.map_nil]); first | done | rfl | (simp only [List.length_drop, List.length_take]; rfl)) ?_
          with_reducible refine (vec_Leq.calls t741 t742 t743 t744 t751 t752 t753 t754 true _ A103.out).mono ?_
          rintro e w121 ⟨rfl, hb⟩
          refine ⟨_, rfl, ?_⟩
          replace BK737 := Kb_ BK737 hb
          replace BK738 := Kb_ BK738 hb
          replace BK739 := Kb_ BK739 hb
          replace BK745 := Kb_ BK745 hb
          replace BK750 := Kb_ BK750 hb
          replace BK755 := Kb_ BK755 hb
          replace HB := Ks_ HB hb
          (try clear hb)
          (try clear hb2)
          (try clear hk)
          (try clear hi)
          refine hK.out _ _ ⟨Km_ BK745 0, Km_ BK745 1, Km_ BK745 2, Km_ BK745 3, Km_ BK750 0, Km_ BK750 1, Km_ BK750 2, Km_ BK750 3, Km_ BK755 0, Km_ BK755 1, Km_ BK755 2, Km_ BK755 3⟩ (fun hHeld => ?_)
          clear hK K
          refine Kn_ 63 ?_
          refine Kp_ 28 64 (Bz 69 536870911) (any_of HT_.out (by kernel_rfl)) ?_
          refine Kp_ 29 65 (Bz 69 1073741823) (any_of HT_.out (by kernel_rfl)) ?_
          refine Kp_ 30 66 (Bz 69 2147483647) (any_of HT_.out (by kernel_rfl)) ?_
          refine Kp_ 31 67 (Bz 69 4294967295) (any_of HT_.out (by kernel_rfl)) ?_
          refine Kp_ 32 68 (Bz 69 8589934591) (any_of HT_.out (by kernel_rfl)) ?_
          refine Kp_ 33 69 (Bz 69 17179869183) (any_of HT_.out (by kernel_rfl)) ?_
          refine Ko_ 34 70 (Bz 69 34359738367) (take_ofW HT_.out HW_.out (by kernel_rfl)) hHeld ?_
          refine Ko_ 35 71 (Bz 69 68719476735) (take_ofW HT_.out HW_.out (by kernel_rfl)) hHeld ?_
          refine Kp_ 36 72 (Bz 69 137438953471) (any_of HT_.out (by kernel_rfl)) ?_
          refine Kp_ 37 73 (Bz 69 274877906943) (any_of HT_.out (by kernel_rfl)) ?_
          refine Kp_ 38 74 (Bz 69 549755813887) (any_of HT_.out (by kernel_rfl)) ?_
          refine Ko_ 39 75 (Bz 69 1099511627775) (take_ofW HT_.out HW_.out (by kernel_rfl)) hHeld ?_
          refine Ko_ 40 76 (Bz 69 2199023255551) (take_ofW HT_.out HW_.out (by kernel_rfl)) hHeld ?_
          refine one_ (i := 41) (N := some 77) (Bz 69 4398046511103) rfl rfl (one_of HT_.out (by kernel_rfl)) (by decide) (fun K hK => ?_)
          refine goes_ Tryd.func22 (by kernel_rfl) rfl #[.agg #[.int .u64 t741, .int .u64 t742, .int .u64 t743, .int .u64 t744], .agg #[.int .u64 t746, .int .u64 t747, .int .u64 t748, .int .u64 t749]] (by rfl) rfl rfl (by (try simp only [List.map_toArray, List.map_cons, List.map_nil]); first | done | rfl | (simp only [List.length_drop, List.length_take]; rfl)) ?_
          with_reducible refine (vec_Leq.calls t741 t742 t743 t744 t746 t747 t748 t749 true _ A106.out).mono ?_
          rintro e w122 ⟨rfl, hb⟩
          refine ⟨_, rfl, ?_⟩
          replace BK737 := Kb_ BK737 hb
          replace BK738 := Kb_ BK738 hb
          replace BK739 := Kb_ BK739 hb
          replace BK745 := Kb_ BK745 hb
          replace BK750 := Kb_ BK750 hb
          replace BK755 := Kb_ BK755 hb
          replace HB := Ks_ HB hb
          (try clear hb)
          (try clear hb2)
          (try clear hk)
          (try clear hi)
          refine hK.out _ _ ⟨Km_ BK745 0, Km_ BK745 1, Km_ BK745 2, Km_ BK745 3, Km_ BK750 0, Km_ BK750 1, Km_ BK750 2, Km_ BK750 3, Km_ BK755 0, Km_ BK755 1, Km_ BK755 2, Km_ BK755 3⟩ (fun hHeld => ?_)
          clear hK K
          refine Kn_ 77 ?_
          refine Kp_ 42 78 (Bz 69 8796093022207) (any_of HT_.out (by kernel_rfl)) ?_
          refine Kp_ 43 79 (Bz 69 17592186044415) (any_of HT_.out (by kernel_rfl)) ?_
          refine Kp_ 44 80 (Bz 69 35184372088831) (any_of HT_.out (by kernel_rfl)) ?_
          refine Ko_ 45 81 (Bz 69 70368744177663) (take_ofW HT_.out HW_.out (by kernel_rfl)) hHeld ?_
          refine Ko_ 47 83 (Bz 69 211106232532991) (take_ofW HT_.out HW_.out (by kernel_rfl)) hHeld ?_
          refine one_ (i := 46) (N := some 82) (Bz 69 281474976710655) rfl rfl (one_of HT_.out (by kernel_rfl)) (by decide) (fun K hK => ?_)
          refine goes_ Tryd.func26 (by kernel_rfl) rfl #[.agg #[.int .u64 t741, .int .u64 t742, .int .u64 t743, .int .u64 t744]] (by rfl) rfl rfl (by (try simp only [List.map_toArray, List.map_cons, List.map_nil]); first | done | rfl | (simp only [List.length_drop, List.length_take]; rfl)) ?_
          with_reducible refine (vec_Sum.calls t741 t742 t743 t744 t810 _ A108.out).mono ?_
          rintro e w123 ⟨rfl, hb⟩
          refine ⟨_, rfl, ?_⟩
          replace BK737 := Kb_ BK737 hb
          replace BK738 := Kb_ BK738 hb
          replace BK739 := Kb_ BK739 hb
          replace BK745 := Kb_ BK745 hb
          replace BK750 := Kb_ BK750 hb
          replace BK755 := Kb_ BK755 hb
          replace HB := Ks_ HB hb
          (try clear hb)
          (try clear hb2)
          (try clear hk)
          (try clear hi)
          refine hK.out _ _ ⟨Km_ BK745 0, Km_ BK745 1, Km_ BK745 2, Km_ BK745 3, Km_ BK750 0, Km_ BK750 1, Km_ BK750 2, Km_ BK750 3, Km_ BK755 0, Km_ BK755 1, Km_ BK755 2, Km_ BK755 3⟩ (fun hHeld => ?_)
          clear hK K
          refine Kn_ 82 ?_
          refine one_ (i := 48) (N := some 84) (Bz 69 562949953421311) rfl rfl (one_of HT_.out (by kernel_rfl)) (by decide) (fun K hK => ?_)
          refine goes_ Tryd.func26 (by kernel_rfl) rfl #[.agg #[.int .u64 t746, .int .u64 t747, .int .u64 t748, .int .u64 t749]] (by rfl) rfl rfl (by (try simp only [List.map_toArray, List.map_cons, List.map_nil]); first | done | rfl | (simp only [List.length_drop, List.length_take]; rfl)) ?_
          with_reducible refine (vec_Sum.calls t746 t747 t748 t749 t811 _ A109.out).mono ?_
          rintro e w124 ⟨rfl, hb⟩
          refine ⟨_, rfl, ?_⟩
          replace BK737 := Kb_ BK737 hb
          replace BK738 := Kb_ BK738 hb
          replace BK739 := Kb_ BK739 hb
          replace BK745 := Kb_ BK745 hb
          replace BK750 := Kb_ BK750 hb
          replace BK755 := Kb_ BK755 hb
          replace HB := Ks_ HB hb
          (try clear hb)
          (try clear hb2)
          (try clear hk)
          (try clear hi)
          refine hK.out _ _ ⟨Km_ BK745 0, Km_ BK745 1, Km_ BK745 2, Km_ BK745 3, Km_ BK750 0, Km_ BK750 1, Km_ BK750 2, Km_ BK750 3, Km_ BK755 0, Km_ BK755 1, Km_ BK755 2, Km_ BK755 3⟩ (fun hHeld => ?_)
          clear hK K
          refine Kn_ 84 ?_
          refine Kp_ 49 85 (Bz 69 1125899906842623) (any_of HT_.out (by kernel_rfl)) ?_
          refine Kp_ 50 86 (Bz 69 2251799813685247) (any_of HT_.out (by kernel_rfl)) ?_
          refine Kp_ 51 87 (Bz 69 4503599627370495) (any_of HT_.out (by kernel_rfl)) ?_
          refine Kp_ 52 88 (Bz 69 9007199254740991) (any_of HT_.out (by kernel_rfl)) ?_
          refine Ko_ 53 89 (Bz 69 18014398509481983) (take_ofW HT_.out HW_.out (by kernel_rfl)) hHeld ?_
          refine Ko_ 54 90 (Bz 69 36028797018963967) (take_ofW HT_.out HW_.out (by kernel_rfl)) hHeld ?_
          refine Ko_ 56 92 (Bz 69 108086391056891903) (take_ofW HT_.out HW_.out (by kernel_rfl)) hHeld ?_
          refine Ko_ 57 93 (Bz 69 252201579132747775) (take_ofW HT_.out HW_.out (by kernel_rfl)) hHeld ?_
          refine Ko_ 59 95 (Bz 69 828662331436171263) (take_ofW HT_.out HW_.out (by kernel_rfl)) hHeld ?_
          refine one_ (i := 55) (N := some 91) (Bz 69 864691128455135231) rfl rfl (one_of HT_.out (by kernel_rfl)) (by decide) (fun K hK => ?_)
          refine goes_ Tryd.func22 (by kernel_rfl) rfl #[.agg #[.int .u64 t741, .int .u64 t742, .int .u64 t743, .int .u64 t744], .agg #[.int .u64 t746, .int .u64 t747, .int .u64 t748, .int .u64 t749]] (by rfl) rfl rfl (by (try simp only [List.map_toArray, List.map_cons, List.map_nil]); first | done | rfl | (simp only [List.length_drop, List.length_take]; rfl)) ?_
          with_reducible refine (vec_Leq.calls t741 t742 t743 t744 t746 t747 t748 t749 true _ A111.out).mono ?_
          rintro e w125 ⟨rfl, hb⟩
          refine ⟨_, rfl, ?_⟩
          replace BK737 := Kb_ BK737 hb
          replace BK738 := Kb_ BK738 hb
          replace BK739 := Kb_ BK739 hb
          replace BK745 := Kb_ BK745 hb
          replace BK750 := Kb_ BK750 hb
          replace BK755 := Kb_ BK755 hb
          replace HB := Ks_ HB hb
          (try clear hb)
          (try clear hb2)
          (try clear hk)
          (try clear hi)
          refine hK.out _ _ ⟨Km_ BK745 0, Km_ BK745 1, Km_ BK745 2, Km_ BK745 3, Km_ BK750 0, Km_ BK750 1, Km_ BK750 2, Km_ BK750 3, Km_ BK755 0, Km_ BK755 1, Km_ BK755 2, Km_ BK755 3⟩ (fun hHeld => ?_)
          clear hK K
          refine Kn_ 91 ?_
          refine one_ (i := 58) (N := some 94) (Bz 69 1152921504606846975) rfl rfl (one_of HT_.out (by kernel_rfl)) (by decide) (fun K hK => ?_)
          refine goes_ Tryd.func12 (by kernel_rfl) rfl #[.agg #[.int .u64 t741, .int .u64 t742, .int .u64 t743, .int .u64 t744], .agg #[.int .u64 t746, .int .u64 t747, .int .u64 t748, .int .u64 t749]] (by rfl) rfl rfl (by (try simp only [List.map_toArray, List.map_cons, List.map_nil]); first | done | rfl | (simp only [List.length_drop, List.length_take]; rfl)) ?_
          with_reducible refine (vec_Join.calls t741 t742 t743 t744 t746 t747 t748 t749 t813 t814 t815 t816 _ A112.out).mono ?_
          rintro e w126 ⟨rfl, hb⟩
          refine ⟨_, rfl, ?_⟩
          replace BK737 := Kb_ BK737 hb
          replace BK738 := Kb_ BK738 hb
          replace BK739 := Kb_ BK739 hb
          replace BK745 := Kb_ BK745 hb
          replace BK750 := Kb_ BK750 hb
          replace BK755 := Kb_ BK755 hb
          replace HB := Ks_ HB hb
          (try clear hb)
          (try clear hb2)
          (try clear hk)
          (try clear hi)
          refine hK.out _ _ ⟨Km_ BK745 0, Km_ BK745 1, Km_ BK745 2, Km_ BK745 3, Km_ BK750 0, Km_ BK750 1, Km_ BK750 2, Km_ BK750 3, Km_ BK755 0, Km_ BK755 1, Km_ BK755 2, Km_ BK755 3⟩ (fun hHeld => ?_)
          clear hK K
          refine Kn_ 94 ?_
          refine Kp_ 60 96 (Bz 69 2305843009213693951) (any_of HT_.out (by kernel_rfl)) ?_
          refine Kp_ 61 97 (Bz 69 4611686018427387903) (any_of HT_.out (by kernel_rfl)) ?_
          refine Kp_ 62 98 (Bz 69 9223372036854775807) (any_of HT_.out (by kernel_rfl)) ?_
          refine Kp_ 63 99 (Bz 69 18446744073709551615) (any_of HT_.out (by kernel_rfl)) ?_
          refine Kp_ 64 100 (Bz 69 36893488147419103231) (any_of HT_.out (by kernel_rfl)) ?_
          refine Ko_ 65 101 (Bz 69 73786976294838206463) (take_ofW HT_.out HW_.out (by kernel_rfl)) hHeld ?_
          refine one_ (i := 66) (N := some 102) (Bz 69 147573952589676412927) rfl rfl (one_of HT_.out (by kernel_rfl)) (by decide) (fun K hK => ?_)
          refine goes_ Tryd.func22 (by kernel_rfl) rfl #[.agg #[.int .u64 0, .int .u64 0, .int .u64 0, .int .u64 0], .agg #[.int .u64 t741, .int .u64 t742, .int .u64 t743, .int .u64 t744]] (by rfl) rfl rfl (by (try simp only [List.map_toArray, List.map_cons, List.map_nil]); first | done | rfl | (simp only [List.length_drop, List.length_take]; rfl)) ?_
          with_reducible refine (vec_Leq.calls 0 0 0 0 t741 t742 t743 t744 true _ A115.out).mono ?_
          rintro e w127 ⟨rfl, hb⟩
          refine ⟨_, rfl, ?_⟩
          replace BK737 := Kb_ BK737 hb
          replace BK738 := Kb_ BK738 hb
          replace BK739 := Kb_ BK739 hb
          replace BK745 := Kb_ BK745 hb
          replace BK750 := Kb_ BK750 hb
          replace BK755 := Kb_ BK755 hb
          replace HB := Ks_ HB hb
          (try clear hb)
          (try clear hb2)
          (try clear hk)
          (try clear hi)
          refine hK.out _ _ ⟨Km_ BK745 0, Km_ BK745 1, Km_ BK745 2, Km_ BK745 3, Km_ BK750 0, Km_ BK750 1, Km_ BK750 2, Km_ BK750 3, Km_ BK755 0, Km_ BK755 1, Km_ BK755 2, Km_ BK755 3⟩ (fun hHeld => ?_)
          clear hK K
          refine Kn_ 102 ?_
          refine Kp_ 67 103 (Bz 69 295147905179352825855) (any_of HT_.out (by kernel_rfl)) ?_
          refine Kp_ 68 6 (Bz 69 590295810358705651711) (any_of HT_.out (by kernel_rfl)) ?_
          refine done_ (done_of HT_.out (by kernel_rfl)) ?_
          try go_wp2
          go_ret
          exact ⟨Kh_, by repeat (first | (with_reducible first | exact HB.out | apply below_alloc | apply pw_below_drewN | apply below_drew1 | refine below_set ?_ GE737.out | refine below_set ?_ GE738.out | refine below_set ?_ GE739.out | refine below_set ?_ GE745.out | refine below_set ?_ GE750.out | refine below_set ?_ GE755.out) | exact HB.out)⟩
end Go.Proofs.YtakhahfegialfaaDoor.Q
