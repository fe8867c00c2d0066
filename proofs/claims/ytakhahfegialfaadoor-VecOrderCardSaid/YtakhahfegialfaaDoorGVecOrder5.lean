import Derived.Test.YtakhahfegialfaaDoorQx0
import Derived.Test.YtakhahfegialfaaDoorGVecOrder0
import Derived.Test.YtakhahfegialfaaDoorGVecOrder1
namespace Go.Proofs.YtakhahfegialfaaDoor.Q
open Go.RowKit Go.Proofs.YtakhahfegialfaaDoorW.PrintWords Go.Proofs.YtakhahfegialfaaDoorW.PrintLast Go.Proofs.YtakhahfegialfaaDoorW.PrintMore
attribute [local go_sem] max2_int min2_int max_two min_two max_three min_three max_four min_four   -- for this text's walks alone
set_option linter.unusedVariables false
set_option linter.unusedSimpArgs false
attribute [local go_sem] ixA24_0 ixA24_1 ixA24_2 ixA24_3   -- for this text's walks alone
attribute [local go_sem high] eqA24
/-! ### tenementlaw06_VecOrder_p2: function 6 -/
mutual
def tenementlaw06_VecOrder_p2.j0 : Nat → Bool → Bool → Int → Int → Int → Int → Int → Int → Int → Int → Int → Int → Int → Int → Option (Bool)
  | 0, _, _, _, _, _, _, _, _, _, _, _, _, _, _ => none
  | k + 1, x7, x11, x890000, x890001, x890002, x890003, x895000, x895001, x895002, x895003, x900000, x900001, x900002, x900003 => (vec_Right.f x890000 x890001 x890002 x890003).bind fun t902 => (if t902 = true then ((vec_Right.f x895000 x895001 x895002 x895003).bind fun t903 => (tenementlaw06_VecOrder_p2.j1 k x7 x11 t903 x890000 x890001 x890002 x890003 x895000 x895001 x895002 x895003 x900000 x900001 x900002 x900003)) else (tenementlaw06_VecOrder_p2.j1 k x7 x11 false x890000 x890001 x890002 x890003 x895000 x895001 x895002 x895003 x900000 x900001 x900002 x900003))
def tenementlaw06_VecOrder_p2.j1 : Nat → Bool → Bool → Bool → Int → Int → Int → Int → Int → Int → Int → Int → Int → Int → Int → Int → Option (Bool)
  | 0, _, _, _, _, _, _, _, _, _, _, _, _, _, _, _ => none
  | k + 1, x7, x11, x12, x890000, x890001, x890002, x890003, x895000, x895001, x895002, x895003, x900000, x900001, x900002, x900003 => if x7 = true then ((vec_Leq.f x890000 x890001 x890002 x890003 x890000 x890001 x890002 x890003).bind fun t904 => (if t904 = true then (if x11 = true then (none) else (if (x890000 == x895000 && (x890001 == x895001 && (x890002 == x895002 && (x890003 == x895003)))) = true then (none) else ((vec_Leq.f x890000 x890001 x890002 x890003 x895000 x895001 x895002 x895003).bind fun t950 => (if t950 = true then ((vec_Leq.f x895000 x895001 x895002 x895003 x900000 x900001 x900002 x900003).bind fun t951 => (if t951 = true then (none) else (if x12 = true then (none) else ((vec_Leq.f x890000 x890001 x890002 x890003 x895000 x895001 x895002 x895003).bind fun t994 => ((vec_Join.f x890000 x890001 x890002 x890003 x895000 x895001 x895002 x895003).bind fun bt995 => (if t994 = true then (if (bt995.1 == x895000 && (bt995.2.1 == x895001 && (bt995.2.2.1 == x895002 && (bt995.2.2.2 == x895003)))) = true then ((vec_Leq.f 0 0 0 0 x890000 x890001 x890002 x890003).bind fun t999 => (if t999 = true then (some true) else (none))) else (none)) else (none))))))) else (if x12 = true then ((vec_Leq.f x890000 x890001 x890002 x890003 x895000 x895001 x895002 x895003).bind fun t1001 => (if t1001 = true then (none) else ((vec_Leq.f x890000 x890001 x890002 x890003 x895000 x895001 x895002 x895003).bind fun t1011 => ((vec_Join.f x890000 x890001 x890002 x890003 x895000 x895001 x895002 x895003).bind fun bt1012 => (if t1011 = true then (none) else (if (bt1012.1 == x895000 && (bt1012.2.1 == x895001 && (bt1012.2.2.1 == x895002 && (bt1012.2.2.2 == x895003)))) = true then (none) else ((vec_Leq.f 0 0 0 0 x890000 x890001 x890002 x890003).bind fun t1017 => (if t1017 = true then (some true) else (none))))))))) else ((vec_Leq.f x890000 x890001 x890002 x890003 x895000 x895001 x895002 x895003).bind fun t1018 => ((vec_Join.f x890000 x890001 x890002 x890003 x895000 x895001 x895002 x895003).bind fun bt1019 => (if t1018 = true then (none) else (if (bt1019.1 == x895000 && (bt1019.2.1 == x895001 && (bt1019.2.2.1 == x895002 && (bt1019.2.2.2 == x895003)))) = true then (none) else ((vec_Leq.f 0 0 0 0 x890000 x890001 x890002 x890003).bind fun t1024 => (if t1024 = true then (some true) else (none)))))))))))) else (none))) else (none)
end
def tenementlaw06_VecOrder_p2.f (k : Nat) (a0_0 : Int) (a0_1 : Int) (a0_2 : Int) (a0_3 : Int) (a0_4 : Bool) (a1_0 : Int) (a1_1 : Int) (a1_2 : Int) (a1_3 : Int) (a1_4 : Bool) (a2_0 : Int) (a2_1 : Int) (a2_2 : Int) (a2_3 : Int) (a2_4 : Bool) : Option (Bool) := (tenementlaw06_examples.f k).bind fun t884 => (if t884 = true then ((tenementlaw06_Vector_vector.f k a0_0 a0_1 a0_2 a0_3 a0_4).bind fun bt885 => ((tenementlaw06_Vector_vector.f k a1_0 a1_1 a1_2 a1_3 a1_4).bind fun bt890 => ((tenementlaw06_Vector_vector.f k a2_0 a2_1 a2_2 a2_3 a2_4).bind fun bt895 => ((vec_Leq.f bt885.1 bt885.2.1 bt885.2.2.1 bt885.2.2.2 bt890.1 bt890.2.1 bt890.2.2.1 bt890.2.2.2).bind fun t900 => (if t900 = true then ((vec_Leq.f bt890.1 bt890.2.1 bt890.2.2.1 bt890.2.2.2 bt885.1 bt885.2.1 bt885.2.2.1 bt885.2.2.2).bind fun t901 => (tenementlaw06_VecOrder_p2.j0 k t884 t901 bt885.1 bt885.2.1 bt885.2.2.1 bt885.2.2.2 bt890.1 bt890.2.1 bt890.2.2.1 bt890.2.2.2 bt895.1 bt895.2.1 bt895.2.2.1 bt895.2.2.2)) else (tenementlaw06_VecOrder_p2.j0 k t884 false bt885.1 bt885.2.1 bt885.2.2.1 bt885.2.2.2 bt890.1 bt890.2.1 bt890.2.2.1 bt890.2.2.2 bt895.1 bt895.2.1 bt895.2.2.1 bt895.2.2.2)))))) else (none))
theorem tenementlaw06_VecOrder_p2.mono_l : ∀ k, (∀ y0 y1 y2 y3 y4 y5 y6 y7 y8 y9 y10 y11 y12 y13, LeO (tenementlaw06_VecOrder_p2.j0 k y0 y1 y2 y3 y4 y5 y6 y7 y8 y9 y10 y11 y12 y13) (tenementlaw06_VecOrder_p2.j0 (k + 1) y0 y1 y2 y3 y4 y5 y6 y7 y8 y9 y10 y11 y12 y13)) ∧ (∀ y0 y1 y2 y3 y4 y5 y6 y7 y8 y9 y10 y11 y12 y13 y14, LeO (tenementlaw06_VecOrder_p2.j1 k y0 y1 y2 y3 y4 y5 y6 y7 y8 y9 y10 y11 y12 y13 y14) (tenementlaw06_VecOrder_p2.j1 (k + 1) y0 y1 y2 y3 y4 y5 y6 y7 y8 y9 y10 y11 y12 y13 y14))
  | 0 => ⟨fun _ _ _ _ _ _ _ _ _ _ _ _ _ _ r h => by simp [tenementlaw06_VecOrder_p2.j0] at h, fun _ _ _ _ _ _ _ _ _ _ _ _ _ _ _ r h => by simp [tenementlaw06_VecOrder_p2.j1] at h⟩
  | k + 1 => by
    obtain ⟨ih0, ih1⟩ := tenementlaw06_VecOrder_p2.mono_l k
    refine ⟨?_, ?_⟩
    · intro y0 y1 y2 y3 y4 y5 y6 y7 y8 y9 y10 y11 y12 y13
      unfold tenementlaw06_VecOrder_p2.j0
      repeat' first
      | (with_reducible exact ih0 _ _ _ _ _ _ _ _ _ _ _ _ _ _)
      | (with_reducible exact ih1 _ _ _ _ _ _ _ _ _ _ _ _ _ _ _)
      | (with_reducible exact tenementlaw06_Vector_vector.mono _ _ _ _ _ _)
      | (with_reducible exact tenementlaw06_examples.mono _)
      | (with_reducible exact LeO.refl _)
      | (with_reducible exact LeO.none _)
      | (with_reducible refine LeO.ite ?_ ?_)
      | (with_reducible refine LeO.bind ?_ (fun _ => ?_))
      | exact ih0 _ _ _ _ _ _ _ _ _ _ _ _ _ _
      | exact ih1 _ _ _ _ _ _ _ _ _ _ _ _ _ _ _
      | exact tenementlaw06_Vector_vector.mono _ _ _ _ _ _
      | exact tenementlaw06_examples.mono _
      | exact LeO.none _
      | refine LeO.ite ?_ ?_
      | refine LeO.bind ?_ (fun _ => ?_)
    · intro y0 y1 y2 y3 y4 y5 y6 y7 y8 y9 y10 y11 y12 y13 y14
      unfold tenementlaw06_VecOrder_p2.j1
      repeat' first
      | (with_reducible exact ih0 _ _ _ _ _ _ _ _ _ _ _ _ _ _)
      | (with_reducible exact ih1 _ _ _ _ _ _ _ _ _ _ _ _ _ _ _)
      | (with_reducible exact tenementlaw06_Vector_vector.mono _ _ _ _ _ _)
      | (with_reducible exact tenementlaw06_examples.mono _)
      | (with_reducible exact LeO.refl _)
      | (with_reducible exact LeO.none _)
      | (with_reducible refine LeO.ite ?_ ?_)
      | (with_reducible refine LeO.bind ?_ (fun _ => ?_))
      | exact ih0 _ _ _ _ _ _ _ _ _ _ _ _ _ _
      | exact ih1 _ _ _ _ _ _ _ _ _ _ _ _ _ _ _
      | exact tenementlaw06_Vector_vector.mono _ _ _ _ _ _
      | exact tenementlaw06_examples.mono _
      | exact LeO.none _
      | refine LeO.ite ?_ ?_
      | refine LeO.bind ?_ (fun _ => ?_)
theorem tenementlaw06_VecOrder_p2.mono : ∀ a0 a1 a2 a3 a4 a5 a6 a7 a8 a9 a10 a11 a12 a13 a14 k, LeO (tenementlaw06_VecOrder_p2.f k a0 a1 a2 a3 a4 a5 a6 a7 a8 a9 a10 a11 a12 a13 a14) (tenementlaw06_VecOrder_p2.f (k + 1) a0 a1 a2 a3 a4 a5 a6 a7 a8 a9 a10 a11 a12 a13 a14) := by
  intro a0 a1 a2 a3 a4 a5 a6 a7 a8 a9 a10 a11 a12 a13 a14 k
  obtain ⟨ih0, ih1⟩ := tenementlaw06_VecOrder_p2.mono_l k
  unfold tenementlaw06_VecOrder_p2.f
  repeat' first
      | (with_reducible exact ih0 _ _ _ _ _ _ _ _ _ _ _ _ _ _)
      | (with_reducible exact ih1 _ _ _ _ _ _ _ _ _ _ _ _ _ _ _)
      | (with_reducible exact tenementlaw06_Vector_vector.mono _ _ _ _ _ _)
      | (with_reducible exact tenementlaw06_examples.mono _)
      | (with_reducible exact LeO.refl _)
      | (with_reducible exact LeO.none _)
      | (with_reducible refine LeO.ite ?_ ?_)
      | (with_reducible refine LeO.bind ?_ (fun _ => ?_))
      | exact ih0 _ _ _ _ _ _ _ _ _ _ _ _ _ _
      | exact ih1 _ _ _ _ _ _ _ _ _ _ _ _ _ _ _
      | exact tenementlaw06_Vector_vector.mono _ _ _ _ _ _
      | exact tenementlaw06_examples.mono _
      | exact LeO.none _
      | refine LeO.ite ?_ ?_
      | refine LeO.bind ?_ (fun _ => ?_)
def tenementlaw06_VecOrder_p2.T9 : Bool × List (List Nat × List Nat) := (true, [([], []), ([0], [0]), ([1], [1]), ([1], [1]), ([2, 3, 1, 1], [1, 2, 3]), ([1, 4], [1, 4]), ([5, 4], [5]), ([6], [6]), ([6], [6]), ([6], [6]), ([8, 9, 6], [6, 8, 9]), ([7, 10, 6], [6, 7, 10]), ([6, 11], [6, 11]), ([12, 6], [12]), ([13], [13]), ([13], [13]), ([14, 15, 13, 13], [13, 14, 15]), ([16, 13], [13, 16]), ([17, 16, 13], [13, 17]), ([18], [18]), ([18], [18]), ([19, 20, 18, 18], [18, 19, 20]), ([21, 18], [18, 21]), ([18, 22, 13], [13, 18, 22]), ([23, 21, 13], [13, 23]), ([24], [24]), ([24], [24]), ([25, 26, 24, 24], [24, 25, 26]), ([24, 27, 13], [13, 24, 27]), ([13, 28], [13, 28]), ([29, 27], [29]), ([30], [30]), ([31, 30], [30, 31]), ([32, 30, 30], [30, 32]), ([33], [33]), ([33], [33]), ([34, 35, 33], [33, 34, 35]), ([33, 36, 30], [30, 33, 36]), ([37, 33, 30], [30, 37]), ([38], [38]), ([38], [38]), ([39, 40, 38, 38], [38, 39, 40]), ([41, 38], [38, 41]), ([38, 42, 30], [30, 38, 42]), ([43, 41, 30], [30, 43]), ([44], [44]), ([45, 44, 44], [44, 45]), ([44], [44]), ([47, 46, 44], [44, 47]), ([46, 48, 44], [44, 46, 48]), ([44, 49, 30], [30, 44, 49]), ([30, 50], [30, 50]), ([51, 48], [51]), ([52], [52]), ([52], [52]), ([53, 54, 52, 52], [52, 53, 54]), ([52], [52]), ([52], [52]), ([56, 57, 55, 52], [52, 56, 57]), ([52], [52]), ([58, 59, 52], [52, 58, 59]), ([55, 60, 52], [52, 55, 60]), ([52, 61], [52, 61]), ([62, 58], [62]), ([63], [63]), ([63], [63]), ([64, 65, 63, 63], [63, 64, 65]), ([63, 66], [63, 66]), ([67, 66, 0, 1, 2, 3, 4, 5, 6, 7, 8, 9, 10, 11, 12, 13, 14, 15, 16, 17, 18, 19, 20, 21, 22, 23, 24, 25, 26, 27, 28, 29, 30, 31, 32, 33, 34, 35, 36, 37, 38, 39, 40, 41, 42, 43, 44, 45, 46, 47, 48, 49, 50, 51, 52, 53, 54, 55, 56, 57, 58, 59, 60, 61, 62, 63, 64, 65, 66, 67], [67])])
def tenementlaw06_VecOrder_p2.B9 : List Nat := [0, 1, 3, 3, 15, 31, 63, 127, 127, 127, 895, 2047, 4095, 8191, 16383, 16383, 65535, 131071, 262143, 524287, 524287, 2097151, 4194303, 8388607, 16777215, 33554431, 33554431, 134217727, 268435455, 536870911, 1073741823, 2147483647, 4294967295, 8589934591, 17179869183, 17179869183, 68719476735, 137438953471, 274877906943, 549755813887, 549755813887, 2199023255551, 4398046511103, 8796093022207, 17592186044415, 35184372088831, 70368744177663, 35184372088831, 281474976710655, 562949953421311, 1125899906842623, 2251799813685247, 4503599627370495, 9007199254740991, 9007199254740991, 36028797018963967, 9007199254740991, 9007199254740991, 288230376151711743, 9007199254740991, 1152921504606846975, 2305843009213693951, 4611686018427387903, 9223372036854775807, 18446744073709551615, 18446744073709551615, 73786976294838206463, 147573952589676412927, 295147905179352825855]
theorem tenementlaw06_VecOrder_p2.tab9 : rtab .any (opsOf Tryd.f6 9) = tenementlaw06_VecOrder_p2.T9 := by kernel_rfl
theorem tenementlaw06_VecOrder_p2.bits9 : waitsOk tenementlaw06_VecOrder_p2.T9.2 tenementlaw06_VecOrder_p2.B9 = true := by kernel_rfl
set_option maxHeartbeats 8000000 in
set_option maxRecDepth 100000 in
theorem tenementlaw06_VecOrder_p2.calls (k : Nat) (a0_0 : Int) (a0_1 : Int) (a0_2 : Int) (a0_3 : Int) (a0_4 : Bool) (a1_0 : Int) (a1_1 : Int) (a1_2 : Int) (a1_3 : Int) (a1_4 : Bool) (a2_0 : Int) (a2_1 : Int) (a2_2 : Int) (a2_3 : Int) (a2_4 : Bool) (r : Bool) (w : World) (h : tenementlaw06_VecOrder_p2.f k a0_0 a0_1 a0_2 a0_3 a0_4 a1_0 a1_1 a1_2 a1_3 a1_4 a2_0 a2_1 a2_2 a2_3 a2_4 = some r) :
    Calls Tryd.prog 6 #[.agg #[.int .u64 a0_0, .int .u64 a0_1, .int .u64 a0_2, .int .u64 a0_3, .bool a0_4], .agg #[.int .u64 a1_0, .int .u64 a1_1, .int .u64 a1_2, .int .u64 a1_3, .bool a1_4], .agg #[.int .u64 a2_0, .int .u64 a2_1, .int .u64 a2_2, .int .u64 a2_3, .bool a2_4]] w fun e w' => e = .returned (.bool r) ∧ Below w.heap.size w w' := by
  have hu26 := Tryd.underlying26
  have hu24 := Tryd.underlying24
  have HB := Aside0.mk (Below.refl w.heap.size w)
  have H : ((tenementlaw06_examples.f k).bind fun t884 => (if t884 = true then ((tenementlaw06_Vector_vector.f k a0_0 a0_1 a0_2 a0_3 a0_4).bind fun bt885 => ((tenementlaw06_Vector_vector.f k a1_0 a1_1 a1_2 a1_3 a1_4).bind fun bt890 => ((tenementlaw06_Vector_vector.f k a2_0 a2_1 a2_2 a2_3 a2_4).bind fun bt895 => ((vec_Leq.f bt885.1 bt885.2.1 bt885.2.2.1 bt885.2.2.2 bt890.1 bt890.2.1 bt890.2.2.1 bt890.2.2.2).bind fun t900 => (if t900 = true then ((vec_Leq.f bt890.1 bt890.2.1 bt890.2.2.1 bt890.2.2.2 bt885.1 bt885.2.1 bt885.2.2.1 bt885.2.2.2).bind fun t901 => (tenementlaw06_VecOrder_p2.j0 k t884 t901 bt885.1 bt885.2.1 bt885.2.2.1 bt885.2.2.2 bt890.1 bt890.2.1 bt890.2.2.1 bt890.2.2.2 bt895.1 bt895.2.1 bt895.2.2.1 bt895.2.2.2)) else (tenementlaw06_VecOrder_p2.j0 k t884 false bt885.1 bt885.2.1 bt885.2.2.1 bt885.2.2.2 bt890.1 bt890.2.1 bt890.2.2.1 bt890.2.2.2 bt895.1 bt895.2.1 bt895.2.2.1 bt895.2.2.2)))))) else (none))) = some r := h
  clear h
  replace H := Option.bind_eq_some_iff.mp H
  obtain ⟨t884, A40, H⟩ := H
  replace H : (if t884 = true then ((tenementlaw06_Vector_vector.f k a0_0 a0_1 a0_2 a0_3 a0_4).bind fun bt885 => ((tenementlaw06_Vector_vector.f k a1_0 a1_1 a1_2 a1_3 a1_4).bind fun bt890 => ((tenementlaw06_Vector_vector.f k a2_0 a2_1 a2_2 a2_3 a2_4).bind fun bt895 => ((vec_Leq.f bt885.1 bt885.2.1 bt885.2.2.1 bt885.2.2.2 bt890.1 bt890.2.1 bt890.2.2.1 bt890.2.2.2).bind fun t900 => (if t900 = true then ((vec_Leq.f bt890.1 bt890.2.1 bt890.2.2.1 bt890.2.2.2 bt885.1 bt885.2.1 bt885.2.2.1 bt885.2.2.2).bind fun t901 => (tenementlaw06_VecOrder_p2.j0 k t884 t901 bt885.1 bt885.2.1 bt885.2.2.1 bt885.2.2.2 bt890.1 bt890.2.1 bt890.2.2.1 bt890.2.2.2 bt895.1 bt895.2.1 bt895.2.2.1 bt895.2.2.2)) else (tenementlaw06_VecOrder_p2.j0 k t884 false bt885.1 bt885.2.1 bt885.2.2.1 bt885.2.2.2 bt890.1 bt890.2.1 bt890.2.2.1 bt890.2.2.2 bt895.1 bt895.2.1 bt895.2.2.1 bt895.2.2.2)))))) else (none)) = some r := H
  have A4 := Aside0.mk A40
  clear A40
  by_cases c5 : t884 = true
  rotate_left
  · replace c5 := Bool.eq_false_iff.mpr c5
    subst c5
    have H1 : (none) = some r := by rw [if_neg (show ¬ (false = true) by decide)] at H; exact H
    clear H
    have H := H1
    clear H1
    exact absurd H (by simp)
  subst c5
  have H1 : ((tenementlaw06_Vector_vector.f k a0_0 a0_1 a0_2 a0_3 a0_4).bind fun bt885 => ((tenementlaw06_Vector_vector.f k a1_0 a1_1 a1_2 a1_3 a1_4).bind fun bt890 => ((tenementlaw06_Vector_vector.f k a2_0 a2_1 a2_2 a2_3 a2_4).bind fun bt895 => ((vec_Leq.f bt885.1 bt885.2.1 bt885.2.2.1 bt885.2.2.2 bt890.1 bt890.2.1 bt890.2.2.1 bt890.2.2.2).bind fun t900 => (if t900 = true then ((vec_Leq.f bt890.1 bt890.2.1 bt890.2.2.1 bt890.2.2.2 bt885.1 bt885.2.1 bt885.2.2.1 bt885.2.2.2).bind fun t901 => (tenementlaw06_VecOrder_p2.j0 k true t901 bt885.1 bt885.2.1 bt885.2.2.1 bt885.2.2.2 bt890.1 bt890.2.1 bt890.2.2.1 bt890.2.2.2 bt895.1 bt895.2.1 bt895.2.2.1 bt895.2.2.2)) else (tenementlaw06_VecOrder_p2.j0 k true false bt885.1 bt885.2.1 bt885.2.2.1 bt885.2.2.2 bt890.1 bt890.2.1 bt890.2.2.1 bt890.2.2.2 bt895.1 bt895.2.1 bt895.2.2.1 bt895.2.2.2)))))) = some r := by rw [if_pos rfl] at H; exact H
  clear H
  have H := H1
  clear H1
  replace H := Option.bind_eq_some_iff.mp H
  obtain ⟨⟨t885, t886, t887, t888⟩, A60, H⟩ := H
  replace H : ((tenementlaw06_Vector_vector.f k a1_0 a1_1 a1_2 a1_3 a1_4).bind fun bt890 => ((tenementlaw06_Vector_vector.f k a2_0 a2_1 a2_2 a2_3 a2_4).bind fun bt895 => ((vec_Leq.f t885 t886 t887 t888 bt890.1 bt890.2.1 bt890.2.2.1 bt890.2.2.2).bind fun t900 => (if t900 = true then ((vec_Leq.f bt890.1 bt890.2.1 bt890.2.2.1 bt890.2.2.2 t885 t886 t887 t888).bind fun t901 => (tenementlaw06_VecOrder_p2.j0 k true t901 t885 t886 t887 t888 bt890.1 bt890.2.1 bt890.2.2.1 bt890.2.2.2 bt895.1 bt895.2.1 bt895.2.2.1 bt895.2.2.2)) else (tenementlaw06_VecOrder_p2.j0 k true false t885 t886 t887 t888 bt890.1 bt890.2.1 bt890.2.2.1 bt890.2.2.2 bt895.1 bt895.2.1 bt895.2.2.1 bt895.2.2.2))))) = some r := H
  have A6 := Aside0.mk A60
  clear A60
  replace H := Option.bind_eq_some_iff.mp H
  obtain ⟨⟨t890, t891, t892, t893⟩, A70, H⟩ := H
  replace H : ((tenementlaw06_Vector_vector.f k a2_0 a2_1 a2_2 a2_3 a2_4).bind fun bt895 => ((vec_Leq.f t885 t886 t887 t888 t890 t891 t892 t893).bind fun t900 => (if t900 = true then ((vec_Leq.f t890 t891 t892 t893 t885 t886 t887 t888).bind fun t901 => (tenementlaw06_VecOrder_p2.j0 k true t901 t885 t886 t887 t888 t890 t891 t892 t893 bt895.1 bt895.2.1 bt895.2.2.1 bt895.2.2.2)) else (tenementlaw06_VecOrder_p2.j0 k true false t885 t886 t887 t888 t890 t891 t892 t893 bt895.1 bt895.2.1 bt895.2.2.1 bt895.2.2.2)))) = some r := H
  have A7 := Aside0.mk A70
  clear A70
  replace H := Option.bind_eq_some_iff.mp H
  obtain ⟨⟨t895, t896, t897, t898⟩, A80, H⟩ := H
  replace H : ((vec_Leq.f t885 t886 t887 t888 t890 t891 t892 t893).bind fun t900 => (if t900 = true then ((vec_Leq.f t890 t891 t892 t893 t885 t886 t887 t888).bind fun t901 => (tenementlaw06_VecOrder_p2.j0 k true t901 t885 t886 t887 t888 t890 t891 t892 t893 t895 t896 t897 t898)) else (tenementlaw06_VecOrder_p2.j0 k true false t885 t886 t887 t888 t890 t891 t892 t893 t895 t896 t897 t898))) = some r := H
  have A8 := Aside0.mk A80
  clear A80
  have HC9 := Aside0.mk H
  clear H
  go_enter Tryd.func6, Tryd.ntmps6
  go_upto_region 7 with (first | ((with_reducible refine gate_dst (N := 3) rfl ?_); refine Ka_ 3 #[.int .u64 a0_0, .int .u64 a0_1, .int .u64 a0_2, .int .u64 a0_3, .bool a0_4] 26 ?_; intro gb881 hg w10 hbox hb; have BK881 := Aside0.mk (hbox); have GW881 := Kw_ HB hg; have GE881 := GW881; replace HB := Ks_ HB hb; clear hb hbox hg) | ((with_reducible refine gate_dst (N := 4) rfl ?_); refine Ka_ 4 #[.int .u64 a1_0, .int .u64 a1_1, .int .u64 a1_2, .int .u64 a1_3, .bool a1_4] 26 ?_; intro gb882 hg w11 hbox hb; have BK882 := Aside0.mk (hbox); have GW882 := Kw_ HB hg; have GE882 := GW882; have NB881_882 := Kl_ BK881 hg; have NB882_881 := Kr_ BK881 hg; replace BK881 := Kb_ BK881 hb; replace HB := Ks_ HB hb; clear hb hbox hg) | ((with_reducible refine gate_dst (N := 5) rfl ?_); refine Ka_ 5 #[.int .u64 a2_0, .int .u64 a2_1, .int .u64 a2_2, .int .u64 a2_3, .bool a2_4] 26 ?_; intro gb883 hg w12 hbox hb; have BK883 := Aside0.mk (hbox); have GW883 := Kw_ HB hg; have GE883 := GW883; have NB881_883 := Kl_ BK881 hg; have NB883_881 := Kr_ BK881 hg; have NB882_883 := Kl_ BK882 hg; have NB883_882 := Kr_ BK882 hg; replace BK881 := Kb_ BK881 hb; replace BK882 := Kb_ BK882 hb; replace HB := Ks_ HB hb; clear hb hbox hg) | ((with_reducible refine gate_callee (f := 10) rfl ?_); refine Kg_ (some 13) rfl rfl Tryd.func10 (by kernel_rfl) rfl #[] rfl ?_; (with_reducible refine (tenementlaw06_examples.calls k  true _ A4.out).mono ?_); rintro e w13 ⟨rfl, hb⟩; refine ⟨_, rfl, ?_⟩; replace BK881 := Kb_ BK881 hb; replace BK882 := Kb_ BK882 hb; replace BK883 := Kb_ BK883 hb; replace HB := Ks_ HB hb; (try clear hb); (try clear hb2); (try clear hk); (try clear hi); have hnb14 := NB881_882.out; have hnc14 := NB882_881.out; have hnb15 := NB881_883.out; have hnc15 := NB883_881.out; obtain ⟨hcz16_0, hcz16_1, hcz16_2, hcz16_3, hcz16_4, hfz16_0, hfz16_1, hfz16_2, hfz16_3, hfz16_4⟩ := Ke5_ BK881.out) | ((with_reducible refine gate_callee (f := 11) rfl ?_); refine Kg_ (some 17) rfl rfl Tryd.func11 (by kernel_rfl) rfl #[.agg #[.int .u64 a0_0, .int .u64 a0_1, .int .u64 a0_2, .int .u64 a0_3, .bool a0_4]] rfl ?_; (with_reducible refine (tenementlaw06_Vector_vector.calls k a0_0 a0_1 a0_2 a0_3 a0_4 t885 t886 t887 t888 _ A6.out).mono ?_); rintro e w17 ⟨rfl, hb⟩; refine ⟨_, rfl, ?_⟩; replace BK881 := Kb_ BK881 hb; replace BK882 := Kb_ BK882 hb; replace BK883 := Kb_ BK883 hb; replace HB := Ks_ HB hb; (try clear hb); (try clear hb2); (try clear hk); (try clear hi)) | ((with_reducible refine gate_dst (N := 8) rfl ?_); refine Ka_ 8 #[.int .u64 0, .int .u64 0, .int .u64 0, .int .u64 0] 24 ?_; intro gb889 hg w18 hbox hb; have BK889 := Aside0.mk (hbox); have GW889 := Kw_ HB hg; have GE889 := GW889; have NB881_889 := Kl_ BK881 hg; have NB889_881 := Kr_ BK881 hg; have NB882_889 := Kl_ BK882 hg; have NB889_882 := Kr_ BK882 hg; have NB883_889 := Kl_ BK883 hg; have NB889_883 := Kr_ BK883 hg; replace BK881 := Kb_ BK881 hb; replace BK882 := Kb_ BK882 hb; replace BK883 := Kb_ BK883 hb; replace HB := Ks_ HB hb; clear hb hbox hg; have hnb19 := NB889_881.out; have hnc19 := NB881_889.out; have hnb20 := NB889_882.out; have hnc20 := NB882_889.out; have hnb21 := NB889_883.out; have hnc21 := NB883_889.out; obtain ⟨hcz22_0, hcz22_1, hcz22_2, hcz22_3, hfz22_0, hfz22_1, hfz22_2, hfz22_3⟩ := Ke4_ BK889.out; have hnb23 := NB882_883.out; have hnc23 := NB883_882.out; obtain ⟨hcz24_0, hcz24_1, hcz24_2, hcz24_3, hcz24_4, hfz24_0, hfz24_1, hfz24_2, hfz24_3, hfz24_4⟩ := Ke5_ BK882.out) | ((with_reducible refine gate_callee (f := 11) rfl ?_); refine Kg_ (some 19) rfl rfl Tryd.func11 (by kernel_rfl) rfl #[.agg #[.int .u64 a1_0, .int .u64 a1_1, .int .u64 a1_2, .int .u64 a1_3, .bool a1_4]] rfl ?_; (with_reducible refine (tenementlaw06_Vector_vector.calls k a1_0 a1_1 a1_2 a1_3 a1_4 t890 t891 t892 t893 _ A7.out).mono ?_); rintro e w25 ⟨rfl, hb⟩; refine ⟨_, rfl, ?_⟩; replace BK881 := Kf_ BK881 NB881_889 hb; replace BK882 := Kf_ BK882 NB882_889 hb; replace BK883 := Kf_ BK883 NB883_889 hb; replace BK889 := Aside0.mk (blk_below (g := gb889) (o := .cells #[.int .u64 t885, .int .u64 t886, .int .u64 t887, .int .u64 t888] 24 (0, 0)) (by refine Kv_ ?_; refine blk_put (cs := #[.int .u64 t885, .int .u64 t886, .int .u64 t887, .int .u64 0]) ?_ 3 _ rfl; refine Kv_ ?_; refine blk_put (cs := #[.int .u64 t885, .int .u64 t886, .int .u64 0, .int .u64 0]) ?_ 2 _ rfl; refine Kv_ ?_; refine blk_put (cs := #[.int .u64 t885, .int .u64 0, .int .u64 0, .int .u64 0]) ?_ 1 _ rfl; refine Kv_ ?_; refine blk_put (cs := #[.int .u64 0, .int .u64 0, .int .u64 0, .int .u64 0]) ?_ 0 _ rfl; exact Kq_ BK889) hb); replace HB := Kt_ HB GE889 hb; (try clear hb); (try clear hb2); (try clear hk); (try clear hi)) | ((with_reducible refine gate_dst (N := 9) rfl ?_); refine Ka_ 9 #[.int .u64 0, .int .u64 0, .int .u64 0, .int .u64 0] 24 ?_; intro gb894 hg w26 hbox hb; have BK894 := Aside0.mk (hbox); have GW894 := Kw_ HB hg; have GE894 := GW894; have NB881_894 := Kl_ BK881 hg; have NB894_881 := Kr_ BK881 hg; have NB882_894 := Kl_ BK882 hg; have NB894_882 := Kr_ BK882 hg; have NB883_894 := Kl_ BK883 hg; have NB894_883 := Kr_ BK883 hg; have NB889_894 := Kl_ BK889 hg; have NB894_889 := Kr_ BK889 hg; replace BK881 := Kb_ BK881 hb; replace BK882 := Kb_ BK882 hb; replace BK883 := Kb_ BK883 hb; replace BK889 := Kb_ BK889 hb; replace HB := Ks_ HB hb; clear hb hbox hg; have hnb27 := NB894_881.out; have hnc27 := NB881_894.out; have hnb28 := NB894_882.out; have hnc28 := NB882_894.out; have hnb29 := NB894_883.out; have hnc29 := NB883_894.out; have hnb30 := NB894_889.out; have hnc30 := NB889_894.out; obtain ⟨hcz31_0, hcz31_1, hcz31_2, hcz31_3, hfz31_0, hfz31_1, hfz31_2, hfz31_3⟩ := Ke4_ BK894.out; obtain ⟨hcz32_0, hcz32_1, hcz32_2, hcz32_3, hcz32_4, hfz32_0, hfz32_1, hfz32_2, hfz32_3, hfz32_4⟩ := Ke5_ BK883.out) | ((with_reducible refine gate_callee (f := 11) rfl ?_); refine Kg_ (some 21) rfl rfl Tryd.func11 (by kernel_rfl) rfl #[.agg #[.int .u64 a2_0, .int .u64 a2_1, .int .u64 a2_2, .int .u64 a2_3, .bool a2_4]] rfl ?_; (with_reducible refine (tenementlaw06_Vector_vector.calls k a2_0 a2_1 a2_2 a2_3 a2_4 t895 t896 t897 t898 _ A8.out).mono ?_); rintro e w33 ⟨rfl, hb⟩; refine ⟨_, rfl, ?_⟩; replace BK881 := Kf_ BK881 NB881_894 hb; replace BK882 := Kf_ BK882 NB882_894 hb; replace BK883 := Kf_ BK883 NB883_894 hb; replace BK889 := Kf_ BK889 NB889_894 hb; replace BK894 := Aside0.mk (blk_below (g := gb894) (o := .cells #[.int .u64 t890, .int .u64 t891, .int .u64 t892, .int .u64 t893] 24 (0, 0)) (by refine Kv_ ?_; refine blk_put (cs := #[.int .u64 t890, .int .u64 t891, .int .u64 t892, .int .u64 0]) ?_ 3 _ rfl; refine Kv_ ?_; refine blk_put (cs := #[.int .u64 t890, .int .u64 t891, .int .u64 0, .int .u64 0]) ?_ 2 _ rfl; refine Kv_ ?_; refine blk_put (cs := #[.int .u64 t890, .int .u64 0, .int .u64 0, .int .u64 0]) ?_ 1 _ rfl; refine Kv_ ?_; refine blk_put (cs := #[.int .u64 0, .int .u64 0, .int .u64 0, .int .u64 0]) ?_ 0 _ rfl; exact Kq_ BK894) hb); replace HB := Kt_ HB GE894 hb; (try clear hb); (try clear hb2); (try clear hk); (try clear hi)) | ((with_reducible refine gate_dst (N := 10) rfl ?_); refine Ka_ 10 #[.int .u64 0, .int .u64 0, .int .u64 0, .int .u64 0] 24 ?_; intro gb899 hg w34 hbox hb; have BK899 := Aside0.mk (hbox); have GW899 := Kw_ HB hg; have GE899 := GW899; have NB881_899 := Kl_ BK881 hg; have NB899_881 := Kr_ BK881 hg; have NB882_899 := Kl_ BK882 hg; have NB899_882 := Kr_ BK882 hg; have NB883_899 := Kl_ BK883 hg; have NB899_883 := Kr_ BK883 hg; have NB889_899 := Kl_ BK889 hg; have NB899_889 := Kr_ BK889 hg; have NB894_899 := Kl_ BK894 hg; have NB899_894 := Kr_ BK894 hg; replace BK881 := Kb_ BK881 hb; replace BK882 := Kb_ BK882 hb; replace BK883 := Kb_ BK883 hb; replace BK889 := Kb_ BK889 hb; replace BK894 := Kb_ BK894 hb; replace HB := Ks_ HB hb; clear hb hbox hg; have hnb35 := NB899_881.out; have hnc35 := NB881_899.out; have hnb36 := NB899_882.out; have hnc36 := NB882_899.out; have hnb37 := NB899_883.out; have hnc37 := NB883_899.out; have hnb38 := NB899_889.out; have hnc38 := NB889_899.out; have hnb39 := NB899_894.out; have hnc39 := NB894_899.out; obtain ⟨hcz40_0, hcz40_1, hcz40_2, hcz40_3, hfz40_0, hfz40_1, hfz40_2, hfz40_3⟩ := Ke4_ BK899.out))
  (try simp only [Act.put, List.setIfInBounds_toArray, List.set_cons_zero, List.set_cons_succ])
  go_cut [11] (fun v11 wc => ∃ (kq : Nat) (x11_8 : Bool), v11 = .bool x11_8 ∧ Aside0 (tenementlaw06_VecOrder_p2.j0 kq true x11_8 t885 t886 t887 t888 t890 t891 t892 t893 t895 t896 t897 t898 = some r) ∧ Aside0 (kq ≤ k) ∧ Aside0 (wc.heap[gb881]? = some (.cells #[.int .u64 a0_0, .int .u64 a0_1, .int .u64 a0_2, .int .u64 a0_3, .bool a0_4] 26 (0, 0))) ∧ Aside0 (wc.heap[gb882]? = some (.cells #[.int .u64 a1_0, .int .u64 a1_1, .int .u64 a1_2, .int .u64 a1_3, .bool a1_4] 26 (0, 0))) ∧ Aside0 (wc.heap[gb883]? = some (.cells #[.int .u64 a2_0, .int .u64 a2_1, .int .u64 a2_2, .int .u64 a2_3, .bool a2_4] 26 (0, 0))) ∧ Aside0 (wc.heap[gb889]? = some (.cells #[.int .u64 t885, .int .u64 t886, .int .u64 t887, .int .u64 t888] 24 (0, 0))) ∧ Aside0 (wc.heap[gb894]? = some (.cells #[.int .u64 t890, .int .u64 t891, .int .u64 t892, .int .u64 t893] 24 (0, 0))) ∧ Aside0 (wc.heap[gb899]? = some (.cells #[.int .u64 t895, .int .u64 t896, .int .u64 t897, .int .u64 t898] 24 (0, 0))) ∧ Aside0 (Below w.heap.size w wc))
  case first =>
    have H := HC9.out
    clear HC9
    replace H := Option.bind_eq_some_iff.mp H
    obtain ⟨t900, A410, H⟩ := H
    replace H : (if t900 = true then ((vec_Leq.f t890 t891 t892 t893 t885 t886 t887 t888).bind fun t901 => (tenementlaw06_VecOrder_p2.j0 k true t901 t885 t886 t887 t888 t890 t891 t892 t893 t895 t896 t897 t898)) else (tenementlaw06_VecOrder_p2.j0 k true false t885 t886 t887 t888 t890 t891 t892 t893 t895 t896 t897 t898)) = some r := H
    have A41 := Aside0.mk A410
    clear A410
    by_cases c42 : t900 = true
    rotate_left
    · replace c42 := Bool.eq_false_iff.mpr c42
      subst c42
      have H1 : (tenementlaw06_VecOrder_p2.j0 k true false t885 t886 t887 t888 t890 t891 t892 t893 t895 t896 t897 t898) = some r := by rw [if_neg (show ¬ (false = true) by decide)] at H; exact H
      clear H
      have H := H1
      clear H1
      have H' := Aside0.mk H
      clear H
      have hnb59 := NB889_881.out
      have hnc59 := NB881_889.out
      have hnb60 := NB889_882.out
      have hnc60 := NB882_889.out
      have hnb61 := NB889_883.out
      have hnc61 := NB883_889.out
      have hnb62 := NB889_894.out
      have hnc62 := NB894_889.out
      have hnb63 := NB889_899.out
      have hnc63 := NB899_889.out
      obtain ⟨hcz64_0, hcz64_1, hcz64_2, hcz64_3, hfz64_0, hfz64_1, hfz64_2, hfz64_3⟩ := Ke4_ BK889.out
      have hnb65 := NB894_881.out
      have hnc65 := NB881_894.out
      have hnb66 := NB894_882.out
      have hnc66 := NB882_894.out
      have hnb67 := NB894_883.out
      have hnc67 := NB883_894.out
      have hnb68 := NB894_899.out
      have hnc68 := NB899_894.out
      obtain ⟨hcz69_0, hcz69_1, hcz69_2, hcz69_3, hfz69_0, hfz69_1, hfz69_2, hfz69_3⟩ := Ke4_ BK894.out
      go_wp2_with (first | ((with_reducible refine gate_callee (f := 22) rfl ?_); refine Kg_ (some 24) rfl rfl Tryd.func22 (by kernel_rfl) rfl #[.agg #[.int .u64 t885, .int .u64 t886, .int .u64 t887, .int .u64 t888], .agg #[.int .u64 t890, .int .u64 t891, .int .u64 t892, .int .u64 t893]] rfl ?_; (with_reducible refine (vec_Leq.calls t885 t886 t887 t888 t890 t891 t892 t893 false _ A41.out).mono ?_); rintro e w70 ⟨rfl, hb⟩; refine ⟨_, rfl, ?_⟩; replace BK881 := Kf_ BK881 NB881_899 hb; replace BK882 := Kf_ BK882 NB882_899 hb; replace BK883 := Kf_ BK883 NB883_899 hb; replace BK889 := Kf_ BK889 NB889_899 hb; replace BK894 := Kf_ BK894 NB894_899 hb; replace BK899 := Aside0.mk (blk_below (g := gb899) (o := .cells #[.int .u64 t895, .int .u64 t896, .int .u64 t897, .int .u64 t898] 24 (0, 0)) (by refine Kv_ ?_; refine blk_put (cs := #[.int .u64 t895, .int .u64 t896, .int .u64 t897, .int .u64 0]) ?_ 3 _ rfl; refine Kv_ ?_; refine blk_put (cs := #[.int .u64 t895, .int .u64 t896, .int .u64 0, .int .u64 0]) ?_ 2 _ rfl; refine Kv_ ?_; refine blk_put (cs := #[.int .u64 t895, .int .u64 0, .int .u64 0, .int .u64 0]) ?_ 1 _ rfl; refine Kv_ ?_; refine blk_put (cs := #[.int .u64 0, .int .u64 0, .int .u64 0, .int .u64 0]) ?_ 0 _ rfl; exact Kq_ BK899) hb); replace HB := Kt_ HB GE899 hb; (try clear hb); (try clear hb2); (try clear hk); (try clear hi)))
      go_meet
      case rel => exact ⟨_, (false), (by first | rfl | (simp; done) | (simp [*]; done)), H', ⟨by first | omega | exact Nat.le_refl _⟩, ⟨by exact Kq_ BK881⟩, ⟨by exact Kq_ BK882⟩, ⟨by exact Kq_ BK883⟩, ⟨by exact Kq_ BK889⟩, ⟨by exact Kq_ BK894⟩, ⟨by exact Kq_ BK899⟩, ⟨by repeat (first | (with_reducible first | exact HB.out | apply below_alloc | apply pw_below_drewN | apply below_drew1 | refine below_set ?_ GE881.out | refine below_set ?_ GE882.out | refine below_set ?_ GE883.out | refine below_set ?_ GE889.out | refine below_set ?_ GE894.out | refine below_set ?_ GE899.out) | exact HB.out)⟩⟩
    subst c42
    have H1 : ((vec_Leq.f t890 t891 t892 t893 t885 t886 t887 t888).bind fun t901 => (tenementlaw06_VecOrder_p2.j0 k true t901 t885 t886 t887 t888 t890 t891 t892 t893 t895 t896 t897 t898)) = some r := by rw [if_pos rfl] at H; exact H
    clear H
    have H := H1
    clear H1
    replace H := Option.bind_eq_some_iff.mp H
    obtain ⟨t901, A430, H⟩ := H
    replace H : (tenementlaw06_VecOrder_p2.j0 k true t901 t885 t886 t887 t888 t890 t891 t892 t893 t895 t896 t897 t898) = some r := H
    have A43 := Aside0.mk A430
    clear A430
    have H' := Aside0.mk H
    clear H
    have hnb44 := NB889_881.out
    have hnc44 := NB881_889.out
    have hnb45 := NB889_882.out
    have hnc45 := NB882_889.out
    have hnb46 := NB889_883.out
    have hnc46 := NB883_889.out
    have hnb47 := NB889_894.out
    have hnc47 := NB894_889.out
    have hnb48 := NB889_899.out
    have hnc48 := NB899_889.out
    obtain ⟨hcz49_0, hcz49_1, hcz49_2, hcz49_3, hfz49_0, hfz49_1, hfz49_2, hfz49_3⟩ := Ke4_ BK889.out
    have hnb50 := NB894_881.out
    have hnc50 := NB881_894.out
    have hnb51 := NB894_882.out
    have hnc51 := NB882_894.out
    have hnb52 := NB894_883.out
    have hnc52 := NB883_894.out
    have hnb53 := NB894_899.out
    have hnc53 := NB899_894.out
    obtain ⟨hcz54_0, hcz54_1, hcz54_2, hcz54_3, hfz54_0, hfz54_1, hfz54_2, hfz54_3⟩ := Ke4_ BK894.out
    go_wp2_with (first | ((with_reducible refine gate_callee (f := 22) rfl ?_); refine Kg_ (some 24) rfl rfl Tryd.func22 (by kernel_rfl) rfl #[.agg #[.int .u64 t885, .int .u64 t886, .int .u64 t887, .int .u64 t888], .agg #[.int .u64 t890, .int .u64 t891, .int .u64 t892, .int .u64 t893]] rfl ?_; (with_reducible refine (vec_Leq.calls t885 t886 t887 t888 t890 t891 t892 t893 true _ A41.out).mono ?_); rintro e w55 ⟨rfl, hb⟩; refine ⟨_, rfl, ?_⟩; replace BK881 := Kf_ BK881 NB881_899 hb; replace BK882 := Kf_ BK882 NB882_899 hb; replace BK883 := Kf_ BK883 NB883_899 hb; replace BK889 := Kf_ BK889 NB889_899 hb; replace BK894 := Kf_ BK894 NB894_899 hb; replace BK899 := Aside0.mk (blk_below (g := gb899) (o := .cells #[.int .u64 t895, .int .u64 t896, .int .u64 t897, .int .u64 t898] 24 (0, 0)) (by refine Kv_ ?_; refine blk_put (cs := #[.int .u64 t895, .int .u64 t896, .int .u64 t897, .int .u64 0]) ?_ 3 _ rfl; refine Kv_ ?_; refine blk_put (cs := #[.int .u64 t895, .int .u64 t896, .int .u64 0, .int .u64 0]) ?_ 2 _ rfl; refine Kv_ ?_; refine blk_put (cs := #[.int .u64 t895, .int .u64 0, .int .u64 0, .int .u64 0]) ?_ 1 _ rfl; refine Kv_ ?_; refine blk_put (cs := #[.int .u64 0, .int .u64 0, .int .u64 0, .int .u64 0]) ?_ 0 _ rfl; exact Kq_ BK899) hb); replace HB := Kt_ HB GE899 hb; (try clear hb); (try clear hb2); (try clear hk); (try clear hi); obtain ⟨hcz56_0, hcz56_1, hcz56_2, hcz56_3, hfz56_0, hfz56_1, hfz56_2, hfz56_3⟩ := Ke4_ BK894.out; obtain ⟨hcz57_0, hcz57_1, hcz57_2, hcz57_3, hfz57_0, hfz57_1, hfz57_2, hfz57_3⟩ := Ke4_ BK889.out) | (go_at_call 22; (with_reducible refine (vec_Leq.calls t890 t891 t892 t893 t885 t886 t887 t888 t901 _ A43.out).mono ?_); rintro e w58 ⟨rfl, hb⟩; replace BK881 := Kb_ BK881 hb; replace BK882 := Kb_ BK882 hb; replace BK883 := Kb_ BK883 hb; replace BK889 := Kb_ BK889 hb; replace BK894 := Kb_ BK894 hb; replace BK899 := Kb_ BK899 hb; replace HB := Ks_ HB hb; (try clear hb); (try clear hb2); (try clear hk); (try clear hi)))
    go_meet
    case rel => exact ⟨_, (t901), (by first | rfl | (simp; done) | (simp [*]; done)), H', ⟨by first | omega | exact Nat.le_refl _⟩, ⟨by exact Kq_ BK881⟩, ⟨by exact Kq_ BK882⟩, ⟨by exact Kq_ BK883⟩, ⟨by exact Kq_ BK889⟩, ⟨by exact Kq_ BK894⟩, ⟨by exact Kq_ BK899⟩, ⟨by repeat (first | (with_reducible first | exact HB.out | apply below_alloc | apply pw_below_drewN | apply below_drew1 | refine below_set ?_ GE881.out | refine below_set ?_ GE882.out | refine below_set ?_ GE883.out | refine below_set ?_ GE889.out | refine below_set ?_ GE894.out | refine below_set ?_ GE899.out) | exact HB.out)⟩⟩
  case rest =>
    clear HC9
    try clear c1
    try clear c2
    try clear p2
    try clear c3
    try clear c4
    try clear c5
    try clear c6
    try clear c10
    try clear c11
    try clear c14
    try clear c15
    try clear c19
    try clear c20
    try clear c21
    try clear c22
    try clear c23
    try clear c27
    try clear c28
    try clear c29
    try clear c30
    try clear c35
    try clear c36
    try clear c37
    try clear c38
    try clear c39
    try clear c42
    try clear c44
    try clear c45
    try clear c46
    try clear c47
    try clear c48
    try clear c50
    try clear c51
    try clear c52
    try clear c53
    try clear c59
    try clear c60
    try clear c61
    try clear c62
    try clear c63
    try clear c65
    try clear c66
    try clear c67
    try clear c68
    try clear hcz16_0
    try clear hcz16_1
    try clear hcz16_2
    try clear hcz16_3
    try clear hcz16_4
    try clear hcz22_0
    try clear hcz22_1
    try clear hcz22_2
    try clear hcz22_3
    try clear hcz24_0
    try clear hcz24_1
    try clear hcz24_2
    try clear hcz24_3
    try clear hcz24_4
    try clear hcz31_0
    try clear hcz31_1
    try clear hcz31_2
    try clear hcz31_3
    try clear hcz32_0
    try clear hcz32_1
    try clear hcz32_2
    try clear hcz32_3
    try clear hcz32_4
    try clear hcz40_0
    try clear hcz40_1
    try clear hcz40_2
    try clear hcz40_3
    try clear hcz49_0
    try clear hcz49_1
    try clear hcz49_2
    try clear hcz49_3
    try clear hcz54_0
    try clear hcz54_1
    try clear hcz54_2
    try clear hcz54_3
    try clear hcz56_0
    try clear hcz56_1
    try clear hcz56_2
    try clear hcz56_3
    try clear hcz57_0
    try clear hcz57_1
    try clear hcz57_2
    try clear hcz57_3
    try clear hcz64_0
    try clear hcz64_1
    try clear hcz64_2
    try clear hcz64_3
    try clear hcz69_0
    try clear hcz69_1
    try clear hcz69_2
    try clear hcz69_3
    try clear hfz16_0
    try clear hfz16_1
    try clear hfz16_2
    try clear hfz16_3
    try clear hfz16_4
    try clear hfz22_0
    try clear hfz22_1
    try clear hfz22_2
    try clear hfz22_3
    try clear hfz24_0
    try clear hfz24_1
    try clear hfz24_2
    try clear hfz24_3
    try clear hfz24_4
    try clear hfz31_0
    try clear hfz31_1
    try clear hfz31_2
    try clear hfz31_3
    try clear hfz32_0
    try clear hfz32_1
    try clear hfz32_2
    try clear hfz32_3
    try clear hfz32_4
    try clear hfz40_0
    try clear hfz40_1
    try clear hfz40_2
    try clear hfz40_3
    try clear hfz49_0
    try clear hfz49_1
    try clear hfz49_2
    try clear hfz49_3
    try clear hfz54_0
    try clear hfz54_1
    try clear hfz54_2
    try clear hfz54_3
    try clear hfz56_0
    try clear hfz56_1
    try clear hfz56_2
    try clear hfz56_3
    try clear hfz57_0
    try clear hfz57_1
    try clear hfz57_2
    try clear hfz57_3
    try clear hfz64_0
    try clear hfz64_1
    try clear hfz64_2
    try clear hfz64_3
    try clear hfz69_0
    try clear hfz69_1
    try clear hfz69_2
    try clear hfz69_3
    obtain ⟨kq, x11_8, rfl, HA, HJ8, BK881, BK882, BK883, BK889, BK894, BK899, HB⟩ := hcut
    cases kq with
    | zero => exact absurd HA.out (by simp [tenementlaw06_VecOrder_p2.j0])
    | succ kj8 =>
      have H := HA.out
      clear HA
      simp only [tenementlaw06_VecOrder_p2.j0] at H
      have HC71 := Aside0.mk H
      clear H
      go_upto_region 8 with (fail)
      go_cut [12] (fun v12 wc => ∃ (kq : Nat) (x12_70 : Bool), v12 = .bool x12_70 ∧ Aside0 (tenementlaw06_VecOrder_p2.j1 kq true x11_8 x12_70 t885 t886 t887 t888 t890 t891 t892 t893 t895 t896 t897 t898 = some r) ∧ Aside0 (kq ≤ kj8) ∧ Aside0 (wc.heap[gb881]? = some (.cells #[.int .u64 a0_0, .int .u64 a0_1, .int .u64 a0_2, .int .u64 a0_3, .bool a0_4] 26 (0, 0))) ∧ Aside0 (wc.heap[gb882]? = some (.cells #[.int .u64 a1_0, .int .u64 a1_1, .int .u64 a1_2, .int .u64 a1_3, .bool a1_4] 26 (0, 0))) ∧ Aside0 (wc.heap[gb883]? = some (.cells #[.int .u64 a2_0, .int .u64 a2_1, .int .u64 a2_2, .int .u64 a2_3, .bool a2_4] 26 (0, 0))) ∧ Aside0 (wc.heap[gb889]? = some (.cells #[.int .u64 t885, .int .u64 t886, .int .u64 t887, .int .u64 t888] 24 (0, 0))) ∧ Aside0 (wc.heap[gb894]? = some (.cells #[.int .u64 t890, .int .u64 t891, .int .u64 t892, .int .u64 t893] 24 (0, 0))) ∧ Aside0 (wc.heap[gb899]? = some (.cells #[.int .u64 t895, .int .u64 t896, .int .u64 t897, .int .u64 t898] 24 (0, 0))) ∧ Aside0 (Below w.heap.size w wc))
      case first =>
        have H := HC71.out
        clear HC71
        replace H := Option.bind_eq_some_iff.mp H
        obtain ⟨t902, A720, H⟩ := H
        replace H : (if t902 = true then ((vec_Right.f t890 t891 t892 t893).bind fun t903 => (tenementlaw06_VecOrder_p2.j1 kj8 true x11_8 t903 t885 t886 t887 t888 t890 t891 t892 t893 t895 t896 t897 t898)) else (tenementlaw06_VecOrder_p2.j1 kj8 true x11_8 false t885 t886 t887 t888 t890 t891 t892 t893 t895 t896 t897 t898)) = some r := H
        have A72 := Aside0.mk A720
        clear A720
        by_cases c73 : t902 = true
        rotate_left
        · replace c73 := Bool.eq_false_iff.mpr c73
          subst c73
          have H1 : (tenementlaw06_VecOrder_p2.j1 kj8 true x11_8 false t885 t886 t887 t888 t890 t891 t892 t893 t895 t896 t897 t898) = some r := by rw [if_neg (show ¬ (false = true) by decide)] at H; exact H
          clear H
          have H := H1
          clear H1
          have H' := Aside0.mk H
          clear H
          have hnb88 := NB889_881.out
          have hnc88 := NB881_889.out
          have hnb89 := NB889_882.out
          have hnc89 := NB882_889.out
          have hnb90 := NB889_883.out
          have hnc90 := NB883_889.out
          have hnb91 := NB889_894.out
          have hnc91 := NB894_889.out
          have hnb92 := NB889_899.out
          have hnc92 := NB899_889.out
          obtain ⟨hcz93_0, hcz93_1, hcz93_2, hcz93_3, hfz93_0, hfz93_1, hfz93_2, hfz93_3⟩ := Ke4_ BK889.out
          go_wp2_with (first | ((with_reducible refine gate_callee (f := 20) rfl ?_); refine Kg_ (some 31) rfl rfl Tryd.func20 (by kernel_rfl) rfl #[.agg #[.int .u64 t885, .int .u64 t886, .int .u64 t887, .int .u64 t888]] rfl ?_; (with_reducible refine (vec_Right.calls t885 t886 t887 t888 false _ A72.out).mono ?_); rintro e w94 ⟨rfl, hb⟩; refine ⟨_, rfl, ?_⟩; replace BK881 := Kb_ BK881 hb; replace BK882 := Kb_ BK882 hb; replace BK883 := Kb_ BK883 hb; replace BK889 := Kb_ BK889 hb; replace BK894 := Kb_ BK894 hb; replace BK899 := Kb_ BK899 hb; replace HB := Ks_ HB hb; (try clear hb); (try clear hb2); (try clear hk); (try clear hi)))
          go_meet
          case rel => exact ⟨_, (false), (by first | rfl | (simp; done) | (simp [*]; done)), H', ⟨by have := HJ8.out; first | omega | exact Nat.le_refl _⟩, ⟨by exact Kq_ BK881⟩, ⟨by exact Kq_ BK882⟩, ⟨by exact Kq_ BK883⟩, ⟨by exact Kq_ BK889⟩, ⟨by exact Kq_ BK894⟩, ⟨by exact Kq_ BK899⟩, ⟨by repeat (first | (with_reducible first | exact HB.out | apply below_alloc | apply pw_below_drewN | apply below_drew1 | refine below_set ?_ GE881.out | refine below_set ?_ GE882.out | refine below_set ?_ GE883.out | refine below_set ?_ GE889.out | refine below_set ?_ GE894.out | refine below_set ?_ GE899.out) | exact HB.out)⟩⟩
        subst c73
        have H1 : ((vec_Right.f t890 t891 t892 t893).bind fun t903 => (tenementlaw06_VecOrder_p2.j1 kj8 true x11_8 t903 t885 t886 t887 t888 t890 t891 t892 t893 t895 t896 t897 t898)) = some r := by rw [if_pos rfl] at H; exact H
        clear H
        have H := H1
        clear H1
        replace H := Option.bind_eq_some_iff.mp H
        obtain ⟨t903, A740, H⟩ := H
        replace H : (tenementlaw06_VecOrder_p2.j1 kj8 true x11_8 t903 t885 t886 t887 t888 t890 t891 t892 t893 t895 t896 t897 t898) = some r := H
        have A74 := Aside0.mk A740
        clear A740
        have H' := Aside0.mk H
        clear H
        have hnb75 := NB889_881.out
        have hnc75 := NB881_889.out
        have hnb76 := NB889_882.out
        have hnc76 := NB882_889.out
        have hnb77 := NB889_883.out
        have hnc77 := NB883_889.out
        have hnb78 := NB889_894.out
        have hnc78 := NB894_889.out
        have hnb79 := NB889_899.out
        have hnc79 := NB899_889.out
        obtain ⟨hcz80_0, hcz80_1, hcz80_2, hcz80_3, hfz80_0, hfz80_1, hfz80_2, hfz80_3⟩ := Ke4_ BK889.out
        go_wp2_with (first | ((with_reducible refine gate_callee (f := 20) rfl ?_); refine Kg_ (some 31) rfl rfl Tryd.func20 (by kernel_rfl) rfl #[.agg #[.int .u64 t885, .int .u64 t886, .int .u64 t887, .int .u64 t888]] rfl ?_; (with_reducible refine (vec_Right.calls t885 t886 t887 t888 true _ A72.out).mono ?_); rintro e w81 ⟨rfl, hb⟩; refine ⟨_, rfl, ?_⟩; replace BK881 := Kb_ BK881 hb; replace BK882 := Kb_ BK882 hb; replace BK883 := Kb_ BK883 hb; replace BK889 := Kb_ BK889 hb; replace BK894 := Kb_ BK894 hb; replace BK899 := Kb_ BK899 hb; replace HB := Ks_ HB hb; (try clear hb); (try clear hb2); (try clear hk); (try clear hi); have hnb82 := NB894_881.out; have hnc82 := NB881_894.out; have hnb83 := NB894_882.out; have hnc83 := NB882_894.out; have hnb84 := NB894_883.out; have hnc84 := NB883_894.out; have hnb85 := NB894_899.out; have hnc85 := NB899_894.out; obtain ⟨hcz86_0, hcz86_1, hcz86_2, hcz86_3, hfz86_0, hfz86_1, hfz86_2, hfz86_3⟩ := Ke4_ BK894.out) | (go_at_call 20; (with_reducible refine (vec_Right.calls t890 t891 t892 t893 t903 _ A74.out).mono ?_); rintro e w87 ⟨rfl, hb⟩; replace BK881 := Kb_ BK881 hb; replace BK882 := Kb_ BK882 hb; replace BK883 := Kb_ BK883 hb; replace BK889 := Kb_ BK889 hb; replace BK894 := Kb_ BK894 hb; replace BK899 := Kb_ BK899 hb; replace HB := Ks_ HB hb; (try clear hb); (try clear hb2); (try clear hk); (try clear hi)))
        go_meet
        case rel => exact ⟨_, (t903), (by first | rfl | (simp; done) | (simp [*]; done)), H', ⟨by have := HJ8.out; first | omega | exact Nat.le_refl _⟩, ⟨by exact Kq_ BK881⟩, ⟨by exact Kq_ BK882⟩, ⟨by exact Kq_ BK883⟩, ⟨by exact Kq_ BK889⟩, ⟨by exact Kq_ BK894⟩, ⟨by exact Kq_ BK899⟩, ⟨by repeat (first | (with_reducible first | exact HB.out | apply below_alloc | apply pw_below_drewN | apply below_drew1 | refine below_set ?_ GE881.out | refine below_set ?_ GE882.out | refine below_set ?_ GE883.out | refine below_set ?_ GE889.out | refine below_set ?_ GE894.out | refine below_set ?_ GE899.out) | exact HB.out)⟩⟩
      case rest =>
        clear HC71
        try clear c1
        try clear c2
        try clear p2
        try clear c3
        try clear c4
        try clear c5
        try clear c6
        try clear c7
        try clear c8
        try clear c9
        try clear c10
        try clear c11
        try clear c14
        try clear c15
        try clear c19
        try clear c20
        try clear c21
        try clear c22
        try clear c23
        try clear c27
        try clear c28
        try clear c29
        try clear c30
        try clear c35
        try clear c36
        try clear c37
        try clear c38
        try clear c39
        try clear c42
        try clear c44
        try clear c45
        try clear c46
        try clear c47
        try clear c48
        try clear c50
        try clear c51
        try clear c52
        try clear c53
        try clear c59
        try clear c60
        try clear c61
        try clear c62
        try clear c63
        try clear c65
        try clear c66
        try clear c67
        try clear c68
        try clear c73
        try clear c75
        try clear c76
        try clear c77
        try clear c78
        try clear c79
        try clear c82
        try clear c83
        try clear c84
        try clear c85
        try clear c88
        try clear c89
        try clear c90
        try clear c91
        try clear c92
        try clear hcz16_0
        try clear hcz16_1
        try clear hcz16_2
        try clear hcz16_3
        try clear hcz16_4
        try clear hcz22_0
        try clear hcz22_1
        try clear hcz22_2
        try clear hcz22_3
        try clear hcz24_0
        try clear hcz24_1
        try clear hcz24_2
        try clear hcz24_3
        try clear hcz24_4
        try clear hcz31_0
        try clear hcz31_1
        try clear hcz31_2
        try clear hcz31_3
        try clear hcz32_0
        try clear hcz32_1
        try clear hcz32_2
        try clear hcz32_3
        try clear hcz32_4
        try clear hcz40_0
        try clear hcz40_1
        try clear hcz40_2
        try clear hcz40_3
        try clear hcz49_0
        try clear hcz49_1
        try clear hcz49_2
        try clear hcz49_3
        try clear hcz54_0
        try clear hcz54_1
        try clear hcz54_2
        try clear hcz54_3
        try clear hcz56_0
        try clear hcz56_1
        try clear hcz56_2
        try clear hcz56_3
        try clear hcz57_0
        try clear hcz57_1
        try clear hcz57_2
        try clear hcz57_3
        try clear hcz64_0
        try clear hcz64_1
        try clear hcz64_2
        try clear hcz64_3
        try clear hcz69_0
        try clear hcz69_1
        try clear hcz69_2
        try clear hcz69_3
        try clear hcz80_0
        try clear hcz80_1
        try clear hcz80_2
        try clear hcz80_3
        try clear hcz86_0
        try clear hcz86_1
        try clear hcz86_2
        try clear hcz86_3
        try clear hcz93_0
        try clear hcz93_1
        try clear hcz93_2
        try clear hcz93_3
        try clear hfz16_0
        try clear hfz16_1
        try clear hfz16_2
        try clear hfz16_3
        try clear hfz16_4
        try clear hfz22_0
        try clear hfz22_1
        try clear hfz22_2
        try clear hfz22_3
        try clear hfz24_0
        try clear hfz24_1
        try clear hfz24_2
        try clear hfz24_3
        try clear hfz24_4
        try clear hfz31_0
        try clear hfz31_1
        try clear hfz31_2
        try clear hfz31_3
        try clear hfz32_0
        try clear hfz32_1
        try clear hfz32_2
        try clear hfz32_3
        try clear hfz32_4
        try clear hfz40_0
        try clear hfz40_1
        try clear hfz40_2
        try clear hfz40_3
        try clear hfz49_0
        try clear hfz49_1
        try clear hfz49_2
        try clear hfz49_3
        try clear hfz54_0
        try clear hfz54_1
        try clear hfz54_2
        try clear hfz54_3
        try clear hfz56_0
        try clear hfz56_1
        try clear hfz56_2
        try clear hfz56_3
        try clear hfz57_0
        try clear hfz57_1
        try clear hfz57_2
        try clear hfz57_3
        try clear hfz64_0
        try clear hfz64_1
        try clear hfz64_2
        try clear hfz64_3
        try clear hfz69_0
        try clear hfz69_1
        try clear hfz69_2
        try clear hfz69_3
        try clear hfz80_0
        try clear hfz80_1
        try clear hfz80_2
        try clear hfz80_3
        try clear hfz86_0
        try clear hfz86_1
        try clear hfz86_2
        try clear hfz86_3
        try clear hfz93_0
        try clear hfz93_1
        try clear hfz93_2
        try clear hfz93_3
        try clear p2
        obtain ⟨kq, x12_70, rfl, HA, HJ70, BK881, BK882, BK883, BK889, BK894, BK899, HB⟩ := hcut
        cases kq with
        | zero => exact absurd HA.out (by simp [tenementlaw06_VecOrder_p2.j1])
        | succ kj70 =>
          have H := HA.out
          clear HA
          simp only [tenementlaw06_VecOrder_p2.j1] at H
          replace H : ((vec_Leq.f t885 t886 t887 t888 t885 t886 t887 t888).bind fun t904 => (if t904 = true then (if x11_8 = true then (none) else (if (t885 == t890 && (t886 == t891 && (t887 == t892 && (t888 == t893)))) = true then (none) else ((vec_Leq.f t885 t886 t887 t888 t890 t891 t892 t893).bind fun t950 => (if t950 = true then ((vec_Leq.f t890 t891 t892 t893 t895 t896 t897 t898).bind fun t951 => (if t951 = true then (none) else (if x12_70 = true then (none) else ((vec_Leq.f t885 t886 t887 t888 t890 t891 t892 t893).bind fun t994 => ((vec_Join.f t885 t886 t887 t888 t890 t891 t892 t893).bind fun bt995 => (if t994 = true then (if (bt995.1 == t890 && (bt995.2.1 == t891 && (bt995.2.2.1 == t892 && (bt995.2.2.2 == t893)))) = true then ((vec_Leq.f 0 0 0 0 t885 t886 t887 t888).bind fun t999 => (if t999 = true then (some true) else (none))) else (none)) else (none))))))) else (if x12_70 = true then ((vec_Leq.f t885 t886 t887 t888 t890 t891 t892 t893).bind fun t1001 => (if t1001 = true then (none) else ((vec_Leq.f t885 t886 t887 t888 t890 t891 t892 t893).bind fun t1011 => ((vec_Join.f t885 t886 t887 t888 t890 t891 t892 t893).bind fun bt1012 => (if t1011 = true then (none) else (if (bt1012.1 == t890 && (bt1012.2.1 == t891 && (bt1012.2.2.1 == t892 && (bt1012.2.2.2 == t893)))) = true then (none) else ((vec_Leq.f 0 0 0 0 t885 t886 t887 t888).bind fun t1017 => (if t1017 = true then (some true) else (none))))))))) else ((vec_Leq.f t885 t886 t887 t888 t890 t891 t892 t893).bind fun t1018 => ((vec_Join.f t885 t886 t887 t888 t890 t891 t892 t893).bind fun bt1019 => (if t1018 = true then (none) else (if (bt1019.1 == t890 && (bt1019.2.1 == t891 && (bt1019.2.2.1 == t892 && (bt1019.2.2.2 == t893)))) = true then (none) else ((vec_Leq.f 0 0 0 0 t885 t886 t887 t888).bind fun t1024 => (if t1024 = true then (some true) else (none)))))))))))) else (none))) = some r := by first | (rw [if_pos rfl] at H; exact H) | (rw [if_pos trivial] at H; exact H)
          replace H := Option.bind_eq_some_iff.mp H
          obtain ⟨t904, A950, H⟩ := H
          replace H : (if t904 = true then (if x11_8 = true then (none) else (if (t885 == t890 && (t886 == t891 && (t887 == t892 && (t888 == t893)))) = true then (none) else ((vec_Leq.f t885 t886 t887 t888 t890 t891 t892 t893).bind fun t950 => (if t950 = true then ((vec_Leq.f t890 t891 t892 t893 t895 t896 t897 t898).bind fun t951 => (if t951 = true then (none) else (if x12_70 = true then (none) else ((vec_Leq.f t885 t886 t887 t888 t890 t891 t892 t893).bind fun t994 => ((vec_Join.f t885 t886 t887 t888 t890 t891 t892 t893).bind fun bt995 => (if t994 = true then (if (bt995.1 == t890 && (bt995.2.1 == t891 && (bt995.2.2.1 == t892 && (bt995.2.2.2 == t893)))) = true then ((vec_Leq.f 0 0 0 0 t885 t886 t887 t888).bind fun t999 => (if t999 = true then (some true) else (none))) else (none)) else (none))))))) else (if x12_70 = true then ((vec_Leq.f t885 t886 t887 t888 t890 t891 t892 t893).bind fun t1001 => (if t1001 = true then (none) else ((vec_Leq.f t885 t886 t887 t888 t890 t891 t892 t893).bind fun t1011 => ((vec_Join.f t885 t886 t887 t888 t890 t891 t892 t893).bind fun bt1012 => (if t1011 = true then (none) else (if (bt1012.1 == t890 && (bt1012.2.1 == t891 && (bt1012.2.2.1 == t892 && (bt1012.2.2.2 == t893)))) = true then (none) else ((vec_Leq.f 0 0 0 0 t885 t886 t887 t888).bind fun t1017 => (if t1017 = true then (some true) else (none))))))))) else ((vec_Leq.f t885 t886 t887 t888 t890 t891 t892 t893).bind fun t1018 => ((vec_Join.f t885 t886 t887 t888 t890 t891 t892 t893).bind fun bt1019 => (if t1018 = true then (none) else (if (bt1019.1 == t890 && (bt1019.2.1 == t891 && (bt1019.2.2.1 == t892 && (bt1019.2.2.2 == t893)))) = true then (none) else ((vec_Leq.f 0 0 0 0 t885 t886 t887 t888).bind fun t1024 => (if t1024 = true then (some true) else (none)))))))))))) else (none)) = some r := H
          have A95 := Aside0.mk A950
          clear A950
          by_cases c96 : t904 = true
          rotate_left
          · replace c96 := Bool.eq_false_iff.mpr c96
            subst c96
            have H1 : (none) = some r := by rw [if_neg (show ¬ (false = true) by decide)] at H; exact H
            clear H
            have H := H1
            clear H1
            exact absurd H (by simp)
          subst c96
          have H1 : (if x11_8 = true then (none) else (if (t885 == t890 && (t886 == t891 && (t887 == t892 && (t888 == t893)))) = true then (none) else ((vec_Leq.f t885 t886 t887 t888 t890 t891 t892 t893).bind fun t950 => (if t950 = true then ((vec_Leq.f t890 t891 t892 t893 t895 t896 t897 t898).bind fun t951 => (if t951 = true then (none) else (if x12_70 = true then (none) else ((vec_Leq.f t885 t886 t887 t888 t890 t891 t892 t893).bind fun t994 => ((vec_Join.f t885 t886 t887 t888 t890 t891 t892 t893).bind fun bt995 => (if t994 = true then (if (bt995.1 == t890 && (bt995.2.1 == t891 && (bt995.2.2.1 == t892 && (bt995.2.2.2 == t893)))) = true then ((vec_Leq.f 0 0 0 0 t885 t886 t887 t888).bind fun t999 => (if t999 = true then (some true) else (none))) else (none)) else (none))))))) else (if x12_70 = true then ((vec_Leq.f t885 t886 t887 t888 t890 t891 t892 t893).bind fun t1001 => (if t1001 = true then (none) else ((vec_Leq.f t885 t886 t887 t888 t890 t891 t892 t893).bind fun t1011 => ((vec_Join.f t885 t886 t887 t888 t890 t891 t892 t893).bind fun bt1012 => (if t1011 = true then (none) else (if (bt1012.1 == t890 && (bt1012.2.1 == t891 && (bt1012.2.2.1 == t892 && (bt1012.2.2.2 == t893)))) = true then (none) else ((vec_Leq.f 0 0 0 0 t885 t886 t887 t888).bind fun t1017 => (if t1017 = true then (some true) else (none))))))))) else ((vec_Leq.f t885 t886 t887 t888 t890 t891 t892 t893).bind fun t1018 => ((vec_Join.f t885 t886 t887 t888 t890 t891 t892 t893).bind fun bt1019 => (if t1018 = true then (none) else (if (bt1019.1 == t890 && (bt1019.2.1 == t891 && (bt1019.2.2.1 == t892 && (bt1019.2.2.2 == t893)))) = true then (none) else ((vec_Leq.f 0 0 0 0 t885 t886 t887 t888).bind fun t1024 => (if t1024 = true then (some true) else (none)))))))))))) = some r := by rw [if_pos rfl] at H; exact H
          clear H
          have H := H1
          clear H1
          by_cases c97 : x11_8 = true
          · subst c97
            have H1 : (none) = some r := by rw [if_pos rfl] at H; exact H
            clear H
            have H := H1
            clear H1
            exact absurd H (by simp)
          replace c97 := Bool.eq_false_iff.mpr c97
          subst c97
          have H1 : (if (t885 == t890 && (t886 == t891 && (t887 == t892 && (t888 == t893)))) = true then (none) else ((vec_Leq.f t885 t886 t887 t888 t890 t891 t892 t893).bind fun t950 => (if t950 = true then ((vec_Leq.f t890 t891 t892 t893 t895 t896 t897 t898).bind fun t951 => (if t951 = true then (none) else (if x12_70 = true then (none) else ((vec_Leq.f t885 t886 t887 t888 t890 t891 t892 t893).bind fun t994 => ((vec_Join.f t885 t886 t887 t888 t890 t891 t892 t893).bind fun bt995 => (if t994 = true then (if (bt995.1 == t890 && (bt995.2.1 == t891 && (bt995.2.2.1 == t892 && (bt995.2.2.2 == t893)))) = true then ((vec_Leq.f 0 0 0 0 t885 t886 t887 t888).bind fun t999 => (if t999 = true then (some true) else (none))) else (none)) else (none))))))) else (if x12_70 = true then ((vec_Leq.f t885 t886 t887 t888 t890 t891 t892 t893).bind fun t1001 => (if t1001 = true then (none) else ((vec_Leq.f t885 t886 t887 t888 t890 t891 t892 t893).bind fun t1011 => ((vec_Join.f t885 t886 t887 t888 t890 t891 t892 t893).bind fun bt1012 => (if t1011 = true then (none) else (if (bt1012.1 == t890 && (bt1012.2.1 == t891 && (bt1012.2.2.1 == t892 && (bt1012.2.2.2 == t893)))) = true then (none) else ((vec_Leq.f 0 0 0 0 t885 t886 t887 t888).bind fun t1017 => (if t1017 = true then (some true) else (none))))))))) else ((vec_Leq.f t885 t886 t887 t888 t890 t891 t892 t893).bind fun t1018 => ((vec_Join.f t885 t886 t887 t888 t890 t891 t892 t893).bind fun bt1019 => (if t1018 = true then (none) else (if (bt1019.1 == t890 && (bt1019.2.1 == t891 && (bt1019.2.2.1 == t892 && (bt1019.2.2.2 == t893)))) = true then (none) else ((vec_Leq.f 0 0 0 0 t885 t886 t887 t888).bind fun t1024 => (if t1024 = true then (some true) else (none))))))))))) = some r := by rw [if_neg (show ¬ (false = true) by decide)] at H; exact H
          clear H
          have H := H1
          clear H1
          by_cases c98 : (t885 == t890 && (t886 == t891 && (t887 == t892 && (t888 == t893)))) = true
          · rw [if_pos c98] at H
            exact absurd H (by simp)
          rw [if_neg c98] at H
          have c98b0 : (t885 == t890 && (t886 == t891 && (t887 == t892 && (t888 == t893)))) = false := by simpa using c98
          (try (have c98b1 : decide (t885 = t890 && (t886 == t891 && (t887 == t892 && (t888 == t893)))) = false := by simpa using c98))
          (try (have c98b2 : (t885 == t890 && (t886 == t891 && (t887 == t892 && (t888 == t893)))) = false := by simpa using c98))
          (try (have c98b3 : ¬ (t885 = t890 && (t886 == t891 && (t887 == t892 && (t888 == t893)))) := by simpa using c98))
          clear c98
          replace H := Option.bind_eq_some_iff.mp H
          obtain ⟨t950, A990, H⟩ := H
          replace H : (if t950 = true then ((vec_Leq.f t890 t891 t892 t893 t895 t896 t897 t898).bind fun t951 => (if t951 = true then (none) else (if x12_70 = true then (none) else ((vec_Leq.f t885 t886 t887 t888 t890 t891 t892 t893).bind fun t994 => ((vec_Join.f t885 t886 t887 t888 t890 t891 t892 t893).bind fun bt995 => (if t994 = true then (if (bt995.1 == t890 && (bt995.2.1 == t891 && (bt995.2.2.1 == t892 && (bt995.2.2.2 == t893)))) = true then ((vec_Leq.f 0 0 0 0 t885 t886 t887 t888).bind fun t999 => (if t999 = true then (some true) else (none))) else (none)) else (none))))))) else (if x12_70 = true then ((vec_Leq.f t885 t886 t887 t888 t890 t891 t892 t893).bind fun t1001 => (if t1001 = true then (none) else ((vec_Leq.f t885 t886 t887 t888 t890 t891 t892 t893).bind fun t1011 => ((vec_Join.f t885 t886 t887 t888 t890 t891 t892 t893).bind fun bt1012 => (if t1011 = true then (none) else (if (bt1012.1 == t890 && (bt1012.2.1 == t891 && (bt1012.2.2.1 == t892 && (bt1012.2.2.2 == t893)))) = true then (none) else ((vec_Leq.f 0 0 0 0 t885 t886 t887 t888).bind fun t1017 => (if t1017 = true then (some true) else (none))))))))) else ((vec_Leq.f t885 t886 t887 t888 t890 t891 t892 t893).bind fun t1018 => ((vec_Join.f t885 t886 t887 t888 t890 t891 t892 t893).bind fun bt1019 => (if t1018 = true then (none) else (if (bt1019.1 == t890 && (bt1019.2.1 == t891 && (bt1019.2.2.1 == t892 && (bt1019.2.2.2 == t893)))) = true then (none) else ((vec_Leq.f 0 0 0 0 t885 t886 t887 t888).bind fun t1024 => (if t1024 = true then (some true) else (none))))))))) = some r := H
          have A99 := Aside0.mk A990
          clear A990
          by_cases c100 : t950 = true
          · subst c100
            have H1 : ((vec_Leq.f t890 t891 t892 t893 t895 t896 t897 t898).bind fun t951 => (if t951 = true then (none) else (if x12_70 = true then (none) else ((vec_Leq.f t885 t886 t887 t888 t890 t891 t892 t893).bind fun t994 => ((vec_Join.f t885 t886 t887 t888 t890 t891 t892 t893).bind fun bt995 => (if t994 = true then (if (bt995.1 == t890 && (bt995.2.1 == t891 && (bt995.2.2.1 == t892 && (bt995.2.2.2 == t893)))) = true then ((vec_Leq.f 0 0 0 0 t885 t886 t887 t888).bind fun t999 => (if t999 = true then (some true) else (none))) else (none)) else (none))))))) = some r := by rw [if_pos rfl] at H; exact H
            clear H
            have H := H1
            clear H1
            replace H := Option.bind_eq_some_iff.mp H
            obtain ⟨t951, A1010, H⟩ := H
            replace H : (if t951 = true then (none) else (if x12_70 = true then (none) else ((vec_Leq.f t885 t886 t887 t888 t890 t891 t892 t893).bind fun t994 => ((vec_Join.f t885 t886 t887 t888 t890 t891 t892 t893).bind fun bt995 => (if t994 = true then (if (bt995.1 == t890 && (bt995.2.1 == t891 && (bt995.2.2.1 == t892 && (bt995.2.2.2 == t893)))) = true then ((vec_Leq.f 0 0 0 0 t885 t886 t887 t888).bind fun t999 => (if t999 = true then (some true) else (none))) else (none)) else (none)))))) = some r := H
            have A101 := Aside0.mk A1010
            clear A1010
            by_cases c102 : t951 = true
            · subst c102
              have H1 : (none) = some r := by rw [if_pos rfl] at H; exact H
              clear H
              have H := H1
              clear H1
              exact absurd H (by simp)
            replace c102 := Bool.eq_false_iff.mpr c102
            subst c102
            have H1 : (if x12_70 = true then (none) else ((vec_Leq.f t885 t886 t887 t888 t890 t891 t892 t893).bind fun t994 => ((vec_Join.f t885 t886 t887 t888 t890 t891 t892 t893).bind fun bt995 => (if t994 = true then (if (bt995.1 == t890 && (bt995.2.1 == t891 && (bt995.2.2.1 == t892 && (bt995.2.2.2 == t893)))) = true then ((vec_Leq.f 0 0 0 0 t885 t886 t887 t888).bind fun t999 => (if t999 = true then (some true) else (none))) else (none)) else (none))))) = some r := by rw [if_neg (show ¬ (false = true) by decide)] at H; exact H
            clear H
            have H := H1
            clear H1
            by_cases c103 : x12_70 = true
            · subst c103
              have H1 : (none) = some r := by rw [if_pos rfl] at H; exact H
              clear H
              have H := H1
              clear H1
              exact absurd H (by simp)
            replace c103 := Bool.eq_false_iff.mpr c103
            subst c103
            have H1 : ((vec_Leq.f t885 t886 t887 t888 t890 t891 t892 t893).bind fun t994 => ((vec_Join.f t885 t886 t887 t888 t890 t891 t892 t893).bind fun bt995 => (if t994 = true then (if (bt995.1 == t890 && (bt995.2.1 == t891 && (bt995.2.2.1 == t892 && (bt995.2.2.2 == t893)))) = true then ((vec_Leq.f 0 0 0 0 t885 t886 t887 t888).bind fun t999 => (if t999 = true then (some true) else (none))) else (none)) else (none)))) = some r := by rw [if_neg (show ¬ (false = true) by decide)] at H; exact H
            clear H
            have H := H1
            clear H1
            replace H := Option.bind_eq_some_iff.mp H
            obtain ⟨t994, A1040, H⟩ := H
            replace H : ((vec_Join.f t885 t886 t887 t888 t890 t891 t892 t893).bind fun bt995 => (if t994 = true then (if (bt995.1 == t890 && (bt995.2.1 == t891 && (bt995.2.2.1 == t892 && (bt995.2.2.2 == t893)))) = true then ((vec_Leq.f 0 0 0 0 t885 t886 t887 t888).bind fun t999 => (if t999 = true then (some true) else (none))) else (none)) else (none))) = some r := H
            have A104 := Aside0.mk A1040
            clear A1040
            replace H := Option.bind_eq_some_iff.mp H
            obtain ⟨⟨t995, t996, t997, t998⟩, A1050, H⟩ := H
            replace H : (if t994 = true then (if (t995 == t890 && (t996 == t891 && (t997 == t892 && (t998 == t893)))) = true then ((vec_Leq.f 0 0 0 0 t885 t886 t887 t888).bind fun t999 => (if t999 = true then (some true) else (none))) else (none)) else (none)) = some r := H
            have A105 := Aside0.mk A1050
            clear A1050
            by_cases c106 : t994 = true
            rotate_left
            · replace c106 := Bool.eq_false_iff.mpr c106
              subst c106
              have H1 : (none) = some r := by rw [if_neg (show ¬ (false = true) by decide)] at H; exact H
              clear H
              have H := H1
              clear H1
              exact absurd H (by simp)
            subst c106
            have H1 : (if (t995 == t890 && (t996 == t891 && (t997 == t892 && (t998 == t893)))) = true then ((vec_Leq.f 0 0 0 0 t885 t886 t887 t888).bind fun t999 => (if t999 = true then (some true) else (none))) else (none)) = some r := by rw [if_pos rfl] at H; exact H
            clear H
            have H := H1
            clear H1
            by_cases c107 : (t995 == t890 && (t996 == t891 && (t997 == t892 && (t998 == t893)))) = true
            rotate_left
            · rw [if_neg c107] at H
              exact absurd H (by simp)
            rw [if_pos c107] at H
            have c107b0 : (t995 == t890 && (t996 == t891 && (t997 == t892 && (t998 == t893)))) = true := c107
            (try (have c107b1 : decide (t995 = t890 && (t996 == t891 && (t997 == t892 && (t998 == t893)))) = true := by simpa using c107))
            (try (have c107b2 : (t995 == t890 && (t996 == t891 && (t997 == t892 && (t998 == t893)))) = true := by simpa using c107))
            clear c107
            replace H := Option.bind_eq_some_iff.mp H
            obtain ⟨t999, A1080, H⟩ := H
            replace H : (if t999 = true then (some true) else (none)) = some r := H
            have A108 := Aside0.mk A1080
            clear A1080
            by_cases c109 : t999 = true
            rotate_left
            · replace c109 := Bool.eq_false_iff.mpr c109
              subst c109
              have H1 : (none) = some r := by rw [if_neg (show ¬ (false = true) by decide)] at H; exact H
              clear H
              have H := H1
              clear H1
              exact absurd H (by simp)
            subst c109
            have H1 : (some true) = some r := by rw [if_pos rfl] at H; exact H
            clear H
            have H := H1
            clear H1
            obtain rfl := Option.some.inj H
            try go_wp2
            replace BK881 := Kd_ BK881
            replace BK882 := Kd_ BK882
            replace BK883 := Kd_ BK883
            replace BK889 := Kd_ BK889
            replace BK894 := Kd_ BK894
            replace BK899 := Kd_ BK899
            replace HB := Aside0.mk (below_drew1 HB.out)
            refine start_ (n := 69) (S := fun w' => w'.cell? ⟨gb889, 0, none⟩ = some (.int .u64 t885) ∧ w'.cell? ⟨gb889, 1, none⟩ = some (.int .u64 t886) ∧ w'.cell? ⟨gb889, 2, none⟩ = some (.int .u64 t887) ∧ w'.cell? ⟨gb889, 3, none⟩ = some (.int .u64 t888) ∧ w'.cell? ⟨gb894, 0, none⟩ = some (.int .u64 t890) ∧ w'.cell? ⟨gb894, 1, none⟩ = some (.int .u64 t891) ∧ w'.cell? ⟨gb894, 2, none⟩ = some (.int .u64 t892) ∧ w'.cell? ⟨gb894, 3, none⟩ = some (.int .u64 t893) ∧ w'.cell? ⟨gb899, 0, none⟩ = some (.int .u64 t895) ∧ w'.cell? ⟨gb899, 1, none⟩ = some (.int .u64 t896) ∧ w'.cell? ⟨gb899, 2, none⟩ = some (.int .u64 t897) ∧ w'.cell? ⟨gb899, 3, none⟩ = some (.int .u64 t898)) (ds := []) #[false, false, false, false, false, false, false, false, false, false, false, false, false, false, false, false, false, false, false, false, false, false, false, false, false, false, false, false, false, false, false, false, false, false, false, false, false, false, false, false, false, false, false, false, false, false, false, false, false, false, false, false, false, false, false, false, false, false, false, false, false, false, false, false, false, false, false, false, false] (by kernel_rfl) rfl rfl ⟨Km_ BK889 0, Km_ BK889 1, Km_ BK889 2, Km_ BK889 3, Km_ BK894 0, Km_ BK894 1, Km_ BK894 2, Km_ BK894 3, Km_ BK899 0, Km_ BK899 1, Km_ BK899 2, Km_ BK899 3⟩ (fun hHeld => ?_); refine with_tabW tenementlaw06_VecOrder_p2.tab9 tenementlaw06_VecOrder_p2.bits9 (fun HT_ HW_ => ?_)
            generalize wc.drew = w110 at BK881 BK882 BK883 BK889 BK894 BK899 HB hHeld ⊢
            refine Kp_ 0 36 (Bz 69 1) (any_of HT_.out (by kernel_rfl)) ?_
            refine Kp_ 1 37 (Bz 69 3) (any_of HT_.out (by kernel_rfl)) ?_
            refine Ko_ 2 38 (Bz 69 7) (take_ofW HT_.out HW_.out (by kernel_rfl)) hHeld ?_
            refine Ko_ 3 39 (Bz 69 15) (take_ofW HT_.out HW_.out (by kernel_rfl)) hHeld ?_
            refine one_ (i := 4) (N := some 40) (Bz 69 31) rfl rfl (one_of HT_.out (by kernel_rfl)) (by decide) (fun K hK => ?_)
            refine goes_ Tryd.func22 (by kernel_rfl) rfl #[.agg #[.int .u64 t885, .int .u64 t886, .int .u64 t887, .int .u64 t888], .agg #[.int .u64 t885, .int .u64 t886, .int .u64 t887, .int .u64 t888]] (by rfl) rfl rfl (by (try simp only [List.map_toArray, List.map_cons, List.map_nil]); first | done | rfl | (simp only [List.length_drop, List.length_take]; rfl)) ?_
            with_reducible refine (vec_Leq.calls t885 t886 t887 t888 t885 t886 t887 t888 true _ A95.out).mono ?_
            rintro e w111 ⟨rfl, hb⟩
            refine ⟨_, rfl, ?_⟩
            replace BK881 := Kb_ BK881 hb
            replace BK882 := Kb_ BK882 hb
            replace BK883 := Kb_ BK883 hb
            replace BK889 := Kb_ BK889 hb
            replace BK894 := Kb_ BK894 hb
            replace BK899 := Kb_ BK899 hb
            replace HB := Ks_ HB hb
            (try clear hb)
            (try clear hb2)
            (try clear hk)
            (try clear hi)
            refine hK.out _ _ ⟨Km_ BK889 0, Km_ BK889 1, Km_ BK889 2, Km_ BK889 3, Km_ BK894 0, Km_ BK894 1, Km_ BK894 2, Km_ BK894 3, Km_ BK899 0, Km_ BK899 1, Km_ BK899 2, Km_ BK899 3⟩ (fun hHeld => ?_)
            clear hK K
            refine Kn_ 40 ?_
            refine Kp_ 5 41 (Bz 69 63) (any_of HT_.out (by kernel_rfl)) ?_
            refine Kp_ 6 42 (Bz 69 127) (any_of HT_.out (by kernel_rfl)) ?_
            refine Kp_ 7 43 (Bz 69 255) (any_of HT_.out (by kernel_rfl)) ?_
            refine Ko_ 8 44 (Bz 69 511) (take_ofW HT_.out HW_.out (by kernel_rfl)) hHeld ?_
            refine Ko_ 9 45 (Bz 69 1023) (take_ofW HT_.out HW_.out (by kernel_rfl)) hHeld ?_
            refine Kp_ 10 46 (Bz 69 2047) (any_of HT_.out (by kernel_rfl)) ?_
            refine Kp_ 11 47 (Bz 69 4095) (any_of HT_.out (by kernel_rfl)) ?_
            refine Kp_ 12 48 (Bz 69 8191) (any_of HT_.out (by kernel_rfl)) ?_
            refine Kp_ 13 49 (Bz 69 16383) (any_of HT_.out (by kernel_rfl)) ?_
            refine Ko_ 14 50 (Bz 69 32767) (take_ofW HT_.out HW_.out (by kernel_rfl)) hHeld ?_
            refine Ko_ 15 51 (Bz 69 65535) (take_ofW HT_.out HW_.out (by kernel_rfl)) hHeld ?_
            refine one_ (i := 16) (N := some 52) (Bz 69 131071) rfl rfl (one_of HT_.out (by kernel_rfl)) (by decide) (fun K hK => ?_)
            refine goes_ Tryd.func22 (by kernel_rfl) rfl #[.agg #[.int .u64 t885, .int .u64 t886, .int .u64 t887, .int .u64 t888], .agg #[.int .u64 t890, .int .u64 t891, .int .u64 t892, .int .u64 t893]] (by rfl) rfl rfl (by (try simp only [List.map_toArray, List.map_cons, List.map_nil]); first | done | rfl | (simp only [List.length_drop, List.length_take]; rfl)) ?_
            with_reducible refine (vec_Leq.calls t885 t886 t887 t888 t890 t891 t892 t893 true _ A99.out).mono ?_
            rintro e w112 ⟨rfl, hb⟩
            refine ⟨_, rfl, ?_⟩
            replace BK881 := Kb_ BK881 hb
            replace BK882 := Kb_ BK882 hb
            replace BK883 := Kb_ BK883 hb
            replace BK889 := Kb_ BK889 hb
            replace BK894 := Kb_ BK894 hb
            replace BK899 := Kb_ BK899 hb
            replace HB := Ks_ HB hb
            (try clear hb)
            (try clear hb2)
            (try clear hk)
            (try clear hi)
            refine hK.out _ _ ⟨Km_ BK889 0, Km_ BK889 1, Km_ BK889 2, Km_ BK889 3, Km_ BK894 0, Km_ BK894 1, Km_ BK894 2, Km_ BK894 3, Km_ BK899 0, Km_ BK899 1, Km_ BK899 2, Km_ BK899 3⟩ (fun hHeld => ?_)
            clear hK K
            refine Kn_ 52 ?_
            refine Kp_ 17 53 (Bz 69 262143) (any_of HT_.out (by kernel_rfl)) ?_
            refine Kp_ 18 54 (Bz 69 524287) (any_of HT_.out (by kernel_rfl)) ?_
            refine Ko_ 19 55 (Bz 69 1048575) (take_ofW HT_.out HW_.out (by kernel_rfl)) hHeld ?_
            refine Ko_ 20 56 (Bz 69 2097151) (take_ofW HT_.out HW_.out (by kernel_rfl)) hHeld ?_
            refine one_ (i := 21) (N := some 57) (Bz 69 4194303) rfl rfl (one_of HT_.out (by kernel_rfl)) (by decide) (fun K hK => ?_)
            refine goes_ Tryd.func22 (by kernel_rfl) rfl #[.agg #[.int .u64 t890, .int .u64 t891, .int .u64 t892, .int .u64 t893], .agg #[.int .u64 t895, .int .u64 t896, .int .u64 t897, .int .u64 t898]] (by rfl) rfl rfl (by (try simp only [List.map_toArray, List.map_cons, List.map_nil]); first | done | rfl | (simp only [List.length_drop, List.length_take]; rfl)) ?_
            with_reducible refine (vec_Leq.calls t890 t891 t892 t893 t895 t896 t897 t898 false _ A101.out).mono ?_
            rintro e w113 ⟨rfl, hb⟩
            refine ⟨_, rfl, ?_⟩
            replace BK881 := Kb_ BK881 hb
            replace BK882 := Kb_ BK882 hb
            replace BK883 := Kb_ BK883 hb
            replace BK889 := Kb_ BK889 hb
            replace BK894 := Kb_ BK894 hb
            replace BK899 := Kb_ BK899 hb
            replace HB := Ks_ HB hb
            (try clear hb)
            (try clear hb2)
            (try clear hk)
            (try clear hi)
            refine hK.out _ _ ⟨Km_ BK889 0, Km_ BK889 1, Km_ BK889 2, Km_ BK889 3, Km_ BK894 0, Km_ BK894 1, Km_ BK894 2, Km_ BK894 3, Km_ BK899 0, Km_ BK899 1, Km_ BK899 2, Km_ BK899 3⟩ (fun hHeld => ?_)
            clear hK K
            refine Kn_ 57 ?_
            refine Kp_ 22 58 (Bz 69 8388607) (any_of HT_.out (by kernel_rfl)) ?_
            refine Kp_ 23 59 (Bz 69 16777215) (any_of HT_.out (by kernel_rfl)) ?_
            refine Kp_ 24 60 (Bz 69 33554431) (any_of HT_.out (by kernel_rfl)) ?_
            refine pure_ (i := 25) (N := some 61) (v := undef) (a' := ?_) #[true, true, true, true, true, true, true, true, true, true, true, true, true, true, true, true, true, true, true, true, true, true, true, true, true, true, false, false, false, false, false, false, false, false, false, false, false, false, false, false, false, false, false, false, false, false, false, false, false, false, false, false, false, false, false, false, false, false, false, false, false, false, false, false, false, false, false, false, false] rfl rfl (any_of HT_.out (by kernel_rfl)) (fun _ _ _ h => h) (Or.inr ⟨by rfl, rfl⟩) ?_ ?_
            rotate_left
            · simp only [Act.put, List.setIfInBounds_toArray, List.set_cons_zero, List.set_cons_succ, i64_w, i32_w]
              rfl
            refine pure_ (i := 26) (N := some 62) (v := undef) (a' := ?_) #[true, true, true, true, true, true, true, true, true, true, true, true, true, true, true, true, true, true, true, true, true, true, true, true, true, true, true, false, false, false, false, false, false, false, false, false, false, false, false, false, false, false, false, false, false, false, false, false, false, false, false, false, false, false, false, false, false, false, false, false, false, false, false, false, false, false, false, false, false] rfl rfl (any_of HT_.out (by kernel_rfl)) (fun _ _ _ h => h) (Or.inr ⟨by rfl, rfl⟩) ?_ ?_
            rotate_left
            · simp only [Act.put, List.setIfInBounds_toArray, List.set_cons_zero, List.set_cons_succ, i64_w, i32_w]
              rfl
            refine pure_ (i := 27) (N := some 63) (v := undef) (a' := ?_) #[true, true, true, true, true, true, true, true, true, true, true, true, true, true, true, true, true, true, true, true, true, true, true, true, true, true, true, true, false, false, false, false, false, false, false, false, false, false, false, false, false, false, false, false, false, false, false, false, false, false, false, false, false, false, false, false, false, false, false, false, false, false, false, false, false, false, false, false, false] rfl rfl (any_of HT_.out (by kernel_rfl)) (fun _ _ _ h => h) (Or.inr ⟨by rfl, rfl⟩) ?_ ?_
            rotate_left
            · simp only [Act.put, List.setIfInBounds_toArray, List.set_cons_zero, List.set_cons_succ, i64_w, i32_w]
              rfl
            refine Kp_ 28 64 (Bz 69 536870911) (any_of HT_.out (by kernel_rfl)) ?_
            refine Kp_ 29 65 (Bz 69 1073741823) (any_of HT_.out (by kernel_rfl)) ?_
            refine Kp_ 30 66 (Bz 69 2147483647) (any_of HT_.out (by kernel_rfl)) ?_
            refine Kp_ 31 67 (Bz 69 4294967295) (any_of HT_.out (by kernel_rfl)) ?_
            refine Kp_ 32 68 (Bz 69 8589934591) (any_of HT_.out (by kernel_rfl)) ?_
            refine Kp_ 33 69 (Bz 69 17179869183) (any_of HT_.out (by kernel_rfl)) ?_
            refine pure_ (i := 34) (N := some 70) (v := undef) (a' := ?_) #[true, true, true, true, true, true, true, true, true, true, true, true, true, true, true, true, true, true, true, true, true, true, true, true, true, true, true, true, true, true, true, true, true, true, true, false, false, false, false, false, false, false, false, false, false, false, false, false, false, false, false, false, false, false, false, false, false, false, false, false, false, false, false, false, false, false, false, false, false] rfl rfl (any_of HT_.out (by kernel_rfl)) (fun _ _ _ h => h) (Or.inr ⟨by rfl, rfl⟩) ?_ ?_
            rotate_left
            · simp only [Act.put, List.setIfInBounds_toArray, List.set_cons_zero, List.set_cons_succ, i64_w, i32_w]
              rfl
            refine pure_ (i := 35) (N := some 71) (v := undef) (a' := ?_) #[true, true, true, true, true, true, true, true, true, true, true, true, true, true, true, true, true, true, true, true, true, true, true, true, true, true, true, true, true, true, true, true, true, true, true, true, false, false, false, false, false, false, false, false, false, false, false, false, false, false, false, false, false, false, false, false, false, false, false, false, false, false, false, false, false, false, false, false, false] rfl rfl (any_of HT_.out (by kernel_rfl)) (fun _ _ _ h => h) (Or.inr ⟨by rfl, rfl⟩) ?_ ?_
            rotate_left
            · simp only [Act.put, List.setIfInBounds_toArray, List.set_cons_zero, List.set_cons_succ, i64_w, i32_w]
              rfl
            refine pure_ (i := 36) (N := some 72) (v := undef) (a' := ?_) #[true, true, true, true, true, true, true, true, true, true, true, true, true, true, true, true, true, true, true, true, true, true, true, true, true, true, true, true, true, true, true, true, true, true, true, true, true, false, false, false, false, false, false, false, false, false, false, false, false, false, false, false, false, false, false, false, false, false, false, false, false, false, false, false, false, false, false, false, false] rfl rfl (any_of HT_.out (by kernel_rfl)) (fun _ _ _ h => h) (Or.inr ⟨by rfl, rfl⟩) ?_ ?_
            rotate_left
            · simp only [Act.put, List.setIfInBounds_toArray, List.set_cons_zero, List.set_cons_succ, i64_w, i32_w]
              rfl
            refine Kp_ 37 73 (Bz 69 274877906943) (any_of HT_.out (by kernel_rfl)) ?_
            refine Kp_ 38 74 (Bz 69 549755813887) (any_of HT_.out (by kernel_rfl)) ?_
            refine pure_ (i := 39) (N := some 75) (v := undef) (a' := ?_) #[true, true, true, true, true, true, true, true, true, true, true, true, true, true, true, true, true, true, true, true, true, true, true, true, true, true, true, true, true, true, true, true, true, true, true, true, true, true, true, true, false, false, false, false, false, false, false, false, false, false, false, false, false, false, false, false, false, false, false, false, false, false, false, false, false, false, false, false, false] rfl rfl (any_of HT_.out (by kernel_rfl)) (fun _ _ _ h => h) (Or.inr ⟨by rfl, rfl⟩) ?_ ?_
            rotate_left
            · simp only [Act.put, List.setIfInBounds_toArray, List.set_cons_zero, List.set_cons_succ, i64_w, i32_w]
              rfl
            refine pure_ (i := 40) (N := some 76) (v := undef) (a' := ?_) #[true, true, true, true, true, true, true, true, true, true, true, true, true, true, true, true, true, true, true, true, true, true, true, true, true, true, true, true, true, true, true, true, true, true, true, true, true, true, true, true, true, false, false, false, false, false, false, false, false, false, false, false, false, false, false, false, false, false, false, false, false, false, false, false, false, false, false, false, false] rfl rfl (any_of HT_.out (by kernel_rfl)) (fun _ _ _ h => h) (Or.inr ⟨by rfl, rfl⟩) ?_ ?_
            rotate_left
            · simp only [Act.put, List.setIfInBounds_toArray, List.set_cons_zero, List.set_cons_succ, i64_w, i32_w]
              rfl
            refine pure_ (i := 41) (N := some 77) (v := undef) (a' := ?_) #[true, true, true, true, true, true, true, true, true, true, true, true, true, true, true, true, true, true, true, true, true, true, true, true, true, true, true, true, true, true, true, true, true, true, true, true, true, true, true, true, true, true, false, false, false, false, false, false, false, false, false, false, false, false, false, false, false, false, false, false, false, false, false, false, false, false, false, false, false] rfl rfl (any_of HT_.out (by kernel_rfl)) (fun _ _ _ h => h) (Or.inr ⟨by rfl, rfl⟩) ?_ ?_
            rotate_left
            · simp only [Act.put, List.setIfInBounds_toArray, List.set_cons_zero, List.set_cons_succ, i64_w, i32_w]
              rfl
            refine pure_ (i := 42) (N := some 78) (v := undef) (a' := ?_) #[true, true, true, true, true, true, true, true, true, true, true, true, true, true, true, true, true, true, true, true, true, true, true, true, true, true, true, true, true, true, true, true, true, true, true, true, true, true, true, true, true, true, true, false, false, false, false, false, false, false, false, false, false, false, false, false, false, false, false, false, false, false, false, false, false, false, false, false, false] rfl rfl (any_of HT_.out (by kernel_rfl)) (fun _ _ _ h => h) (Or.inr ⟨by rfl, rfl⟩) ?_ ?_
            rotate_left
            · simp only [Act.put, List.setIfInBounds_toArray, List.set_cons_zero, List.set_cons_succ, i64_w, i32_w]
              rfl
            refine Kp_ 43 79 (Bz 69 17592186044415) (any_of HT_.out (by kernel_rfl)) ?_
            refine Kp_ 44 80 (Bz 69 35184372088831) (any_of HT_.out (by kernel_rfl)) ?_
            refine pure_ (i := 45) (N := some 81) (v := undef) (a' := ?_) #[true, true, true, true, true, true, true, true, true, true, true, true, true, true, true, true, true, true, true, true, true, true, true, true, true, true, true, true, true, true, true, true, true, true, true, true, true, true, true, true, true, true, true, true, true, true, false, false, false, false, false, false, false, false, false, false, false, false, false, false, false, false, false, false, false, false, false, false, false] rfl rfl (any_of HT_.out (by kernel_rfl)) (fun _ _ _ h => h) (Or.inr ⟨by rfl, rfl⟩) ?_ ?_
            rotate_left
            · simp only [Act.put, List.setIfInBounds_toArray, List.set_cons_zero, List.set_cons_succ, i64_w, i32_w]
              rfl
            refine pure_ (i := 46) (N := some 82) (v := undef) (a' := ?_) #[true, true, true, true, true, true, true, true, true, true, true, true, true, true, true, true, true, true, true, true, true, true, true, true, true, true, true, true, true, true, true, true, true, true, true, true, true, true, true, true, true, true, true, true, true, true, true, false, false, false, false, false, false, false, false, false, false, false, false, false, false, false, false, false, false, false, false, false, false] rfl rfl (any_of HT_.out (by kernel_rfl)) (fun _ _ _ h => h) (Or.inr ⟨by rfl, rfl⟩) ?_ ?_
            rotate_left
            · simp only [Act.put, List.setIfInBounds_toArray, List.set_cons_zero, List.set_cons_succ, i64_w, i32_w]
              rfl
            refine pure_ (i := 47) (N := some 83) (v := undef) (a' := ?_) #[true, true, true, true, true, true, true, true, true, true, true, true, true, true, true, true, true, true, true, true, true, true, true, true, true, true, true, true, true, true, true, true, true, true, true, true, true, true, true, true, true, true, true, true, true, true, true, true, false, false, false, false, false, false, false, false, false, false, false, false, false, false, false, false, false, false, false, false, false] rfl rfl (any_of HT_.out (by kernel_rfl)) (fun _ _ _ h => h) (Or.inr ⟨by rfl, rfl⟩) ?_ ?_
            rotate_left
            · simp only [Act.put, List.setIfInBounds_toArray, List.set_cons_zero, List.set_cons_succ, i64_w, i32_w]
              rfl
            refine pure_ (i := 48) (N := some 84) (v := undef) (a' := ?_) #[true, true, true, true, true, true, true, true, true, true, true, true, true, true, true, true, true, true, true, true, true, true, true, true, true, true, true, true, true, true, true, true, true, true, true, true, true, true, true, true, true, true, true, true, true, true, true, true, true, false, false, false, false, false, false, false, false, false, false, false, false, false, false, false, false, false, false, false, false] rfl rfl (any_of HT_.out (by kernel_rfl)) (fun _ _ _ h => h) (Or.inr ⟨by rfl, rfl⟩) ?_ ?_
            rotate_left
            · simp only [Act.put, List.setIfInBounds_toArray, List.set_cons_zero, List.set_cons_succ, i64_w, i32_w]
              rfl
            refine pure_ (i := 49) (N := some 85) (v := undef) (a' := ?_) #[true, true, true, true, true, true, true, true, true, true, true, true, true, true, true, true, true, true, true, true, true, true, true, true, true, true, true, true, true, true, true, true, true, true, true, true, true, true, true, true, true, true, true, true, true, true, true, true, true, true, false, false, false, false, false, false, false, false, false, false, false, false, false, false, false, false, false, false, false] rfl rfl (any_of HT_.out (by kernel_rfl)) (fun _ _ _ h => h) (Or.inr ⟨by rfl, rfl⟩) ?_ ?_
            rotate_left
            · simp only [Act.put, List.setIfInBounds_toArray, List.set_cons_zero, List.set_cons_succ, i64_w, i32_w]
              rfl
            refine Kp_ 50 86 (Bz 69 2251799813685247) (any_of HT_.out (by kernel_rfl)) ?_
            refine Kp_ 51 87 (Bz 69 4503599627370495) (any_of HT_.out (by kernel_rfl)) ?_
            refine Kp_ 52 88 (Bz 69 9007199254740991) (any_of HT_.out (by kernel_rfl)) ?_
            refine Ko_ 53 89 (Bz 69 18014398509481983) (take_ofW HT_.out HW_.out (by kernel_rfl)) hHeld ?_
            refine Ko_ 54 90 (Bz 69 36028797018963967) (take_ofW HT_.out HW_.out (by kernel_rfl)) hHeld ?_
            refine Ko_ 56 92 (Bz 69 108086391056891903) (take_ofW HT_.out HW_.out (by kernel_rfl)) hHeld ?_
            refine Ko_ 57 93 (Bz 69 252201579132747775) (take_ofW HT_.out HW_.out (by kernel_rfl)) hHeld ?_
            refine Ko_ 59 95 (Bz 69 828662331436171263) (take_ofW HT_.out HW_.out (by kernel_rfl)) hHeld ?_
            refine one_ (i := 55) (N := some 91) (Bz 69 864691128455135231) rfl rfl (one_of HT_.out (by kernel_rfl)) (by decide) (fun K hK => ?_)
            refine goes_ Tryd.func22 (by kernel_rfl) rfl #[.agg #[.int .u64 t885, .int .u64 t886, .int .u64 t887, .int .u64 t888], .agg #[.int .u64 t890, .int .u64 t891, .int .u64 t892, .int .u64 t893]] (by rfl) rfl rfl (by (try simp only [List.map_toArray, List.map_cons, List.map_nil]); first | done | rfl | (simp only [List.length_drop, List.length_take]; rfl)) ?_
            with_reducible refine (vec_Leq.calls t885 t886 t887 t888 t890 t891 t892 t893 true _ A104.out).mono ?_
            rintro e w114 ⟨rfl, hb⟩
            refine ⟨_, rfl, ?_⟩
            replace BK881 := Kb_ BK881 hb
            replace BK882 := Kb_ BK882 hb
            replace BK883 := Kb_ BK883 hb
            replace BK889 := Kb_ BK889 hb
            replace BK894 := Kb_ BK894 hb
            replace BK899 := Kb_ BK899 hb
            replace HB := Ks_ HB hb
            (try clear hb)
            (try clear hb2)
            (try clear hk)
            (try clear hi)
            refine hK.out _ _ ⟨Km_ BK889 0, Km_ BK889 1, Km_ BK889 2, Km_ BK889 3, Km_ BK894 0, Km_ BK894 1, Km_ BK894 2, Km_ BK894 3, Km_ BK899 0, Km_ BK899 1, Km_ BK899 2, Km_ BK899 3⟩ (fun hHeld => ?_)
            clear hK K
            refine Kn_ 91 ?_
            refine one_ (i := 58) (N := some 94) (Bz 69 1152921504606846975) rfl rfl (one_of HT_.out (by kernel_rfl)) (by decide) (fun K hK => ?_)
            refine goes_ Tryd.func12 (by kernel_rfl) rfl #[.agg #[.int .u64 t885, .int .u64 t886, .int .u64 t887, .int .u64 t888], .agg #[.int .u64 t890, .int .u64 t891, .int .u64 t892, .int .u64 t893]] (by rfl) rfl rfl (by (try simp only [List.map_toArray, List.map_cons, List.map_nil]); first | done | rfl | (simp only [List.length_drop, List.length_take]; rfl)) ?_
            with_reducible refine (vec_Join.calls t885 t886 t887 t888 t890 t891 t892 t893 t995 t996 t997 t998 _ A105.out).mono ?_
            rintro e w115 ⟨rfl, hb⟩
            refine ⟨_, rfl, ?_⟩
            replace BK881 := Kb_ BK881 hb
            replace BK882 := Kb_ BK882 hb
            replace BK883 := Kb_ BK883 hb
            replace BK889 := Kb_ BK889 hb
            replace BK894 := Kb_ BK894 hb
            replace BK899 := Kb_ BK899 hb
            replace HB := Ks_ HB hb
            (try clear hb)
            (try clear hb2)
            (try clear hk)
            (try clear hi)
            refine hK.out _ _ ⟨Km_ BK889 0, Km_ BK889 1, Km_ BK889 2, Km_ BK889 3, Km_ BK894 0, Km_ BK894 1, Km_ BK894 2, Km_ BK894 3, Km_ BK899 0, Km_ BK899 1, Km_ BK899 2, Km_ BK899 3⟩ (fun hHeld => ?_)
            clear hK K
            refine Kn_ 94 ?_
            refine Kp_ 60 96 (Bz 69 2305843009213693951) (any_of HT_.out (by kernel_rfl)) ?_
            refine Kp_ 61 97 (Bz 69 4611686018427387903) (any_of HT_.out (by kernel_rfl)) ?_
            refine Kp_ 62 98 (Bz 69 9223372036854775807) (any_of HT_.out (by kernel_rfl)) ?_
            refine Kp_ 63 99 (Bz 69 18446744073709551615) (any_of HT_.out (by kernel_rfl)) ?_
            refine Kp_ 64 100 (Bz 69 36893488147419103231) (any_of HT_.out (by kernel_rfl)) ?_
            refine Ko_ 65 101 (Bz 69 73786976294838206463) (take_ofW HT_.out HW_.out (by kernel_rfl)) hHeld ?_
            refine one_ (i := 66) (N := some 102) (Bz 69 147573952589676412927) rfl rfl (one_of HT_.out (by kernel_rfl)) (by decide) (fun K hK => ?_)
            refine goes_ Tryd.func22 (by kernel_rfl) rfl #[.agg #[.int .u64 0, .int .u64 0, .int .u64 0, .int .u64 0], .agg #[.int .u64 t885, .int .u64 t886, .int .u64 t887, .int .u64 t888]] (by rfl) rfl rfl (by (try simp only [List.map_toArray, List.map_cons, List.map_nil]); first | done | rfl | (simp only [List.length_drop, List.length_take]; rfl)) ?_
            with_reducible refine (vec_Leq.calls 0 0 0 0 t885 t886 t887 t888 true _ A108.out).mono ?_
            rintro e w116 ⟨rfl, hb⟩
            refine ⟨_, rfl, ?_⟩
            replace BK881 := Kb_ BK881 hb
            replace BK882 := Kb_ BK882 hb
            replace BK883 := Kb_ BK883 hb
            replace BK889 := Kb_ BK889 hb
            replace BK894 := Kb_ BK894 hb
            replace BK899 := Kb_ BK899 hb
            replace HB := Ks_ HB hb
            (try clear hb)
            (try clear hb2)
            (try clear hk)
            (try clear hi)
            refine hK.out _ _ ⟨Km_ BK889 0, Km_ BK889 1, Km_ BK889 2, Km_ BK889 3, Km_ BK894 0, Km_ BK894 1, Km_ BK894 2, Km_ BK894 3, Km_ BK899 0, Km_ BK899 1, Km_ BK899 2, Km_ BK899 3⟩ (fun hHeld => ?_)
            clear hK K
            refine Kn_ 102 ?_
            refine Kp_ 67 103 (Bz 69 295147905179352825855) (any_of HT_.out (by kernel_rfl)) ?_
            refine Kp_ 68 6 (Bz 69 590295810358705651711) (any_of HT_.out (by kernel_rfl)) ?_
            refine done_ (done_of HT_.out (by kernel_rfl)) ?_
            try go_wp2
            go_ret
            exact ⟨Kh_, by repeat (first | (with_reducible first | exact HB.out | apply below_alloc | apply pw_below_drewN | apply below_drew1 | refine below_set ?_ GE881.out | refine below_set ?_ GE882.out | refine below_set ?_ GE883.out | refine below_set ?_ GE889.out | refine below_set ?_ GE894.out | refine below_set ?_ GE899.out) | exact HB.out)⟩
          replace c100 := Bool.eq_false_iff.mpr c100
          subst c100
          have H1 : (if x12_70 = true then ((vec_Leq.f t885 t886 t887 t888 t890 t891 t892 t893).bind fun t1001 => (if t1001 = true then (none) else ((vec_Leq.f t885 t886 t887 t888 t890 t891 t892 t893).bind fun t1011 => ((vec_Join.f t885 t886 t887 t888 t890 t891 t892 t893).bind fun bt1012 => (if t1011 = true then (none) else (if (bt1012.1 == t890 && (bt1012.2.1 == t891 && (bt1012.2.2.1 == t892 && (bt1012.2.2.2 == t893)))) = true then (none) else ((vec_Leq.f 0 0 0 0 t885 t886 t887 t888).bind fun t1017 => (if t1017 = true then (some true) else (none))))))))) else ((vec_Leq.f t885 t886 t887 t888 t890 t891 t892 t893).bind fun t1018 => ((vec_Join.f t885 t886 t887 t888 t890 t891 t892 t893).bind fun bt1019 => (if t1018 = true then (none) else (if (bt1019.1 == t890 && (bt1019.2.1 == t891 && (bt1019.2.2.1 == t892 && (bt1019.2.2.2 == t893)))) = true then (none) else ((vec_Leq.f 0 0 0 0 t885 t886 t887 t888).bind fun t1024 => (if t1024 = true then (some true) else (none)))))))) = some r := by rw [if_neg (show ¬ (false = true) by decide)] at H; exact H
          clear H
          have H := H1
          clear H1
          by_cases c117 : x12_70 = true
          rotate_left
          · replace c117 := Bool.eq_false_iff.mpr c117
            subst c117
            have H1 : ((vec_Leq.f t885 t886 t887 t888 t890 t891 t892 t893).bind fun t1018 => ((vec_Join.f t885 t886 t887 t888 t890 t891 t892 t893).bind fun bt1019 => (if t1018 = true then (none) else (if (bt1019.1 == t890 && (bt1019.2.1 == t891 && (bt1019.2.2.1 == t892 && (bt1019.2.2.2 == t893)))) = true then (none) else ((vec_Leq.f 0 0 0 0 t885 t886 t887 t888).bind fun t1024 => (if t1024 = true then (some true) else (none))))))) = some r := by rw [if_neg (show ¬ (false = true) by decide)] at H; exact H
            clear H
            have H := H1
            clear H1
            replace H := Option.bind_eq_some_iff.mp H
            obtain ⟨t1018, A1330, H⟩ := H
            replace H : ((vec_Join.f t885 t886 t887 t888 t890 t891 t892 t893).bind fun bt1019 => (if t1018 = true then (none) else (if (bt1019.1 == t890 && (bt1019.2.1 == t891 && (bt1019.2.2.1 == t892 && (bt1019.2.2.2 == t893)))) = true then (none) else ((vec_Leq.f 0 0 0 0 t885 t886 t887 t888).bind fun t1024 => (if t1024 = true then (some true) else (none)))))) = some r := H
            have A133 := Aside0.mk A1330
            clear A1330
            replace H := Option.bind_eq_some_iff.mp H
            obtain ⟨⟨t1019, t1020, t1021, t1022⟩, A1340, H⟩ := H
            replace H : (if t1018 = true then (none) else (if (t1019 == t890 && (t1020 == t891 && (t1021 == t892 && (t1022 == t893)))) = true then (none) else ((vec_Leq.f 0 0 0 0 t885 t886 t887 t888).bind fun t1024 => (if t1024 = true then (some true) else (none))))) = some r := H
            have A134 := Aside0.mk A1340
            clear A1340
            by_cases c135 : t1018 = true
            · subst c135
              have H1 : (none) = some r := by rw [if_pos rfl] at H; exact H
              clear H
              have H := H1
              clear H1
              exact absurd H (by simp)
            replace c135 := Bool.eq_false_iff.mpr c135
            subst c135
            have H1 : (if (t1019 == t890 && (t1020 == t891 && (t1021 == t892 && (t1022 == t893)))) = true then (none) else ((vec_Leq.f 0 0 0 0 t885 t886 t887 t888).bind fun t1024 => (if t1024 = true then (some true) else (none)))) = some r := by rw [if_neg (show ¬ (false = true) by decide)] at H; exact H
            clear H
            have H := H1
            clear H1
            by_cases c136 : (t1019 == t890 && (t1020 == t891 && (t1021 == t892 && (t1022 == t893)))) = true
            · rw [if_pos c136] at H
              exact absurd H (by simp)
            rw [if_neg c136] at H
            have c136b0 : (t1019 == t890 && (t1020 == t891 && (t1021 == t892 && (t1022 == t893)))) = false := by simpa using c136
            (try (have c136b1 : decide (t1019 = t890 && (t1020 == t891 && (t1021 == t892 && (t1022 == t893)))) = false := by simpa using c136))
            (try (have c136b2 : (t1019 == t890 && (t1020 == t891 && (t1021 == t892 && (t1022 == t893)))) = false := by simpa using c136))
            (try (have c136b3 : ¬ (t1019 = t890 && (t1020 == t891 && (t1021 == t892 && (t1022 == t893)))) := by simpa using c136))
            clear c136
            replace H := Option.bind_eq_some_iff.mp H
            obtain ⟨t1024, A1370, H⟩ := H
            replace H : (if t1024 = true then (some true) else (none)) = some r := H
            have A137 := Aside0.mk A1370
            clear A1370
            by_cases c138 : t1024 = true
            rotate_left
            · replace c138 := Bool.eq_false_iff.mpr c138
              subst c138
              have H1 : (none) = some r := by rw [if_neg (show ¬ (false = true) by decide)] at H; exact H
              clear H
              have H := H1
              clear H1
              exact absurd H (by simp)
            subst c138
            have H1 : (some true) = some r := by rw [if_pos rfl] at H; exact H
            clear H
            have H := H1
            clear H1
            obtain rfl := Option.some.inj H
            try go_wp2
            replace BK881 := Kd_ BK881
            replace BK882 := Kd_ BK882
            replace BK883 := Kd_ BK883
            replace BK889 := Kd_ BK889
            replace BK894 := Kd_ BK894
            replace BK899 := Kd_ BK899
            replace HB := Aside0.mk (below_drew1 HB.out)
            refine start_ (n := 69) (S := fun w' => w'.cell? ⟨gb889, 0, none⟩ = some (.int .u64 t885) ∧ w'.cell? ⟨gb889, 1, none⟩ = some (.int .u64 t886) ∧ w'.cell? ⟨gb889, 2, none⟩ = some (.int .u64 t887) ∧ w'.cell? ⟨gb889, 3, none⟩ = some (.int .u64 t888) ∧ w'.cell? ⟨gb894, 0, none⟩ = some (.int .u64 t890) ∧ w'.cell? ⟨gb894, 1, none⟩ = some (.int .u64 t891) ∧ w'.cell? ⟨gb894, 2, none⟩ = some (.int .u64 t892) ∧ w'.cell? ⟨gb894, 3, none⟩ = some (.int .u64 t893)) (ds := []) #[false, false, false, false, false, false, false, false, false, false, false, false, false, false, false, false, false, false, false, false, false, false, false, false, false, false, false, false, false, false, false, false, false, false, false, false, false, false, false, false, false, false, false, false, false, false, false, false, false, false, false, false, false, false, false, false, false, false, false, false, false, false, false, false, false, false, false, false, false] (by kernel_rfl) rfl rfl ⟨Km_ BK889 0, Km_ BK889 1, Km_ BK889 2, Km_ BK889 3, Km_ BK894 0, Km_ BK894 1, Km_ BK894 2, Km_ BK894 3⟩ (fun hHeld => ?_); refine with_tabW tenementlaw06_VecOrder_p2.tab9 tenementlaw06_VecOrder_p2.bits9 (fun HT_ HW_ => ?_)
            generalize wc.drew = w139 at BK881 BK882 BK883 BK889 BK894 BK899 HB hHeld ⊢
            refine Kp_ 0 36 (Bz 69 1) (any_of HT_.out (by kernel_rfl)) ?_
            refine Kp_ 1 37 (Bz 69 3) (any_of HT_.out (by kernel_rfl)) ?_
            refine Ko_ 2 38 (Bz 69 7) (take_ofW HT_.out HW_.out (by kernel_rfl)) hHeld ?_
            refine Ko_ 3 39 (Bz 69 15) (take_ofW HT_.out HW_.out (by kernel_rfl)) hHeld ?_
            refine one_ (i := 4) (N := some 40) (Bz 69 31) rfl rfl (one_of HT_.out (by kernel_rfl)) (by decide) (fun K hK => ?_)
            refine goes_ Tryd.func22 (by kernel_rfl) rfl #[.agg #[.int .u64 t885, .int .u64 t886, .int .u64 t887, .int .u64 t888], .agg #[.int .u64 t885, .int .u64 t886, .int .u64 t887, .int .u64 t888]] (by rfl) rfl rfl (by (try simp only [List.map_toArray, List.map_cons, List.map_nil]); first | done | rfl | (simp only [List.length_drop, List.length_take]; rfl)) ?_
            with_reducible refine (vec_Leq.calls t885 t886 t887 t888 t885 t886 t887 t888 true _ A95.out).mono ?_
            rintro e w140 ⟨rfl, hb⟩
            refine ⟨_, rfl, ?_⟩
            replace BK881 := Kb_ BK881 hb
            replace BK882 := Kb_ BK882 hb
            replace BK883 := Kb_ BK883 hb
            replace BK889 := Kb_ BK889 hb
            replace BK894 := Kb_ BK894 hb
            replace BK899 := Kb_ BK899 hb
            replace HB := Ks_ HB hb
            (try clear hb)
            (try clear hb2)
            (try clear hk)
            (try clear hi)
            refine hK.out _ _ ⟨Km_ BK889 0, Km_ BK889 1, Km_ BK889 2, Km_ BK889 3, Km_ BK894 0, Km_ BK894 1, Km_ BK894 2, Km_ BK894 3⟩ (fun hHeld => ?_)
            clear hK K
            refine Kn_ 40 ?_
            refine Kp_ 5 41 (Bz 69 63) (any_of HT_.out (by kernel_rfl)) ?_
            refine Kp_ 6 42 (Bz 69 127) (any_of HT_.out (by kernel_rfl)) ?_
            refine Kp_ 7 43 (Bz 69 255) (any_of HT_.out (by kernel_rfl)) ?_
            refine Ko_ 8 44 (Bz 69 511) (take_ofW HT_.out HW_.out (by kernel_rfl)) hHeld ?_
            refine Ko_ 9 45 (Bz 69 1023) (take_ofW HT_.out HW_.out (by kernel_rfl)) hHeld ?_
            refine Kp_ 10 46 (Bz 69 2047) (any_of HT_.out (by kernel_rfl)) ?_
            refine Kp_ 11 47 (Bz 69 4095) (any_of HT_.out (by kernel_rfl)) ?_
            refine Kp_ 12 48 (Bz 69 8191) (any_of HT_.out (by kernel_rfl)) ?_
            refine Kp_ 13 49 (Bz 69 16383) (any_of HT_.out (by kernel_rfl)) ?_
            refine Ko_ 14 50 (Bz 69 32767) (take_ofW HT_.out HW_.out (by kernel_rfl)) hHeld ?_
            refine Ko_ 15 51 (Bz 69 65535) (take_ofW HT_.out HW_.out (by kernel_rfl)) hHeld ?_
            refine one_ (i := 16) (N := some 52) (Bz 69 131071) rfl rfl (one_of HT_.out (by kernel_rfl)) (by decide) (fun K hK => ?_)
            refine goes_ Tryd.func22 (by kernel_rfl) rfl #[.agg #[.int .u64 t885, .int .u64 t886, .int .u64 t887, .int .u64 t888], .agg #[.int .u64 t890, .int .u64 t891, .int .u64 t892, .int .u64 t893]] (by rfl) rfl rfl (by (try simp only [List.map_toArray, List.map_cons, List.map_nil]); first | done | rfl | (simp only [List.length_drop, List.length_take]; rfl)) ?_
            with_reducible refine (vec_Leq.calls t885 t886 t887 t888 t890 t891 t892 t893 false _ A99.out).mono ?_
            rintro e w141 ⟨rfl, hb⟩
            refine ⟨_, rfl, ?_⟩
            replace BK881 := Kb_ BK881 hb
            replace BK882 := Kb_ BK882 hb
            replace BK883 := Kb_ BK883 hb
            replace BK889 := Kb_ BK889 hb
            replace BK894 := Kb_ BK894 hb
            replace BK899 := Kb_ BK899 hb
            replace HB := Ks_ HB hb
            (try clear hb)
            (try clear hb2)
            (try clear hk)
            (try clear hi)
            refine hK.out _ _ ⟨Km_ BK889 0, Km_ BK889 1, Km_ BK889 2, Km_ BK889 3, Km_ BK894 0, Km_ BK894 1, Km_ BK894 2, Km_ BK894 3⟩ (fun hHeld => ?_)
            clear hK K
            refine Kn_ 52 ?_
            refine Kp_ 17 53 (Bz 69 262143) (any_of HT_.out (by kernel_rfl)) ?_
            refine Kp_ 18 54 (Bz 69 524287) (any_of HT_.out (by kernel_rfl)) ?_
            refine pure_ (i := 19) (N := some 55) (v := undef) (a' := ?_) #[true, true, true, true, true, true, true, true, true, true, true, true, true, true, true, true, true, true, true, true, false, false, false, false, false, false, false, false, false, false, false, false, false, false, false, false, false, false, false, false, false, false, false, false, false, false, false, false, false, false, false, false, false, false, false, false, false, false, false, false, false, false, false, false, false, false, false, false, false] rfl rfl (any_of HT_.out (by kernel_rfl)) (fun _ _ _ h => h) (Or.inr ⟨by rfl, rfl⟩) ?_ ?_
            rotate_left
            · simp only [Act.put, List.setIfInBounds_toArray, List.set_cons_zero, List.set_cons_succ, i64_w, i32_w]
              rfl
            refine pure_ (i := 20) (N := some 56) (v := undef) (a' := ?_) #[true, true, true, true, true, true, true, true, true, true, true, true, true, true, true, true, true, true, true, true, true, false, false, false, false, false, false, false, false, false, false, false, false, false, false, false, false, false, false, false, false, false, false, false, false, false, false, false, false, false, false, false, false, false, false, false, false, false, false, false, false, false, false, false, false, false, false, false, false] rfl rfl (any_of HT_.out (by kernel_rfl)) (fun _ _ _ h => h) (Or.inr ⟨by rfl, rfl⟩) ?_ ?_
            rotate_left
            · simp only [Act.put, List.setIfInBounds_toArray, List.set_cons_zero, List.set_cons_succ, i64_w, i32_w]
              rfl
            refine pure_ (i := 21) (N := some 57) (v := undef) (a' := ?_) #[true, true, true, true, true, true, true, true, true, true, true, true, true, true, true, true, true, true, true, true, true, true, false, false, false, false, false, false, false, false, false, false, false, false, false, false, false, false, false, false, false, false, false, false, false, false, false, false, false, false, false, false, false, false, false, false, false, false, false, false, false, false, false, false, false, false, false, false, false] rfl rfl (any_of HT_.out (by kernel_rfl)) (fun _ _ _ h => h) (Or.inr ⟨by rfl, rfl⟩) ?_ ?_
            rotate_left
            · simp only [Act.put, List.setIfInBounds_toArray, List.set_cons_zero, List.set_cons_succ, i64_w, i32_w]
              rfl
            refine pure_ (i := 22) (N := some 58) (v := undef) (a' := ?_) #[true, true, true, true, true, true, true, true, true, true, true, true, true, true, true, true, true, true, true, true, true, true, true, false, false, false, false, false, false, false, false, false, false, false, false, false, false, false, false, false, false, false, false, false, false, false, false, false, false, false, false, false, false, false, false, false, false, false, false, false, false, false, false, false, false, false, false, false, false] rfl rfl (any_of HT_.out (by kernel_rfl)) (fun _ _ _ h => h) (Or.inr ⟨by rfl, rfl⟩) ?_ ?_
            rotate_left
            · simp only [Act.put, List.setIfInBounds_toArray, List.set_cons_zero, List.set_cons_succ, i64_w, i32_w]
              rfl
            refine Kp_ 23 59 (Bz 69 16777215) (any_of HT_.out (by kernel_rfl)) ?_
            refine Kp_ 24 60 (Bz 69 33554431) (any_of HT_.out (by kernel_rfl)) ?_
            refine pure_ (i := 25) (N := some 61) (v := undef) (a' := ?_) #[true, true, true, true, true, true, true, true, true, true, true, true, true, true, true, true, true, true, true, true, true, true, true, true, true, true, false, false, false, false, false, false, false, false, false, false, false, false, false, false, false, false, false, false, false, false, false, false, false, false, false, false, false, false, false, false, false, false, false, false, false, false, false, false, false, false, false, false, false] rfl rfl (any_of HT_.out (by kernel_rfl)) (fun _ _ _ h => h) (Or.inr ⟨by rfl, rfl⟩) ?_ ?_
            rotate_left
            · simp only [Act.put, List.setIfInBounds_toArray, List.set_cons_zero, List.set_cons_succ, i64_w, i32_w]
              rfl
            refine pure_ (i := 26) (N := some 62) (v := undef) (a' := ?_) #[true, true, true, true, true, true, true, true, true, true, true, true, true, true, true, true, true, true, true, true, true, true, true, true, true, true, true, false, false, false, false, false, false, false, false, false, false, false, false, false, false, false, false, false, false, false, false, false, false, false, false, false, false, false, false, false, false, false, false, false, false, false, false, false, false, false, false, false, false] rfl rfl (any_of HT_.out (by kernel_rfl)) (fun _ _ _ h => h) (Or.inr ⟨by rfl, rfl⟩) ?_ ?_
            rotate_left
            · simp only [Act.put, List.setIfInBounds_toArray, List.set_cons_zero, List.set_cons_succ, i64_w, i32_w]
              rfl
            refine pure_ (i := 27) (N := some 63) (v := undef) (a' := ?_) #[true, true, true, true, true, true, true, true, true, true, true, true, true, true, true, true, true, true, true, true, true, true, true, true, true, true, true, true, false, false, false, false, false, false, false, false, false, false, false, false, false, false, false, false, false, false, false, false, false, false, false, false, false, false, false, false, false, false, false, false, false, false, false, false, false, false, false, false, false] rfl rfl (any_of HT_.out (by kernel_rfl)) (fun _ _ _ h => h) (Or.inr ⟨by rfl, rfl⟩) ?_ ?_
            rotate_left
            · simp only [Act.put, List.setIfInBounds_toArray, List.set_cons_zero, List.set_cons_succ, i64_w, i32_w]
              rfl
            refine Kp_ 28 64 (Bz 69 536870911) (any_of HT_.out (by kernel_rfl)) ?_
            refine Kp_ 29 65 (Bz 69 1073741823) (any_of HT_.out (by kernel_rfl)) ?_
            refine Kp_ 30 66 (Bz 69 2147483647) (any_of HT_.out (by kernel_rfl)) ?_
            refine Kp_ 31 67 (Bz 69 4294967295) (any_of HT_.out (by kernel_rfl)) ?_
            refine Kp_ 32 68 (Bz 69 8589934591) (any_of HT_.out (by kernel_rfl)) ?_
            refine Kp_ 33 69 (Bz 69 17179869183) (any_of HT_.out (by kernel_rfl)) ?_
            refine pure_ (i := 34) (N := some 70) (v := undef) (a' := ?_) #[true, true, true, true, true, true, true, true, true, true, true, true, true, true, true, true, true, true, true, true, true, true, true, true, true, true, true, true, true, true, true, true, true, true, true, false, false, false, false, false, false, false, false, false, false, false, false, false, false, false, false, false, false, false, false, false, false, false, false, false, false, false, false, false, false, false, false, false, false] rfl rfl (any_of HT_.out (by kernel_rfl)) (fun _ _ _ h => h) (Or.inr ⟨by rfl, rfl⟩) ?_ ?_
            rotate_left
            · simp only [Act.put, List.setIfInBounds_toArray, List.set_cons_zero, List.set_cons_succ, i64_w, i32_w]
              rfl
            refine pure_ (i := 35) (N := some 71) (v := undef) (a' := ?_) #[true, true, true, true, true, true, true, true, true, true, true, true, true, true, true, true, true, true, true, true, true, true, true, true, true, true, true, true, true, true, true, true, true, true, true, true, false, false, false, false, false, false, false, false, false, false, false, false, false, false, false, false, false, false, false, false, false, false, false, false, false, false, false, false, false, false, false, false, false] rfl rfl (any_of HT_.out (by kernel_rfl)) (fun _ _ _ h => h) (Or.inr ⟨by rfl, rfl⟩) ?_ ?_
            rotate_left
            · simp only [Act.put, List.setIfInBounds_toArray, List.set_cons_zero, List.set_cons_succ, i64_w, i32_w]
              rfl
            refine pure_ (i := 36) (N := some 72) (v := undef) (a' := ?_) #[true, true, true, true, true, true, true, true, true, true, true, true, true, true, true, true, true, true, true, true, true, true, true, true, true, true, true, true, true, true, true, true, true, true, true, true, true, false, false, false, false, false, false, false, false, false, false, false, false, false, false, false, false, false, false, false, false, false, false, false, false, false, false, false, false, false, false, false, false] rfl rfl (any_of HT_.out (by kernel_rfl)) (fun _ _ _ h => h) (Or.inr ⟨by rfl, rfl⟩) ?_ ?_
            rotate_left
            · simp only [Act.put, List.setIfInBounds_toArray, List.set_cons_zero, List.set_cons_succ, i64_w, i32_w]
              rfl
            refine Kp_ 37 73 (Bz 69 274877906943) (any_of HT_.out (by kernel_rfl)) ?_
            refine Kp_ 38 74 (Bz 69 549755813887) (any_of HT_.out (by kernel_rfl)) ?_
            refine pure_ (i := 39) (N := some 75) (v := undef) (a' := ?_) #[true, true, true, true, true, true, true, true, true, true, true, true, true, true, true, true, true, true, true, true, true, true, true, true, true, true, true, true, true, true, true, true, true, true, true, true, true, true, true, true, false, false, false, false, false, false, false, false, false, false, false, false, false, false, false, false, false, false, false, false, false, false, false, false, false, false, false, false, false] rfl rfl (any_of HT_.out (by kernel_rfl)) (fun _ _ _ h => h) (Or.inr ⟨by rfl, rfl⟩) ?_ ?_
            rotate_left
            · simp only [Act.put, List.setIfInBounds_toArray, List.set_cons_zero, List.set_cons_succ, i64_w, i32_w]
              rfl
            refine pure_ (i := 40) (N := some 76) (v := undef) (a' := ?_) #[true, true, true, true, true, true, true, true, true, true, true, true, true, true, true, true, true, true, true, true, true, true, true, true, true, true, true, true, true, true, true, true, true, true, true, true, true, true, true, true, true, false, false, false, false, false, false, false, false, false, false, false, false, false, false, false, false, false, false, false, false, false, false, false, false, false, false, false, false] rfl rfl (any_of HT_.out (by kernel_rfl)) (fun _ _ _ h => h) (Or.inr ⟨by rfl, rfl⟩) ?_ ?_
            rotate_left
            · simp only [Act.put, List.setIfInBounds_toArray, List.set_cons_zero, List.set_cons_succ, i64_w, i32_w]
              rfl
            refine pure_ (i := 41) (N := some 77) (v := undef) (a' := ?_) #[true, true, true, true, true, true, true, true, true, true, true, true, true, true, true, true, true, true, true, true, true, true, true, true, true, true, true, true, true, true, true, true, true, true, true, true, true, true, true, true, true, true, false, false, false, false, false, false, false, false, false, false, false, false, false, false, false, false, false, false, false, false, false, false, false, false, false, false, false] rfl rfl (any_of HT_.out (by kernel_rfl)) (fun _ _ _ h => h) (Or.inr ⟨by rfl, rfl⟩) ?_ ?_
            rotate_left
            · simp only [Act.put, List.setIfInBounds_toArray, List.set_cons_zero, List.set_cons_succ, i64_w, i32_w]
              rfl
            refine pure_ (i := 42) (N := some 78) (v := undef) (a' := ?_) #[true, true, true, true, true, true, true, true, true, true, true, true, true, true, true, true, true, true, true, true, true, true, true, true, true, true, true, true, true, true, true, true, true, true, true, true, true, true, true, true, true, true, true, false, false, false, false, false, false, false, false, false, false, false, false, false, false, false, false, false, false, false, false, false, false, false, false, false, false] rfl rfl (any_of HT_.out (by kernel_rfl)) (fun _ _ _ h => h) (Or.inr ⟨by rfl, rfl⟩) ?_ ?_
            rotate_left
            · simp only [Act.put, List.setIfInBounds_toArray, List.set_cons_zero, List.set_cons_succ, i64_w, i32_w]
              rfl
            refine Kp_ 43 79 (Bz 69 17592186044415) (any_of HT_.out (by kernel_rfl)) ?_
            refine Kp_ 44 80 (Bz 69 35184372088831) (any_of HT_.out (by kernel_rfl)) ?_
            refine pure_ (i := 45) (N := some 81) (v := undef) (a' := ?_) #[true, true, true, true, true, true, true, true, true, true, true, true, true, true, true, true, true, true, true, true, true, true, true, true, true, true, true, true, true, true, true, true, true, true, true, true, true, true, true, true, true, true, true, true, true, true, false, false, false, false, false, false, false, false, false, false, false, false, false, false, false, false, false, false, false, false, false, false, false] rfl rfl (any_of HT_.out (by kernel_rfl)) (fun _ _ _ h => h) (Or.inr ⟨by rfl, rfl⟩) ?_ ?_
            rotate_left
            · simp only [Act.put, List.setIfInBounds_toArray, List.set_cons_zero, List.set_cons_succ, i64_w, i32_w]
              rfl
            refine pure_ (i := 46) (N := some 82) (v := undef) (a' := ?_) #[true, true, true, true, true, true, true, true, true, true, true, true, true, true, true, true, true, true, true, true, true, true, true, true, true, true, true, true, true, true, true, true, true, true, true, true, true, true, true, true, true, true, true, true, true, true, true, false, false, false, false, false, false, false, false, false, false, false, false, false, false, false, false, false, false, false, false, false, false] rfl rfl (any_of HT_.out (by kernel_rfl)) (fun _ _ _ h => h) (Or.inr ⟨by rfl, rfl⟩) ?_ ?_
            rotate_left
            · simp only [Act.put, List.setIfInBounds_toArray, List.set_cons_zero, List.set_cons_succ, i64_w, i32_w]
              rfl
            refine pure_ (i := 47) (N := some 83) (v := undef) (a' := ?_) #[true, true, true, true, true, true, true, true, true, true, true, true, true, true, true, true, true, true, true, true, true, true, true, true, true, true, true, true, true, true, true, true, true, true, true, true, true, true, true, true, true, true, true, true, true, true, true, true, false, false, false, false, false, false, false, false, false, false, false, false, false, false, false, false, false, false, false, false, false] rfl rfl (any_of HT_.out (by kernel_rfl)) (fun _ _ _ h => h) (Or.inr ⟨by rfl, rfl⟩) ?_ ?_
            rotate_left
            · simp only [Act.put, List.setIfInBounds_toArray, List.set_cons_zero, List.set_cons_succ, i64_w, i32_w]
              rfl
            refine pure_ (i := 48) (N := some 84) (v := undef) (a' := ?_) #[true, true, true, true, true, true, true, true, true, true, true, true, true, true, true, true, true, true, true, true, true, true, true, true, true, true, true, true, true, true, true, true, true, true, true, true, true, true, true, true, true, true, true, true, true, true, true, true, true, false, false, false, false, false, false, false, false, false, false, false, false, false, false, false, false, false, false, false, false] rfl rfl (any_of HT_.out (by kernel_rfl)) (fun _ _ _ h => h) (Or.inr ⟨by rfl, rfl⟩) ?_ ?_
            rotate_left
            · simp only [Act.put, List.setIfInBounds_toArray, List.set_cons_zero, List.set_cons_succ, i64_w, i32_w]
              rfl
            refine pure_ (i := 49) (N := some 85) (v := undef) (a' := ?_) #[true, true, true, true, true, true, true, true, true, true, true, true, true, true, true, true, true, true, true, true, true, true, true, true, true, true, true, true, true, true, true, true, true, true, true, true, true, true, true, true, true, true, true, true, true, true, true, true, true, true, false, false, false, false, false, false, false, false, false, false, false, false, false, false, false, false, false, false, false] rfl rfl (any_of HT_.out (by kernel_rfl)) (fun _ _ _ h => h) (Or.inr ⟨by rfl, rfl⟩) ?_ ?_
            rotate_left
            · simp only [Act.put, List.setIfInBounds_toArray, List.set_cons_zero, List.set_cons_succ, i64_w, i32_w]
              rfl
            refine Kp_ 50 86 (Bz 69 2251799813685247) (any_of HT_.out (by kernel_rfl)) ?_
            refine Kp_ 51 87 (Bz 69 4503599627370495) (any_of HT_.out (by kernel_rfl)) ?_
            refine Kp_ 52 88 (Bz 69 9007199254740991) (any_of HT_.out (by kernel_rfl)) ?_
            refine Ko_ 53 89 (Bz 69 18014398509481983) (take_ofW HT_.out HW_.out (by kernel_rfl)) hHeld ?_
            refine Ko_ 54 90 (Bz 69 36028797018963967) (take_ofW HT_.out HW_.out (by kernel_rfl)) hHeld ?_
            refine Ko_ 56 92 (Bz 69 108086391056891903) (take_ofW HT_.out HW_.out (by kernel_rfl)) hHeld ?_
            refine Ko_ 57 93 (Bz 69 252201579132747775) (take_ofW HT_.out HW_.out (by kernel_rfl)) hHeld ?_
            refine Ko_ 59 95 (Bz 69 828662331436171263) (take_ofW HT_.out HW_.out (by kernel_rfl)) hHeld ?_
            refine one_ (i := 55) (N := some 91) (Bz 69 864691128455135231) rfl rfl (one_of HT_.out (by kernel_rfl)) (by decide) (fun K hK => ?_)
            refine goes_ Tryd.func22 (by kernel_rfl) rfl #[.agg #[.int .u64 t885, .int .u64 t886, .int .u64 t887, .int .u64 t888], .agg #[.int .u64 t890, .int .u64 t891, .int .u64 t892, .int .u64 t893]] (by rfl) rfl rfl (by (try simp only [List.map_toArray, List.map_cons, List.map_nil]); first | done | rfl | (simp only [List.length_drop, List.length_take]; rfl)) ?_
            with_reducible refine (vec_Leq.calls t885 t886 t887 t888 t890 t891 t892 t893 false _ A133.out).mono ?_
            rintro e w142 ⟨rfl, hb⟩
            refine ⟨_, rfl, ?_⟩
            replace BK881 := Kb_ BK881 hb
            replace BK882 := Kb_ BK882 hb
            replace BK883 := Kb_ BK883 hb
            replace BK889 := Kb_ BK889 hb
            replace BK894 := Kb_ BK894 hb
            replace BK899 := Kb_ BK899 hb
            replace HB := Ks_ HB hb
            (try clear hb)
            (try clear hb2)
            (try clear hk)
            (try clear hi)
            refine hK.out _ _ ⟨Km_ BK889 0, Km_ BK889 1, Km_ BK889 2, Km_ BK889 3, Km_ BK894 0, Km_ BK894 1, Km_ BK894 2, Km_ BK894 3⟩ (fun hHeld => ?_)
            clear hK K
            refine Kn_ 91 ?_
            refine one_ (i := 58) (N := some 94) (Bz 69 1152921504606846975) rfl rfl (one_of HT_.out (by kernel_rfl)) (by decide) (fun K hK => ?_)
            refine goes_ Tryd.func12 (by kernel_rfl) rfl #[.agg #[.int .u64 t885, .int .u64 t886, .int .u64 t887, .int .u64 t888], .agg #[.int .u64 t890, .int .u64 t891, .int .u64 t892, .int .u64 t893]] (by rfl) rfl rfl (by (try simp only [List.map_toArray, List.map_cons, List.map_nil]); first | done | rfl | (simp only [List.length_drop, List.length_take]; rfl)) ?_
            with_reducible refine (vec_Join.calls t885 t886 t887 t888 t890 t891 t892 t893 t1019 t1020 t1021 t1022 _ A134.out).mono ?_
            rintro e w143 ⟨rfl, hb⟩
            refine ⟨_, rfl, ?_⟩
            replace BK881 := Kb_ BK881 hb
            replace BK882 := Kb_ BK882 hb
            replace BK883 := Kb_ BK883 hb
            replace BK889 := Kb_ BK889 hb
            replace BK894 := Kb_ BK894 hb
            replace BK899 := Kb_ BK899 hb
            replace HB := Ks_ HB hb
            (try clear hb)
            (try clear hb2)
            (try clear hk)
            (try clear hi)
            refine hK.out _ _ ⟨Km_ BK889 0, Km_ BK889 1, Km_ BK889 2, Km_ BK889 3, Km_ BK894 0, Km_ BK894 1, Km_ BK894 2, Km_ BK894 3⟩ (fun hHeld => ?_)
            clear hK K
            refine Kn_ 94 ?_
            refine Kp_ 60 96 (Bz 69 2305843009213693951) (any_of HT_.out (by kernel_rfl)) ?_
            refine Kp_ 61 97 (Bz 69 4611686018427387903) (any_of HT_.out (by kernel_rfl)) ?_
            refine Kp_ 62 98 (Bz 69 9223372036854775807) (any_of HT_.out (by kernel_rfl)) ?_
            refine Kp_ 63 99 (Bz 69 18446744073709551615) (any_of HT_.out (by kernel_rfl)) ?_
            refine Kp_ 64 100 (Bz 69 36893488147419103231) (any_of HT_.out (by kernel_rfl)) ?_
            refine Ko_ 65 101 (Bz 69 73786976294838206463) (take_ofW HT_.out HW_.out (by kernel_rfl)) hHeld ?_
            refine one_ (i := 66) (N := some 102) (Bz 69 147573952589676412927) rfl rfl (one_of HT_.out (by kernel_rfl)) (by decide) (fun K hK => ?_)
            refine goes_ Tryd.func22 (by kernel_rfl) rfl #[.agg #[.int .u64 0, .int .u64 0, .int .u64 0, .int .u64 0], .agg #[.int .u64 t885, .int .u64 t886, .int .u64 t887, .int .u64 t888]] (by rfl) rfl rfl (by (try simp only [List.map_toArray, List.map_cons, List.map_nil]); first | done | rfl | (simp only [List.length_drop, List.length_take]; rfl)) ?_
            with_reducible refine (vec_Leq.calls 0 0 0 0 t885 t886 t887 t888 true _ A137.out).mono ?_
            rintro e w144 ⟨rfl, hb⟩
            refine ⟨_, rfl, ?_⟩
            replace BK881 := Kb_ BK881 hb
            replace BK882 := Kb_ BK882 hb
            replace BK883 := Kb_ BK883 hb
            replace BK889 := Kb_ BK889 hb
            replace BK894 := Kb_ BK894 hb
            replace BK899 := Kb_ BK899 hb
            replace HB := Ks_ HB hb
            (try clear hb)
            (try clear hb2)
            (try clear hk)
            (try clear hi)
            refine hK.out _ _ ⟨Km_ BK889 0, Km_ BK889 1, Km_ BK889 2, Km_ BK889 3, Km_ BK894 0, Km_ BK894 1, Km_ BK894 2, Km_ BK894 3⟩ (fun hHeld => ?_)
            clear hK K
            refine Kn_ 102 ?_
            refine Kp_ 67 103 (Bz 69 295147905179352825855) (any_of HT_.out (by kernel_rfl)) ?_
            refine Kp_ 68 6 (Bz 69 590295810358705651711) (any_of HT_.out (by kernel_rfl)) ?_
            refine done_ (done_of HT_.out (by kernel_rfl)) ?_
            try go_wp2
            go_ret
            exact ⟨Kh_, by repeat (first | (with_reducible first | exact HB.out | apply below_alloc | apply pw_below_drewN | apply below_drew1 | refine below_set ?_ GE881.out | refine below_set ?_ GE882.out | refine below_set ?_ GE883.out | refine below_set ?_ GE889.out | refine below_set ?_ GE894.out | refine below_set ?_ GE899.out) | exact HB.out)⟩
          subst c117
          have H1 : ((vec_Leq.f t885 t886 t887 t888 t890 t891 t892 t893).bind fun t1001 => (if t1001 = true then (none) else ((vec_Leq.f t885 t886 t887 t888 t890 t891 t892 t893).bind fun t1011 => ((vec_Join.f t885 t886 t887 t888 t890 t891 t892 t893).bind fun bt1012 => (if t1011 = true then (none) else (if (bt1012.1 == t890 && (bt1012.2.1 == t891 && (bt1012.2.2.1 == t892 && (bt1012.2.2.2 == t893)))) = true then (none) else ((vec_Leq.f 0 0 0 0 t885 t886 t887 t888).bind fun t1017 => (if t1017 = true then (some true) else (none))))))))) = some r := by rw [if_pos rfl] at H; exact H
          clear H
          have H := H1
          clear H1
          replace H := Option.bind_eq_some_iff.mp H
          obtain ⟨t1001, A1180, H⟩ := H
          replace H : (if t1001 = true then (none) else ((vec_Leq.f t885 t886 t887 t888 t890 t891 t892 t893).bind fun t1011 => ((vec_Join.f t885 t886 t887 t888 t890 t891 t892 t893).bind fun bt1012 => (if t1011 = true then (none) else (if (bt1012.1 == t890 && (bt1012.2.1 == t891 && (bt1012.2.2.1 == t892 && (bt1012.2.2.2 == t893)))) = true then (none) else ((vec_Leq.f 0 0 0 0 t885 t886 t887 t888).bind fun t1017 => (if t1017 = true then (some true) else (none)))))))) = some r := H
          have A118 := Aside0.mk A1180
          clear A1180
          by_cases c119 : t1001 = true
          · subst c119
            have H1 : (none) = some r := by rw [if_pos rfl] at H; exact H
            clear H
            have H := H1
            clear H1
            exact absurd H (by simp)
          replace c119 := Bool.eq_false_iff.mpr c119
          subst c119
          have H1 : ((vec_Leq.f t885 t886 t887 t888 t890 t891 t892 t893).bind fun t1011 => ((vec_Join.f t885 t886 t887 t888 t890 t891 t892 t893).bind fun bt1012 => (if t1011 = true then (none) else (if (bt1012.1 == t890 && (bt1012.2.1 == t891 && (bt1012.2.2.1 == t892 && (bt1012.2.2.2 == t893)))) = true then (none) else ((vec_Leq.f 0 0 0 0 t885 t886 t887 t888).bind fun t1017 => (if t1017 = true then (some true) else (none))))))) = some r := by rw [if_neg (show ¬ (false = true) by decide)] at H; exact H
          clear H
          have H := H1
          clear H1
          replace H := Option.bind_eq_some_iff.mp H
          obtain ⟨t1011, A1200, H⟩ := H
          replace H : ((vec_Join.f t885 t886 t887 t888 t890 t891 t892 t893).bind fun bt1012 => (if t1011 = true then (none) else (if (bt1012.1 == t890 && (bt1012.2.1 == t891 && (bt1012.2.2.1 == t892 && (bt1012.2.2.2 == t893)))) = true then (none) else ((vec_Leq.f 0 0 0 0 t885 t886 t887 t888).bind fun t1017 => (if t1017 = true then (some true) else (none)))))) = some r := H
          have A120 := Aside0.mk A1200
          clear A1200
          replace H := Option.bind_eq_some_iff.mp H
          obtain ⟨⟨t1012, t1013, t1014, t1015⟩, A1210, H⟩ := H
          replace H : (if t1011 = true then (none) else (if (t1012 == t890 && (t1013 == t891 && (t1014 == t892 && (t1015 == t893)))) = true then (none) else ((vec_Leq.f 0 0 0 0 t885 t886 t887 t888).bind fun t1017 => (if t1017 = true then (some true) else (none))))) = some r := H
          have A121 := Aside0.mk A1210
          clear A1210
          by_cases c122 : t1011 = true
          · subst c122
            have H1 : (none) = some r := by rw [if_pos rfl] at H; exact H
            clear H
            have H := H1
            clear H1
            exact absurd H (by simp)
          replace c122 := Bool.eq_false_iff.mpr c122
          subst c122
          have H1 : (if (t1012 == t890 && (t1013 == t891 && (t1014 == t892 && (t1015 == t893)))) = true then (none) else ((vec_Leq.f 0 0 0 0 t885 t886 t887 t888).bind fun t1017 => (if t1017 = true then (some true) else (none)))) = some r := by rw [if_neg (show ¬ (false = true) by decide)] at H; exact H
          clear H
          have H := H1
          clear H1
          by_cases c123 : (t1012 == t890 && (t1013 == t891 && (t1014 == t892 && (t1015 == t893)))) = true
          · rw [if_pos c123] at H
            exact absurd H (by simp)
          rw [if_neg c123] at H
          have c123b0 : (t1012 == t890 && (t1013 == t891 && (t1014 == t892 && (t1015 == t893)))) = false := by simpa using c123
          (try (have c123b1 : decide (t1012 = t890 && (t1013 == t891 && (t1014 == t892 && (t1015 == t893)))) = false := by simpa using c123))
          (try (have c123b2 : (t1012 == t890 && (t1013 == t891 && (t1014 == t892 && (t1015 == t893)))) = false := by simpa using c123))
          (try (have c123b3 : ¬ (t1012 = t890 && (t1013 == t891 && (t1014 == t892 && (t1015 == t893)))) := by simpa using c123))
          clear c123
          replace H := Option.bind_eq_some_iff.mp H
          obtain ⟨t1017, A1240, H⟩ := H
          replace H : (if t1017 = true then (some true) else (none)) = some r := H
          have A124 := Aside0.mk A1240
          clear A1240
          by_cases c125 : t1017 = true
          rotate_left
          · replace c125 := Bool.eq_false_iff.mpr c125
            subst c125
            have H1 : (none) = some r := by rw [if_neg (show ¬ (false = true) by decide)] at H; exact H
            clear H
            have H := H1
            clear H1
            exact absurd H (by simp)
          subst c125
          have H1 : (some true) = some r := by rw [if_pos rfl] at H; exact H
          clear H
          have H := H1
          clear H1
          obtain rfl := Option.some.inj H
          try go_wp2
          replace BK881 := Kd_ BK881
          replace BK882 := Kd_ BK882
          replace BK883 := Kd_ BK883
          replace BK889 := Kd_ BK889
          replace BK894 := Kd_ BK894
          replace BK899 := Kd_ BK899
          replace HB := Aside0.mk (below_drew1 HB.out)
          refine start_ (n := 69) (S := fun w' => w'.cell? ⟨gb889, 0, none⟩ = some (.int .u64 t885) ∧ w'.cell? ⟨gb889, 1, none⟩ = some (.int .u64 t886) ∧ w'.cell? ⟨gb889, 2, none⟩ = some (.int .u64 t887) ∧ w'.cell? ⟨gb889, 3, none⟩ = some (.int .u64 t888) ∧ w'.cell? ⟨gb894, 0, none⟩ = some (.int .u64 t890) ∧ w'.cell? ⟨gb894, 1, none⟩ = some (.int .u64 t891) ∧ w'.cell? ⟨gb894, 2, none⟩ = some (.int .u64 t892) ∧ w'.cell? ⟨gb894, 3, none⟩ = some (.int .u64 t893)) (ds := []) #[false, false, false, false, false, false, false, false, false, false, false, false, false, false, false, false, false, false, false, false, false, false, false, false, false, false, false, false, false, false, false, false, false, false, false, false, false, false, false, false, false, false, false, false, false, false, false, false, false, false, false, false, false, false, false, false, false, false, false, false, false, false, false, false, false, false, false, false, false] (by kernel_rfl) rfl rfl ⟨Km_ BK889 0, Km_ BK889 1, Km_ BK889 2, Km_ BK889 3, Km_ BK894 0, Km_ BK894 1, Km_ BK894 2, Km_ BK894 3⟩ (fun hHeld => ?_); refine with_tabW tenementlaw06_VecOrder_p2.tab9 tenementlaw06_VecOrder_p2.bits9 (fun HT_ HW_ => ?_)
          generalize wc.drew = w126 at BK881 BK882 BK883 BK889 BK894 BK899 HB hHeld ⊢
          refine Kp_ 0 36 (Bz 69 1) (any_of HT_.out (by kernel_rfl)) ?_
          refine Kp_ 1 37 (Bz 69 3) (any_of HT_.out (by kernel_rfl)) ?_
          refine Ko_ 2 38 (Bz 69 7) (take_ofW HT_.out HW_.out (by kernel_rfl)) hHeld ?_
          refine Ko_ 3 39 (Bz 69 15) (take_ofW HT_.out HW_.out (by kernel_rfl)) hHeld ?_
          refine one_ (i := 4) (N := some 40) (Bz 69 31) rfl rfl (one_of HT_.out (by kernel_rfl)) (by decide) (fun K hK => ?_)
          refine goes_ Tryd.func22 (by kernel_rfl) rfl #[.agg #[.int .u64 t885, .int .u64 t886, .int .u64 t887, .int .u64 t888], .agg #[.int .u64 t885, .int .u64 t886, .int .u64 t887, .int .u64 t888]] (by rfl) rfl rfl (by (try simp only [List.map_toArray, List.map_cons, List.map_nil]); first | done | rfl | (simp only [List.length_drop, List.length_take]; rfl)) ?_
          with_reducible refine (vec_Leq.calls t885 t886 t887 t888 t885 t886 t887 t888 true _ A95.out).mono ?_
          rintro e w127 ⟨rfl, hb⟩
          refine ⟨_, rfl, ?_⟩
          replace BK881 := Kb_ BK881 hb
          replace BK882 := Kb_ BK882 hb
          replace BK883 := Kb_ BK883 hb
          replace BK889 := Kb_ BK889 hb
          replace BK894 := Kb_ BK894 hb
          replace BK899 := Kb_ BK899 hb
          replace HB := Ks_ HB hb
          (try clear hb)
          (try clear hb2)
          (try clear hk)
          (try clear hi)
          refine hK.out _ _ ⟨Km_ BK889 0, Km_ BK889 1, Km_ BK889 2, Km_ BK889 3, Km_ BK894 0, Km_ BK894 1, Km_ BK894 2, Km_ BK894 3⟩ (fun hHeld => ?_)
          clear hK K
          refine Kn_ 40 ?_
          refine Kp_ 5 41 (Bz 69 63) (any_of HT_.out (by kernel_rfl)) ?_
          refine Kp_ 6 42 (Bz 69 127) (any_of HT_.out (by kernel_rfl)) ?_
          refine Kp_ 7 43 (Bz 69 255) (any_of HT_.out (by kernel_rfl)) ?_
          refine Ko_ 8 44 (Bz 69 511) (take_ofW HT_.out HW_.out (by kernel_rfl)) hHeld ?_
          refine Ko_ 9 45 (Bz 69 1023) (take_ofW HT_.out HW_.out (by kernel_rfl)) hHeld ?_
          refine Kp_ 10 46 (Bz 69 2047) (any_of HT_.out (by kernel_rfl)) ?_
          refine Kp_ 11 47 (Bz 69 4095) (any_of HT_.out (by kernel_rfl)) ?_
          refine Kp_ 12 48 (Bz 69 8191) (any_of HT_.out (by kernel_rfl)) ?_
          refine Kp_ 13 49 (Bz 69 16383) (any_of HT_.out (by kernel_rfl)) ?_
          refine Ko_ 14 50 (Bz 69 32767) (take_ofW HT_.out HW_.out (by kernel_rfl)) hHeld ?_
          refine Ko_ 15 51 (Bz 69 65535) (take_ofW HT_.out HW_.out (by kernel_rfl)) hHeld ?_
          refine one_ (i := 16) (N := some 52) (Bz 69 131071) rfl rfl (one_of HT_.out (by kernel_rfl)) (by decide) (fun K hK => ?_)
          refine goes_ Tryd.func22 (by kernel_rfl) rfl #[.agg #[.int .u64 t885, .int .u64 t886, .int .u64 t887, .int .u64 t888], .agg #[.int .u64 t890, .int .u64 t891, .int .u64 t892, .int .u64 t893]] (by rfl) rfl rfl (by (try simp only [List.map_toArray, List.map_cons, List.map_nil]); first | done | rfl | (simp only [List.length_drop, List.length_take]; rfl)) ?_
          with_reducible refine (vec_Leq.calls t885 t886 t887 t888 t890 t891 t892 t893 false _ A99.out).mono ?_
          rintro e w128 ⟨rfl, hb⟩
          refine ⟨_, rfl, ?_⟩
          replace BK881 := Kb_ BK881 hb
          replace BK882 := Kb_ BK882 hb
          replace BK883 := Kb_ BK883 hb
          replace BK889 := Kb_ BK889 hb
          replace BK894 := Kb_ BK894 hb
          replace BK899 := Kb_ BK899 hb
          replace HB := Ks_ HB hb
          (try clear hb)
          (try clear hb2)
          (try clear hk)
          (try clear hi)
          refine hK.out _ _ ⟨Km_ BK889 0, Km_ BK889 1, Km_ BK889 2, Km_ BK889 3, Km_ BK894 0, Km_ BK894 1, Km_ BK894 2, Km_ BK894 3⟩ (fun hHeld => ?_)
          clear hK K
          refine Kn_ 52 ?_
          refine Kp_ 17 53 (Bz 69 262143) (any_of HT_.out (by kernel_rfl)) ?_
          refine Kp_ 18 54 (Bz 69 524287) (any_of HT_.out (by kernel_rfl)) ?_
          refine pure_ (i := 19) (N := some 55) (v := undef) (a' := ?_) #[true, true, true, true, true, true, true, true, true, true, true, true, true, true, true, true, true, true, true, true, false, false, false, false, false, false, false, false, false, false, false, false, false, false, false, false, false, false, false, false, false, false, false, false, false, false, false, false, false, false, false, false, false, false, false, false, false, false, false, false, false, false, false, false, false, false, false, false, false] rfl rfl (any_of HT_.out (by kernel_rfl)) (fun _ _ _ h => h) (Or.inr ⟨by rfl, rfl⟩) ?_ ?_
          rotate_left
          · simp only [Act.put, List.setIfInBounds_toArray, List.set_cons_zero, List.set_cons_succ, i64_w, i32_w]
            rfl
          refine pure_ (i := 20) (N := some 56) (v := undef) (a' := ?_) #[true, true, true, true, true, true, true, true, true, true, true, true, true, true, true, true, true, true, true, true, true, false, false, false, false, false, false, false, false, false, false, false, false, false, false, false, false, false, false, false, false, false, false, false, false, false, false, false, false, false, false, false, false, false, false, false, false, false, false, false, false, false, false, false, false, false, false, false, false] rfl rfl (any_of HT_.out (by kernel_rfl)) (fun _ _ _ h => h) (Or.inr ⟨by rfl, rfl⟩) ?_ ?_
          rotate_left
          · simp only [Act.put, List.setIfInBounds_toArray, List.set_cons_zero, List.set_cons_succ, i64_w, i32_w]
            rfl
          refine pure_ (i := 21) (N := some 57) (v := undef) (a' := ?_) #[true, true, true, true, true, true, true, true, true, true, true, true, true, true, true, true, true, true, true, true, true, true, false, false, false, false, false, false, false, false, false, false, false, false, false, false, false, false, false, false, false, false, false, false, false, false, false, false, false, false, false, false, false, false, false, false, false, false, false, false, false, false, false, false, false, false, false, false, false] rfl rfl (any_of HT_.out (by kernel_rfl)) (fun _ _ _ h => h) (Or.inr ⟨by rfl, rfl⟩) ?_ ?_
          rotate_left
          · simp only [Act.put, List.setIfInBounds_toArray, List.set_cons_zero, List.set_cons_succ, i64_w, i32_w]
            rfl
          refine pure_ (i := 22) (N := some 58) (v := undef) (a' := ?_) #[true, true, true, true, true, true, true, true, true, true, true, true, true, true, true, true, true, true, true, true, true, true, true, false, false, false, false, false, false, false, false, false, false, false, false, false, false, false, false, false, false, false, false, false, false, false, false, false, false, false, false, false, false, false, false, false, false, false, false, false, false, false, false, false, false, false, false, false, false] rfl rfl (any_of HT_.out (by kernel_rfl)) (fun _ _ _ h => h) (Or.inr ⟨by rfl, rfl⟩) ?_ ?_
          rotate_left
          · simp only [Act.put, List.setIfInBounds_toArray, List.set_cons_zero, List.set_cons_succ, i64_w, i32_w]
            rfl
          refine Kp_ 23 59 (Bz 69 16777215) (any_of HT_.out (by kernel_rfl)) ?_
          refine Kp_ 24 60 (Bz 69 33554431) (any_of HT_.out (by kernel_rfl)) ?_
          refine pure_ (i := 25) (N := some 61) (v := undef) (a' := ?_) #[true, true, true, true, true, true, true, true, true, true, true, true, true, true, true, true, true, true, true, true, true, true, true, true, true, true, false, false, false, false, false, false, false, false, false, false, false, false, false, false, false, false, false, false, false, false, false, false, false, false, false, false, false, false, false, false, false, false, false, false, false, false, false, false, false, false, false, false, false] rfl rfl (any_of HT_.out (by kernel_rfl)) (fun _ _ _ h => h) (Or.inr ⟨by rfl, rfl⟩) ?_ ?_
          rotate_left
          · simp only [Act.put, List.setIfInBounds_toArray, List.set_cons_zero, List.set_cons_succ, i64_w, i32_w]
            rfl
          refine pure_ (i := 26) (N := some 62) (v := undef) (a' := ?_) #[true, true, true, true, true, true, true, true, true, true, true, true, true, true, true, true, true, true, true, true, true, true, true, true, true, true, true, false, false, false, false, false, false, false, false, false, false, false, false, false, false, false, false, false, false, false, false, false, false, false, false, false, false, false, false, false, false, false, false, false, false, false, false, false, false, false, false, false, false] rfl rfl (any_of HT_.out (by kernel_rfl)) (fun _ _ _ h => h) (Or.inr ⟨by rfl, rfl⟩) ?_ ?_
          rotate_left
          · simp only [Act.put, List.setIfInBounds_toArray, List.set_cons_zero, List.set_cons_succ, i64_w, i32_w]
            rfl
          refine pure_ (i := 27) (N := some 63) (v := undef) (a' := ?_) #[true, true, true, true, true, true, true, true, true, true, true, true, true, true, true, true, true, true, true, true, true, true, true, true, true, true, true, true, false, false, false, false, false, false, false, false, false, false, false, false, false, false, false, false, false, false, false, false, false, false, false, false, false, false, false, false, false, false, false, false, false, false, false, false, false, false, false, false, false] rfl rfl (any_of HT_.out (by kernel_rfl)) (fun _ _ _ h => h) (Or.inr ⟨by rfl, rfl⟩) ?_ ?_
          rotate_left
          · simp only [Act.put, List.setIfInBounds_toArray, List.set_cons_zero, List.set_cons_succ, i64_w, i32_w]
            rfl
          refine Kp_ 28 64 (Bz 69 536870911) (any_of HT_.out (by kernel_rfl)) ?_
          refine Kp_ 29 65 (Bz 69 1073741823) (any_of HT_.out (by kernel_rfl)) ?_
          refine Kp_ 30 66 (Bz 69 2147483647) (any_of HT_.out (by kernel_rfl)) ?_
          refine Kp_ 31 67 (Bz 69 4294967295) (any_of HT_.out (by kernel_rfl)) ?_
          refine Kp_ 32 68 (Bz 69 8589934591) (any_of HT_.out (by kernel_rfl)) ?_
          refine Kp_ 33 69 (Bz 69 17179869183) (any_of HT_.out (by kernel_rfl)) ?_
          refine Ko_ 34 70 (Bz 69 34359738367) (take_ofW HT_.out HW_.out (by kernel_rfl)) hHeld ?_
          refine Ko_ 35 71 (Bz 69 68719476735) (take_ofW HT_.out HW_.out (by kernel_rfl)) hHeld ?_
          refine Kp_ 36 72 (Bz 69 137438953471) (any_of HT_.out (by kernel_rfl)) ?_
          refine Kp_ 37 73 (Bz 69 274877906943) (any_of HT_.out (by kernel_rfl)) ?_
          refine Kp_ 38 74 (Bz 69 549755813887) (any_of HT_.out (by kernel_rfl)) ?_
          refine Ko_ 39 75 (Bz 69 1099511627775) (take_ofW HT_.out HW_.out (by kernel_rfl)) hHeld ?_
          refine Ko_ 40 76 (Bz 69 2199023255551) (take_ofW HT_.out HW_.out (by kernel_rfl)) hHeld ?_
          refine one_ (i := 41) (N := some 77) (Bz 69 4398046511103) rfl rfl (one_of HT_.out (by kernel_rfl)) (by decide) (fun K hK => ?_)
          refine goes_ Tryd.func22 (by kernel_rfl) rfl #[.agg #[.int .u64 t885, .int .u64 t886, .int .u64 t887, .int .u64 t888], .agg #[.int .u64 t890, .int .u64 t891, .int .u64 t892, .int .u64 t893]] (by rfl) rfl rfl (by (try simp only [List.map_toArray, List.map_cons, List.map_nil]); first | done | rfl | (simp only [List.length_drop, List.length_take]; rfl)) ?_
          with_reducible refine (vec_Leq.calls t885 t886 t887 t888 t890 t891 t892 t893 false _ A118.out).mono ?_
          rintro e w129 ⟨rfl, hb⟩
          refine ⟨_, rfl, ?_⟩
          replace BK881 := Kb_ BK881 hb
          replace BK882 := Kb_ BK882 hb
          replace BK883 := Kb_ BK883 hb
          replace BK889 := Kb_ BK889 hb
          replace BK894 := Kb_ BK894 hb
          replace BK899 := Kb_ BK899 hb
          replace HB := Ks_ HB hb
          (try clear hb)
          (try clear hb2)
          (try clear hk)
          (try clear hi)
          refine hK.out _ _ ⟨Km_ BK889 0, Km_ BK889 1, Km_ BK889 2, Km_ BK889 3, Km_ BK894 0, Km_ BK894 1, Km_ BK894 2, Km_ BK894 3⟩ (fun hHeld => ?_)
          clear hK K
          refine Kn_ 77 ?_
          refine Kp_ 42 78 (Bz 69 8796093022207) (any_of HT_.out (by kernel_rfl)) ?_
          refine Kp_ 43 79 (Bz 69 17592186044415) (any_of HT_.out (by kernel_rfl)) ?_
          refine Kp_ 44 80 (Bz 69 35184372088831) (any_of HT_.out (by kernel_rfl)) ?_
          refine pure_ (i := 45) (N := some 81) (v := undef) (a' := ?_) #[true, true, true, true, true, true, true, true, true, true, true, true, true, true, true, true, true, true, true, true, true, true, true, true, true, true, true, true, true, true, true, true, true, true, true, true, true, true, true, true, true, true, true, true, true, true, false, false, false, false, false, false, false, false, false, false, false, false, false, false, false, false, false, false, false, false, false, false, false] rfl rfl (any_of HT_.out (by kernel_rfl)) (fun _ _ _ h => h) (Or.inr ⟨by rfl, rfl⟩) ?_ ?_
          rotate_left
          · simp only [Act.put, List.setIfInBounds_toArray, List.set_cons_zero, List.set_cons_succ, i64_w, i32_w]
            rfl
          refine pure_ (i := 46) (N := some 82) (v := undef) (a' := ?_) #[true, true, true, true, true, true, true, true, true, true, true, true, true, true, true, true, true, true, true, true, true, true, true, true, true, true, true, true, true, true, true, true, true, true, true, true, true, true, true, true, true, true, true, true, true, true, true, false, false, false, false, false, false, false, false, false, false, false, false, false, false, false, false, false, false, false, false, false, false] rfl rfl (any_of HT_.out (by kernel_rfl)) (fun _ _ _ h => h) (Or.inr ⟨by rfl, rfl⟩) ?_ ?_
          rotate_left
          · simp only [Act.put, List.setIfInBounds_toArray, List.set_cons_zero, List.set_cons_succ, i64_w, i32_w]
            rfl
          refine pure_ (i := 47) (N := some 83) (v := undef) (a' := ?_) #[true, true, true, true, true, true, true, true, true, true, true, true, true, true, true, true, true, true, true, true, true, true, true, true, true, true, true, true, true, true, true, true, true, true, true, true, true, true, true, true, true, true, true, true, true, true, true, true, false, false, false, false, false, false, false, false, false, false, false, false, false, false, false, false, false, false, false, false, false] rfl rfl (any_of HT_.out (by kernel_rfl)) (fun _ _ _ h => h) (Or.inr ⟨by rfl, rfl⟩) ?_ ?_
          rotate_left
          · simp only [Act.put, List.setIfInBounds_toArray, List.set_cons_zero, List.set_cons_succ, i64_w, i32_w]
            rfl
          refine pure_ (i := 48) (N := some 84) (v := undef) (a' := ?_) #[true, true, true, true, true, true, true, true, true, true, true, true, true, true, true, true, true, true, true, true, true, true, true, true, true, true, true, true, true, true, true, true, true, true, true, true, true, true, true, true, true, true, true, true, true, true, true, true, true, false, false, false, false, false, false, false, false, false, false, false, false, false, false, false, false, false, false, false, false] rfl rfl (any_of HT_.out (by kernel_rfl)) (fun _ _ _ h => h) (Or.inr ⟨by rfl, rfl⟩) ?_ ?_
          rotate_left
          · simp only [Act.put, List.setIfInBounds_toArray, List.set_cons_zero, List.set_cons_succ, i64_w, i32_w]
            rfl
          refine pure_ (i := 49) (N := some 85) (v := undef) (a' := ?_) #[true, true, true, true, true, true, true, true, true, true, true, true, true, true, true, true, true, true, true, true, true, true, true, true, true, true, true, true, true, true, true, true, true, true, true, true, true, true, true, true, true, true, true, true, true, true, true, true, true, true, false, false, false, false, false, false, false, false, false, false, false, false, false, false, false, false, false, false, false] rfl rfl (any_of HT_.out (by kernel_rfl)) (fun _ _ _ h => h) (Or.inr ⟨by rfl, rfl⟩) ?_ ?_
          rotate_left
          · simp only [Act.put, List.setIfInBounds_toArray, List.set_cons_zero, List.set_cons_succ, i64_w, i32_w]
            rfl
          refine Kp_ 50 86 (Bz 69 2251799813685247) (any_of HT_.out (by kernel_rfl)) ?_
          refine Kp_ 51 87 (Bz 69 4503599627370495) (any_of HT_.out (by kernel_rfl)) ?_
          refine Kp_ 52 88 (Bz 69 9007199254740991) (any_of HT_.out (by kernel_rfl)) ?_
          refine Ko_ 53 89 (Bz 69 18014398509481983) (take_ofW HT_.out HW_.out (by kernel_rfl)) hHeld ?_
          refine Ko_ 54 90 (Bz 69 36028797018963967) (take_ofW HT_.out HW_.out (by kernel_rfl)) hHeld ?_
          refine Ko_ 56 92 (Bz 69 108086391056891903) (take_ofW HT_.out HW_.out (by kernel_rfl)) hHeld ?_
          refine Ko_ 57 93 (Bz 69 252201579132747775) (take_ofW HT_.out HW_.out (by kernel_rfl)) hHeld ?_
          refine Ko_ 59 95 (Bz 69 828662331436171263) (take_ofW HT_.out HW_.out (by kernel_rfl)) hHeld ?_
          refine one_ (i := 55) (N := some 91) (Bz 69 864691128455135231) rfl rfl (one_of HT_.out (by kernel_rfl)) (by decide) (fun K hK => ?_)
          refine goes_ Tryd.func22 (by kernel_rfl) rfl #[.agg #[.int .u64 t885, .int .u64 t886, .int .u64 t887, .int .u64 t888], .agg #[.int .u64 t890, .int .u64 t891, .int .u64 t892, .int .u64 t893]] (by rfl) rfl rfl (by (try simp only [List.map_toArray, List.map_cons, List.map_nil]); first | done | rfl | (simp only [List.length_drop, List.length_take]; rfl)) ?_
          with_reducible refine (vec_Leq.calls t885 t886 t887 t888 t890 t891 t892 t893 false _ A120.out).mono ?_
          rintro e w130 ⟨rfl, hb⟩
          refine ⟨_, rfl, ?_⟩
          replace BK881 := Kb_ BK881 hb
          replace BK882 := Kb_ BK882 hb
          replace BK883 := Kb_ BK883 hb
          replace BK889 := Kb_ BK889 hb
          replace BK894 := Kb_ BK894 hb
          replace BK899 := Kb_ BK899 hb
          replace HB := Ks_ HB hb
          (try clear hb)
          (try clear hb2)
          (try clear hk)
          (try clear hi)
          refine hK.out _ _ ⟨Km_ BK889 0, Km_ BK889 1, Km_ BK889 2, Km_ BK889 3, Km_ BK894 0, Km_ BK894 1, Km_ BK894 2, Km_ BK894 3⟩ (fun hHeld => ?_)
          clear hK K
          refine Kn_ 91 ?_
          refine one_ (i := 58) (N := some 94) (Bz 69 1152921504606846975) rfl rfl (one_of HT_.out (by kernel_rfl)) (by decide) (fun K hK => ?_)
          refine goes_ Tryd.func12 (by kernel_rfl) rfl #[.agg #[.int .u64 t885, .int .u64 t886, .int .u64 t887, .int .u64 t888], .agg #[.int .u64 t890, .int .u64 t891, .int .u64 t892, .int .u64 t893]] (by rfl) rfl rfl (by (try simp only [List.map_toArray, List.map_cons, List.map_nil]); first | done | rfl | (simp only [List.length_drop, List.length_take]; rfl)) ?_
          with_reducible refine (vec_Join.calls t885 t886 t887 t888 t890 t891 t892 t893 t1012 t1013 t1014 t1015 _ A121.out).mono ?_
          rintro e w131 ⟨rfl, hb⟩
          refine ⟨_, rfl, ?_⟩
          replace BK881 := Kb_ BK881 hb
          replace BK882 := Kb_ BK882 hb
          replace BK883 := Kb_ BK883 hb
          replace BK889 := Kb_ BK889 hb
          replace BK894 := Kb_ BK894 hb
          replace BK899 := Kb_ BK899 hb
          replace HB := Ks_ HB hb
          (try clear hb)
          (try clear hb2)
          (try clear hk)
          (try clear hi)
          refine hK.out _ _ ⟨Km_ BK889 0, Km_ BK889 1, Km_ BK889 2, Km_ BK889 3, Km_ BK894 0, Km_ BK894 1, Km_ BK894 2, Km_ BK894 3⟩ (fun hHeld => ?_)
          clear hK K
          refine Kn_ 94 ?_
          refine Kp_ 60 96 (Bz 69 2305843009213693951) (any_of HT_.out (by kernel_rfl)) ?_
          refine Kp_ 61 97 (Bz 69 4611686018427387903) (any_of HT_.out (by kernel_rfl)) ?_
          refine Kp_ 62 98 (Bz 69 9223372036854775807) (any_of HT_.out (by kernel_rfl)) ?_
          refine Kp_ 63 99 (Bz 69 18446744073709551615) (any_of HT_.out (by kernel_rfl)) ?_
          refine Kp_ 64 100 (Bz 69 36893488147419103231) (any_of HT_.out (by kernel_rfl)) ?_
          refine Ko_ 65 101 (Bz 69 73786976294838206463) (take_ofW HT_.out HW_.out (by kernel_rfl)) hHeld ?_
          refine one_ (i := 66) (N := some 102) (Bz 69 147573952589676412927) rfl rfl (one_of HT_.out (by kernel_rfl)) (by decide) (fun K hK => ?_)
          refine goes_ Tryd.func22 (by kernel_rfl) rfl #[.agg #[.int .u64 0, .int .u64 0, .int .u64 0, .int .u64 0], .agg #[.int .u64 t885, .int .u64 t886, .int .u64 t887, .int .u64 t888]] (by rfl) rfl rfl (by (try simp only [List.map_toArray, List.map_cons, List.map_nil]); first | done | rfl | (simp only [List.length_drop, List.length_take]; rfl)) ?_
          with_reducible refine (vec_Leq.calls 0 0 0 0 t885 t886 t887 t888 true _ A124.out).mono ?_
          rintro e w132 ⟨rfl, hb⟩
          refine ⟨_, rfl, ?_⟩
          replace BK881 := Kb_ BK881 hb
          replace BK882 := Kb_ BK882 hb
          replace BK883 := Kb_ BK883 hb
          replace BK889 := Kb_ BK889 hb
          replace BK894 := Kb_ BK894 hb
          replace BK899 := Kb_ BK899 hb
          replace HB := Ks_ HB hb
          (try clear hb)
          (try clear hb2)
          (try clear hk)
          (try clear hi)
          refine hK.out _ _ ⟨Km_ BK889 0, Km_ BK889 1, Km_ BK889 2, Km_ BK889 3, Km_ BK894 0, Km_ BK894 1, Km_ BK894 2, Km_ BK894 3⟩ (fun hHeld => ?_)
          clear hK K
          refine Kn_ 102 ?_
          refine Kp_ 67 103 (Bz 69 295147905179352825855) (any_of HT_.out (by kernel_rfl)) ?_
          refine Kp_ 68 6 (Bz 69 590295810358705651711) (any_of HT_.out (by kernel_rfl)) ?_
          refine done_ (done_of HT_.out (by kernel_rfl)) ?_
          try go_wp2
          go_ret
          exact ⟨Kh_, by repeat (first | (with_reducible first | exact HB.out | apply below_alloc | apply pw_below_drewN | apply below_drew1 | refine below_set ?_ GE881.out | refine below_set ?_ GE882.out | refine below_set ?_ GE883.out | refine below_set ?_ GE889.out | refine below_set ?_ GE894.out | refine below_set ?_ GE899.out) | exact HB.out)⟩
end Go.Proofs.YtakhahfegialfaaDoor.Q
