-- Written by this session's own driver (wip/hybrid.py) of the kit's printer; contracts marked FOREIGN are by hand.
import Derived.Test.YtakhahfegialfaaDoorQx0
import Derived.Test.YtakhahfegialfaaDoorQxe24
import Derived.Test.YtakhahfegialfaaDoorQxf12
import Derived.Test.YtakhahfegialfaaDoorQxf14
import Derived.Test.YtakhahfegialfaaDoorQxf22
import Derived.Test.YtakhahfegialfaaDoorQxf20
import Derived.Test.YtakhahfegialfaaDoorQxf10
import Derived.Test.YtakhahfegialfaaDoorQxf11
namespace Go.Proofs.YtakhahfegialfaaDoor.Q
open Go.RowKit Go.Proofs.YtakhahfegialfaaDoorW.PrintWords Go.Proofs.YtakhahfegialfaaDoorW.PrintLast Go.Proofs.YtakhahfegialfaaDoorW.PrintMore
attribute [local go_sem] max2_int min2_int max_two min_two max_three min_three max_four min_four   -- for this text's walks alone
set_option linter.unusedVariables false
set_option linter.unusedSimpArgs false

attribute [local go_sem] ixA24_0 ixA24_1 ixA24_2 ixA24_3   -- for this text's walks alone
attribute [local go_sem high] eqA24
/-! ### tenementlaw06_VecJoins_p2: function 5 -/
def tenementlaw06_VecJoins_p2.f (k : Nat) (a0_0 : Int) (a0_1 : Int) (a0_2 : Int) (a0_3 : Int) (a0_4 : Bool) (a1_0 : Int) (a1_1 : Int) (a1_2 : Int) (a1_3 : Int) (a1_4 : Bool) (a2_0 : Int) (a2_1 : Int) (a2_2 : Int) (a2_3 : Int) (a2_4 : Bool) : Option (Bool) := (tenementlaw06_examples.f k).bind fun t616 => (if t616 = true then ((tenementlaw06_Vector_vector.f k a0_0 a0_1 a0_2 a0_3 a0_4).bind fun bt617 => ((tenementlaw06_Vector_vector.f k a1_0 a1_1 a1_2 a1_3 a1_4).bind fun bt622 => ((tenementlaw06_Vector_vector.f k a2_0 a2_1 a2_2 a2_3 a2_4).bind fun bt627 => ((vec_Join.f bt617.1 bt617.2.1 bt617.2.2.1 bt617.2.2.2 bt622.1 bt622.2.1 bt622.2.2.1 bt622.2.2.2).bind fun bt632 => ((vec_Meet.f bt617.1 bt617.2.1 bt617.2.2.1 bt617.2.2.2 bt622.1 bt622.2.1 bt622.2.2.1 bt622.2.2.2).bind fun bt637 => ((vec_Join.f bt622.1 bt622.2.1 bt622.2.2.1 bt622.2.2.2 bt617.1 bt617.2.1 bt617.2.2.1 bt617.2.2.2).bind fun bt642 => (if (bt632.1 == bt642.1 && (bt632.2.1 == bt642.2.1 && (bt632.2.2.1 == bt642.2.2.1 && (bt632.2.2.2 == bt642.2.2.2)))) = true then ((vec_Meet.f bt622.1 bt622.2.1 bt622.2.2.1 bt622.2.2.2 bt617.1 bt617.2.1 bt617.2.2.1 bt617.2.2.2).bind fun bt646 => (if (bt637.1 == bt646.1 && (bt637.2.1 == bt646.2.1 && (bt637.2.2.1 == bt646.2.2.1 && (bt637.2.2.2 == bt646.2.2.2)))) = true then ((vec_Join.f bt632.1 bt632.2.1 bt632.2.2.1 bt632.2.2.2 bt627.1 bt627.2.1 bt627.2.2.1 bt627.2.2.2).bind fun bt650 => ((vec_Join.f bt622.1 bt622.2.1 bt622.2.2.1 bt622.2.2.2 bt627.1 bt627.2.1 bt627.2.2.1 bt627.2.2.2).bind fun bt654 => ((vec_Join.f bt617.1 bt617.2.1 bt617.2.2.1 bt617.2.2.2 bt654.1 bt654.2.1 bt654.2.2.1 bt654.2.2.2).bind fun bt658 => (if (bt650.1 == bt658.1 && (bt650.2.1 == bt658.2.1 && (bt650.2.2.1 == bt658.2.2.1 && (bt650.2.2.2 == bt658.2.2.2)))) = true then ((vec_Meet.f bt637.1 bt637.2.1 bt637.2.2.1 bt637.2.2.2 bt627.1 bt627.2.1 bt627.2.2.1 bt627.2.2.2).bind fun bt662 => ((vec_Meet.f bt622.1 bt622.2.1 bt622.2.2.1 bt622.2.2.2 bt627.1 bt627.2.1 bt627.2.2.1 bt627.2.2.2).bind fun bt666 => ((vec_Meet.f bt617.1 bt617.2.1 bt617.2.2.1 bt617.2.2.2 bt666.1 bt666.2.1 bt666.2.2.1 bt666.2.2.2).bind fun bt670 => (if (bt662.1 == bt670.1 && (bt662.2.1 == bt670.2.1 && (bt662.2.2.1 == bt670.2.2.1 && (bt662.2.2.2 == bt670.2.2.2)))) = true then ((vec_Join.f bt632.1 bt632.2.1 bt632.2.2.1 bt632.2.2.2 bt617.1 bt617.2.1 bt617.2.2.1 bt617.2.2.2).bind fun bt674 => (if (bt674.1 == bt632.1 && (bt674.2.1 == bt632.2.1 && (bt674.2.2.1 == bt632.2.2.1 && (bt674.2.2.2 == bt632.2.2.2)))) = true then ((vec_Meet.f bt637.1 bt637.2.1 bt637.2.2.1 bt637.2.2.2 bt617.1 bt617.2.1 bt617.2.2.1 bt617.2.2.2).bind fun bt678 => (if (bt678.1 == bt637.1 && (bt678.2.1 == bt637.2.1 && (bt678.2.2.1 == bt637.2.2.1 && (bt678.2.2.2 == bt637.2.2.2)))) = true then ((vec_Leq.f bt617.1 bt617.2.1 bt617.2.2.1 bt617.2.2.2 bt632.1 bt632.2.1 bt632.2.2.1 bt632.2.2.2).bind fun t682 => (if t682 = true then ((vec_Leq.f bt637.1 bt637.2.1 bt637.2.2.1 bt637.2.2.2 bt622.1 bt622.2.1 bt622.2.2.1 bt622.2.2.2).bind fun t683 => (if t683 = true then ((vec_Join.f bt617.1 bt617.2.1 bt617.2.2.1 bt617.2.2.2 bt637.1 bt637.2.1 bt637.2.2.1 bt637.2.2.2).bind fun bt684 => (if (bt684.1 == bt617.1 && (bt684.2.1 == bt617.2.1 && (bt684.2.2.1 == bt617.2.2.1 && (bt684.2.2.2 == bt617.2.2.2)))) = true then ((vec_Meet.f bt617.1 bt617.2.1 bt617.2.2.1 bt617.2.2.2 bt632.1 bt632.2.1 bt632.2.2.1 bt632.2.2.2).bind fun bt688 => (if (bt688.1 == bt617.1 && (bt688.2.1 == bt617.2.1 && (bt688.2.2.1 == bt617.2.2.1 && (bt688.2.2.2 == bt617.2.2.2)))) = true then ((vec_Right.f bt617.1 bt617.2.1 bt617.2.2.1 bt617.2.2.2).bind fun t692 => (if t692 = true then (none) else (some true))) else (none))) else (none))) else (none))) else (none))) else (none))) else (none))) else (none))))) else (none))))) else (none))) else (none)))))))) else (none))
theorem tenementlaw06_VecJoins_p2.mono : ∀ a0 a1 a2 a3 a4 a5 a6 a7 a8 a9 a10 a11 a12 a13 a14 k, LeO (tenementlaw06_VecJoins_p2.f k a0 a1 a2 a3 a4 a5 a6 a7 a8 a9 a10 a11 a12 a13 a14) (tenementlaw06_VecJoins_p2.f (k + 1) a0 a1 a2 a3 a4 a5 a6 a7 a8 a9 a10 a11 a12 a13 a14) := by
  intro a0 a1 a2 a3 a4 a5 a6 a7 a8 a9 a10 a11 a12 a13 a14 k
  unfold tenementlaw06_VecJoins_p2.f
  repeat' first
      | (with_reducible exact tenementlaw06_Vector_vector.mono _ _ _ _ _ _)
      | (with_reducible exact tenementlaw06_examples.mono _)
      | (with_reducible exact LeO.refl _)
      | (with_reducible exact LeO.none _)
      | (with_reducible refine LeO.ite ?_ ?_)
      | (with_reducible refine LeO.bind ?_ (fun _ => ?_))
      | exact tenementlaw06_Vector_vector.mono _ _ _ _ _ _
      | exact tenementlaw06_examples.mono _
      | exact LeO.none _
      | refine LeO.ite ?_ ?_
      | refine LeO.bind ?_ (fun _ => ?_)
def tenementlaw06_VecJoins_p2.T9 : Bool × List (List Nat × List Nat) := (true, [([], []), ([0], [0]), ([1], [1]), ([1], [1]), ([1], [1]), ([3, 4, 1, 1], [1, 3, 4]), ([2, 5, 1], [1, 2, 5]), ([1, 6], [1, 6]), ([7, 5], [7]), ([8], [8]), ([8], [8]), ([8], [8]), ([10, 11, 8, 8], [8, 10, 11]), ([9, 12, 8], [8, 9, 12]), ([8, 13], [8, 13]), ([14, 12], [14]), ([15], [15]), ([15], [15]), ([16, 17, 15, 15], [15, 16, 17]), ([15], [15]), ([15], [15]), ([15], [15]), ([20, 21, 18, 15], [15, 20, 21]), ([19, 22, 22, 15], [15, 19, 22]), ([18, 23, 15], [15, 18, 23]), ([15, 24], [15, 24]), ([25, 23], [25]), ([26], [26]), ([26], [26]), ([27, 28, 26, 26], [26, 27, 28]), ([26], [26]), ([26], [26]), ([26], [26]), ([31, 32, 29, 26], [26, 31, 32]), ([30, 33, 33, 26], [26, 30, 33]), ([29, 34, 26], [26, 29, 34]), ([26, 35], [26, 35]), ([36, 34], [36]), ([37], [37]), ([37], [37]), ([38, 39, 37, 37], [37, 38, 39]), ([37], [37]), ([40, 41, 37], [37, 40, 41]), ([37, 42], [37, 42]), ([43, 40], [43]), ([44], [44]), ([44], [44]), ([45, 46, 44, 44], [44, 45, 46]), ([44], [44]), ([47, 48, 44], [44, 47, 48]), ([44, 49], [44, 49]), ([50, 47], [50]), ([51], [51]), ([51], [51]), ([52, 53, 51, 51], [51, 52, 53]), ([51, 54], [51, 54]), ([55, 54], [55]), ([56], [56]), ([56], [56]), ([57, 58, 56, 56], [56, 57, 58]), ([56, 59], [56, 59]), ([60, 59], [60]), ([61], [61]), ([61], [61]), ([62, 63, 61, 61], [61, 62, 63]), ([61], [61]), ([64, 65, 61], [61, 64, 65]), ([61, 66], [61, 66]), ([67, 64], [67]), ([68], [68]), ([68], [68]), ([69, 70, 68, 68], [68, 69, 70]), ([68], [68]), ([71, 72, 68], [68, 71, 72]), ([68, 73], [68, 73]), ([74, 71], [74]), ([75], [75]), ([76, 75, 75], [75, 76]), ([77, 75], [75, 77]), ([78, 77, 75], [75, 78]), ([79], [79]), ([80, 79, 79], [79, 80]), ([81, 79], [79, 81]), ([79, 82, 75], [75, 79, 82]), ([83, 81, 75], [75, 83]), ([84], [84]), ([85, 84, 84], [84, 85]), ([84, 86, 75], [75, 84, 86]), ([75, 87], [75, 87]), ([88, 86, 0, 1, 2, 3, 4, 5, 6, 7, 8, 9, 10, 11, 12, 13, 14, 15, 16, 17, 18, 19, 20, 21, 22, 23, 24, 25, 26, 27, 28, 29, 30, 31, 32, 33, 34, 35, 36, 37, 38, 39, 40, 41, 42, 43, 44, 45, 46, 47, 48, 49, 50, 51, 52, 53, 54, 55, 56, 57, 58, 59, 60, 61, 62, 63, 64, 65, 66, 67, 68, 69, 70, 71, 72, 73, 74, 75, 76, 77, 78, 79, 80, 81, 82, 83, 84, 85, 86, 87, 88], [88])])
def tenementlaw06_VecJoins_p2.B9 : List Nat := [0, 1, 3, 3, 3, 27, 63, 127, 255, 511, 511, 511, 3583, 8191, 16383, 32767, 65535, 65535, 262143, 65535, 65535, 65535, 3670015, 8388607, 16777215, 33554431, 67108863, 134217727, 134217727, 536870911, 134217727, 134217727, 134217727, 7516192767, 17179869183, 34359738367, 68719476735, 137438953471, 274877906943, 274877906943, 1099511627775, 274877906943, 4398046511103, 8796093022207, 17592186044415, 35184372088831, 35184372088831, 140737488355327, 35184372088831, 562949953421311, 1125899906842623, 2251799813685247, 4503599627370495, 4503599627370495, 18014398509481983, 36028797018963967, 72057594037927935, 144115188075855871, 144115188075855871, 576460752303423487, 1152921504606846975, 2305843009213693951, 4611686018427387903, 4611686018427387903, 18446744073709551615, 4611686018427387903, 73786976294838206463, 147573952589676412927, 295147905179352825855, 590295810358705651711, 590295810358705651711, 2361183241434822606847, 590295810358705651711, 9444732965739290427391, 18889465931478580854783, 37778931862957161709567, 75557863725914323419135, 151115727451828646838271, 302231454903657293676543, 604462909807314587353087, 1208925819614629174706175, 2417851639229258349412351, 4835703278458516698824703, 9671406556917033397649407, 19342813113834066795298815, 38685626227668133590597631, 77371252455336267181195263, 154742504910672534362390527, 309485009821345068724781055, 618970019642690137449562111]
theorem tenementlaw06_VecJoins_p2.tab9 : rtab .any (opsOf Tryd.f5 9) = tenementlaw06_VecJoins_p2.T9 := by kernel_rfl
theorem tenementlaw06_VecJoins_p2.bits9 : waitsOk tenementlaw06_VecJoins_p2.T9.2 tenementlaw06_VecJoins_p2.B9 = true := by kernel_rfl
set_option maxHeartbeats 8000000 in
set_option maxRecDepth 100000 in
theorem tenementlaw06_VecJoins_p2.calls (k : Nat) (a0_0 : Int) (a0_1 : Int) (a0_2 : Int) (a0_3 : Int) (a0_4 : Bool) (a1_0 : Int) (a1_1 : Int) (a1_2 : Int) (a1_3 : Int) (a1_4 : Bool) (a2_0 : Int) (a2_1 : Int) (a2_2 : Int) (a2_3 : Int) (a2_4 : Bool) (r : Bool) (w : World) (h : tenementlaw06_VecJoins_p2.f k a0_0 a0_1 a0_2 a0_3 a0_4 a1_0 a1_1 a1_2 a1_3 a1_4 a2_0 a2_1 a2_2 a2_3 a2_4 = some r) :
    Calls Tryd.prog 5 #[.agg #[.int .u64 a0_0, .int .u64 a0_1, .int .u64 a0_2, .int .u64 a0_3, .bool a0_4], .agg #[.int .u64 a1_0, .int .u64 a1_1, .int .u64 a1_2, .int .u64 a1_3, .bool a1_4], .agg #[.int .u64 a2_0, .int .u64 a2_1, .int .u64 a2_2, .int .u64 a2_3, .bool a2_4]] w fun e w' => e = .returned (.bool r) ∧ Below w.heap.size w w' := by
  have hu26 := Tryd.underlying26
  have hu24 := Tryd.underlying24
  have HB := Aside0.mk (Below.refl w.heap.size w)
  have H : ((tenementlaw06_examples.f k).bind fun t616 => (if t616 = true then ((tenementlaw06_Vector_vector.f k a0_0 a0_1 a0_2 a0_3 a0_4).bind fun bt617 => ((tenementlaw06_Vector_vector.f k a1_0 a1_1 a1_2 a1_3 a1_4).bind fun bt622 => ((tenementlaw06_Vector_vector.f k a2_0 a2_1 a2_2 a2_3 a2_4).bind fun bt627 => ((vec_Join.f bt617.1 bt617.2.1 bt617.2.2.1 bt617.2.2.2 bt622.1 bt622.2.1 bt622.2.2.1 bt622.2.2.2).bind fun bt632 => ((vec_Meet.f bt617.1 bt617.2.1 bt617.2.2.1 bt617.2.2.2 bt622.1 bt622.2.1 bt622.2.2.1 bt622.2.2.2).bind fun bt637 => ((vec_Join.f bt622.1 bt622.2.1 bt622.2.2.1 bt622.2.2.2 bt617.1 bt617.2.1 bt617.2.2.1 bt617.2.2.2).bind fun bt642 => (if (bt632.1 == bt642.1 && (bt632.2.1 == bt642.2.1 && (bt632.2.2.1 == bt642.2.2.1 && (bt632.2.2.2 == bt642.2.2.2)))) = true then ((vec_Meet.f bt622.1 bt622.2.1 bt622.2.2.1 bt622.2.2.2 bt617.1 bt617.2.1 bt617.2.2.1 bt617.2.2.2).bind fun bt646 => (if (bt637.1 == bt646.1 && (bt637.2.1 == bt646.2.1 && (bt637.2.2.1 == bt646.2.2.1 && (bt637.2.2.2 == bt646.2.2.2)))) = true then ((vec_Join.f bt632.1 bt632.2.1 bt632.2.2.1 bt632.2.2.2 bt627.1 bt627.2.1 bt627.2.2.1 bt627.2.2.2).bind fun bt650 => ((vec_Join.f bt622.1 bt622.2.1 bt622.2.2.1 bt622.2.2.2 bt627.1 bt627.2.1 bt627.2.2.1 bt627.2.2.2).bind fun bt654 => ((vec_Join.f bt617.1 bt617.2.1 bt617.2.2.1 bt617.2.2.2 bt654.1 bt654.2.1 bt654.2.2.1 bt654.2.2.2).bind fun bt658 => (if (bt650.1 == bt658.1 && (bt650.2.1 == bt658.2.1 && (bt650.2.2.1 == bt658.2.2.1 && (bt650.2.2.2 == bt658.2.2.2)))) = true then ((vec_Meet.f bt637.1 bt637.2.1 bt637.2.2.1 bt637.2.2.2 bt627.1 bt627.2.1 bt627.2.2.1 bt627.2.2.2).bind fun bt662 => ((vec_Meet.f bt622.1 bt622.2.1 bt622.2.2.1 bt622.2.2.2 bt627.1 bt627.2.1 bt627.2.2.1 bt627.2.2.2).bind fun bt666 => ((vec_Meet.f bt617.1 bt617.2.1 bt617.2.2.1 bt617.2.2.2 bt666.1 bt666.2.1 bt666.2.2.1 bt666.2.2.2).bind fun bt670 => (if (bt662.1 == bt670.1 && (bt662.2.1 == bt670.2.1 && (bt662.2.2.1 == bt670.2.2.1 && (bt662.2.2.2 == bt670.2.2.2)))) = true then ((vec_Join.f bt632.1 bt632.2.1 bt632.2.2.1 bt632.2.2.2 bt617.1 bt617.2.1 bt617.2.2.1 bt617.2.2.2).bind fun bt674 => (if (bt674.1 == bt632.1 && (bt674.2.1 == bt632.2.1 && (bt674.2.2.1 == bt632.2.2.1 && (bt674.2.2.2 == bt632.2.2.2)))) = true then ((vec_Meet.f bt637.1 bt637.2.1 bt637.2.2.1 bt637.2.2.2 bt617.1 bt617.2.1 bt617.2.2.1 bt617.2.2.2).bind fun bt678 => (if (bt678.1 == bt637.1 && (bt678.2.1 == bt637.2.1 && (bt678.2.2.1 == bt637.2.2.1 && (bt678.2.2.2 == bt637.2.2.2)))) = true then ((vec_Leq.f bt617.1 bt617.2.1 bt617.2.2.1 bt617.2.2.2 bt632.1 bt632.2.1 bt632.2.2.1 bt632.2.2.2).bind fun t682 => (if t682 = true then ((vec_Leq.f bt637.1 bt637.2.1 bt637.2.2.1 bt637.2.2.2 bt622.1 bt622.2.1 bt622.2.2.1 bt622.2.2.2).bind fun t683 => (if t683 = true then ((vec_Join.f bt617.1 bt617.2.1 bt617.2.2.1 bt617.2.2.2 bt637.1 bt637.2.1 bt637.2.2.1 bt637.2.2.2).bind fun bt684 => (if (bt684.1 == bt617.1 && (bt684.2.1 == bt617.2.1 && (bt684.2.2.1 == bt617.2.2.1 && (bt684.2.2.2 == bt617.2.2.2)))) = true then ((vec_Meet.f bt617.1 bt617.2.1 bt617.2.2.1 bt617.2.2.2 bt632.1 bt632.2.1 bt632.2.2.1 bt632.2.2.2).bind fun bt688 => (if (bt688.1 == bt617.1 && (bt688.2.1 == bt617.2.1 && (bt688.2.2.1 == bt617.2.2.1 && (bt688.2.2.2 == bt617.2.2.2)))) = true then ((vec_Right.f bt617.1 bt617.2.1 bt617.2.2.1 bt617.2.2.2).bind fun t692 => (if t692 = true then (none) else (some true))) else (none))) else (none))) else (none))) else (none))) else (none))) else (none))) else (none))))) else (none))))) else (none))) else (none)))))))) else (none))) = some r := h
  clear h
  replace H := Option.bind_eq_some_iff.mp H
  obtain ⟨t616, A40, H⟩ := H
  replace H : (if t616 = true then ((tenementlaw06_Vector_vector.f k a0_0 a0_1 a0_2 a0_3 a0_4).bind fun bt617 => ((tenementlaw06_Vector_vector.f k a1_0 a1_1 a1_2 a1_3 a1_4).bind fun bt622 => ((tenementlaw06_Vector_vector.f k a2_0 a2_1 a2_2 a2_3 a2_4).bind fun bt627 => ((vec_Join.f bt617.1 bt617.2.1 bt617.2.2.1 bt617.2.2.2 bt622.1 bt622.2.1 bt622.2.2.1 bt622.2.2.2).bind fun bt632 => ((vec_Meet.f bt617.1 bt617.2.1 bt617.2.2.1 bt617.2.2.2 bt622.1 bt622.2.1 bt622.2.2.1 bt622.2.2.2).bind fun bt637 => ((vec_Join.f bt622.1 bt622.2.1 bt622.2.2.1 bt622.2.2.2 bt617.1 bt617.2.1 bt617.2.2.1 bt617.2.2.2).bind fun bt642 => (if (bt632.1 == bt642.1 && (bt632.2.1 == bt642.2.1 && (bt632.2.2.1 == bt642.2.2.1 && (bt632.2.2.2 == bt642.2.2.2)))) = true then ((vec_Meet.f bt622.1 bt622.2.1 bt622.2.2.1 bt622.2.2.2 bt617.1 bt617.2.1 bt617.2.2.1 bt617.2.2.2).bind fun bt646 => (if (bt637.1 == bt646.1 && (bt637.2.1 == bt646.2.1 && (bt637.2.2.1 == bt646.2.2.1 && (bt637.2.2.2 == bt646.2.2.2)))) = true then ((vec_Join.f bt632.1 bt632.2.1 bt632.2.2.1 bt632.2.2.2 bt627.1 bt627.2.1 bt627.2.2.1 bt627.2.2.2).bind fun bt650 => ((vec_Join.f bt622.1 bt622.2.1 bt622.2.2.1 bt622.2.2.2 bt627.1 bt627.2.1 bt627.2.2.1 bt627.2.2.2).bind fun bt654 => ((vec_Join.f bt617.1 bt617.2.1 bt617.2.2.1 bt617.2.2.2 bt654.1 bt654.2.1 bt654.2.2.1 bt654.2.2.2).bind fun bt658 => (if (bt650.1 == bt658.1 && (bt650.2.1 == bt658.2.1 && (bt650.2.2.1 == bt658.2.2.1 && (bt650.2.2.2 == bt658.2.2.2)))) = true then ((vec_Meet.f bt637.1 bt637.2.1 bt637.2.2.1 bt637.2.2.2 bt627.1 bt627.2.1 bt627.2.2.1 bt627.2.2.2).bind fun bt662 => ((vec_Meet.f bt622.1 bt622.2.1 bt622.2.2.1 bt622.2.2.2 bt627.1 bt627.2.1 bt627.2.2.1 bt627.2.2.2).bind fun bt666 => ((vec_Meet.f bt617.1 bt617.2.1 bt617.2.2.1 bt617.2.2.2 bt666.1 bt666.2.1 bt666.2.2.1 bt666.2.2.2).bind fun bt670 => (if (bt662.1 == bt670.1 && (bt662.2.1 == bt670.2.1 && (bt662.2.2.1 == bt670.2.2.1 && (bt662.2.2.2 == bt670.2.2.2)))) = true then ((vec_Join.f bt632.1 bt632.2.1 bt632.2.2.1 bt632.2.2.2 bt617.1 bt617.2.1 bt617.2.2.1 bt617.2.2.2).bind fun bt674 => (if (bt674.1 == bt632.1 && (bt674.2.1 == bt632.2.1 && (bt674.2.2.1 == bt632.2.2.1 && (bt674.2.2.2 == bt632.2.2.2)))) = true then ((vec_Meet.f bt637.1 bt637.2.1 bt637.2.2.1 bt637.2.2.2 bt617.1 bt617.2.1 bt617.2.2.1 bt617.2.2.2).bind fun bt678 => (if (bt678.1 == bt637.1 && (bt678.2.1 == bt637.2.1 && (bt678.2.2.1 == bt637.2.2.1 && (bt678.2.2.2 == bt637.2.2.2)))) = true then ((vec_Leq.f bt617.1 bt617.2.1 bt617.2.2.1 bt617.2.2.2 bt632.1 bt632.2.1 bt632.2.2.1 bt632.2.2.2).bind fun t682 => (if t682 = true then ((vec_Leq.f bt637.1 bt637.2.1 bt637.2.2.1 bt637.2.2.2 bt622.1 bt622.2.1 bt622.2.2.1 bt622.2.2.2).bind fun t683 => (if t683 = true then ((vec_Join.f bt617.1 bt617.2.1 bt617.2.2.1 bt617.2.2.2 bt637.1 bt637.2.1 bt637.2.2.1 bt637.2.2.2).bind fun bt684 => (if (bt684.1 == bt617.1 && (bt684.2.1 == bt617.2.1 && (bt684.2.2.1 == bt617.2.2.1 && (bt684.2.2.2 == bt617.2.2.2)))) = true then ((vec_Meet.f bt617.1 bt617.2.1 bt617.2.2.1 bt617.2.2.2 bt632.1 bt632.2.1 bt632.2.2.1 bt632.2.2.2).bind fun bt688 => (if (bt688.1 == bt617.1 && (bt688.2.1 == bt617.2.1 && (bt688.2.2.1 == bt617.2.2.1 && (bt688.2.2.2 == bt617.2.2.2)))) = true then ((vec_Right.f bt617.1 bt617.2.1 bt617.2.2.1 bt617.2.2.2).bind fun t692 => (if t692 = true then (none) else (some true))) else (none))) else (none))) else (none))) else (none))) else (none))) else (none))) else (none))))) else (none))))) else (none))) else (none)))))))) else (none)) = some r := H
  have A4 := Aside0.mk A40
  clear A40
  by_cases c5 : t616 = true
  rotate_left
  · replace c5 := Bool.eq_false_iff.mpr c5
    subst c5
    have H1 : (none) = some r := by rw [if_neg (show ¬ (false = true) by decide)] at H; exact H
    clear H
    have H := H1
    clear H1
    exact absurd H (by simp)
  subst c5
  have H1 : ((tenementlaw06_Vector_vector.f k a0_0 a0_1 a0_2 a0_3 a0_4).bind fun bt617 => ((tenementlaw06_Vector_vector.f k a1_0 a1_1 a1_2 a1_3 a1_4).bind fun bt622 => ((tenementlaw06_Vector_vector.f k a2_0 a2_1 a2_2 a2_3 a2_4).bind fun bt627 => ((vec_Join.f bt617.1 bt617.2.1 bt617.2.2.1 bt617.2.2.2 bt622.1 bt622.2.1 bt622.2.2.1 bt622.2.2.2).bind fun bt632 => ((vec_Meet.f bt617.1 bt617.2.1 bt617.2.2.1 bt617.2.2.2 bt622.1 bt622.2.1 bt622.2.2.1 bt622.2.2.2).bind fun bt637 => ((vec_Join.f bt622.1 bt622.2.1 bt622.2.2.1 bt622.2.2.2 bt617.1 bt617.2.1 bt617.2.2.1 bt617.2.2.2).bind fun bt642 => (if (bt632.1 == bt642.1 && (bt632.2.1 == bt642.2.1 && (bt632.2.2.1 == bt642.2.2.1 && (bt632.2.2.2 == bt642.2.2.2)))) = true then ((vec_Meet.f bt622.1 bt622.2.1 bt622.2.2.1 bt622.2.2.2 bt617.1 bt617.2.1 bt617.2.2.1 bt617.2.2.2).bind fun bt646 => (if (bt637.1 == bt646.1 && (bt637.2.1 == bt646.2.1 && (bt637.2.2.1 == bt646.2.2.1 && (bt637.2.2.2 == bt646.2.2.2)))) = true then ((vec_Join.f bt632.1 bt632.2.1 bt632.2.2.1 bt632.2.2.2 bt627.1 bt627.2.1 bt627.2.2.1 bt627.2.2.2).bind fun bt650 => ((vec_Join.f bt622.1 bt622.2.1 bt622.2.2.1 bt622.2.2.2 bt627.1 bt627.2.1 bt627.2.2.1 bt627.2.2.2).bind fun bt654 => ((vec_Join.f bt617.1 bt617.2.1 bt617.2.2.1 bt617.2.2.2 bt654.1 bt654.2.1 bt654.2.2.1 bt654.2.2.2).bind fun bt658 => (if (bt650.1 == bt658.1 && (bt650.2.1 == bt658.2.1 && (bt650.2.2.1 == bt658.2.2.1 && (bt650.2.2.2 == bt658.2.2.2)))) = true then ((vec_Meet.f bt637.1 bt637.2.1 bt637.2.2.1 bt637.2.2.2 bt627.1 bt627.2.1 bt627.2.2.1 bt627.2.2.2).bind fun bt662 => ((vec_Meet.f bt622.1 bt622.2.1 bt622.2.2.1 bt622.2.2.2 bt627.1 bt627.2.1 bt627.2.2.1 bt627.2.2.2).bind fun bt666 => ((vec_Meet.f bt617.1 bt617.2.1 bt617.2.2.1 bt617.2.2.2 bt666.1 bt666.2.1 bt666.2.2.1 bt666.2.2.2).bind fun bt670 => (if (bt662.1 == bt670.1 && (bt662.2.1 == bt670.2.1 && (bt662.2.2.1 == bt670.2.2.1 && (bt662.2.2.2 == bt670.2.2.2)))) = true then ((vec_Join.f bt632.1 bt632.2.1 bt632.2.2.1 bt632.2.2.2 bt617.1 bt617.2.1 bt617.2.2.1 bt617.2.2.2).bind fun bt674 => (if (bt674.1 == bt632.1 && (bt674.2.1 == bt632.2.1 && (bt674.2.2.1 == bt632.2.2.1 && (bt674.2.2.2 == bt632.2.2.2)))) = true then ((vec_Meet.f bt637.1 bt637.2.1 bt637.2.2.1 bt637.2.2.2 bt617.1 bt617.2.1 bt617.2.2.1 bt617.2.2.2).bind fun bt678 => (if (bt678.1 == bt637.1 && (bt678.2.1 == bt637.2.1 && (bt678.2.2.1 == bt637.2.2.1 && (bt678.2.2.2 == bt637.2.2.2)))) = true then ((vec_Leq.f bt617.1 bt617.2.1 bt617.2.2.1 bt617.2.2.2 bt632.1 bt632.2.1 bt632.2.2.1 bt632.2.2.2).bind fun t682 => (if t682 = true then ((vec_Leq.f bt637.1 bt637.2.1 bt637.2.2.1 bt637.2.2.2 bt622.1 bt622.2.1 bt622.2.2.1 bt622.2.2.2).bind fun t683 => (if t683 = true then ((vec_Join.f bt617.1 bt617.2.1 bt617.2.2.1 bt617.2.2.2 bt637.1 bt637.2.1 bt637.2.2.1 bt637.2.2.2).bind fun bt684 => (if (bt684.1 == bt617.1 && (bt684.2.1 == bt617.2.1 && (bt684.2.2.1 == bt617.2.2.1 && (bt684.2.2.2 == bt617.2.2.2)))) = true then ((vec_Meet.f bt617.1 bt617.2.1 bt617.2.2.1 bt617.2.2.2 bt632.1 bt632.2.1 bt632.2.2.1 bt632.2.2.2).bind fun bt688 => (if (bt688.1 == bt617.1 && (bt688.2.1 == bt617.2.1 && (bt688.2.2.1 == bt617.2.2.1 && (bt688.2.2.2 == bt617.2.2.2)))) = true then ((vec_Right.f bt617.1 bt617.2.1 bt617.2.2.1 bt617.2.2.2).bind fun t692 => (if t692 = true then (none) else (some true))) else (none))) else (none))) else (none))) else (none))) else (none))) else (none))) else (none))))) else (none))))) else (none))) else (none)))))))) = some r := by rw [if_pos rfl] at H; exact H
  clear H
  have H := H1
  clear H1
  replace H := Option.bind_eq_some_iff.mp H
  obtain ⟨⟨t617, t618, t619, t620⟩, A60, H⟩ := H
  replace H : ((tenementlaw06_Vector_vector.f k a1_0 a1_1 a1_2 a1_3 a1_4).bind fun bt622 => ((tenementlaw06_Vector_vector.f k a2_0 a2_1 a2_2 a2_3 a2_4).bind fun bt627 => ((vec_Join.f t617 t618 t619 t620 bt622.1 bt622.2.1 bt622.2.2.1 bt622.2.2.2).bind fun bt632 => ((vec_Meet.f t617 t618 t619 t620 bt622.1 bt622.2.1 bt622.2.2.1 bt622.2.2.2).bind fun bt637 => ((vec_Join.f bt622.1 bt622.2.1 bt622.2.2.1 bt622.2.2.2 t617 t618 t619 t620).bind fun bt642 => (if (bt632.1 == bt642.1 && (bt632.2.1 == bt642.2.1 && (bt632.2.2.1 == bt642.2.2.1 && (bt632.2.2.2 == bt642.2.2.2)))) = true then ((vec_Meet.f bt622.1 bt622.2.1 bt622.2.2.1 bt622.2.2.2 t617 t618 t619 t620).bind fun bt646 => (if (bt637.1 == bt646.1 && (bt637.2.1 == bt646.2.1 && (bt637.2.2.1 == bt646.2.2.1 && (bt637.2.2.2 == bt646.2.2.2)))) = true then ((vec_Join.f bt632.1 bt632.2.1 bt632.2.2.1 bt632.2.2.2 bt627.1 bt627.2.1 bt627.2.2.1 bt627.2.2.2).bind fun bt650 => ((vec_Join.f bt622.1 bt622.2.1 bt622.2.2.1 bt622.2.2.2 bt627.1 bt627.2.1 bt627.2.2.1 bt627.2.2.2).bind fun bt654 => ((vec_Join.f t617 t618 t619 t620 bt654.1 bt654.2.1 bt654.2.2.1 bt654.2.2.2).bind fun bt658 => (if (bt650.1 == bt658.1 && (bt650.2.1 == bt658.2.1 && (bt650.2.2.1 == bt658.2.2.1 && (bt650.2.2.2 == bt658.2.2.2)))) = true then ((vec_Meet.f bt637.1 bt637.2.1 bt637.2.2.1 bt637.2.2.2 bt627.1 bt627.2.1 bt627.2.2.1 bt627.2.2.2).bind fun bt662 => ((vec_Meet.f bt622.1 bt622.2.1 bt622.2.2.1 bt622.2.2.2 bt627.1 bt627.2.1 bt627.2.2.1 bt627.2.2.2).bind fun bt666 => ((vec_Meet.f t617 t618 t619 t620 bt666.1 bt666.2.1 bt666.2.2.1 bt666.2.2.2).bind fun bt670 => (if (bt662.1 == bt670.1 && (bt662.2.1 == bt670.2.1 && (bt662.2.2.1 == bt670.2.2.1 && (bt662.2.2.2 == bt670.2.2.2)))) = true then ((vec_Join.f bt632.1 bt632.2.1 bt632.2.2.1 bt632.2.2.2 t617 t618 t619 t620).bind fun bt674 => (if (bt674.1 == bt632.1 && (bt674.2.1 == bt632.2.1 && (bt674.2.2.1 == bt632.2.2.1 && (bt674.2.2.2 == bt632.2.2.2)))) = true then ((vec_Meet.f bt637.1 bt637.2.1 bt637.2.2.1 bt637.2.2.2 t617 t618 t619 t620).bind fun bt678 => (if (bt678.1 == bt637.1 && (bt678.2.1 == bt637.2.1 && (bt678.2.2.1 == bt637.2.2.1 && (bt678.2.2.2 == bt637.2.2.2)))) = true then ((vec_Leq.f t617 t618 t619 t620 bt632.1 bt632.2.1 bt632.2.2.1 bt632.2.2.2).bind fun t682 => (if t682 = true then ((vec_Leq.f bt637.1 bt637.2.1 bt637.2.2.1 bt637.2.2.2 bt622.1 bt622.2.1 bt622.2.2.1 bt622.2.2.2).bind fun t683 => (if t683 = true then ((vec_Join.f t617 t618 t619 t620 bt637.1 bt637.2.1 bt637.2.2.1 bt637.2.2.2).bind fun bt684 => (if (bt684.1 == t617 && (bt684.2.1 == t618 && (bt684.2.2.1 == t619 && (bt684.2.2.2 == t620)))) = true then ((vec_Meet.f t617 t618 t619 t620 bt632.1 bt632.2.1 bt632.2.2.1 bt632.2.2.2).bind fun bt688 => (if (bt688.1 == t617 && (bt688.2.1 == t618 && (bt688.2.2.1 == t619 && (bt688.2.2.2 == t620)))) = true then ((vec_Right.f t617 t618 t619 t620).bind fun t692 => (if t692 = true then (none) else (some true))) else (none))) else (none))) else (none))) else (none))) else (none))) else (none))) else (none))))) else (none))))) else (none))) else (none))))))) = some r := H
  have A6 := Aside0.mk A60
  clear A60
  replace H := Option.bind_eq_some_iff.mp H
  obtain ⟨⟨t622, t623, t624, t625⟩, A70, H⟩ := H
  replace H : ((tenementlaw06_Vector_vector.f k a2_0 a2_1 a2_2 a2_3 a2_4).bind fun bt627 => ((vec_Join.f t617 t618 t619 t620 t622 t623 t624 t625).bind fun bt632 => ((vec_Meet.f t617 t618 t619 t620 t622 t623 t624 t625).bind fun bt637 => ((vec_Join.f t622 t623 t624 t625 t617 t618 t619 t620).bind fun bt642 => (if (bt632.1 == bt642.1 && (bt632.2.1 == bt642.2.1 && (bt632.2.2.1 == bt642.2.2.1 && (bt632.2.2.2 == bt642.2.2.2)))) = true then ((vec_Meet.f t622 t623 t624 t625 t617 t618 t619 t620).bind fun bt646 => (if (bt637.1 == bt646.1 && (bt637.2.1 == bt646.2.1 && (bt637.2.2.1 == bt646.2.2.1 && (bt637.2.2.2 == bt646.2.2.2)))) = true then ((vec_Join.f bt632.1 bt632.2.1 bt632.2.2.1 bt632.2.2.2 bt627.1 bt627.2.1 bt627.2.2.1 bt627.2.2.2).bind fun bt650 => ((vec_Join.f t622 t623 t624 t625 bt627.1 bt627.2.1 bt627.2.2.1 bt627.2.2.2).bind fun bt654 => ((vec_Join.f t617 t618 t619 t620 bt654.1 bt654.2.1 bt654.2.2.1 bt654.2.2.2).bind fun bt658 => (if (bt650.1 == bt658.1 && (bt650.2.1 == bt658.2.1 && (bt650.2.2.1 == bt658.2.2.1 && (bt650.2.2.2 == bt658.2.2.2)))) = true then ((vec_Meet.f bt637.1 bt637.2.1 bt637.2.2.1 bt637.2.2.2 bt627.1 bt627.2.1 bt627.2.2.1 bt627.2.2.2).bind fun bt662 => ((vec_Meet.f t622 t623 t624 t625 bt627.1 bt627.2.1 bt627.2.2.1 bt627.2.2.2).bind fun bt666 => ((vec_Meet.f t617 t618 t619 t620 bt666.1 bt666.2.1 bt666.2.2.1 bt666.2.2.2).bind fun bt670 => (if (bt662.1 == bt670.1 && (bt662.2.1 == bt670.2.1 && (bt662.2.2.1 == bt670.2.2.1 && (bt662.2.2.2 == bt670.2.2.2)))) = true then ((vec_Join.f bt632.1 bt632.2.1 bt632.2.2.1 bt632.2.2.2 t617 t618 t619 t620).bind fun bt674 => (if (bt674.1 == bt632.1 && (bt674.2.1 == bt632.2.1 && (bt674.2.2.1 == bt632.2.2.1 && (bt674.2.2.2 == bt632.2.2.2)))) = true then ((vec_Meet.f bt637.1 bt637.2.1 bt637.2.2.1 bt637.2.2.2 t617 t618 t619 t620).bind fun bt678 => (if (bt678.1 == bt637.1 && (bt678.2.1 == bt637.2.1 && (bt678.2.2.1 == bt637.2.2.1 && (bt678.2.2.2 == bt637.2.2.2)))) = true then ((vec_Leq.f t617 t618 t619 t620 bt632.1 bt632.2.1 bt632.2.2.1 bt632.2.2.2).bind fun t682 => (if t682 = true then ((vec_Leq.f bt637.1 bt637.2.1 bt637.2.2.1 bt637.2.2.2 t622 t623 t624 t625).bind fun t683 => (if t683 = true then ((vec_Join.f t617 t618 t619 t620 bt637.1 bt637.2.1 bt637.2.2.1 bt637.2.2.2).bind fun bt684 => (if (bt684.1 == t617 && (bt684.2.1 == t618 && (bt684.2.2.1 == t619 && (bt684.2.2.2 == t620)))) = true then ((vec_Meet.f t617 t618 t619 t620 bt632.1 bt632.2.1 bt632.2.2.1 bt632.2.2.2).bind fun bt688 => (if (bt688.1 == t617 && (bt688.2.1 == t618 && (bt688.2.2.1 == t619 && (bt688.2.2.2 == t620)))) = true then ((vec_Right.f t617 t618 t619 t620).bind fun t692 => (if t692 = true then (none) else (some true))) else (none))) else (none))) else (none))) else (none))) else (none))) else (none))) else (none))))) else (none))))) else (none))) else (none)))))) = some r := H
  have A7 := Aside0.mk A70
  clear A70
  replace H := Option.bind_eq_some_iff.mp H
  obtain ⟨⟨t627, t628, t629, t630⟩, A80, H⟩ := H
  replace H : ((vec_Join.f t617 t618 t619 t620 t622 t623 t624 t625).bind fun bt632 => ((vec_Meet.f t617 t618 t619 t620 t622 t623 t624 t625).bind fun bt637 => ((vec_Join.f t622 t623 t624 t625 t617 t618 t619 t620).bind fun bt642 => (if (bt632.1 == bt642.1 && (bt632.2.1 == bt642.2.1 && (bt632.2.2.1 == bt642.2.2.1 && (bt632.2.2.2 == bt642.2.2.2)))) = true then ((vec_Meet.f t622 t623 t624 t625 t617 t618 t619 t620).bind fun bt646 => (if (bt637.1 == bt646.1 && (bt637.2.1 == bt646.2.1 && (bt637.2.2.1 == bt646.2.2.1 && (bt637.2.2.2 == bt646.2.2.2)))) = true then ((vec_Join.f bt632.1 bt632.2.1 bt632.2.2.1 bt632.2.2.2 t627 t628 t629 t630).bind fun bt650 => ((vec_Join.f t622 t623 t624 t625 t627 t628 t629 t630).bind fun bt654 => ((vec_Join.f t617 t618 t619 t620 bt654.1 bt654.2.1 bt654.2.2.1 bt654.2.2.2).bind fun bt658 => (if (bt650.1 == bt658.1 && (bt650.2.1 == bt658.2.1 && (bt650.2.2.1 == bt658.2.2.1 && (bt650.2.2.2 == bt658.2.2.2)))) = true then ((vec_Meet.f bt637.1 bt637.2.1 bt637.2.2.1 bt637.2.2.2 t627 t628 t629 t630).bind fun bt662 => ((vec_Meet.f t622 t623 t624 t625 t627 t628 t629 t630).bind fun bt666 => ((vec_Meet.f t617 t618 t619 t620 bt666.1 bt666.2.1 bt666.2.2.1 bt666.2.2.2).bind fun bt670 => (if (bt662.1 == bt670.1 && (bt662.2.1 == bt670.2.1 && (bt662.2.2.1 == bt670.2.2.1 && (bt662.2.2.2 == bt670.2.2.2)))) = true then ((vec_Join.f bt632.1 bt632.2.1 bt632.2.2.1 bt632.2.2.2 t617 t618 t619 t620).bind fun bt674 => (if (bt674.1 == bt632.1 && (bt674.2.1 == bt632.2.1 && (bt674.2.2.1 == bt632.2.2.1 && (bt674.2.2.2 == bt632.2.2.2)))) = true then ((vec_Meet.f bt637.1 bt637.2.1 bt637.2.2.1 bt637.2.2.2 t617 t618 t619 t620).bind fun bt678 => (if (bt678.1 == bt637.1 && (bt678.2.1 == bt637.2.1 && (bt678.2.2.1 == bt637.2.2.1 && (bt678.2.2.2 == bt637.2.2.2)))) = true then ((vec_Leq.f t617 t618 t619 t620 bt632.1 bt632.2.1 bt632.2.2.1 bt632.2.2.2).bind fun t682 => (if t682 = true then ((vec_Leq.f bt637.1 bt637.2.1 bt637.2.2.1 bt637.2.2.2 t622 t623 t624 t625).bind fun t683 => (if t683 = true then ((vec_Join.f t617 t618 t619 t620 bt637.1 bt637.2.1 bt637.2.2.1 bt637.2.2.2).bind fun bt684 => (if (bt684.1 == t617 && (bt684.2.1 == t618 && (bt684.2.2.1 == t619 && (bt684.2.2.2 == t620)))) = true then ((vec_Meet.f t617 t618 t619 t620 bt632.1 bt632.2.1 bt632.2.2.1 bt632.2.2.2).bind fun bt688 => (if (bt688.1 == t617 && (bt688.2.1 == t618 && (bt688.2.2.1 == t619 && (bt688.2.2.2 == t620)))) = true then ((vec_Right.f t617 t618 t619 t620).bind fun t692 => (if t692 = true then (none) else (some true))) else (none))) else (none))) else (none))) else (none))) else (none))) else (none))) else (none))))) else (none))))) else (none))) else (none))))) = some r := H
  have A8 := Aside0.mk A80
  clear A80
  replace H := Option.bind_eq_some_iff.mp H
  obtain ⟨⟨t632, t633, t634, t635⟩, A90, H⟩ := H
  replace H : ((vec_Meet.f t617 t618 t619 t620 t622 t623 t624 t625).bind fun bt637 => ((vec_Join.f t622 t623 t624 t625 t617 t618 t619 t620).bind fun bt642 => (if (t632 == bt642.1 && (t633 == bt642.2.1 && (t634 == bt642.2.2.1 && (t635 == bt642.2.2.2)))) = true then ((vec_Meet.f t622 t623 t624 t625 t617 t618 t619 t620).bind fun bt646 => (if (bt637.1 == bt646.1 && (bt637.2.1 == bt646.2.1 && (bt637.2.2.1 == bt646.2.2.1 && (bt637.2.2.2 == bt646.2.2.2)))) = true then ((vec_Join.f t632 t633 t634 t635 t627 t628 t629 t630).bind fun bt650 => ((vec_Join.f t622 t623 t624 t625 t627 t628 t629 t630).bind fun bt654 => ((vec_Join.f t617 t618 t619 t620 bt654.1 bt654.2.1 bt654.2.2.1 bt654.2.2.2).bind fun bt658 => (if (bt650.1 == bt658.1 && (bt650.2.1 == bt658.2.1 && (bt650.2.2.1 == bt658.2.2.1 && (bt650.2.2.2 == bt658.2.2.2)))) = true then ((vec_Meet.f bt637.1 bt637.2.1 bt637.2.2.1 bt637.2.2.2 t627 t628 t629 t630).bind fun bt662 => ((vec_Meet.f t622 t623 t624 t625 t627 t628 t629 t630).bind fun bt666 => ((vec_Meet.f t617 t618 t619 t620 bt666.1 bt666.2.1 bt666.2.2.1 bt666.2.2.2).bind fun bt670 => (if (bt662.1 == bt670.1 && (bt662.2.1 == bt670.2.1 && (bt662.2.2.1 == bt670.2.2.1 && (bt662.2.2.2 == bt670.2.2.2)))) = true then ((vec_Join.f t632 t633 t634 t635 t617 t618 t619 t620).bind fun bt674 => (if (bt674.1 == t632 && (bt674.2.1 == t633 && (bt674.2.2.1 == t634 && (bt674.2.2.2 == t635)))) = true then ((vec_Meet.f bt637.1 bt637.2.1 bt637.2.2.1 bt637.2.2.2 t617 t618 t619 t620).bind fun bt678 => (if (bt678.1 == bt637.1 && (bt678.2.1 == bt637.2.1 && (bt678.2.2.1 == bt637.2.2.1 && (bt678.2.2.2 == bt637.2.2.2)))) = true then ((vec_Leq.f t617 t618 t619 t620 t632 t633 t634 t635).bind fun t682 => (if t682 = true then ((vec_Leq.f bt637.1 bt637.2.1 bt637.2.2.1 bt637.2.2.2 t622 t623 t624 t625).bind fun t683 => (if t683 = true then ((vec_Join.f t617 t618 t619 t620 bt637.1 bt637.2.1 bt637.2.2.1 bt637.2.2.2).bind fun bt684 => (if (bt684.1 == t617 && (bt684.2.1 == t618 && (bt684.2.2.1 == t619 && (bt684.2.2.2 == t620)))) = true then ((vec_Meet.f t617 t618 t619 t620 t632 t633 t634 t635).bind fun bt688 => (if (bt688.1 == t617 && (bt688.2.1 == t618 && (bt688.2.2.1 == t619 && (bt688.2.2.2 == t620)))) = true then ((vec_Right.f t617 t618 t619 t620).bind fun t692 => (if t692 = true then (none) else (some true))) else (none))) else (none))) else (none))) else (none))) else (none))) else (none))) else (none))))) else (none))))) else (none))) else (none)))) = some r := H
  have A9 := Aside0.mk A90
  clear A90
  replace H := Option.bind_eq_some_iff.mp H
  obtain ⟨⟨t637, t638, t639, t640⟩, A100, H⟩ := H
  replace H : ((vec_Join.f t622 t623 t624 t625 t617 t618 t619 t620).bind fun bt642 => (if (t632 == bt642.1 && (t633 == bt642.2.1 && (t634 == bt642.2.2.1 && (t635 == bt642.2.2.2)))) = true then ((vec_Meet.f t622 t623 t624 t625 t617 t618 t619 t620).bind fun bt646 => (if (t637 == bt646.1 && (t638 == bt646.2.1 && (t639 == bt646.2.2.1 && (t640 == bt646.2.2.2)))) = true then ((vec_Join.f t632 t633 t634 t635 t627 t628 t629 t630).bind fun bt650 => ((vec_Join.f t622 t623 t624 t625 t627 t628 t629 t630).bind fun bt654 => ((vec_Join.f t617 t618 t619 t620 bt654.1 bt654.2.1 bt654.2.2.1 bt654.2.2.2).bind fun bt658 => (if (bt650.1 == bt658.1 && (bt650.2.1 == bt658.2.1 && (bt650.2.2.1 == bt658.2.2.1 && (bt650.2.2.2 == bt658.2.2.2)))) = true then ((vec_Meet.f t637 t638 t639 t640 t627 t628 t629 t630).bind fun bt662 => ((vec_Meet.f t622 t623 t624 t625 t627 t628 t629 t630).bind fun bt666 => ((vec_Meet.f t617 t618 t619 t620 bt666.1 bt666.2.1 bt666.2.2.1 bt666.2.2.2).bind fun bt670 => (if (bt662.1 == bt670.1 && (bt662.2.1 == bt670.2.1 && (bt662.2.2.1 == bt670.2.2.1 && (bt662.2.2.2 == bt670.2.2.2)))) = true then ((vec_Join.f t632 t633 t634 t635 t617 t618 t619 t620).bind fun bt674 => (if (bt674.1 == t632 && (bt674.2.1 == t633 && (bt674.2.2.1 == t634 && (bt674.2.2.2 == t635)))) = true then ((vec_Meet.f t637 t638 t639 t640 t617 t618 t619 t620).bind fun bt678 => (if (bt678.1 == t637 && (bt678.2.1 == t638 && (bt678.2.2.1 == t639 && (bt678.2.2.2 == t640)))) = true then ((vec_Leq.f t617 t618 t619 t620 t632 t633 t634 t635).bind fun t682 => (if t682 = true then ((vec_Leq.f t637 t638 t639 t640 t622 t623 t624 t625).bind fun t683 => (if t683 = true then ((vec_Join.f t617 t618 t619 t620 t637 t638 t639 t640).bind fun bt684 => (if (bt684.1 == t617 && (bt684.2.1 == t618 && (bt684.2.2.1 == t619 && (bt684.2.2.2 == t620)))) = true then ((vec_Meet.f t617 t618 t619 t620 t632 t633 t634 t635).bind fun bt688 => (if (bt688.1 == t617 && (bt688.2.1 == t618 && (bt688.2.2.1 == t619 && (bt688.2.2.2 == t620)))) = true then ((vec_Right.f t617 t618 t619 t620).bind fun t692 => (if t692 = true then (none) else (some true))) else (none))) else (none))) else (none))) else (none))) else (none))) else (none))) else (none))))) else (none))))) else (none))) else (none))) = some r := H
  have A10 := Aside0.mk A100
  clear A100
  replace H := Option.bind_eq_some_iff.mp H
  obtain ⟨⟨t642, t643, t644, t645⟩, A110, H⟩ := H
  replace H : (if (t632 == t642 && (t633 == t643 && (t634 == t644 && (t635 == t645)))) = true then ((vec_Meet.f t622 t623 t624 t625 t617 t618 t619 t620).bind fun bt646 => (if (t637 == bt646.1 && (t638 == bt646.2.1 && (t639 == bt646.2.2.1 && (t640 == bt646.2.2.2)))) = true then ((vec_Join.f t632 t633 t634 t635 t627 t628 t629 t630).bind fun bt650 => ((vec_Join.f t622 t623 t624 t625 t627 t628 t629 t630).bind fun bt654 => ((vec_Join.f t617 t618 t619 t620 bt654.1 bt654.2.1 bt654.2.2.1 bt654.2.2.2).bind fun bt658 => (if (bt650.1 == bt658.1 && (bt650.2.1 == bt658.2.1 && (bt650.2.2.1 == bt658.2.2.1 && (bt650.2.2.2 == bt658.2.2.2)))) = true then ((vec_Meet.f t637 t638 t639 t640 t627 t628 t629 t630).bind fun bt662 => ((vec_Meet.f t622 t623 t624 t625 t627 t628 t629 t630).bind fun bt666 => ((vec_Meet.f t617 t618 t619 t620 bt666.1 bt666.2.1 bt666.2.2.1 bt666.2.2.2).bind fun bt670 => (if (bt662.1 == bt670.1 && (bt662.2.1 == bt670.2.1 && (bt662.2.2.1 == bt670.2.2.1 && (bt662.2.2.2 == bt670.2.2.2)))) = true then ((vec_Join.f t632 t633 t634 t635 t617 t618 t619 t620).bind fun bt674 => (if (bt674.1 == t632 && (bt674.2.1 == t633 && (bt674.2.2.1 == t634 && (bt674.2.2.2 == t635)))) = true then ((vec_Meet.f t637 t638 t639 t640 t617 t618 t619 t620).bind fun bt678 => (if (bt678.1 == t637 && (bt678.2.1 == t638 && (bt678.2.2.1 == t639 && (bt678.2.2.2 == t640)))) = true then ((vec_Leq.f t617 t618 t619 t620 t632 t633 t634 t635).bind fun t682 => (if t682 = true then ((vec_Leq.f t637 t638 t639 t640 t622 t623 t624 t625).bind fun t683 => (if t683 = true then ((vec_Join.f t617 t618 t619 t620 t637 t638 t639 t640).bind fun bt684 => (if (bt684.1 == t617 && (bt684.2.1 == t618 && (bt684.2.2.1 == t619 && (bt684.2.2.2 == t620)))) = true then ((vec_Meet.f t617 t618 t619 t620 t632 t633 t634 t635).bind fun bt688 => (if (bt688.1 == t617 && (bt688.2.1 == t618 && (bt688.2.2.1 == t619 && (bt688.2.2.2 == t620)))) = true then ((vec_Right.f t617 t618 t619 t620).bind fun t692 => (if t692 = true then (none) else (some true))) else (none))) else (none))) else (none))) else (none))) else (none))) else (none))) else (none))))) else (none))))) else (none))) else (none)) = some r := H
  have A11 := Aside0.mk A110
  clear A110
  by_cases c12 : (t632 == t642 && (t633 == t643 && (t634 == t644 && (t635 == t645)))) = true
  rotate_left
  · rw [if_neg c12] at H
    exact absurd H (by simp)
  rw [if_pos c12] at H
  have c12b0 : (t632 == t642 && (t633 == t643 && (t634 == t644 && (t635 == t645)))) = true := c12
  (try (have c12b1 : decide (t632 = t642 && (t633 == t643 && (t634 == t644 && (t635 == t645)))) = true := by simpa using c12))
  (try (have c12b2 : (t632 == t642 && (t633 == t643 && (t634 == t644 && (t635 == t645)))) = true := by simpa using c12))
  clear c12
  replace H := Option.bind_eq_some_iff.mp H
  obtain ⟨⟨t646, t647, t648, t649⟩, A130, H⟩ := H
  replace H : (if (t637 == t646 && (t638 == t647 && (t639 == t648 && (t640 == t649)))) = true then ((vec_Join.f t632 t633 t634 t635 t627 t628 t629 t630).bind fun bt650 => ((vec_Join.f t622 t623 t624 t625 t627 t628 t629 t630).bind fun bt654 => ((vec_Join.f t617 t618 t619 t620 bt654.1 bt654.2.1 bt654.2.2.1 bt654.2.2.2).bind fun bt658 => (if (bt650.1 == bt658.1 && (bt650.2.1 == bt658.2.1 && (bt650.2.2.1 == bt658.2.2.1 && (bt650.2.2.2 == bt658.2.2.2)))) = true then ((vec_Meet.f t637 t638 t639 t640 t627 t628 t629 t630).bind fun bt662 => ((vec_Meet.f t622 t623 t624 t625 t627 t628 t629 t630).bind fun bt666 => ((vec_Meet.f t617 t618 t619 t620 bt666.1 bt666.2.1 bt666.2.2.1 bt666.2.2.2).bind fun bt670 => (if (bt662.1 == bt670.1 && (bt662.2.1 == bt670.2.1 && (bt662.2.2.1 == bt670.2.2.1 && (bt662.2.2.2 == bt670.2.2.2)))) = true then ((vec_Join.f t632 t633 t634 t635 t617 t618 t619 t620).bind fun bt674 => (if (bt674.1 == t632 && (bt674.2.1 == t633 && (bt674.2.2.1 == t634 && (bt674.2.2.2 == t635)))) = true then ((vec_Meet.f t637 t638 t639 t640 t617 t618 t619 t620).bind fun bt678 => (if (bt678.1 == t637 && (bt678.2.1 == t638 && (bt678.2.2.1 == t639 && (bt678.2.2.2 == t640)))) = true then ((vec_Leq.f t617 t618 t619 t620 t632 t633 t634 t635).bind fun t682 => (if t682 = true then ((vec_Leq.f t637 t638 t639 t640 t622 t623 t624 t625).bind fun t683 => (if t683 = true then ((vec_Join.f t617 t618 t619 t620 t637 t638 t639 t640).bind fun bt684 => (if (bt684.1 == t617 && (bt684.2.1 == t618 && (bt684.2.2.1 == t619 && (bt684.2.2.2 == t620)))) = true then ((vec_Meet.f t617 t618 t619 t620 t632 t633 t634 t635).bind fun bt688 => (if (bt688.1 == t617 && (bt688.2.1 == t618 && (bt688.2.2.1 == t619 && (bt688.2.2.2 == t620)))) = true then ((vec_Right.f t617 t618 t619 t620).bind fun t692 => (if t692 = true then (none) else (some true))) else (none))) else (none))) else (none))) else (none))) else (none))) else (none))) else (none))))) else (none))))) else (none)) = some r := H
  have A13 := Aside0.mk A130
  clear A130
  by_cases c14 : (t637 == t646 && (t638 == t647 && (t639 == t648 && (t640 == t649)))) = true
  rotate_left
  · rw [if_neg c14] at H
    exact absurd H (by simp)
  rw [if_pos c14] at H
  have c14b0 : (t637 == t646 && (t638 == t647 && (t639 == t648 && (t640 == t649)))) = true := c14
  (try (have c14b1 : decide (t637 = t646 && (t638 == t647 && (t639 == t648 && (t640 == t649)))) = true := by simpa using c14))
  (try (have c14b2 : (t637 == t646 && (t638 == t647 && (t639 == t648 && (t640 == t649)))) = true := by simpa using c14))
  clear c14
  replace H := Option.bind_eq_some_iff.mp H
  obtain ⟨⟨t650, t651, t652, t653⟩, A150, H⟩ := H
  replace H : ((vec_Join.f t622 t623 t624 t625 t627 t628 t629 t630).bind fun bt654 => ((vec_Join.f t617 t618 t619 t620 bt654.1 bt654.2.1 bt654.2.2.1 bt654.2.2.2).bind fun bt658 => (if (t650 == bt658.1 && (t651 == bt658.2.1 && (t652 == bt658.2.2.1 && (t653 == bt658.2.2.2)))) = true then ((vec_Meet.f t637 t638 t639 t640 t627 t628 t629 t630).bind fun bt662 => ((vec_Meet.f t622 t623 t624 t625 t627 t628 t629 t630).bind fun bt666 => ((vec_Meet.f t617 t618 t619 t620 bt666.1 bt666.2.1 bt666.2.2.1 bt666.2.2.2).bind fun bt670 => (if (bt662.1 == bt670.1 && (bt662.2.1 == bt670.2.1 && (bt662.2.2.1 == bt670.2.2.1 && (bt662.2.2.2 == bt670.2.2.2)))) = true then ((vec_Join.f t632 t633 t634 t635 t617 t618 t619 t620).bind fun bt674 => (if (bt674.1 == t632 && (bt674.2.1 == t633 && (bt674.2.2.1 == t634 && (bt674.2.2.2 == t635)))) = true then ((vec_Meet.f t637 t638 t639 t640 t617 t618 t619 t620).bind fun bt678 => (if (bt678.1 == t637 && (bt678.2.1 == t638 && (bt678.2.2.1 == t639 && (bt678.2.2.2 == t640)))) = true then ((vec_Leq.f t617 t618 t619 t620 t632 t633 t634 t635).bind fun t682 => (if t682 = true then ((vec_Leq.f t637 t638 t639 t640 t622 t623 t624 t625).bind fun t683 => (if t683 = true then ((vec_Join.f t617 t618 t619 t620 t637 t638 t639 t640).bind fun bt684 => (if (bt684.1 == t617 && (bt684.2.1 == t618 && (bt684.2.2.1 == t619 && (bt684.2.2.2 == t620)))) = true then ((vec_Meet.f t617 t618 t619 t620 t632 t633 t634 t635).bind fun bt688 => (if (bt688.1 == t617 && (bt688.2.1 == t618 && (bt688.2.2.1 == t619 && (bt688.2.2.2 == t620)))) = true then ((vec_Right.f t617 t618 t619 t620).bind fun t692 => (if t692 = true then (none) else (some true))) else (none))) else (none))) else (none))) else (none))) else (none))) else (none))) else (none))))) else (none)))) = some r := H
  have A15 := Aside0.mk A150
  clear A150
  replace H := Option.bind_eq_some_iff.mp H
  obtain ⟨⟨t654, t655, t656, t657⟩, A160, H⟩ := H
  replace H : ((vec_Join.f t617 t618 t619 t620 t654 t655 t656 t657).bind fun bt658 => (if (t650 == bt658.1 && (t651 == bt658.2.1 && (t652 == bt658.2.2.1 && (t653 == bt658.2.2.2)))) = true then ((vec_Meet.f t637 t638 t639 t640 t627 t628 t629 t630).bind fun bt662 => ((vec_Meet.f t622 t623 t624 t625 t627 t628 t629 t630).bind fun bt666 => ((vec_Meet.f t617 t618 t619 t620 bt666.1 bt666.2.1 bt666.2.2.1 bt666.2.2.2).bind fun bt670 => (if (bt662.1 == bt670.1 && (bt662.2.1 == bt670.2.1 && (bt662.2.2.1 == bt670.2.2.1 && (bt662.2.2.2 == bt670.2.2.2)))) = true then ((vec_Join.f t632 t633 t634 t635 t617 t618 t619 t620).bind fun bt674 => (if (bt674.1 == t632 && (bt674.2.1 == t633 && (bt674.2.2.1 == t634 && (bt674.2.2.2 == t635)))) = true then ((vec_Meet.f t637 t638 t639 t640 t617 t618 t619 t620).bind fun bt678 => (if (bt678.1 == t637 && (bt678.2.1 == t638 && (bt678.2.2.1 == t639 && (bt678.2.2.2 == t640)))) = true then ((vec_Leq.f t617 t618 t619 t620 t632 t633 t634 t635).bind fun t682 => (if t682 = true then ((vec_Leq.f t637 t638 t639 t640 t622 t623 t624 t625).bind fun t683 => (if t683 = true then ((vec_Join.f t617 t618 t619 t620 t637 t638 t639 t640).bind fun bt684 => (if (bt684.1 == t617 && (bt684.2.1 == t618 && (bt684.2.2.1 == t619 && (bt684.2.2.2 == t620)))) = true then ((vec_Meet.f t617 t618 t619 t620 t632 t633 t634 t635).bind fun bt688 => (if (bt688.1 == t617 && (bt688.2.1 == t618 && (bt688.2.2.1 == t619 && (bt688.2.2.2 == t620)))) = true then ((vec_Right.f t617 t618 t619 t620).bind fun t692 => (if t692 = true then (none) else (some true))) else (none))) else (none))) else (none))) else (none))) else (none))) else (none))) else (none))))) else (none))) = some r := H
  have A16 := Aside0.mk A160
  clear A160
  replace H := Option.bind_eq_some_iff.mp H
  obtain ⟨⟨t658, t659, t660, t661⟩, A170, H⟩ := H
  replace H : (if (t650 == t658 && (t651 == t659 && (t652 == t660 && (t653 == t661)))) = true then ((vec_Meet.f t637 t638 t639 t640 t627 t628 t629 t630).bind fun bt662 => ((vec_Meet.f t622 t623 t624 t625 t627 t628 t629 t630).bind fun bt666 => ((vec_Meet.f t617 t618 t619 t620 bt666.1 bt666.2.1 bt666.2.2.1 bt666.2.2.2).bind fun bt670 => (if (bt662.1 == bt670.1 && (bt662.2.1 == bt670.2.1 && (bt662.2.2.1 == bt670.2.2.1 && (bt662.2.2.2 == bt670.2.2.2)))) = true then ((vec_Join.f t632 t633 t634 t635 t617 t618 t619 t620).bind fun bt674 => (if (bt674.1 == t632 && (bt674.2.1 == t633 && (bt674.2.2.1 == t634 && (bt674.2.2.2 == t635)))) = true then ((vec_Meet.f t637 t638 t639 t640 t617 t618 t619 t620).bind fun bt678 => (if (bt678.1 == t637 && (bt678.2.1 == t638 && (bt678.2.2.1 == t639 && (bt678.2.2.2 == t640)))) = true then ((vec_Leq.f t617 t618 t619 t620 t632 t633 t634 t635).bind fun t682 => (if t682 = true then ((vec_Leq.f t637 t638 t639 t640 t622 t623 t624 t625).bind fun t683 => (if t683 = true then ((vec_Join.f t617 t618 t619 t620 t637 t638 t639 t640).bind fun bt684 => (if (bt684.1 == t617 && (bt684.2.1 == t618 && (bt684.2.2.1 == t619 && (bt684.2.2.2 == t620)))) = true then ((vec_Meet.f t617 t618 t619 t620 t632 t633 t634 t635).bind fun bt688 => (if (bt688.1 == t617 && (bt688.2.1 == t618 && (bt688.2.2.1 == t619 && (bt688.2.2.2 == t620)))) = true then ((vec_Right.f t617 t618 t619 t620).bind fun t692 => (if t692 = true then (none) else (some true))) else (none))) else (none))) else (none))) else (none))) else (none))) else (none))) else (none))))) else (none)) = some r := H
  have A17 := Aside0.mk A170
  clear A170
  by_cases c18 : (t650 == t658 && (t651 == t659 && (t652 == t660 && (t653 == t661)))) = true
  rotate_left
  · rw [if_neg c18] at H
    exact absurd H (by simp)
  rw [if_pos c18] at H
  have c18b0 : (t650 == t658 && (t651 == t659 && (t652 == t660 && (t653 == t661)))) = true := c18
  (try (have c18b1 : decide (t650 = t658 && (t651 == t659 && (t652 == t660 && (t653 == t661)))) = true := by simpa using c18))
  (try (have c18b2 : (t650 == t658 && (t651 == t659 && (t652 == t660 && (t653 == t661)))) = true := by simpa using c18))
  clear c18
  replace H := Option.bind_eq_some_iff.mp H
  obtain ⟨⟨t662, t663, t664, t665⟩, A190, H⟩ := H
  replace H : ((vec_Meet.f t622 t623 t624 t625 t627 t628 t629 t630).bind fun bt666 => ((vec_Meet.f t617 t618 t619 t620 bt666.1 bt666.2.1 bt666.2.2.1 bt666.2.2.2).bind fun bt670 => (if (t662 == bt670.1 && (t663 == bt670.2.1 && (t664 == bt670.2.2.1 && (t665 == bt670.2.2.2)))) = true then ((vec_Join.f t632 t633 t634 t635 t617 t618 t619 t620).bind fun bt674 => (if (bt674.1 == t632 && (bt674.2.1 == t633 && (bt674.2.2.1 == t634 && (bt674.2.2.2 == t635)))) = true then ((vec_Meet.f t637 t638 t639 t640 t617 t618 t619 t620).bind fun bt678 => (if (bt678.1 == t637 && (bt678.2.1 == t638 && (bt678.2.2.1 == t639 && (bt678.2.2.2 == t640)))) = true then ((vec_Leq.f t617 t618 t619 t620 t632 t633 t634 t635).bind fun t682 => (if t682 = true then ((vec_Leq.f t637 t638 t639 t640 t622 t623 t624 t625).bind fun t683 => (if t683 = true then ((vec_Join.f t617 t618 t619 t620 t637 t638 t639 t640).bind fun bt684 => (if (bt684.1 == t617 && (bt684.2.1 == t618 && (bt684.2.2.1 == t619 && (bt684.2.2.2 == t620)))) = true then ((vec_Meet.f t617 t618 t619 t620 t632 t633 t634 t635).bind fun bt688 => (if (bt688.1 == t617 && (bt688.2.1 == t618 && (bt688.2.2.1 == t619 && (bt688.2.2.2 == t620)))) = true then ((vec_Right.f t617 t618 t619 t620).bind fun t692 => (if t692 = true then (none) else (some true))) else (none))) else (none))) else (none))) else (none))) else (none))) else (none))) else (none)))) = some r := H
  have A19 := Aside0.mk A190
  clear A190
  replace H := Option.bind_eq_some_iff.mp H
  obtain ⟨⟨t666, t667, t668, t669⟩, A200, H⟩ := H
  replace H : ((vec_Meet.f t617 t618 t619 t620 t666 t667 t668 t669).bind fun bt670 => (if (t662 == bt670.1 && (t663 == bt670.2.1 && (t664 == bt670.2.2.1 && (t665 == bt670.2.2.2)))) = true then ((vec_Join.f t632 t633 t634 t635 t617 t618 t619 t620).bind fun bt674 => (if (bt674.1 == t632 && (bt674.2.1 == t633 && (bt674.2.2.1 == t634 && (bt674.2.2.2 == t635)))) = true then ((vec_Meet.f t637 t638 t639 t640 t617 t618 t619 t620).bind fun bt678 => (if (bt678.1 == t637 && (bt678.2.1 == t638 && (bt678.2.2.1 == t639 && (bt678.2.2.2 == t640)))) = true then ((vec_Leq.f t617 t618 t619 t620 t632 t633 t634 t635).bind fun t682 => (if t682 = true then ((vec_Leq.f t637 t638 t639 t640 t622 t623 t624 t625).bind fun t683 => (if t683 = true then ((vec_Join.f t617 t618 t619 t620 t637 t638 t639 t640).bind fun bt684 => (if (bt684.1 == t617 && (bt684.2.1 == t618 && (bt684.2.2.1 == t619 && (bt684.2.2.2 == t620)))) = true then ((vec_Meet.f t617 t618 t619 t620 t632 t633 t634 t635).bind fun bt688 => (if (bt688.1 == t617 && (bt688.2.1 == t618 && (bt688.2.2.1 == t619 && (bt688.2.2.2 == t620)))) = true then ((vec_Right.f t617 t618 t619 t620).bind fun t692 => (if t692 = true then (none) else (some true))) else (none))) else (none))) else (none))) else (none))) else (none))) else (none))) else (none))) = some r := H
  have A20 := Aside0.mk A200
  clear A200
  replace H := Option.bind_eq_some_iff.mp H
  obtain ⟨⟨t670, t671, t672, t673⟩, A210, H⟩ := H
  replace H : (if (t662 == t670 && (t663 == t671 && (t664 == t672 && (t665 == t673)))) = true then ((vec_Join.f t632 t633 t634 t635 t617 t618 t619 t620).bind fun bt674 => (if (bt674.1 == t632 && (bt674.2.1 == t633 && (bt674.2.2.1 == t634 && (bt674.2.2.2 == t635)))) = true then ((vec_Meet.f t637 t638 t639 t640 t617 t618 t619 t620).bind fun bt678 => (if (bt678.1 == t637 && (bt678.2.1 == t638 && (bt678.2.2.1 == t639 && (bt678.2.2.2 == t640)))) = true then ((vec_Leq.f t617 t618 t619 t620 t632 t633 t634 t635).bind fun t682 => (if t682 = true then ((vec_Leq.f t637 t638 t639 t640 t622 t623 t624 t625).bind fun t683 => (if t683 = true then ((vec_Join.f t617 t618 t619 t620 t637 t638 t639 t640).bind fun bt684 => (if (bt684.1 == t617 && (bt684.2.1 == t618 && (bt684.2.2.1 == t619 && (bt684.2.2.2 == t620)))) = true then ((vec_Meet.f t617 t618 t619 t620 t632 t633 t634 t635).bind fun bt688 => (if (bt688.1 == t617 && (bt688.2.1 == t618 && (bt688.2.2.1 == t619 && (bt688.2.2.2 == t620)))) = true then ((vec_Right.f t617 t618 t619 t620).bind fun t692 => (if t692 = true then (none) else (some true))) else (none))) else (none))) else (none))) else (none))) else (none))) else (none))) else (none)) = some r := H
  have A21 := Aside0.mk A210
  clear A210
  by_cases c22 : (t662 == t670 && (t663 == t671 && (t664 == t672 && (t665 == t673)))) = true
  rotate_left
  · rw [if_neg c22] at H
    exact absurd H (by simp)
  rw [if_pos c22] at H
  have c22b0 : (t662 == t670 && (t663 == t671 && (t664 == t672 && (t665 == t673)))) = true := c22
  (try (have c22b1 : decide (t662 = t670 && (t663 == t671 && (t664 == t672 && (t665 == t673)))) = true := by simpa using c22))
  (try (have c22b2 : (t662 == t670 && (t663 == t671 && (t664 == t672 && (t665 == t673)))) = true := by simpa using c22))
  clear c22
  replace H := Option.bind_eq_some_iff.mp H
  obtain ⟨⟨t674, t675, t676, t677⟩, A230, H⟩ := H
  replace H : (if (t674 == t632 && (t675 == t633 && (t676 == t634 && (t677 == t635)))) = true then ((vec_Meet.f t637 t638 t639 t640 t617 t618 t619 t620).bind fun bt678 => (if (bt678.1 == t637 && (bt678.2.1 == t638 && (bt678.2.2.1 == t639 && (bt678.2.2.2 == t640)))) = true then ((vec_Leq.f t617 t618 t619 t620 t632 t633 t634 t635).bind fun t682 => (if t682 = true then ((vec_Leq.f t637 t638 t639 t640 t622 t623 t624 t625).bind fun t683 => (if t683 = true then ((vec_Join.f t617 t618 t619 t620 t637 t638 t639 t640).bind fun bt684 => (if (bt684.1 == t617 && (bt684.2.1 == t618 && (bt684.2.2.1 == t619 && (bt684.2.2.2 == t620)))) = true then ((vec_Meet.f t617 t618 t619 t620 t632 t633 t634 t635).bind fun bt688 => (if (bt688.1 == t617 && (bt688.2.1 == t618 && (bt688.2.2.1 == t619 && (bt688.2.2.2 == t620)))) = true then ((vec_Right.f t617 t618 t619 t620).bind fun t692 => (if t692 = true then (none) else (some true))) else (none))) else (none))) else (none))) else (none))) else (none))) else (none)) = some r := H
  have A23 := Aside0.mk A230
  clear A230
  by_cases c24 : (t674 == t632 && (t675 == t633 && (t676 == t634 && (t677 == t635)))) = true
  rotate_left
  · rw [if_neg c24] at H
    exact absurd H (by simp)
  rw [if_pos c24] at H
  have c24b0 : (t674 == t632 && (t675 == t633 && (t676 == t634 && (t677 == t635)))) = true := c24
  (try (have c24b1 : decide (t674 = t632 && (t675 == t633 && (t676 == t634 && (t677 == t635)))) = true := by simpa using c24))
  (try (have c24b2 : (t674 == t632 && (t675 == t633 && (t676 == t634 && (t677 == t635)))) = true := by simpa using c24))
  clear c24
  replace H := Option.bind_eq_some_iff.mp H
  obtain ⟨⟨t678, t679, t680, t681⟩, A250, H⟩ := H
  replace H : (if (t678 == t637 && (t679 == t638 && (t680 == t639 && (t681 == t640)))) = true then ((vec_Leq.f t617 t618 t619 t620 t632 t633 t634 t635).bind fun t682 => (if t682 = true then ((vec_Leq.f t637 t638 t639 t640 t622 t623 t624 t625).bind fun t683 => (if t683 = true then ((vec_Join.f t617 t618 t619 t620 t637 t638 t639 t640).bind fun bt684 => (if (bt684.1 == t617 && (bt684.2.1 == t618 && (bt684.2.2.1 == t619 && (bt684.2.2.2 == t620)))) = true then ((vec_Meet.f t617 t618 t619 t620 t632 t633 t634 t635).bind fun bt688 => (if (bt688.1 == t617 && (bt688.2.1 == t618 && (bt688.2.2.1 == t619 && (bt688.2.2.2 == t620)))) = true then ((vec_Right.f t617 t618 t619 t620).bind fun t692 => (if t692 = true then (none) else (some true))) else (none))) else (none))) else (none))) else (none))) else (none)) = some r := H
  have A25 := Aside0.mk A250
  clear A250
  by_cases c26 : (t678 == t637 && (t679 == t638 && (t680 == t639 && (t681 == t640)))) = true
  rotate_left
  · rw [if_neg c26] at H
    exact absurd H (by simp)
  rw [if_pos c26] at H
  have c26b0 : (t678 == t637 && (t679 == t638 && (t680 == t639 && (t681 == t640)))) = true := c26
  (try (have c26b1 : decide (t678 = t637 && (t679 == t638 && (t680 == t639 && (t681 == t640)))) = true := by simpa using c26))
  (try (have c26b2 : (t678 == t637 && (t679 == t638 && (t680 == t639 && (t681 == t640)))) = true := by simpa using c26))
  clear c26
  replace H := Option.bind_eq_some_iff.mp H
  obtain ⟨t682, A270, H⟩ := H
  replace H : (if t682 = true then ((vec_Leq.f t637 t638 t639 t640 t622 t623 t624 t625).bind fun t683 => (if t683 = true then ((vec_Join.f t617 t618 t619 t620 t637 t638 t639 t640).bind fun bt684 => (if (bt684.1 == t617 && (bt684.2.1 == t618 && (bt684.2.2.1 == t619 && (bt684.2.2.2 == t620)))) = true then ((vec_Meet.f t617 t618 t619 t620 t632 t633 t634 t635).bind fun bt688 => (if (bt688.1 == t617 && (bt688.2.1 == t618 && (bt688.2.2.1 == t619 && (bt688.2.2.2 == t620)))) = true then ((vec_Right.f t617 t618 t619 t620).bind fun t692 => (if t692 = true then (none) else (some true))) else (none))) else (none))) else (none))) else (none)) = some r := H
  have A27 := Aside0.mk A270
  clear A270
  by_cases c28 : t682 = true
  rotate_left
  · replace c28 := Bool.eq_false_iff.mpr c28
    subst c28
    have H1 : (none) = some r := by rw [if_neg (show ¬ (false = true) by decide)] at H; exact H
    clear H
    have H := H1
    clear H1
    exact absurd H (by simp)
  subst c28
  have H1 : ((vec_Leq.f t637 t638 t639 t640 t622 t623 t624 t625).bind fun t683 => (if t683 = true then ((vec_Join.f t617 t618 t619 t620 t637 t638 t639 t640).bind fun bt684 => (if (bt684.1 == t617 && (bt684.2.1 == t618 && (bt684.2.2.1 == t619 && (bt684.2.2.2 == t620)))) = true then ((vec_Meet.f t617 t618 t619 t620 t632 t633 t634 t635).bind fun bt688 => (if (bt688.1 == t617 && (bt688.2.1 == t618 && (bt688.2.2.1 == t619 && (bt688.2.2.2 == t620)))) = true then ((vec_Right.f t617 t618 t619 t620).bind fun t692 => (if t692 = true then (none) else (some true))) else (none))) else (none))) else (none))) = some r := by rw [if_pos rfl] at H; exact H
  clear H
  have H := H1
  clear H1
  replace H := Option.bind_eq_some_iff.mp H
  obtain ⟨t683, A290, H⟩ := H
  replace H : (if t683 = true then ((vec_Join.f t617 t618 t619 t620 t637 t638 t639 t640).bind fun bt684 => (if (bt684.1 == t617 && (bt684.2.1 == t618 && (bt684.2.2.1 == t619 && (bt684.2.2.2 == t620)))) = true then ((vec_Meet.f t617 t618 t619 t620 t632 t633 t634 t635).bind fun bt688 => (if (bt688.1 == t617 && (bt688.2.1 == t618 && (bt688.2.2.1 == t619 && (bt688.2.2.2 == t620)))) = true then ((vec_Right.f t617 t618 t619 t620).bind fun t692 => (if t692 = true then (none) else (some true))) else (none))) else (none))) else (none)) = some r := H
  have A29 := Aside0.mk A290
  clear A290
  by_cases c30 : t683 = true
  rotate_left
  · replace c30 := Bool.eq_false_iff.mpr c30
    subst c30
    have H1 : (none) = some r := by rw [if_neg (show ¬ (false = true) by decide)] at H; exact H
    clear H
    have H := H1
    clear H1
    exact absurd H (by simp)
  subst c30
  have H1 : ((vec_Join.f t617 t618 t619 t620 t637 t638 t639 t640).bind fun bt684 => (if (bt684.1 == t617 && (bt684.2.1 == t618 && (bt684.2.2.1 == t619 && (bt684.2.2.2 == t620)))) = true then ((vec_Meet.f t617 t618 t619 t620 t632 t633 t634 t635).bind fun bt688 => (if (bt688.1 == t617 && (bt688.2.1 == t618 && (bt688.2.2.1 == t619 && (bt688.2.2.2 == t620)))) = true then ((vec_Right.f t617 t618 t619 t620).bind fun t692 => (if t692 = true then (none) else (some true))) else (none))) else (none))) = some r := by rw [if_pos rfl] at H; exact H
  clear H
  have H := H1
  clear H1
  replace H := Option.bind_eq_some_iff.mp H
  obtain ⟨⟨t684, t685, t686, t687⟩, A310, H⟩ := H
  replace H : (if (t684 == t617 && (t685 == t618 && (t686 == t619 && (t687 == t620)))) = true then ((vec_Meet.f t617 t618 t619 t620 t632 t633 t634 t635).bind fun bt688 => (if (bt688.1 == t617 && (bt688.2.1 == t618 && (bt688.2.2.1 == t619 && (bt688.2.2.2 == t620)))) = true then ((vec_Right.f t617 t618 t619 t620).bind fun t692 => (if t692 = true then (none) else (some true))) else (none))) else (none)) = some r := H
  have A31 := Aside0.mk A310
  clear A310
  by_cases c32 : (t684 == t617 && (t685 == t618 && (t686 == t619 && (t687 == t620)))) = true
  rotate_left
  · rw [if_neg c32] at H
    exact absurd H (by simp)
  rw [if_pos c32] at H
  have c32b0 : (t684 == t617 && (t685 == t618 && (t686 == t619 && (t687 == t620)))) = true := c32
  (try (have c32b1 : decide (t684 = t617 && (t685 == t618 && (t686 == t619 && (t687 == t620)))) = true := by simpa using c32))
  (try (have c32b2 : (t684 == t617 && (t685 == t618 && (t686 == t619 && (t687 == t620)))) = true := by simpa using c32))
  clear c32
  replace H := Option.bind_eq_some_iff.mp H
  obtain ⟨⟨t688, t689, t690, t691⟩, A330, H⟩ := H
  replace H : (if (t688 == t617 && (t689 == t618 && (t690 == t619 && (t691 == t620)))) = true then ((vec_Right.f t617 t618 t619 t620).bind fun t692 => (if t692 = true then (none) else (some true))) else (none)) = some r := H
  have A33 := Aside0.mk A330
  clear A330
  by_cases c34 : (t688 == t617 && (t689 == t618 && (t690 == t619 && (t691 == t620)))) = true
  rotate_left
  · rw [if_neg c34] at H
    exact absurd H (by simp)
  rw [if_pos c34] at H
  have c34b0 : (t688 == t617 && (t689 == t618 && (t690 == t619 && (t691 == t620)))) = true := c34
  (try (have c34b1 : decide (t688 = t617 && (t689 == t618 && (t690 == t619 && (t691 == t620)))) = true := by simpa using c34))
  (try (have c34b2 : (t688 == t617 && (t689 == t618 && (t690 == t619 && (t691 == t620)))) = true := by simpa using c34))
  clear c34
  replace H := Option.bind_eq_some_iff.mp H
  obtain ⟨t692, A350, H⟩ := H
  replace H : (if t692 = true then (none) else (some true)) = some r := H
  have A35 := Aside0.mk A350
  clear A350
  by_cases c36 : t692 = true
  · subst c36
    have H1 : (none) = some r := by rw [if_pos rfl] at H; exact H
    clear H
    have H := H1
    clear H1
    exact absurd H (by simp)
  replace c36 := Bool.eq_false_iff.mpr c36
  subst c36
  have H1 : (some true) = some r := by rw [if_neg (show ¬ (false = true) by decide)] at H; exact H
  clear H
  have H := H1
  clear H1
  obtain rfl := Option.some.inj H
  go_enter Tryd.func5, Tryd.ntmps5
  try go_wp2_with (first | ((with_reducible refine gate_dst (N := 3) rfl ?_); refine box_event ?hg (N := 3) ?hd (cs := #[.int .u64 a0_0, .int .u64 a0_1, .int .u64 a0_2, .int .u64 a0_3, .bool a0_4]) (t := 26) ?hr ?_; (case hd => rfl); (case hg => rfl); (case hr => first | (go_simp; done) | (go_simp; rfl)); intro gb613 hg w37 hbox hb; have n0_ := Aside0.mk (below_step (by repeat (first | (with_reducible first | exact HB.out | apply below_alloc | apply pw_below_drewN | apply below_drew1) | exact HB.out)) hb); have n1_ := Aside0.mk (hbox); have n2_ := Aside0.mk ((by rw [hg]; exact (below_size (by repeat (first | (with_reducible first | exact HB.out | apply below_alloc | apply pw_below_drewN | apply below_drew1) | exact HB.out))) : w.heap.size ≤ gb613)); have n3_ := Aside0.mk ((by rw [hg]; exact (below_size (by repeat (first | (with_reducible first | exact HB.out | apply below_alloc | apply pw_below_drewN | apply below_drew1) | exact HB.out))) : w.heap.size ≤ gb613)); clear HB; have HB := n0_; have BK613 := n1_; have GW613 := n2_; have GE613 := n3_; clear n0_ n1_ n2_ n3_; clear hb hbox hg) | ((with_reducible refine gate_dst (N := 4) rfl ?_); refine box_event ?hg (N := 4) ?hd (cs := #[.int .u64 a1_0, .int .u64 a1_1, .int .u64 a1_2, .int .u64 a1_3, .bool a1_4]) (t := 26) ?hr ?_; (case hd => rfl); (case hg => rfl); (case hr => first | (go_simp; done) | (go_simp; rfl)); intro gb614 hg w38 hbox hb; have n0_ := Aside0.mk (blk_below (g := gb613) (o := .cells #[.int .u64 a0_0, .int .u64 a0_1, .int .u64 a0_2, .int .u64 a0_3, .bool a0_4] 26 (0, 0)) (by (with_reducible repeat (first | refine blk_drewN ?_ _ | refine blk_drew ?_ | refine blk_alloc ?_ _)); exact BK613.out) hb); have n1_ := Aside0.mk (below_step (by repeat (first | (with_reducible first | exact HB.out | apply below_alloc | apply pw_below_drewN | apply below_drew1 | refine below_set ?_ GE613.out) | exact HB.out)) hb); have n2_ := Aside0.mk (hbox); have n3_ := Aside0.mk ((by rw [hg]; exact (below_size (by repeat (first | (with_reducible first | exact HB.out | apply below_alloc | apply pw_below_drewN | apply below_drew1 | refine below_set ?_ GE613.out) | exact HB.out))) : w.heap.size ≤ gb614)); have n4_ := Aside0.mk ((by rw [hg]; exact (below_size (by repeat (first | (with_reducible first | exact HB.out | apply below_alloc | apply pw_below_drewN | apply below_drew1 | refine below_set ?_ GE613.out) | exact HB.out))) : w.heap.size ≤ gb614)); have n5_ := Aside0.mk ((by rw [hg]; exact Nat.ne_of_lt (blk_lt (g := gb613) (o := .cells #[.int .u64 a0_0, .int .u64 a0_1, .int .u64 a0_2, .int .u64 a0_3, .bool a0_4] 26 (0, 0)) (by (with_reducible repeat (first | refine blk_drewN ?_ _ | refine blk_drew ?_ | refine blk_alloc ?_ _)); exact BK613.out)) : gb613 ≠ gb614)); have n6_ := Aside0.mk ((by rw [hg]; exact Nat.ne_of_gt (blk_lt (g := gb613) (o := .cells #[.int .u64 a0_0, .int .u64 a0_1, .int .u64 a0_2, .int .u64 a0_3, .bool a0_4] 26 (0, 0)) (by (with_reducible repeat (first | refine blk_drewN ?_ _ | refine blk_drew ?_ | refine blk_alloc ?_ _)); exact BK613.out)) : gb614 ≠ gb613)); clear BK613; clear HB; have BK613 := n0_; have HB := n1_; have BK614 := n2_; have GW614 := n3_; have GE614 := n4_; have NB613_614 := n5_; have NB614_613 := n6_; clear n0_ n1_ n2_ n3_ n4_ n5_ n6_; clear hb hbox hg) | ((with_reducible refine gate_dst (N := 5) rfl ?_); refine box_event ?hg (N := 5) ?hd (cs := #[.int .u64 a2_0, .int .u64 a2_1, .int .u64 a2_2, .int .u64 a2_3, .bool a2_4]) (t := 26) ?hr ?_; (case hd => rfl); (case hg => rfl); (case hr => first | (go_simp; done) | (go_simp; rfl)); intro gb615 hg w39 hbox hb; have n0_ := Aside0.mk (blk_below (g := gb613) (o := .cells #[.int .u64 a0_0, .int .u64 a0_1, .int .u64 a0_2, .int .u64 a0_3, .bool a0_4] 26 (0, 0)) (by (with_reducible repeat (first | refine blk_drewN ?_ _ | refine blk_drew ?_ | refine blk_alloc ?_ _)); exact BK613.out) hb); have n1_ := Aside0.mk (blk_below (g := gb614) (o := .cells #[.int .u64 a1_0, .int .u64 a1_1, .int .u64 a1_2, .int .u64 a1_3, .bool a1_4] 26 (0, 0)) (by (with_reducible repeat (first | refine blk_drewN ?_ _ | refine blk_drew ?_ | refine blk_alloc ?_ _)); exact BK614.out) hb); have n2_ := Aside0.mk (below_step (by repeat (first | (with_reducible first | exact HB.out | apply below_alloc | apply pw_below_drewN | apply below_drew1 | refine below_set ?_ GE613.out | refine below_set ?_ GE614.out) | exact HB.out)) hb); have n3_ := Aside0.mk (hbox); have n4_ := Aside0.mk ((by rw [hg]; exact (below_size (by repeat (first | (with_reducible first | exact HB.out | apply below_alloc | apply pw_below_drewN | apply below_drew1 | refine below_set ?_ GE613.out | refine below_set ?_ GE614.out) | exact HB.out))) : w.heap.size ≤ gb615)); have n5_ := Aside0.mk ((by rw [hg]; exact (below_size (by repeat (first | (with_reducible first | exact HB.out | apply below_alloc | apply pw_below_drewN | apply below_drew1 | refine below_set ?_ GE613.out | refine below_set ?_ GE614.out) | exact HB.out))) : w.heap.size ≤ gb615)); have n6_ := Aside0.mk ((by rw [hg]; exact Nat.ne_of_lt (blk_lt (g := gb613) (o := .cells #[.int .u64 a0_0, .int .u64 a0_1, .int .u64 a0_2, .int .u64 a0_3, .bool a0_4] 26 (0, 0)) (by (with_reducible repeat (first | refine blk_drewN ?_ _ | refine blk_drew ?_ | refine blk_alloc ?_ _)); exact BK613.out)) : gb613 ≠ gb615)); have n7_ := Aside0.mk ((by rw [hg]; exact Nat.ne_of_gt (blk_lt (g := gb613) (o := .cells #[.int .u64 a0_0, .int .u64 a0_1, .int .u64 a0_2, .int .u64 a0_3, .bool a0_4] 26 (0, 0)) (by (with_reducible repeat (first | refine blk_drewN ?_ _ | refine blk_drew ?_ | refine blk_alloc ?_ _)); exact BK613.out)) : gb615 ≠ gb613)); have n8_ := Aside0.mk ((by rw [hg]; exact Nat.ne_of_lt (blk_lt (g := gb614) (o := .cells #[.int .u64 a1_0, .int .u64 a1_1, .int .u64 a1_2, .int .u64 a1_3, .bool a1_4] 26 (0, 0)) (by (with_reducible repeat (first | refine blk_drewN ?_ _ | refine blk_drew ?_ | refine blk_alloc ?_ _)); exact BK614.out)) : gb614 ≠ gb615)); have n9_ := Aside0.mk ((by rw [hg]; exact Nat.ne_of_gt (blk_lt (g := gb614) (o := .cells #[.int .u64 a1_0, .int .u64 a1_1, .int .u64 a1_2, .int .u64 a1_3, .bool a1_4] 26 (0, 0)) (by (with_reducible repeat (first | refine blk_drewN ?_ _ | refine blk_drew ?_ | refine blk_alloc ?_ _)); exact BK614.out)) : gb615 ≠ gb614)); clear BK613; clear BK614; clear HB; have BK613 := n0_; have BK614 := n1_; have HB := n2_; have BK615 := n3_; have GW615 := n4_; have GE615 := n5_; have NB613_615 := n6_; have NB615_613 := n7_; have NB614_615 := n8_; have NB615_614 := n9_; clear n0_ n1_ n2_ n3_ n4_ n5_ n6_ n7_ n8_ n9_; clear hb hbox hg) | ((with_reducible refine gate_callee (f := 10) rfl ?_); refine goesL_ (some 13) rfl rfl Tryd.func10 (by kernel_rfl) rfl #[] rfl (by (try simp only [List.map_toArray, List.map_cons, List.map_nil]); first | done | rfl | (simp only [List.length_drop, List.length_take]; rfl)) ?_; (with_reducible refine (tenementlaw06_examples.calls k  true _ A4.out).mono ?_); rintro e w40 ⟨rfl, hb⟩; refine ⟨_, rfl, ?_⟩; have n0_ := Aside0.mk (blk_below (g := gb613) (o := .cells #[.int .u64 a0_0, .int .u64 a0_1, .int .u64 a0_2, .int .u64 a0_3, .bool a0_4] 26 (0, 0)) (by (with_reducible repeat (first | refine blk_drewN ?_ _ | refine blk_drew ?_ | refine blk_alloc ?_ _)); exact BK613.out) hb); have n1_ := Aside0.mk (blk_below (g := gb614) (o := .cells #[.int .u64 a1_0, .int .u64 a1_1, .int .u64 a1_2, .int .u64 a1_3, .bool a1_4] 26 (0, 0)) (by (with_reducible repeat (first | refine blk_drewN ?_ _ | refine blk_drew ?_ | refine blk_alloc ?_ _)); exact BK614.out) hb); have n2_ := Aside0.mk (blk_below (g := gb615) (o := .cells #[.int .u64 a2_0, .int .u64 a2_1, .int .u64 a2_2, .int .u64 a2_3, .bool a2_4] 26 (0, 0)) (by (with_reducible repeat (first | refine blk_drewN ?_ _ | refine blk_drew ?_ | refine blk_alloc ?_ _)); exact BK615.out) hb); have n3_ := Aside0.mk (below_step (by repeat (first | (with_reducible first | exact HB.out | apply below_alloc | apply pw_below_drewN | apply below_drew1 | refine below_set ?_ GE613.out | refine below_set ?_ GE614.out | refine below_set ?_ GE615.out) | exact HB.out)) hb); clear BK613; clear BK614; clear BK615; clear HB; have BK613 := n0_; have BK614 := n1_; have BK615 := n2_; have HB := n3_; clear n0_ n1_ n2_ n3_; (try clear hb); (try clear hb2); (try clear hk); (try clear hi); have hnb41 := NB613_614.out; have hnc41 := NB614_613.out; have hnb42 := NB613_615.out; have hnc42 := NB615_613.out; have hcz43_0 : w40.cell? ⟨gb613, 0, none⟩ = some (.int .u64 a0_0) := (blk_cell BK613.out 0).trans rfl; have hcz43_1 : w40.cell? ⟨gb613, 1, none⟩ = some (.int .u64 a0_1) := (blk_cell BK613.out 1).trans rfl; have hcz43_2 : w40.cell? ⟨gb613, 2, none⟩ = some (.int .u64 a0_2) := (blk_cell BK613.out 2).trans rfl; have hcz43_3 : w40.cell? ⟨gb613, 3, none⟩ = some (.int .u64 a0_3) := (blk_cell BK613.out 3).trans rfl; have hcz43_4 : w40.cell? ⟨gb613, 4, none⟩ = some (.bool a0_4) := (blk_cell BK613.out 4).trans rfl; have hfz43_0 := blk_frozen BK613.out 0; have hfz43_1 := blk_frozen BK613.out 1; have hfz43_2 := blk_frozen BK613.out 2; have hfz43_3 := blk_frozen BK613.out 3; have hfz43_4 := blk_frozen BK613.out 4) | ((with_reducible refine gate_callee (f := 11) rfl ?_); refine goesL_ (some 17) rfl rfl Tryd.func11 (by kernel_rfl) rfl #[.agg #[.int .u64 a0_0, .int .u64 a0_1, .int .u64 a0_2, .int .u64 a0_3, .bool a0_4]] rfl (by (try simp only [List.map_toArray, List.map_cons, List.map_nil]); first | done | rfl | (simp only [List.length_drop, List.length_take]; rfl)) ?_; (with_reducible refine (tenementlaw06_Vector_vector.calls k a0_0 a0_1 a0_2 a0_3 a0_4 t617 t618 t619 t620 _ A6.out).mono ?_); rintro e w44 ⟨rfl, hb⟩; refine ⟨_, rfl, ?_⟩; have n0_ := Aside0.mk (blk_below (g := gb613) (o := .cells #[.int .u64 a0_0, .int .u64 a0_1, .int .u64 a0_2, .int .u64 a0_3, .bool a0_4] 26 (0, 0)) (by (with_reducible repeat (first | refine blk_drewN ?_ _ | refine blk_drew ?_ | refine blk_alloc ?_ _)); exact BK613.out) hb); have n1_ := Aside0.mk (blk_below (g := gb614) (o := .cells #[.int .u64 a1_0, .int .u64 a1_1, .int .u64 a1_2, .int .u64 a1_3, .bool a1_4] 26 (0, 0)) (by (with_reducible repeat (first | refine blk_drewN ?_ _ | refine blk_drew ?_ | refine blk_alloc ?_ _)); exact BK614.out) hb); have n2_ := Aside0.mk (blk_below (g := gb615) (o := .cells #[.int .u64 a2_0, .int .u64 a2_1, .int .u64 a2_2, .int .u64 a2_3, .bool a2_4] 26 (0, 0)) (by (with_reducible repeat (first | refine blk_drewN ?_ _ | refine blk_drew ?_ | refine blk_alloc ?_ _)); exact BK615.out) hb); have n3_ := Aside0.mk (below_step (by repeat (first | (with_reducible first | exact HB.out | apply below_alloc | apply pw_below_drewN | apply below_drew1 | refine below_set ?_ GE613.out | refine below_set ?_ GE614.out | refine below_set ?_ GE615.out) | exact HB.out)) hb); clear BK613; clear BK614; clear BK615; clear HB; have BK613 := n0_; have BK614 := n1_; have BK615 := n2_; have HB := n3_; clear n0_ n1_ n2_ n3_; (try clear hb); (try clear hb2); (try clear hk); (try clear hi)) | ((with_reducible refine gate_dst (N := 8) rfl ?_); refine box_event ?hg (N := 8) ?hd (cs := #[.int .u64 0, .int .u64 0, .int .u64 0, .int .u64 0]) (t := 24) ?hr ?_; (case hd => rfl); (case hg => rfl); (case hr => first | (go_simp; done) | (go_simp; rfl)); intro gb621 hg w45 hbox hb; have n0_ := Aside0.mk (blk_below (g := gb613) (o := .cells #[.int .u64 a0_0, .int .u64 a0_1, .int .u64 a0_2, .int .u64 a0_3, .bool a0_4] 26 (0, 0)) (by (with_reducible repeat (first | refine blk_drewN ?_ _ | refine blk_drew ?_ | refine blk_alloc ?_ _)); exact BK613.out) hb); have n1_ := Aside0.mk (blk_below (g := gb614) (o := .cells #[.int .u64 a1_0, .int .u64 a1_1, .int .u64 a1_2, .int .u64 a1_3, .bool a1_4] 26 (0, 0)) (by (with_reducible repeat (first | refine blk_drewN ?_ _ | refine blk_drew ?_ | refine blk_alloc ?_ _)); exact BK614.out) hb); have n2_ := Aside0.mk (blk_below (g := gb615) (o := .cells #[.int .u64 a2_0, .int .u64 a2_1, .int .u64 a2_2, .int .u64 a2_3, .bool a2_4] 26 (0, 0)) (by (with_reducible repeat (first | refine blk_drewN ?_ _ | refine blk_drew ?_ | refine blk_alloc ?_ _)); exact BK615.out) hb); have n3_ := Aside0.mk (below_step (by repeat (first | (with_reducible first | exact HB.out | apply below_alloc | apply pw_below_drewN | apply below_drew1 | refine below_set ?_ GE613.out | refine below_set ?_ GE614.out | refine below_set ?_ GE615.out) | exact HB.out)) hb); have n4_ := Aside0.mk (hbox); have n5_ := Aside0.mk ((by rw [hg]; exact (below_size (by repeat (first | (with_reducible first | exact HB.out | apply below_alloc | apply pw_below_drewN | apply below_drew1 | refine below_set ?_ GE613.out | refine below_set ?_ GE614.out | refine below_set ?_ GE615.out) | exact HB.out))) : w.heap.size ≤ gb621)); have n6_ := Aside0.mk ((by rw [hg]; exact (below_size (by repeat (first | (with_reducible first | exact HB.out | apply below_alloc | apply pw_below_drewN | apply below_drew1 | refine below_set ?_ GE613.out | refine below_set ?_ GE614.out | refine below_set ?_ GE615.out) | exact HB.out))) : w.heap.size ≤ gb621)); have n7_ := Aside0.mk ((by rw [hg]; exact Nat.ne_of_lt (blk_lt (g := gb613) (o := .cells #[.int .u64 a0_0, .int .u64 a0_1, .int .u64 a0_2, .int .u64 a0_3, .bool a0_4] 26 (0, 0)) (by (with_reducible repeat (first | refine blk_drewN ?_ _ | refine blk_drew ?_ | refine blk_alloc ?_ _)); exact BK613.out)) : gb613 ≠ gb621)); have n8_ := Aside0.mk ((by rw [hg]; exact Nat.ne_of_gt (blk_lt (g := gb613) (o := .cells #[.int .u64 a0_0, .int .u64 a0_1, .int .u64 a0_2, .int .u64 a0_3, .bool a0_4] 26 (0, 0)) (by (with_reducible repeat (first | refine blk_drewN ?_ _ | refine blk_drew ?_ | refine blk_alloc ?_ _)); exact BK613.out)) : gb621 ≠ gb613)); have n9_ := Aside0.mk ((by rw [hg]; exact Nat.ne_of_lt (blk_lt (g := gb614) (o := .cells #[.int .u64 a1_0, .int .u64 a1_1, .int .u64 a1_2, .int .u64 a1_3, .bool a1_4] 26 (0, 0)) (by (with_reducible repeat (first | refine blk_drewN ?_ _ | refine blk_drew ?_ | refine blk_alloc ?_ _)); exact BK614.out)) : gb614 ≠ gb621)); have n10_ := Aside0.mk ((by rw [hg]; exact Nat.ne_of_gt (blk_lt (g := gb614) (o := .cells #[.int .u64 a1_0, .int .u64 a1_1, .int .u64 a1_2, .int .u64 a1_3, .bool a1_4] 26 (0, 0)) (by (with_reducible repeat (first | refine blk_drewN ?_ _ | refine blk_drew ?_ | refine blk_alloc ?_ _)); exact BK614.out)) : gb621 ≠ gb614)); have n11_ := Aside0.mk ((by rw [hg]; exact Nat.ne_of_lt (blk_lt (g := gb615) (o := .cells #[.int .u64 a2_0, .int .u64 a2_1, .int .u64 a2_2, .int .u64 a2_3, .bool a2_4] 26 (0, 0)) (by (with_reducible repeat (first | refine blk_drewN ?_ _ | refine blk_drew ?_ | refine blk_alloc ?_ _)); exact BK615.out)) : gb615 ≠ gb621)); have n12_ := Aside0.mk ((by rw [hg]; exact Nat.ne_of_gt (blk_lt (g := gb615) (o := .cells #[.int .u64 a2_0, .int .u64 a2_1, .int .u64 a2_2, .int .u64 a2_3, .bool a2_4] 26 (0, 0)) (by (with_reducible repeat (first | refine blk_drewN ?_ _ | refine blk_drew ?_ | refine blk_alloc ?_ _)); exact BK615.out)) : gb621 ≠ gb615)); clear BK613; clear BK614; clear BK615; clear HB; have BK613 := n0_; have BK614 := n1_; have BK615 := n2_; have HB := n3_; have BK621 := n4_; have GW621 := n5_; have GE621 := n6_; have NB613_621 := n7_; have NB621_613 := n8_; have NB614_621 := n9_; have NB621_614 := n10_; have NB615_621 := n11_; have NB621_615 := n12_; clear n0_ n1_ n2_ n3_ n4_ n5_ n6_ n7_ n8_ n9_ n10_ n11_ n12_; clear hb hbox hg; have hnb46 := NB621_613.out; have hnc46 := NB613_621.out; have hnb47 := NB621_614.out; have hnc47 := NB614_621.out; have hnb48 := NB621_615.out; have hnc48 := NB615_621.out; have hcz49_0 : w45.cell? ⟨gb621, 0, none⟩ = some (.int .u64 0) := (blk_cell BK621.out 0).trans rfl; have hcz49_1 : w45.cell? ⟨gb621, 1, none⟩ = some (.int .u64 0) := (blk_cell BK621.out 1).trans rfl; have hcz49_2 : w45.cell? ⟨gb621, 2, none⟩ = some (.int .u64 0) := (blk_cell BK621.out 2).trans rfl; have hcz49_3 : w45.cell? ⟨gb621, 3, none⟩ = some (.int .u64 0) := (blk_cell BK621.out 3).trans rfl; have hfz49_0 := blk_frozen BK621.out 0; have hfz49_1 := blk_frozen BK621.out 1; have hfz49_2 := blk_frozen BK621.out 2; have hfz49_3 := blk_frozen BK621.out 3; have hnb50 := NB614_615.out; have hnc50 := NB615_614.out; have hcz51_0 : w45.cell? ⟨gb614, 0, none⟩ = some (.int .u64 a1_0) := (blk_cell BK614.out 0).trans rfl; have hcz51_1 : w45.cell? ⟨gb614, 1, none⟩ = some (.int .u64 a1_1) := (blk_cell BK614.out 1).trans rfl; have hcz51_2 : w45.cell? ⟨gb614, 2, none⟩ = some (.int .u64 a1_2) := (blk_cell BK614.out 2).trans rfl; have hcz51_3 : w45.cell? ⟨gb614, 3, none⟩ = some (.int .u64 a1_3) := (blk_cell BK614.out 3).trans rfl; have hcz51_4 : w45.cell? ⟨gb614, 4, none⟩ = some (.bool a1_4) := (blk_cell BK614.out 4).trans rfl; have hfz51_0 := blk_frozen BK614.out 0; have hfz51_1 := blk_frozen BK614.out 1; have hfz51_2 := blk_frozen BK614.out 2; have hfz51_3 := blk_frozen BK614.out 3; have hfz51_4 := blk_frozen BK614.out 4) | ((with_reducible refine gate_callee (f := 11) rfl ?_); refine goesL_ (some 19) rfl rfl Tryd.func11 (by kernel_rfl) rfl #[.agg #[.int .u64 a1_0, .int .u64 a1_1, .int .u64 a1_2, .int .u64 a1_3, .bool a1_4]] rfl (by (try simp only [List.map_toArray, List.map_cons, List.map_nil]); first | done | rfl | (simp only [List.length_drop, List.length_take]; rfl)) ?_; (with_reducible refine (tenementlaw06_Vector_vector.calls k a1_0 a1_1 a1_2 a1_3 a1_4 t622 t623 t624 t625 _ A7.out).mono ?_); rintro e w52 ⟨rfl, hb⟩; refine ⟨_, rfl, ?_⟩; have n0_ := Aside0.mk (blk_below (g := gb613) (o := .cells #[.int .u64 a0_0, .int .u64 a0_1, .int .u64 a0_2, .int .u64 a0_3, .bool a0_4] 26 (0, 0)) (by (repeat (first | (with_reducible first | refine blk_drewN ?_ _ | refine blk_drew ?_ | refine blk_alloc ?_ _) | refine blk_far ?_ NB613_621.out _)); exact BK613.out) hb); have n1_ := Aside0.mk (blk_below (g := gb614) (o := .cells #[.int .u64 a1_0, .int .u64 a1_1, .int .u64 a1_2, .int .u64 a1_3, .bool a1_4] 26 (0, 0)) (by (repeat (first | (with_reducible first | refine blk_drewN ?_ _ | refine blk_drew ?_ | refine blk_alloc ?_ _) | refine blk_far ?_ NB614_621.out _)); exact BK614.out) hb); have n2_ := Aside0.mk (blk_below (g := gb615) (o := .cells #[.int .u64 a2_0, .int .u64 a2_1, .int .u64 a2_2, .int .u64 a2_3, .bool a2_4] 26 (0, 0)) (by (repeat (first | (with_reducible first | refine blk_drewN ?_ _ | refine blk_drew ?_ | refine blk_alloc ?_ _) | refine blk_far ?_ NB615_621.out _)); exact BK615.out) hb); have n3_ := Aside0.mk (blk_below (g := gb621) (o := .cells #[.int .u64 t617, .int .u64 t618, .int .u64 t619, .int .u64 t620] 24 (0, 0)) (by (with_reducible repeat (first | refine blk_drewN ?_ _ | refine blk_drew ?_ | refine blk_alloc ?_ _)); refine blk_put (cs := #[.int .u64 t617, .int .u64 t618, .int .u64 t619, .int .u64 0]) ?_ 3 _ rfl; (with_reducible repeat (first | refine blk_drewN ?_ _ | refine blk_drew ?_ | refine blk_alloc ?_ _)); refine blk_put (cs := #[.int .u64 t617, .int .u64 t618, .int .u64 0, .int .u64 0]) ?_ 2 _ rfl; (with_reducible repeat (first | refine blk_drewN ?_ _ | refine blk_drew ?_ | refine blk_alloc ?_ _)); refine blk_put (cs := #[.int .u64 t617, .int .u64 0, .int .u64 0, .int .u64 0]) ?_ 1 _ rfl; (with_reducible repeat (first | refine blk_drewN ?_ _ | refine blk_drew ?_ | refine blk_alloc ?_ _)); refine blk_put (cs := #[.int .u64 0, .int .u64 0, .int .u64 0, .int .u64 0]) ?_ 0 _ rfl; (with_reducible repeat (first | refine blk_drewN ?_ _ | refine blk_drew ?_ | refine blk_alloc ?_ _)); exact BK621.out) hb); have n4_ := Aside0.mk (below_step (by repeat (first | (with_reducible first | exact HB.out | apply below_alloc | apply pw_below_drewN | apply below_drew1 | refine below_set ?_ GE613.out | refine below_set ?_ GE614.out | refine below_set ?_ GE615.out | refine below_set ?_ GE621.out) | exact HB.out)) hb); clear BK613; clear BK614; clear BK615; clear BK621; clear HB; have BK613 := n0_; have BK614 := n1_; have BK615 := n2_; have BK621 := n3_; have HB := n4_; clear n0_ n1_ n2_ n3_ n4_; (try clear hb); (try clear hb2); (try clear hk); (try clear hi)) | ((with_reducible refine gate_dst (N := 9) rfl ?_); refine box_event ?hg (N := 9) ?hd (cs := #[.int .u64 0, .int .u64 0, .int .u64 0, .int .u64 0]) (t := 24) ?hr ?_; (case hd => rfl); (case hg => rfl); (case hr => first | (go_simp; done) | (go_simp; rfl)); intro gb626 hg w53 hbox hb; have n0_ := Aside0.mk (blk_below (g := gb613) (o := .cells #[.int .u64 a0_0, .int .u64 a0_1, .int .u64 a0_2, .int .u64 a0_3, .bool a0_4] 26 (0, 0)) (by (with_reducible repeat (first | refine blk_drewN ?_ _ | refine blk_drew ?_ | refine blk_alloc ?_ _)); exact BK613.out) hb); have n1_ := Aside0.mk (blk_below (g := gb614) (o := .cells #[.int .u64 a1_0, .int .u64 a1_1, .int .u64 a1_2, .int .u64 a1_3, .bool a1_4] 26 (0, 0)) (by (with_reducible repeat (first | refine blk_drewN ?_ _ | refine blk_drew ?_ | refine blk_alloc ?_ _)); exact BK614.out) hb); have n2_ := Aside0.mk (blk_below (g := gb615) (o := .cells #[.int .u64 a2_0, .int .u64 a2_1, .int .u64 a2_2, .int .u64 a2_3, .bool a2_4] 26 (0, 0)) (by (with_reducible repeat (first | refine blk_drewN ?_ _ | refine blk_drew ?_ | refine blk_alloc ?_ _)); exact BK615.out) hb); have n3_ := Aside0.mk (blk_below (g := gb621) (o := .cells #[.int .u64 t617, .int .u64 t618, .int .u64 t619, .int .u64 t620] 24 (0, 0)) (by (with_reducible repeat (first | refine blk_drewN ?_ _ | refine blk_drew ?_ | refine blk_alloc ?_ _)); exact BK621.out) hb); have n4_ := Aside0.mk (below_step (by repeat (first | (with_reducible first | exact HB.out | apply below_alloc | apply pw_below_drewN | apply below_drew1 | refine below_set ?_ GE613.out | refine below_set ?_ GE614.out | refine below_set ?_ GE615.out | refine below_set ?_ GE621.out) | exact HB.out)) hb); have n5_ := Aside0.mk (hbox); have n6_ := Aside0.mk ((by rw [hg]; exact (below_size (by repeat (first | (with_reducible first | exact HB.out | apply below_alloc | apply pw_below_drewN | apply below_drew1 | refine below_set ?_ GE613.out | refine below_set ?_ GE614.out | refine below_set ?_ GE615.out | refine below_set ?_ GE621.out) | exact HB.out))) : w.heap.size ≤ gb626)); have n7_ := Aside0.mk ((by rw [hg]; exact (below_size (by repeat (first | (with_reducible first | exact HB.out | apply below_alloc | apply pw_below_drewN | apply below_drew1 | refine below_set ?_ GE613.out | refine below_set ?_ GE614.out | refine below_set ?_ GE615.out | refine below_set ?_ GE621.out) | exact HB.out))) : w.heap.size ≤ gb626)); have n8_ := Aside0.mk ((by rw [hg]; exact Nat.ne_of_lt (blk_lt (g := gb613) (o := .cells #[.int .u64 a0_0, .int .u64 a0_1, .int .u64 a0_2, .int .u64 a0_3, .bool a0_4] 26 (0, 0)) (by (with_reducible repeat (first | refine blk_drewN ?_ _ | refine blk_drew ?_ | refine blk_alloc ?_ _)); exact BK613.out)) : gb613 ≠ gb626)); have n9_ := Aside0.mk ((by rw [hg]; exact Nat.ne_of_gt (blk_lt (g := gb613) (o := .cells #[.int .u64 a0_0, .int .u64 a0_1, .int .u64 a0_2, .int .u64 a0_3, .bool a0_4] 26 (0, 0)) (by (with_reducible repeat (first | refine blk_drewN ?_ _ | refine blk_drew ?_ | refine blk_alloc ?_ _)); exact BK613.out)) : gb626 ≠ gb613)); have n10_ := Aside0.mk ((by rw [hg]; exact Nat.ne_of_lt (blk_lt (g := gb614) (o := .cells #[.int .u64 a1_0, .int .u64 a1_1, .int .u64 a1_2, .int .u64 a1_3, .bool a1_4] 26 (0, 0)) (by (with_reducible repeat (first | refine blk_drewN ?_ _ | refine blk_drew ?_ | refine blk_alloc ?_ _)); exact BK614.out)) : gb614 ≠ gb626)); have n11_ := Aside0.mk ((by rw [hg]; exact Nat.ne_of_gt (blk_lt (g := gb614) (o := .cells #[.int .u64 a1_0, .int .u64 a1_1, .int .u64 a1_2, .int .u64 a1_3, .bool a1_4] 26 (0, 0)) (by (with_reducible repeat (first | refine blk_drewN ?_ _ | refine blk_drew ?_ | refine blk_alloc ?_ _)); exact BK614.out)) : gb626 ≠ gb614)); have n12_ := Aside0.mk ((by rw [hg]; exact Nat.ne_of_lt (blk_lt (g := gb615) (o := .cells #[.int .u64 a2_0, .int .u64 a2_1, .int .u64 a2_2, .int .u64 a2_3, .bool a2_4] 26 (0, 0)) (by (with_reducible repeat (first | refine blk_drewN ?_ _ | refine blk_drew ?_ | refine blk_alloc ?_ _)); exact BK615.out)) : gb615 ≠ gb626)); have n13_ := Aside0.mk ((by rw [hg]; exact Nat.ne_of_gt (blk_lt (g := gb615) (o := .cells #[.int .u64 a2_0, .int .u64 a2_1, .int .u64 a2_2, .int .u64 a2_3, .bool a2_4] 26 (0, 0)) (by (with_reducible repeat (first | refine blk_drewN ?_ _ | refine blk_drew ?_ | refine blk_alloc ?_ _)); exact BK615.out)) : gb626 ≠ gb615)); have n14_ := Aside0.mk ((by rw [hg]; exact Nat.ne_of_lt (blk_lt (g := gb621) (o := .cells #[.int .u64 t617, .int .u64 t618, .int .u64 t619, .int .u64 t620] 24 (0, 0)) (by (with_reducible repeat (first | refine blk_drewN ?_ _ | refine blk_drew ?_ | refine blk_alloc ?_ _)); exact BK621.out)) : gb621 ≠ gb626)); have n15_ := Aside0.mk ((by rw [hg]; exact Nat.ne_of_gt (blk_lt (g := gb621) (o := .cells #[.int .u64 t617, .int .u64 t618, .int .u64 t619, .int .u64 t620] 24 (0, 0)) (by (with_reducible repeat (first | refine blk_drewN ?_ _ | refine blk_drew ?_ | refine blk_alloc ?_ _)); exact BK621.out)) : gb626 ≠ gb621)); clear BK613; clear BK614; clear BK615; clear BK621; clear HB; have BK613 := n0_; have BK614 := n1_; have BK615 := n2_; have BK621 := n3_; have HB := n4_; have BK626 := n5_; have GW626 := n6_; have GE626 := n7_; have NB613_626 := n8_; have NB626_613 := n9_; have NB614_626 := n10_; have NB626_614 := n11_; have NB615_626 := n12_; have NB626_615 := n13_; have NB621_626 := n14_; have NB626_621 := n15_; clear n0_ n1_ n2_ n3_ n4_ n5_ n6_ n7_ n8_ n9_ n10_ n11_ n12_ n13_ n14_ n15_; clear hb hbox hg; have hnb54 := NB626_613.out; have hnc54 := NB613_626.out; have hnb55 := NB626_614.out; have hnc55 := NB614_626.out; have hnb56 := NB626_615.out; have hnc56 := NB615_626.out; have hnb57 := NB626_621.out; have hnc57 := NB621_626.out; have hcz58_0 : w53.cell? ⟨gb626, 0, none⟩ = some (.int .u64 0) := (blk_cell BK626.out 0).trans rfl; have hcz58_1 : w53.cell? ⟨gb626, 1, none⟩ = some (.int .u64 0) := (blk_cell BK626.out 1).trans rfl; have hcz58_2 : w53.cell? ⟨gb626, 2, none⟩ = some (.int .u64 0) := (blk_cell BK626.out 2).trans rfl; have hcz58_3 : w53.cell? ⟨gb626, 3, none⟩ = some (.int .u64 0) := (blk_cell BK626.out 3).trans rfl; have hfz58_0 := blk_frozen BK626.out 0; have hfz58_1 := blk_frozen BK626.out 1; have hfz58_2 := blk_frozen BK626.out 2; have hfz58_3 := blk_frozen BK626.out 3; have hcz59_0 : w53.cell? ⟨gb615, 0, none⟩ = some (.int .u64 a2_0) := (blk_cell BK615.out 0).trans rfl; have hcz59_1 : w53.cell? ⟨gb615, 1, none⟩ = some (.int .u64 a2_1) := (blk_cell BK615.out 1).trans rfl; have hcz59_2 : w53.cell? ⟨gb615, 2, none⟩ = some (.int .u64 a2_2) := (blk_cell BK615.out 2).trans rfl; have hcz59_3 : w53.cell? ⟨gb615, 3, none⟩ = some (.int .u64 a2_3) := (blk_cell BK615.out 3).trans rfl; have hcz59_4 : w53.cell? ⟨gb615, 4, none⟩ = some (.bool a2_4) := (blk_cell BK615.out 4).trans rfl; have hfz59_0 := blk_frozen BK615.out 0; have hfz59_1 := blk_frozen BK615.out 1; have hfz59_2 := blk_frozen BK615.out 2; have hfz59_3 := blk_frozen BK615.out 3; have hfz59_4 := blk_frozen BK615.out 4) | ((with_reducible refine gate_callee (f := 11) rfl ?_); refine goesL_ (some 21) rfl rfl Tryd.func11 (by kernel_rfl) rfl #[.agg #[.int .u64 a2_0, .int .u64 a2_1, .int .u64 a2_2, .int .u64 a2_3, .bool a2_4]] rfl (by (try simp only [List.map_toArray, List.map_cons, List.map_nil]); first | done | rfl | (simp only [List.length_drop, List.length_take]; rfl)) ?_; (with_reducible refine (tenementlaw06_Vector_vector.calls k a2_0 a2_1 a2_2 a2_3 a2_4 t627 t628 t629 t630 _ A8.out).mono ?_); rintro e w60 ⟨rfl, hb⟩; refine ⟨_, rfl, ?_⟩; have n0_ := Aside0.mk (blk_below (g := gb613) (o := .cells #[.int .u64 a0_0, .int .u64 a0_1, .int .u64 a0_2, .int .u64 a0_3, .bool a0_4] 26 (0, 0)) (by (repeat (first | (with_reducible first | refine blk_drewN ?_ _ | refine blk_drew ?_ | refine blk_alloc ?_ _) | refine blk_far ?_ NB613_626.out _)); exact BK613.out) hb); have n1_ := Aside0.mk (blk_below (g := gb614) (o := .cells #[.int .u64 a1_0, .int .u64 a1_1, .int .u64 a1_2, .int .u64 a1_3, .bool a1_4] 26 (0, 0)) (by (repeat (first | (with_reducible first | refine blk_drewN ?_ _ | refine blk_drew ?_ | refine blk_alloc ?_ _) | refine blk_far ?_ NB614_626.out _)); exact BK614.out) hb); have n2_ := Aside0.mk (blk_below (g := gb615) (o := .cells #[.int .u64 a2_0, .int .u64 a2_1, .int .u64 a2_2, .int .u64 a2_3, .bool a2_4] 26 (0, 0)) (by (repeat (first | (with_reducible first | refine blk_drewN ?_ _ | refine blk_drew ?_ | refine blk_alloc ?_ _) | refine blk_far ?_ NB615_626.out _)); exact BK615.out) hb); have n3_ := Aside0.mk (blk_below (g := gb621) (o := .cells #[.int .u64 t617, .int .u64 t618, .int .u64 t619, .int .u64 t620] 24 (0, 0)) (by (repeat (first | (with_reducible first | refine blk_drewN ?_ _ | refine blk_drew ?_ | refine blk_alloc ?_ _) | refine blk_far ?_ NB621_626.out _)); exact BK621.out) hb); have n4_ := Aside0.mk (blk_below (g := gb626) (o := .cells #[.int .u64 t622, .int .u64 t623, .int .u64 t624, .int .u64 t625] 24 (0, 0)) (by (with_reducible repeat (first | refine blk_drewN ?_ _ | refine blk_drew ?_ | refine blk_alloc ?_ _)); refine blk_put (cs := #[.int .u64 t622, .int .u64 t623, .int .u64 t624, .int .u64 0]) ?_ 3 _ rfl; (with_reducible repeat (first | refine blk_drewN ?_ _ | refine blk_drew ?_ | refine blk_alloc ?_ _)); refine blk_put (cs := #[.int .u64 t622, .int .u64 t623, .int .u64 0, .int .u64 0]) ?_ 2 _ rfl; (with_reducible repeat (first | refine blk_drewN ?_ _ | refine blk_drew ?_ | refine blk_alloc ?_ _)); refine blk_put (cs := #[.int .u64 t622, .int .u64 0, .int .u64 0, .int .u64 0]) ?_ 1 _ rfl; (with_reducible repeat (first | refine blk_drewN ?_ _ | refine blk_drew ?_ | refine blk_alloc ?_ _)); refine blk_put (cs := #[.int .u64 0, .int .u64 0, .int .u64 0, .int .u64 0]) ?_ 0 _ rfl; (with_reducible repeat (first | refine blk_drewN ?_ _ | refine blk_drew ?_ | refine blk_alloc ?_ _)); exact BK626.out) hb); have n5_ := Aside0.mk (below_step (by repeat (first | (with_reducible first | exact HB.out | apply below_alloc | apply pw_below_drewN | apply below_drew1 | refine below_set ?_ GE613.out | refine below_set ?_ GE614.out | refine below_set ?_ GE615.out | refine below_set ?_ GE621.out | refine below_set ?_ GE626.out) | exact HB.out)) hb); clear BK613; clear BK614; clear BK615; clear BK621; clear BK626; clear HB; have BK613 := n0_; have BK614 := n1_; have BK615 := n2_; have BK621 := n3_; have BK626 := n4_; have HB := n5_; clear n0_ n1_ n2_ n3_ n4_ n5_; (try clear hb); (try clear hb2); (try clear hk); (try clear hi)) | ((with_reducible refine gate_dst (N := 10) rfl ?_); refine box_event ?hg (N := 10) ?hd (cs := #[.int .u64 0, .int .u64 0, .int .u64 0, .int .u64 0]) (t := 24) ?hr ?_; (case hd => rfl); (case hg => rfl); (case hr => first | (go_simp; done) | (go_simp; rfl)); intro gb631 hg w61 hbox hb; have n0_ := Aside0.mk (blk_below (g := gb613) (o := .cells #[.int .u64 a0_0, .int .u64 a0_1, .int .u64 a0_2, .int .u64 a0_3, .bool a0_4] 26 (0, 0)) (by (with_reducible repeat (first | refine blk_drewN ?_ _ | refine blk_drew ?_ | refine blk_alloc ?_ _)); exact BK613.out) hb); have n1_ := Aside0.mk (blk_below (g := gb614) (o := .cells #[.int .u64 a1_0, .int .u64 a1_1, .int .u64 a1_2, .int .u64 a1_3, .bool a1_4] 26 (0, 0)) (by (with_reducible repeat (first | refine blk_drewN ?_ _ | refine blk_drew ?_ | refine blk_alloc ?_ _)); exact BK614.out) hb); have n2_ := Aside0.mk (blk_below (g := gb615) (o := .cells #[.int .u64 a2_0, .int .u64 a2_1, .int .u64 a2_2, .int .u64 a2_3, .bool a2_4] 26 (0, 0)) (by (with_reducible repeat (first | refine blk_drewN ?_ _ | refine blk_drew ?_ | refine blk_alloc ?_ _)); exact BK615.out) hb); have n3_ := Aside0.mk (blk_below (g := gb621) (o := .cells #[.int .u64 t617, .int .u64 t618, .int .u64 t619, .int .u64 t620] 24 (0, 0)) (by (with_reducible repeat (first | refine blk_drewN ?_ _ | refine blk_drew ?_ | refine blk_alloc ?_ _)); exact BK621.out) hb); have n4_ := Aside0.mk (blk_below (g := gb626) (o := .cells #[.int .u64 t622, .int .u64 t623, .int .u64 t624, .int .u64 t625] 24 (0, 0)) (by (with_reducible repeat (first | refine blk_drewN ?_ _ | refine blk_drew ?_ | refine blk_alloc ?_ _)); exact BK626.out) hb); have n5_ := Aside0.mk (below_step (by repeat (first | (with_reducible first | exact HB.out | apply below_alloc | apply pw_below_drewN | apply below_drew1 | refine below_set ?_ GE613.out | refine below_set ?_ GE614.out | refine below_set ?_ GE615.out | refine below_set ?_ GE621.out | refine below_set ?_ GE626.out) | exact HB.out)) hb); have n6_ := Aside0.mk (hbox); have n7_ := Aside0.mk ((by rw [hg]; exact (below_size (by repeat (first | (with_reducible first | exact HB.out | apply below_alloc | apply pw_below_drewN | apply below_drew1 | refine below_set ?_ GE613.out | refine below_set ?_ GE614.out | refine below_set ?_ GE615.out | refine below_set ?_ GE621.out | refine below_set ?_ GE626.out) | exact HB.out))) : w.heap.size ≤ gb631)); have n8_ := Aside0.mk ((by rw [hg]; exact (below_size (by repeat (first | (with_reducible first | exact HB.out | apply below_alloc | apply pw_below_drewN | apply below_drew1 | refine below_set ?_ GE613.out | refine below_set ?_ GE614.out | refine below_set ?_ GE615.out | refine below_set ?_ GE621.out | refine below_set ?_ GE626.out) | exact HB.out))) : w.heap.size ≤ gb631)); have n9_ := Aside0.mk ((by rw [hg]; exact Nat.ne_of_lt (blk_lt (g := gb613) (o := .cells #[.int .u64 a0_0, .int .u64 a0_1, .int .u64 a0_2, .int .u64 a0_3, .bool a0_4] 26 (0, 0)) (by (with_reducible repeat (first | refine blk_drewN ?_ _ | refine blk_drew ?_ | refine blk_alloc ?_ _)); exact BK613.out)) : gb613 ≠ gb631)); have n10_ := Aside0.mk ((by rw [hg]; exact Nat.ne_of_gt (blk_lt (g := gb613) (o := .cells #[.int .u64 a0_0, .int .u64 a0_1, .int .u64 a0_2, .int .u64 a0_3, .bool a0_4] 26 (0, 0)) (by (with_reducible repeat (first | refine blk_drewN ?_ _ | refine blk_drew ?_ | refine blk_alloc ?_ _)); exact BK613.out)) : gb631 ≠ gb613)); have n11_ := Aside0.mk ((by rw [hg]; exact Nat.ne_of_lt (blk_lt (g := gb614) (o := .cells #[.int .u64 a1_0, .int .u64 a1_1, .int .u64 a1_2, .int .u64 a1_3, .bool a1_4] 26 (0, 0)) (by (with_reducible repeat (first | refine blk_drewN ?_ _ | refine blk_drew ?_ | refine blk_alloc ?_ _)); exact BK614.out)) : gb614 ≠ gb631)); have n12_ := Aside0.mk ((by rw [hg]; exact Nat.ne_of_gt (blk_lt (g := gb614) (o := .cells #[.int .u64 a1_0, .int .u64 a1_1, .int .u64 a1_2, .int .u64 a1_3, .bool a1_4] 26 (0, 0)) (by (with_reducible repeat (first | refine blk_drewN ?_ _ | refine blk_drew ?_ | refine blk_alloc ?_ _)); exact BK614.out)) : gb631 ≠ gb614)); have n13_ := Aside0.mk ((by rw [hg]; exact Nat.ne_of_lt (blk_lt (g := gb615) (o := .cells #[.int .u64 a2_0, .int .u64 a2_1, .int .u64 a2_2, .int .u64 a2_3, .bool a2_4] 26 (0, 0)) (by (with_reducible repeat (first | refine blk_drewN ?_ _ | refine blk_drew ?_ | refine blk_alloc ?_ _)); exact BK615.out)) : gb615 ≠ gb631)); have n14_ := Aside0.mk ((by rw [hg]; exact Nat.ne_of_gt (blk_lt (g := gb615) (o := .cells #[.int .u64 a2_0, .int .u64 a2_1, .int .u64 a2_2, .int .u64 a2_3, .bool a2_4] 26 (0, 0)) (by (with_reducible repeat (first | refine blk_drewN ?_ _ | refine blk_drew ?_ | refine blk_alloc ?_ _)); exact BK615.out)) : gb631 ≠ gb615)); have n15_ := Aside0.mk ((by rw [hg]; exact Nat.ne_of_lt (blk_lt (g := gb621) (o := .cells #[.int .u64 t617, .int .u64 t618, .int .u64 t619, .int .u64 t620] 24 (0, 0)) (by (with_reducible repeat (first | refine blk_drewN ?_ _ | refine blk_drew ?_ | refine blk_alloc ?_ _)); exact BK621.out)) : gb621 ≠ gb631)); have n16_ := Aside0.mk ((by rw [hg]; exact Nat.ne_of_gt (blk_lt (g := gb621) (o := .cells #[.int .u64 t617, .int .u64 t618, .int .u64 t619, .int .u64 t620] 24 (0, 0)) (by (with_reducible repeat (first | refine blk_drewN ?_ _ | refine blk_drew ?_ | refine blk_alloc ?_ _)); exact BK621.out)) : gb631 ≠ gb621)); have n17_ := Aside0.mk ((by rw [hg]; exact Nat.ne_of_lt (blk_lt (g := gb626) (o := .cells #[.int .u64 t622, .int .u64 t623, .int .u64 t624, .int .u64 t625] 24 (0, 0)) (by (with_reducible repeat (first | refine blk_drewN ?_ _ | refine blk_drew ?_ | refine blk_alloc ?_ _)); exact BK626.out)) : gb626 ≠ gb631)); have n18_ := Aside0.mk ((by rw [hg]; exact Nat.ne_of_gt (blk_lt (g := gb626) (o := .cells #[.int .u64 t622, .int .u64 t623, .int .u64 t624, .int .u64 t625] 24 (0, 0)) (by (with_reducible repeat (first | refine blk_drewN ?_ _ | refine blk_drew ?_ | refine blk_alloc ?_ _)); exact BK626.out)) : gb631 ≠ gb626)); clear BK613; clear BK614; clear BK615; clear BK621; clear BK626; clear HB; have BK613 := n0_; have BK614 := n1_; have BK615 := n2_; have BK621 := n3_; have BK626 := n4_; have HB := n5_; have BK631 := n6_; have GW631 := n7_; have GE631 := n8_; have NB613_631 := n9_; have NB631_613 := n10_; have NB614_631 := n11_; have NB631_614 := n12_; have NB615_631 := n13_; have NB631_615 := n14_; have NB621_631 := n15_; have NB631_621 := n16_; have NB626_631 := n17_; have NB631_626 := n18_; clear n0_ n1_ n2_ n3_ n4_ n5_ n6_ n7_ n8_ n9_ n10_ n11_ n12_ n13_ n14_ n15_ n16_ n17_ n18_; clear hb hbox hg; have hnb62 := NB631_613.out; have hnc62 := NB613_631.out; have hnb63 := NB631_614.out; have hnc63 := NB614_631.out; have hnb64 := NB631_615.out; have hnc64 := NB615_631.out; have hnb65 := NB631_621.out; have hnc65 := NB621_631.out; have hnb66 := NB631_626.out; have hnc66 := NB626_631.out; have hcz67_0 : w61.cell? ⟨gb631, 0, none⟩ = some (.int .u64 0) := (blk_cell BK631.out 0).trans rfl; have hcz67_1 : w61.cell? ⟨gb631, 1, none⟩ = some (.int .u64 0) := (blk_cell BK631.out 1).trans rfl; have hcz67_2 : w61.cell? ⟨gb631, 2, none⟩ = some (.int .u64 0) := (blk_cell BK631.out 2).trans rfl; have hcz67_3 : w61.cell? ⟨gb631, 3, none⟩ = some (.int .u64 0) := (blk_cell BK631.out 3).trans rfl; have hfz67_0 := blk_frozen BK631.out 0; have hfz67_1 := blk_frozen BK631.out 1; have hfz67_2 := blk_frozen BK631.out 2; have hfz67_3 := blk_frozen BK631.out 3; have hcz68_0 : w61.cell? ⟨gb621, 0, none⟩ = some (.int .u64 t617) := (blk_cell BK621.out 0).trans rfl; have hcz68_1 : w61.cell? ⟨gb621, 1, none⟩ = some (.int .u64 t618) := (blk_cell BK621.out 1).trans rfl; have hcz68_2 : w61.cell? ⟨gb621, 2, none⟩ = some (.int .u64 t619) := (blk_cell BK621.out 2).trans rfl; have hcz68_3 : w61.cell? ⟨gb621, 3, none⟩ = some (.int .u64 t620) := (blk_cell BK621.out 3).trans rfl; have hfz68_0 := blk_frozen BK621.out 0; have hfz68_1 := blk_frozen BK621.out 1; have hfz68_2 := blk_frozen BK621.out 2; have hfz68_3 := blk_frozen BK621.out 3; have hcz69_0 : w61.cell? ⟨gb626, 0, none⟩ = some (.int .u64 t622) := (blk_cell BK626.out 0).trans rfl; have hcz69_1 : w61.cell? ⟨gb626, 1, none⟩ = some (.int .u64 t623) := (blk_cell BK626.out 1).trans rfl; have hcz69_2 : w61.cell? ⟨gb626, 2, none⟩ = some (.int .u64 t624) := (blk_cell BK626.out 2).trans rfl; have hcz69_3 : w61.cell? ⟨gb626, 3, none⟩ = some (.int .u64 t625) := (blk_cell BK626.out 3).trans rfl; have hfz69_0 := blk_frozen BK626.out 0; have hfz69_1 := blk_frozen BK626.out 1; have hfz69_2 := blk_frozen BK626.out 2; have hfz69_3 := blk_frozen BK626.out 3) | ((with_reducible refine gate_callee (f := 12) rfl ?_); refine goesL_ (some 24) rfl rfl Tryd.func12 (by kernel_rfl) rfl #[.agg #[.int .u64 t617, .int .u64 t618, .int .u64 t619, .int .u64 t620], .agg #[.int .u64 t622, .int .u64 t623, .int .u64 t624, .int .u64 t625]] rfl (by (try simp only [List.map_toArray, List.map_cons, List.map_nil]); first | done | rfl | (simp only [List.length_drop, List.length_take]; rfl)) ?_; (with_reducible refine (vec_Join.calls t617 t618 t619 t620 t622 t623 t624 t625 t632 t633 t634 t635 _ A9.out).mono ?_); rintro e w70 ⟨rfl, hb⟩; refine ⟨_, rfl, ?_⟩; have n0_ := Aside0.mk (blk_below (g := gb613) (o := .cells #[.int .u64 a0_0, .int .u64 a0_1, .int .u64 a0_2, .int .u64 a0_3, .bool a0_4] 26 (0, 0)) (by (repeat (first | (with_reducible first | refine blk_drewN ?_ _ | refine blk_drew ?_ | refine blk_alloc ?_ _) | refine blk_far ?_ NB613_631.out _)); exact BK613.out) hb); have n1_ := Aside0.mk (blk_below (g := gb614) (o := .cells #[.int .u64 a1_0, .int .u64 a1_1, .int .u64 a1_2, .int .u64 a1_3, .bool a1_4] 26 (0, 0)) (by (repeat (first | (with_reducible first | refine blk_drewN ?_ _ | refine blk_drew ?_ | refine blk_alloc ?_ _) | refine blk_far ?_ NB614_631.out _)); exact BK614.out) hb); have n2_ := Aside0.mk (blk_below (g := gb615) (o := .cells #[.int .u64 a2_0, .int .u64 a2_1, .int .u64 a2_2, .int .u64 a2_3, .bool a2_4] 26 (0, 0)) (by (repeat (first | (with_reducible first | refine blk_drewN ?_ _ | refine blk_drew ?_ | refine blk_alloc ?_ _) | refine blk_far ?_ NB615_631.out _)); exact BK615.out) hb); have n3_ := Aside0.mk (blk_below (g := gb621) (o := .cells #[.int .u64 t617, .int .u64 t618, .int .u64 t619, .int .u64 t620] 24 (0, 0)) (by (repeat (first | (with_reducible first | refine blk_drewN ?_ _ | refine blk_drew ?_ | refine blk_alloc ?_ _) | refine blk_far ?_ NB621_631.out _)); exact BK621.out) hb); have n4_ := Aside0.mk (blk_below (g := gb626) (o := .cells #[.int .u64 t622, .int .u64 t623, .int .u64 t624, .int .u64 t625] 24 (0, 0)) (by (repeat (first | (with_reducible first | refine blk_drewN ?_ _ | refine blk_drew ?_ | refine blk_alloc ?_ _) | refine blk_far ?_ NB626_631.out _)); exact BK626.out) hb); have n5_ := Aside0.mk (blk_below (g := gb631) (o := .cells #[.int .u64 t627, .int .u64 t628, .int .u64 t629, .int .u64 t630] 24 (0, 0)) (by (with_reducible repeat (first | refine blk_drewN ?_ _ | refine blk_drew ?_ | refine blk_alloc ?_ _)); refine blk_put (cs := #[.int .u64 t627, .int .u64 t628, .int .u64 t629, .int .u64 0]) ?_ 3 _ rfl; (with_reducible repeat (first | refine blk_drewN ?_ _ | refine blk_drew ?_ | refine blk_alloc ?_ _)); refine blk_put (cs := #[.int .u64 t627, .int .u64 t628, .int .u64 0, .int .u64 0]) ?_ 2 _ rfl; (with_reducible repeat (first | refine blk_drewN ?_ _ | refine blk_drew ?_ | refine blk_alloc ?_ _)); refine blk_put (cs := #[.int .u64 t627, .int .u64 0, .int .u64 0, .int .u64 0]) ?_ 1 _ rfl; (with_reducible repeat (first | refine blk_drewN ?_ _ | refine blk_drew ?_ | refine blk_alloc ?_ _)); refine blk_put (cs := #[.int .u64 0, .int .u64 0, .int .u64 0, .int .u64 0]) ?_ 0 _ rfl; (with_reducible repeat (first | refine blk_drewN ?_ _ | refine blk_drew ?_ | refine blk_alloc ?_ _)); exact BK631.out) hb); have n6_ := Aside0.mk (below_step (by repeat (first | (with_reducible first | exact HB.out | apply below_alloc | apply pw_below_drewN | apply below_drew1 | refine below_set ?_ GE613.out | refine below_set ?_ GE614.out | refine below_set ?_ GE615.out | refine below_set ?_ GE621.out | refine below_set ?_ GE626.out | refine below_set ?_ GE631.out) | exact HB.out)) hb); clear BK613; clear BK614; clear BK615; clear BK621; clear BK626; clear BK631; clear HB; have BK613 := n0_; have BK614 := n1_; have BK615 := n2_; have BK621 := n3_; have BK626 := n4_; have BK631 := n5_; have HB := n6_; clear n0_ n1_ n2_ n3_ n4_ n5_ n6_; (try clear hb); (try clear hb2); (try clear hk); (try clear hi)) | ((with_reducible refine gate_dst (N := 11) rfl ?_); refine box_event ?hg (N := 11) ?hd (cs := #[.int .u64 0, .int .u64 0, .int .u64 0, .int .u64 0]) (t := 24) ?hr ?_; (case hd => rfl); (case hg => rfl); (case hr => first | (go_simp; done) | (go_simp; rfl)); intro gb636 hg w71 hbox hb; have n0_ := Aside0.mk (blk_below (g := gb613) (o := .cells #[.int .u64 a0_0, .int .u64 a0_1, .int .u64 a0_2, .int .u64 a0_3, .bool a0_4] 26 (0, 0)) (by (with_reducible repeat (first | refine blk_drewN ?_ _ | refine blk_drew ?_ | refine blk_alloc ?_ _)); exact BK613.out) hb); have n1_ := Aside0.mk (blk_below (g := gb614) (o := .cells #[.int .u64 a1_0, .int .u64 a1_1, .int .u64 a1_2, .int .u64 a1_3, .bool a1_4] 26 (0, 0)) (by (with_reducible repeat (first | refine blk_drewN ?_ _ | refine blk_drew ?_ | refine blk_alloc ?_ _)); exact BK614.out) hb); have n2_ := Aside0.mk (blk_below (g := gb615) (o := .cells #[.int .u64 a2_0, .int .u64 a2_1, .int .u64 a2_2, .int .u64 a2_3, .bool a2_4] 26 (0, 0)) (by (with_reducible repeat (first | refine blk_drewN ?_ _ | refine blk_drew ?_ | refine blk_alloc ?_ _)); exact BK615.out) hb); have n3_ := Aside0.mk (blk_below (g := gb621) (o := .cells #[.int .u64 t617, .int .u64 t618, .int .u64 t619, .int .u64 t620] 24 (0, 0)) (by (with_reducible repeat (first | refine blk_drewN ?_ _ | refine blk_drew ?_ | refine blk_alloc ?_ _)); exact BK621.out) hb); have n4_ := Aside0.mk (blk_below (g := gb626) (o := .cells #[.int .u64 t622, .int .u64 t623, .int .u64 t624, .int .u64 t625] 24 (0, 0)) (by (with_reducible repeat (first | refine blk_drewN ?_ _ | refine blk_drew ?_ | refine blk_alloc ?_ _)); exact BK626.out) hb); have n5_ := Aside0.mk (blk_below (g := gb631) (o := .cells #[.int .u64 t627, .int .u64 t628, .int .u64 t629, .int .u64 t630] 24 (0, 0)) (by (with_reducible repeat (first | refine blk_drewN ?_ _ | refine blk_drew ?_ | refine blk_alloc ?_ _)); exact BK631.out) hb); have n6_ := Aside0.mk (below_step (by repeat (first | (with_reducible first | exact HB.out | apply below_alloc | apply pw_below_drewN | apply below_drew1 | refine below_set ?_ GE613.out | refine below_set ?_ GE614.out | refine below_set ?_ GE615.out | refine below_set ?_ GE621.out | refine below_set ?_ GE626.out | refine below_set ?_ GE631.out) | exact HB.out)) hb); have n7_ := Aside0.mk (hbox); have n8_ := Aside0.mk ((by rw [hg]; exact (below_size (by repeat (first | (with_reducible first | exact HB.out | apply below_alloc | apply pw_below_drewN | apply below_drew1 | refine below_set ?_ GE613.out | refine below_set ?_ GE614.out | refine below_set ?_ GE615.out | refine below_set ?_ GE621.out | refine below_set ?_ GE626.out | refine below_set ?_ GE631.out) | exact HB.out))) : w.heap.size ≤ gb636)); have n9_ := Aside0.mk ((by rw [hg]; exact (below_size (by repeat (first | (with_reducible first | exact HB.out | apply below_alloc | apply pw_below_drewN | apply below_drew1 | refine below_set ?_ GE613.out | refine below_set ?_ GE614.out | refine below_set ?_ GE615.out | refine below_set ?_ GE621.out | refine below_set ?_ GE626.out | refine below_set ?_ GE631.out) | exact HB.out))) : w.heap.size ≤ gb636)); have n10_ := Aside0.mk ((by rw [hg]; exact Nat.ne_of_lt (blk_lt (g := gb613) (o := .cells #[.int .u64 a0_0, .int .u64 a0_1, .int .u64 a0_2, .int .u64 a0_3, .bool a0_4] 26 (0, 0)) (by (with_reducible repeat (first | refine blk_drewN ?_ _ | refine blk_drew ?_ | refine blk_alloc ?_ _)); exact BK613.out)) : gb613 ≠ gb636)); have n11_ := Aside0.mk ((by rw [hg]; exact Nat.ne_of_gt (blk_lt (g := gb613) (o := .cells #[.int .u64 a0_0, .int .u64 a0_1, .int .u64 a0_2, .int .u64 a0_3, .bool a0_4] 26 (0, 0)) (by (with_reducible repeat (first | refine blk_drewN ?_ _ | refine blk_drew ?_ | refine blk_alloc ?_ _)); exact BK613.out)) : gb636 ≠ gb613)); have n12_ := Aside0.mk ((by rw [hg]; exact Nat.ne_of_lt (blk_lt (g := gb614) (o := .cells #[.int .u64 a1_0, .int .u64 a1_1, .int .u64 a1_2, .int .u64 a1_3, .bool a1_4] 26 (0, 0)) (by (with_reducible repeat (first | refine blk_drewN ?_ _ | refine blk_drew ?_ | refine blk_alloc ?_ _)); exact BK614.out)) : gb614 ≠ gb636)); have n13_ := Aside0.mk ((by rw [hg]; exact Nat.ne_of_gt (blk_lt (g := gb614) (o := .cells #[.int .u64 a1_0, .int .u64 a1_1, .int .u64 a1_2, .int .u64 a1_3, .bool a1_4] 26 (0, 0)) (by (with_reducible repeat (first | refine blk_drewN ?_ _ | refine blk_drew ?_ | refine blk_alloc ?_ _)); exact BK614.out)) : gb636 ≠ gb614)); have n14_ := Aside0.mk ((by rw [hg]; exact Nat.ne_of_lt (blk_lt (g := gb615) (o := .cells #[.int .u64 a2_0, .int .u64 a2_1, .int .u64 a2_2, .int .u64 a2_3, .bool a2_4] 26 (0, 0)) (by (with_reducible repeat (first | refine blk_drewN ?_ _ | refine blk_drew ?_ | refine blk_alloc ?_ _)); exact BK615.out)) : gb615 ≠ gb636)); have n15_ := Aside0.mk ((by rw [hg]; exact Nat.ne_of_gt (blk_lt (g := gb615) (o := .cells #[.int .u64 a2_0, .int .u64 a2_1, .int .u64 a2_2, .int .u64 a2_3, .bool a2_4] 26 (0, 0)) (by (with_reducible repeat (first | refine blk_drewN ?_ _ | refine blk_drew ?_ | refine blk_alloc ?_ _)); exact BK615.out)) : gb636 ≠ gb615)); have n16_ := Aside0.mk ((by rw [hg]; exact Nat.ne_of_lt (blk_lt (g := gb621) (o := .cells #[.int .u64 t617, .int .u64 t618, .int .u64 t619, .int .u64 t620] 24 (0, 0)) (by (with_reducible repeat (first | refine blk_drewN ?_ _ | refine blk_drew ?_ | refine blk_alloc ?_ _)); exact BK621.out)) : gb621 ≠ gb636)); have n17_ := Aside0.mk ((by rw [hg]; exact Nat.ne_of_gt (blk_lt (g := gb621) (o := .cells #[.int .u64 t617, .int .u64 t618, .int .u64 t619, .int .u64 t620] 24 (0, 0)) (by (with_reducible repeat (first | refine blk_drewN ?_ _ | refine blk_drew ?_ | refine blk_alloc ?_ _)); exact BK621.out)) : gb636 ≠ gb621)); have n18_ := Aside0.mk ((by rw [hg]; exact Nat.ne_of_lt (blk_lt (g := gb626) (o := .cells #[.int .u64 t622, .int .u64 t623, .int .u64 t624, .int .u64 t625] 24 (0, 0)) (by (with_reducible repeat (first | refine blk_drewN ?_ _ | refine blk_drew ?_ | refine blk_alloc ?_ _)); exact BK626.out)) : gb626 ≠ gb636)); have n19_ := Aside0.mk ((by rw [hg]; exact Nat.ne_of_gt (blk_lt (g := gb626) (o := .cells #[.int .u64 t622, .int .u64 t623, .int .u64 t624, .int .u64 t625] 24 (0, 0)) (by (with_reducible repeat (first | refine blk_drewN ?_ _ | refine blk_drew ?_ | refine blk_alloc ?_ _)); exact BK626.out)) : gb636 ≠ gb626)); have n20_ := Aside0.mk ((by rw [hg]; exact Nat.ne_of_lt (blk_lt (g := gb631) (o := .cells #[.int .u64 t627, .int .u64 t628, .int .u64 t629, .int .u64 t630] 24 (0, 0)) (by (with_reducible repeat (first | refine blk_drewN ?_ _ | refine blk_drew ?_ | refine blk_alloc ?_ _)); exact BK631.out)) : gb631 ≠ gb636)); have n21_ := Aside0.mk ((by rw [hg]; exact Nat.ne_of_gt (blk_lt (g := gb631) (o := .cells #[.int .u64 t627, .int .u64 t628, .int .u64 t629, .int .u64 t630] 24 (0, 0)) (by (with_reducible repeat (first | refine blk_drewN ?_ _ | refine blk_drew ?_ | refine blk_alloc ?_ _)); exact BK631.out)) : gb636 ≠ gb631)); clear BK613; clear BK614; clear BK615; clear BK621; clear BK626; clear BK631; clear HB; have BK613 := n0_; have BK614 := n1_; have BK615 := n2_; have BK621 := n3_; have BK626 := n4_; have BK631 := n5_; have HB := n6_; have BK636 := n7_; have GW636 := n8_; have GE636 := n9_; have NB613_636 := n10_; have NB636_613 := n11_; have NB614_636 := n12_; have NB636_614 := n13_; have NB615_636 := n14_; have NB636_615 := n15_; have NB621_636 := n16_; have NB636_621 := n17_; have NB626_636 := n18_; have NB636_626 := n19_; have NB631_636 := n20_; have NB636_631 := n21_; clear n0_ n1_ n2_ n3_ n4_ n5_ n6_ n7_ n8_ n9_ n10_ n11_ n12_ n13_ n14_ n15_ n16_ n17_ n18_ n19_ n20_ n21_; clear hb hbox hg; have hnb72 := NB636_613.out; have hnc72 := NB613_636.out; have hnb73 := NB636_614.out; have hnc73 := NB614_636.out; have hnb74 := NB636_615.out; have hnc74 := NB615_636.out; have hnb75 := NB636_621.out; have hnc75 := NB621_636.out; have hnb76 := NB636_626.out; have hnc76 := NB626_636.out; have hnb77 := NB636_631.out; have hnc77 := NB631_636.out; have hcz78_0 : w71.cell? ⟨gb636, 0, none⟩ = some (.int .u64 0) := (blk_cell BK636.out 0).trans rfl; have hcz78_1 : w71.cell? ⟨gb636, 1, none⟩ = some (.int .u64 0) := (blk_cell BK636.out 1).trans rfl; have hcz78_2 : w71.cell? ⟨gb636, 2, none⟩ = some (.int .u64 0) := (blk_cell BK636.out 2).trans rfl; have hcz78_3 : w71.cell? ⟨gb636, 3, none⟩ = some (.int .u64 0) := (blk_cell BK636.out 3).trans rfl; have hfz78_0 := blk_frozen BK636.out 0; have hfz78_1 := blk_frozen BK636.out 1; have hfz78_2 := blk_frozen BK636.out 2; have hfz78_3 := blk_frozen BK636.out 3; have hcz79_0 : w71.cell? ⟨gb621, 0, none⟩ = some (.int .u64 t617) := (blk_cell BK621.out 0).trans rfl; have hcz79_1 : w71.cell? ⟨gb621, 1, none⟩ = some (.int .u64 t618) := (blk_cell BK621.out 1).trans rfl; have hcz79_2 : w71.cell? ⟨gb621, 2, none⟩ = some (.int .u64 t619) := (blk_cell BK621.out 2).trans rfl; have hcz79_3 : w71.cell? ⟨gb621, 3, none⟩ = some (.int .u64 t620) := (blk_cell BK621.out 3).trans rfl; have hfz79_0 := blk_frozen BK621.out 0; have hfz79_1 := blk_frozen BK621.out 1; have hfz79_2 := blk_frozen BK621.out 2; have hfz79_3 := blk_frozen BK621.out 3; have hcz80_0 : w71.cell? ⟨gb626, 0, none⟩ = some (.int .u64 t622) := (blk_cell BK626.out 0).trans rfl; have hcz80_1 : w71.cell? ⟨gb626, 1, none⟩ = some (.int .u64 t623) := (blk_cell BK626.out 1).trans rfl; have hcz80_2 : w71.cell? ⟨gb626, 2, none⟩ = some (.int .u64 t624) := (blk_cell BK626.out 2).trans rfl; have hcz80_3 : w71.cell? ⟨gb626, 3, none⟩ = some (.int .u64 t625) := (blk_cell BK626.out 3).trans rfl; have hfz80_0 := blk_frozen BK626.out 0; have hfz80_1 := blk_frozen BK626.out 1; have hfz80_2 := blk_frozen BK626.out 2; have hfz80_3 := blk_frozen BK626.out 3) | ((with_reducible refine gate_callee (f := 14) rfl ?_); refine goesL_ (some 27) rfl rfl Tryd.func14 (by kernel_rfl) rfl #[.agg #[.int .u64 t617, .int .u64 t618, .int .u64 t619, .int .u64 t620], .agg #[.int .u64 t622, .int .u64 t623, .int .u64 t624, .int .u64 t625]] rfl (by (try simp only [List.map_toArray, List.map_cons, List.map_nil]); first | done | rfl | (simp only [List.length_drop, List.length_take]; rfl)) ?_; (with_reducible refine (vec_Meet.calls t617 t618 t619 t620 t622 t623 t624 t625 t637 t638 t639 t640 _ A10.out).mono ?_); rintro e w81 ⟨rfl, hb⟩; refine ⟨_, rfl, ?_⟩; have n0_ := Aside0.mk (blk_below (g := gb613) (o := .cells #[.int .u64 a0_0, .int .u64 a0_1, .int .u64 a0_2, .int .u64 a0_3, .bool a0_4] 26 (0, 0)) (by (repeat (first | (with_reducible first | refine blk_drewN ?_ _ | refine blk_drew ?_ | refine blk_alloc ?_ _) | refine blk_far ?_ NB613_636.out _)); exact BK613.out) hb); have n1_ := Aside0.mk (blk_below (g := gb614) (o := .cells #[.int .u64 a1_0, .int .u64 a1_1, .int .u64 a1_2, .int .u64 a1_3, .bool a1_4] 26 (0, 0)) (by (repeat (first | (with_reducible first | refine blk_drewN ?_ _ | refine blk_drew ?_ | refine blk_alloc ?_ _) | refine blk_far ?_ NB614_636.out _)); exact BK614.out) hb); have n2_ := Aside0.mk (blk_below (g := gb615) (o := .cells #[.int .u64 a2_0, .int .u64 a2_1, .int .u64 a2_2, .int .u64 a2_3, .bool a2_4] 26 (0, 0)) (by (repeat (first | (with_reducible first | refine blk_drewN ?_ _ | refine blk_drew ?_ | refine blk_alloc ?_ _) | refine blk_far ?_ NB615_636.out _)); exact BK615.out) hb); have n3_ := Aside0.mk (blk_below (g := gb621) (o := .cells #[.int .u64 t617, .int .u64 t618, .int .u64 t619, .int .u64 t620] 24 (0, 0)) (by (repeat (first | (with_reducible first | refine blk_drewN ?_ _ | refine blk_drew ?_ | refine blk_alloc ?_ _) | refine blk_far ?_ NB621_636.out _)); exact BK621.out) hb); have n4_ := Aside0.mk (blk_below (g := gb626) (o := .cells #[.int .u64 t622, .int .u64 t623, .int .u64 t624, .int .u64 t625] 24 (0, 0)) (by (repeat (first | (with_reducible first | refine blk_drewN ?_ _ | refine blk_drew ?_ | refine blk_alloc ?_ _) | refine blk_far ?_ NB626_636.out _)); exact BK626.out) hb); have n5_ := Aside0.mk (blk_below (g := gb631) (o := .cells #[.int .u64 t627, .int .u64 t628, .int .u64 t629, .int .u64 t630] 24 (0, 0)) (by (repeat (first | (with_reducible first | refine blk_drewN ?_ _ | refine blk_drew ?_ | refine blk_alloc ?_ _) | refine blk_far ?_ NB631_636.out _)); exact BK631.out) hb); have n6_ := Aside0.mk (blk_below (g := gb636) (o := .cells #[.int .u64 t632, .int .u64 t633, .int .u64 t634, .int .u64 t635] 24 (0, 0)) (by (with_reducible repeat (first | refine blk_drewN ?_ _ | refine blk_drew ?_ | refine blk_alloc ?_ _)); refine blk_put (cs := #[.int .u64 t632, .int .u64 t633, .int .u64 t634, .int .u64 0]) ?_ 3 _ rfl; (with_reducible repeat (first | refine blk_drewN ?_ _ | refine blk_drew ?_ | refine blk_alloc ?_ _)); refine blk_put (cs := #[.int .u64 t632, .int .u64 t633, .int .u64 0, .int .u64 0]) ?_ 2 _ rfl; (with_reducible repeat (first | refine blk_drewN ?_ _ | refine blk_drew ?_ | refine blk_alloc ?_ _)); refine blk_put (cs := #[.int .u64 t632, .int .u64 0, .int .u64 0, .int .u64 0]) ?_ 1 _ rfl; (with_reducible repeat (first | refine blk_drewN ?_ _ | refine blk_drew ?_ | refine blk_alloc ?_ _)); refine blk_put (cs := #[.int .u64 0, .int .u64 0, .int .u64 0, .int .u64 0]) ?_ 0 _ rfl; (with_reducible repeat (first | refine blk_drewN ?_ _ | refine blk_drew ?_ | refine blk_alloc ?_ _)); exact BK636.out) hb); have n7_ := Aside0.mk (below_step (by repeat (first | (with_reducible first | exact HB.out | apply below_alloc | apply pw_below_drewN | apply below_drew1 | refine below_set ?_ GE613.out | refine below_set ?_ GE614.out | refine below_set ?_ GE615.out | refine below_set ?_ GE621.out | refine below_set ?_ GE626.out | refine below_set ?_ GE631.out | refine below_set ?_ GE636.out) | exact HB.out)) hb); clear BK613; clear BK614; clear BK615; clear BK621; clear BK626; clear BK631; clear BK636; clear HB; have BK613 := n0_; have BK614 := n1_; have BK615 := n2_; have BK621 := n3_; have BK626 := n4_; have BK631 := n5_; have BK636 := n6_; have HB := n7_; clear n0_ n1_ n2_ n3_ n4_ n5_ n6_ n7_; (try clear hb); (try clear hb2); (try clear hk); (try clear hi)) | ((with_reducible refine gate_dst (N := 12) rfl ?_); refine box_event ?hg (N := 12) ?hd (cs := #[.int .u64 0, .int .u64 0, .int .u64 0, .int .u64 0]) (t := 24) ?hr ?_; (case hd => rfl); (case hg => rfl); (case hr => first | (go_simp; done) | (go_simp; rfl)); intro gb641 hg w82 hbox hb; have n0_ := Aside0.mk (blk_below (g := gb613) (o := .cells #[.int .u64 a0_0, .int .u64 a0_1, .int .u64 a0_2, .int .u64 a0_3, .bool a0_4] 26 (0, 0)) (by (with_reducible repeat (first | refine blk_drewN ?_ _ | refine blk_drew ?_ | refine blk_alloc ?_ _)); exact BK613.out) hb); have n1_ := Aside0.mk (blk_below (g := gb614) (o := .cells #[.int .u64 a1_0, .int .u64 a1_1, .int .u64 a1_2, .int .u64 a1_3, .bool a1_4] 26 (0, 0)) (by (with_reducible repeat (first | refine blk_drewN ?_ _ | refine blk_drew ?_ | refine blk_alloc ?_ _)); exact BK614.out) hb); have n2_ := Aside0.mk (blk_below (g := gb615) (o := .cells #[.int .u64 a2_0, .int .u64 a2_1, .int .u64 a2_2, .int .u64 a2_3, .bool a2_4] 26 (0, 0)) (by (with_reducible repeat (first | refine blk_drewN ?_ _ | refine blk_drew ?_ | refine blk_alloc ?_ _)); exact BK615.out) hb); have n3_ := Aside0.mk (blk_below (g := gb621) (o := .cells #[.int .u64 t617, .int .u64 t618, .int .u64 t619, .int .u64 t620] 24 (0, 0)) (by (with_reducible repeat (first | refine blk_drewN ?_ _ | refine blk_drew ?_ | refine blk_alloc ?_ _)); exact BK621.out) hb); have n4_ := Aside0.mk (blk_below (g := gb626) (o := .cells #[.int .u64 t622, .int .u64 t623, .int .u64 t624, .int .u64 t625] 24 (0, 0)) (by (with_reducible repeat (first | refine blk_drewN ?_ _ | refine blk_drew ?_ | refine blk_alloc ?_ _)); exact BK626.out) hb); have n5_ := Aside0.mk (blk_below (g := gb631) (o := .cells #[.int .u64 t627, .int .u64 t628, .int .u64 t629, .int .u64 t630] 24 (0, 0)) (by (with_reducible repeat (first | refine blk_drewN ?_ _ | refine blk_drew ?_ | refine blk_alloc ?_ _)); exact BK631.out) hb); have n6_ := Aside0.mk (blk_below (g := gb636) (o := .cells #[.int .u64 t632, .int .u64 t633, .int .u64 t634, .int .u64 t635] 24 (0, 0)) (by (with_reducible repeat (first | refine blk_drewN ?_ _ | refine blk_drew ?_ | refine blk_alloc ?_ _)); exact BK636.out) hb); have n7_ := Aside0.mk (below_step (by repeat (first | (with_reducible first | exact HB.out | apply below_alloc | apply pw_below_drewN | apply below_drew1 | refine below_set ?_ GE613.out | refine below_set ?_ GE614.out | refine below_set ?_ GE615.out | refine below_set ?_ GE621.out | refine below_set ?_ GE626.out | refine below_set ?_ GE631.out | refine below_set ?_ GE636.out) | exact HB.out)) hb); have n8_ := Aside0.mk (hbox); have n9_ := Aside0.mk ((by rw [hg]; exact (below_size (by repeat (first | (with_reducible first | exact HB.out | apply below_alloc | apply pw_below_drewN | apply below_drew1 | refine below_set ?_ GE613.out | refine below_set ?_ GE614.out | refine below_set ?_ GE615.out | refine below_set ?_ GE621.out | refine below_set ?_ GE626.out | refine below_set ?_ GE631.out | refine below_set ?_ GE636.out) | exact HB.out))) : w.heap.size ≤ gb641)); have n10_ := Aside0.mk ((by rw [hg]; exact (below_size (by repeat (first | (with_reducible first | exact HB.out | apply below_alloc | apply pw_below_drewN | apply below_drew1 | refine below_set ?_ GE613.out | refine below_set ?_ GE614.out | refine below_set ?_ GE615.out | refine below_set ?_ GE621.out | refine below_set ?_ GE626.out | refine below_set ?_ GE631.out | refine below_set ?_ GE636.out) | exact HB.out))) : w.heap.size ≤ gb641)); have n11_ := Aside0.mk ((by rw [hg]; exact Nat.ne_of_lt (blk_lt (g := gb613) (o := .cells #[.int .u64 a0_0, .int .u64 a0_1, .int .u64 a0_2, .int .u64 a0_3, .bool a0_4] 26 (0, 0)) (by (with_reducible repeat (first | refine blk_drewN ?_ _ | refine blk_drew ?_ | refine blk_alloc ?_ _)); exact BK613.out)) : gb613 ≠ gb641)); have n12_ := Aside0.mk ((by rw [hg]; exact Nat.ne_of_gt (blk_lt (g := gb613) (o := .cells #[.int .u64 a0_0, .int .u64 a0_1, .int .u64 a0_2, .int .u64 a0_3, .bool a0_4] 26 (0, 0)) (by (with_reducible repeat (first | refine blk_drewN ?_ _ | refine blk_drew ?_ | refine blk_alloc ?_ _)); exact BK613.out)) : gb641 ≠ gb613)); have n13_ := Aside0.mk ((by rw [hg]; exact Nat.ne_of_lt (blk_lt (g := gb614) (o := .cells #[.int .u64 a1_0, .int .u64 a1_1, .int .u64 a1_2, .int .u64 a1_3, .bool a1_4] 26 (0, 0)) (by (with_reducible repeat (first | refine blk_drewN ?_ _ | refine blk_drew ?_ | refine blk_alloc ?_ _)); exact BK614.out)) : gb614 ≠ gb641)); have n14_ := Aside0.mk ((by rw [hg]; exact Nat.ne_of_gt (blk_lt (g := gb614) (o := .cells #[.int .u64 a1_0, .int .u64 a1_1, .int .u64 a1_2, .int .u64 a1_3, .bool a1_4] 26 (0, 0)) (by (with_reducible repeat (first | refine blk_drewN ?_ _ | refine blk_drew ?_ | refine blk_alloc ?_ _)); exact BK614.out)) : gb641 ≠ gb614)); have n15_ := Aside0.mk ((by rw [hg]; exact Nat.ne_of_lt (blk_lt (g := gb615) (o := .cells #[.int .u64 a2_0, .int .u64 a2_1, .int .u64 a2_2, .int .u64 a2_3, .bool a2_4] 26 (0, 0)) (by (with_reducible repeat (first | refine blk_drewN ?_ _ | refine blk_drew ?_ | refine blk_alloc ?_ _)); exact BK615.out)) : gb615 ≠ gb641)); have n16_ := Aside0.mk ((by rw [hg]; exact Nat.ne_of_gt (blk_lt (g := gb615) (o := .cells #[.int .u64 a2_0, .int .u64 a2_1, .int .u64 a2_2, .int .u64 a2_3, .bool a2_4] 26 (0, 0)) (by (with_reducible repeat (first | refine blk_drewN ?_ _ | refine blk_drew ?_ | refine blk_alloc ?_ _)); exact BK615.out)) : gb641 ≠ gb615)); have n17_ := Aside0.mk ((by rw [hg]; exact Nat.ne_of_lt (blk_lt (g := gb621) (o := .cells #[.int .u64 t617, .int .u64 t618, .int .u64 t619, .int .u64 t620] 24 (0, 0)) (by (with_reducible repeat (first | refine blk_drewN ?_ _ | refine blk_drew ?_ | refine blk_alloc ?_ _)); exact BK621.out)) : gb621 ≠ gb641)); have n18_ := Aside0.mk ((by rw [hg]; exact Nat.ne_of_gt (blk_lt (g := gb621) (o := .cells #[.int .u64 t617, .int .u64 t618, .int .u64 t619, .int .u64 t620] 24 (0, 0)) (by (with_reducible repeat (first | refine blk_drewN ?_ _ | refine blk_drew ?_ | refine blk_alloc ?_ _)); exact BK621.out)) : gb641 ≠ gb621)); have n19_ := Aside0.mk ((by rw [hg]; exact Nat.ne_of_lt (blk_lt (g := gb626) (o := .cells #[.int .u64 t622, .int .u64 t623, .int .u64 t624, .int .u64 t625] 24 (0, 0)) (by (with_reducible repeat (first | refine blk_drewN ?_ _ | refine blk_drew ?_ | refine blk_alloc ?_ _)); exact BK626.out)) : gb626 ≠ gb641)); have n20_ := Aside0.mk ((by rw [hg]; exact Nat.ne_of_gt (blk_lt (g := gb626) (o := .cells #[.int .u64 t622, .int .u64 t623, .int .u64 t624, .int .u64 t625] 24 (0, 0)) (by (with_reducible repeat (first | refine blk_drewN ?_ _ | refine blk_drew ?_ | refine blk_alloc ?_ _)); exact BK626.out)) : gb641 ≠ gb626)); have n21_ := Aside0.mk ((by rw [hg]; exact Nat.ne_of_lt (blk_lt (g := gb631) (o := .cells #[.int .u64 t627, .int .u64 t628, .int .u64 t629, .int .u64 t630] 24 (0, 0)) (by (with_reducible repeat (first | refine blk_drewN ?_ _ | refine blk_drew ?_ | refine blk_alloc ?_ _)); exact BK631.out)) : gb631 ≠ gb641)); have n22_ := Aside0.mk ((by rw [hg]; exact Nat.ne_of_gt (blk_lt (g := gb631) (o := .cells #[.int .u64 t627, .int .u64 t628, .int .u64 t629, .int .u64 t630] 24 (0, 0)) (by (with_reducible repeat (first | refine blk_drewN ?_ _ | refine blk_drew ?_ | refine blk_alloc ?_ _)); exact BK631.out)) : gb641 ≠ gb631)); have n23_ := Aside0.mk ((by rw [hg]; exact Nat.ne_of_lt (blk_lt (g := gb636) (o := .cells #[.int .u64 t632, .int .u64 t633, .int .u64 t634, .int .u64 t635] 24 (0, 0)) (by (with_reducible repeat (first | refine blk_drewN ?_ _ | refine blk_drew ?_ | refine blk_alloc ?_ _)); exact BK636.out)) : gb636 ≠ gb641)); have n24_ := Aside0.mk ((by rw [hg]; exact Nat.ne_of_gt (blk_lt (g := gb636) (o := .cells #[.int .u64 t632, .int .u64 t633, .int .u64 t634, .int .u64 t635] 24 (0, 0)) (by (with_reducible repeat (first | refine blk_drewN ?_ _ | refine blk_drew ?_ | refine blk_alloc ?_ _)); exact BK636.out)) : gb641 ≠ gb636)); clear BK613; clear BK614; clear BK615; clear BK621; clear BK626; clear BK631; clear BK636; clear HB; have BK613 := n0_; have BK614 := n1_; have BK615 := n2_; have BK621 := n3_; have BK626 := n4_; have BK631 := n5_; have BK636 := n6_; have HB := n7_; have BK641 := n8_; have GW641 := n9_; have GE641 := n10_; have NB613_641 := n11_; have NB641_613 := n12_; have NB614_641 := n13_; have NB641_614 := n14_; have NB615_641 := n15_; have NB641_615 := n16_; have NB621_641 := n17_; have NB641_621 := n18_; have NB626_641 := n19_; have NB641_626 := n20_; have NB631_641 := n21_; have NB641_631 := n22_; have NB636_641 := n23_; have NB641_636 := n24_; clear n0_ n1_ n2_ n3_ n4_ n5_ n6_ n7_ n8_ n9_ n10_ n11_ n12_ n13_ n14_ n15_ n16_ n17_ n18_ n19_ n20_ n21_ n22_ n23_ n24_; clear hb hbox hg; have hnb83 := NB641_613.out; have hnc83 := NB613_641.out; have hnb84 := NB641_614.out; have hnc84 := NB614_641.out; have hnb85 := NB641_615.out; have hnc85 := NB615_641.out; have hnb86 := NB641_621.out; have hnc86 := NB621_641.out; have hnb87 := NB641_626.out; have hnc87 := NB626_641.out; have hnb88 := NB641_631.out; have hnc88 := NB631_641.out; have hnb89 := NB641_636.out; have hnc89 := NB636_641.out; have hcz90_0 : w82.cell? ⟨gb641, 0, none⟩ = some (.int .u64 0) := (blk_cell BK641.out 0).trans rfl; have hcz90_1 : w82.cell? ⟨gb641, 1, none⟩ = some (.int .u64 0) := (blk_cell BK641.out 1).trans rfl; have hcz90_2 : w82.cell? ⟨gb641, 2, none⟩ = some (.int .u64 0) := (blk_cell BK641.out 2).trans rfl; have hcz90_3 : w82.cell? ⟨gb641, 3, none⟩ = some (.int .u64 0) := (blk_cell BK641.out 3).trans rfl; have hfz90_0 := blk_frozen BK641.out 0; have hfz90_1 := blk_frozen BK641.out 1; have hfz90_2 := blk_frozen BK641.out 2; have hfz90_3 := blk_frozen BK641.out 3))
  have n0_ : Aside0 (((((w82.setCell ⟨gb641, 0, none⟩ (.int .u64 t637)).setCell ⟨gb641, 1, none⟩ (.int .u64 t638)).setCell ⟨gb641, 2, none⟩ (.int .u64 t639)).setCell ⟨gb641, 3, none⟩ (.int .u64 t640)).heap[gb613]? = some (.cells #[.int .u64 a0_0, .int .u64 a0_1, .int .u64 a0_2, .int .u64 a0_3, .bool a0_4] 26 (0, 0))) := ⟨by (repeat (first | (with_reducible first | refine blk_drewN ?_ _ | refine blk_drew ?_ | refine blk_alloc ?_ _) | refine blk_far ?_ NB613_641.out _)); exact BK613.out⟩
  have n1_ : Aside0 (((((w82.setCell ⟨gb641, 0, none⟩ (.int .u64 t637)).setCell ⟨gb641, 1, none⟩ (.int .u64 t638)).setCell ⟨gb641, 2, none⟩ (.int .u64 t639)).setCell ⟨gb641, 3, none⟩ (.int .u64 t640)).heap[gb614]? = some (.cells #[.int .u64 a1_0, .int .u64 a1_1, .int .u64 a1_2, .int .u64 a1_3, .bool a1_4] 26 (0, 0))) := ⟨by (repeat (first | (with_reducible first | refine blk_drewN ?_ _ | refine blk_drew ?_ | refine blk_alloc ?_ _) | refine blk_far ?_ NB614_641.out _)); exact BK614.out⟩
  have n2_ : Aside0 (((((w82.setCell ⟨gb641, 0, none⟩ (.int .u64 t637)).setCell ⟨gb641, 1, none⟩ (.int .u64 t638)).setCell ⟨gb641, 2, none⟩ (.int .u64 t639)).setCell ⟨gb641, 3, none⟩ (.int .u64 t640)).heap[gb615]? = some (.cells #[.int .u64 a2_0, .int .u64 a2_1, .int .u64 a2_2, .int .u64 a2_3, .bool a2_4] 26 (0, 0))) := ⟨by (repeat (first | (with_reducible first | refine blk_drewN ?_ _ | refine blk_drew ?_ | refine blk_alloc ?_ _) | refine blk_far ?_ NB615_641.out _)); exact BK615.out⟩
  have n3_ : Aside0 (((((w82.setCell ⟨gb641, 0, none⟩ (.int .u64 t637)).setCell ⟨gb641, 1, none⟩ (.int .u64 t638)).setCell ⟨gb641, 2, none⟩ (.int .u64 t639)).setCell ⟨gb641, 3, none⟩ (.int .u64 t640)).heap[gb621]? = some (.cells #[.int .u64 t617, .int .u64 t618, .int .u64 t619, .int .u64 t620] 24 (0, 0))) := ⟨by (repeat (first | (with_reducible first | refine blk_drewN ?_ _ | refine blk_drew ?_ | refine blk_alloc ?_ _) | refine blk_far ?_ NB621_641.out _)); exact BK621.out⟩
  have n4_ : Aside0 (((((w82.setCell ⟨gb641, 0, none⟩ (.int .u64 t637)).setCell ⟨gb641, 1, none⟩ (.int .u64 t638)).setCell ⟨gb641, 2, none⟩ (.int .u64 t639)).setCell ⟨gb641, 3, none⟩ (.int .u64 t640)).heap[gb626]? = some (.cells #[.int .u64 t622, .int .u64 t623, .int .u64 t624, .int .u64 t625] 24 (0, 0))) := ⟨by (repeat (first | (with_reducible first | refine blk_drewN ?_ _ | refine blk_drew ?_ | refine blk_alloc ?_ _) | refine blk_far ?_ NB626_641.out _)); exact BK626.out⟩
  have n5_ : Aside0 (((((w82.setCell ⟨gb641, 0, none⟩ (.int .u64 t637)).setCell ⟨gb641, 1, none⟩ (.int .u64 t638)).setCell ⟨gb641, 2, none⟩ (.int .u64 t639)).setCell ⟨gb641, 3, none⟩ (.int .u64 t640)).heap[gb631]? = some (.cells #[.int .u64 t627, .int .u64 t628, .int .u64 t629, .int .u64 t630] 24 (0, 0))) := ⟨by (repeat (first | (with_reducible first | refine blk_drewN ?_ _ | refine blk_drew ?_ | refine blk_alloc ?_ _) | refine blk_far ?_ NB631_641.out _)); exact BK631.out⟩
  have n6_ : Aside0 (((((w82.setCell ⟨gb641, 0, none⟩ (.int .u64 t637)).setCell ⟨gb641, 1, none⟩ (.int .u64 t638)).setCell ⟨gb641, 2, none⟩ (.int .u64 t639)).setCell ⟨gb641, 3, none⟩ (.int .u64 t640)).heap[gb636]? = some (.cells #[.int .u64 t632, .int .u64 t633, .int .u64 t634, .int .u64 t635] 24 (0, 0))) := ⟨by (repeat (first | (with_reducible first | refine blk_drewN ?_ _ | refine blk_drew ?_ | refine blk_alloc ?_ _) | refine blk_far ?_ NB636_641.out _)); exact BK636.out⟩
  have n7_ : Aside0 (((((w82.setCell ⟨gb641, 0, none⟩ (.int .u64 t637)).setCell ⟨gb641, 1, none⟩ (.int .u64 t638)).setCell ⟨gb641, 2, none⟩ (.int .u64 t639)).setCell ⟨gb641, 3, none⟩ (.int .u64 t640)).heap[gb641]? = some (.cells #[.int .u64 t637, .int .u64 t638, .int .u64 t639, .int .u64 t640] 24 (0, 0))) := ⟨by (with_reducible repeat (first | refine blk_drewN ?_ _ | refine blk_drew ?_ | refine blk_alloc ?_ _)); refine blk_put (cs := #[.int .u64 t637, .int .u64 t638, .int .u64 t639, .int .u64 0]) ?_ 3 _ rfl; (with_reducible repeat (first | refine blk_drewN ?_ _ | refine blk_drew ?_ | refine blk_alloc ?_ _)); refine blk_put (cs := #[.int .u64 t637, .int .u64 t638, .int .u64 0, .int .u64 0]) ?_ 2 _ rfl; (with_reducible repeat (first | refine blk_drewN ?_ _ | refine blk_drew ?_ | refine blk_alloc ?_ _)); refine blk_put (cs := #[.int .u64 t637, .int .u64 0, .int .u64 0, .int .u64 0]) ?_ 1 _ rfl; (with_reducible repeat (first | refine blk_drewN ?_ _ | refine blk_drew ?_ | refine blk_alloc ?_ _)); refine blk_put (cs := #[.int .u64 0, .int .u64 0, .int .u64 0, .int .u64 0]) ?_ 0 _ rfl; (with_reducible repeat (first | refine blk_drewN ?_ _ | refine blk_drew ?_ | refine blk_alloc ?_ _)); exact BK641.out⟩
  have n8_ : Aside0 (Below w.heap.size w ((((w82.setCell ⟨gb641, 0, none⟩ (.int .u64 t637)).setCell ⟨gb641, 1, none⟩ (.int .u64 t638)).setCell ⟨gb641, 2, none⟩ (.int .u64 t639)).setCell ⟨gb641, 3, none⟩ (.int .u64 t640))) := ⟨by repeat (first | (with_reducible first | exact HB.out | apply below_alloc | apply pw_below_drewN | apply below_drew1 | refine below_set ?_ GE613.out | refine below_set ?_ GE614.out | refine below_set ?_ GE615.out | refine below_set ?_ GE621.out | refine below_set ?_ GE626.out | refine below_set ?_ GE631.out | refine below_set ?_ GE636.out | refine below_set ?_ GE641.out) | exact HB.out)⟩
  (try clear BK613)
  (try clear BK614)
  (try clear BK615)
  (try clear BK621)
  (try clear BK626)
  (try clear BK631)
  (try clear BK636)
  (try clear BK641)
  (try clear HB)
  generalize ((((w82.setCell ⟨gb641, 0, none⟩ (.int .u64 t637)).setCell ⟨gb641, 1, none⟩ (.int .u64 t638)).setCell ⟨gb641, 2, none⟩ (.int .u64 t639)).setCell ⟨gb641, 3, none⟩ (.int .u64 t640)) = w91 at n0_ n1_ n2_ n3_ n4_ n5_ n6_ n7_ n8_ ⊢
  have BK613 := n0_
  have BK614 := n1_
  have BK615 := n2_
  have BK621 := n3_
  have BK626 := n4_
  have BK631 := n5_
  have BK636 := n6_
  have BK641 := n7_
  have HB := n8_
  clear n0_ n1_ n2_ n3_ n4_ n5_ n6_ n7_ n8_
  have n0_ := Aside0.mk (blk_drew BK613.out)
  have n1_ := Aside0.mk (blk_drew BK614.out)
  have n2_ := Aside0.mk (blk_drew BK615.out)
  have n3_ := Aside0.mk (blk_drew BK621.out)
  have n4_ := Aside0.mk (blk_drew BK626.out)
  have n5_ := Aside0.mk (blk_drew BK631.out)
  have n6_ := Aside0.mk (blk_drew BK636.out)
  have n7_ := Aside0.mk (blk_drew BK641.out)
  have n8_ := Aside0.mk (below_drew1 HB.out)
  clear BK613
  clear BK614
  clear BK615
  clear BK621
  clear BK626
  clear BK631
  clear BK636
  clear BK641
  clear HB
  have BK613 := n0_
  have BK614 := n1_
  have BK615 := n2_
  have BK621 := n3_
  have BK626 := n4_
  have BK631 := n5_
  have BK636 := n6_
  have BK641 := n7_
  have HB := n8_
  clear n0_ n1_ n2_ n3_ n4_ n5_ n6_ n7_ n8_
  refine start_ (n := 90) (S := fun w' => w'.cell? ⟨gb636, 0, none⟩ = some (.int .u64 t632) ∧ w'.cell? ⟨gb636, 1, none⟩ = some (.int .u64 t633) ∧ w'.cell? ⟨gb636, 2, none⟩ = some (.int .u64 t634) ∧ w'.cell? ⟨gb636, 3, none⟩ = some (.int .u64 t635) ∧ w'.cell? ⟨gb626, 0, none⟩ = some (.int .u64 t622) ∧ w'.cell? ⟨gb626, 1, none⟩ = some (.int .u64 t623) ∧ w'.cell? ⟨gb626, 2, none⟩ = some (.int .u64 t624) ∧ w'.cell? ⟨gb626, 3, none⟩ = some (.int .u64 t625) ∧ w'.cell? ⟨gb621, 0, none⟩ = some (.int .u64 t617) ∧ w'.cell? ⟨gb621, 1, none⟩ = some (.int .u64 t618) ∧ w'.cell? ⟨gb621, 2, none⟩ = some (.int .u64 t619) ∧ w'.cell? ⟨gb621, 3, none⟩ = some (.int .u64 t620) ∧ w'.cell? ⟨gb641, 0, none⟩ = some (.int .u64 t637) ∧ w'.cell? ⟨gb641, 1, none⟩ = some (.int .u64 t638) ∧ w'.cell? ⟨gb641, 2, none⟩ = some (.int .u64 t639) ∧ w'.cell? ⟨gb641, 3, none⟩ = some (.int .u64 t640) ∧ w'.cell? ⟨gb631, 0, none⟩ = some (.int .u64 t627) ∧ w'.cell? ⟨gb631, 1, none⟩ = some (.int .u64 t628) ∧ w'.cell? ⟨gb631, 2, none⟩ = some (.int .u64 t629) ∧ w'.cell? ⟨gb631, 3, none⟩ = some (.int .u64 t630)) (ds := []) #[false, false, false, false, false, false, false, false, false, false, false, false, false, false, false, false, false, false, false, false, false, false, false, false, false, false, false, false, false, false, false, false, false, false, false, false, false, false, false, false, false, false, false, false, false, false, false, false, false, false, false, false, false, false, false, false, false, false, false, false, false, false, false, false, false, false, false, false, false, false, false, false, false, false, false, false, false, false, false, false, false, false, false, false, false, false, false, false, false, false] (by kernel_rfl) rfl rfl ⟨(blk_cell BK636.out 0).trans rfl, (blk_cell BK636.out 1).trans rfl, (blk_cell BK636.out 2).trans rfl, (blk_cell BK636.out 3).trans rfl, (blk_cell BK626.out 0).trans rfl, (blk_cell BK626.out 1).trans rfl, (blk_cell BK626.out 2).trans rfl, (blk_cell BK626.out 3).trans rfl, (blk_cell BK621.out 0).trans rfl, (blk_cell BK621.out 1).trans rfl, (blk_cell BK621.out 2).trans rfl, (blk_cell BK621.out 3).trans rfl, (blk_cell BK641.out 0).trans rfl, (blk_cell BK641.out 1).trans rfl, (blk_cell BK641.out 2).trans rfl, (blk_cell BK641.out 3).trans rfl, (blk_cell BK631.out 0).trans rfl, (blk_cell BK631.out 1).trans rfl, (blk_cell BK631.out 2).trans rfl, (blk_cell BK631.out 3).trans rfl⟩ (fun hHeld => ?_); refine with_tabW tenementlaw06_VecJoins_p2.tab9 tenementlaw06_VecJoins_p2.bits9 (fun HT_ HW_ => ?_)
  generalize w91.drew = w92 at BK613 BK614 BK615 BK621 BK626 BK631 BK636 BK641 HB hHeld ⊢
  refine pure_ (i := 0) (N := some 28) (v := ?_) (a' := ?_) #[true, false, false, false, false, false, false, false, false, false, false, false, false, false, false, false, false, false, false, false, false, false, false, false, false, false, false, false, false, false, false, false, false, false, false, false, false, false, false, false, false, false, false, false, false, false, false, false, false, false, false, false, false, false, false, false, false, false, false, false, false, false, false, false, false, false, false, false, false, false, false, false, false, false, false, false, false, false, false, false, false, false, false, false, false, false, false, false, false, false] rfl rfl (any_of HT_.out (by kernel_rfl)) (fun _ _ _ h => h) (Or.inl ⟨by rfl, ?_⟩) ?_ ?_
  rotate_left
  · intro w'
    go_simp
    with_reducible rfl
  rotate_left
  · simp only [Act.put, List.setIfInBounds_toArray, List.set_cons_zero, List.set_cons_succ, i64_w, i32_w]
    rfl
  refine pure_ (i := 1) (N := some 29) (v := ?_) (a' := ?_) #[true, true, false, false, false, false, false, false, false, false, false, false, false, false, false, false, false, false, false, false, false, false, false, false, false, false, false, false, false, false, false, false, false, false, false, false, false, false, false, false, false, false, false, false, false, false, false, false, false, false, false, false, false, false, false, false, false, false, false, false, false, false, false, false, false, false, false, false, false, false, false, false, false, false, false, false, false, false, false, false, false, false, false, false, false, false, false, false, false, false] rfl rfl (any_of HT_.out (by kernel_rfl)) (fun _ _ _ h => h) (Or.inl ⟨by rfl, ?_⟩) ?_ ?_
  rotate_left
  · intro w'
    go_simp
    with_reducible rfl
  rotate_left
  · simp only [Act.put, List.setIfInBounds_toArray, List.set_cons_zero, List.set_cons_succ, i64_w, i32_w]
    rfl
  refine take_ (i := 2) (N := some 30) (v := ?_) (a' := ?_) #[true, true, true, false, false, false, false, false, false, false, false, false, false, false, false, false, false, false, false, false, false, false, false, false, false, false, false, false, false, false, false, false, false, false, false, false, false, false, false, false, false, false, false, false, false, false, false, false, false, false, false, false, false, false, false, false, false, false, false, false, false, false, false, false, false, false, false, false, false, false, false, false, false, false, false, false, false, false, false, false, false, false, false, false, false, false, false, false, false, false] rfl rfl (take_ofW HT_.out HW_.out (by kernel_rfl)) (fun _ _ _ h => h) (Or.inl ⟨by rfl, ?_⟩) hHeld ?_ ?_
  rotate_left
  · rintro w' ⟨s0, s1, s2, s3, s4, s5, s6, s7, s8, s9, s10, s11, s12, s13, s14, s15, s16, s17, s18, s19⟩
    go_simp
    with_reducible rfl
  rotate_left
  · simp only [Act.put, List.setIfInBounds_toArray, List.set_cons_zero, List.set_cons_succ, i64_w, i32_w]
    rfl
  refine take_ (i := 3) (N := some 31) (v := ?_) (a' := ?_) #[true, true, true, true, false, false, false, false, false, false, false, false, false, false, false, false, false, false, false, false, false, false, false, false, false, false, false, false, false, false, false, false, false, false, false, false, false, false, false, false, false, false, false, false, false, false, false, false, false, false, false, false, false, false, false, false, false, false, false, false, false, false, false, false, false, false, false, false, false, false, false, false, false, false, false, false, false, false, false, false, false, false, false, false, false, false, false, false, false, false] rfl rfl (take_ofW HT_.out HW_.out (by kernel_rfl)) (fun _ _ _ h => h) (Or.inl ⟨by rfl, ?_⟩) hHeld ?_ ?_
  rotate_left
  · rintro w' ⟨s0, s1, s2, s3, s4, s5, s6, s7, s8, s9, s10, s11, s12, s13, s14, s15, s16, s17, s18, s19⟩
    go_simp
    with_reducible rfl
  rotate_left
  · simp only [Act.put, List.setIfInBounds_toArray, List.set_cons_zero, List.set_cons_succ, i64_w, i32_w]
    rfl
  refine take_ (i := 4) (N := some 32) (v := ?_) (a' := ?_) #[true, true, true, true, true, false, false, false, false, false, false, false, false, false, false, false, false, false, false, false, false, false, false, false, false, false, false, false, false, false, false, false, false, false, false, false, false, false, false, false, false, false, false, false, false, false, false, false, false, false, false, false, false, false, false, false, false, false, false, false, false, false, false, false, false, false, false, false, false, false, false, false, false, false, false, false, false, false, false, false, false, false, false, false, false, false, false, false, false, false] rfl rfl (take_ofW HT_.out HW_.out (by kernel_rfl)) (fun _ _ _ h => h) (Or.inl ⟨by rfl, ?_⟩) hHeld ?_ ?_
  rotate_left
  · rintro w' ⟨s0, s1, s2, s3, s4, s5, s6, s7, s8, s9, s10, s11, s12, s13, s14, s15, s16, s17, s18, s19⟩
    go_simp
    with_reducible rfl
  rotate_left
  · simp only [Act.put, List.setIfInBounds_toArray, List.set_cons_zero, List.set_cons_succ, i64_w, i32_w]
    rfl
  refine one_ (i := 5) (N := some 33) #[true, true, true, true, true, true, false, false, false, false, false, false, false, false, false, false, false, false, false, false, false, false, false, false, false, false, false, false, false, false, false, false, false, false, false, false, false, false, false, false, false, false, false, false, false, false, false, false, false, false, false, false, false, false, false, false, false, false, false, false, false, false, false, false, false, false, false, false, false, false, false, false, false, false, false, false, false, false, false, false, false, false, false, false, false, false, false, false, false, false] rfl rfl (one_of HT_.out (by kernel_rfl)) (by decide) (fun K hK => ?_)
  refine goes_ Tryd.func12 (by kernel_rfl) rfl #[.agg #[.int .u64 t622, .int .u64 t623, .int .u64 t624, .int .u64 t625], .agg #[.int .u64 t617, .int .u64 t618, .int .u64 t619, .int .u64 t620]] (by rfl) rfl rfl (by (try simp only [List.map_toArray, List.map_cons, List.map_nil]); first | done | rfl | (simp only [List.length_drop, List.length_take]; rfl)) ?_
  with_reducible refine (vec_Join.calls t622 t623 t624 t625 t617 t618 t619 t620 t642 t643 t644 t645 _ A11.out).mono ?_
  rintro e w93 ⟨rfl, hb⟩
  refine ⟨_, rfl, ?_⟩
  have n0_ := Aside0.mk (blk_below (g := gb613) (o := .cells #[.int .u64 a0_0, .int .u64 a0_1, .int .u64 a0_2, .int .u64 a0_3, .bool a0_4] 26 (0, 0)) (by (with_reducible repeat (first | refine blk_drewN ?_ _ | refine blk_drew ?_ | refine blk_alloc ?_ _)); exact BK613.out) hb)
  have n1_ := Aside0.mk (blk_below (g := gb614) (o := .cells #[.int .u64 a1_0, .int .u64 a1_1, .int .u64 a1_2, .int .u64 a1_3, .bool a1_4] 26 (0, 0)) (by (with_reducible repeat (first | refine blk_drewN ?_ _ | refine blk_drew ?_ | refine blk_alloc ?_ _)); exact BK614.out) hb)
  have n2_ := Aside0.mk (blk_below (g := gb615) (o := .cells #[.int .u64 a2_0, .int .u64 a2_1, .int .u64 a2_2, .int .u64 a2_3, .bool a2_4] 26 (0, 0)) (by (with_reducible repeat (first | refine blk_drewN ?_ _ | refine blk_drew ?_ | refine blk_alloc ?_ _)); exact BK615.out) hb)
  have n3_ := Aside0.mk (blk_below (g := gb621) (o := .cells #[.int .u64 t617, .int .u64 t618, .int .u64 t619, .int .u64 t620] 24 (0, 0)) (by (with_reducible repeat (first | refine blk_drewN ?_ _ | refine blk_drew ?_ | refine blk_alloc ?_ _)); exact BK621.out) hb)
  have n4_ := Aside0.mk (blk_below (g := gb626) (o := .cells #[.int .u64 t622, .int .u64 t623, .int .u64 t624, .int .u64 t625] 24 (0, 0)) (by (with_reducible repeat (first | refine blk_drewN ?_ _ | refine blk_drew ?_ | refine blk_alloc ?_ _)); exact BK626.out) hb)
  have n5_ := Aside0.mk (blk_below (g := gb631) (o := .cells #[.int .u64 t627, .int .u64 t628, .int .u64 t629, .int .u64 t630] 24 (0, 0)) (by (with_reducible repeat (first | refine blk_drewN ?_ _ | refine blk_drew ?_ | refine blk_alloc ?_ _)); exact BK631.out) hb)
  have n6_ := Aside0.mk (blk_below (g := gb636) (o := .cells #[.int .u64 t632, .int .u64 t633, .int .u64 t634, .int .u64 t635] 24 (0, 0)) (by (with_reducible repeat (first | refine blk_drewN ?_ _ | refine blk_drew ?_ | refine blk_alloc ?_ _)); exact BK636.out) hb)
  have n7_ := Aside0.mk (blk_below (g := gb641) (o := .cells #[.int .u64 t637, .int .u64 t638, .int .u64 t639, .int .u64 t640] 24 (0, 0)) (by (with_reducible repeat (first | refine blk_drewN ?_ _ | refine blk_drew ?_ | refine blk_alloc ?_ _)); exact BK641.out) hb)
  have n8_ := Aside0.mk (below_step (by repeat (first | (with_reducible first | exact HB.out | apply below_alloc | apply pw_below_drewN | apply below_drew1 | refine below_set ?_ GE613.out | refine below_set ?_ GE614.out | refine below_set ?_ GE615.out | refine below_set ?_ GE621.out | refine below_set ?_ GE626.out | refine below_set ?_ GE631.out | refine below_set ?_ GE636.out | refine below_set ?_ GE641.out) | exact HB.out)) hb)
  clear BK613
  clear BK614
  clear BK615
  clear BK621
  clear BK626
  clear BK631
  clear BK636
  clear BK641
  clear HB
  have BK613 := n0_
  have BK614 := n1_
  have BK615 := n2_
  have BK621 := n3_
  have BK626 := n4_
  have BK631 := n5_
  have BK636 := n6_
  have BK641 := n7_
  have HB := n8_
  clear n0_ n1_ n2_ n3_ n4_ n5_ n6_ n7_ n8_
  (try clear hb)
  (try clear hb2)
  (try clear hk)
  (try clear hi)
  refine hK.out _ _ ⟨(blk_cell BK636.out 0).trans rfl, (blk_cell BK636.out 1).trans rfl, (blk_cell BK636.out 2).trans rfl, (blk_cell BK636.out 3).trans rfl, (blk_cell BK626.out 0).trans rfl, (blk_cell BK626.out 1).trans rfl, (blk_cell BK626.out 2).trans rfl, (blk_cell BK626.out 3).trans rfl, (blk_cell BK621.out 0).trans rfl, (blk_cell BK621.out 1).trans rfl, (blk_cell BK621.out 2).trans rfl, (blk_cell BK621.out 3).trans rfl, (blk_cell BK641.out 0).trans rfl, (blk_cell BK641.out 1).trans rfl, (blk_cell BK641.out 2).trans rfl, (blk_cell BK641.out 3).trans rfl, (blk_cell BK631.out 0).trans rfl, (blk_cell BK631.out 1).trans rfl, (blk_cell BK631.out 2).trans rfl, (blk_cell BK631.out 3).trans rfl⟩ (fun hHeld => ?_)
  clear hK K
  refine norm_ (a' := ?_) ?_ ?_
  rotate_left
  · show Act.put _ (some 33) _ = _
    simp only [Act.put, List.setIfInBounds_toArray, List.set_cons_zero, List.set_cons_succ, i64_w, i32_w]
    rfl
  refine pure_ (i := 6) (N := some 34) (v := ?_) (a' := ?_) #[true, true, true, true, true, true, true, false, false, false, false, false, false, false, false, false, false, false, false, false, false, false, false, false, false, false, false, false, false, false, false, false, false, false, false, false, false, false, false, false, false, false, false, false, false, false, false, false, false, false, false, false, false, false, false, false, false, false, false, false, false, false, false, false, false, false, false, false, false, false, false, false, false, false, false, false, false, false, false, false, false, false, false, false, false, false, false, false, false, false] rfl rfl (any_of HT_.out (by kernel_rfl)) (fun _ _ _ h => h) (Or.inl ⟨by rfl, ?_⟩) ?_ ?_
  rotate_left
  · intro w'
    go_simp
    with_reducible rfl
  rotate_left
  · simp only [Act.put, List.setIfInBounds_toArray, List.set_cons_zero, List.set_cons_succ, i64_w, i32_w]
    rfl
  refine pure_ (i := 7) (N := some 35) (v := ?_) (a' := ?_) #[true, true, true, true, true, true, true, true, false, false, false, false, false, false, false, false, false, false, false, false, false, false, false, false, false, false, false, false, false, false, false, false, false, false, false, false, false, false, false, false, false, false, false, false, false, false, false, false, false, false, false, false, false, false, false, false, false, false, false, false, false, false, false, false, false, false, false, false, false, false, false, false, false, false, false, false, false, false, false, false, false, false, false, false, false, false, false, false, false, false] rfl rfl (any_of HT_.out (by kernel_rfl)) (fun _ _ _ h => h) (Or.inl ⟨by rfl, ?_⟩) ?_ ?_
  rotate_left
  · intro w'
    go_simp
    with_reducible rfl
  rotate_left
  · simp only [Act.put, List.setIfInBounds_toArray, List.set_cons_zero, List.set_cons_succ, i64_w, i32_w]
    rfl
  refine pure_ (i := 8) (N := some 36) (v := ?_) (a' := ?_) #[true, true, true, true, true, true, true, true, true, false, false, false, false, false, false, false, false, false, false, false, false, false, false, false, false, false, false, false, false, false, false, false, false, false, false, false, false, false, false, false, false, false, false, false, false, false, false, false, false, false, false, false, false, false, false, false, false, false, false, false, false, false, false, false, false, false, false, false, false, false, false, false, false, false, false, false, false, false, false, false, false, false, false, false, false, false, false, false, false, false] rfl rfl (any_of HT_.out (by kernel_rfl)) (fun _ _ _ h => h) (Or.inl ⟨by rfl, ?_⟩) ?_ ?_
  rotate_left
  · intro w'
    go_simp
    with_reducible rfl
  rotate_left
  · simp only [Act.put, List.setIfInBounds_toArray, List.set_cons_zero, List.set_cons_succ, i64_w, i32_w]
    rfl
  refine take_ (i := 9) (N := some 37) (v := ?_) (a' := ?_) #[true, true, true, true, true, true, true, true, true, true, false, false, false, false, false, false, false, false, false, false, false, false, false, false, false, false, false, false, false, false, false, false, false, false, false, false, false, false, false, false, false, false, false, false, false, false, false, false, false, false, false, false, false, false, false, false, false, false, false, false, false, false, false, false, false, false, false, false, false, false, false, false, false, false, false, false, false, false, false, false, false, false, false, false, false, false, false, false, false, false] rfl rfl (take_ofW HT_.out HW_.out (by kernel_rfl)) (fun _ _ _ h => h) (Or.inl ⟨by rfl, ?_⟩) hHeld ?_ ?_
  rotate_left
  · rintro w' ⟨s0, s1, s2, s3, s4, s5, s6, s7, s8, s9, s10, s11, s12, s13, s14, s15, s16, s17, s18, s19⟩
    go_simp
    with_reducible rfl
  rotate_left
  · simp only [Act.put, List.setIfInBounds_toArray, List.set_cons_zero, List.set_cons_succ, i64_w, i32_w]
    rfl
  refine take_ (i := 10) (N := some 38) (v := ?_) (a' := ?_) #[true, true, true, true, true, true, true, true, true, true, true, false, false, false, false, false, false, false, false, false, false, false, false, false, false, false, false, false, false, false, false, false, false, false, false, false, false, false, false, false, false, false, false, false, false, false, false, false, false, false, false, false, false, false, false, false, false, false, false, false, false, false, false, false, false, false, false, false, false, false, false, false, false, false, false, false, false, false, false, false, false, false, false, false, false, false, false, false, false, false] rfl rfl (take_ofW HT_.out HW_.out (by kernel_rfl)) (fun _ _ _ h => h) (Or.inl ⟨by rfl, ?_⟩) hHeld ?_ ?_
  rotate_left
  · rintro w' ⟨s0, s1, s2, s3, s4, s5, s6, s7, s8, s9, s10, s11, s12, s13, s14, s15, s16, s17, s18, s19⟩
    go_simp
    with_reducible rfl
  rotate_left
  · simp only [Act.put, List.setIfInBounds_toArray, List.set_cons_zero, List.set_cons_succ, i64_w, i32_w]
    rfl
  refine take_ (i := 11) (N := some 39) (v := ?_) (a' := ?_) #[true, true, true, true, true, true, true, true, true, true, true, true, false, false, false, false, false, false, false, false, false, false, false, false, false, false, false, false, false, false, false, false, false, false, false, false, false, false, false, false, false, false, false, false, false, false, false, false, false, false, false, false, false, false, false, false, false, false, false, false, false, false, false, false, false, false, false, false, false, false, false, false, false, false, false, false, false, false, false, false, false, false, false, false, false, false, false, false, false, false] rfl rfl (take_ofW HT_.out HW_.out (by kernel_rfl)) (fun _ _ _ h => h) (Or.inl ⟨by rfl, ?_⟩) hHeld ?_ ?_
  rotate_left
  · rintro w' ⟨s0, s1, s2, s3, s4, s5, s6, s7, s8, s9, s10, s11, s12, s13, s14, s15, s16, s17, s18, s19⟩
    go_simp
    with_reducible rfl
  rotate_left
  · simp only [Act.put, List.setIfInBounds_toArray, List.set_cons_zero, List.set_cons_succ, i64_w, i32_w]
    rfl
  refine one_ (i := 12) (N := some 40) #[true, true, true, true, true, true, true, true, true, true, true, true, true, false, false, false, false, false, false, false, false, false, false, false, false, false, false, false, false, false, false, false, false, false, false, false, false, false, false, false, false, false, false, false, false, false, false, false, false, false, false, false, false, false, false, false, false, false, false, false, false, false, false, false, false, false, false, false, false, false, false, false, false, false, false, false, false, false, false, false, false, false, false, false, false, false, false, false, false, false] rfl rfl (one_of HT_.out (by kernel_rfl)) (by decide) (fun K hK => ?_)
  refine goes_ Tryd.func14 (by kernel_rfl) rfl #[.agg #[.int .u64 t622, .int .u64 t623, .int .u64 t624, .int .u64 t625], .agg #[.int .u64 t617, .int .u64 t618, .int .u64 t619, .int .u64 t620]] (by rfl) rfl rfl (by (try simp only [List.map_toArray, List.map_cons, List.map_nil]); first | done | rfl | (simp only [List.length_drop, List.length_take]; rfl)) ?_
  with_reducible refine (vec_Meet.calls t622 t623 t624 t625 t617 t618 t619 t620 t646 t647 t648 t649 _ A13.out).mono ?_
  rintro e w94 ⟨rfl, hb⟩
  refine ⟨_, rfl, ?_⟩
  have n0_ := Aside0.mk (blk_below (g := gb613) (o := .cells #[.int .u64 a0_0, .int .u64 a0_1, .int .u64 a0_2, .int .u64 a0_3, .bool a0_4] 26 (0, 0)) (by (with_reducible repeat (first | refine blk_drewN ?_ _ | refine blk_drew ?_ | refine blk_alloc ?_ _)); exact BK613.out) hb)
  have n1_ := Aside0.mk (blk_below (g := gb614) (o := .cells #[.int .u64 a1_0, .int .u64 a1_1, .int .u64 a1_2, .int .u64 a1_3, .bool a1_4] 26 (0, 0)) (by (with_reducible repeat (first | refine blk_drewN ?_ _ | refine blk_drew ?_ | refine blk_alloc ?_ _)); exact BK614.out) hb)
  have n2_ := Aside0.mk (blk_below (g := gb615) (o := .cells #[.int .u64 a2_0, .int .u64 a2_1, .int .u64 a2_2, .int .u64 a2_3, .bool a2_4] 26 (0, 0)) (by (with_reducible repeat (first | refine blk_drewN ?_ _ | refine blk_drew ?_ | refine blk_alloc ?_ _)); exact BK615.out) hb)
  have n3_ := Aside0.mk (blk_below (g := gb621) (o := .cells #[.int .u64 t617, .int .u64 t618, .int .u64 t619, .int .u64 t620] 24 (0, 0)) (by (with_reducible repeat (first | refine blk_drewN ?_ _ | refine blk_drew ?_ | refine blk_alloc ?_ _)); exact BK621.out) hb)
  have n4_ := Aside0.mk (blk_below (g := gb626) (o := .cells #[.int .u64 t622, .int .u64 t623, .int .u64 t624, .int .u64 t625] 24 (0, 0)) (by (with_reducible repeat (first | refine blk_drewN ?_ _ | refine blk_drew ?_ | refine blk_alloc ?_ _)); exact BK626.out) hb)
  have n5_ := Aside0.mk (blk_below (g := gb631) (o := .cells #[.int .u64 t627, .int .u64 t628, .int .u64 t629, .int .u64 t630] 24 (0, 0)) (by (with_reducible repeat (first | refine blk_drewN ?_ _ | refine blk_drew ?_ | refine blk_alloc ?_ _)); exact BK631.out) hb)
  have n6_ := Aside0.mk (blk_below (g := gb636) (o := .cells #[.int .u64 t632, .int .u64 t633, .int .u64 t634, .int .u64 t635] 24 (0, 0)) (by (with_reducible repeat (first | refine blk_drewN ?_ _ | refine blk_drew ?_ | refine blk_alloc ?_ _)); exact BK636.out) hb)
  have n7_ := Aside0.mk (blk_below (g := gb641) (o := .cells #[.int .u64 t637, .int .u64 t638, .int .u64 t639, .int .u64 t640] 24 (0, 0)) (by (with_reducible repeat (first | refine blk_drewN ?_ _ | refine blk_drew ?_ | refine blk_alloc ?_ _)); exact BK641.out) hb)
  have n8_ := Aside0.mk (below_step (by repeat (first | (with_reducible first | exact HB.out | apply below_alloc | apply pw_below_drewN | apply below_drew1 | refine below_set ?_ GE613.out | refine below_set ?_ GE614.out | refine below_set ?_ GE615.out | refine below_set ?_ GE621.out | refine below_set ?_ GE626.out | refine below_set ?_ GE631.out | refine below_set ?_ GE636.out | refine below_set ?_ GE641.out) | exact HB.out)) hb)
  clear BK613
  clear BK614
  clear BK615
  clear BK621
  clear BK626
  clear BK631
  clear BK636
  clear BK641
  clear HB
  have BK613 := n0_
  have BK614 := n1_
  have BK615 := n2_
  have BK621 := n3_
  have BK626 := n4_
  have BK631 := n5_
  have BK636 := n6_
  have BK641 := n7_
  have HB := n8_
  clear n0_ n1_ n2_ n3_ n4_ n5_ n6_ n7_ n8_
  (try clear hb)
  (try clear hb2)
  (try clear hk)
  (try clear hi)
  refine hK.out _ _ ⟨(blk_cell BK636.out 0).trans rfl, (blk_cell BK636.out 1).trans rfl, (blk_cell BK636.out 2).trans rfl, (blk_cell BK636.out 3).trans rfl, (blk_cell BK626.out 0).trans rfl, (blk_cell BK626.out 1).trans rfl, (blk_cell BK626.out 2).trans rfl, (blk_cell BK626.out 3).trans rfl, (blk_cell BK621.out 0).trans rfl, (blk_cell BK621.out 1).trans rfl, (blk_cell BK621.out 2).trans rfl, (blk_cell BK621.out 3).trans rfl, (blk_cell BK641.out 0).trans rfl, (blk_cell BK641.out 1).trans rfl, (blk_cell BK641.out 2).trans rfl, (blk_cell BK641.out 3).trans rfl, (blk_cell BK631.out 0).trans rfl, (blk_cell BK631.out 1).trans rfl, (blk_cell BK631.out 2).trans rfl, (blk_cell BK631.out 3).trans rfl⟩ (fun hHeld => ?_)
  clear hK K
  refine norm_ (a' := ?_) ?_ ?_
  rotate_left
  · show Act.put _ (some 40) _ = _
    simp only [Act.put, List.setIfInBounds_toArray, List.set_cons_zero, List.set_cons_succ, i64_w, i32_w]
    rfl
  refine pure_ (i := 13) (N := some 41) (v := ?_) (a' := ?_) #[true, true, true, true, true, true, true, true, true, true, true, true, true, true, false, false, false, false, false, false, false, false, false, false, false, false, false, false, false, false, false, false, false, false, false, false, false, false, false, false, false, false, false, false, false, false, false, false, false, false, false, false, false, false, false, false, false, false, false, false, false, false, false, false, false, false, false, false, false, false, false, false, false, false, false, false, false, false, false, false, false, false, false, false, false, false, false, false, false, false] rfl rfl (any_of HT_.out (by kernel_rfl)) (fun _ _ _ h => h) (Or.inl ⟨by rfl, ?_⟩) ?_ ?_
  rotate_left
  · intro w'
    go_simp
    with_reducible rfl
  rotate_left
  · simp only [Act.put, List.setIfInBounds_toArray, List.set_cons_zero, List.set_cons_succ, i64_w, i32_w]
    rfl
  refine pure_ (i := 14) (N := some 42) (v := ?_) (a' := ?_) #[true, true, true, true, true, true, true, true, true, true, true, true, true, true, true, false, false, false, false, false, false, false, false, false, false, false, false, false, false, false, false, false, false, false, false, false, false, false, false, false, false, false, false, false, false, false, false, false, false, false, false, false, false, false, false, false, false, false, false, false, false, false, false, false, false, false, false, false, false, false, false, false, false, false, false, false, false, false, false, false, false, false, false, false, false, false, false, false, false, false] rfl rfl (any_of HT_.out (by kernel_rfl)) (fun _ _ _ h => h) (Or.inl ⟨by rfl, ?_⟩) ?_ ?_
  rotate_left
  · intro w'
    go_simp
    with_reducible rfl
  rotate_left
  · simp only [Act.put, List.setIfInBounds_toArray, List.set_cons_zero, List.set_cons_succ, i64_w, i32_w]
    rfl
  refine pure_ (i := 15) (N := some 43) (v := ?_) (a' := ?_) #[true, true, true, true, true, true, true, true, true, true, true, true, true, true, true, true, false, false, false, false, false, false, false, false, false, false, false, false, false, false, false, false, false, false, false, false, false, false, false, false, false, false, false, false, false, false, false, false, false, false, false, false, false, false, false, false, false, false, false, false, false, false, false, false, false, false, false, false, false, false, false, false, false, false, false, false, false, false, false, false, false, false, false, false, false, false, false, false, false, false] rfl rfl (any_of HT_.out (by kernel_rfl)) (fun _ _ _ h => h) (Or.inl ⟨by rfl, ?_⟩) ?_ ?_
  rotate_left
  · intro w'
    go_simp
    with_reducible rfl
  rotate_left
  · simp only [Act.put, List.setIfInBounds_toArray, List.set_cons_zero, List.set_cons_succ, i64_w, i32_w]
    rfl
  refine take_ (i := 16) (N := some 44) (v := ?_) (a' := ?_) #[true, true, true, true, true, true, true, true, true, true, true, true, true, true, true, true, true, false, false, false, false, false, false, false, false, false, false, false, false, false, false, false, false, false, false, false, false, false, false, false, false, false, false, false, false, false, false, false, false, false, false, false, false, false, false, false, false, false, false, false, false, false, false, false, false, false, false, false, false, false, false, false, false, false, false, false, false, false, false, false, false, false, false, false, false, false, false, false, false, false] rfl rfl (take_ofW HT_.out HW_.out (by kernel_rfl)) (fun _ _ _ h => h) (Or.inl ⟨by rfl, ?_⟩) hHeld ?_ ?_
  rotate_left
  · rintro w' ⟨s0, s1, s2, s3, s4, s5, s6, s7, s8, s9, s10, s11, s12, s13, s14, s15, s16, s17, s18, s19⟩
    go_simp
    with_reducible rfl
  rotate_left
  · simp only [Act.put, List.setIfInBounds_toArray, List.set_cons_zero, List.set_cons_succ, i64_w, i32_w]
    rfl
  refine take_ (i := 17) (N := some 45) (v := ?_) (a' := ?_) #[true, true, true, true, true, true, true, true, true, true, true, true, true, true, true, true, true, true, false, false, false, false, false, false, false, false, false, false, false, false, false, false, false, false, false, false, false, false, false, false, false, false, false, false, false, false, false, false, false, false, false, false, false, false, false, false, false, false, false, false, false, false, false, false, false, false, false, false, false, false, false, false, false, false, false, false, false, false, false, false, false, false, false, false, false, false, false, false, false, false] rfl rfl (take_ofW HT_.out HW_.out (by kernel_rfl)) (fun _ _ _ h => h) (Or.inl ⟨by rfl, ?_⟩) hHeld ?_ ?_
  rotate_left
  · rintro w' ⟨s0, s1, s2, s3, s4, s5, s6, s7, s8, s9, s10, s11, s12, s13, s14, s15, s16, s17, s18, s19⟩
    go_simp
    with_reducible rfl
  rotate_left
  · simp only [Act.put, List.setIfInBounds_toArray, List.set_cons_zero, List.set_cons_succ, i64_w, i32_w]
    rfl
  refine take_ (i := 19) (N := some 47) (v := ?_) (a' := ?_) #[true, true, true, true, true, true, true, true, true, true, true, true, true, true, true, true, true, true, false, true, false, false, false, false, false, false, false, false, false, false, false, false, false, false, false, false, false, false, false, false, false, false, false, false, false, false, false, false, false, false, false, false, false, false, false, false, false, false, false, false, false, false, false, false, false, false, false, false, false, false, false, false, false, false, false, false, false, false, false, false, false, false, false, false, false, false, false, false, false, false] rfl rfl (take_ofW HT_.out HW_.out (by kernel_rfl)) (fun _ _ _ h => h) (Or.inl ⟨by rfl, ?_⟩) hHeld ?_ ?_
  rotate_left
  · rintro w' ⟨s0, s1, s2, s3, s4, s5, s6, s7, s8, s9, s10, s11, s12, s13, s14, s15, s16, s17, s18, s19⟩
    go_simp
    with_reducible rfl
  rotate_left
  · simp only [Act.put, List.setIfInBounds_toArray, List.set_cons_zero, List.set_cons_succ, i64_w, i32_w]
    rfl
  refine take_ (i := 20) (N := some 48) (v := ?_) (a' := ?_) #[true, true, true, true, true, true, true, true, true, true, true, true, true, true, true, true, true, true, false, true, true, false, false, false, false, false, false, false, false, false, false, false, false, false, false, false, false, false, false, false, false, false, false, false, false, false, false, false, false, false, false, false, false, false, false, false, false, false, false, false, false, false, false, false, false, false, false, false, false, false, false, false, false, false, false, false, false, false, false, false, false, false, false, false, false, false, false, false, false, false] rfl rfl (take_ofW HT_.out HW_.out (by kernel_rfl)) (fun _ _ _ h => h) (Or.inl ⟨by rfl, ?_⟩) hHeld ?_ ?_
  rotate_left
  · rintro w' ⟨s0, s1, s2, s3, s4, s5, s6, s7, s8, s9, s10, s11, s12, s13, s14, s15, s16, s17, s18, s19⟩
    go_simp
    with_reducible rfl
  rotate_left
  · simp only [Act.put, List.setIfInBounds_toArray, List.set_cons_zero, List.set_cons_succ, i64_w, i32_w]
    rfl
  refine take_ (i := 21) (N := some 49) (v := ?_) (a' := ?_) #[true, true, true, true, true, true, true, true, true, true, true, true, true, true, true, true, true, true, false, true, true, true, false, false, false, false, false, false, false, false, false, false, false, false, false, false, false, false, false, false, false, false, false, false, false, false, false, false, false, false, false, false, false, false, false, false, false, false, false, false, false, false, false, false, false, false, false, false, false, false, false, false, false, false, false, false, false, false, false, false, false, false, false, false, false, false, false, false, false, false] rfl rfl (take_ofW HT_.out HW_.out (by kernel_rfl)) (fun _ _ _ h => h) (Or.inl ⟨by rfl, ?_⟩) hHeld ?_ ?_
  rotate_left
  · rintro w' ⟨s0, s1, s2, s3, s4, s5, s6, s7, s8, s9, s10, s11, s12, s13, s14, s15, s16, s17, s18, s19⟩
    go_simp
    with_reducible rfl
  rotate_left
  · simp only [Act.put, List.setIfInBounds_toArray, List.set_cons_zero, List.set_cons_succ, i64_w, i32_w]
    rfl
  refine one_ (i := 18) (N := some 46) #[true, true, true, true, true, true, true, true, true, true, true, true, true, true, true, true, true, true, true, true, true, true, false, false, false, false, false, false, false, false, false, false, false, false, false, false, false, false, false, false, false, false, false, false, false, false, false, false, false, false, false, false, false, false, false, false, false, false, false, false, false, false, false, false, false, false, false, false, false, false, false, false, false, false, false, false, false, false, false, false, false, false, false, false, false, false, false, false, false, false] rfl rfl (one_of HT_.out (by kernel_rfl)) (by decide) (fun K hK => ?_)
  refine goes_ Tryd.func12 (by kernel_rfl) rfl #[.agg #[.int .u64 t632, .int .u64 t633, .int .u64 t634, .int .u64 t635], .agg #[.int .u64 t627, .int .u64 t628, .int .u64 t629, .int .u64 t630]] (by rfl) rfl rfl (by (try simp only [List.map_toArray, List.map_cons, List.map_nil]); first | done | rfl | (simp only [List.length_drop, List.length_take]; rfl)) ?_
  with_reducible refine (vec_Join.calls t632 t633 t634 t635 t627 t628 t629 t630 t650 t651 t652 t653 _ A15.out).mono ?_
  rintro e w95 ⟨rfl, hb⟩
  refine ⟨_, rfl, ?_⟩
  have n0_ := Aside0.mk (blk_below (g := gb613) (o := .cells #[.int .u64 a0_0, .int .u64 a0_1, .int .u64 a0_2, .int .u64 a0_3, .bool a0_4] 26 (0, 0)) (by (with_reducible repeat (first | refine blk_drewN ?_ _ | refine blk_drew ?_ | refine blk_alloc ?_ _)); exact BK613.out) hb)
  have n1_ := Aside0.mk (blk_below (g := gb614) (o := .cells #[.int .u64 a1_0, .int .u64 a1_1, .int .u64 a1_2, .int .u64 a1_3, .bool a1_4] 26 (0, 0)) (by (with_reducible repeat (first | refine blk_drewN ?_ _ | refine blk_drew ?_ | refine blk_alloc ?_ _)); exact BK614.out) hb)
  have n2_ := Aside0.mk (blk_below (g := gb615) (o := .cells #[.int .u64 a2_0, .int .u64 a2_1, .int .u64 a2_2, .int .u64 a2_3, .bool a2_4] 26 (0, 0)) (by (with_reducible repeat (first | refine blk_drewN ?_ _ | refine blk_drew ?_ | refine blk_alloc ?_ _)); exact BK615.out) hb)
  have n3_ := Aside0.mk (blk_below (g := gb621) (o := .cells #[.int .u64 t617, .int .u64 t618, .int .u64 t619, .int .u64 t620] 24 (0, 0)) (by (with_reducible repeat (first | refine blk_drewN ?_ _ | refine blk_drew ?_ | refine blk_alloc ?_ _)); exact BK621.out) hb)
  have n4_ := Aside0.mk (blk_below (g := gb626) (o := .cells #[.int .u64 t622, .int .u64 t623, .int .u64 t624, .int .u64 t625] 24 (0, 0)) (by (with_reducible repeat (first | refine blk_drewN ?_ _ | refine blk_drew ?_ | refine blk_alloc ?_ _)); exact BK626.out) hb)
  have n5_ := Aside0.mk (blk_below (g := gb631) (o := .cells #[.int .u64 t627, .int .u64 t628, .int .u64 t629, .int .u64 t630] 24 (0, 0)) (by (with_reducible repeat (first | refine blk_drewN ?_ _ | refine blk_drew ?_ | refine blk_alloc ?_ _)); exact BK631.out) hb)
  have n6_ := Aside0.mk (blk_below (g := gb636) (o := .cells #[.int .u64 t632, .int .u64 t633, .int .u64 t634, .int .u64 t635] 24 (0, 0)) (by (with_reducible repeat (first | refine blk_drewN ?_ _ | refine blk_drew ?_ | refine blk_alloc ?_ _)); exact BK636.out) hb)
  have n7_ := Aside0.mk (blk_below (g := gb641) (o := .cells #[.int .u64 t637, .int .u64 t638, .int .u64 t639, .int .u64 t640] 24 (0, 0)) (by (with_reducible repeat (first | refine blk_drewN ?_ _ | refine blk_drew ?_ | refine blk_alloc ?_ _)); exact BK641.out) hb)
  have n8_ := Aside0.mk (below_step (by repeat (first | (with_reducible first | exact HB.out | apply below_alloc | apply pw_below_drewN | apply below_drew1 | refine below_set ?_ GE613.out | refine below_set ?_ GE614.out | refine below_set ?_ GE615.out | refine below_set ?_ GE621.out | refine below_set ?_ GE626.out | refine below_set ?_ GE631.out | refine below_set ?_ GE636.out | refine below_set ?_ GE641.out) | exact HB.out)) hb)
  clear BK613
  clear BK614
  clear BK615
  clear BK621
  clear BK626
  clear BK631
  clear BK636
  clear BK641
  clear HB
  have BK613 := n0_
  have BK614 := n1_
  have BK615 := n2_
  have BK621 := n3_
  have BK626 := n4_
  have BK631 := n5_
  have BK636 := n6_
  have BK641 := n7_
  have HB := n8_
  clear n0_ n1_ n2_ n3_ n4_ n5_ n6_ n7_ n8_
  (try clear hb)
  (try clear hb2)
  (try clear hk)
  (try clear hi)
  refine hK.out _ _ ⟨(blk_cell BK636.out 0).trans rfl, (blk_cell BK636.out 1).trans rfl, (blk_cell BK636.out 2).trans rfl, (blk_cell BK636.out 3).trans rfl, (blk_cell BK626.out 0).trans rfl, (blk_cell BK626.out 1).trans rfl, (blk_cell BK626.out 2).trans rfl, (blk_cell BK626.out 3).trans rfl, (blk_cell BK621.out 0).trans rfl, (blk_cell BK621.out 1).trans rfl, (blk_cell BK621.out 2).trans rfl, (blk_cell BK621.out 3).trans rfl, (blk_cell BK641.out 0).trans rfl, (blk_cell BK641.out 1).trans rfl, (blk_cell BK641.out 2).trans rfl, (blk_cell BK641.out 3).trans rfl, (blk_cell BK631.out 0).trans rfl, (blk_cell BK631.out 1).trans rfl, (blk_cell BK631.out 2).trans rfl, (blk_cell BK631.out 3).trans rfl⟩ (fun hHeld => ?_)
  clear hK K
  refine norm_ (a' := ?_) ?_ ?_
  rotate_left
  · show Act.put _ (some 46) _ = _
    simp only [Act.put, List.setIfInBounds_toArray, List.set_cons_zero, List.set_cons_succ, i64_w, i32_w]
    rfl
  refine one_ (i := 22) (N := some 50) #[true, true, true, true, true, true, true, true, true, true, true, true, true, true, true, true, true, true, true, true, true, true, true, false, false, false, false, false, false, false, false, false, false, false, false, false, false, false, false, false, false, false, false, false, false, false, false, false, false, false, false, false, false, false, false, false, false, false, false, false, false, false, false, false, false, false, false, false, false, false, false, false, false, false, false, false, false, false, false, false, false, false, false, false, false, false, false, false, false, false] rfl rfl (one_of HT_.out (by kernel_rfl)) (by decide) (fun K hK => ?_)
  refine goes_ Tryd.func12 (by kernel_rfl) rfl #[.agg #[.int .u64 t622, .int .u64 t623, .int .u64 t624, .int .u64 t625], .agg #[.int .u64 t627, .int .u64 t628, .int .u64 t629, .int .u64 t630]] (by rfl) rfl rfl (by (try simp only [List.map_toArray, List.map_cons, List.map_nil]); first | done | rfl | (simp only [List.length_drop, List.length_take]; rfl)) ?_
  with_reducible refine (vec_Join.calls t622 t623 t624 t625 t627 t628 t629 t630 t654 t655 t656 t657 _ A16.out).mono ?_
  rintro e w96 ⟨rfl, hb⟩
  refine ⟨_, rfl, ?_⟩
  have n0_ := Aside0.mk (blk_below (g := gb613) (o := .cells #[.int .u64 a0_0, .int .u64 a0_1, .int .u64 a0_2, .int .u64 a0_3, .bool a0_4] 26 (0, 0)) (by (with_reducible repeat (first | refine blk_drewN ?_ _ | refine blk_drew ?_ | refine blk_alloc ?_ _)); exact BK613.out) hb)
  have n1_ := Aside0.mk (blk_below (g := gb614) (o := .cells #[.int .u64 a1_0, .int .u64 a1_1, .int .u64 a1_2, .int .u64 a1_3, .bool a1_4] 26 (0, 0)) (by (with_reducible repeat (first | refine blk_drewN ?_ _ | refine blk_drew ?_ | refine blk_alloc ?_ _)); exact BK614.out) hb)
  have n2_ := Aside0.mk (blk_below (g := gb615) (o := .cells #[.int .u64 a2_0, .int .u64 a2_1, .int .u64 a2_2, .int .u64 a2_3, .bool a2_4] 26 (0, 0)) (by (with_reducible repeat (first | refine blk_drewN ?_ _ | refine blk_drew ?_ | refine blk_alloc ?_ _)); exact BK615.out) hb)
  have n3_ := Aside0.mk (blk_below (g := gb621) (o := .cells #[.int .u64 t617, .int .u64 t618, .int .u64 t619, .int .u64 t620] 24 (0, 0)) (by (with_reducible repeat (first | refine blk_drewN ?_ _ | refine blk_drew ?_ | refine blk_alloc ?_ _)); exact BK621.out) hb)
  have n4_ := Aside0.mk (blk_below (g := gb626) (o := .cells #[.int .u64 t622, .int .u64 t623, .int .u64 t624, .int .u64 t625] 24 (0, 0)) (by (with_reducible repeat (first | refine blk_drewN ?_ _ | refine blk_drew ?_ | refine blk_alloc ?_ _)); exact BK626.out) hb)
  have n5_ := Aside0.mk (blk_below (g := gb631) (o := .cells #[.int .u64 t627, .int .u64 t628, .int .u64 t629, .int .u64 t630] 24 (0, 0)) (by (with_reducible repeat (first | refine blk_drewN ?_ _ | refine blk_drew ?_ | refine blk_alloc ?_ _)); exact BK631.out) hb)
  have n6_ := Aside0.mk (blk_below (g := gb636) (o := .cells #[.int .u64 t632, .int .u64 t633, .int .u64 t634, .int .u64 t635] 24 (0, 0)) (by (with_reducible repeat (first | refine blk_drewN ?_ _ | refine blk_drew ?_ | refine blk_alloc ?_ _)); exact BK636.out) hb)
  have n7_ := Aside0.mk (blk_below (g := gb641) (o := .cells #[.int .u64 t637, .int .u64 t638, .int .u64 t639, .int .u64 t640] 24 (0, 0)) (by (with_reducible repeat (first | refine blk_drewN ?_ _ | refine blk_drew ?_ | refine blk_alloc ?_ _)); exact BK641.out) hb)
  have n8_ := Aside0.mk (below_step (by repeat (first | (with_reducible first | exact HB.out | apply below_alloc | apply pw_below_drewN | apply below_drew1 | refine below_set ?_ GE613.out | refine below_set ?_ GE614.out | refine below_set ?_ GE615.out | refine below_set ?_ GE621.out | refine below_set ?_ GE626.out | refine below_set ?_ GE631.out | refine below_set ?_ GE636.out | refine below_set ?_ GE641.out) | exact HB.out)) hb)
  clear BK613
  clear BK614
  clear BK615
  clear BK621
  clear BK626
  clear BK631
  clear BK636
  clear BK641
  clear HB
  have BK613 := n0_
  have BK614 := n1_
  have BK615 := n2_
  have BK621 := n3_
  have BK626 := n4_
  have BK631 := n5_
  have BK636 := n6_
  have BK641 := n7_
  have HB := n8_
  clear n0_ n1_ n2_ n3_ n4_ n5_ n6_ n7_ n8_
  (try clear hb)
  (try clear hb2)
  (try clear hk)
  (try clear hi)
  refine hK.out _ _ ⟨(blk_cell BK636.out 0).trans rfl, (blk_cell BK636.out 1).trans rfl, (blk_cell BK636.out 2).trans rfl, (blk_cell BK636.out 3).trans rfl, (blk_cell BK626.out 0).trans rfl, (blk_cell BK626.out 1).trans rfl, (blk_cell BK626.out 2).trans rfl, (blk_cell BK626.out 3).trans rfl, (blk_cell BK621.out 0).trans rfl, (blk_cell BK621.out 1).trans rfl, (blk_cell BK621.out 2).trans rfl, (blk_cell BK621.out 3).trans rfl, (blk_cell BK641.out 0).trans rfl, (blk_cell BK641.out 1).trans rfl, (blk_cell BK641.out 2).trans rfl, (blk_cell BK641.out 3).trans rfl, (blk_cell BK631.out 0).trans rfl, (blk_cell BK631.out 1).trans rfl, (blk_cell BK631.out 2).trans rfl, (blk_cell BK631.out 3).trans rfl⟩ (fun hHeld => ?_)
  clear hK K
  refine norm_ (a' := ?_) ?_ ?_
  rotate_left
  · show Act.put _ (some 50) _ = _
    simp only [Act.put, List.setIfInBounds_toArray, List.set_cons_zero, List.set_cons_succ, i64_w, i32_w]
    rfl
  refine one_ (i := 23) (N := some 51) #[true, true, true, true, true, true, true, true, true, true, true, true, true, true, true, true, true, true, true, true, true, true, true, true, false, false, false, false, false, false, false, false, false, false, false, false, false, false, false, false, false, false, false, false, false, false, false, false, false, false, false, false, false, false, false, false, false, false, false, false, false, false, false, false, false, false, false, false, false, false, false, false, false, false, false, false, false, false, false, false, false, false, false, false, false, false, false, false, false, false] rfl rfl (one_of HT_.out (by kernel_rfl)) (by decide) (fun K hK => ?_)
  refine goes_ Tryd.func12 (by kernel_rfl) rfl #[.agg #[.int .u64 t617, .int .u64 t618, .int .u64 t619, .int .u64 t620], .agg #[.int .u64 t654, .int .u64 t655, .int .u64 t656, .int .u64 t657]] (by rfl) rfl rfl (by (try simp only [List.map_toArray, List.map_cons, List.map_nil]); first | done | rfl | (simp only [List.length_drop, List.length_take]; rfl)) ?_
  with_reducible refine (vec_Join.calls t617 t618 t619 t620 t654 t655 t656 t657 t658 t659 t660 t661 _ A17.out).mono ?_
  rintro e w97 ⟨rfl, hb⟩
  refine ⟨_, rfl, ?_⟩
  have n0_ := Aside0.mk (blk_below (g := gb613) (o := .cells #[.int .u64 a0_0, .int .u64 a0_1, .int .u64 a0_2, .int .u64 a0_3, .bool a0_4] 26 (0, 0)) (by (with_reducible repeat (first | refine blk_drewN ?_ _ | refine blk_drew ?_ | refine blk_alloc ?_ _)); exact BK613.out) hb)
  have n1_ := Aside0.mk (blk_below (g := gb614) (o := .cells #[.int .u64 a1_0, .int .u64 a1_1, .int .u64 a1_2, .int .u64 a1_3, .bool a1_4] 26 (0, 0)) (by (with_reducible repeat (first | refine blk_drewN ?_ _ | refine blk_drew ?_ | refine blk_alloc ?_ _)); exact BK614.out) hb)
  have n2_ := Aside0.mk (blk_below (g := gb615) (o := .cells #[.int .u64 a2_0, .int .u64 a2_1, .int .u64 a2_2, .int .u64 a2_3, .bool a2_4] 26 (0, 0)) (by (with_reducible repeat (first | refine blk_drewN ?_ _ | refine blk_drew ?_ | refine blk_alloc ?_ _)); exact BK615.out) hb)
  have n3_ := Aside0.mk (blk_below (g := gb621) (o := .cells #[.int .u64 t617, .int .u64 t618, .int .u64 t619, .int .u64 t620] 24 (0, 0)) (by (with_reducible repeat (first | refine blk_drewN ?_ _ | refine blk_drew ?_ | refine blk_alloc ?_ _)); exact BK621.out) hb)
  have n4_ := Aside0.mk (blk_below (g := gb626) (o := .cells #[.int .u64 t622, .int .u64 t623, .int .u64 t624, .int .u64 t625] 24 (0, 0)) (by (with_reducible repeat (first | refine blk_drewN ?_ _ | refine blk_drew ?_ | refine blk_alloc ?_ _)); exact BK626.out) hb)
  have n5_ := Aside0.mk (blk_below (g := gb631) (o := .cells #[.int .u64 t627, .int .u64 t628, .int .u64 t629, .int .u64 t630] 24 (0, 0)) (by (with_reducible repeat (first | refine blk_drewN ?_ _ | refine blk_drew ?_ | refine blk_alloc ?_ _)); exact BK631.out) hb)
  have n6_ := Aside0.mk (blk_below (g := gb636) (o := .cells #[.int .u64 t632, .int .u64 t633, .int .u64 t634, .int .u64 t635] 24 (0, 0)) (by (with_reducible repeat (first | refine blk_drewN ?_ _ | refine blk_drew ?_ | refine blk_alloc ?_ _)); exact BK636.out) hb)
  have n7_ := Aside0.mk (blk_below (g := gb641) (o := .cells #[.int .u64 t637, .int .u64 t638, .int .u64 t639, .int .u64 t640] 24 (0, 0)) (by (with_reducible repeat (first | refine blk_drewN ?_ _ | refine blk_drew ?_ | refine blk_alloc ?_ _)); exact BK641.out) hb)
  have n8_ := Aside0.mk (below_step (by repeat (first | (with_reducible first | exact HB.out | apply below_alloc | apply pw_below_drewN | apply below_drew1 | refine below_set ?_ GE613.out | refine below_set ?_ GE614.out | refine below_set ?_ GE615.out | refine below_set ?_ GE621.out | refine below_set ?_ GE626.out | refine below_set ?_ GE631.out | refine below_set ?_ GE636.out | refine below_set ?_ GE641.out) | exact HB.out)) hb)
  clear BK613
  clear BK614
  clear BK615
  clear BK621
  clear BK626
  clear BK631
  clear BK636
  clear BK641
  clear HB
  have BK613 := n0_
  have BK614 := n1_
  have BK615 := n2_
  have BK621 := n3_
  have BK626 := n4_
  have BK631 := n5_
  have BK636 := n6_
  have BK641 := n7_
  have HB := n8_
  clear n0_ n1_ n2_ n3_ n4_ n5_ n6_ n7_ n8_
  (try clear hb)
  (try clear hb2)
  (try clear hk)
  (try clear hi)
  refine hK.out _ _ ⟨(blk_cell BK636.out 0).trans rfl, (blk_cell BK636.out 1).trans rfl, (blk_cell BK636.out 2).trans rfl, (blk_cell BK636.out 3).trans rfl, (blk_cell BK626.out 0).trans rfl, (blk_cell BK626.out 1).trans rfl, (blk_cell BK626.out 2).trans rfl, (blk_cell BK626.out 3).trans rfl, (blk_cell BK621.out 0).trans rfl, (blk_cell BK621.out 1).trans rfl, (blk_cell BK621.out 2).trans rfl, (blk_cell BK621.out 3).trans rfl, (blk_cell BK641.out 0).trans rfl, (blk_cell BK641.out 1).trans rfl, (blk_cell BK641.out 2).trans rfl, (blk_cell BK641.out 3).trans rfl, (blk_cell BK631.out 0).trans rfl, (blk_cell BK631.out 1).trans rfl, (blk_cell BK631.out 2).trans rfl, (blk_cell BK631.out 3).trans rfl⟩ (fun hHeld => ?_)
  clear hK K
  refine norm_ (a' := ?_) ?_ ?_
  rotate_left
  · show Act.put _ (some 51) _ = _
    simp only [Act.put, List.setIfInBounds_toArray, List.set_cons_zero, List.set_cons_succ, i64_w, i32_w]
    rfl
  refine pure_ (i := 24) (N := some 52) (v := ?_) (a' := ?_) #[true, true, true, true, true, true, true, true, true, true, true, true, true, true, true, true, true, true, true, true, true, true, true, true, true, false, false, false, false, false, false, false, false, false, false, false, false, false, false, false, false, false, false, false, false, false, false, false, false, false, false, false, false, false, false, false, false, false, false, false, false, false, false, false, false, false, false, false, false, false, false, false, false, false, false, false, false, false, false, false, false, false, false, false, false, false, false, false, false, false] rfl rfl (any_of HT_.out (by kernel_rfl)) (fun _ _ _ h => h) (Or.inl ⟨by rfl, ?_⟩) ?_ ?_
  rotate_left
  · intro w'
    go_simp
    with_reducible rfl
  rotate_left
  · simp only [Act.put, List.setIfInBounds_toArray, List.set_cons_zero, List.set_cons_succ, i64_w, i32_w]
    rfl
  refine pure_ (i := 25) (N := some 53) (v := ?_) (a' := ?_) #[true, true, true, true, true, true, true, true, true, true, true, true, true, true, true, true, true, true, true, true, true, true, true, true, true, true, false, false, false, false, false, false, false, false, false, false, false, false, false, false, false, false, false, false, false, false, false, false, false, false, false, false, false, false, false, false, false, false, false, false, false, false, false, false, false, false, false, false, false, false, false, false, false, false, false, false, false, false, false, false, false, false, false, false, false, false, false, false, false, false] rfl rfl (any_of HT_.out (by kernel_rfl)) (fun _ _ _ h => h) (Or.inl ⟨by rfl, ?_⟩) ?_ ?_
  rotate_left
  · intro w'
    go_simp
    with_reducible rfl
  rotate_left
  · simp only [Act.put, List.setIfInBounds_toArray, List.set_cons_zero, List.set_cons_succ, i64_w, i32_w]
    rfl
  refine pure_ (i := 26) (N := some 54) (v := ?_) (a' := ?_) #[true, true, true, true, true, true, true, true, true, true, true, true, true, true, true, true, true, true, true, true, true, true, true, true, true, true, true, false, false, false, false, false, false, false, false, false, false, false, false, false, false, false, false, false, false, false, false, false, false, false, false, false, false, false, false, false, false, false, false, false, false, false, false, false, false, false, false, false, false, false, false, false, false, false, false, false, false, false, false, false, false, false, false, false, false, false, false, false, false, false] rfl rfl (any_of HT_.out (by kernel_rfl)) (fun _ _ _ h => h) (Or.inl ⟨by rfl, ?_⟩) ?_ ?_
  rotate_left
  · intro w'
    go_simp
    with_reducible rfl
  rotate_left
  · simp only [Act.put, List.setIfInBounds_toArray, List.set_cons_zero, List.set_cons_succ, i64_w, i32_w]
    rfl
  refine take_ (i := 27) (N := some 55) (v := ?_) (a' := ?_) #[true, true, true, true, true, true, true, true, true, true, true, true, true, true, true, true, true, true, true, true, true, true, true, true, true, true, true, true, false, false, false, false, false, false, false, false, false, false, false, false, false, false, false, false, false, false, false, false, false, false, false, false, false, false, false, false, false, false, false, false, false, false, false, false, false, false, false, false, false, false, false, false, false, false, false, false, false, false, false, false, false, false, false, false, false, false, false, false, false, false] rfl rfl (take_ofW HT_.out HW_.out (by kernel_rfl)) (fun _ _ _ h => h) (Or.inl ⟨by rfl, ?_⟩) hHeld ?_ ?_
  rotate_left
  · rintro w' ⟨s0, s1, s2, s3, s4, s5, s6, s7, s8, s9, s10, s11, s12, s13, s14, s15, s16, s17, s18, s19⟩
    go_simp
    with_reducible rfl
  rotate_left
  · simp only [Act.put, List.setIfInBounds_toArray, List.set_cons_zero, List.set_cons_succ, i64_w, i32_w]
    rfl
  refine take_ (i := 28) (N := some 56) (v := ?_) (a' := ?_) #[true, true, true, true, true, true, true, true, true, true, true, true, true, true, true, true, true, true, true, true, true, true, true, true, true, true, true, true, true, false, false, false, false, false, false, false, false, false, false, false, false, false, false, false, false, false, false, false, false, false, false, false, false, false, false, false, false, false, false, false, false, false, false, false, false, false, false, false, false, false, false, false, false, false, false, false, false, false, false, false, false, false, false, false, false, false, false, false, false, false] rfl rfl (take_ofW HT_.out HW_.out (by kernel_rfl)) (fun _ _ _ h => h) (Or.inl ⟨by rfl, ?_⟩) hHeld ?_ ?_
  rotate_left
  · rintro w' ⟨s0, s1, s2, s3, s4, s5, s6, s7, s8, s9, s10, s11, s12, s13, s14, s15, s16, s17, s18, s19⟩
    go_simp
    with_reducible rfl
  rotate_left
  · simp only [Act.put, List.setIfInBounds_toArray, List.set_cons_zero, List.set_cons_succ, i64_w, i32_w]
    rfl
  refine take_ (i := 30) (N := some 58) (v := ?_) (a' := ?_) #[true, true, true, true, true, true, true, true, true, true, true, true, true, true, true, true, true, true, true, true, true, true, true, true, true, true, true, true, true, false, true, false, false, false, false, false, false, false, false, false, false, false, false, false, false, false, false, false, false, false, false, false, false, false, false, false, false, false, false, false, false, false, false, false, false, false, false, false, false, false, false, false, false, false, false, false, false, false, false, false, false, false, false, false, false, false, false, false, false, false] rfl rfl (take_ofW HT_.out HW_.out (by kernel_rfl)) (fun _ _ _ h => h) (Or.inl ⟨by rfl, ?_⟩) hHeld ?_ ?_
  rotate_left
  · rintro w' ⟨s0, s1, s2, s3, s4, s5, s6, s7, s8, s9, s10, s11, s12, s13, s14, s15, s16, s17, s18, s19⟩
    go_simp
    with_reducible rfl
  rotate_left
  · simp only [Act.put, List.setIfInBounds_toArray, List.set_cons_zero, List.set_cons_succ, i64_w, i32_w]
    rfl
  refine take_ (i := 31) (N := some 59) (v := ?_) (a' := ?_) #[true, true, true, true, true, true, true, true, true, true, true, true, true, true, true, true, true, true, true, true, true, true, true, true, true, true, true, true, true, false, true, true, false, false, false, false, false, false, false, false, false, false, false, false, false, false, false, false, false, false, false, false, false, false, false, false, false, false, false, false, false, false, false, false, false, false, false, false, false, false, false, false, false, false, false, false, false, false, false, false, false, false, false, false, false, false, false, false, false, false] rfl rfl (take_ofW HT_.out HW_.out (by kernel_rfl)) (fun _ _ _ h => h) (Or.inl ⟨by rfl, ?_⟩) hHeld ?_ ?_
  rotate_left
  · rintro w' ⟨s0, s1, s2, s3, s4, s5, s6, s7, s8, s9, s10, s11, s12, s13, s14, s15, s16, s17, s18, s19⟩
    go_simp
    with_reducible rfl
  rotate_left
  · simp only [Act.put, List.setIfInBounds_toArray, List.set_cons_zero, List.set_cons_succ, i64_w, i32_w]
    rfl
  refine take_ (i := 32) (N := some 60) (v := ?_) (a' := ?_) #[true, true, true, true, true, true, true, true, true, true, true, true, true, true, true, true, true, true, true, true, true, true, true, true, true, true, true, true, true, false, true, true, true, false, false, false, false, false, false, false, false, false, false, false, false, false, false, false, false, false, false, false, false, false, false, false, false, false, false, false, false, false, false, false, false, false, false, false, false, false, false, false, false, false, false, false, false, false, false, false, false, false, false, false, false, false, false, false, false, false] rfl rfl (take_ofW HT_.out HW_.out (by kernel_rfl)) (fun _ _ _ h => h) (Or.inl ⟨by rfl, ?_⟩) hHeld ?_ ?_
  rotate_left
  · rintro w' ⟨s0, s1, s2, s3, s4, s5, s6, s7, s8, s9, s10, s11, s12, s13, s14, s15, s16, s17, s18, s19⟩
    go_simp
    with_reducible rfl
  rotate_left
  · simp only [Act.put, List.setIfInBounds_toArray, List.set_cons_zero, List.set_cons_succ, i64_w, i32_w]
    rfl
  refine one_ (i := 29) (N := some 57) #[true, true, true, true, true, true, true, true, true, true, true, true, true, true, true, true, true, true, true, true, true, true, true, true, true, true, true, true, true, true, true, true, true, false, false, false, false, false, false, false, false, false, false, false, false, false, false, false, false, false, false, false, false, false, false, false, false, false, false, false, false, false, false, false, false, false, false, false, false, false, false, false, false, false, false, false, false, false, false, false, false, false, false, false, false, false, false, false, false, false] rfl rfl (one_of HT_.out (by kernel_rfl)) (by decide) (fun K hK => ?_)
  refine goes_ Tryd.func14 (by kernel_rfl) rfl #[.agg #[.int .u64 t637, .int .u64 t638, .int .u64 t639, .int .u64 t640], .agg #[.int .u64 t627, .int .u64 t628, .int .u64 t629, .int .u64 t630]] (by rfl) rfl rfl (by (try simp only [List.map_toArray, List.map_cons, List.map_nil]); first | done | rfl | (simp only [List.length_drop, List.length_take]; rfl)) ?_
  with_reducible refine (vec_Meet.calls t637 t638 t639 t640 t627 t628 t629 t630 t662 t663 t664 t665 _ A19.out).mono ?_
  rintro e w98 ⟨rfl, hb⟩
  refine ⟨_, rfl, ?_⟩
  have n0_ := Aside0.mk (blk_below (g := gb613) (o := .cells #[.int .u64 a0_0, .int .u64 a0_1, .int .u64 a0_2, .int .u64 a0_3, .bool a0_4] 26 (0, 0)) (by (with_reducible repeat (first | refine blk_drewN ?_ _ | refine blk_drew ?_ | refine blk_alloc ?_ _)); exact BK613.out) hb)
  have n1_ := Aside0.mk (blk_below (g := gb614) (o := .cells #[.int .u64 a1_0, .int .u64 a1_1, .int .u64 a1_2, .int .u64 a1_3, .bool a1_4] 26 (0, 0)) (by (with_reducible repeat (first | refine blk_drewN ?_ _ | refine blk_drew ?_ | refine blk_alloc ?_ _)); exact BK614.out) hb)
  have n2_ := Aside0.mk (blk_below (g := gb615) (o := .cells #[.int .u64 a2_0, .int .u64 a2_1, .int .u64 a2_2, .int .u64 a2_3, .bool a2_4] 26 (0, 0)) (by (with_reducible repeat (first | refine blk_drewN ?_ _ | refine blk_drew ?_ | refine blk_alloc ?_ _)); exact BK615.out) hb)
  have n3_ := Aside0.mk (blk_below (g := gb621) (o := .cells #[.int .u64 t617, .int .u64 t618, .int .u64 t619, .int .u64 t620] 24 (0, 0)) (by (with_reducible repeat (first | refine blk_drewN ?_ _ | refine blk_drew ?_ | refine blk_alloc ?_ _)); exact BK621.out) hb)
  have n4_ := Aside0.mk (blk_below (g := gb626) (o := .cells #[.int .u64 t622, .int .u64 t623, .int .u64 t624, .int .u64 t625] 24 (0, 0)) (by (with_reducible repeat (first | refine blk_drewN ?_ _ | refine blk_drew ?_ | refine blk_alloc ?_ _)); exact BK626.out) hb)
  have n5_ := Aside0.mk (blk_below (g := gb631) (o := .cells #[.int .u64 t627, .int .u64 t628, .int .u64 t629, .int .u64 t630] 24 (0, 0)) (by (with_reducible repeat (first | refine blk_drewN ?_ _ | refine blk_drew ?_ | refine blk_alloc ?_ _)); exact BK631.out) hb)
  have n6_ := Aside0.mk (blk_below (g := gb636) (o := .cells #[.int .u64 t632, .int .u64 t633, .int .u64 t634, .int .u64 t635] 24 (0, 0)) (by (with_reducible repeat (first | refine blk_drewN ?_ _ | refine blk_drew ?_ | refine blk_alloc ?_ _)); exact BK636.out) hb)
  have n7_ := Aside0.mk (blk_below (g := gb641) (o := .cells #[.int .u64 t637, .int .u64 t638, .int .u64 t639, .int .u64 t640] 24 (0, 0)) (by (with_reducible repeat (first | refine blk_drewN ?_ _ | refine blk_drew ?_ | refine blk_alloc ?_ _)); exact BK641.out) hb)
  have n8_ := Aside0.mk (below_step (by repeat (first | (with_reducible first | exact HB.out | apply below_alloc | apply pw_below_drewN | apply below_drew1 | refine below_set ?_ GE613.out | refine below_set ?_ GE614.out | refine below_set ?_ GE615.out | refine below_set ?_ GE621.out | refine below_set ?_ GE626.out | refine below_set ?_ GE631.out | refine below_set ?_ GE636.out | refine below_set ?_ GE641.out) | exact HB.out)) hb)
  clear BK613
  clear BK614
  clear BK615
  clear BK621
  clear BK626
  clear BK631
  clear BK636
  clear BK641
  clear HB
  have BK613 := n0_
  have BK614 := n1_
  have BK615 := n2_
  have BK621 := n3_
  have BK626 := n4_
  have BK631 := n5_
  have BK636 := n6_
  have BK641 := n7_
  have HB := n8_
  clear n0_ n1_ n2_ n3_ n4_ n5_ n6_ n7_ n8_
  (try clear hb)
  (try clear hb2)
  (try clear hk)
  (try clear hi)
  refine hK.out _ _ ⟨(blk_cell BK636.out 0).trans rfl, (blk_cell BK636.out 1).trans rfl, (blk_cell BK636.out 2).trans rfl, (blk_cell BK636.out 3).trans rfl, (blk_cell BK626.out 0).trans rfl, (blk_cell BK626.out 1).trans rfl, (blk_cell BK626.out 2).trans rfl, (blk_cell BK626.out 3).trans rfl, (blk_cell BK621.out 0).trans rfl, (blk_cell BK621.out 1).trans rfl, (blk_cell BK621.out 2).trans rfl, (blk_cell BK621.out 3).trans rfl, (blk_cell BK641.out 0).trans rfl, (blk_cell BK641.out 1).trans rfl, (blk_cell BK641.out 2).trans rfl, (blk_cell BK641.out 3).trans rfl, (blk_cell BK631.out 0).trans rfl, (blk_cell BK631.out 1).trans rfl, (blk_cell BK631.out 2).trans rfl, (blk_cell BK631.out 3).trans rfl⟩ (fun hHeld => ?_)
  clear hK K
  refine norm_ (a' := ?_) ?_ ?_
  rotate_left
  · show Act.put _ (some 57) _ = _
    simp only [Act.put, List.setIfInBounds_toArray, List.set_cons_zero, List.set_cons_succ, i64_w, i32_w]
    rfl
  refine one_ (i := 33) (N := some 61) #[true, true, true, true, true, true, true, true, true, true, true, true, true, true, true, true, true, true, true, true, true, true, true, true, true, true, true, true, true, true, true, true, true, true, false, false, false, false, false, false, false, false, false, false, false, false, false, false, false, false, false, false, false, false, false, false, false, false, false, false, false, false, false, false, false, false, false, false, false, false, false, false, false, false, false, false, false, false, false, false, false, false, false, false, false, false, false, false, false, false] rfl rfl (one_of HT_.out (by kernel_rfl)) (by decide) (fun K hK => ?_)
  refine goes_ Tryd.func14 (by kernel_rfl) rfl #[.agg #[.int .u64 t622, .int .u64 t623, .int .u64 t624, .int .u64 t625], .agg #[.int .u64 t627, .int .u64 t628, .int .u64 t629, .int .u64 t630]] (by rfl) rfl rfl (by (try simp only [List.map_toArray, List.map_cons, List.map_nil]); first | done | rfl | (simp only [List.length_drop, List.length_take]; rfl)) ?_
  with_reducible refine (vec_Meet.calls t622 t623 t624 t625 t627 t628 t629 t630 t666 t667 t668 t669 _ A20.out).mono ?_
  rintro e w99 ⟨rfl, hb⟩
  refine ⟨_, rfl, ?_⟩
  have n0_ := Aside0.mk (blk_below (g := gb613) (o := .cells #[.int .u64 a0_0, .int .u64 a0_1, .int .u64 a0_2, .int .u64 a0_3, .bool a0_4] 26 (0, 0)) (by (with_reducible repeat (first | refine blk_drewN ?_ _ | refine blk_drew ?_ | refine blk_alloc ?_ _)); exact BK613.out) hb)
  have n1_ := Aside0.mk (blk_below (g := gb614) (o := .cells #[.int .u64 a1_0, .int .u64 a1_1, .int .u64 a1_2, .int .u64 a1_3, .bool a1_4] 26 (0, 0)) (by (with_reducible repeat (first | refine blk_drewN ?_ _ | refine blk_drew ?_ | refine blk_alloc ?_ _)); exact BK614.out) hb)
  have n2_ := Aside0.mk (blk_below (g := gb615) (o := .cells #[.int .u64 a2_0, .int .u64 a2_1, .int .u64 a2_2, .int .u64 a2_3, .bool a2_4] 26 (0, 0)) (by (with_reducible repeat (first | refine blk_drewN ?_ _ | refine blk_drew ?_ | refine blk_alloc ?_ _)); exact BK615.out) hb)
  have n3_ := Aside0.mk (blk_below (g := gb621) (o := .cells #[.int .u64 t617, .int .u64 t618, .int .u64 t619, .int .u64 t620] 24 (0, 0)) (by (with_reducible repeat (first | refine blk_drewN ?_ _ | refine blk_drew ?_ | refine blk_alloc ?_ _)); exact BK621.out) hb)
  have n4_ := Aside0.mk (blk_below (g := gb626) (o := .cells #[.int .u64 t622, .int .u64 t623, .int .u64 t624, .int .u64 t625] 24 (0, 0)) (by (with_reducible repeat (first | refine blk_drewN ?_ _ | refine blk_drew ?_ | refine blk_alloc ?_ _)); exact BK626.out) hb)
  have n5_ := Aside0.mk (blk_below (g := gb631) (o := .cells #[.int .u64 t627, .int .u64 t628, .int .u64 t629, .int .u64 t630] 24 (0, 0)) (by (with_reducible repeat (first | refine blk_drewN ?_ _ | refine blk_drew ?_ | refine blk_alloc ?_ _)); exact BK631.out) hb)
  have n6_ := Aside0.mk (blk_below (g := gb636) (o := .cells #[.int .u64 t632, .int .u64 t633, .int .u64 t634, .int .u64 t635] 24 (0, 0)) (by (with_reducible repeat (first | refine blk_drewN ?_ _ | refine blk_drew ?_ | refine blk_alloc ?_ _)); exact BK636.out) hb)
  have n7_ := Aside0.mk (blk_below (g := gb641) (o := .cells #[.int .u64 t637, .int .u64 t638, .int .u64 t639, .int .u64 t640] 24 (0, 0)) (by (with_reducible repeat (first | refine blk_drewN ?_ _ | refine blk_drew ?_ | refine blk_alloc ?_ _)); exact BK641.out) hb)
  have n8_ := Aside0.mk (below_step (by repeat (first | (with_reducible first | exact HB.out | apply below_alloc | apply pw_below_drewN | apply below_drew1 | refine below_set ?_ GE613.out | refine below_set ?_ GE614.out | refine below_set ?_ GE615.out | refine below_set ?_ GE621.out | refine below_set ?_ GE626.out | refine below_set ?_ GE631.out | refine below_set ?_ GE636.out | refine below_set ?_ GE641.out) | exact HB.out)) hb)
  clear BK613
  clear BK614
  clear BK615
  clear BK621
  clear BK626
  clear BK631
  clear BK636
  clear BK641
  clear HB
  have BK613 := n0_
  have BK614 := n1_
  have BK615 := n2_
  have BK621 := n3_
  have BK626 := n4_
  have BK631 := n5_
  have BK636 := n6_
  have BK641 := n7_
  have HB := n8_
  clear n0_ n1_ n2_ n3_ n4_ n5_ n6_ n7_ n8_
  (try clear hb)
  (try clear hb2)
  (try clear hk)
  (try clear hi)
  refine hK.out _ _ ⟨(blk_cell BK636.out 0).trans rfl, (blk_cell BK636.out 1).trans rfl, (blk_cell BK636.out 2).trans rfl, (blk_cell BK636.out 3).trans rfl, (blk_cell BK626.out 0).trans rfl, (blk_cell BK626.out 1).trans rfl, (blk_cell BK626.out 2).trans rfl, (blk_cell BK626.out 3).trans rfl, (blk_cell BK621.out 0).trans rfl, (blk_cell BK621.out 1).trans rfl, (blk_cell BK621.out 2).trans rfl, (blk_cell BK621.out 3).trans rfl, (blk_cell BK641.out 0).trans rfl, (blk_cell BK641.out 1).trans rfl, (blk_cell BK641.out 2).trans rfl, (blk_cell BK641.out 3).trans rfl, (blk_cell BK631.out 0).trans rfl, (blk_cell BK631.out 1).trans rfl, (blk_cell BK631.out 2).trans rfl, (blk_cell BK631.out 3).trans rfl⟩ (fun hHeld => ?_)
  clear hK K
  refine norm_ (a' := ?_) ?_ ?_
  rotate_left
  · show Act.put _ (some 61) _ = _
    simp only [Act.put, List.setIfInBounds_toArray, List.set_cons_zero, List.set_cons_succ, i64_w, i32_w]
    rfl
  refine one_ (i := 34) (N := some 62) #[true, true, true, true, true, true, true, true, true, true, true, true, true, true, true, true, true, true, true, true, true, true, true, true, true, true, true, true, true, true, true, true, true, true, true, false, false, false, false, false, false, false, false, false, false, false, false, false, false, false, false, false, false, false, false, false, false, false, false, false, false, false, false, false, false, false, false, false, false, false, false, false, false, false, false, false, false, false, false, false, false, false, false, false, false, false, false, false, false, false] rfl rfl (one_of HT_.out (by kernel_rfl)) (by decide) (fun K hK => ?_)
  refine goes_ Tryd.func14 (by kernel_rfl) rfl #[.agg #[.int .u64 t617, .int .u64 t618, .int .u64 t619, .int .u64 t620], .agg #[.int .u64 t666, .int .u64 t667, .int .u64 t668, .int .u64 t669]] (by rfl) rfl rfl (by (try simp only [List.map_toArray, List.map_cons, List.map_nil]); first | done | rfl | (simp only [List.length_drop, List.length_take]; rfl)) ?_
  with_reducible refine (vec_Meet.calls t617 t618 t619 t620 t666 t667 t668 t669 t670 t671 t672 t673 _ A21.out).mono ?_
  rintro e w100 ⟨rfl, hb⟩
  refine ⟨_, rfl, ?_⟩
  have n0_ := Aside0.mk (blk_below (g := gb613) (o := .cells #[.int .u64 a0_0, .int .u64 a0_1, .int .u64 a0_2, .int .u64 a0_3, .bool a0_4] 26 (0, 0)) (by (with_reducible repeat (first | refine blk_drewN ?_ _ | refine blk_drew ?_ | refine blk_alloc ?_ _)); exact BK613.out) hb)
  have n1_ := Aside0.mk (blk_below (g := gb614) (o := .cells #[.int .u64 a1_0, .int .u64 a1_1, .int .u64 a1_2, .int .u64 a1_3, .bool a1_4] 26 (0, 0)) (by (with_reducible repeat (first | refine blk_drewN ?_ _ | refine blk_drew ?_ | refine blk_alloc ?_ _)); exact BK614.out) hb)
  have n2_ := Aside0.mk (blk_below (g := gb615) (o := .cells #[.int .u64 a2_0, .int .u64 a2_1, .int .u64 a2_2, .int .u64 a2_3, .bool a2_4] 26 (0, 0)) (by (with_reducible repeat (first | refine blk_drewN ?_ _ | refine blk_drew ?_ | refine blk_alloc ?_ _)); exact BK615.out) hb)
  have n3_ := Aside0.mk (blk_below (g := gb621) (o := .cells #[.int .u64 t617, .int .u64 t618, .int .u64 t619, .int .u64 t620] 24 (0, 0)) (by (with_reducible repeat (first | refine blk_drewN ?_ _ | refine blk_drew ?_ | refine blk_alloc ?_ _)); exact BK621.out) hb)
  have n4_ := Aside0.mk (blk_below (g := gb626) (o := .cells #[.int .u64 t622, .int .u64 t623, .int .u64 t624, .int .u64 t625] 24 (0, 0)) (by (with_reducible repeat (first | refine blk_drewN ?_ _ | refine blk_drew ?_ | refine blk_alloc ?_ _)); exact BK626.out) hb)
  have n5_ := Aside0.mk (blk_below (g := gb631) (o := .cells #[.int .u64 t627, .int .u64 t628, .int .u64 t629, .int .u64 t630] 24 (0, 0)) (by (with_reducible repeat (first | refine blk_drewN ?_ _ | refine blk_drew ?_ | refine blk_alloc ?_ _)); exact BK631.out) hb)
  have n6_ := Aside0.mk (blk_below (g := gb636) (o := .cells #[.int .u64 t632, .int .u64 t633, .int .u64 t634, .int .u64 t635] 24 (0, 0)) (by (with_reducible repeat (first | refine blk_drewN ?_ _ | refine blk_drew ?_ | refine blk_alloc ?_ _)); exact BK636.out) hb)
  have n7_ := Aside0.mk (blk_below (g := gb641) (o := .cells #[.int .u64 t637, .int .u64 t638, .int .u64 t639, .int .u64 t640] 24 (0, 0)) (by (with_reducible repeat (first | refine blk_drewN ?_ _ | refine blk_drew ?_ | refine blk_alloc ?_ _)); exact BK641.out) hb)
  have n8_ := Aside0.mk (below_step (by repeat (first | (with_reducible first | exact HB.out | apply below_alloc | apply pw_below_drewN | apply below_drew1 | refine below_set ?_ GE613.out | refine below_set ?_ GE614.out | refine below_set ?_ GE615.out | refine below_set ?_ GE621.out | refine below_set ?_ GE626.out | refine below_set ?_ GE631.out | refine below_set ?_ GE636.out | refine below_set ?_ GE641.out) | exact HB.out)) hb)
  clear BK613
  clear BK614
  clear BK615
  clear BK621
  clear BK626
  clear BK631
  clear BK636
  clear BK641
  clear HB
  have BK613 := n0_
  have BK614 := n1_
  have BK615 := n2_
  have BK621 := n3_
  have BK626 := n4_
  have BK631 := n5_
  have BK636 := n6_
  have BK641 := n7_
  have HB := n8_
  clear n0_ n1_ n2_ n3_ n4_ n5_ n6_ n7_ n8_
  (try clear hb)
  (try clear hb2)
  (try clear hk)
  (try clear hi)
  refine hK.out _ _ ⟨(blk_cell BK636.out 0).trans rfl, (blk_cell BK636.out 1).trans rfl, (blk_cell BK636.out 2).trans rfl, (blk_cell BK636.out 3).trans rfl, (blk_cell BK626.out 0).trans rfl, (blk_cell BK626.out 1).trans rfl, (blk_cell BK626.out 2).trans rfl, (blk_cell BK626.out 3).trans rfl, (blk_cell BK621.out 0).trans rfl, (blk_cell BK621.out 1).trans rfl, (blk_cell BK621.out 2).trans rfl, (blk_cell BK621.out 3).trans rfl, (blk_cell BK641.out 0).trans rfl, (blk_cell BK641.out 1).trans rfl, (blk_cell BK641.out 2).trans rfl, (blk_cell BK641.out 3).trans rfl, (blk_cell BK631.out 0).trans rfl, (blk_cell BK631.out 1).trans rfl, (blk_cell BK631.out 2).trans rfl, (blk_cell BK631.out 3).trans rfl⟩ (fun hHeld => ?_)
  clear hK K
  refine norm_ (a' := ?_) ?_ ?_
  rotate_left
  · show Act.put _ (some 62) _ = _
    simp only [Act.put, List.setIfInBounds_toArray, List.set_cons_zero, List.set_cons_succ, i64_w, i32_w]
    rfl
  refine pure_ (i := 35) (N := some 63) (v := ?_) (a' := ?_) #[true, true, true, true, true, true, true, true, true, true, true, true, true, true, true, true, true, true, true, true, true, true, true, true, true, true, true, true, true, true, true, true, true, true, true, true, false, false, false, false, false, false, false, false, false, false, false, false, false, false, false, false, false, false, false, false, false, false, false, false, false, false, false, false, false, false, false, false, false, false, false, false, false, false, false, false, false, false, false, false, false, false, false, false, false, false, false, false, false, false] rfl rfl (any_of HT_.out (by kernel_rfl)) (fun _ _ _ h => h) (Or.inl ⟨by rfl, ?_⟩) ?_ ?_
  rotate_left
  · intro w'
    go_simp
    with_reducible rfl
  rotate_left
  · simp only [Act.put, List.setIfInBounds_toArray, List.set_cons_zero, List.set_cons_succ, i64_w, i32_w]
    rfl
  refine pure_ (i := 36) (N := some 64) (v := ?_) (a' := ?_) #[true, true, true, true, true, true, true, true, true, true, true, true, true, true, true, true, true, true, true, true, true, true, true, true, true, true, true, true, true, true, true, true, true, true, true, true, true, false, false, false, false, false, false, false, false, false, false, false, false, false, false, false, false, false, false, false, false, false, false, false, false, false, false, false, false, false, false, false, false, false, false, false, false, false, false, false, false, false, false, false, false, false, false, false, false, false, false, false, false, false] rfl rfl (any_of HT_.out (by kernel_rfl)) (fun _ _ _ h => h) (Or.inl ⟨by rfl, ?_⟩) ?_ ?_
  rotate_left
  · intro w'
    go_simp
    with_reducible rfl
  rotate_left
  · simp only [Act.put, List.setIfInBounds_toArray, List.set_cons_zero, List.set_cons_succ, i64_w, i32_w]
    rfl
  refine pure_ (i := 37) (N := some 65) (v := ?_) (a' := ?_) #[true, true, true, true, true, true, true, true, true, true, true, true, true, true, true, true, true, true, true, true, true, true, true, true, true, true, true, true, true, true, true, true, true, true, true, true, true, true, false, false, false, false, false, false, false, false, false, false, false, false, false, false, false, false, false, false, false, false, false, false, false, false, false, false, false, false, false, false, false, false, false, false, false, false, false, false, false, false, false, false, false, false, false, false, false, false, false, false, false, false] rfl rfl (any_of HT_.out (by kernel_rfl)) (fun _ _ _ h => h) (Or.inl ⟨by rfl, ?_⟩) ?_ ?_
  rotate_left
  · intro w'
    go_simp
    with_reducible rfl
  rotate_left
  · simp only [Act.put, List.setIfInBounds_toArray, List.set_cons_zero, List.set_cons_succ, i64_w, i32_w]
    rfl
  refine take_ (i := 38) (N := some 66) (v := ?_) (a' := ?_) #[true, true, true, true, true, true, true, true, true, true, true, true, true, true, true, true, true, true, true, true, true, true, true, true, true, true, true, true, true, true, true, true, true, true, true, true, true, true, true, false, false, false, false, false, false, false, false, false, false, false, false, false, false, false, false, false, false, false, false, false, false, false, false, false, false, false, false, false, false, false, false, false, false, false, false, false, false, false, false, false, false, false, false, false, false, false, false, false, false, false] rfl rfl (take_ofW HT_.out HW_.out (by kernel_rfl)) (fun _ _ _ h => h) (Or.inl ⟨by rfl, ?_⟩) hHeld ?_ ?_
  rotate_left
  · rintro w' ⟨s0, s1, s2, s3, s4, s5, s6, s7, s8, s9, s10, s11, s12, s13, s14, s15, s16, s17, s18, s19⟩
    go_simp
    with_reducible rfl
  rotate_left
  · simp only [Act.put, List.setIfInBounds_toArray, List.set_cons_zero, List.set_cons_succ, i64_w, i32_w]
    rfl
  refine take_ (i := 39) (N := some 67) (v := ?_) (a' := ?_) #[true, true, true, true, true, true, true, true, true, true, true, true, true, true, true, true, true, true, true, true, true, true, true, true, true, true, true, true, true, true, true, true, true, true, true, true, true, true, true, true, false, false, false, false, false, false, false, false, false, false, false, false, false, false, false, false, false, false, false, false, false, false, false, false, false, false, false, false, false, false, false, false, false, false, false, false, false, false, false, false, false, false, false, false, false, false, false, false, false, false] rfl rfl (take_ofW HT_.out HW_.out (by kernel_rfl)) (fun _ _ _ h => h) (Or.inl ⟨by rfl, ?_⟩) hHeld ?_ ?_
  rotate_left
  · rintro w' ⟨s0, s1, s2, s3, s4, s5, s6, s7, s8, s9, s10, s11, s12, s13, s14, s15, s16, s17, s18, s19⟩
    go_simp
    with_reducible rfl
  rotate_left
  · simp only [Act.put, List.setIfInBounds_toArray, List.set_cons_zero, List.set_cons_succ, i64_w, i32_w]
    rfl
  refine take_ (i := 41) (N := some 69) (v := ?_) (a' := ?_) #[true, true, true, true, true, true, true, true, true, true, true, true, true, true, true, true, true, true, true, true, true, true, true, true, true, true, true, true, true, true, true, true, true, true, true, true, true, true, true, true, false, true, false, false, false, false, false, false, false, false, false, false, false, false, false, false, false, false, false, false, false, false, false, false, false, false, false, false, false, false, false, false, false, false, false, false, false, false, false, false, false, false, false, false, false, false, false, false, false, false] rfl rfl (take_ofW HT_.out HW_.out (by kernel_rfl)) (fun _ _ _ h => h) (Or.inl ⟨by rfl, ?_⟩) hHeld ?_ ?_
  rotate_left
  · rintro w' ⟨s0, s1, s2, s3, s4, s5, s6, s7, s8, s9, s10, s11, s12, s13, s14, s15, s16, s17, s18, s19⟩
    go_simp
    with_reducible rfl
  rotate_left
  · simp only [Act.put, List.setIfInBounds_toArray, List.set_cons_zero, List.set_cons_succ, i64_w, i32_w]
    rfl
  refine one_ (i := 40) (N := some 68) #[true, true, true, true, true, true, true, true, true, true, true, true, true, true, true, true, true, true, true, true, true, true, true, true, true, true, true, true, true, true, true, true, true, true, true, true, true, true, true, true, true, true, false, false, false, false, false, false, false, false, false, false, false, false, false, false, false, false, false, false, false, false, false, false, false, false, false, false, false, false, false, false, false, false, false, false, false, false, false, false, false, false, false, false, false, false, false, false, false, false] rfl rfl (one_of HT_.out (by kernel_rfl)) (by decide) (fun K hK => ?_)
  refine goes_ Tryd.func12 (by kernel_rfl) rfl #[.agg #[.int .u64 t632, .int .u64 t633, .int .u64 t634, .int .u64 t635], .agg #[.int .u64 t617, .int .u64 t618, .int .u64 t619, .int .u64 t620]] (by rfl) rfl rfl (by (try simp only [List.map_toArray, List.map_cons, List.map_nil]); first | done | rfl | (simp only [List.length_drop, List.length_take]; rfl)) ?_
  with_reducible refine (vec_Join.calls t632 t633 t634 t635 t617 t618 t619 t620 t674 t675 t676 t677 _ A23.out).mono ?_
  rintro e w101 ⟨rfl, hb⟩
  refine ⟨_, rfl, ?_⟩
  have n0_ := Aside0.mk (blk_below (g := gb613) (o := .cells #[.int .u64 a0_0, .int .u64 a0_1, .int .u64 a0_2, .int .u64 a0_3, .bool a0_4] 26 (0, 0)) (by (with_reducible repeat (first | refine blk_drewN ?_ _ | refine blk_drew ?_ | refine blk_alloc ?_ _)); exact BK613.out) hb)
  have n1_ := Aside0.mk (blk_below (g := gb614) (o := .cells #[.int .u64 a1_0, .int .u64 a1_1, .int .u64 a1_2, .int .u64 a1_3, .bool a1_4] 26 (0, 0)) (by (with_reducible repeat (first | refine blk_drewN ?_ _ | refine blk_drew ?_ | refine blk_alloc ?_ _)); exact BK614.out) hb)
  have n2_ := Aside0.mk (blk_below (g := gb615) (o := .cells #[.int .u64 a2_0, .int .u64 a2_1, .int .u64 a2_2, .int .u64 a2_3, .bool a2_4] 26 (0, 0)) (by (with_reducible repeat (first | refine blk_drewN ?_ _ | refine blk_drew ?_ | refine blk_alloc ?_ _)); exact BK615.out) hb)
  have n3_ := Aside0.mk (blk_below (g := gb621) (o := .cells #[.int .u64 t617, .int .u64 t618, .int .u64 t619, .int .u64 t620] 24 (0, 0)) (by (with_reducible repeat (first | refine blk_drewN ?_ _ | refine blk_drew ?_ | refine blk_alloc ?_ _)); exact BK621.out) hb)
  have n4_ := Aside0.mk (blk_below (g := gb626) (o := .cells #[.int .u64 t622, .int .u64 t623, .int .u64 t624, .int .u64 t625] 24 (0, 0)) (by (with_reducible repeat (first | refine blk_drewN ?_ _ | refine blk_drew ?_ | refine blk_alloc ?_ _)); exact BK626.out) hb)
  have n5_ := Aside0.mk (blk_below (g := gb631) (o := .cells #[.int .u64 t627, .int .u64 t628, .int .u64 t629, .int .u64 t630] 24 (0, 0)) (by (with_reducible repeat (first | refine blk_drewN ?_ _ | refine blk_drew ?_ | refine blk_alloc ?_ _)); exact BK631.out) hb)
  have n6_ := Aside0.mk (blk_below (g := gb636) (o := .cells #[.int .u64 t632, .int .u64 t633, .int .u64 t634, .int .u64 t635] 24 (0, 0)) (by (with_reducible repeat (first | refine blk_drewN ?_ _ | refine blk_drew ?_ | refine blk_alloc ?_ _)); exact BK636.out) hb)
  have n7_ := Aside0.mk (blk_below (g := gb641) (o := .cells #[.int .u64 t637, .int .u64 t638, .int .u64 t639, .int .u64 t640] 24 (0, 0)) (by (with_reducible repeat (first | refine blk_drewN ?_ _ | refine blk_drew ?_ | refine blk_alloc ?_ _)); exact BK641.out) hb)
  have n8_ := Aside0.mk (below_step (by repeat (first | (with_reducible first | exact HB.out | apply below_alloc | apply pw_below_drewN | apply below_drew1 | refine below_set ?_ GE613.out | refine below_set ?_ GE614.out | refine below_set ?_ GE615.out | refine below_set ?_ GE621.out | refine below_set ?_ GE626.out | refine below_set ?_ GE631.out | refine below_set ?_ GE636.out | refine below_set ?_ GE641.out) | exact HB.out)) hb)
  clear BK613
  clear BK614
  clear BK615
  clear BK621
  clear BK626
  clear BK631
  clear BK636
  clear BK641
  clear HB
  have BK613 := n0_
  have BK614 := n1_
  have BK615 := n2_
  have BK621 := n3_
  have BK626 := n4_
  have BK631 := n5_
  have BK636 := n6_
  have BK641 := n7_
  have HB := n8_
  clear n0_ n1_ n2_ n3_ n4_ n5_ n6_ n7_ n8_
  (try clear hb)
  (try clear hb2)
  (try clear hk)
  (try clear hi)
  refine hK.out _ _ ⟨(blk_cell BK636.out 0).trans rfl, (blk_cell BK636.out 1).trans rfl, (blk_cell BK636.out 2).trans rfl, (blk_cell BK636.out 3).trans rfl, (blk_cell BK626.out 0).trans rfl, (blk_cell BK626.out 1).trans rfl, (blk_cell BK626.out 2).trans rfl, (blk_cell BK626.out 3).trans rfl, (blk_cell BK621.out 0).trans rfl, (blk_cell BK621.out 1).trans rfl, (blk_cell BK621.out 2).trans rfl, (blk_cell BK621.out 3).trans rfl, (blk_cell BK641.out 0).trans rfl, (blk_cell BK641.out 1).trans rfl, (blk_cell BK641.out 2).trans rfl, (blk_cell BK641.out 3).trans rfl, (blk_cell BK631.out 0).trans rfl, (blk_cell BK631.out 1).trans rfl, (blk_cell BK631.out 2).trans rfl, (blk_cell BK631.out 3).trans rfl⟩ (fun hHeld => ?_)
  clear hK K
  refine norm_ (a' := ?_) ?_ ?_
  rotate_left
  · show Act.put _ (some 68) _ = _
    simp only [Act.put, List.setIfInBounds_toArray, List.set_cons_zero, List.set_cons_succ, i64_w, i32_w]
    rfl
  refine pure_ (i := 42) (N := some 70) (v := ?_) (a' := ?_) #[true, true, true, true, true, true, true, true, true, true, true, true, true, true, true, true, true, true, true, true, true, true, true, true, true, true, true, true, true, true, true, true, true, true, true, true, true, true, true, true, true, true, true, false, false, false, false, false, false, false, false, false, false, false, false, false, false, false, false, false, false, false, false, false, false, false, false, false, false, false, false, false, false, false, false, false, false, false, false, false, false, false, false, false, false, false, false, false, false, false] rfl rfl (any_of HT_.out (by kernel_rfl)) (fun _ _ _ h => h) (Or.inl ⟨by rfl, ?_⟩) ?_ ?_
  rotate_left
  · intro w'
    go_simp
    with_reducible rfl
  rotate_left
  · simp only [Act.put, List.setIfInBounds_toArray, List.set_cons_zero, List.set_cons_succ, i64_w, i32_w]
    rfl
  refine pure_ (i := 43) (N := some 71) (v := ?_) (a' := ?_) #[true, true, true, true, true, true, true, true, true, true, true, true, true, true, true, true, true, true, true, true, true, true, true, true, true, true, true, true, true, true, true, true, true, true, true, true, true, true, true, true, true, true, true, true, false, false, false, false, false, false, false, false, false, false, false, false, false, false, false, false, false, false, false, false, false, false, false, false, false, false, false, false, false, false, false, false, false, false, false, false, false, false, false, false, false, false, false, false, false, false] rfl rfl (any_of HT_.out (by kernel_rfl)) (fun _ _ _ h => h) (Or.inl ⟨by rfl, ?_⟩) ?_ ?_
  rotate_left
  · intro w'
    go_simp
    with_reducible rfl
  rotate_left
  · simp only [Act.put, List.setIfInBounds_toArray, List.set_cons_zero, List.set_cons_succ, i64_w, i32_w]
    rfl
  refine pure_ (i := 44) (N := some 72) (v := ?_) (a' := ?_) #[true, true, true, true, true, true, true, true, true, true, true, true, true, true, true, true, true, true, true, true, true, true, true, true, true, true, true, true, true, true, true, true, true, true, true, true, true, true, true, true, true, true, true, true, true, false, false, false, false, false, false, false, false, false, false, false, false, false, false, false, false, false, false, false, false, false, false, false, false, false, false, false, false, false, false, false, false, false, false, false, false, false, false, false, false, false, false, false, false, false] rfl rfl (any_of HT_.out (by kernel_rfl)) (fun _ _ _ h => h) (Or.inl ⟨by rfl, ?_⟩) ?_ ?_
  rotate_left
  · intro w'
    go_simp
    with_reducible rfl
  rotate_left
  · simp only [Act.put, List.setIfInBounds_toArray, List.set_cons_zero, List.set_cons_succ, i64_w, i32_w]
    rfl
  refine take_ (i := 45) (N := some 73) (v := ?_) (a' := ?_) #[true, true, true, true, true, true, true, true, true, true, true, true, true, true, true, true, true, true, true, true, true, true, true, true, true, true, true, true, true, true, true, true, true, true, true, true, true, true, true, true, true, true, true, true, true, true, false, false, false, false, false, false, false, false, false, false, false, false, false, false, false, false, false, false, false, false, false, false, false, false, false, false, false, false, false, false, false, false, false, false, false, false, false, false, false, false, false, false, false, false] rfl rfl (take_ofW HT_.out HW_.out (by kernel_rfl)) (fun _ _ _ h => h) (Or.inl ⟨by rfl, ?_⟩) hHeld ?_ ?_
  rotate_left
  · rintro w' ⟨s0, s1, s2, s3, s4, s5, s6, s7, s8, s9, s10, s11, s12, s13, s14, s15, s16, s17, s18, s19⟩
    go_simp
    with_reducible rfl
  rotate_left
  · simp only [Act.put, List.setIfInBounds_toArray, List.set_cons_zero, List.set_cons_succ, i64_w, i32_w]
    rfl
  refine take_ (i := 46) (N := some 74) (v := ?_) (a' := ?_) #[true, true, true, true, true, true, true, true, true, true, true, true, true, true, true, true, true, true, true, true, true, true, true, true, true, true, true, true, true, true, true, true, true, true, true, true, true, true, true, true, true, true, true, true, true, true, true, false, false, false, false, false, false, false, false, false, false, false, false, false, false, false, false, false, false, false, false, false, false, false, false, false, false, false, false, false, false, false, false, false, false, false, false, false, false, false, false, false, false, false] rfl rfl (take_ofW HT_.out HW_.out (by kernel_rfl)) (fun _ _ _ h => h) (Or.inl ⟨by rfl, ?_⟩) hHeld ?_ ?_
  rotate_left
  · rintro w' ⟨s0, s1, s2, s3, s4, s5, s6, s7, s8, s9, s10, s11, s12, s13, s14, s15, s16, s17, s18, s19⟩
    go_simp
    with_reducible rfl
  rotate_left
  · simp only [Act.put, List.setIfInBounds_toArray, List.set_cons_zero, List.set_cons_succ, i64_w, i32_w]
    rfl
  refine take_ (i := 48) (N := some 76) (v := ?_) (a' := ?_) #[true, true, true, true, true, true, true, true, true, true, true, true, true, true, true, true, true, true, true, true, true, true, true, true, true, true, true, true, true, true, true, true, true, true, true, true, true, true, true, true, true, true, true, true, true, true, true, false, true, false, false, false, false, false, false, false, false, false, false, false, false, false, false, false, false, false, false, false, false, false, false, false, false, false, false, false, false, false, false, false, false, false, false, false, false, false, false, false, false, false] rfl rfl (take_ofW HT_.out HW_.out (by kernel_rfl)) (fun _ _ _ h => h) (Or.inl ⟨by rfl, ?_⟩) hHeld ?_ ?_
  rotate_left
  · rintro w' ⟨s0, s1, s2, s3, s4, s5, s6, s7, s8, s9, s10, s11, s12, s13, s14, s15, s16, s17, s18, s19⟩
    go_simp
    with_reducible rfl
  rotate_left
  · simp only [Act.put, List.setIfInBounds_toArray, List.set_cons_zero, List.set_cons_succ, i64_w, i32_w]
    rfl
  refine one_ (i := 47) (N := some 75) #[true, true, true, true, true, true, true, true, true, true, true, true, true, true, true, true, true, true, true, true, true, true, true, true, true, true, true, true, true, true, true, true, true, true, true, true, true, true, true, true, true, true, true, true, true, true, true, true, true, false, false, false, false, false, false, false, false, false, false, false, false, false, false, false, false, false, false, false, false, false, false, false, false, false, false, false, false, false, false, false, false, false, false, false, false, false, false, false, false, false] rfl rfl (one_of HT_.out (by kernel_rfl)) (by decide) (fun K hK => ?_)
  refine goes_ Tryd.func14 (by kernel_rfl) rfl #[.agg #[.int .u64 t637, .int .u64 t638, .int .u64 t639, .int .u64 t640], .agg #[.int .u64 t617, .int .u64 t618, .int .u64 t619, .int .u64 t620]] (by rfl) rfl rfl (by (try simp only [List.map_toArray, List.map_cons, List.map_nil]); first | done | rfl | (simp only [List.length_drop, List.length_take]; rfl)) ?_
  with_reducible refine (vec_Meet.calls t637 t638 t639 t640 t617 t618 t619 t620 t678 t679 t680 t681 _ A25.out).mono ?_
  rintro e w102 ⟨rfl, hb⟩
  refine ⟨_, rfl, ?_⟩
  have n0_ := Aside0.mk (blk_below (g := gb613) (o := .cells #[.int .u64 a0_0, .int .u64 a0_1, .int .u64 a0_2, .int .u64 a0_3, .bool a0_4] 26 (0, 0)) (by (with_reducible repeat (first | refine blk_drewN ?_ _ | refine blk_drew ?_ | refine blk_alloc ?_ _)); exact BK613.out) hb)
  have n1_ := Aside0.mk (blk_below (g := gb614) (o := .cells #[.int .u64 a1_0, .int .u64 a1_1, .int .u64 a1_2, .int .u64 a1_3, .bool a1_4] 26 (0, 0)) (by (with_reducible repeat (first | refine blk_drewN ?_ _ | refine blk_drew ?_ | refine blk_alloc ?_ _)); exact BK614.out) hb)
  have n2_ := Aside0.mk (blk_below (g := gb615) (o := .cells #[.int .u64 a2_0, .int .u64 a2_1, .int .u64 a2_2, .int .u64 a2_3, .bool a2_4] 26 (0, 0)) (by (with_reducible repeat (first | refine blk_drewN ?_ _ | refine blk_drew ?_ | refine blk_alloc ?_ _)); exact BK615.out) hb)
  have n3_ := Aside0.mk (blk_below (g := gb621) (o := .cells #[.int .u64 t617, .int .u64 t618, .int .u64 t619, .int .u64 t620] 24 (0, 0)) (by (with_reducible repeat (first | refine blk_drewN ?_ _ | refine blk_drew ?_ | refine blk_alloc ?_ _)); exact BK621.out) hb)
  have n4_ := Aside0.mk (blk_below (g := gb626) (o := .cells #[.int .u64 t622, .int .u64 t623, .int .u64 t624, .int .u64 t625] 24 (0, 0)) (by (with_reducible repeat (first | refine blk_drewN ?_ _ | refine blk_drew ?_ | refine blk_alloc ?_ _)); exact BK626.out) hb)
  have n5_ := Aside0.mk (blk_below (g := gb631) (o := .cells #[.int .u64 t627, .int .u64 t628, .int .u64 t629, .int .u64 t630] 24 (0, 0)) (by (with_reducible repeat (first | refine blk_drewN ?_ _ | refine blk_drew ?_ | refine blk_alloc ?_ _)); exact BK631.out) hb)
  have n6_ := Aside0.mk (blk_below (g := gb636) (o := .cells #[.int .u64 t632, .int .u64 t633, .int .u64 t634, .int .u64 t635] 24 (0, 0)) (by (with_reducible repeat (first | refine blk_drewN ?_ _ | refine blk_drew ?_ | refine blk_alloc ?_ _)); exact BK636.out) hb)
  have n7_ := Aside0.mk (blk_below (g := gb641) (o := .cells #[.int .u64 t637, .int .u64 t638, .int .u64 t639, .int .u64 t640] 24 (0, 0)) (by (with_reducible repeat (first | refine blk_drewN ?_ _ | refine blk_drew ?_ | refine blk_alloc ?_ _)); exact BK641.out) hb)
  have n8_ := Aside0.mk (below_step (by repeat (first | (with_reducible first | exact HB.out | apply below_alloc | apply pw_below_drewN | apply below_drew1 | refine below_set ?_ GE613.out | refine below_set ?_ GE614.out | refine below_set ?_ GE615.out | refine below_set ?_ GE621.out | refine below_set ?_ GE626.out | refine below_set ?_ GE631.out | refine below_set ?_ GE636.out | refine below_set ?_ GE641.out) | exact HB.out)) hb)
  clear BK613
  clear BK614
  clear BK615
  clear BK621
  clear BK626
  clear BK631
  clear BK636
  clear BK641
  clear HB
  have BK613 := n0_
  have BK614 := n1_
  have BK615 := n2_
  have BK621 := n3_
  have BK626 := n4_
  have BK631 := n5_
  have BK636 := n6_
  have BK641 := n7_
  have HB := n8_
  clear n0_ n1_ n2_ n3_ n4_ n5_ n6_ n7_ n8_
  (try clear hb)
  (try clear hb2)
  (try clear hk)
  (try clear hi)
  refine hK.out _ _ ⟨(blk_cell BK636.out 0).trans rfl, (blk_cell BK636.out 1).trans rfl, (blk_cell BK636.out 2).trans rfl, (blk_cell BK636.out 3).trans rfl, (blk_cell BK626.out 0).trans rfl, (blk_cell BK626.out 1).trans rfl, (blk_cell BK626.out 2).trans rfl, (blk_cell BK626.out 3).trans rfl, (blk_cell BK621.out 0).trans rfl, (blk_cell BK621.out 1).trans rfl, (blk_cell BK621.out 2).trans rfl, (blk_cell BK621.out 3).trans rfl, (blk_cell BK641.out 0).trans rfl, (blk_cell BK641.out 1).trans rfl, (blk_cell BK641.out 2).trans rfl, (blk_cell BK641.out 3).trans rfl, (blk_cell BK631.out 0).trans rfl, (blk_cell BK631.out 1).trans rfl, (blk_cell BK631.out 2).trans rfl, (blk_cell BK631.out 3).trans rfl⟩ (fun hHeld => ?_)
  clear hK K
  refine norm_ (a' := ?_) ?_ ?_
  rotate_left
  · show Act.put _ (some 75) _ = _
    simp only [Act.put, List.setIfInBounds_toArray, List.set_cons_zero, List.set_cons_succ, i64_w, i32_w]
    rfl
  refine pure_ (i := 49) (N := some 77) (v := ?_) (a' := ?_) #[true, true, true, true, true, true, true, true, true, true, true, true, true, true, true, true, true, true, true, true, true, true, true, true, true, true, true, true, true, true, true, true, true, true, true, true, true, true, true, true, true, true, true, true, true, true, true, true, true, true, false, false, false, false, false, false, false, false, false, false, false, false, false, false, false, false, false, false, false, false, false, false, false, false, false, false, false, false, false, false, false, false, false, false, false, false, false, false, false, false] rfl rfl (any_of HT_.out (by kernel_rfl)) (fun _ _ _ h => h) (Or.inl ⟨by rfl, ?_⟩) ?_ ?_
  rotate_left
  · intro w'
    go_simp
    with_reducible rfl
  rotate_left
  · simp only [Act.put, List.setIfInBounds_toArray, List.set_cons_zero, List.set_cons_succ, i64_w, i32_w]
    rfl
  refine pure_ (i := 50) (N := some 78) (v := ?_) (a' := ?_) #[true, true, true, true, true, true, true, true, true, true, true, true, true, true, true, true, true, true, true, true, true, true, true, true, true, true, true, true, true, true, true, true, true, true, true, true, true, true, true, true, true, true, true, true, true, true, true, true, true, true, true, false, false, false, false, false, false, false, false, false, false, false, false, false, false, false, false, false, false, false, false, false, false, false, false, false, false, false, false, false, false, false, false, false, false, false, false, false, false, false] rfl rfl (any_of HT_.out (by kernel_rfl)) (fun _ _ _ h => h) (Or.inl ⟨by rfl, ?_⟩) ?_ ?_
  rotate_left
  · intro w'
    go_simp
    with_reducible rfl
  rotate_left
  · simp only [Act.put, List.setIfInBounds_toArray, List.set_cons_zero, List.set_cons_succ, i64_w, i32_w]
    rfl
  refine pure_ (i := 51) (N := some 79) (v := ?_) (a' := ?_) #[true, true, true, true, true, true, true, true, true, true, true, true, true, true, true, true, true, true, true, true, true, true, true, true, true, true, true, true, true, true, true, true, true, true, true, true, true, true, true, true, true, true, true, true, true, true, true, true, true, true, true, true, false, false, false, false, false, false, false, false, false, false, false, false, false, false, false, false, false, false, false, false, false, false, false, false, false, false, false, false, false, false, false, false, false, false, false, false, false, false] rfl rfl (any_of HT_.out (by kernel_rfl)) (fun _ _ _ h => h) (Or.inl ⟨by rfl, ?_⟩) ?_ ?_
  rotate_left
  · intro w'
    go_simp
    with_reducible rfl
  rotate_left
  · simp only [Act.put, List.setIfInBounds_toArray, List.set_cons_zero, List.set_cons_succ, i64_w, i32_w]
    rfl
  refine take_ (i := 52) (N := some 80) (v := ?_) (a' := ?_) #[true, true, true, true, true, true, true, true, true, true, true, true, true, true, true, true, true, true, true, true, true, true, true, true, true, true, true, true, true, true, true, true, true, true, true, true, true, true, true, true, true, true, true, true, true, true, true, true, true, true, true, true, true, false, false, false, false, false, false, false, false, false, false, false, false, false, false, false, false, false, false, false, false, false, false, false, false, false, false, false, false, false, false, false, false, false, false, false, false, false] rfl rfl (take_ofW HT_.out HW_.out (by kernel_rfl)) (fun _ _ _ h => h) (Or.inl ⟨by rfl, ?_⟩) hHeld ?_ ?_
  rotate_left
  · rintro w' ⟨s0, s1, s2, s3, s4, s5, s6, s7, s8, s9, s10, s11, s12, s13, s14, s15, s16, s17, s18, s19⟩
    go_simp
    with_reducible rfl
  rotate_left
  · simp only [Act.put, List.setIfInBounds_toArray, List.set_cons_zero, List.set_cons_succ, i64_w, i32_w]
    rfl
  refine take_ (i := 53) (N := some 81) (v := ?_) (a' := ?_) #[true, true, true, true, true, true, true, true, true, true, true, true, true, true, true, true, true, true, true, true, true, true, true, true, true, true, true, true, true, true, true, true, true, true, true, true, true, true, true, true, true, true, true, true, true, true, true, true, true, true, true, true, true, true, false, false, false, false, false, false, false, false, false, false, false, false, false, false, false, false, false, false, false, false, false, false, false, false, false, false, false, false, false, false, false, false, false, false, false, false] rfl rfl (take_ofW HT_.out HW_.out (by kernel_rfl)) (fun _ _ _ h => h) (Or.inl ⟨by rfl, ?_⟩) hHeld ?_ ?_
  rotate_left
  · rintro w' ⟨s0, s1, s2, s3, s4, s5, s6, s7, s8, s9, s10, s11, s12, s13, s14, s15, s16, s17, s18, s19⟩
    go_simp
    with_reducible rfl
  rotate_left
  · simp only [Act.put, List.setIfInBounds_toArray, List.set_cons_zero, List.set_cons_succ, i64_w, i32_w]
    rfl
  refine one_ (i := 54) (N := some 82) #[true, true, true, true, true, true, true, true, true, true, true, true, true, true, true, true, true, true, true, true, true, true, true, true, true, true, true, true, true, true, true, true, true, true, true, true, true, true, true, true, true, true, true, true, true, true, true, true, true, true, true, true, true, true, true, false, false, false, false, false, false, false, false, false, false, false, false, false, false, false, false, false, false, false, false, false, false, false, false, false, false, false, false, false, false, false, false, false, false, false] rfl rfl (one_of HT_.out (by kernel_rfl)) (by decide) (fun K hK => ?_)
  refine goes_ Tryd.func22 (by kernel_rfl) rfl #[.agg #[.int .u64 t617, .int .u64 t618, .int .u64 t619, .int .u64 t620], .agg #[.int .u64 t632, .int .u64 t633, .int .u64 t634, .int .u64 t635]] (by rfl) rfl rfl (by (try simp only [List.map_toArray, List.map_cons, List.map_nil]); first | done | rfl | (simp only [List.length_drop, List.length_take]; rfl)) ?_
  with_reducible refine (vec_Leq.calls t617 t618 t619 t620 t632 t633 t634 t635 true _ A27.out).mono ?_
  rintro e w103 ⟨rfl, hb⟩
  refine ⟨_, rfl, ?_⟩
  have n0_ := Aside0.mk (blk_below (g := gb613) (o := .cells #[.int .u64 a0_0, .int .u64 a0_1, .int .u64 a0_2, .int .u64 a0_3, .bool a0_4] 26 (0, 0)) (by (with_reducible repeat (first | refine blk_drewN ?_ _ | refine blk_drew ?_ | refine blk_alloc ?_ _)); exact BK613.out) hb)
  have n1_ := Aside0.mk (blk_below (g := gb614) (o := .cells #[.int .u64 a1_0, .int .u64 a1_1, .int .u64 a1_2, .int .u64 a1_3, .bool a1_4] 26 (0, 0)) (by (with_reducible repeat (first | refine blk_drewN ?_ _ | refine blk_drew ?_ | refine blk_alloc ?_ _)); exact BK614.out) hb)
  have n2_ := Aside0.mk (blk_below (g := gb615) (o := .cells #[.int .u64 a2_0, .int .u64 a2_1, .int .u64 a2_2, .int .u64 a2_3, .bool a2_4] 26 (0, 0)) (by (with_reducible repeat (first | refine blk_drewN ?_ _ | refine blk_drew ?_ | refine blk_alloc ?_ _)); exact BK615.out) hb)
  have n3_ := Aside0.mk (blk_below (g := gb621) (o := .cells #[.int .u64 t617, .int .u64 t618, .int .u64 t619, .int .u64 t620] 24 (0, 0)) (by (with_reducible repeat (first | refine blk_drewN ?_ _ | refine blk_drew ?_ | refine blk_alloc ?_ _)); exact BK621.out) hb)
  have n4_ := Aside0.mk (blk_below (g := gb626) (o := .cells #[.int .u64 t622, .int .u64 t623, .int .u64 t624, .int .u64 t625] 24 (0, 0)) (by (with_reducible repeat (first | refine blk_drewN ?_ _ | refine blk_drew ?_ | refine blk_alloc ?_ _)); exact BK626.out) hb)
  have n5_ := Aside0.mk (blk_below (g := gb631) (o := .cells #[.int .u64 t627, .int .u64 t628, .int .u64 t629, .int .u64 t630] 24 (0, 0)) (by (with_reducible repeat (first | refine blk_drewN ?_ _ | refine blk_drew ?_ | refine blk_alloc ?_ _)); exact BK631.out) hb)
  have n6_ := Aside0.mk (blk_below (g := gb636) (o := .cells #[.int .u64 t632, .int .u64 t633, .int .u64 t634, .int .u64 t635] 24 (0, 0)) (by (with_reducible repeat (first | refine blk_drewN ?_ _ | refine blk_drew ?_ | refine blk_alloc ?_ _)); exact BK636.out) hb)
  have n7_ := Aside0.mk (blk_below (g := gb641) (o := .cells #[.int .u64 t637, .int .u64 t638, .int .u64 t639, .int .u64 t640] 24 (0, 0)) (by (with_reducible repeat (first | refine blk_drewN ?_ _ | refine blk_drew ?_ | refine blk_alloc ?_ _)); exact BK641.out) hb)
  have n8_ := Aside0.mk (below_step (by repeat (first | (with_reducible first | exact HB.out | apply below_alloc | apply pw_below_drewN | apply below_drew1 | refine below_set ?_ GE613.out | refine below_set ?_ GE614.out | refine below_set ?_ GE615.out | refine below_set ?_ GE621.out | refine below_set ?_ GE626.out | refine below_set ?_ GE631.out | refine below_set ?_ GE636.out | refine below_set ?_ GE641.out) | exact HB.out)) hb)
  clear BK613
  clear BK614
  clear BK615
  clear BK621
  clear BK626
  clear BK631
  clear BK636
  clear BK641
  clear HB
  have BK613 := n0_
  have BK614 := n1_
  have BK615 := n2_
  have BK621 := n3_
  have BK626 := n4_
  have BK631 := n5_
  have BK636 := n6_
  have BK641 := n7_
  have HB := n8_
  clear n0_ n1_ n2_ n3_ n4_ n5_ n6_ n7_ n8_
  (try clear hb)
  (try clear hb2)
  (try clear hk)
  (try clear hi)
  refine hK.out _ _ ⟨(blk_cell BK636.out 0).trans rfl, (blk_cell BK636.out 1).trans rfl, (blk_cell BK636.out 2).trans rfl, (blk_cell BK636.out 3).trans rfl, (blk_cell BK626.out 0).trans rfl, (blk_cell BK626.out 1).trans rfl, (blk_cell BK626.out 2).trans rfl, (blk_cell BK626.out 3).trans rfl, (blk_cell BK621.out 0).trans rfl, (blk_cell BK621.out 1).trans rfl, (blk_cell BK621.out 2).trans rfl, (blk_cell BK621.out 3).trans rfl, (blk_cell BK641.out 0).trans rfl, (blk_cell BK641.out 1).trans rfl, (blk_cell BK641.out 2).trans rfl, (blk_cell BK641.out 3).trans rfl, (blk_cell BK631.out 0).trans rfl, (blk_cell BK631.out 1).trans rfl, (blk_cell BK631.out 2).trans rfl, (blk_cell BK631.out 3).trans rfl⟩ (fun hHeld => ?_)
  clear hK K
  refine norm_ (a' := ?_) ?_ ?_
  rotate_left
  · show Act.put _ (some 82) _ = _
    simp only [Act.put, List.setIfInBounds_toArray, List.set_cons_zero, List.set_cons_succ, i64_w, i32_w]
    rfl
  refine pure_ (i := 55) (N := some 83) (v := ?_) (a' := ?_) #[true, true, true, true, true, true, true, true, true, true, true, true, true, true, true, true, true, true, true, true, true, true, true, true, true, true, true, true, true, true, true, true, true, true, true, true, true, true, true, true, true, true, true, true, true, true, true, true, true, true, true, true, true, true, true, true, false, false, false, false, false, false, false, false, false, false, false, false, false, false, false, false, false, false, false, false, false, false, false, false, false, false, false, false, false, false, false, false, false, false] rfl rfl (any_of HT_.out (by kernel_rfl)) (fun _ _ _ h => h) (Or.inl ⟨by rfl, ?_⟩) ?_ ?_
  rotate_left
  · intro w'
    go_simp
    with_reducible rfl
  rotate_left
  · simp only [Act.put, List.setIfInBounds_toArray, List.set_cons_zero, List.set_cons_succ, i64_w, i32_w]
    rfl
  refine pure_ (i := 56) (N := some 84) (v := ?_) (a' := ?_) #[true, true, true, true, true, true, true, true, true, true, true, true, true, true, true, true, true, true, true, true, true, true, true, true, true, true, true, true, true, true, true, true, true, true, true, true, true, true, true, true, true, true, true, true, true, true, true, true, true, true, true, true, true, true, true, true, true, false, false, false, false, false, false, false, false, false, false, false, false, false, false, false, false, false, false, false, false, false, false, false, false, false, false, false, false, false, false, false, false, false] rfl rfl (any_of HT_.out (by kernel_rfl)) (fun _ _ _ h => h) (Or.inl ⟨by rfl, ?_⟩) ?_ ?_
  rotate_left
  · intro w'
    go_simp
    with_reducible rfl
  rotate_left
  · simp only [Act.put, List.setIfInBounds_toArray, List.set_cons_zero, List.set_cons_succ, i64_w, i32_w]
    rfl
  refine take_ (i := 57) (N := some 85) (v := ?_) (a' := ?_) #[true, true, true, true, true, true, true, true, true, true, true, true, true, true, true, true, true, true, true, true, true, true, true, true, true, true, true, true, true, true, true, true, true, true, true, true, true, true, true, true, true, true, true, true, true, true, true, true, true, true, true, true, true, true, true, true, true, true, false, false, false, false, false, false, false, false, false, false, false, false, false, false, false, false, false, false, false, false, false, false, false, false, false, false, false, false, false, false, false, false] rfl rfl (take_ofW HT_.out HW_.out (by kernel_rfl)) (fun _ _ _ h => h) (Or.inl ⟨by rfl, ?_⟩) hHeld ?_ ?_
  rotate_left
  · rintro w' ⟨s0, s1, s2, s3, s4, s5, s6, s7, s8, s9, s10, s11, s12, s13, s14, s15, s16, s17, s18, s19⟩
    go_simp
    with_reducible rfl
  rotate_left
  · simp only [Act.put, List.setIfInBounds_toArray, List.set_cons_zero, List.set_cons_succ, i64_w, i32_w]
    rfl
  refine take_ (i := 58) (N := some 86) (v := ?_) (a' := ?_) #[true, true, true, true, true, true, true, true, true, true, true, true, true, true, true, true, true, true, true, true, true, true, true, true, true, true, true, true, true, true, true, true, true, true, true, true, true, true, true, true, true, true, true, true, true, true, true, true, true, true, true, true, true, true, true, true, true, true, true, false, false, false, false, false, false, false, false, false, false, false, false, false, false, false, false, false, false, false, false, false, false, false, false, false, false, false, false, false, false, false] rfl rfl (take_ofW HT_.out HW_.out (by kernel_rfl)) (fun _ _ _ h => h) (Or.inl ⟨by rfl, ?_⟩) hHeld ?_ ?_
  rotate_left
  · rintro w' ⟨s0, s1, s2, s3, s4, s5, s6, s7, s8, s9, s10, s11, s12, s13, s14, s15, s16, s17, s18, s19⟩
    go_simp
    with_reducible rfl
  rotate_left
  · simp only [Act.put, List.setIfInBounds_toArray, List.set_cons_zero, List.set_cons_succ, i64_w, i32_w]
    rfl
  refine one_ (i := 59) (N := some 87) #[true, true, true, true, true, true, true, true, true, true, true, true, true, true, true, true, true, true, true, true, true, true, true, true, true, true, true, true, true, true, true, true, true, true, true, true, true, true, true, true, true, true, true, true, true, true, true, true, true, true, true, true, true, true, true, true, true, true, true, true, false, false, false, false, false, false, false, false, false, false, false, false, false, false, false, false, false, false, false, false, false, false, false, false, false, false, false, false, false, false] rfl rfl (one_of HT_.out (by kernel_rfl)) (by decide) (fun K hK => ?_)
  refine goes_ Tryd.func22 (by kernel_rfl) rfl #[.agg #[.int .u64 t637, .int .u64 t638, .int .u64 t639, .int .u64 t640], .agg #[.int .u64 t622, .int .u64 t623, .int .u64 t624, .int .u64 t625]] (by rfl) rfl rfl (by (try simp only [List.map_toArray, List.map_cons, List.map_nil]); first | done | rfl | (simp only [List.length_drop, List.length_take]; rfl)) ?_
  with_reducible refine (vec_Leq.calls t637 t638 t639 t640 t622 t623 t624 t625 true _ A29.out).mono ?_
  rintro e w104 ⟨rfl, hb⟩
  refine ⟨_, rfl, ?_⟩
  have n0_ := Aside0.mk (blk_below (g := gb613) (o := .cells #[.int .u64 a0_0, .int .u64 a0_1, .int .u64 a0_2, .int .u64 a0_3, .bool a0_4] 26 (0, 0)) (by (with_reducible repeat (first | refine blk_drewN ?_ _ | refine blk_drew ?_ | refine blk_alloc ?_ _)); exact BK613.out) hb)
  have n1_ := Aside0.mk (blk_below (g := gb614) (o := .cells #[.int .u64 a1_0, .int .u64 a1_1, .int .u64 a1_2, .int .u64 a1_3, .bool a1_4] 26 (0, 0)) (by (with_reducible repeat (first | refine blk_drewN ?_ _ | refine blk_drew ?_ | refine blk_alloc ?_ _)); exact BK614.out) hb)
  have n2_ := Aside0.mk (blk_below (g := gb615) (o := .cells #[.int .u64 a2_0, .int .u64 a2_1, .int .u64 a2_2, .int .u64 a2_3, .bool a2_4] 26 (0, 0)) (by (with_reducible repeat (first | refine blk_drewN ?_ _ | refine blk_drew ?_ | refine blk_alloc ?_ _)); exact BK615.out) hb)
  have n3_ := Aside0.mk (blk_below (g := gb621) (o := .cells #[.int .u64 t617, .int .u64 t618, .int .u64 t619, .int .u64 t620] 24 (0, 0)) (by (with_reducible repeat (first | refine blk_drewN ?_ _ | refine blk_drew ?_ | refine blk_alloc ?_ _)); exact BK621.out) hb)
  have n4_ := Aside0.mk (blk_below (g := gb626) (o := .cells #[.int .u64 t622, .int .u64 t623, .int .u64 t624, .int .u64 t625] 24 (0, 0)) (by (with_reducible repeat (first | refine blk_drewN ?_ _ | refine blk_drew ?_ | refine blk_alloc ?_ _)); exact BK626.out) hb)
  have n5_ := Aside0.mk (blk_below (g := gb631) (o := .cells #[.int .u64 t627, .int .u64 t628, .int .u64 t629, .int .u64 t630] 24 (0, 0)) (by (with_reducible repeat (first | refine blk_drewN ?_ _ | refine blk_drew ?_ | refine blk_alloc ?_ _)); exact BK631.out) hb)
  have n6_ := Aside0.mk (blk_below (g := gb636) (o := .cells #[.int .u64 t632, .int .u64 t633, .int .u64 t634, .int .u64 t635] 24 (0, 0)) (by (with_reducible repeat (first | refine blk_drewN ?_ _ | refine blk_drew ?_ | refine blk_alloc ?_ _)); exact BK636.out) hb)
  have n7_ := Aside0.mk (blk_below (g := gb641) (o := .cells #[.int .u64 t637, .int .u64 t638, .int .u64 t639, .int .u64 t640] 24 (0, 0)) (by (with_reducible repeat (first | refine blk_drewN ?_ _ | refine blk_drew ?_ | refine blk_alloc ?_ _)); exact BK641.out) hb)
  have n8_ := Aside0.mk (below_step (by repeat (first | (with_reducible first | exact HB.out | apply below_alloc | apply pw_below_drewN | apply below_drew1 | refine below_set ?_ GE613.out | refine below_set ?_ GE614.out | refine below_set ?_ GE615.out | refine below_set ?_ GE621.out | refine below_set ?_ GE626.out | refine below_set ?_ GE631.out | refine below_set ?_ GE636.out | refine below_set ?_ GE641.out) | exact HB.out)) hb)
  clear BK613
  clear BK614
  clear BK615
  clear BK621
  clear BK626
  clear BK631
  clear BK636
  clear BK641
  clear HB
  have BK613 := n0_
  have BK614 := n1_
  have BK615 := n2_
  have BK621 := n3_
  have BK626 := n4_
  have BK631 := n5_
  have BK636 := n6_
  have BK641 := n7_
  have HB := n8_
  clear n0_ n1_ n2_ n3_ n4_ n5_ n6_ n7_ n8_
  (try clear hb)
  (try clear hb2)
  (try clear hk)
  (try clear hi)
  refine hK.out _ _ ⟨(blk_cell BK636.out 0).trans rfl, (blk_cell BK636.out 1).trans rfl, (blk_cell BK636.out 2).trans rfl, (blk_cell BK636.out 3).trans rfl, (blk_cell BK626.out 0).trans rfl, (blk_cell BK626.out 1).trans rfl, (blk_cell BK626.out 2).trans rfl, (blk_cell BK626.out 3).trans rfl, (blk_cell BK621.out 0).trans rfl, (blk_cell BK621.out 1).trans rfl, (blk_cell BK621.out 2).trans rfl, (blk_cell BK621.out 3).trans rfl, (blk_cell BK641.out 0).trans rfl, (blk_cell BK641.out 1).trans rfl, (blk_cell BK641.out 2).trans rfl, (blk_cell BK641.out 3).trans rfl, (blk_cell BK631.out 0).trans rfl, (blk_cell BK631.out 1).trans rfl, (blk_cell BK631.out 2).trans rfl, (blk_cell BK631.out 3).trans rfl⟩ (fun hHeld => ?_)
  clear hK K
  refine norm_ (a' := ?_) ?_ ?_
  rotate_left
  · show Act.put _ (some 87) _ = _
    simp only [Act.put, List.setIfInBounds_toArray, List.set_cons_zero, List.set_cons_succ, i64_w, i32_w]
    rfl
  refine pure_ (i := 60) (N := some 88) (v := ?_) (a' := ?_) #[true, true, true, true, true, true, true, true, true, true, true, true, true, true, true, true, true, true, true, true, true, true, true, true, true, true, true, true, true, true, true, true, true, true, true, true, true, true, true, true, true, true, true, true, true, true, true, true, true, true, true, true, true, true, true, true, true, true, true, true, true, false, false, false, false, false, false, false, false, false, false, false, false, false, false, false, false, false, false, false, false, false, false, false, false, false, false, false, false, false] rfl rfl (any_of HT_.out (by kernel_rfl)) (fun _ _ _ h => h) (Or.inl ⟨by rfl, ?_⟩) ?_ ?_
  rotate_left
  · intro w'
    go_simp
    with_reducible rfl
  rotate_left
  · simp only [Act.put, List.setIfInBounds_toArray, List.set_cons_zero, List.set_cons_succ, i64_w, i32_w]
    rfl
  refine pure_ (i := 61) (N := some 89) (v := ?_) (a' := ?_) #[true, true, true, true, true, true, true, true, true, true, true, true, true, true, true, true, true, true, true, true, true, true, true, true, true, true, true, true, true, true, true, true, true, true, true, true, true, true, true, true, true, true, true, true, true, true, true, true, true, true, true, true, true, true, true, true, true, true, true, true, true, true, false, false, false, false, false, false, false, false, false, false, false, false, false, false, false, false, false, false, false, false, false, false, false, false, false, false, false, false] rfl rfl (any_of HT_.out (by kernel_rfl)) (fun _ _ _ h => h) (Or.inl ⟨by rfl, ?_⟩) ?_ ?_
  rotate_left
  · intro w'
    go_simp
    with_reducible rfl
  rotate_left
  · simp only [Act.put, List.setIfInBounds_toArray, List.set_cons_zero, List.set_cons_succ, i64_w, i32_w]
    rfl
  refine take_ (i := 62) (N := some 90) (v := ?_) (a' := ?_) #[true, true, true, true, true, true, true, true, true, true, true, true, true, true, true, true, true, true, true, true, true, true, true, true, true, true, true, true, true, true, true, true, true, true, true, true, true, true, true, true, true, true, true, true, true, true, true, true, true, true, true, true, true, true, true, true, true, true, true, true, true, true, true, false, false, false, false, false, false, false, false, false, false, false, false, false, false, false, false, false, false, false, false, false, false, false, false, false, false, false] rfl rfl (take_ofW HT_.out HW_.out (by kernel_rfl)) (fun _ _ _ h => h) (Or.inl ⟨by rfl, ?_⟩) hHeld ?_ ?_
  rotate_left
  · rintro w' ⟨s0, s1, s2, s3, s4, s5, s6, s7, s8, s9, s10, s11, s12, s13, s14, s15, s16, s17, s18, s19⟩
    go_simp
    with_reducible rfl
  rotate_left
  · simp only [Act.put, List.setIfInBounds_toArray, List.set_cons_zero, List.set_cons_succ, i64_w, i32_w]
    rfl
  refine take_ (i := 63) (N := some 91) (v := ?_) (a' := ?_) #[true, true, true, true, true, true, true, true, true, true, true, true, true, true, true, true, true, true, true, true, true, true, true, true, true, true, true, true, true, true, true, true, true, true, true, true, true, true, true, true, true, true, true, true, true, true, true, true, true, true, true, true, true, true, true, true, true, true, true, true, true, true, true, true, false, false, false, false, false, false, false, false, false, false, false, false, false, false, false, false, false, false, false, false, false, false, false, false, false, false] rfl rfl (take_ofW HT_.out HW_.out (by kernel_rfl)) (fun _ _ _ h => h) (Or.inl ⟨by rfl, ?_⟩) hHeld ?_ ?_
  rotate_left
  · rintro w' ⟨s0, s1, s2, s3, s4, s5, s6, s7, s8, s9, s10, s11, s12, s13, s14, s15, s16, s17, s18, s19⟩
    go_simp
    with_reducible rfl
  rotate_left
  · simp only [Act.put, List.setIfInBounds_toArray, List.set_cons_zero, List.set_cons_succ, i64_w, i32_w]
    rfl
  refine take_ (i := 65) (N := some 93) (v := ?_) (a' := ?_) #[true, true, true, true, true, true, true, true, true, true, true, true, true, true, true, true, true, true, true, true, true, true, true, true, true, true, true, true, true, true, true, true, true, true, true, true, true, true, true, true, true, true, true, true, true, true, true, true, true, true, true, true, true, true, true, true, true, true, true, true, true, true, true, true, false, true, false, false, false, false, false, false, false, false, false, false, false, false, false, false, false, false, false, false, false, false, false, false, false, false] rfl rfl (take_ofW HT_.out HW_.out (by kernel_rfl)) (fun _ _ _ h => h) (Or.inl ⟨by rfl, ?_⟩) hHeld ?_ ?_
  rotate_left
  · rintro w' ⟨s0, s1, s2, s3, s4, s5, s6, s7, s8, s9, s10, s11, s12, s13, s14, s15, s16, s17, s18, s19⟩
    go_simp
    with_reducible rfl
  rotate_left
  · simp only [Act.put, List.setIfInBounds_toArray, List.set_cons_zero, List.set_cons_succ, i64_w, i32_w]
    rfl
  refine one_ (i := 64) (N := some 92) #[true, true, true, true, true, true, true, true, true, true, true, true, true, true, true, true, true, true, true, true, true, true, true, true, true, true, true, true, true, true, true, true, true, true, true, true, true, true, true, true, true, true, true, true, true, true, true, true, true, true, true, true, true, true, true, true, true, true, true, true, true, true, true, true, true, true, false, false, false, false, false, false, false, false, false, false, false, false, false, false, false, false, false, false, false, false, false, false, false, false] rfl rfl (one_of HT_.out (by kernel_rfl)) (by decide) (fun K hK => ?_)
  refine goes_ Tryd.func12 (by kernel_rfl) rfl #[.agg #[.int .u64 t617, .int .u64 t618, .int .u64 t619, .int .u64 t620], .agg #[.int .u64 t637, .int .u64 t638, .int .u64 t639, .int .u64 t640]] (by rfl) rfl rfl (by (try simp only [List.map_toArray, List.map_cons, List.map_nil]); first | done | rfl | (simp only [List.length_drop, List.length_take]; rfl)) ?_
  with_reducible refine (vec_Join.calls t617 t618 t619 t620 t637 t638 t639 t640 t684 t685 t686 t687 _ A31.out).mono ?_
  rintro e w105 ⟨rfl, hb⟩
  refine ⟨_, rfl, ?_⟩
  have n0_ := Aside0.mk (blk_below (g := gb613) (o := .cells #[.int .u64 a0_0, .int .u64 a0_1, .int .u64 a0_2, .int .u64 a0_3, .bool a0_4] 26 (0, 0)) (by (with_reducible repeat (first | refine blk_drewN ?_ _ | refine blk_drew ?_ | refine blk_alloc ?_ _)); exact BK613.out) hb)
  have n1_ := Aside0.mk (blk_below (g := gb614) (o := .cells #[.int .u64 a1_0, .int .u64 a1_1, .int .u64 a1_2, .int .u64 a1_3, .bool a1_4] 26 (0, 0)) (by (with_reducible repeat (first | refine blk_drewN ?_ _ | refine blk_drew ?_ | refine blk_alloc ?_ _)); exact BK614.out) hb)
  have n2_ := Aside0.mk (blk_below (g := gb615) (o := .cells #[.int .u64 a2_0, .int .u64 a2_1, .int .u64 a2_2, .int .u64 a2_3, .bool a2_4] 26 (0, 0)) (by (with_reducible repeat (first | refine blk_drewN ?_ _ | refine blk_drew ?_ | refine blk_alloc ?_ _)); exact BK615.out) hb)
  have n3_ := Aside0.mk (blk_below (g := gb621) (o := .cells #[.int .u64 t617, .int .u64 t618, .int .u64 t619, .int .u64 t620] 24 (0, 0)) (by (with_reducible repeat (first | refine blk_drewN ?_ _ | refine blk_drew ?_ | refine blk_alloc ?_ _)); exact BK621.out) hb)
  have n4_ := Aside0.mk (blk_below (g := gb626) (o := .cells #[.int .u64 t622, .int .u64 t623, .int .u64 t624, .int .u64 t625] 24 (0, 0)) (by (with_reducible repeat (first | refine blk_drewN ?_ _ | refine blk_drew ?_ | refine blk_alloc ?_ _)); exact BK626.out) hb)
  have n5_ := Aside0.mk (blk_below (g := gb631) (o := .cells #[.int .u64 t627, .int .u64 t628, .int .u64 t629, .int .u64 t630] 24 (0, 0)) (by (with_reducible repeat (first | refine blk_drewN ?_ _ | refine blk_drew ?_ | refine blk_alloc ?_ _)); exact BK631.out) hb)
  have n6_ := Aside0.mk (blk_below (g := gb636) (o := .cells #[.int .u64 t632, .int .u64 t633, .int .u64 t634, .int .u64 t635] 24 (0, 0)) (by (with_reducible repeat (first | refine blk_drewN ?_ _ | refine blk_drew ?_ | refine blk_alloc ?_ _)); exact BK636.out) hb)
  have n7_ := Aside0.mk (blk_below (g := gb641) (o := .cells #[.int .u64 t637, .int .u64 t638, .int .u64 t639, .int .u64 t640] 24 (0, 0)) (by (with_reducible repeat (first | refine blk_drewN ?_ _ | refine blk_drew ?_ | refine blk_alloc ?_ _)); exact BK641.out) hb)
  have n8_ := Aside0.mk (below_step (by repeat (first | (with_reducible first | exact HB.out | apply below_alloc | apply pw_below_drewN | apply below_drew1 | refine below_set ?_ GE613.out | refine below_set ?_ GE614.out | refine below_set ?_ GE615.out | refine below_set ?_ GE621.out | refine below_set ?_ GE626.out | refine below_set ?_ GE631.out | refine below_set ?_ GE636.out | refine below_set ?_ GE641.out) | exact HB.out)) hb)
  clear BK613
  clear BK614
  clear BK615
  clear BK621
  clear BK626
  clear BK631
  clear BK636
  clear BK641
  clear HB
  have BK613 := n0_
  have BK614 := n1_
  have BK615 := n2_
  have BK621 := n3_
  have BK626 := n4_
  have BK631 := n5_
  have BK636 := n6_
  have BK641 := n7_
  have HB := n8_
  clear n0_ n1_ n2_ n3_ n4_ n5_ n6_ n7_ n8_
  (try clear hb)
  (try clear hb2)
  (try clear hk)
  (try clear hi)
  refine hK.out _ _ ⟨(blk_cell BK636.out 0).trans rfl, (blk_cell BK636.out 1).trans rfl, (blk_cell BK636.out 2).trans rfl, (blk_cell BK636.out 3).trans rfl, (blk_cell BK626.out 0).trans rfl, (blk_cell BK626.out 1).trans rfl, (blk_cell BK626.out 2).trans rfl, (blk_cell BK626.out 3).trans rfl, (blk_cell BK621.out 0).trans rfl, (blk_cell BK621.out 1).trans rfl, (blk_cell BK621.out 2).trans rfl, (blk_cell BK621.out 3).trans rfl, (blk_cell BK641.out 0).trans rfl, (blk_cell BK641.out 1).trans rfl, (blk_cell BK641.out 2).trans rfl, (blk_cell BK641.out 3).trans rfl, (blk_cell BK631.out 0).trans rfl, (blk_cell BK631.out 1).trans rfl, (blk_cell BK631.out 2).trans rfl, (blk_cell BK631.out 3).trans rfl⟩ (fun hHeld => ?_)
  clear hK K
  refine norm_ (a' := ?_) ?_ ?_
  rotate_left
  · show Act.put _ (some 92) _ = _
    simp only [Act.put, List.setIfInBounds_toArray, List.set_cons_zero, List.set_cons_succ, i64_w, i32_w]
    rfl
  refine pure_ (i := 66) (N := some 94) (v := ?_) (a' := ?_) #[true, true, true, true, true, true, true, true, true, true, true, true, true, true, true, true, true, true, true, true, true, true, true, true, true, true, true, true, true, true, true, true, true, true, true, true, true, true, true, true, true, true, true, true, true, true, true, true, true, true, true, true, true, true, true, true, true, true, true, true, true, true, true, true, true, true, true, false, false, false, false, false, false, false, false, false, false, false, false, false, false, false, false, false, false, false, false, false, false, false] rfl rfl (any_of HT_.out (by kernel_rfl)) (fun _ _ _ h => h) (Or.inl ⟨by rfl, ?_⟩) ?_ ?_
  rotate_left
  · intro w'
    go_simp
    with_reducible rfl
  rotate_left
  · simp only [Act.put, List.setIfInBounds_toArray, List.set_cons_zero, List.set_cons_succ, i64_w, i32_w]
    rfl
  refine pure_ (i := 67) (N := some 95) (v := ?_) (a' := ?_) #[true, true, true, true, true, true, true, true, true, true, true, true, true, true, true, true, true, true, true, true, true, true, true, true, true, true, true, true, true, true, true, true, true, true, true, true, true, true, true, true, true, true, true, true, true, true, true, true, true, true, true, true, true, true, true, true, true, true, true, true, true, true, true, true, true, true, true, true, false, false, false, false, false, false, false, false, false, false, false, false, false, false, false, false, false, false, false, false, false, false] rfl rfl (any_of HT_.out (by kernel_rfl)) (fun _ _ _ h => h) (Or.inl ⟨by rfl, ?_⟩) ?_ ?_
  rotate_left
  · intro w'
    go_simp
    with_reducible rfl
  rotate_left
  · simp only [Act.put, List.setIfInBounds_toArray, List.set_cons_zero, List.set_cons_succ, i64_w, i32_w]
    rfl
  refine pure_ (i := 68) (N := some 96) (v := ?_) (a' := ?_) #[true, true, true, true, true, true, true, true, true, true, true, true, true, true, true, true, true, true, true, true, true, true, true, true, true, true, true, true, true, true, true, true, true, true, true, true, true, true, true, true, true, true, true, true, true, true, true, true, true, true, true, true, true, true, true, true, true, true, true, true, true, true, true, true, true, true, true, true, true, false, false, false, false, false, false, false, false, false, false, false, false, false, false, false, false, false, false, false, false, false] rfl rfl (any_of HT_.out (by kernel_rfl)) (fun _ _ _ h => h) (Or.inl ⟨by rfl, ?_⟩) ?_ ?_
  rotate_left
  · intro w'
    go_simp
    with_reducible rfl
  rotate_left
  · simp only [Act.put, List.setIfInBounds_toArray, List.set_cons_zero, List.set_cons_succ, i64_w, i32_w]
    rfl
  refine take_ (i := 69) (N := some 97) (v := ?_) (a' := ?_) #[true, true, true, true, true, true, true, true, true, true, true, true, true, true, true, true, true, true, true, true, true, true, true, true, true, true, true, true, true, true, true, true, true, true, true, true, true, true, true, true, true, true, true, true, true, true, true, true, true, true, true, true, true, true, true, true, true, true, true, true, true, true, true, true, true, true, true, true, true, true, false, false, false, false, false, false, false, false, false, false, false, false, false, false, false, false, false, false, false, false] rfl rfl (take_ofW HT_.out HW_.out (by kernel_rfl)) (fun _ _ _ h => h) (Or.inl ⟨by rfl, ?_⟩) hHeld ?_ ?_
  rotate_left
  · rintro w' ⟨s0, s1, s2, s3, s4, s5, s6, s7, s8, s9, s10, s11, s12, s13, s14, s15, s16, s17, s18, s19⟩
    go_simp
    with_reducible rfl
  rotate_left
  · simp only [Act.put, List.setIfInBounds_toArray, List.set_cons_zero, List.set_cons_succ, i64_w, i32_w]
    rfl
  refine take_ (i := 70) (N := some 98) (v := ?_) (a' := ?_) #[true, true, true, true, true, true, true, true, true, true, true, true, true, true, true, true, true, true, true, true, true, true, true, true, true, true, true, true, true, true, true, true, true, true, true, true, true, true, true, true, true, true, true, true, true, true, true, true, true, true, true, true, true, true, true, true, true, true, true, true, true, true, true, true, true, true, true, true, true, true, true, false, false, false, false, false, false, false, false, false, false, false, false, false, false, false, false, false, false, false] rfl rfl (take_ofW HT_.out HW_.out (by kernel_rfl)) (fun _ _ _ h => h) (Or.inl ⟨by rfl, ?_⟩) hHeld ?_ ?_
  rotate_left
  · rintro w' ⟨s0, s1, s2, s3, s4, s5, s6, s7, s8, s9, s10, s11, s12, s13, s14, s15, s16, s17, s18, s19⟩
    go_simp
    with_reducible rfl
  rotate_left
  · simp only [Act.put, List.setIfInBounds_toArray, List.set_cons_zero, List.set_cons_succ, i64_w, i32_w]
    rfl
  refine take_ (i := 72) (N := some 100) (v := ?_) (a' := ?_) #[true, true, true, true, true, true, true, true, true, true, true, true, true, true, true, true, true, true, true, true, true, true, true, true, true, true, true, true, true, true, true, true, true, true, true, true, true, true, true, true, true, true, true, true, true, true, true, true, true, true, true, true, true, true, true, true, true, true, true, true, true, true, true, true, true, true, true, true, true, true, true, false, true, false, false, false, false, false, false, false, false, false, false, false, false, false, false, false, false, false] rfl rfl (take_ofW HT_.out HW_.out (by kernel_rfl)) (fun _ _ _ h => h) (Or.inl ⟨by rfl, ?_⟩) hHeld ?_ ?_
  rotate_left
  · rintro w' ⟨s0, s1, s2, s3, s4, s5, s6, s7, s8, s9, s10, s11, s12, s13, s14, s15, s16, s17, s18, s19⟩
    go_simp
    with_reducible rfl
  rotate_left
  · simp only [Act.put, List.setIfInBounds_toArray, List.set_cons_zero, List.set_cons_succ, i64_w, i32_w]
    rfl
  refine one_ (i := 71) (N := some 99) #[true, true, true, true, true, true, true, true, true, true, true, true, true, true, true, true, true, true, true, true, true, true, true, true, true, true, true, true, true, true, true, true, true, true, true, true, true, true, true, true, true, true, true, true, true, true, true, true, true, true, true, true, true, true, true, true, true, true, true, true, true, true, true, true, true, true, true, true, true, true, true, true, true, false, false, false, false, false, false, false, false, false, false, false, false, false, false, false, false, false] rfl rfl (one_of HT_.out (by kernel_rfl)) (by decide) (fun K hK => ?_)
  refine goes_ Tryd.func14 (by kernel_rfl) rfl #[.agg #[.int .u64 t617, .int .u64 t618, .int .u64 t619, .int .u64 t620], .agg #[.int .u64 t632, .int .u64 t633, .int .u64 t634, .int .u64 t635]] (by rfl) rfl rfl (by (try simp only [List.map_toArray, List.map_cons, List.map_nil]); first | done | rfl | (simp only [List.length_drop, List.length_take]; rfl)) ?_
  with_reducible refine (vec_Meet.calls t617 t618 t619 t620 t632 t633 t634 t635 t688 t689 t690 t691 _ A33.out).mono ?_
  rintro e w106 ⟨rfl, hb⟩
  refine ⟨_, rfl, ?_⟩
  have n0_ := Aside0.mk (blk_below (g := gb613) (o := .cells #[.int .u64 a0_0, .int .u64 a0_1, .int .u64 a0_2, .int .u64 a0_3, .bool a0_4] 26 (0, 0)) (by (with_reducible repeat (first | refine blk_drewN ?_ _ | refine blk_drew ?_ | refine blk_alloc ?_ _)); exact BK613.out) hb)
  have n1_ := Aside0.mk (blk_below (g := gb614) (o := .cells #[.int .u64 a1_0, .int .u64 a1_1, .int .u64 a1_2, .int .u64 a1_3, .bool a1_4] 26 (0, 0)) (by (with_reducible repeat (first | refine blk_drewN ?_ _ | refine blk_drew ?_ | refine blk_alloc ?_ _)); exact BK614.out) hb)
  have n2_ := Aside0.mk (blk_below (g := gb615) (o := .cells #[.int .u64 a2_0, .int .u64 a2_1, .int .u64 a2_2, .int .u64 a2_3, .bool a2_4] 26 (0, 0)) (by (with_reducible repeat (first | refine blk_drewN ?_ _ | refine blk_drew ?_ | refine blk_alloc ?_ _)); exact BK615.out) hb)
  have n3_ := Aside0.mk (blk_below (g := gb621) (o := .cells #[.int .u64 t617, .int .u64 t618, .int .u64 t619, .int .u64 t620] 24 (0, 0)) (by (with_reducible repeat (first | refine blk_drewN ?_ _ | refine blk_drew ?_ | refine blk_alloc ?_ _)); exact BK621.out) hb)
  have n4_ := Aside0.mk (blk_below (g := gb626) (o := .cells #[.int .u64 t622, .int .u64 t623, .int .u64 t624, .int .u64 t625] 24 (0, 0)) (by (with_reducible repeat (first | refine blk_drewN ?_ _ | refine blk_drew ?_ | refine blk_alloc ?_ _)); exact BK626.out) hb)
  have n5_ := Aside0.mk (blk_below (g := gb631) (o := .cells #[.int .u64 t627, .int .u64 t628, .int .u64 t629, .int .u64 t630] 24 (0, 0)) (by (with_reducible repeat (first | refine blk_drewN ?_ _ | refine blk_drew ?_ | refine blk_alloc ?_ _)); exact BK631.out) hb)
  have n6_ := Aside0.mk (blk_below (g := gb636) (o := .cells #[.int .u64 t632, .int .u64 t633, .int .u64 t634, .int .u64 t635] 24 (0, 0)) (by (with_reducible repeat (first | refine blk_drewN ?_ _ | refine blk_drew ?_ | refine blk_alloc ?_ _)); exact BK636.out) hb)
  have n7_ := Aside0.mk (blk_below (g := gb641) (o := .cells #[.int .u64 t637, .int .u64 t638, .int .u64 t639, .int .u64 t640] 24 (0, 0)) (by (with_reducible repeat (first | refine blk_drewN ?_ _ | refine blk_drew ?_ | refine blk_alloc ?_ _)); exact BK641.out) hb)
  have n8_ := Aside0.mk (below_step (by repeat (first | (with_reducible first | exact HB.out | apply below_alloc | apply pw_below_drewN | apply below_drew1 | refine below_set ?_ GE613.out | refine below_set ?_ GE614.out | refine below_set ?_ GE615.out | refine below_set ?_ GE621.out | refine below_set ?_ GE626.out | refine below_set ?_ GE631.out | refine below_set ?_ GE636.out | refine below_set ?_ GE641.out) | exact HB.out)) hb)
  clear BK613
  clear BK614
  clear BK615
  clear BK621
  clear BK626
  clear BK631
  clear BK636
  clear BK641
  clear HB
  have BK613 := n0_
  have BK614 := n1_
  have BK615 := n2_
  have BK621 := n3_
  have BK626 := n4_
  have BK631 := n5_
  have BK636 := n6_
  have BK641 := n7_
  have HB := n8_
  clear n0_ n1_ n2_ n3_ n4_ n5_ n6_ n7_ n8_
  (try clear hb)
  (try clear hb2)
  (try clear hk)
  (try clear hi)
  refine hK.out _ _ ⟨(blk_cell BK636.out 0).trans rfl, (blk_cell BK636.out 1).trans rfl, (blk_cell BK636.out 2).trans rfl, (blk_cell BK636.out 3).trans rfl, (blk_cell BK626.out 0).trans rfl, (blk_cell BK626.out 1).trans rfl, (blk_cell BK626.out 2).trans rfl, (blk_cell BK626.out 3).trans rfl, (blk_cell BK621.out 0).trans rfl, (blk_cell BK621.out 1).trans rfl, (blk_cell BK621.out 2).trans rfl, (blk_cell BK621.out 3).trans rfl, (blk_cell BK641.out 0).trans rfl, (blk_cell BK641.out 1).trans rfl, (blk_cell BK641.out 2).trans rfl, (blk_cell BK641.out 3).trans rfl, (blk_cell BK631.out 0).trans rfl, (blk_cell BK631.out 1).trans rfl, (blk_cell BK631.out 2).trans rfl, (blk_cell BK631.out 3).trans rfl⟩ (fun hHeld => ?_)
  clear hK K
  refine norm_ (a' := ?_) ?_ ?_
  rotate_left
  · show Act.put _ (some 99) _ = _
    simp only [Act.put, List.setIfInBounds_toArray, List.set_cons_zero, List.set_cons_succ, i64_w, i32_w]
    rfl
  refine pure_ (i := 73) (N := some 101) (v := ?_) (a' := ?_) #[true, true, true, true, true, true, true, true, true, true, true, true, true, true, true, true, true, true, true, true, true, true, true, true, true, true, true, true, true, true, true, true, true, true, true, true, true, true, true, true, true, true, true, true, true, true, true, true, true, true, true, true, true, true, true, true, true, true, true, true, true, true, true, true, true, true, true, true, true, true, true, true, true, true, false, false, false, false, false, false, false, false, false, false, false, false, false, false, false, false] rfl rfl (any_of HT_.out (by kernel_rfl)) (fun _ _ _ h => h) (Or.inl ⟨by rfl, ?_⟩) ?_ ?_
  rotate_left
  · intro w'
    go_simp
    with_reducible rfl
  rotate_left
  · simp only [Act.put, List.setIfInBounds_toArray, List.set_cons_zero, List.set_cons_succ, i64_w, i32_w]
    rfl
  refine pure_ (i := 74) (N := some 102) (v := ?_) (a' := ?_) #[true, true, true, true, true, true, true, true, true, true, true, true, true, true, true, true, true, true, true, true, true, true, true, true, true, true, true, true, true, true, true, true, true, true, true, true, true, true, true, true, true, true, true, true, true, true, true, true, true, true, true, true, true, true, true, true, true, true, true, true, true, true, true, true, true, true, true, true, true, true, true, true, true, true, true, false, false, false, false, false, false, false, false, false, false, false, false, false, false, false] rfl rfl (any_of HT_.out (by kernel_rfl)) (fun _ _ _ h => h) (Or.inl ⟨by rfl, ?_⟩) ?_ ?_
  rotate_left
  · intro w'
    go_simp
    with_reducible rfl
  rotate_left
  · simp only [Act.put, List.setIfInBounds_toArray, List.set_cons_zero, List.set_cons_succ, i64_w, i32_w]
    rfl
  refine pure_ (i := 75) (N := some 103) (v := ?_) (a' := ?_) #[true, true, true, true, true, true, true, true, true, true, true, true, true, true, true, true, true, true, true, true, true, true, true, true, true, true, true, true, true, true, true, true, true, true, true, true, true, true, true, true, true, true, true, true, true, true, true, true, true, true, true, true, true, true, true, true, true, true, true, true, true, true, true, true, true, true, true, true, true, true, true, true, true, true, true, true, false, false, false, false, false, false, false, false, false, false, false, false, false, false] rfl rfl (any_of HT_.out (by kernel_rfl)) (fun _ _ _ h => h) (Or.inl ⟨by rfl, ?_⟩) ?_ ?_
  rotate_left
  · intro w'
    go_simp
    with_reducible rfl
  rotate_left
  · simp only [Act.put, List.setIfInBounds_toArray, List.set_cons_zero, List.set_cons_succ, i64_w, i32_w]
    rfl
  refine take_ (i := 76) (N := some 104) (v := ?_) (a' := ?_) #[true, true, true, true, true, true, true, true, true, true, true, true, true, true, true, true, true, true, true, true, true, true, true, true, true, true, true, true, true, true, true, true, true, true, true, true, true, true, true, true, true, true, true, true, true, true, true, true, true, true, true, true, true, true, true, true, true, true, true, true, true, true, true, true, true, true, true, true, true, true, true, true, true, true, true, true, true, false, false, false, false, false, false, false, false, false, false, false, false, false] rfl rfl (take_ofW HT_.out HW_.out (by kernel_rfl)) (fun _ _ _ h => h) (Or.inl ⟨by rfl, ?_⟩) hHeld ?_ ?_
  rotate_left
  · rintro w' ⟨s0, s1, s2, s3, s4, s5, s6, s7, s8, s9, s10, s11, s12, s13, s14, s15, s16, s17, s18, s19⟩
    go_simp
    with_reducible rfl
  rotate_left
  · simp only [Act.put, List.setIfInBounds_toArray, List.set_cons_zero, List.set_cons_succ, i64_w, i32_w]
    rfl
  refine one_ (i := 77) (N := some 105) #[true, true, true, true, true, true, true, true, true, true, true, true, true, true, true, true, true, true, true, true, true, true, true, true, true, true, true, true, true, true, true, true, true, true, true, true, true, true, true, true, true, true, true, true, true, true, true, true, true, true, true, true, true, true, true, true, true, true, true, true, true, true, true, true, true, true, true, true, true, true, true, true, true, true, true, true, true, true, false, false, false, false, false, false, false, false, false, false, false, false] rfl rfl (one_of HT_.out (by kernel_rfl)) (by decide) (fun K hK => ?_)
  refine goes_ Tryd.func20 (by kernel_rfl) rfl #[.agg #[.int .u64 t617, .int .u64 t618, .int .u64 t619, .int .u64 t620]] (by rfl) rfl rfl (by (try simp only [List.map_toArray, List.map_cons, List.map_nil]); first | done | rfl | (simp only [List.length_drop, List.length_take]; rfl)) ?_
  with_reducible refine (vec_Right.calls t617 t618 t619 t620 false _ A35.out).mono ?_
  rintro e w107 ⟨rfl, hb⟩
  refine ⟨_, rfl, ?_⟩
  have n0_ := Aside0.mk (blk_below (g := gb613) (o := .cells #[.int .u64 a0_0, .int .u64 a0_1, .int .u64 a0_2, .int .u64 a0_3, .bool a0_4] 26 (0, 0)) (by (with_reducible repeat (first | refine blk_drewN ?_ _ | refine blk_drew ?_ | refine blk_alloc ?_ _)); exact BK613.out) hb)
  have n1_ := Aside0.mk (blk_below (g := gb614) (o := .cells #[.int .u64 a1_0, .int .u64 a1_1, .int .u64 a1_2, .int .u64 a1_3, .bool a1_4] 26 (0, 0)) (by (with_reducible repeat (first | refine blk_drewN ?_ _ | refine blk_drew ?_ | refine blk_alloc ?_ _)); exact BK614.out) hb)
  have n2_ := Aside0.mk (blk_below (g := gb615) (o := .cells #[.int .u64 a2_0, .int .u64 a2_1, .int .u64 a2_2, .int .u64 a2_3, .bool a2_4] 26 (0, 0)) (by (with_reducible repeat (first | refine blk_drewN ?_ _ | refine blk_drew ?_ | refine blk_alloc ?_ _)); exact BK615.out) hb)
  have n3_ := Aside0.mk (blk_below (g := gb621) (o := .cells #[.int .u64 t617, .int .u64 t618, .int .u64 t619, .int .u64 t620] 24 (0, 0)) (by (with_reducible repeat (first | refine blk_drewN ?_ _ | refine blk_drew ?_ | refine blk_alloc ?_ _)); exact BK621.out) hb)
  have n4_ := Aside0.mk (blk_below (g := gb626) (o := .cells #[.int .u64 t622, .int .u64 t623, .int .u64 t624, .int .u64 t625] 24 (0, 0)) (by (with_reducible repeat (first | refine blk_drewN ?_ _ | refine blk_drew ?_ | refine blk_alloc ?_ _)); exact BK626.out) hb)
  have n5_ := Aside0.mk (blk_below (g := gb631) (o := .cells #[.int .u64 t627, .int .u64 t628, .int .u64 t629, .int .u64 t630] 24 (0, 0)) (by (with_reducible repeat (first | refine blk_drewN ?_ _ | refine blk_drew ?_ | refine blk_alloc ?_ _)); exact BK631.out) hb)
  have n6_ := Aside0.mk (blk_below (g := gb636) (o := .cells #[.int .u64 t632, .int .u64 t633, .int .u64 t634, .int .u64 t635] 24 (0, 0)) (by (with_reducible repeat (first | refine blk_drewN ?_ _ | refine blk_drew ?_ | refine blk_alloc ?_ _)); exact BK636.out) hb)
  have n7_ := Aside0.mk (blk_below (g := gb641) (o := .cells #[.int .u64 t637, .int .u64 t638, .int .u64 t639, .int .u64 t640] 24 (0, 0)) (by (with_reducible repeat (first | refine blk_drewN ?_ _ | refine blk_drew ?_ | refine blk_alloc ?_ _)); exact BK641.out) hb)
  have n8_ := Aside0.mk (below_step (by repeat (first | (with_reducible first | exact HB.out | apply below_alloc | apply pw_below_drewN | apply below_drew1 | refine below_set ?_ GE613.out | refine below_set ?_ GE614.out | refine below_set ?_ GE615.out | refine below_set ?_ GE621.out | refine below_set ?_ GE626.out | refine below_set ?_ GE631.out | refine below_set ?_ GE636.out | refine below_set ?_ GE641.out) | exact HB.out)) hb)
  clear BK613
  clear BK614
  clear BK615
  clear BK621
  clear BK626
  clear BK631
  clear BK636
  clear BK641
  clear HB
  have BK613 := n0_
  have BK614 := n1_
  have BK615 := n2_
  have BK621 := n3_
  have BK626 := n4_
  have BK631 := n5_
  have BK636 := n6_
  have BK641 := n7_
  have HB := n8_
  clear n0_ n1_ n2_ n3_ n4_ n5_ n6_ n7_ n8_
  (try clear hb)
  (try clear hb2)
  (try clear hk)
  (try clear hi)
  refine hK.out _ _ ⟨(blk_cell BK636.out 0).trans rfl, (blk_cell BK636.out 1).trans rfl, (blk_cell BK636.out 2).trans rfl, (blk_cell BK636.out 3).trans rfl, (blk_cell BK626.out 0).trans rfl, (blk_cell BK626.out 1).trans rfl, (blk_cell BK626.out 2).trans rfl, (blk_cell BK626.out 3).trans rfl, (blk_cell BK621.out 0).trans rfl, (blk_cell BK621.out 1).trans rfl, (blk_cell BK621.out 2).trans rfl, (blk_cell BK621.out 3).trans rfl, (blk_cell BK641.out 0).trans rfl, (blk_cell BK641.out 1).trans rfl, (blk_cell BK641.out 2).trans rfl, (blk_cell BK641.out 3).trans rfl, (blk_cell BK631.out 0).trans rfl, (blk_cell BK631.out 1).trans rfl, (blk_cell BK631.out 2).trans rfl, (blk_cell BK631.out 3).trans rfl⟩ (fun hHeld => ?_)
  clear hK K
  refine norm_ (a' := ?_) ?_ ?_
  rotate_left
  · show Act.put _ (some 105) _ = _
    simp only [Act.put, List.setIfInBounds_toArray, List.set_cons_zero, List.set_cons_succ, i64_w, i32_w]
    rfl
  refine pure_ (i := 78) (N := some 106) (v := ?_) (a' := ?_) #[true, true, true, true, true, true, true, true, true, true, true, true, true, true, true, true, true, true, true, true, true, true, true, true, true, true, true, true, true, true, true, true, true, true, true, true, true, true, true, true, true, true, true, true, true, true, true, true, true, true, true, true, true, true, true, true, true, true, true, true, true, true, true, true, true, true, true, true, true, true, true, true, true, true, true, true, true, true, true, false, false, false, false, false, false, false, false, false, false, false] rfl rfl (any_of HT_.out (by kernel_rfl)) (fun _ _ _ h => h) (Or.inl ⟨by rfl, ?_⟩) ?_ ?_
  rotate_left
  · intro w'
    go_simp
    with_reducible rfl
  rotate_left
  · simp only [Act.put, List.setIfInBounds_toArray, List.set_cons_zero, List.set_cons_succ, i64_w, i32_w]
    rfl
  refine pure_ (i := 79) (N := some 107) (v := ?_) (a' := ?_) #[true, true, true, true, true, true, true, true, true, true, true, true, true, true, true, true, true, true, true, true, true, true, true, true, true, true, true, true, true, true, true, true, true, true, true, true, true, true, true, true, true, true, true, true, true, true, true, true, true, true, true, true, true, true, true, true, true, true, true, true, true, true, true, true, true, true, true, true, true, true, true, true, true, true, true, true, true, true, true, true, false, false, false, false, false, false, false, false, false, false] rfl rfl (any_of HT_.out (by kernel_rfl)) (fun _ _ _ h => h) (Or.inl ⟨by rfl, ?_⟩) ?_ ?_
  rotate_left
  · intro w'
    go_simp
    with_reducible rfl
  rotate_left
  · simp only [Act.put, List.setIfInBounds_toArray, List.set_cons_zero, List.set_cons_succ, i64_w, i32_w]
    rfl
  refine pure_ (i := 80) (N := some 108) (v := undef) (a' := ?_) #[true, true, true, true, true, true, true, true, true, true, true, true, true, true, true, true, true, true, true, true, true, true, true, true, true, true, true, true, true, true, true, true, true, true, true, true, true, true, true, true, true, true, true, true, true, true, true, true, true, true, true, true, true, true, true, true, true, true, true, true, true, true, true, true, true, true, true, true, true, true, true, true, true, true, true, true, true, true, true, true, true, false, false, false, false, false, false, false, false, false] rfl rfl (any_of HT_.out (by kernel_rfl)) (fun _ _ _ h => h) (Or.inr ⟨by rfl, rfl⟩) ?_ ?_
  rotate_left
  · simp only [Act.put, List.setIfInBounds_toArray, List.set_cons_zero, List.set_cons_succ, i64_w, i32_w]
    rfl
  refine pure_ (i := 81) (N := some 109) (v := undef) (a' := ?_) #[true, true, true, true, true, true, true, true, true, true, true, true, true, true, true, true, true, true, true, true, true, true, true, true, true, true, true, true, true, true, true, true, true, true, true, true, true, true, true, true, true, true, true, true, true, true, true, true, true, true, true, true, true, true, true, true, true, true, true, true, true, true, true, true, true, true, true, true, true, true, true, true, true, true, true, true, true, true, true, true, true, true, false, false, false, false, false, false, false, false] rfl rfl (any_of HT_.out (by kernel_rfl)) (fun _ _ _ h => h) (Or.inr ⟨by rfl, rfl⟩) ?_ ?_
  rotate_left
  · simp only [Act.put, List.setIfInBounds_toArray, List.set_cons_zero, List.set_cons_succ, i64_w, i32_w]
    rfl
  refine pure_ (i := 82) (N := some 110) (v := undef) (a' := ?_) #[true, true, true, true, true, true, true, true, true, true, true, true, true, true, true, true, true, true, true, true, true, true, true, true, true, true, true, true, true, true, true, true, true, true, true, true, true, true, true, true, true, true, true, true, true, true, true, true, true, true, true, true, true, true, true, true, true, true, true, true, true, true, true, true, true, true, true, true, true, true, true, true, true, true, true, true, true, true, true, true, true, true, true, false, false, false, false, false, false, false] rfl rfl (any_of HT_.out (by kernel_rfl)) (fun _ _ _ h => h) (Or.inr ⟨by rfl, rfl⟩) ?_ ?_
  rotate_left
  · simp only [Act.put, List.setIfInBounds_toArray, List.set_cons_zero, List.set_cons_succ, i64_w, i32_w]
    rfl
  refine pure_ (i := 83) (N := some 111) (v := ?_) (a' := ?_) #[true, true, true, true, true, true, true, true, true, true, true, true, true, true, true, true, true, true, true, true, true, true, true, true, true, true, true, true, true, true, true, true, true, true, true, true, true, true, true, true, true, true, true, true, true, true, true, true, true, true, true, true, true, true, true, true, true, true, true, true, true, true, true, true, true, true, true, true, true, true, true, true, true, true, true, true, true, true, true, true, true, true, true, true, false, false, false, false, false, false] rfl rfl (any_of HT_.out (by kernel_rfl)) (fun _ _ _ h => h) (Or.inl ⟨by rfl, ?_⟩) ?_ ?_
  rotate_left
  · intro w'
    go_simp
    with_reducible rfl
  rotate_left
  · simp only [Act.put, List.setIfInBounds_toArray, List.set_cons_zero, List.set_cons_succ, i64_w, i32_w]
    rfl
  refine pure_ (i := 84) (N := some 112) (v := ?_) (a' := ?_) #[true, true, true, true, true, true, true, true, true, true, true, true, true, true, true, true, true, true, true, true, true, true, true, true, true, true, true, true, true, true, true, true, true, true, true, true, true, true, true, true, true, true, true, true, true, true, true, true, true, true, true, true, true, true, true, true, true, true, true, true, true, true, true, true, true, true, true, true, true, true, true, true, true, true, true, true, true, true, true, true, true, true, true, true, true, false, false, false, false, false] rfl rfl (any_of HT_.out (by kernel_rfl)) (fun _ _ _ h => h) (Or.inl ⟨by rfl, ?_⟩) ?_ ?_
  rotate_left
  · intro w'
    go_simp
    with_reducible rfl
  rotate_left
  · simp only [Act.put, List.setIfInBounds_toArray, List.set_cons_zero, List.set_cons_succ, i64_w, i32_w]
    rfl
  refine pure_ (i := 85) (N := some 113) (v := undef) (a' := ?_) #[true, true, true, true, true, true, true, true, true, true, true, true, true, true, true, true, true, true, true, true, true, true, true, true, true, true, true, true, true, true, true, true, true, true, true, true, true, true, true, true, true, true, true, true, true, true, true, true, true, true, true, true, true, true, true, true, true, true, true, true, true, true, true, true, true, true, true, true, true, true, true, true, true, true, true, true, true, true, true, true, true, true, true, true, true, true, false, false, false, false] rfl rfl (any_of HT_.out (by kernel_rfl)) (fun _ _ _ h => h) (Or.inr ⟨by rfl, rfl⟩) ?_ ?_
  rotate_left
  · simp only [Act.put, List.setIfInBounds_toArray, List.set_cons_zero, List.set_cons_succ, i64_w, i32_w]
    rfl
  refine pure_ (i := 86) (N := some 114) (v := undef) (a' := ?_) #[true, true, true, true, true, true, true, true, true, true, true, true, true, true, true, true, true, true, true, true, true, true, true, true, true, true, true, true, true, true, true, true, true, true, true, true, true, true, true, true, true, true, true, true, true, true, true, true, true, true, true, true, true, true, true, true, true, true, true, true, true, true, true, true, true, true, true, true, true, true, true, true, true, true, true, true, true, true, true, true, true, true, true, true, true, true, true, false, false, false] rfl rfl (any_of HT_.out (by kernel_rfl)) (fun _ _ _ h => h) (Or.inr ⟨by rfl, rfl⟩) ?_ ?_
  rotate_left
  · simp only [Act.put, List.setIfInBounds_toArray, List.set_cons_zero, List.set_cons_succ, i64_w, i32_w]
    rfl
  refine pure_ (i := 87) (N := some 115) (v := ?_) (a' := ?_) #[true, true, true, true, true, true, true, true, true, true, true, true, true, true, true, true, true, true, true, true, true, true, true, true, true, true, true, true, true, true, true, true, true, true, true, true, true, true, true, true, true, true, true, true, true, true, true, true, true, true, true, true, true, true, true, true, true, true, true, true, true, true, true, true, true, true, true, true, true, true, true, true, true, true, true, true, true, true, true, true, true, true, true, true, true, true, true, true, false, false] rfl rfl (any_of HT_.out (by kernel_rfl)) (fun _ _ _ h => h) (Or.inl ⟨by rfl, ?_⟩) ?_ ?_
  rotate_left
  · intro w'
    go_simp
    with_reducible rfl
  rotate_left
  · simp only [Act.put, List.setIfInBounds_toArray, List.set_cons_zero, List.set_cons_succ, i64_w, i32_w]
    rfl
  refine pure_ (i := 88) (N := some 116) (v := ?_) (a' := ?_) #[true, true, true, true, true, true, true, true, true, true, true, true, true, true, true, true, true, true, true, true, true, true, true, true, true, true, true, true, true, true, true, true, true, true, true, true, true, true, true, true, true, true, true, true, true, true, true, true, true, true, true, true, true, true, true, true, true, true, true, true, true, true, true, true, true, true, true, true, true, true, true, true, true, true, true, true, true, true, true, true, true, true, true, true, true, true, true, true, true, false] rfl rfl (any_of HT_.out (by kernel_rfl)) (fun _ _ _ h => h) (Or.inl ⟨by rfl, ?_⟩) ?_ ?_
  rotate_left
  · intro w'
    go_simp
    with_reducible rfl
  rotate_left
  · simp only [Act.put, List.setIfInBounds_toArray, List.set_cons_zero, List.set_cons_succ, i64_w, i32_w]
    rfl
  refine pure_ (i := 89) (N := some 6) (v := ?_) (a' := ?_) #[true, true, true, true, true, true, true, true, true, true, true, true, true, true, true, true, true, true, true, true, true, true, true, true, true, true, true, true, true, true, true, true, true, true, true, true, true, true, true, true, true, true, true, true, true, true, true, true, true, true, true, true, true, true, true, true, true, true, true, true, true, true, true, true, true, true, true, true, true, true, true, true, true, true, true, true, true, true, true, true, true, true, true, true, true, true, true, true, true, true] rfl rfl (any_of HT_.out (by kernel_rfl)) (fun _ _ _ h => h) (Or.inl ⟨by rfl, ?_⟩) ?_ ?_
  rotate_left
  · intro w'
    go_simp
    with_reducible rfl
  rotate_left
  · simp only [Act.put, List.setIfInBounds_toArray, List.set_cons_zero, List.set_cons_succ, i64_w, i32_w]
    rfl
  refine done_ (done_of HT_.out (by kernel_rfl)) ?_
  try go_wp2
  go_ret
  exact ⟨by first | rfl | (simp [errW_none, errW_some] <;> rfl) | (simp [*, errW_none, errW_some] <;> rfl), by repeat (first | (with_reducible first | exact HB.out | apply below_alloc | apply pw_below_drewN | apply below_drew1 | refine below_set ?_ GE613.out | refine below_set ?_ GE614.out | refine below_set ?_ GE615.out | refine below_set ?_ GE621.out | refine below_set ?_ GE626.out | refine below_set ?_ GE631.out | refine below_set ?_ GE636.out | refine below_set ?_ GE641.out) | exact HB.out)⟩

end Go.Proofs.YtakhahfegialfaaDoor.Q
