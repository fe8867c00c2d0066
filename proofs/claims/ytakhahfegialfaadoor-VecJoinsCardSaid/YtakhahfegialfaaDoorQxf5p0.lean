-- Written by this session's own driver (wip/hybrid.py) of the kit's printer; contracts marked FOREIGN are by hand.
import Derived.Test.YtakhahfegialfaaDoorQx0
import Derived.Test.YtakhahfegialfaaDoorQxe24
import Derived.Test.YtakhahfegialfaaDoorQxf12
import Derived.Test.YtakhahfegialfaaDoorQxf14
import Derived.Test.YtakhahfegialfaaDoorQxf22
import Derived.Test.YtakhahfegialfaaDoorQxf20
import Derived.Test.YtakhahfegialfaaDoorQxf10
import Derived.Test.YtakhahfegialfaaDoorQxf11
namespace Go.Proofs.YtakhahfegialfaaDoor.Q
open Go.RowKit Go.Proofs.YtakhahfegialfaaDoorW.PrintWords Go.Proofs.YtakhahfegialfaaDoorW.PrintLast Go.Proofs.YtakhahfegialfaaDoorW.PrintMore
attribute [local go_sem] max2_int min2_int max_two min_two max_three min_three max_four min_four   -- for this text's walks alone
set_option linter.unusedVariables false
set_option linter.unusedSimpArgs false

attribute [local go_sem] ixA24_0 ixA24_1 ixA24_2 ixA24_3   -- for this text's walks alone
attribute [local go_sem high] eqA24
/-! ### tenementlaw06_VecJoins_p0: function 5 -/
theorem Zq0 {p : Prop} (h : p) : Aside0 p := ⟨h⟩
theorem Zn0 {w : World} {g : Nat} {o : Obj} (h : w.heap[g]? = some o) (n : Nat) : (w.drewN n).heap[g]? = some o := h
theorem Zd0 {w : World} {g : Nat} {o : Obj} (h : w.heap[g]? = some o) : w.drew.heap[g]? = some o := h
theorem Za0 {w : World} {g : Nat} {o : Obj} (h : w.heap[g]? = some o) (x : Obj) : (w.alloc x).heap[g]? = some o := blk_alloc h x
theorem Zf0 {w : World} {g : Nat} {t : TypeId} {cs : Array Value} (h : w.heap[g]? = some (.cells cs t (0, 0))) {p : Addr} (hp : g ≠ p.block) (u : Value) : (w.setCell p u).heap[g]? = some (.cells cs t (0, 0)) := blk_far h hp u
theorem Zb0 {w W : World} {g : Nat} {o : Obj} (h : w.heap[g]? = some o) (hb : Below w.heap.size w W) : W.heap[g]? = some o := blk_below h hb
theorem Zw0 {B : Nat} {w W : World} (h : Below B w W) (n : Nat) : Below B w (W.drewN n) := pw_below_drewN h n
theorem Ze0 {B : Nat} {w W : World} (h : Below B w W) : Below B w W.drew := below_drew1 h
theorem Zs0 {w W : World} {g j : Nat} {v : Value} (h : Below w.heap.size w W) (hg : w.heap.size ≤ g) : Below w.heap.size w (W.setCell ⟨g, j, none⟩ v) := below_set h hg
def tenementlaw06_VecJoins_p0.f (k : Nat) (a0_0 : Int) (a0_1 : Int) (a0_2 : Int) (a0_3 : Int) (a0_4 : Bool) (a1_0 : Int) (a1_1 : Int) (a1_2 : Int) (a1_3 : Int) (a1_4 : Bool) (a2_0 : Int) (a2_1 : Int) (a2_2 : Int) (a2_3 : Int) (a2_4 : Bool) : Option (Bool) := (tenementlaw06_examples.f k).bind fun t452 => (if t452 = true then ((tenementlaw06_Vector_vector.f k a0_0 a0_1 a0_2 a0_3 a0_4).bind fun bt453 => ((tenementlaw06_Vector_vector.f k a1_0 a1_1 a1_2 a1_3 a1_4).bind fun bt458 => ((tenementlaw06_Vector_vector.f k a2_0 a2_1 a2_2 a2_3 a2_4).bind fun bt463 => ((vec_Join.f bt453.1 bt453.2.1 bt453.2.2.1 bt453.2.2.2 bt458.1 bt458.2.1 bt458.2.2.1 bt458.2.2.2).bind fun bt468 => ((vec_Meet.f bt453.1 bt453.2.1 bt453.2.2.1 bt453.2.2.2 bt458.1 bt458.2.1 bt458.2.2.1 bt458.2.2.2).bind fun bt473 => ((vec_Join.f bt458.1 bt458.2.1 bt458.2.2.1 bt458.2.2.2 bt453.1 bt453.2.1 bt453.2.2.1 bt453.2.2.2).bind fun bt478 => (if (bt468.1 == bt478.1 && (bt468.2.1 == bt478.2.1 && (bt468.2.2.1 == bt478.2.2.1 && (bt468.2.2.2 == bt478.2.2.2)))) = true then ((vec_Meet.f bt458.1 bt458.2.1 bt458.2.2.1 bt458.2.2.2 bt453.1 bt453.2.1 bt453.2.2.1 bt453.2.2.2).bind fun bt482 => (if (bt473.1 == bt482.1 && (bt473.2.1 == bt482.2.1 && (bt473.2.2.1 == bt482.2.2.1 && (bt473.2.2.2 == bt482.2.2.2)))) = true then ((vec_Join.f bt468.1 bt468.2.1 bt468.2.2.1 bt468.2.2.2 bt463.1 bt463.2.1 bt463.2.2.1 bt463.2.2.2).bind fun bt486 => ((vec_Join.f bt458.1 bt458.2.1 bt458.2.2.1 bt458.2.2.2 bt463.1 bt463.2.1 bt463.2.2.1 bt463.2.2.2).bind fun bt490 => ((vec_Join.f bt453.1 bt453.2.1 bt453.2.2.1 bt453.2.2.2 bt490.1 bt490.2.1 bt490.2.2.1 bt490.2.2.2).bind fun bt494 => (if (bt486.1 == bt494.1 && (bt486.2.1 == bt494.2.1 && (bt486.2.2.1 == bt494.2.2.1 && (bt486.2.2.2 == bt494.2.2.2)))) = true then ((vec_Meet.f bt473.1 bt473.2.1 bt473.2.2.1 bt473.2.2.2 bt463.1 bt463.2.1 bt463.2.2.1 bt463.2.2.2).bind fun bt498 => ((vec_Meet.f bt458.1 bt458.2.1 bt458.2.2.1 bt458.2.2.2 bt463.1 bt463.2.1 bt463.2.2.1 bt463.2.2.2).bind fun bt502 => ((vec_Meet.f bt453.1 bt453.2.1 bt453.2.2.1 bt453.2.2.2 bt502.1 bt502.2.1 bt502.2.2.1 bt502.2.2.2).bind fun bt506 => (if (bt498.1 == bt506.1 && (bt498.2.1 == bt506.2.1 && (bt498.2.2.1 == bt506.2.2.1 && (bt498.2.2.2 == bt506.2.2.2)))) = true then ((vec_Join.f bt468.1 bt468.2.1 bt468.2.2.1 bt468.2.2.2 bt453.1 bt453.2.1 bt453.2.2.1 bt453.2.2.2).bind fun bt510 => (if (bt510.1 == bt468.1 && (bt510.2.1 == bt468.2.1 && (bt510.2.2.1 == bt468.2.2.1 && (bt510.2.2.2 == bt468.2.2.2)))) = true then ((vec_Meet.f bt473.1 bt473.2.1 bt473.2.2.1 bt473.2.2.2 bt453.1 bt453.2.1 bt453.2.2.1 bt453.2.2.2).bind fun bt514 => (if (bt514.1 == bt473.1 && (bt514.2.1 == bt473.2.1 && (bt514.2.2.1 == bt473.2.2.1 && (bt514.2.2.2 == bt473.2.2.2)))) = true then ((vec_Leq.f bt453.1 bt453.2.1 bt453.2.2.1 bt453.2.2.2 bt468.1 bt468.2.1 bt468.2.2.1 bt468.2.2.2).bind fun t518 => (if t518 = true then ((vec_Leq.f bt473.1 bt473.2.1 bt473.2.2.1 bt473.2.2.2 bt458.1 bt458.2.1 bt458.2.2.1 bt458.2.2.2).bind fun t519 => (if t519 = true then ((vec_Join.f bt453.1 bt453.2.1 bt453.2.2.1 bt453.2.2.2 bt473.1 bt473.2.1 bt473.2.2.1 bt473.2.2.2).bind fun bt520 => (if (bt520.1 == bt453.1 && (bt520.2.1 == bt453.2.1 && (bt520.2.2.1 == bt453.2.2.1 && (bt520.2.2.2 == bt453.2.2.2)))) = true then ((vec_Meet.f bt453.1 bt453.2.1 bt453.2.2.1 bt453.2.2.2 bt468.1 bt468.2.1 bt468.2.2.1 bt468.2.2.2).bind fun bt524 => (if (bt524.1 == bt453.1 && (bt524.2.1 == bt453.2.1 && (bt524.2.2.1 == bt453.2.2.1 && (bt524.2.2.2 == bt453.2.2.2)))) = true then ((vec_Right.f bt453.1 bt453.2.1 bt453.2.2.1 bt453.2.2.2).bind fun t528 => (if t528 = true then ((vec_Right.f bt458.1 bt458.2.1 bt458.2.2.1 bt458.2.2.2).bind fun t529 => (if t529 = true then ((vec_Right.f bt468.1 bt468.2.1 bt468.2.2.1 bt468.2.2.2).bind fun t530 => (if t530 = true then (some true) else (none))) else (none))) else (none))) else (none))) else (none))) else (none))) else (none))) else (none))) else (none))) else (none))))) else (none))))) else (none))) else (none)))))))) else (none))
theorem tenementlaw06_VecJoins_p0.mono : ∀ a0 a1 a2 a3 a4 a5 a6 a7 a8 a9 a10 a11 a12 a13 a14 k, LeO (tenementlaw06_VecJoins_p0.f k a0 a1 a2 a3 a4 a5 a6 a7 a8 a9 a10 a11 a12 a13 a14) (tenementlaw06_VecJoins_p0.f (k + 1) a0 a1 a2 a3 a4 a5 a6 a7 a8 a9 a10 a11 a12 a13 a14) := by
  intro a0 a1 a2 a3 a4 a5 a6 a7 a8 a9 a10 a11 a12 a13 a14 k
  unfold tenementlaw06_VecJoins_p0.f
  repeat' first
      | (with_reducible exact tenementlaw06_Vector_vector.mono _ _ _ _ _ _)
      | (with_reducible exact tenementlaw06_examples.mono _)
      | (with_reducible exact LeO.refl _)
      | (with_reducible exact LeO.none _)
      | (with_reducible refine LeO.ite ?_ ?_)
      | (with_reducible refine LeO.bind ?_ (fun _ => ?_))
      | exact tenementlaw06_Vector_vector.mono _ _ _ _ _ _
      | exact tenementlaw06_examples.mono _
      | exact LeO.none _
      | refine LeO.ite ?_ ?_
      | refine LeO.bind ?_ (fun _ => ?_)
def tenementlaw06_VecJoins_p0.T9 : Bool × List (List Nat × List Nat) := (true, [([], []), ([0], [0]), ([1], [1]), ([1], [1]), ([1], [1]), ([3, 4, 1, 1], [1, 3, 4]), ([2, 5, 1], [1, 2, 5]), ([1, 6], [1, 6]), ([7, 5], [7]), ([8], [8]), ([8], [8]), ([8], [8]), ([10, 11, 8, 8], [8, 10, 11]), ([9, 12, 8], [8, 9, 12]), ([8, 13], [8, 13]), ([14, 12], [14]), ([15], [15]), ([15], [15]), ([16, 17, 15, 15], [15, 16, 17]), ([15], [15]), ([15], [15]), ([15], [15]), ([20, 21, 18, 15], [15, 20, 21]), ([19, 22, 22, 15], [15, 19, 22]), ([18, 23, 15], [15, 18, 23]), ([15, 24], [15, 24]), ([25, 23], [25]), ([26], [26]), ([26], [26]), ([27, 28, 26, 26], [26, 27, 28]), ([26], [26]), ([26], [26]), ([26], [26]), ([31, 32, 29, 26], [26, 31, 32]), ([30, 33, 33, 26], [26, 30, 33]), ([29, 34, 26], [26, 29, 34]), ([26, 35], [26, 35]), ([36, 34], [36]), ([37], [37]), ([37], [37]), ([38, 39, 37, 37], [37, 38, 39]), ([37], [37]), ([40, 41, 37], [37, 40, 41]), ([37, 42], [37, 42]), ([43, 40], [43]), ([44], [44]), ([44], [44]), ([45, 46, 44, 44], [44, 45, 46]), ([44], [44]), ([47, 48, 44], [44, 47, 48]), ([44, 49], [44, 49]), ([50, 47], [50]), ([51], [51]), ([51], [51]), ([52, 53, 51, 51], [51, 52, 53]), ([51, 54], [51, 54]), ([55, 54], [55]), ([56], [56]), ([56], [56]), ([57, 58, 56, 56], [56, 57, 58]), ([56, 59], [56, 59]), ([60, 59], [60]), ([61], [61]), ([61], [61]), ([62, 63, 61, 61], [61, 62, 63]), ([61], [61]), ([64, 65, 61], [61, 64, 65]), ([61, 66], [61, 66]), ([67, 64], [67]), ([68], [68]), ([68], [68]), ([69, 70, 68, 68], [68, 69, 70]), ([68], [68]), ([71, 72, 68], [68, 71, 72]), ([68, 73], [68, 73]), ([74, 71], [74]), ([75], [75]), ([76, 75, 75], [75, 76]), ([77, 75], [75, 77]), ([78, 77, 75], [75, 78]), ([79], [79]), ([80, 79, 79], [79, 80]), ([81, 79], [79, 81]), ([79, 82, 75], [75, 79, 82]), ([83, 81, 75], [75, 83]), ([84], [84]), ([85, 84, 84], [84, 85]), ([84, 86, 75], [75, 84, 86]), ([75, 87], [75, 87]), ([88, 86, 0, 1, 2, 3, 4, 5, 6, 7, 8, 9, 10, 11, 12, 13, 14, 15, 16, 17, 18, 19, 20, 21, 22, 23, 24, 25, 26, 27, 28, 29, 30, 31, 32, 33, 34, 35, 36, 37, 38, 39, 40, 41, 42, 43, 44, 45, 46, 47, 48, 49, 50, 51, 52, 53, 54, 55, 56, 57, 58, 59, 60, 61, 62, 63, 64, 65, 66, 67, 68, 69, 70, 71, 72, 73, 74, 75, 76, 77, 78, 79, 80, 81, 82, 83, 84, 85, 86, 87, 88], [88])])
def tenementlaw06_VecJoins_p0.B9 : List Nat := [0, 1, 3, 3, 3, 27, 63, 127, 255, 511, 511, 511, 3583, 8191, 16383, 32767, 65535, 65535, 262143, 65535, 65535, 65535, 3670015, 8388607, 16777215, 33554431, 67108863, 134217727, 134217727, 536870911, 134217727, 134217727, 134217727, 7516192767, 17179869183, 34359738367, 68719476735, 137438953471, 274877906943, 274877906943, 1099511627775, 274877906943, 4398046511103, 8796093022207, 17592186044415, 35184372088831, 35184372088831, 140737488355327, 35184372088831, 562949953421311, 1125899906842623, 2251799813685247, 4503599627370495, 4503599627370495, 18014398509481983, 36028797018963967, 72057594037927935, 144115188075855871, 144115188075855871, 576460752303423487, 1152921504606846975, 2305843009213693951, 4611686018427387903, 4611686018427387903, 18446744073709551615, 4611686018427387903, 73786976294838206463, 147573952589676412927, 295147905179352825855, 590295810358705651711, 590295810358705651711, 2361183241434822606847, 590295810358705651711, 9444732965739290427391, 18889465931478580854783, 37778931862957161709567, 75557863725914323419135, 151115727451828646838271, 302231454903657293676543, 604462909807314587353087, 1208925819614629174706175, 2417851639229258349412351, 4835703278458516698824703, 9671406556917033397649407, 19342813113834066795298815, 38685626227668133590597631, 77371252455336267181195263, 154742504910672534362390527, 309485009821345068724781055, 618970019642690137449562111]
theorem tenementlaw06_VecJoins_p0.tab9 : rtab .any (opsOf Tryd.f5 9) = tenementlaw06_VecJoins_p0.T9 := by kernel_rfl
theorem tenementlaw06_VecJoins_p0.bits9 : waitsOk tenementlaw06_VecJoins_p0.T9.2 tenementlaw06_VecJoins_p0.B9 = true := by kernel_rfl
set_option maxHeartbeats 8000000 in
set_option maxRecDepth 100000 in
theorem tenementlaw06_VecJoins_p0.calls (k : Nat) (a0_0 : Int) (a0_1 : Int) (a0_2 : Int) (a0_3 : Int) (a0_4 : Bool) (a1_0 : Int) (a1_1 : Int) (a1_2 : Int) (a1_3 : Int) (a1_4 : Bool) (a2_0 : Int) (a2_1 : Int) (a2_2 : Int) (a2_3 : Int) (a2_4 : Bool) (r : Bool) (w : World) (h : tenementlaw06_VecJoins_p0.f k a0_0 a0_1 a0_2 a0_3 a0_4 a1_0 a1_1 a1_2 a1_3 a1_4 a2_0 a2_1 a2_2 a2_3 a2_4 = some r) :
    Calls Tryd.prog 5 #[.agg #[.int .u64 a0_0, .int .u64 a0_1, .int .u64 a0_2, .int .u64 a0_3, .bool a0_4], .agg #[.int .u64 a1_0, .int .u64 a1_1, .int .u64 a1_2, .int .u64 a1_3, .bool a1_4], .agg #[.int .u64 a2_0, .int .u64 a2_1, .int .u64 a2_2, .int .u64 a2_3, .bool a2_4]] w fun e w' => e = .returned (.bool r) ∧ Below w.heap.size w w' := by
  have hu26 := Tryd.underlying26
  have hu24 := Tryd.underlying24
  have HB := Zq0 (Below.refl w.heap.size w)
  have H : ((tenementlaw06_examples.f k).bind fun t452 => (if t452 = true then ((tenementlaw06_Vector_vector.f k a0_0 a0_1 a0_2 a0_3 a0_4).bind fun bt453 => ((tenementlaw06_Vector_vector.f k a1_0 a1_1 a1_2 a1_3 a1_4).bind fun bt458 => ((tenementlaw06_Vector_vector.f k a2_0 a2_1 a2_2 a2_3 a2_4).bind fun bt463 => ((vec_Join.f bt453.1 bt453.2.1 bt453.2.2.1 bt453.2.2.2 bt458.1 bt458.2.1 bt458.2.2.1 bt458.2.2.2).bind fun bt468 => ((vec_Meet.f bt453.1 bt453.2.1 bt453.2.2.1 bt453.2.2.2 bt458.1 bt458.2.1 bt458.2.2.1 bt458.2.2.2).bind fun bt473 => ((vec_Join.f bt458.1 bt458.2.1 bt458.2.2.1 bt458.2.2.2 bt453.1 bt453.2.1 bt453.2.2.1 bt453.2.2.2).bind fun bt478 => (if (bt468.1 == bt478.1 && (bt468.2.1 == bt478.2.1 && (bt468.2.2.1 == bt478.2.2.1 && (bt468.2.2.2 == bt478.2.2.2)))) = true then ((vec_Meet.f bt458.1 bt458.2.1 bt458.2.2.1 bt458.2.2.2 bt453.1 bt453.2.1 bt453.2.2.1 bt453.2.2.2).bind fun bt482 => (if (bt473.1 == bt482.1 && (bt473.2.1 == bt482.2.1 && (bt473.2.2.1 == bt482.2.2.1 && (bt473.2.2.2 == bt482.2.2.2)))) = true then ((vec_Join.f bt468.1 bt468.2.1 bt468.2.2.1 bt468.2.2.2 bt463.1 bt463.2.1 bt463.2.2.1 bt463.2.2.2).bind fun bt486 => ((vec_Join.f bt458.1 bt458.2.1 bt458.2.2.1 bt458.2.2.2 bt463.1 bt463.2.1 bt463.2.2.1 bt463.2.2.2).bind fun bt490 => ((vec_Join.f bt453.1 bt453.2.1 bt453.2.2.1 bt453.2.2.2 bt490.1 bt490.2.1 bt490.2.2.1 bt490.2.2.2).bind fun bt494 => (if (bt486.1 == bt494.1 && (bt486.2.1 == bt494.2.1 && (bt486.2.2.1 == bt494.2.2.1 && (bt486.2.2.2 == bt494.2.2.2)))) = true then ((vec_Meet.f bt473.1 bt473.2.1 bt473.2.2.1 bt473.2.2.2 bt463.1 bt463.2.1 bt463.2.2.1 bt463.2.2.2).bind fun bt498 => ((vec_Meet.f bt458.1 bt458.2.1 bt458.2.2.1 bt458.2.2.2 bt463.1 bt463.2.1 bt463.2.2.1 bt463.2.2.2).bind fun bt502 => ((vec_Meet.f bt453.1 bt453.2.1 bt453.2.2.1 bt453.2.2.2 bt502.1 bt502.2.1 bt502.2.2.1 bt502.2.2.2).bind fun bt506 => (if (bt498.1 == bt506.1 && (bt498.2.1 == bt506.2.1 && (bt498.2.2.1 == bt506.2.2.1 && (bt498.2.2.2 == bt506.2.2.2)))) = true then ((vec_Join.f bt468.1 bt468.2.1 bt468.2.2.1 bt468.2.2.2 bt453.1 bt453.2.1 bt453.2.2.1 bt453.2.2.2).bind fun bt510 => (if (bt510.1 == bt468.1 && (bt510.2.1 == bt468.2.1 && (bt510.2.2.1 == bt468.2.2.1 && (bt510.2.2.2 == bt468.2.2.2)))) = true then ((vec_Meet.f bt473.1 bt473.2.1 bt473.2.2.1 bt473.2.2.2 bt453.1 bt453.2.1 bt453.2.2.1 bt453.2.2.2).bind fun bt514 => (if (bt514.1 == bt473.1 && (bt514.2.1 == bt473.2.1 && (bt514.2.2.1 == bt473.2.2.1 && (bt514.2.2.2 == bt473.2.2.2)))) = true then ((vec_Leq.f bt453.1 bt453.2.1 bt453.2.2.1 bt453.2.2.2 bt468.1 bt468.2.1 bt468.2.2.1 bt468.2.2.2).bind fun t518 => (if t518 = true then ((vec_Leq.f bt473.1 bt473.2.1 bt473.2.2.1 bt473.2.2.2 bt458.1 bt458.2.1 bt458.2.2.1 bt458.2.2.2).bind fun t519 => (if t519 = true then ((vec_Join.f bt453.1 bt453.2.1 bt453.2.2.1 bt453.2.2.2 bt473.1 bt473.2.1 bt473.2.2.1 bt473.2.2.2).bind fun bt520 => (if (bt520.1 == bt453.1 && (bt520.2.1 == bt453.2.1 && (bt520.2.2.1 == bt453.2.2.1 && (bt520.2.2.2 == bt453.2.2.2)))) = true then ((vec_Meet.f bt453.1 bt453.2.1 bt453.2.2.1 bt453.2.2.2 bt468.1 bt468.2.1 bt468.2.2.1 bt468.2.2.2).bind fun bt524 => (if (bt524.1 == bt453.1 && (bt524.2.1 == bt453.2.1 && (bt524.2.2.1 == bt453.2.2.1 && (bt524.2.2.2 == bt453.2.2.2)))) = true then ((vec_Right.f bt453.1 bt453.2.1 bt453.2.2.1 bt453.2.2.2).bind fun t528 => (if t528 = true then ((vec_Right.f bt458.1 bt458.2.1 bt458.2.2.1 bt458.2.2.2).bind fun t529 => (if t529 = true then ((vec_Right.f bt468.1 bt468.2.1 bt468.2.2.1 bt468.2.2.2).bind fun t530 => (if t530 = true then (some true) else (none))) else (none))) else (none))) else (none))) else (none))) else (none))) else (none))) else (none))) else (none))) else (none))))) else (none))))) else (none))) else (none)))))))) else (none))) = some r := h
  clear h
  replace H := Option.bind_eq_some_iff.mp H
  obtain ⟨t452, A40, H⟩ := H
  replace H : (if t452 = true then ((tenementlaw06_Vector_vector.f k a0_0 a0_1 a0_2 a0_3 a0_4).bind fun bt453 => ((tenementlaw06_Vector_vector.f k a1_0 a1_1 a1_2 a1_3 a1_4).bind fun bt458 => ((tenementlaw06_Vector_vector.f k a2_0 a2_1 a2_2 a2_3 a2_4).bind fun bt463 => ((vec_Join.f bt453.1 bt453.2.1 bt453.2.2.1 bt453.2.2.2 bt458.1 bt458.2.1 bt458.2.2.1 bt458.2.2.2).bind fun bt468 => ((vec_Meet.f bt453.1 bt453.2.1 bt453.2.2.1 bt453.2.2.2 bt458.1 bt458.2.1 bt458.2.2.1 bt458.2.2.2).bind fun bt473 => ((vec_Join.f bt458.1 bt458.2.1 bt458.2.2.1 bt458.2.2.2 bt453.1 bt453.2.1 bt453.2.2.1 bt453.2.2.2).bind fun bt478 => (if (bt468.1 == bt478.1 && (bt468.2.1 == bt478.2.1 && (bt468.2.2.1 == bt478.2.2.1 && (bt468.2.2.2 == bt478.2.2.2)))) = true then ((vec_Meet.f bt458.1 bt458.2.1 bt458.2.2.1 bt458.2.2.2 bt453.1 bt453.2.1 bt453.2.2.1 bt453.2.2.2).bind fun bt482 => (if (bt473.1 == bt482.1 && (bt473.2.1 == bt482.2.1 && (bt473.2.2.1 == bt482.2.2.1 && (bt473.2.2.2 == bt482.2.2.2)))) = true then ((vec_Join.f bt468.1 bt468.2.1 bt468.2.2.1 bt468.2.2.2 bt463.1 bt463.2.1 bt463.2.2.1 bt463.2.2.2).bind fun bt486 => ((vec_Join.f bt458.1 bt458.2.1 bt458.2.2.1 bt458.2.2.2 bt463.1 bt463.2.1 bt463.2.2.1 bt463.2.2.2).bind fun bt490 => ((vec_Join.f bt453.1 bt453.2.1 bt453.2.2.1 bt453.2.2.2 bt490.1 bt490.2.1 bt490.2.2.1 bt490.2.2.2).bind fun bt494 => (if (bt486.1 == bt494.1 && (bt486.2.1 == bt494.2.1 && (bt486.2.2.1 == bt494.2.2.1 && (bt486.2.2.2 == bt494.2.2.2)))) = true then ((vec_Meet.f bt473.1 bt473.2.1 bt473.2.2.1 bt473.2.2.2 bt463.1 bt463.2.1 bt463.2.2.1 bt463.2.2.2).bind fun bt498 => ((vec_Meet.f bt458.1 bt458.2.1 bt458.2.2.1 bt458.2.2.2 bt463.1 bt463.2.1 bt463.2.2.1 bt463.2.2.2).bind fun bt502 => ((vec_Meet.f bt453.1 bt453.2.1 bt453.2.2.1 bt453.2.2.2 bt502.1 bt502.2.1 bt502.2.2.1 bt502.2.2.2).bind fun bt506 => (if (bt498.1 == bt506.1 && (bt498.2.1 == bt506.2.1 && (bt498.2.2.1 == bt506.2.2.1 && (bt498.2.2.2 == bt506.2.2.2)))) = true then ((vec_Join.f bt468.1 bt468.2.1 bt468.2.2.1 bt468.2.2.2 bt453.1 bt453.2.1 bt453.2.2.1 bt453.2.2.2).bind fun bt510 => (if (bt510.1 == bt468.1 && (bt510.2.1 == bt468.2.1 && (bt510.2.2.1 == bt468.2.2.1 && (bt510.2.2.2 == bt468.2.2.2)))) = true then ((vec_Meet.f bt473.1 bt473.2.1 bt473.2.2.1 bt473.2.2.2 bt453.1 bt453.2.1 bt453.2.2.1 bt453.2.2.2).bind fun bt514 => (if (bt514.1 == bt473.1 && (bt514.2.1 == bt473.2.1 && (bt514.2.2.1 == bt473.2.2.1 && (bt514.2.2.2 == bt473.2.2.2)))) = true then ((vec_Leq.f bt453.1 bt453.2.1 bt453.2.2.1 bt453.2.2.2 bt468.1 bt468.2.1 bt468.2.2.1 bt468.2.2.2).bind fun t518 => (if t518 = true then ((vec_Leq.f bt473.1 bt473.2.1 bt473.2.2.1 bt473.2.2.2 bt458.1 bt458.2.1 bt458.2.2.1 bt458.2.2.2).bind fun t519 => (if t519 = true then ((vec_Join.f bt453.1 bt453.2.1 bt453.2.2.1 bt453.2.2.2 bt473.1 bt473.2.1 bt473.2.2.1 bt473.2.2.2).bind fun bt520 => (if (bt520.1 == bt453.1 && (bt520.2.1 == bt453.2.1 && (bt520.2.2.1 == bt453.2.2.1 && (bt520.2.2.2 == bt453.2.2.2)))) = true then ((vec_Meet.f bt453.1 bt453.2.1 bt453.2.2.1 bt453.2.2.2 bt468.1 bt468.2.1 bt468.2.2.1 bt468.2.2.2).bind fun bt524 => (if (bt524.1 == bt453.1 && (bt524.2.1 == bt453.2.1 && (bt524.2.2.1 == bt453.2.2.1 && (bt524.2.2.2 == bt453.2.2.2)))) = true then ((vec_Right.f bt453.1 bt453.2.1 bt453.2.2.1 bt453.2.2.2).bind fun t528 => (if t528 = true then ((vec_Right.f bt458.1 bt458.2.1 bt458.2.2.1 bt458.2.2.2).bind fun t529 => (if t529 = true then ((vec_Right.f bt468.1 bt468.2.1 bt468.2.2.1 bt468.2.2.2).bind fun t530 => (if t530 = true then (some true) else (none))) else (none))) else (none))) else (none))) else (none))) else (none))) else (none))) else (none))) else (none))) else (none))))) else (none))))) else (none))) else (none)))))))) else (none)) = some r := H
  have A4 := Zq0 A40
  clear A40
  by_cases c5 : t452 = true
  rotate_left
  · replace c5 := Bool.eq_false_iff.mpr c5
    subst c5
    have H1 : (none) = some r := by rw [if_neg (show ¬ (false = true) by decide)] at H; exact H
    clear H
    have H := H1
    clear H1
    exact absurd H (by simp)
  subst c5
  have H1 : ((tenementlaw06_Vector_vector.f k a0_0 a0_1 a0_2 a0_3 a0_4).bind fun bt453 => ((tenementlaw06_Vector_vector.f k a1_0 a1_1 a1_2 a1_3 a1_4).bind fun bt458 => ((tenementlaw06_Vector_vector.f k a2_0 a2_1 a2_2 a2_3 a2_4).bind fun bt463 => ((vec_Join.f bt453.1 bt453.2.1 bt453.2.2.1 bt453.2.2.2 bt458.1 bt458.2.1 bt458.2.2.1 bt458.2.2.2).bind fun bt468 => ((vec_Meet.f bt453.1 bt453.2.1 bt453.2.2.1 bt453.2.2.2 bt458.1 bt458.2.1 bt458.2.2.1 bt458.2.2.2).bind fun bt473 => ((vec_Join.f bt458.1 bt458.2.1 bt458.2.2.1 bt458.2.2.2 bt453.1 bt453.2.1 bt453.2.2.1 bt453.2.2.2).bind fun bt478 => (if (bt468.1 == bt478.1 && (bt468.2.1 == bt478.2.1 && (bt468.2.2.1 == bt478.2.2.1 && (bt468.2.2.2 == bt478.2.2.2)))) = true then ((vec_Meet.f bt458.1 bt458.2.1 bt458.2.2.1 bt458.2.2.2 bt453.1 bt453.2.1 bt453.2.2.1 bt453.2.2.2).bind fun bt482 => (if (bt473.1 == bt482.1 && (bt473.2.1 == bt482.2.1 && (bt473.2.2.1 == bt482.2.2.1 && (bt473.2.2.2 == bt482.2.2.2)))) = true then ((vec_Join.f bt468.1 bt468.2.1 bt468.2.2.1 bt468.2.2.2 bt463.1 bt463.2.1 bt463.2.2.1 bt463.2.2.2).bind fun bt486 => ((vec_Join.f bt458.1 bt458.2.1 bt458.2.2.1 bt458.2.2.2 bt463.1 bt463.2.1 bt463.2.2.1 bt463.2.2.2).bind fun bt490 => ((vec_Join.f bt453.1 bt453.2.1 bt453.2.2.1 bt453.2.2.2 bt490.1 bt490.2.1 bt490.2.2.1 bt490.2.2.2).bind fun bt494 => (if (bt486.1 == bt494.1 && (bt486.2.1 == bt494.2.1 && (bt486.2.2.1 == bt494.2.2.1 && (bt486.2.2.2 == bt494.2.2.2)))) = true then ((vec_Meet.f bt473.1 bt473.2.1 bt473.2.2.1 bt473.2.2.2 bt463.1 bt463.2.1 bt463.2.2.1 bt463.2.2.2).bind fun bt498 => ((vec_Meet.f bt458.1 bt458.2.1 bt458.2.2.1 bt458.2.2.2 bt463.1 bt463.2.1 bt463.2.2.1 bt463.2.2.2).bind fun bt502 => ((vec_Meet.f bt453.1 bt453.2.1 bt453.2.2.1 bt453.2.2.2 bt502.1 bt502.2.1 bt502.2.2.1 bt502.2.2.2).bind fun bt506 => (if (bt498.1 == bt506.1 && (bt498.2.1 == bt506.2.1 && (bt498.2.2.1 == bt506.2.2.1 && (bt498.2.2.2 == bt506.2.2.2)))) = true then ((vec_Join.f bt468.1 bt468.2.1 bt468.2.2.1 bt468.2.2.2 bt453.1 bt453.2.1 bt453.2.2.1 bt453.2.2.2).bind fun bt510 => (if (bt510.1 == bt468.1 && (bt510.2.1 == bt468.2.1 && (bt510.2.2.1 == bt468.2.2.1 && (bt510.2.2.2 == bt468.2.2.2)))) = true then ((vec_Meet.f bt473.1 bt473.2.1 bt473.2.2.1 bt473.2.2.2 bt453.1 bt453.2.1 bt453.2.2.1 bt453.2.2.2).bind fun bt514 => (if (bt514.1 == bt473.1 && (bt514.2.1 == bt473.2.1 && (bt514.2.2.1 == bt473.2.2.1 && (bt514.2.2.2 == bt473.2.2.2)))) = true then ((vec_Leq.f bt453.1 bt453.2.1 bt453.2.2.1 bt453.2.2.2 bt468.1 bt468.2.1 bt468.2.2.1 bt468.2.2.2).bind fun t518 => (if t518 = true then ((vec_Leq.f bt473.1 bt473.2.1 bt473.2.2.1 bt473.2.2.2 bt458.1 bt458.2.1 bt458.2.2.1 bt458.2.2.2).bind fun t519 => (if t519 = true then ((vec_Join.f bt453.1 bt453.2.1 bt453.2.2.1 bt453.2.2.2 bt473.1 bt473.2.1 bt473.2.2.1 bt473.2.2.2).bind fun bt520 => (if (bt520.1 == bt453.1 && (bt520.2.1 == bt453.2.1 && (bt520.2.2.1 == bt453.2.2.1 && (bt520.2.2.2 == bt453.2.2.2)))) = true then ((vec_Meet.f bt453.1 bt453.2.1 bt453.2.2.1 bt453.2.2.2 bt468.1 bt468.2.1 bt468.2.2.1 bt468.2.2.2).bind fun bt524 => (if (bt524.1 == bt453.1 && (bt524.2.1 == bt453.2.1 && (bt524.2.2.1 == bt453.2.2.1 && (bt524.2.2.2 == bt453.2.2.2)))) = true then ((vec_Right.f bt453.1 bt453.2.1 bt453.2.2.1 bt453.2.2.2).bind fun t528 => (if t528 = true then ((vec_Right.f bt458.1 bt458.2.1 bt458.2.2.1 bt458.2.2.2).bind fun t529 => (if t529 = true then ((vec_Right.f bt468.1 bt468.2.1 bt468.2.2.1 bt468.2.2.2).bind fun t530 => (if t530 = true then (some true) else (none))) else (none))) else (none))) else (none))) else (none))) else (none))) else (none))) else (none))) else (none))) else (none))))) else (none))))) else (none))) else (none)))))))) = some r := by rw [if_pos rfl] at H; exact H
  clear H
  have H := H1
  clear H1
  replace H := Option.bind_eq_some_iff.mp H
  obtain ⟨⟨t453, t454, t455, t456⟩, A60, H⟩ := H
  replace H : ((tenementlaw06_Vector_vector.f k a1_0 a1_1 a1_2 a1_3 a1_4).bind fun bt458 => ((tenementlaw06_Vector_vector.f k a2_0 a2_1 a2_2 a2_3 a2_4).bind fun bt463 => ((vec_Join.f t453 t454 t455 t456 bt458.1 bt458.2.1 bt458.2.2.1 bt458.2.2.2).bind fun bt468 => ((vec_Meet.f t453 t454 t455 t456 bt458.1 bt458.2.1 bt458.2.2.1 bt458.2.2.2).bind fun bt473 => ((vec_Join.f bt458.1 bt458.2.1 bt458.2.2.1 bt458.2.2.2 t453 t454 t455 t456).bind fun bt478 => (if (bt468.1 == bt478.1 && (bt468.2.1 == bt478.2.1 && (bt468.2.2.1 == bt478.2.2.1 && (bt468.2.2.2 == bt478.2.2.2)))) = true then ((vec_Meet.f bt458.1 bt458.2.1 bt458.2.2.1 bt458.2.2.2 t453 t454 t455 t456).bind fun bt482 => (if (bt473.1 == bt482.1 && (bt473.2.1 == bt482.2.1 && (bt473.2.2.1 == bt482.2.2.1 && (bt473.2.2.2 == bt482.2.2.2)))) = true then ((vec_Join.f bt468.1 bt468.2.1 bt468.2.2.1 bt468.2.2.2 bt463.1 bt463.2.1 bt463.2.2.1 bt463.2.2.2).bind fun bt486 => ((vec_Join.f bt458.1 bt458.2.1 bt458.2.2.1 bt458.2.2.2 bt463.1 bt463.2.1 bt463.2.2.1 bt463.2.2.2).bind fun bt490 => ((vec_Join.f t453 t454 t455 t456 bt490.1 bt490.2.1 bt490.2.2.1 bt490.2.2.2).bind fun bt494 => (if (bt486.1 == bt494.1 && (bt486.2.1 == bt494.2.1 && (bt486.2.2.1 == bt494.2.2.1 && (bt486.2.2.2 == bt494.2.2.2)))) = true then ((vec_Meet.f bt473.1 bt473.2.1 bt473.2.2.1 bt473.2.2.2 bt463.1 bt463.2.1 bt463.2.2.1 bt463.2.2.2).bind fun bt498 => ((vec_Meet.f bt458.1 bt458.2.1 bt458.2.2.1 bt458.2.2.2 bt463.1 bt463.2.1 bt463.2.2.1 bt463.2.2.2).bind fun bt502 => ((vec_Meet.f t453 t454 t455 t456 bt502.1 bt502.2.1 bt502.2.2.1 bt502.2.2.2).bind fun bt506 => (if (bt498.1 == bt506.1 && (bt498.2.1 == bt506.2.1 && (bt498.2.2.1 == bt506.2.2.1 && (bt498.2.2.2 == bt506.2.2.2)))) = true then ((vec_Join.f bt468.1 bt468.2.1 bt468.2.2.1 bt468.2.2.2 t453 t454 t455 t456).bind fun bt510 => (if (bt510.1 == bt468.1 && (bt510.2.1 == bt468.2.1 && (bt510.2.2.1 == bt468.2.2.1 && (bt510.2.2.2 == bt468.2.2.2)))) = true then ((vec_Meet.f bt473.1 bt473.2.1 bt473.2.2.1 bt473.2.2.2 t453 t454 t455 t456).bind fun bt514 => (if (bt514.1 == bt473.1 && (bt514.2.1 == bt473.2.1 && (bt514.2.2.1 == bt473.2.2.1 && (bt514.2.2.2 == bt473.2.2.2)))) = true then ((vec_Leq.f t453 t454 t455 t456 bt468.1 bt468.2.1 bt468.2.2.1 bt468.2.2.2).bind fun t518 => (if t518 = true then ((vec_Leq.f bt473.1 bt473.2.1 bt473.2.2.1 bt473.2.2.2 bt458.1 bt458.2.1 bt458.2.2.1 bt458.2.2.2).bind fun t519 => (if t519 = true then ((vec_Join.f t453 t454 t455 t456 bt473.1 bt473.2.1 bt473.2.2.1 bt473.2.2.2).bind fun bt520 => (if (bt520.1 == t453 && (bt520.2.1 == t454 && (bt520.2.2.1 == t455 && (bt520.2.2.2 == t456)))) = true then ((vec_Meet.f t453 t454 t455 t456 bt468.1 bt468.2.1 bt468.2.2.1 bt468.2.2.2).bind fun bt524 => (if (bt524.1 == t453 && (bt524.2.1 == t454 && (bt524.2.2.1 == t455 && (bt524.2.2.2 == t456)))) = true then ((vec_Right.f t453 t454 t455 t456).bind fun t528 => (if t528 = true then ((vec_Right.f bt458.1 bt458.2.1 bt458.2.2.1 bt458.2.2.2).bind fun t529 => (if t529 = true then ((vec_Right.f bt468.1 bt468.2.1 bt468.2.2.1 bt468.2.2.2).bind fun t530 => (if t530 = true then (some true) else (none))) else (none))) else (none))) else (none))) else (none))) else (none))) else (none))) else (none))) else (none))) else (none))))) else (none))))) else (none))) else (none))))))) = some r := H
  have A6 := Zq0 A60
  clear A60
  replace H := Option.bind_eq_some_iff.mp H
  obtain ⟨⟨t458, t459, t460, t461⟩, A70, H⟩ := H
  replace H : ((tenementlaw06_Vector_vector.f k a2_0 a2_1 a2_2 a2_3 a2_4).bind fun bt463 => ((vec_Join.f t453 t454 t455 t456 t458 t459 t460 t461).bind fun bt468 => ((vec_Meet.f t453 t454 t455 t456 t458 t459 t460 t461).bind fun bt473 => ((vec_Join.f t458 t459 t460 t461 t453 t454 t455 t456).bind fun bt478 => (if (bt468.1 == bt478.1 && (bt468.2.1 == bt478.2.1 && (bt468.2.2.1 == bt478.2.2.1 && (bt468.2.2.2 == bt478.2.2.2)))) = true then ((vec_Meet.f t458 t459 t460 t461 t453 t454 t455 t456).bind fun bt482 => (if (bt473.1 == bt482.1 && (bt473.2.1 == bt482.2.1 && (bt473.2.2.1 == bt482.2.2.1 && (bt473.2.2.2 == bt482.2.2.2)))) = true then ((vec_Join.f bt468.1 bt468.2.1 bt468.2.2.1 bt468.2.2.2 bt463.1 bt463.2.1 bt463.2.2.1 bt463.2.2.2).bind fun bt486 => ((vec_Join.f t458 t459 t460 t461 bt463.1 bt463.2.1 bt463.2.2.1 bt463.2.2.2).bind fun bt490 => ((vec_Join.f t453 t454 t455 t456 bt490.1 bt490.2.1 bt490.2.2.1 bt490.2.2.2).bind fun bt494 => (if (bt486.1 == bt494.1 && (bt486.2.1 == bt494.2.1 && (bt486.2.2.1 == bt494.2.2.1 && (bt486.2.2.2 == bt494.2.2.2)))) = true then ((vec_Meet.f bt473.1 bt473.2.1 bt473.2.2.1 bt473.2.2.2 bt463.1 bt463.2.1 bt463.2.2.1 bt463.2.2.2).bind fun bt498 => ((vec_Meet.f t458 t459 t460 t461 bt463.1 bt463.2.1 bt463.2.2.1 bt463.2.2.2).bind fun bt502 => ((vec_Meet.f t453 t454 t455 t456 bt502.1 bt502.2.1 bt502.2.2.1 bt502.2.2.2).bind fun bt506 => (if (bt498.1 == bt506.1 && (bt498.2.1 == bt506.2.1 && (bt498.2.2.1 == bt506.2.2.1 && (bt498.2.2.2 == bt506.2.2.2)))) = true then ((vec_Join.f bt468.1 bt468.2.1 bt468.2.2.1 bt468.2.2.2 t453 t454 t455 t456).bind fun bt510 => (if (bt510.1 == bt468.1 && (bt510.2.1 == bt468.2.1 && (bt510.2.2.1 == bt468.2.2.1 && (bt510.2.2.2 == bt468.2.2.2)))) = true then ((vec_Meet.f bt473.1 bt473.2.1 bt473.2.2.1 bt473.2.2.2 t453 t454 t455 t456).bind fun bt514 => (if (bt514.1 == bt473.1 && (bt514.2.1 == bt473.2.1 && (bt514.2.2.1 == bt473.2.2.1 && (bt514.2.2.2 == bt473.2.2.2)))) = true then ((vec_Leq.f t453 t454 t455 t456 bt468.1 bt468.2.1 bt468.2.2.1 bt468.2.2.2).bind fun t518 => (if t518 = true then ((vec_Leq.f bt473.1 bt473.2.1 bt473.2.2.1 bt473.2.2.2 t458 t459 t460 t461).bind fun t519 => (if t519 = true then ((vec_Join.f t453 t454 t455 t456 bt473.1 bt473.2.1 bt473.2.2.1 bt473.2.2.2).bind fun bt520 => (if (bt520.1 == t453 && (bt520.2.1 == t454 && (bt520.2.2.1 == t455 && (bt520.2.2.2 == t456)))) = true then ((vec_Meet.f t453 t454 t455 t456 bt468.1 bt468.2.1 bt468.2.2.1 bt468.2.2.2).bind fun bt524 => (if (bt524.1 == t453 && (bt524.2.1 == t454 && (bt524.2.2.1 == t455 && (bt524.2.2.2 == t456)))) = true then ((vec_Right.f t453 t454 t455 t456).bind fun t528 => (if t528 = true then ((vec_Right.f t458 t459 t460 t461).bind fun t529 => (if t529 = true then ((vec_Right.f bt468.1 bt468.2.1 bt468.2.2.1 bt468.2.2.2).bind fun t530 => (if t530 = true then (some true) else (none))) else (none))) else (none))) else (none))) else (none))) else (none))) else (none))) else (none))) else (none))) else (none))))) else (none))))) else (none))) else (none)))))) = some r := H
  have A7 := Zq0 A70
  clear A70
  replace H := Option.bind_eq_some_iff.mp H
  obtain ⟨⟨t463, t464, t465, t466⟩, A80, H⟩ := H
  replace H : ((vec_Join.f t453 t454 t455 t456 t458 t459 t460 t461).bind fun bt468 => ((vec_Meet.f t453 t454 t455 t456 t458 t459 t460 t461).bind fun bt473 => ((vec_Join.f t458 t459 t460 t461 t453 t454 t455 t456).bind fun bt478 => (if (bt468.1 == bt478.1 && (bt468.2.1 == bt478.2.1 && (bt468.2.2.1 == bt478.2.2.1 && (bt468.2.2.2 == bt478.2.2.2)))) = true then ((vec_Meet.f t458 t459 t460 t461 t453 t454 t455 t456).bind fun bt482 => (if (bt473.1 == bt482.1 && (bt473.2.1 == bt482.2.1 && (bt473.2.2.1 == bt482.2.2.1 && (bt473.2.2.2 == bt482.2.2.2)))) = true then ((vec_Join.f bt468.1 bt468.2.1 bt468.2.2.1 bt468.2.2.2 t463 t464 t465 t466).bind fun bt486 => ((vec_Join.f t458 t459 t460 t461 t463 t464 t465 t466).bind fun bt490 => ((vec_Join.f t453 t454 t455 t456 bt490.1 bt490.2.1 bt490.2.2.1 bt490.2.2.2).bind fun bt494 => (if (bt486.1 == bt494.1 && (bt486.2.1 == bt494.2.1 && (bt486.2.2.1 == bt494.2.2.1 && (bt486.2.2.2 == bt494.2.2.2)))) = true then ((vec_Meet.f bt473.1 bt473.2.1 bt473.2.2.1 bt473.2.2.2 t463 t464 t465 t466).bind fun bt498 => ((vec_Meet.f t458 t459 t460 t461 t463 t464 t465 t466).bind fun bt502 => ((vec_Meet.f t453 t454 t455 t456 bt502.1 bt502.2.1 bt502.2.2.1 bt502.2.2.2).bind fun bt506 => (if (bt498.1 == bt506.1 && (bt498.2.1 == bt506.2.1 && (bt498.2.2.1 == bt506.2.2.1 && (bt498.2.2.2 == bt506.2.2.2)))) = true then ((vec_Join.f bt468.1 bt468.2.1 bt468.2.2.1 bt468.2.2.2 t453 t454 t455 t456).bind fun bt510 => (if (bt510.1 == bt468.1 && (bt510.2.1 == bt468.2.1 && (bt510.2.2.1 == bt468.2.2.1 && (bt510.2.2.2 == bt468.2.2.2)))) = true then ((vec_Meet.f bt473.1 bt473.2.1 bt473.2.2.1 bt473.2.2.2 t453 t454 t455 t456).bind fun bt514 => (if (bt514.1 == bt473.1 && (bt514.2.1 == bt473.2.1 && (bt514.2.2.1 == bt473.2.2.1 && (bt514.2.2.2 == bt473.2.2.2)))) = true then ((vec_Leq.f t453 t454 t455 t456 bt468.1 bt468.2.1 bt468.2.2.1 bt468.2.2.2).bind fun t518 => (if t518 = true then ((vec_Leq.f bt473.1 bt473.2.1 bt473.2.2.1 bt473.2.2.2 t458 t459 t460 t461).bind fun t519 => (if t519 = true then ((vec_Join.f t453 t454 t455 t456 bt473.1 bt473.2.1 bt473.2.2.1 bt473.2.2.2).bind fun bt520 => (if (bt520.1 == t453 && (bt520.2.1 == t454 && (bt520.2.2.1 == t455 && (bt520.2.2.2 == t456)))) = true then ((vec_Meet.f t453 t454 t455 t456 bt468.1 bt468.2.1 bt468.2.2.1 bt468.2.2.2).bind fun bt524 => (if (bt524.1 == t453 && (bt524.2.1 == t454 && (bt524.2.2.1 == t455 && (bt524.2.2.2 == t456)))) = true then ((vec_Right.f t453 t454 t455 t456).bind fun t528 => (if t528 = true then ((vec_Right.f t458 t459 t460 t461).bind fun t529 => (if t529 = true then ((vec_Right.f bt468.1 bt468.2.1 bt468.2.2.1 bt468.2.2.2).bind fun t530 => (if t530 = true then (some true) else (none))) else (none))) else (none))) else (none))) else (none))) else (none))) else (none))) else (none))) else (none))) else (none))))) else (none))))) else (none))) else (none))))) = some r := H
  have A8 := Zq0 A80
  clear A80
  replace H := Option.bind_eq_some_iff.mp H
  obtain ⟨⟨t468, t469, t470, t471⟩, A90, H⟩ := H
  replace H : ((vec_Meet.f t453 t454 t455 t456 t458 t459 t460 t461).bind fun bt473 => ((vec_Join.f t458 t459 t460 t461 t453 t454 t455 t456).bind fun bt478 => (if (t468 == bt478.1 && (t469 == bt478.2.1 && (t470 == bt478.2.2.1 && (t471 == bt478.2.2.2)))) = true then ((vec_Meet.f t458 t459 t460 t461 t453 t454 t455 t456).bind fun bt482 => (if (bt473.1 == bt482.1 && (bt473.2.1 == bt482.2.1 && (bt473.2.2.1 == bt482.2.2.1 && (bt473.2.2.2 == bt482.2.2.2)))) = true then ((vec_Join.f t468 t469 t470 t471 t463 t464 t465 t466).bind fun bt486 => ((vec_Join.f t458 t459 t460 t461 t463 t464 t465 t466).bind fun bt490 => ((vec_Join.f t453 t454 t455 t456 bt490.1 bt490.2.1 bt490.2.2.1 bt490.2.2.2).bind fun bt494 => (if (bt486.1 == bt494.1 && (bt486.2.1 == bt494.2.1 && (bt486.2.2.1 == bt494.2.2.1 && (bt486.2.2.2 == bt494.2.2.2)))) = true then ((vec_Meet.f bt473.1 bt473.2.1 bt473.2.2.1 bt473.2.2.2 t463 t464 t465 t466).bind fun bt498 => ((vec_Meet.f t458 t459 t460 t461 t463 t464 t465 t466).bind fun bt502 => ((vec_Meet.f t453 t454 t455 t456 bt502.1 bt502.2.1 bt502.2.2.1 bt502.2.2.2).bind fun bt506 => (if (bt498.1 == bt506.1 && (bt498.2.1 == bt506.2.1 && (bt498.2.2.1 == bt506.2.2.1 && (bt498.2.2.2 == bt506.2.2.2)))) = true then ((vec_Join.f t468 t469 t470 t471 t453 t454 t455 t456).bind fun bt510 => (if (bt510.1 == t468 && (bt510.2.1 == t469 && (bt510.2.2.1 == t470 && (bt510.2.2.2 == t471)))) = true then ((vec_Meet.f bt473.1 bt473.2.1 bt473.2.2.1 bt473.2.2.2 t453 t454 t455 t456).bind fun bt514 => (if (bt514.1 == bt473.1 && (bt514.2.1 == bt473.2.1 && (bt514.2.2.1 == bt473.2.2.1 && (bt514.2.2.2 == bt473.2.2.2)))) = true then ((vec_Leq.f t453 t454 t455 t456 t468 t469 t470 t471).bind fun t518 => (if t518 = true then ((vec_Leq.f bt473.1 bt473.2.1 bt473.2.2.1 bt473.2.2.2 t458 t459 t460 t461).bind fun t519 => (if t519 = true then ((vec_Join.f t453 t454 t455 t456 bt473.1 bt473.2.1 bt473.2.2.1 bt473.2.2.2).bind fun bt520 => (if (bt520.1 == t453 && (bt520.2.1 == t454 && (bt520.2.2.1 == t455 && (bt520.2.2.2 == t456)))) = true then ((vec_Meet.f t453 t454 t455 t456 t468 t469 t470 t471).bind fun bt524 => (if (bt524.1 == t453 && (bt524.2.1 == t454 && (bt524.2.2.1 == t455 && (bt524.2.2.2 == t456)))) = true then ((vec_Right.f t453 t454 t455 t456).bind fun t528 => (if t528 = true then ((vec_Right.f t458 t459 t460 t461).bind fun t529 => (if t529 = true then ((vec_Right.f t468 t469 t470 t471).bind fun t530 => (if t530 = true then (some true) else (none))) else (none))) else (none))) else (none))) else (none))) else (none))) else (none))) else (none))) else (none))) else (none))))) else (none))))) else (none))) else (none)))) = some r := H
  have A9 := Zq0 A90
  clear A90
  replace H := Option.bind_eq_some_iff.mp H
  obtain ⟨⟨t473, t474, t475, t476⟩, A100, H⟩ := H
  replace H : ((vec_Join.f t458 t459 t460 t461 t453 t454 t455 t456).bind fun bt478 => (if (t468 == bt478.1 && (t469 == bt478.2.1 && (t470 == bt478.2.2.1 && (t471 == bt478.2.2.2)))) = true then ((vec_Meet.f t458 t459 t460 t461 t453 t454 t455 t456).bind fun bt482 => (if (t473 == bt482.1 && (t474 == bt482.2.1 && (t475 == bt482.2.2.1 && (t476 == bt482.2.2.2)))) = true then ((vec_Join.f t468 t469 t470 t471 t463 t464 t465 t466).bind fun bt486 => ((vec_Join.f t458 t459 t460 t461 t463 t464 t465 t466).bind fun bt490 => ((vec_Join.f t453 t454 t455 t456 bt490.1 bt490.2.1 bt490.2.2.1 bt490.2.2.2).bind fun bt494 => (if (bt486.1 == bt494.1 && (bt486.2.1 == bt494.2.1 && (bt486.2.2.1 == bt494.2.2.1 && (bt486.2.2.2 == bt494.2.2.2)))) = true then ((vec_Meet.f t473 t474 t475 t476 t463 t464 t465 t466).bind fun bt498 => ((vec_Meet.f t458 t459 t460 t461 t463 t464 t465 t466).bind fun bt502 => ((vec_Meet.f t453 t454 t455 t456 bt502.1 bt502.2.1 bt502.2.2.1 bt502.2.2.2).bind fun bt506 => (if (bt498.1 == bt506.1 && (bt498.2.1 == bt506.2.1 && (bt498.2.2.1 == bt506.2.2.1 && (bt498.2.2.2 == bt506.2.2.2)))) = true then ((vec_Join.f t468 t469 t470 t471 t453 t454 t455 t456).bind fun bt510 => (if (bt510.1 == t468 && (bt510.2.1 == t469 && (bt510.2.2.1 == t470 && (bt510.2.2.2 == t471)))) = true then ((vec_Meet.f t473 t474 t475 t476 t453 t454 t455 t456).bind fun bt514 => (if (bt514.1 == t473 && (bt514.2.1 == t474 && (bt514.2.2.1 == t475 && (bt514.2.2.2 == t476)))) = true then ((vec_Leq.f t453 t454 t455 t456 t468 t469 t470 t471).bind fun t518 => (if t518 = true then ((vec_Leq.f t473 t474 t475 t476 t458 t459 t460 t461).bind fun t519 => (if t519 = true then ((vec_Join.f t453 t454 t455 t456 t473 t474 t475 t476).bind fun bt520 => (if (bt520.1 == t453 && (bt520.2.1 == t454 && (bt520.2.2.1 == t455 && (bt520.2.2.2 == t456)))) = true then ((vec_Meet.f t453 t454 t455 t456 t468 t469 t470 t471).bind fun bt524 => (if (bt524.1 == t453 && (bt524.2.1 == t454 && (bt524.2.2.1 == t455 && (bt524.2.2.2 == t456)))) = true then ((vec_Right.f t453 t454 t455 t456).bind fun t528 => (if t528 = true then ((vec_Right.f t458 t459 t460 t461).bind fun t529 => (if t529 = true then ((vec_Right.f t468 t469 t470 t471).bind fun t530 => (if t530 = true then (some true) else (none))) else (none))) else (none))) else (none))) else (none))) else (none))) else (none))) else (none))) else (none))) else (none))))) else (none))))) else (none))) else (none))) = some r := H
  have A10 := Zq0 A100
  clear A100
  replace H := Option.bind_eq_some_iff.mp H
  obtain ⟨⟨t478, t479, t480, t481⟩, A110, H⟩ := H
  replace H : (if (t468 == t478 && (t469 == t479 && (t470 == t480 && (t471 == t481)))) = true then ((vec_Meet.f t458 t459 t460 t461 t453 t454 t455 t456).bind fun bt482 => (if (t473 == bt482.1 && (t474 == bt482.2.1 && (t475 == bt482.2.2.1 && (t476 == bt482.2.2.2)))) = true then ((vec_Join.f t468 t469 t470 t471 t463 t464 t465 t466).bind fun bt486 => ((vec_Join.f t458 t459 t460 t461 t463 t464 t465 t466).bind fun bt490 => ((vec_Join.f t453 t454 t455 t456 bt490.1 bt490.2.1 bt490.2.2.1 bt490.2.2.2).bind fun bt494 => (if (bt486.1 == bt494.1 && (bt486.2.1 == bt494.2.1 && (bt486.2.2.1 == bt494.2.2.1 && (bt486.2.2.2 == bt494.2.2.2)))) = true then ((vec_Meet.f t473 t474 t475 t476 t463 t464 t465 t466).bind fun bt498 => ((vec_Meet.f t458 t459 t460 t461 t463 t464 t465 t466).bind fun bt502 => ((vec_Meet.f t453 t454 t455 t456 bt502.1 bt502.2.1 bt502.2.2.1 bt502.2.2.2).bind fun bt506 => (if (bt498.1 == bt506.1 && (bt498.2.1 == bt506.2.1 && (bt498.2.2.1 == bt506.2.2.1 && (bt498.2.2.2 == bt506.2.2.2)))) = true then ((vec_Join.f t468 t469 t470 t471 t453 t454 t455 t456).bind fun bt510 => (if (bt510.1 == t468 && (bt510.2.1 == t469 && (bt510.2.2.1 == t470 && (bt510.2.2.2 == t471)))) = true then ((vec_Meet.f t473 t474 t475 t476 t453 t454 t455 t456).bind fun bt514 => (if (bt514.1 == t473 && (bt514.2.1 == t474 && (bt514.2.2.1 == t475 && (bt514.2.2.2 == t476)))) = true then ((vec_Leq.f t453 t454 t455 t456 t468 t469 t470 t471).bind fun t518 => (if t518 = true then ((vec_Leq.f t473 t474 t475 t476 t458 t459 t460 t461).bind fun t519 => (if t519 = true then ((vec_Join.f t453 t454 t455 t456 t473 t474 t475 t476).bind fun bt520 => (if (bt520.1 == t453 && (bt520.2.1 == t454 && (bt520.2.2.1 == t455 && (bt520.2.2.2 == t456)))) = true then ((vec_Meet.f t453 t454 t455 t456 t468 t469 t470 t471).bind fun bt524 => (if (bt524.1 == t453 && (bt524.2.1 == t454 && (bt524.2.2.1 == t455 && (bt524.2.2.2 == t456)))) = true then ((vec_Right.f t453 t454 t455 t456).bind fun t528 => (if t528 = true then ((vec_Right.f t458 t459 t460 t461).bind fun t529 => (if t529 = true then ((vec_Right.f t468 t469 t470 t471).bind fun t530 => (if t530 = true then (some true) else (none))) else (none))) else (none))) else (none))) else (none))) else (none))) else (none))) else (none))) else (none))) else (none))))) else (none))))) else (none))) else (none)) = some r := H
  have A11 := Zq0 A110
  clear A110
  by_cases c12 : (t468 == t478 && (t469 == t479 && (t470 == t480 && (t471 == t481)))) = true
  rotate_left
  · rw [if_neg c12] at H
    exact absurd H (by simp)
  rw [if_pos c12] at H
  have c12b0 : (t468 == t478 && (t469 == t479 && (t470 == t480 && (t471 == t481)))) = true := c12
  (try (have c12b1 : decide (t468 = t478 && (t469 == t479 && (t470 == t480 && (t471 == t481)))) = true := by simpa using c12))
  (try (have c12b2 : (t468 == t478 && (t469 == t479 && (t470 == t480 && (t471 == t481)))) = true := by simpa using c12))
  clear c12
  replace H := Option.bind_eq_some_iff.mp H
  obtain ⟨⟨t482, t483, t484, t485⟩, A130, H⟩ := H
  replace H : (if (t473 == t482 && (t474 == t483 && (t475 == t484 && (t476 == t485)))) = true then ((vec_Join.f t468 t469 t470 t471 t463 t464 t465 t466).bind fun bt486 => ((vec_Join.f t458 t459 t460 t461 t463 t464 t465 t466).bind fun bt490 => ((vec_Join.f t453 t454 t455 t456 bt490.1 bt490.2.1 bt490.2.2.1 bt490.2.2.2).bind fun bt494 => (if (bt486.1 == bt494.1 && (bt486.2.1 == bt494.2.1 && (bt486.2.2.1 == bt494.2.2.1 && (bt486.2.2.2 == bt494.2.2.2)))) = true then ((vec_Meet.f t473 t474 t475 t476 t463 t464 t465 t466).bind fun bt498 => ((vec_Meet.f t458 t459 t460 t461 t463 t464 t465 t466).bind fun bt502 => ((vec_Meet.f t453 t454 t455 t456 bt502.1 bt502.2.1 bt502.2.2.1 bt502.2.2.2).bind fun bt506 => (if (bt498.1 == bt506.1 && (bt498.2.1 == bt506.2.1 && (bt498.2.2.1 == bt506.2.2.1 && (bt498.2.2.2 == bt506.2.2.2)))) = true then ((vec_Join.f t468 t469 t470 t471 t453 t454 t455 t456).bind fun bt510 => (if (bt510.1 == t468 && (bt510.2.1 == t469 && (bt510.2.2.1 == t470 && (bt510.2.2.2 == t471)))) = true then ((vec_Meet.f t473 t474 t475 t476 t453 t454 t455 t456).bind fun bt514 => (if (bt514.1 == t473 && (bt514.2.1 == t474 && (bt514.2.2.1 == t475 && (bt514.2.2.2 == t476)))) = true then ((vec_Leq.f t453 t454 t455 t456 t468 t469 t470 t471).bind fun t518 => (if t518 = true then ((vec_Leq.f t473 t474 t475 t476 t458 t459 t460 t461).bind fun t519 => (if t519 = true then ((vec_Join.f t453 t454 t455 t456 t473 t474 t475 t476).bind fun bt520 => (if (bt520.1 == t453 && (bt520.2.1 == t454 && (bt520.2.2.1 == t455 && (bt520.2.2.2 == t456)))) = true then ((vec_Meet.f t453 t454 t455 t456 t468 t469 t470 t471).bind fun bt524 => (if (bt524.1 == t453 && (bt524.2.1 == t454 && (bt524.2.2.1 == t455 && (bt524.2.2.2 == t456)))) = true then ((vec_Right.f t453 t454 t455 t456).bind fun t528 => (if t528 = true then ((vec_Right.f t458 t459 t460 t461).bind fun t529 => (if t529 = true then ((vec_Right.f t468 t469 t470 t471).bind fun t530 => (if t530 = true then (some true) else (none))) else (none))) else (none))) else (none))) else (none))) else (none))) else (none))) else (none))) else (none))) else (none))))) else (none))))) else (none)) = some r := H
  have A13 := Zq0 A130
  clear A130
  by_cases c14 : (t473 == t482 && (t474 == t483 && (t475 == t484 && (t476 == t485)))) = true
  rotate_left
  · rw [if_neg c14] at H
    exact absurd H (by simp)
  rw [if_pos c14] at H
  have c14b0 : (t473 == t482 && (t474 == t483 && (t475 == t484 && (t476 == t485)))) = true := c14
  (try (have c14b1 : decide (t473 = t482 && (t474 == t483 && (t475 == t484 && (t476 == t485)))) = true := by simpa using c14))
  (try (have c14b2 : (t473 == t482 && (t474 == t483 && (t475 == t484 && (t476 == t485)))) = true := by simpa using c14))
  clear c14
  replace H := Option.bind_eq_some_iff.mp H
  obtain ⟨⟨t486, t487, t488, t489⟩, A150, H⟩ := H
  replace H : ((vec_Join.f t458 t459 t460 t461 t463 t464 t465 t466).bind fun bt490 => ((vec_Join.f t453 t454 t455 t456 bt490.1 bt490.2.1 bt490.2.2.1 bt490.2.2.2).bind fun bt494 => (if (t486 == bt494.1 && (t487 == bt494.2.1 && (t488 == bt494.2.2.1 && (t489 == bt494.2.2.2)))) = true then ((vec_Meet.f t473 t474 t475 t476 t463 t464 t465 t466).bind fun bt498 => ((vec_Meet.f t458 t459 t460 t461 t463 t464 t465 t466).bind fun bt502 => ((vec_Meet.f t453 t454 t455 t456 bt502.1 bt502.2.1 bt502.2.2.1 bt502.2.2.2).bind fun bt506 => (if (bt498.1 == bt506.1 && (bt498.2.1 == bt506.2.1 && (bt498.2.2.1 == bt506.2.2.1 && (bt498.2.2.2 == bt506.2.2.2)))) = true then ((vec_Join.f t468 t469 t470 t471 t453 t454 t455 t456).bind fun bt510 => (if (bt510.1 == t468 && (bt510.2.1 == t469 && (bt510.2.2.1 == t470 && (bt510.2.2.2 == t471)))) = true then ((vec_Meet.f t473 t474 t475 t476 t453 t454 t455 t456).bind fun bt514 => (if (bt514.1 == t473 && (bt514.2.1 == t474 && (bt514.2.2.1 == t475 && (bt514.2.2.2 == t476)))) = true then ((vec_Leq.f t453 t454 t455 t456 t468 t469 t470 t471).bind fun t518 => (if t518 = true then ((vec_Leq.f t473 t474 t475 t476 t458 t459 t460 t461).bind fun t519 => (if t519 = true then ((vec_Join.f t453 t454 t455 t456 t473 t474 t475 t476).bind fun bt520 => (if (bt520.1 == t453 && (bt520.2.1 == t454 && (bt520.2.2.1 == t455 && (bt520.2.2.2 == t456)))) = true then ((vec_Meet.f t453 t454 t455 t456 t468 t469 t470 t471).bind fun bt524 => (if (bt524.1 == t453 && (bt524.2.1 == t454 && (bt524.2.2.1 == t455 && (bt524.2.2.2 == t456)))) = true then ((vec_Right.f t453 t454 t455 t456).bind fun t528 => (if t528 = true then ((vec_Right.f t458 t459 t460 t461).bind fun t529 => (if t529 = true then ((vec_Right.f t468 t469 t470 t471).bind fun t530 => (if t530 = true then (some true) else (none))) else (none))) else (none))) else (none))) else (none))) else (none))) else (none))) else (none))) else (none))) else (none))))) else (none)))) = some r := H
  have A15 := Zq0 A150
  clear A150
  replace H := Option.bind_eq_some_iff.mp H
  obtain ⟨⟨t490, t491, t492, t493⟩, A160, H⟩ := H
  replace H : ((vec_Join.f t453 t454 t455 t456 t490 t491 t492 t493).bind fun bt494 => (if (t486 == bt494.1 && (t487 == bt494.2.1 && (t488 == bt494.2.2.1 && (t489 == bt494.2.2.2)))) = true then ((vec_Meet.f t473 t474 t475 t476 t463 t464 t465 t466).bind fun bt498 => ((vec_Meet.f t458 t459 t460 t461 t463 t464 t465 t466).bind fun bt502 => ((vec_Meet.f t453 t454 t455 t456 bt502.1 bt502.2.1 bt502.2.2.1 bt502.2.2.2).bind fun bt506 => (if (bt498.1 == bt506.1 && (bt498.2.1 == bt506.2.1 && (bt498.2.2.1 == bt506.2.2.1 && (bt498.2.2.2 == bt506.2.2.2)))) = true then ((vec_Join.f t468 t469 t470 t471 t453 t454 t455 t456).bind fun bt510 => (if (bt510.1 == t468 && (bt510.2.1 == t469 && (bt510.2.2.1 == t470 && (bt510.2.2.2 == t471)))) = true then ((vec_Meet.f t473 t474 t475 t476 t453 t454 t455 t456).bind fun bt514 => (if (bt514.1 == t473 && (bt514.2.1 == t474 && (bt514.2.2.1 == t475 && (bt514.2.2.2 == t476)))) = true then ((vec_Leq.f t453 t454 t455 t456 t468 t469 t470 t471).bind fun t518 => (if t518 = true then ((vec_Leq.f t473 t474 t475 t476 t458 t459 t460 t461).bind fun t519 => (if t519 = true then ((vec_Join.f t453 t454 t455 t456 t473 t474 t475 t476).bind fun bt520 => (if (bt520.1 == t453 && (bt520.2.1 == t454 && (bt520.2.2.1 == t455 && (bt520.2.2.2 == t456)))) = true then ((vec_Meet.f t453 t454 t455 t456 t468 t469 t470 t471).bind fun bt524 => (if (bt524.1 == t453 && (bt524.2.1 == t454 && (bt524.2.2.1 == t455 && (bt524.2.2.2 == t456)))) = true then ((vec_Right.f t453 t454 t455 t456).bind fun t528 => (if t528 = true then ((vec_Right.f t458 t459 t460 t461).bind fun t529 => (if t529 = true then ((vec_Right.f t468 t469 t470 t471).bind fun t530 => (if t530 = true then (some true) else (none))) else (none))) else (none))) else (none))) else (none))) else (none))) else (none))) else (none))) else (none))) else (none))))) else (none))) = some r := H
  have A16 := Zq0 A160
  clear A160
  replace H := Option.bind_eq_some_iff.mp H
  obtain ⟨⟨t494, t495, t496, t497⟩, A170, H⟩ := H
  replace H : (if (t486 == t494 && (t487 == t495 && (t488 == t496 && (t489 == t497)))) = true then ((vec_Meet.f t473 t474 t475 t476 t463 t464 t465 t466).bind fun bt498 => ((vec_Meet.f t458 t459 t460 t461 t463 t464 t465 t466).bind fun bt502 => ((vec_Meet.f t453 t454 t455 t456 bt502.1 bt502.2.1 bt502.2.2.1 bt502.2.2.2).bind fun bt506 => (if (bt498.1 == bt506.1 && (bt498.2.1 == bt506.2.1 && (bt498.2.2.1 == bt506.2.2.1 && (bt498.2.2.2 == bt506.2.2.2)))) = true then ((vec_Join.f t468 t469 t470 t471 t453 t454 t455 t456).bind fun bt510 => (if (bt510.1 == t468 && (bt510.2.1 == t469 && (bt510.2.2.1 == t470 && (bt510.2.2.2 == t471)))) = true then ((vec_Meet.f t473 t474 t475 t476 t453 t454 t455 t456).bind fun bt514 => (if (bt514.1 == t473 && (bt514.2.1 == t474 && (bt514.2.2.1 == t475 && (bt514.2.2.2 == t476)))) = true then ((vec_Leq.f t453 t454 t455 t456 t468 t469 t470 t471).bind fun t518 => (if t518 = true then ((vec_Leq.f t473 t474 t475 t476 t458 t459 t460 t461).bind fun t519 => (if t519 = true then ((vec_Join.f t453 t454 t455 t456 t473 t474 t475 t476).bind fun bt520 => (if (bt520.1 == t453 && (bt520.2.1 == t454 && (bt520.2.2.1 == t455 && (bt520.2.2.2 == t456)))) = true then ((vec_Meet.f t453 t454 t455 t456 t468 t469 t470 t471).bind fun bt524 => (if (bt524.1 == t453 && (bt524.2.1 == t454 && (bt524.2.2.1 == t455 && (bt524.2.2.2 == t456)))) = true then ((vec_Right.f t453 t454 t455 t456).bind fun t528 => (if t528 = true then ((vec_Right.f t458 t459 t460 t461).bind fun t529 => (if t529 = true then ((vec_Right.f t468 t469 t470 t471).bind fun t530 => (if t530 = true then (some true) else (none))) else (none))) else (none))) else (none))) else (none))) else (none))) else (none))) else (none))) else (none))) else (none))))) else (none)) = some r := H
  have A17 := Zq0 A170
  clear A170
  by_cases c18 : (t486 == t494 && (t487 == t495 && (t488 == t496 && (t489 == t497)))) = true
  rotate_left
  · rw [if_neg c18] at H
    exact absurd H (by simp)
  rw [if_pos c18] at H
  have c18b0 : (t486 == t494 && (t487 == t495 && (t488 == t496 && (t489 == t497)))) = true := c18
  (try (have c18b1 : decide (t486 = t494 && (t487 == t495 && (t488 == t496 && (t489 == t497)))) = true := by simpa using c18))
  (try (have c18b2 : (t486 == t494 && (t487 == t495 && (t488 == t496 && (t489 == t497)))) = true := by simpa using c18))
  clear c18
  replace H := Option.bind_eq_some_iff.mp H
  obtain ⟨⟨t498, t499, t500, t501⟩, A190, H⟩ := H
  replace H : ((vec_Meet.f t458 t459 t460 t461 t463 t464 t465 t466).bind fun bt502 => ((vec_Meet.f t453 t454 t455 t456 bt502.1 bt502.2.1 bt502.2.2.1 bt502.2.2.2).bind fun bt506 => (if (t498 == bt506.1 && (t499 == bt506.2.1 && (t500 == bt506.2.2.1 && (t501 == bt506.2.2.2)))) = true then ((vec_Join.f t468 t469 t470 t471 t453 t454 t455 t456).bind fun bt510 => (if (bt510.1 == t468 && (bt510.2.1 == t469 && (bt510.2.2.1 == t470 && (bt510.2.2.2 == t471)))) = true then ((vec_Meet.f t473 t474 t475 t476 t453 t454 t455 t456).bind fun bt514 => (if (bt514.1 == t473 && (bt514.2.1 == t474 && (bt514.2.2.1 == t475 && (bt514.2.2.2 == t476)))) = true then ((vec_Leq.f t453 t454 t455 t456 t468 t469 t470 t471).bind fun t518 => (if t518 = true then ((vec_Leq.f t473 t474 t475 t476 t458 t459 t460 t461).bind fun t519 => (if t519 = true then ((vec_Join.f t453 t454 t455 t456 t473 t474 t475 t476).bind fun bt520 => (if (bt520.1 == t453 && (bt520.2.1 == t454 && (bt520.2.2.1 == t455 && (bt520.2.2.2 == t456)))) = true then ((vec_Meet.f t453 t454 t455 t456 t468 t469 t470 t471).bind fun bt524 => (if (bt524.1 == t453 && (bt524.2.1 == t454 && (bt524.2.2.1 == t455 && (bt524.2.2.2 == t456)))) = true then ((vec_Right.f t453 t454 t455 t456).bind fun t528 => (if t528 = true then ((vec_Right.f t458 t459 t460 t461).bind fun t529 => (if t529 = true then ((vec_Right.f t468 t469 t470 t471).bind fun t530 => (if t530 = true then (some true) else (none))) else (none))) else (none))) else (none))) else (none))) else (none))) else (none))) else (none))) else (none))) else (none)))) = some r := H
  have A19 := Zq0 A190
  clear A190
  replace H := Option.bind_eq_some_iff.mp H
  obtain ⟨⟨t502, t503, t504, t505⟩, A200, H⟩ := H
  replace H : ((vec_Meet.f t453 t454 t455 t456 t502 t503 t504 t505).bind fun bt506 => (if (t498 == bt506.1 && (t499 == bt506.2.1 && (t500 == bt506.2.2.1 && (t501 == bt506.2.2.2)))) = true then ((vec_Join.f t468 t469 t470 t471 t453 t454 t455 t456).bind fun bt510 => (if (bt510.1 == t468 && (bt510.2.1 == t469 && (bt510.2.2.1 == t470 && (bt510.2.2.2 == t471)))) = true then ((vec_Meet.f t473 t474 t475 t476 t453 t454 t455 t456).bind fun bt514 => (if (bt514.1 == t473 && (bt514.2.1 == t474 && (bt514.2.2.1 == t475 && (bt514.2.2.2 == t476)))) = true then ((vec_Leq.f t453 t454 t455 t456 t468 t469 t470 t471).bind fun t518 => (if t518 = true then ((vec_Leq.f t473 t474 t475 t476 t458 t459 t460 t461).bind fun t519 => (if t519 = true then ((vec_Join.f t453 t454 t455 t456 t473 t474 t475 t476).bind fun bt520 => (if (bt520.1 == t453 && (bt520.2.1 == t454 && (bt520.2.2.1 == t455 && (bt520.2.2.2 == t456)))) = true then ((vec_Meet.f t453 t454 t455 t456 t468 t469 t470 t471).bind fun bt524 => (if (bt524.1 == t453 && (bt524.2.1 == t454 && (bt524.2.2.1 == t455 && (bt524.2.2.2 == t456)))) = true then ((vec_Right.f t453 t454 t455 t456).bind fun t528 => (if t528 = true then ((vec_Right.f t458 t459 t460 t461).bind fun t529 => (if t529 = true then ((vec_Right.f t468 t469 t470 t471).bind fun t530 => (if t530 = true then (some true) else (none))) else (none))) else (none))) else (none))) else (none))) else (none))) else (none))) else (none))) else (none))) else (none))) = some r := H
  have A20 := Zq0 A200
  clear A200
  replace H := Option.bind_eq_some_iff.mp H
  obtain ⟨⟨t506, t507, t508, t509⟩, A210, H⟩ := H
  replace H : (if (t498 == t506 && (t499 == t507 && (t500 == t508 && (t501 == t509)))) = true then ((vec_Join.f t468 t469 t470 t471 t453 t454 t455 t456).bind fun bt510 => (if (bt510.1 == t468 && (bt510.2.1 == t469 && (bt510.2.2.1 == t470 && (bt510.2.2.2 == t471)))) = true then ((vec_Meet.f t473 t474 t475 t476 t453 t454 t455 t456).bind fun bt514 => (if (bt514.1 == t473 && (bt514.2.1 == t474 && (bt514.2.2.1 == t475 && (bt514.2.2.2 == t476)))) = true then ((vec_Leq.f t453 t454 t455 t456 t468 t469 t470 t471).bind fun t518 => (if t518 = true then ((vec_Leq.f t473 t474 t475 t476 t458 t459 t460 t461).bind fun t519 => (if t519 = true then ((vec_Join.f t453 t454 t455 t456 t473 t474 t475 t476).bind fun bt520 => (if (bt520.1 == t453 && (bt520.2.1 == t454 && (bt520.2.2.1 == t455 && (bt520.2.2.2 == t456)))) = true then ((vec_Meet.f t453 t454 t455 t456 t468 t469 t470 t471).bind fun bt524 => (if (bt524.1 == t453 && (bt524.2.1 == t454 && (bt524.2.2.1 == t455 && (bt524.2.2.2 == t456)))) = true then ((vec_Right.f t453 t454 t455 t456).bind fun t528 => (if t528 = true then ((vec_Right.f t458 t459 t460 t461).bind fun t529 => (if t529 = true then ((vec_Right.f t468 t469 t470 t471).bind fun t530 => (if t530 = true then (some true) else (none))) else (none))) else (none))) else (none))) else (none))) else (none))) else (none))) else (none))) else (none))) else (none)) = some r := H
  have A21 := Zq0 A210
  clear A210
  by_cases c22 : (t498 == t506 && (t499 == t507 && (t500 == t508 && (t501 == t509)))) = true
  rotate_left
  · rw [if_neg c22] at H
    exact absurd H (by simp)
  rw [if_pos c22] at H
  have c22b0 : (t498 == t506 && (t499 == t507 && (t500 == t508 && (t501 == t509)))) = true := c22
  (try (have c22b1 : decide (t498 = t506 && (t499 == t507 && (t500 == t508 && (t501 == t509)))) = true := by simpa using c22))
  (try (have c22b2 : (t498 == t506 && (t499 == t507 && (t500 == t508 && (t501 == t509)))) = true := by simpa using c22))
  clear c22
  replace H := Option.bind_eq_some_iff.mp H
  obtain ⟨⟨t510, t511, t512, t513⟩, A230, H⟩ := H
  replace H : (if (t510 == t468 && (t511 == t469 && (t512 == t470 && (t513 == t471)))) = true then ((vec_Meet.f t473 t474 t475 t476 t453 t454 t455 t456).bind fun bt514 => (if (bt514.1 == t473 && (bt514.2.1 == t474 && (bt514.2.2.1 == t475 && (bt514.2.2.2 == t476)))) = true then ((vec_Leq.f t453 t454 t455 t456 t468 t469 t470 t471).bind fun t518 => (if t518 = true then ((vec_Leq.f t473 t474 t475 t476 t458 t459 t460 t461).bind fun t519 => (if t519 = true then ((vec_Join.f t453 t454 t455 t456 t473 t474 t475 t476).bind fun bt520 => (if (bt520.1 == t453 && (bt520.2.1 == t454 && (bt520.2.2.1 == t455 && (bt520.2.2.2 == t456)))) = true then ((vec_Meet.f t453 t454 t455 t456 t468 t469 t470 t471).bind fun bt524 => (if (bt524.1 == t453 && (bt524.2.1 == t454 && (bt524.2.2.1 == t455 && (bt524.2.2.2 == t456)))) = true then ((vec_Right.f t453 t454 t455 t456).bind fun t528 => (if t528 = true then ((vec_Right.f t458 t459 t460 t461).bind fun t529 => (if t529 = true then ((vec_Right.f t468 t469 t470 t471).bind fun t530 => (if t530 = true then (some true) else (none))) else (none))) else (none))) else (none))) else (none))) else (none))) else (none))) else (none))) else (none)) = some r := H
  have A23 := Zq0 A230
  clear A230
  by_cases c24 : (t510 == t468 && (t511 == t469 && (t512 == t470 && (t513 == t471)))) = true
  rotate_left
  · rw [if_neg c24] at H
    exact absurd H (by simp)
  rw [if_pos c24] at H
  have c24b0 : (t510 == t468 && (t511 == t469 && (t512 == t470 && (t513 == t471)))) = true := c24
  (try (have c24b1 : decide (t510 = t468 && (t511 == t469 && (t512 == t470 && (t513 == t471)))) = true := by simpa using c24))
  (try (have c24b2 : (t510 == t468 && (t511 == t469 && (t512 == t470 && (t513 == t471)))) = true := by simpa using c24))
  clear c24
  replace H := Option.bind_eq_some_iff.mp H
  obtain ⟨⟨t514, t515, t516, t517⟩, A250, H⟩ := H
  replace H : (if (t514 == t473 && (t515 == t474 && (t516 == t475 && (t517 == t476)))) = true then ((vec_Leq.f t453 t454 t455 t456 t468 t469 t470 t471).bind fun t518 => (if t518 = true then ((vec_Leq.f t473 t474 t475 t476 t458 t459 t460 t461).bind fun t519 => (if t519 = true then ((vec_Join.f t453 t454 t455 t456 t473 t474 t475 t476).bind fun bt520 => (if (bt520.1 == t453 && (bt520.2.1 == t454 && (bt520.2.2.1 == t455 && (bt520.2.2.2 == t456)))) = true then ((vec_Meet.f t453 t454 t455 t456 t468 t469 t470 t471).bind fun bt524 => (if (bt524.1 == t453 && (bt524.2.1 == t454 && (bt524.2.2.1 == t455 && (bt524.2.2.2 == t456)))) = true then ((vec_Right.f t453 t454 t455 t456).bind fun t528 => (if t528 = true then ((vec_Right.f t458 t459 t460 t461).bind fun t529 => (if t529 = true then ((vec_Right.f t468 t469 t470 t471).bind fun t530 => (if t530 = true then (some true) else (none))) else (none))) else (none))) else (none))) else (none))) else (none))) else (none))) else (none)) = some r := H
  have A25 := Zq0 A250
  clear A250
  by_cases c26 : (t514 == t473 && (t515 == t474 && (t516 == t475 && (t517 == t476)))) = true
  rotate_left
  · rw [if_neg c26] at H
    exact absurd H (by simp)
  rw [if_pos c26] at H
  have c26b0 : (t514 == t473 && (t515 == t474 && (t516 == t475 && (t517 == t476)))) = true := c26
  (try (have c26b1 : decide (t514 = t473 && (t515 == t474 && (t516 == t475 && (t517 == t476)))) = true := by simpa using c26))
  (try (have c26b2 : (t514 == t473 && (t515 == t474 && (t516 == t475 && (t517 == t476)))) = true := by simpa using c26))
  clear c26
  replace H := Option.bind_eq_some_iff.mp H
  obtain ⟨t518, A270, H⟩ := H
  replace H : (if t518 = true then ((vec_Leq.f t473 t474 t475 t476 t458 t459 t460 t461).bind fun t519 => (if t519 = true then ((vec_Join.f t453 t454 t455 t456 t473 t474 t475 t476).bind fun bt520 => (if (bt520.1 == t453 && (bt520.2.1 == t454 && (bt520.2.2.1 == t455 && (bt520.2.2.2 == t456)))) = true then ((vec_Meet.f t453 t454 t455 t456 t468 t469 t470 t471).bind fun bt524 => (if (bt524.1 == t453 && (bt524.2.1 == t454 && (bt524.2.2.1 == t455 && (bt524.2.2.2 == t456)))) = true then ((vec_Right.f t453 t454 t455 t456).bind fun t528 => (if t528 = true then ((vec_Right.f t458 t459 t460 t461).bind fun t529 => (if t529 = true then ((vec_Right.f t468 t469 t470 t471).bind fun t530 => (if t530 = true then (some true) else (none))) else (none))) else (none))) else (none))) else (none))) else (none))) else (none)) = some r := H
  have A27 := Zq0 A270
  clear A270
  by_cases c28 : t518 = true
  rotate_left
  · replace c28 := Bool.eq_false_iff.mpr c28
    subst c28
    have H1 : (none) = some r := by rw [if_neg (show ¬ (false = true) by decide)] at H; exact H
    clear H
    have H := H1
    clear H1
    exact absurd H (by simp)
  subst c28
  have H1 : ((vec_Leq.f t473 t474 t475 t476 t458 t459 t460 t461).bind fun t519 => (if t519 = true then ((vec_Join.f t453 t454 t455 t456 t473 t474 t475 t476).bind fun bt520 => (if (bt520.1 == t453 && (bt520.2.1 == t454 && (bt520.2.2.1 == t455 && (bt520.2.2.2 == t456)))) = true then ((vec_Meet.f t453 t454 t455 t456 t468 t469 t470 t471).bind fun bt524 => (if (bt524.1 == t453 && (bt524.2.1 == t454 && (bt524.2.2.1 == t455 && (bt524.2.2.2 == t456)))) = true then ((vec_Right.f t453 t454 t455 t456).bind fun t528 => (if t528 = true then ((vec_Right.f t458 t459 t460 t461).bind fun t529 => (if t529 = true then ((vec_Right.f t468 t469 t470 t471).bind fun t530 => (if t530 = true then (some true) else (none))) else (none))) else (none))) else (none))) else (none))) else (none))) = some r := by rw [if_pos rfl] at H; exact H
  clear H
  have H := H1
  clear H1
  replace H := Option.bind_eq_some_iff.mp H
  obtain ⟨t519, A290, H⟩ := H
  replace H : (if t519 = true then ((vec_Join.f t453 t454 t455 t456 t473 t474 t475 t476).bind fun bt520 => (if (bt520.1 == t453 && (bt520.2.1 == t454 && (bt520.2.2.1 == t455 && (bt520.2.2.2 == t456)))) = true then ((vec_Meet.f t453 t454 t455 t456 t468 t469 t470 t471).bind fun bt524 => (if (bt524.1 == t453 && (bt524.2.1 == t454 && (bt524.2.2.1 == t455 && (bt524.2.2.2 == t456)))) = true then ((vec_Right.f t453 t454 t455 t456).bind fun t528 => (if t528 = true then ((vec_Right.f t458 t459 t460 t461).bind fun t529 => (if t529 = true then ((vec_Right.f t468 t469 t470 t471).bind fun t530 => (if t530 = true then (some true) else (none))) else (none))) else (none))) else (none))) else (none))) else (none)) = some r := H
  have A29 := Zq0 A290
  clear A290
  by_cases c30 : t519 = true
  rotate_left
  · replace c30 := Bool.eq_false_iff.mpr c30
    subst c30
    have H1 : (none) = some r := by rw [if_neg (show ¬ (false = true) by decide)] at H; exact H
    clear H
    have H := H1
    clear H1
    exact absurd H (by simp)
  subst c30
  have H1 : ((vec_Join.f t453 t454 t455 t456 t473 t474 t475 t476).bind fun bt520 => (if (bt520.1 == t453 && (bt520.2.1 == t454 && (bt520.2.2.1 == t455 && (bt520.2.2.2 == t456)))) = true then ((vec_Meet.f t453 t454 t455 t456 t468 t469 t470 t471).bind fun bt524 => (if (bt524.1 == t453 && (bt524.2.1 == t454 && (bt524.2.2.1 == t455 && (bt524.2.2.2 == t456)))) = true then ((vec_Right.f t453 t454 t455 t456).bind fun t528 => (if t528 = true then ((vec_Right.f t458 t459 t460 t461).bind fun t529 => (if t529 = true then ((vec_Right.f t468 t469 t470 t471).bind fun t530 => (if t530 = true then (some true) else (none))) else (none))) else (none))) else (none))) else (none))) = some r := by rw [if_pos rfl] at H; exact H
  clear H
  have H := H1
  clear H1
  replace H := Option.bind_eq_some_iff.mp H
  obtain ⟨⟨t520, t521, t522, t523⟩, A310, H⟩ := H
  replace H : (if (t520 == t453 && (t521 == t454 && (t522 == t455 && (t523 == t456)))) = true then ((vec_Meet.f t453 t454 t455 t456 t468 t469 t470 t471).bind fun bt524 => (if (bt524.1 == t453 && (bt524.2.1 == t454 && (bt524.2.2.1 == t455 && (bt524.2.2.2 == t456)))) = true then ((vec_Right.f t453 t454 t455 t456).bind fun t528 => (if t528 = true then ((vec_Right.f t458 t459 t460 t461).bind fun t529 => (if t529 = true then ((vec_Right.f t468 t469 t470 t471).bind fun t530 => (if t530 = true then (some true) else (none))) else (none))) else (none))) else (none))) else (none)) = some r := H
  have A31 := Zq0 A310
  clear A310
  by_cases c32 : (t520 == t453 && (t521 == t454 && (t522 == t455 && (t523 == t456)))) = true
  rotate_left
  · rw [if_neg c32] at H
    exact absurd H (by simp)
  rw [if_pos c32] at H
  have c32b0 : (t520 == t453 && (t521 == t454 && (t522 == t455 && (t523 == t456)))) = true := c32
  (try (have c32b1 : decide (t520 = t453 && (t521 == t454 && (t522 == t455 && (t523 == t456)))) = true := by simpa using c32))
  (try (have c32b2 : (t520 == t453 && (t521 == t454 && (t522 == t455 && (t523 == t456)))) = true := by simpa using c32))
  clear c32
  replace H := Option.bind_eq_some_iff.mp H
  obtain ⟨⟨t524, t525, t526, t527⟩, A330, H⟩ := H
  replace H : (if (t524 == t453 && (t525 == t454 && (t526 == t455 && (t527 == t456)))) = true then ((vec_Right.f t453 t454 t455 t456).bind fun t528 => (if t528 = true then ((vec_Right.f t458 t459 t460 t461).bind fun t529 => (if t529 = true then ((vec_Right.f t468 t469 t470 t471).bind fun t530 => (if t530 = true then (some true) else (none))) else (none))) else (none))) else (none)) = some r := H
  have A33 := Zq0 A330
  clear A330
  by_cases c34 : (t524 == t453 && (t525 == t454 && (t526 == t455 && (t527 == t456)))) = true
  rotate_left
  · rw [if_neg c34] at H
    exact absurd H (by simp)
  rw [if_pos c34] at H
  have c34b0 : (t524 == t453 && (t525 == t454 && (t526 == t455 && (t527 == t456)))) = true := c34
  (try (have c34b1 : decide (t524 = t453 && (t525 == t454 && (t526 == t455 && (t527 == t456)))) = true := by simpa using c34))
  (try (have c34b2 : (t524 == t453 && (t525 == t454 && (t526 == t455 && (t527 == t456)))) = true := by simpa using c34))
  clear c34
  replace H := Option.bind_eq_some_iff.mp H
  obtain ⟨t528, A350, H⟩ := H
  replace H : (if t528 = true then ((vec_Right.f t458 t459 t460 t461).bind fun t529 => (if t529 = true then ((vec_Right.f t468 t469 t470 t471).bind fun t530 => (if t530 = true then (some true) else (none))) else (none))) else (none)) = some r := H
  have A35 := Zq0 A350
  clear A350
  by_cases c36 : t528 = true
  rotate_left
  · replace c36 := Bool.eq_false_iff.mpr c36
    subst c36
    have H1 : (none) = some r := by rw [if_neg (show ¬ (false = true) by decide)] at H; exact H
    clear H
    have H := H1
    clear H1
    exact absurd H (by simp)
  subst c36
  have H1 : ((vec_Right.f t458 t459 t460 t461).bind fun t529 => (if t529 = true then ((vec_Right.f t468 t469 t470 t471).bind fun t530 => (if t530 = true then (some true) else (none))) else (none))) = some r := by rw [if_pos rfl] at H; exact H
  clear H
  have H := H1
  clear H1
  replace H := Option.bind_eq_some_iff.mp H
  obtain ⟨t529, A370, H⟩ := H
  replace H : (if t529 = true then ((vec_Right.f t468 t469 t470 t471).bind fun t530 => (if t530 = true then (some true) else (none))) else (none)) = some r := H
  have A37 := Zq0 A370
  clear A370
  by_cases c38 : t529 = true
  rotate_left
  · replace c38 := Bool.eq_false_iff.mpr c38
    subst c38
    have H1 : (none) = some r := by rw [if_neg (show ¬ (false = true) by decide)] at H; exact H
    clear H
    have H := H1
    clear H1
    exact absurd H (by simp)
  subst c38
  have H1 : ((vec_Right.f t468 t469 t470 t471).bind fun t530 => (if t530 = true then (some true) else (none))) = some r := by rw [if_pos rfl] at H; exact H
  clear H
  have H := H1
  clear H1
  replace H := Option.bind_eq_some_iff.mp H
  obtain ⟨t530, A390, H⟩ := H
  replace H : (if t530 = true then (some true) else (none)) = some r := H
  have A39 := Zq0 A390
  clear A390
  by_cases c40 : t530 = true
  rotate_left
  · replace c40 := Bool.eq_false_iff.mpr c40
    subst c40
    have H1 : (none) = some r := by rw [if_neg (show ¬ (false = true) by decide)] at H; exact H
    clear H
    have H := H1
    clear H1
    exact absurd H (by simp)
  subst c40
  have H1 : (some true) = some r := by rw [if_pos rfl] at H; exact H
  clear H
  have H := H1
  clear H1
  obtain rfl := Option.some.inj H
  go_enter Tryd.func5, Tryd.ntmps5
  try go_wp2_with (first | ((with_reducible refine gate_dst (N := 3) rfl ?_); refine box_event ?hg (N := 3) ?hd (cs := #[.int .u64 a0_0, .int .u64 a0_1, .int .u64 a0_2, .int .u64 a0_3, .bool a0_4]) (t := 26) ?hr ?_; (case hd => rfl); (case hg => rfl); (case hr => first | (go_simp; done) | (go_simp; rfl)); intro gb449 hg w41 hbox hb; have n0_ := Zq0 (below_step (by repeat (first | (with_reducible first | exact HB.out | apply below_alloc | apply Zw0 | apply Ze0) | exact HB.out)) hb); have n1_ := Zq0 (hbox); have n2_ := Zq0 ((by rw [hg]; exact (below_size (by repeat (first | (with_reducible first | exact HB.out | apply below_alloc | apply Zw0 | apply Ze0) | exact HB.out))) : w.heap.size ≤ gb449)); have n3_ := Zq0 ((by rw [hg]; exact (below_size (by repeat (first | (with_reducible first | exact HB.out | apply below_alloc | apply Zw0 | apply Ze0) | exact HB.out))) : w.heap.size ≤ gb449)); clear HB; have HB := n0_; have BK449 := n1_; have GW449 := n2_; have GE449 := n3_; clear n0_ n1_ n2_ n3_; clear hb hbox hg) | ((with_reducible refine gate_dst (N := 4) rfl ?_); refine box_event ?hg (N := 4) ?hd (cs := #[.int .u64 a1_0, .int .u64 a1_1, .int .u64 a1_2, .int .u64 a1_3, .bool a1_4]) (t := 26) ?hr ?_; (case hd => rfl); (case hg => rfl); (case hr => first | (go_simp; done) | (go_simp; rfl)); intro gb450 hg w42 hbox hb; have n0_ := Zq0 (Zb0 (g := gb449) (o := .cells #[.int .u64 a0_0, .int .u64 a0_1, .int .u64 a0_2, .int .u64 a0_3, .bool a0_4] 26 (0, 0)) (by (with_reducible repeat (first | refine Zn0 ?_ _ | refine Zd0 ?_ | refine Za0 ?_ _)); exact BK449.out) hb); have n1_ := Zq0 (below_step (by repeat (first | (with_reducible first | exact HB.out | apply below_alloc | apply Zw0 | apply Ze0 | refine Zs0 ?_ GE449.out) | exact HB.out)) hb); have n2_ := Zq0 (hbox); have n3_ := Zq0 ((by rw [hg]; exact (below_size (by repeat (first | (with_reducible first | exact HB.out | apply below_alloc | apply Zw0 | apply Ze0 | refine Zs0 ?_ GE449.out) | exact HB.out))) : w.heap.size ≤ gb450)); have n4_ := Zq0 ((by rw [hg]; exact (below_size (by repeat (first | (with_reducible first | exact HB.out | apply below_alloc | apply Zw0 | apply Ze0 | refine Zs0 ?_ GE449.out) | exact HB.out))) : w.heap.size ≤ gb450)); have n5_ := Zq0 ((by rw [hg]; exact Nat.ne_of_lt (blk_lt (g := gb449) (o := .cells #[.int .u64 a0_0, .int .u64 a0_1, .int .u64 a0_2, .int .u64 a0_3, .bool a0_4] 26 (0, 0)) (by (with_reducible repeat (first | refine Zn0 ?_ _ | refine Zd0 ?_ | refine Za0 ?_ _)); exact BK449.out)) : gb449 ≠ gb450)); have n6_ := Zq0 ((by rw [hg]; exact Nat.ne_of_gt (blk_lt (g := gb449) (o := .cells #[.int .u64 a0_0, .int .u64 a0_1, .int .u64 a0_2, .int .u64 a0_3, .bool a0_4] 26 (0, 0)) (by (with_reducible repeat (first | refine Zn0 ?_ _ | refine Zd0 ?_ | refine Za0 ?_ _)); exact BK449.out)) : gb450 ≠ gb449)); clear BK449; clear HB; have BK449 := n0_; have HB := n1_; have BK450 := n2_; have GW450 := n3_; have GE450 := n4_; have NB449_450 := n5_; have NB450_449 := n6_; clear n0_ n1_ n2_ n3_ n4_ n5_ n6_; clear hb hbox hg) | ((with_reducible refine gate_dst (N := 5) rfl ?_); refine box_event ?hg (N := 5) ?hd (cs := #[.int .u64 a2_0, .int .u64 a2_1, .int .u64 a2_2, .int .u64 a2_3, .bool a2_4]) (t := 26) ?hr ?_; (case hd => rfl); (case hg => rfl); (case hr => first | (go_simp; done) | (go_simp; rfl)); intro gb451 hg w43 hbox hb; have n0_ := Zq0 (Zb0 (g := gb449) (o := .cells #[.int .u64 a0_0, .int .u64 a0_1, .int .u64 a0_2, .int .u64 a0_3, .bool a0_4] 26 (0, 0)) (by (with_reducible repeat (first | refine Zn0 ?_ _ | refine Zd0 ?_ | refine Za0 ?_ _)); exact BK449.out) hb); have n1_ := Zq0 (Zb0 (g := gb450) (o := .cells #[.int .u64 a1_0, .int .u64 a1_1, .int .u64 a1_2, .int .u64 a1_3, .bool a1_4] 26 (0, 0)) (by (with_reducible repeat (first | refine Zn0 ?_ _ | refine Zd0 ?_ | refine Za0 ?_ _)); exact BK450.out) hb); have n2_ := Zq0 (below_step (by repeat (first | (with_reducible first | exact HB.out | apply below_alloc | apply Zw0 | apply Ze0 | refine Zs0 ?_ GE449.out | refine Zs0 ?_ GE450.out) | exact HB.out)) hb); have n3_ := Zq0 (hbox); have n4_ := Zq0 ((by rw [hg]; exact (below_size (by repeat (first | (with_reducible first | exact HB.out | apply below_alloc | apply Zw0 | apply Ze0 | refine Zs0 ?_ GE449.out | refine Zs0 ?_ GE450.out) | exact HB.out))) : w.heap.size ≤ gb451)); have n5_ := Zq0 ((by rw [hg]; exact (below_size (by repeat (first | (with_reducible first | exact HB.out | apply below_alloc | apply Zw0 | apply Ze0 | refine Zs0 ?_ GE449.out | refine Zs0 ?_ GE450.out) | exact HB.out))) : w.heap.size ≤ gb451)); have n6_ := Zq0 ((by rw [hg]; exact Nat.ne_of_lt (blk_lt (g := gb449) (o := .cells #[.int .u64 a0_0, .int .u64 a0_1, .int .u64 a0_2, .int .u64 a0_3, .bool a0_4] 26 (0, 0)) (by (with_reducible repeat (first | refine Zn0 ?_ _ | refine Zd0 ?_ | refine Za0 ?_ _)); exact BK449.out)) : gb449 ≠ gb451)); have n7_ := Zq0 ((by rw [hg]; exact Nat.ne_of_gt (blk_lt (g := gb449) (o := .cells #[.int .u64 a0_0, .int .u64 a0_1, .int .u64 a0_2, .int .u64 a0_3, .bool a0_4] 26 (0, 0)) (by (with_reducible repeat (first | refine Zn0 ?_ _ | refine Zd0 ?_ | refine Za0 ?_ _)); exact BK449.out)) : gb451 ≠ gb449)); have n8_ := Zq0 ((by rw [hg]; exact Nat.ne_of_lt (blk_lt (g := gb450) (o := .cells #[.int .u64 a1_0, .int .u64 a1_1, .int .u64 a1_2, .int .u64 a1_3, .bool a1_4] 26 (0, 0)) (by (with_reducible repeat (first | refine Zn0 ?_ _ | refine Zd0 ?_ | refine Za0 ?_ _)); exact BK450.out)) : gb450 ≠ gb451)); have n9_ := Zq0 ((by rw [hg]; exact Nat.ne_of_gt (blk_lt (g := gb450) (o := .cells #[.int .u64 a1_0, .int .u64 a1_1, .int .u64 a1_2, .int .u64 a1_3, .bool a1_4] 26 (0, 0)) (by (with_reducible repeat (first | refine Zn0 ?_ _ | refine Zd0 ?_ | refine Za0 ?_ _)); exact BK450.out)) : gb451 ≠ gb450)); clear BK449; clear BK450; clear HB; have BK449 := n0_; have BK450 := n1_; have HB := n2_; have BK451 := n3_; have GW451 := n4_; have GE451 := n5_; have NB449_451 := n6_; have NB451_449 := n7_; have NB450_451 := n8_; have NB451_450 := n9_; clear n0_ n1_ n2_ n3_ n4_ n5_ n6_ n7_ n8_ n9_; clear hb hbox hg) | ((with_reducible refine gate_callee (f := 10) rfl ?_); refine goesL_ (some 13) rfl rfl Tryd.func10 (by kernel_rfl) rfl #[] rfl (by (try simp only [List.map_toArray, List.map_cons, List.map_nil]); first | done | rfl | (simp only [List.length_drop, List.length_take]; rfl)) ?_; (with_reducible refine (tenementlaw06_examples.calls k  true _ A4.out).mono ?_); rintro e w44 ⟨rfl, hb⟩; refine ⟨_, rfl, ?_⟩; have n0_ := Zq0 (Zb0 (g := gb449) (o := .cells #[.int .u64 a0_0, .int .u64 a0_1, .int .u64 a0_2, .int .u64 a0_3, .bool a0_4] 26 (0, 0)) (by (with_reducible repeat (first | refine Zn0 ?_ _ | refine Zd0 ?_ | refine Za0 ?_ _)); exact BK449.out) hb); have n1_ := Zq0 (Zb0 (g := gb450) (o := .cells #[.int .u64 a1_0, .int .u64 a1_1, .int .u64 a1_2, .int .u64 a1_3, .bool a1_4] 26 (0, 0)) (by (with_reducible repeat (first | refine Zn0 ?_ _ | refine Zd0 ?_ | refine Za0 ?_ _)); exact BK450.out) hb); have n2_ := Zq0 (Zb0 (g := gb451) (o := .cells #[.int .u64 a2_0, .int .u64 a2_1, .int .u64 a2_2, .int .u64 a2_3, .bool a2_4] 26 (0, 0)) (by (with_reducible repeat (first | refine Zn0 ?_ _ | refine Zd0 ?_ | refine Za0 ?_ _)); exact BK451.out) hb); have n3_ := Zq0 (below_step (by repeat (first | (with_reducible first | exact HB.out | apply below_alloc | apply Zw0 | apply Ze0 | refine Zs0 ?_ GE449.out | refine Zs0 ?_ GE450.out | refine Zs0 ?_ GE451.out) | exact HB.out)) hb); clear BK449; clear BK450; clear BK451; clear HB; have BK449 := n0_; have BK450 := n1_; have BK451 := n2_; have HB := n3_; clear n0_ n1_ n2_ n3_; (try clear hb); (try clear hb2); (try clear hk); (try clear hi); have hnb45 := NB449_450.out; have hnc45 := NB450_449.out; have hnb46 := NB449_451.out; have hnc46 := NB451_449.out; have hcz47_0 : w44.cell? ⟨gb449, 0, none⟩ = some (.int .u64 a0_0) := (blk_cell BK449.out 0).trans rfl; have hcz47_1 : w44.cell? ⟨gb449, 1, none⟩ = some (.int .u64 a0_1) := (blk_cell BK449.out 1).trans rfl; have hcz47_2 : w44.cell? ⟨gb449, 2, none⟩ = some (.int .u64 a0_2) := (blk_cell BK449.out 2).trans rfl; have hcz47_3 : w44.cell? ⟨gb449, 3, none⟩ = some (.int .u64 a0_3) := (blk_cell BK449.out 3).trans rfl; have hcz47_4 : w44.cell? ⟨gb449, 4, none⟩ = some (.bool a0_4) := (blk_cell BK449.out 4).trans rfl; have hfz47_0 := blk_frozen BK449.out 0; have hfz47_1 := blk_frozen BK449.out 1; have hfz47_2 := blk_frozen BK449.out 2; have hfz47_3 := blk_frozen BK449.out 3; have hfz47_4 := blk_frozen BK449.out 4) | ((with_reducible refine gate_callee (f := 11) rfl ?_); refine goesL_ (some 17) rfl rfl Tryd.func11 (by kernel_rfl) rfl #[.agg #[.int .u64 a0_0, .int .u64 a0_1, .int .u64 a0_2, .int .u64 a0_3, .bool a0_4]] rfl (by (try simp only [List.map_toArray, List.map_cons, List.map_nil]); first | done | rfl | (simp only [List.length_drop, List.length_take]; rfl)) ?_; (with_reducible refine (tenementlaw06_Vector_vector.calls k a0_0 a0_1 a0_2 a0_3 a0_4 t453 t454 t455 t456 _ A6.out).mono ?_); rintro e w48 ⟨rfl, hb⟩; refine ⟨_, rfl, ?_⟩; have n0_ := Zq0 (Zb0 (g := gb449) (o := .cells #[.int .u64 a0_0, .int .u64 a0_1, .int .u64 a0_2, .int .u64 a0_3, .bool a0_4] 26 (0, 0)) (by (with_reducible repeat (first | refine Zn0 ?_ _ | refine Zd0 ?_ | refine Za0 ?_ _)); exact BK449.out) hb); have n1_ := Zq0 (Zb0 (g := gb450) (o := .cells #[.int .u64 a1_0, .int .u64 a1_1, .int .u64 a1_2, .int .u64 a1_3, .bool a1_4] 26 (0, 0)) (by (with_reducible repeat (first | refine Zn0 ?_ _ | refine Zd0 ?_ | refine Za0 ?_ _)); exact BK450.out) hb); have n2_ := Zq0 (Zb0 (g := gb451) (o := .cells #[.int .u64 a2_0, .int .u64 a2_1, .int .u64 a2_2, .int .u64 a2_3, .bool a2_4] 26 (0, 0)) (by (with_reducible repeat (first | refine Zn0 ?_ _ | refine Zd0 ?_ | refine Za0 ?_ _)); exact BK451.out) hb); have n3_ := Zq0 (below_step (by repeat (first | (with_reducible first | exact HB.out | apply below_alloc | apply Zw0 | apply Ze0 | refine Zs0 ?_ GE449.out | refine Zs0 ?_ GE450.out | refine Zs0 ?_ GE451.out) | exact HB.out)) hb); clear BK449; clear BK450; clear BK451; clear HB; have BK449 := n0_; have BK450 := n1_; have BK451 := n2_; have HB := n3_; clear n0_ n1_ n2_ n3_; (try clear hb); (try clear hb2); (try clear hk); (try clear hi)) | ((with_reducible refine gate_dst (N := 8) rfl ?_); refine box_event ?hg (N := 8) ?hd (cs := #[.int .u64 0, .int .u64 0, .int .u64 0, .int .u64 0]) (t := 24) ?hr ?_; (case hd => rfl); (case hg => rfl); (case hr => first | (go_simp; done) | (go_simp; rfl)); intro gb457 hg w49 hbox hb; have n0_ := Zq0 (Zb0 (g := gb449) (o := .cells #[.int .u64 a0_0, .int .u64 a0_1, .int .u64 a0_2, .int .u64 a0_3, .bool a0_4] 26 (0, 0)) (by (with_reducible repeat (first | refine Zn0 ?_ _ | refine Zd0 ?_ | refine Za0 ?_ _)); exact BK449.out) hb); have n1_ := Zq0 (Zb0 (g := gb450) (o := .cells #[.int .u64 a1_0, .int .u64 a1_1, .int .u64 a1_2, .int .u64 a1_3, .bool a1_4] 26 (0, 0)) (by (with_reducible repeat (first | refine Zn0 ?_ _ | refine Zd0 ?_ | refine Za0 ?_ _)); exact BK450.out) hb); have n2_ := Zq0 (Zb0 (g := gb451) (o := .cells #[.int .u64 a2_0, .int .u64 a2_1, .int .u64 a2_2, .int .u64 a2_3, .bool a2_4] 26 (0, 0)) (by (with_reducible repeat (first | refine Zn0 ?_ _ | refine Zd0 ?_ | refine Za0 ?_ _)); exact BK451.out) hb); have n3_ := Zq0 (below_step (by repeat (first | (with_reducible first | exact HB.out | apply below_alloc | apply Zw0 | apply Ze0 | refine Zs0 ?_ GE449.out | refine Zs0 ?_ GE450.out | refine Zs0 ?_ GE451.out) | exact HB.out)) hb); have n4_ := Zq0 (hbox); have n5_ := Zq0 ((by rw [hg]; exact (below_size (by repeat (first | (with_reducible first | exact HB.out | apply below_alloc | apply Zw0 | apply Ze0 | refine Zs0 ?_ GE449.out | refine Zs0 ?_ GE450.out | refine Zs0 ?_ GE451.out) | exact HB.out))) : w.heap.size ≤ gb457)); have n6_ := Zq0 ((by rw [hg]; exact (below_size (by repeat (first | (with_reducible first | exact HB.out | apply below_alloc | apply Zw0 | apply Ze0 | refine Zs0 ?_ GE449.out | refine Zs0 ?_ GE450.out | refine Zs0 ?_ GE451.out) | exact HB.out))) : w.heap.size ≤ gb457)); have n7_ := Zq0 ((by rw [hg]; exact Nat.ne_of_lt (blk_lt (g := gb449) (o := .cells #[.int .u64 a0_0, .int .u64 a0_1, .int .u64 a0_2, .int .u64 a0_3, .bool a0_4] 26 (0, 0)) (by (with_reducible repeat (first | refine Zn0 ?_ _ | refine Zd0 ?_ | refine Za0 ?_ _)); exact BK449.out)) : gb449 ≠ gb457)); have n8_ := Zq0 ((by rw [hg]; exact Nat.ne_of_gt (blk_lt (g := gb449) (o := .cells #[.int .u64 a0_0, .int .u64 a0_1, .int .u64 a0_2, .int .u64 a0_3, .bool a0_4] 26 (0, 0)) (by (with_reducible repeat (first | refine Zn0 ?_ _ | refine Zd0 ?_ | refine Za0 ?_ _)); exact BK449.out)) : gb457 ≠ gb449)); have n9_ := Zq0 ((by rw [hg]; exact Nat.ne_of_lt (blk_lt (g := gb450) (o := .cells #[.int .u64 a1_0, .int .u64 a1_1, .int .u64 a1_2, .int .u64 a1_3, .bool a1_4] 26 (0, 0)) (by (with_reducible repeat (first | refine Zn0 ?_ _ | refine Zd0 ?_ | refine Za0 ?_ _)); exact BK450.out)) : gb450 ≠ gb457)); have n10_ := Zq0 ((by rw [hg]; exact Nat.ne_of_gt (blk_lt (g := gb450) (o := .cells #[.int .u64 a1_0, .int .u64 a1_1, .int .u64 a1_2, .int .u64 a1_3, .bool a1_4] 26 (0, 0)) (by (with_reducible repeat (first | refine Zn0 ?_ _ | refine Zd0 ?_ | refine Za0 ?_ _)); exact BK450.out)) : gb457 ≠ gb450)); have n11_ := Zq0 ((by rw [hg]; exact Nat.ne_of_lt (blk_lt (g := gb451) (o := .cells #[.int .u64 a2_0, .int .u64 a2_1, .int .u64 a2_2, .int .u64 a2_3, .bool a2_4] 26 (0, 0)) (by (with_reducible repeat (first | refine Zn0 ?_ _ | refine Zd0 ?_ | refine Za0 ?_ _)); exact BK451.out)) : gb451 ≠ gb457)); have n12_ := Zq0 ((by rw [hg]; exact Nat.ne_of_gt (blk_lt (g := gb451) (o := .cells #[.int .u64 a2_0, .int .u64 a2_1, .int .u64 a2_2, .int .u64 a2_3, .bool a2_4] 26 (0, 0)) (by (with_reducible repeat (first | refine Zn0 ?_ _ | refine Zd0 ?_ | refine Za0 ?_ _)); exact BK451.out)) : gb457 ≠ gb451)); clear BK449; clear BK450; clear BK451; clear HB; have BK449 := n0_; have BK450 := n1_; have BK451 := n2_; have HB := n3_; have BK457 := n4_; have GW457 := n5_; have GE457 := n6_; have NB449_457 := n7_; have NB457_449 := n8_; have NB450_457 := n9_; have NB457_450 := n10_; have NB451_457 := n11_; have NB457_451 := n12_; clear n0_ n1_ n2_ n3_ n4_ n5_ n6_ n7_ n8_ n9_ n10_ n11_ n12_; clear hb hbox hg; have hnb50 := NB457_449.out; have hnc50 := NB449_457.out; have hnb51 := NB457_450.out; have hnc51 := NB450_457.out; have hnb52 := NB457_451.out; have hnc52 := NB451_457.out; have hcz53_0 : w49.cell? ⟨gb457, 0, none⟩ = some (.int .u64 0) := (blk_cell BK457.out 0).trans rfl; have hcz53_1 : w49.cell? ⟨gb457, 1, none⟩ = some (.int .u64 0) := (blk_cell BK457.out 1).trans rfl; have hcz53_2 : w49.cell? ⟨gb457, 2, none⟩ = some (.int .u64 0) := (blk_cell BK457.out 2).trans rfl; have hcz53_3 : w49.cell? ⟨gb457, 3, none⟩ = some (.int .u64 0) := (blk_cell BK457.out 3).trans rfl; have hfz53_0 := blk_frozen BK457.out 0; have hfz53_1 := blk_frozen BK457.out 1; have hfz53_2 := blk_frozen BK457.out 2; have hfz53_3 := blk_frozen BK457.out 3; have hnb54 := NB450_451.out; have hnc54 := NB451_450.out; have hcz55_0 : w49.cell? ⟨gb450, 0, none⟩ = some (.int .u64 a1_0) := (blk_cell BK450.out 0).trans rfl; have hcz55_1 : w49.cell? ⟨gb450, 1, none⟩ = some (.int .u64 a1_1) := (blk_cell BK450.out 1).trans rfl; have hcz55_2 : w49.cell? ⟨gb450, 2, none⟩ = some (.int .u64 a1_2) := (blk_cell BK450.out 2).trans rfl; have hcz55_3 : w49.cell? ⟨gb450, 3, none⟩ = some (.int .u64 a1_3) := (blk_cell BK450.out 3).trans rfl; have hcz55_4 : w49.cell? ⟨gb450, 4, none⟩ = some (.bool a1_4) := (blk_cell BK450.out 4).trans rfl; have hfz55_0 := blk_frozen BK450.out 0; have hfz55_1 := blk_frozen BK450.out 1; have hfz55_2 := blk_frozen BK450.out 2; have hfz55_3 := blk_frozen BK450.out 3; have hfz55_4 := blk_frozen BK450.out 4) | ((with_reducible refine gate_callee (f := 11) rfl ?_); refine goesL_ (some 19) rfl rfl Tryd.func11 (by kernel_rfl) rfl #[.agg #[.int .u64 a1_0, .int .u64 a1_1, .int .u64 a1_2, .int .u64 a1_3, .bool a1_4]] rfl (by (try simp only [List.map_toArray, List.map_cons, List.map_nil]); first | done | rfl | (simp only [List.length_drop, List.length_take]; rfl)) ?_; (with_reducible refine (tenementlaw06_Vector_vector.calls k a1_0 a1_1 a1_2 a1_3 a1_4 t458 t459 t460 t461 _ A7.out).mono ?_); rintro e w56 ⟨rfl, hb⟩; refine ⟨_, rfl, ?_⟩; have n0_ := Zq0 (Zb0 (g := gb449) (o := .cells #[.int .u64 a0_0, .int .u64 a0_1, .int .u64 a0_2, .int .u64 a0_3, .bool a0_4] 26 (0, 0)) (by (repeat (first | (with_reducible first | refine Zn0 ?_ _ | refine Zd0 ?_ | refine Za0 ?_ _) | refine Zf0 ?_ NB449_457.out _)); exact BK449.out) hb); have n1_ := Zq0 (Zb0 (g := gb450) (o := .cells #[.int .u64 a1_0, .int .u64 a1_1, .int .u64 a1_2, .int .u64 a1_3, .bool a1_4] 26 (0, 0)) (by (repeat (first | (with_reducible first | refine Zn0 ?_ _ | refine Zd0 ?_ | refine Za0 ?_ _) | refine Zf0 ?_ NB450_457.out _)); exact BK450.out) hb); have n2_ := Zq0 (Zb0 (g := gb451) (o := .cells #[.int .u64 a2_0, .int .u64 a2_1, .int .u64 a2_2, .int .u64 a2_3, .bool a2_4] 26 (0, 0)) (by (repeat (first | (with_reducible first | refine Zn0 ?_ _ | refine Zd0 ?_ | refine Za0 ?_ _) | refine Zf0 ?_ NB451_457.out _)); exact BK451.out) hb); have n3_ := Zq0 (Zb0 (g := gb457) (o := .cells #[.int .u64 t453, .int .u64 t454, .int .u64 t455, .int .u64 t456] 24 (0, 0)) (by (with_reducible repeat (first | refine Zn0 ?_ _ | refine Zd0 ?_ | refine Za0 ?_ _)); refine blk_put (cs := #[.int .u64 t453, .int .u64 t454, .int .u64 t455, .int .u64 0]) ?_ 3 _ rfl; (with_reducible repeat (first | refine Zn0 ?_ _ | refine Zd0 ?_ | refine Za0 ?_ _)); refine blk_put (cs := #[.int .u64 t453, .int .u64 t454, .int .u64 0, .int .u64 0]) ?_ 2 _ rfl; (with_reducible repeat (first | refine Zn0 ?_ _ | refine Zd0 ?_ | refine Za0 ?_ _)); refine blk_put (cs := #[.int .u64 t453, .int .u64 0, .int .u64 0, .int .u64 0]) ?_ 1 _ rfl; (with_reducible repeat (first | refine Zn0 ?_ _ | refine Zd0 ?_ | refine Za0 ?_ _)); refine blk_put (cs := #[.int .u64 0, .int .u64 0, .int .u64 0, .int .u64 0]) ?_ 0 _ rfl; (with_reducible repeat (first | refine Zn0 ?_ _ | refine Zd0 ?_ | refine Za0 ?_ _)); exact BK457.out) hb); have n4_ := Zq0 (below_step (by repeat (first | (with_reducible first | exact HB.out | apply below_alloc | apply Zw0 | apply Ze0 | refine Zs0 ?_ GE449.out | refine Zs0 ?_ GE450.out | refine Zs0 ?_ GE451.out | refine Zs0 ?_ GE457.out) | exact HB.out)) hb); clear BK449; clear BK450; clear BK451; clear BK457; clear HB; have BK449 := n0_; have BK450 := n1_; have BK451 := n2_; have BK457 := n3_; have HB := n4_; clear n0_ n1_ n2_ n3_ n4_; (try clear hb); (try clear hb2); (try clear hk); (try clear hi)) | ((with_reducible refine gate_dst (N := 9) rfl ?_); refine box_event ?hg (N := 9) ?hd (cs := #[.int .u64 0, .int .u64 0, .int .u64 0, .int .u64 0]) (t := 24) ?hr ?_; (case hd => rfl); (case hg => rfl); (case hr => first | (go_simp; done) | (go_simp; rfl)); intro gb462 hg w57 hbox hb; have n0_ := Zq0 (Zb0 (g := gb449) (o := .cells #[.int .u64 a0_0, .int .u64 a0_1, .int .u64 a0_2, .int .u64 a0_3, .bool a0_4] 26 (0, 0)) (by (with_reducible repeat (first | refine Zn0 ?_ _ | refine Zd0 ?_ | refine Za0 ?_ _)); exact BK449.out) hb); have n1_ := Zq0 (Zb0 (g := gb450) (o := .cells #[.int .u64 a1_0, .int .u64 a1_1, .int .u64 a1_2, .int .u64 a1_3, .bool a1_4] 26 (0, 0)) (by (with_reducible repeat (first | refine Zn0 ?_ _ | refine Zd0 ?_ | refine Za0 ?_ _)); exact BK450.out) hb); have n2_ := Zq0 (Zb0 (g := gb451) (o := .cells #[.int .u64 a2_0, .int .u64 a2_1, .int .u64 a2_2, .int .u64 a2_3, .bool a2_4] 26 (0, 0)) (by (with_reducible repeat (first | refine Zn0 ?_ _ | refine Zd0 ?_ | refine Za0 ?_ _)); exact BK451.out) hb); have n3_ := Zq0 (Zb0 (g := gb457) (o := .cells #[.int .u64 t453, .int .u64 t454, .int .u64 t455, .int .u64 t456] 24 (0, 0)) (by (with_reducible repeat (first | refine Zn0 ?_ _ | refine Zd0 ?_ | refine Za0 ?_ _)); exact BK457.out) hb); have n4_ := Zq0 (below_step (by repeat (first | (with_reducible first | exact HB.out | apply below_alloc | apply Zw0 | apply Ze0 | refine Zs0 ?_ GE449.out | refine Zs0 ?_ GE450.out | refine Zs0 ?_ GE451.out | refine Zs0 ?_ GE457.out) | exact HB.out)) hb); have n5_ := Zq0 (hbox); have n6_ := Zq0 ((by rw [hg]; exact (below_size (by repeat (first | (with_reducible first | exact HB.out | apply below_alloc | apply Zw0 | apply Ze0 | refine Zs0 ?_ GE449.out | refine Zs0 ?_ GE450.out | refine Zs0 ?_ GE451.out | refine Zs0 ?_ GE457.out) | exact HB.out))) : w.heap.size ≤ gb462)); have n7_ := Zq0 ((by rw [hg]; exact (below_size (by repeat (first | (with_reducible first | exact HB.out | apply below_alloc | apply Zw0 | apply Ze0 | refine Zs0 ?_ GE449.out | refine Zs0 ?_ GE450.out | refine Zs0 ?_ GE451.out | refine Zs0 ?_ GE457.out) | exact HB.out))) : w.heap.size ≤ gb462)); have n8_ := Zq0 ((by rw [hg]; exact Nat.ne_of_lt (blk_lt (g := gb449) (o := .cells #[.int .u64 a0_0, .int .u64 a0_1, .int .u64 a0_2, .int .u64 a0_3, .bool a0_4] 26 (0, 0)) (by (with_reducible repeat (first | refine Zn0 ?_ _ | refine Zd0 ?_ | refine Za0 ?_ _)); exact BK449.out)) : gb449 ≠ gb462)); have n9_ := Zq0 ((by rw [hg]; exact Nat.ne_of_gt (blk_lt (g := gb449) (o := .cells #[.int .u64 a0_0, .int .u64 a0_1, .int .u64 a0_2, .int .u64 a0_3, .bool a0_4] 26 (0, 0)) (by (with_reducible repeat (first | refine Zn0 ?_ _ | refine Zd0 ?_ | refine Za0 ?_ _)); exact BK449.out)) : gb462 ≠ gb449)); have n10_ := Zq0 ((by rw [hg]; exact Nat.ne_of_lt (blk_lt (g := gb450) (o := .cells #[.int .u64 a1_0, .int .u64 a1_1, .int .u64 a1_2, .int .u64 a1_3, .bool a1_4] 26 (0, 0)) (by (with_reducible repeat (first | refine Zn0 ?_ _ | refine Zd0 ?_ | refine Za0 ?_ _)); exact BK450.out)) : gb450 ≠ gb462)); have n11_ := Zq0 ((by rw [hg]; exact Nat.ne_of_gt (blk_lt (g := gb450) (o := .cells #[.int .u64 a1_0, .int .u64 a1_1, .int .u64 a1_2, .int .u64 a1_3, .bool a1_4] 26 (0, 0)) (by (with_reducible repeat (first | refine Zn0 ?_ _ | refine Zd0 ?_ | refine Za0 ?_ _)); exact BK450.out)) : gb462 ≠ gb450)); have n12_ := Zq0 ((by rw [hg]; exact Nat.ne_of_lt (blk_lt (g := gb451) (o := .cells #[.int .u64 a2_0, .int .u64 a2_1, .int .u64 a2_2, .int .u64 a2_3, .bool a2_4] 26 (0, 0)) (by (with_reducible repeat (first | refine Zn0 ?_ _ | refine Zd0 ?_ | refine Za0 ?_ _)); exact BK451.out)) : gb451 ≠ gb462)); have n13_ := Zq0 ((by rw [hg]; exact Nat.ne_of_gt (blk_lt (g := gb451) (o := .cells #[.int .u64 a2_0, .int .u64 a2_1, .int .u64 a2_2, .int .u64 a2_3, .bool a2_4] 26 (0, 0)) (by (with_reducible repeat (first | refine Zn0 ?_ _ | refine Zd0 ?_ | refine Za0 ?_ _)); exact BK451.out)) : gb462 ≠ gb451)); have n14_ := Zq0 ((by rw [hg]; exact Nat.ne_of_lt (blk_lt (g := gb457) (o := .cells #[.int .u64 t453, .int .u64 t454, .int .u64 t455, .int .u64 t456] 24 (0, 0)) (by (with_reducible repeat (first | refine Zn0 ?_ _ | refine Zd0 ?_ | refine Za0 ?_ _)); exact BK457.out)) : gb457 ≠ gb462)); have n15_ := Zq0 ((by rw [hg]; exact Nat.ne_of_gt (blk_lt (g := gb457) (o := .cells #[.int .u64 t453, .int .u64 t454, .int .u64 t455, .int .u64 t456] 24 (0, 0)) (by (with_reducible repeat (first | refine Zn0 ?_ _ | refine Zd0 ?_ | refine Za0 ?_ _)); exact BK457.out)) : gb462 ≠ gb457)); clear BK449; clear BK450; clear BK451; clear BK457; clear HB; have BK449 := n0_; have BK450 := n1_; have BK451 := n2_; have BK457 := n3_; have HB := n4_; have BK462 := n5_; have GW462 := n6_; have GE462 := n7_; have NB449_462 := n8_; have NB462_449 := n9_; have NB450_462 := n10_; have NB462_450 := n11_; have NB451_462 := n12_; have NB462_451 := n13_; have NB457_462 := n14_; have NB462_457 := n15_; clear n0_ n1_ n2_ n3_ n4_ n5_ n6_ n7_ n8_ n9_ n10_ n11_ n12_ n13_ n14_ n15_; clear hb hbox hg; have hnb58 := NB462_449.out; have hnc58 := NB449_462.out; have hnb59 := NB462_450.out; have hnc59 := NB450_462.out; have hnb60 := NB462_451.out; have hnc60 := NB451_462.out; have hnb61 := NB462_457.out; have hnc61 := NB457_462.out; have hcz62_0 : w57.cell? ⟨gb462, 0, none⟩ = some (.int .u64 0) := (blk_cell BK462.out 0).trans rfl; have hcz62_1 : w57.cell? ⟨gb462, 1, none⟩ = some (.int .u64 0) := (blk_cell BK462.out 1).trans rfl; have hcz62_2 : w57.cell? ⟨gb462, 2, none⟩ = some (.int .u64 0) := (blk_cell BK462.out 2).trans rfl; have hcz62_3 : w57.cell? ⟨gb462, 3, none⟩ = some (.int .u64 0) := (blk_cell BK462.out 3).trans rfl; have hfz62_0 := blk_frozen BK462.out 0; have hfz62_1 := blk_frozen BK462.out 1; have hfz62_2 := blk_frozen BK462.out 2; have hfz62_3 := blk_frozen BK462.out 3; have hcz63_0 : w57.cell? ⟨gb451, 0, none⟩ = some (.int .u64 a2_0) := (blk_cell BK451.out 0).trans rfl; have hcz63_1 : w57.cell? ⟨gb451, 1, none⟩ = some (.int .u64 a2_1) := (blk_cell BK451.out 1).trans rfl; have hcz63_2 : w57.cell? ⟨gb451, 2, none⟩ = some (.int .u64 a2_2) := (blk_cell BK451.out 2).trans rfl; have hcz63_3 : w57.cell? ⟨gb451, 3, none⟩ = some (.int .u64 a2_3) := (blk_cell BK451.out 3).trans rfl; have hcz63_4 : w57.cell? ⟨gb451, 4, none⟩ = some (.bool a2_4) := (blk_cell BK451.out 4).trans rfl; have hfz63_0 := blk_frozen BK451.out 0; have hfz63_1 := blk_frozen BK451.out 1; have hfz63_2 := blk_frozen BK451.out 2; have hfz63_3 := blk_frozen BK451.out 3; have hfz63_4 := blk_frozen BK451.out 4) | ((with_reducible refine gate_callee (f := 11) rfl ?_); refine goesL_ (some 21) rfl rfl Tryd.func11 (by kernel_rfl) rfl #[.agg #[.int .u64 a2_0, .int .u64 a2_1, .int .u64 a2_2, .int .u64 a2_3, .bool a2_4]] rfl (by (try simp only [List.map_toArray, List.map_cons, List.map_nil]); first | done | rfl | (simp only [List.length_drop, List.length_take]; rfl)) ?_; (with_reducible refine (tenementlaw06_Vector_vector.calls k a2_0 a2_1 a2_2 a2_3 a2_4 t463 t464 t465 t466 _ A8.out).mono ?_); rintro e w64 ⟨rfl, hb⟩; refine ⟨_, rfl, ?_⟩; have n0_ := Zq0 (Zb0 (g := gb449) (o := .cells #[.int .u64 a0_0, .int .u64 a0_1, .int .u64 a0_2, .int .u64 a0_3, .bool a0_4] 26 (0, 0)) (by (repeat (first | (with_reducible first | refine Zn0 ?_ _ | refine Zd0 ?_ | refine Za0 ?_ _) | refine Zf0 ?_ NB449_462.out _)); exact BK449.out) hb); have n1_ := Zq0 (Zb0 (g := gb450) (o := .cells #[.int .u64 a1_0, .int .u64 a1_1, .int .u64 a1_2, .int .u64 a1_3, .bool a1_4] 26 (0, 0)) (by (repeat (first | (with_reducible first | refine Zn0 ?_ _ | refine Zd0 ?_ | refine Za0 ?_ _) | refine Zf0 ?_ NB450_462.out _)); exact BK450.out) hb); have n2_ := Zq0 (Zb0 (g := gb451) (o := .cells #[.int .u64 a2_0, .int .u64 a2_1, .int .u64 a2_2, .int .u64 a2_3, .bool a2_4] 26 (0, 0)) (by (repeat (first | (with_reducible first | refine Zn0 ?_ _ | refine Zd0 ?_ | refine Za0 ?_ _) | refine Zf0 ?_ NB451_462.out _)); exact BK451.out) hb); have n3_ := Zq0 (Zb0 (g := gb457) (o := .cells #[.int .u64 t453, .int .u64 t454, .int .u64 t455, .int .u64 t456] 24 (0, 0)) (by (repeat (first | (with_reducible first | refine Zn0 ?_ _ | refine Zd0 ?_ | refine Za0 ?_ _) | refine Zf0 ?_ NB457_462.out _)); exact BK457.out) hb); have n4_ := Zq0 (Zb0 (g := gb462) (o := .cells #[.int .u64 t458, .int .u64 t459, .int .u64 t460, .int .u64 t461] 24 (0, 0)) (by (with_reducible repeat (first | refine Zn0 ?_ _ | refine Zd0 ?_ | refine Za0 ?_ _)); refine blk_put (cs := #[.int .u64 t458, .int .u64 t459, .int .u64 t460, .int .u64 0]) ?_ 3 _ rfl; (with_reducible repeat (first | refine Zn0 ?_ _ | refine Zd0 ?_ | refine Za0 ?_ _)); refine blk_put (cs := #[.int .u64 t458, .int .u64 t459, .int .u64 0, .int .u64 0]) ?_ 2 _ rfl; (with_reducible repeat (first | refine Zn0 ?_ _ | refine Zd0 ?_ | refine Za0 ?_ _)); refine blk_put (cs := #[.int .u64 t458, .int .u64 0, .int .u64 0, .int .u64 0]) ?_ 1 _ rfl; (with_reducible repeat (first | refine Zn0 ?_ _ | refine Zd0 ?_ | refine Za0 ?_ _)); refine blk_put (cs := #[.int .u64 0, .int .u64 0, .int .u64 0, .int .u64 0]) ?_ 0 _ rfl; (with_reducible repeat (first | refine Zn0 ?_ _ | refine Zd0 ?_ | refine Za0 ?_ _)); exact BK462.out) hb); have n5_ := Zq0 (below_step (by repeat (first | (with_reducible first | exact HB.out | apply below_alloc | apply Zw0 | apply Ze0 | refine Zs0 ?_ GE449.out | refine Zs0 ?_ GE450.out | refine Zs0 ?_ GE451.out | refine Zs0 ?_ GE457.out | refine Zs0 ?_ GE462.out) | exact HB.out)) hb); clear BK449; clear BK450; clear BK451; clear BK457; clear BK462; clear HB; have BK449 := n0_; have BK450 := n1_; have BK451 := n2_; have BK457 := n3_; have BK462 := n4_; have HB := n5_; clear n0_ n1_ n2_ n3_ n4_ n5_; (try clear hb); (try clear hb2); (try clear hk); (try clear hi)) | ((with_reducible refine gate_dst (N := 10) rfl ?_); refine box_event ?hg (N := 10) ?hd (cs := #[.int .u64 0, .int .u64 0, .int .u64 0, .int .u64 0]) (t := 24) ?hr ?_; (case hd => rfl); (case hg => rfl); (case hr => first | (go_simp; done) | (go_simp; rfl)); intro gb467 hg w65 hbox hb; have n0_ := Zq0 (Zb0 (g := gb449) (o := .cells #[.int .u64 a0_0, .int .u64 a0_1, .int .u64 a0_2, .int .u64 a0_3, .bool a0_4] 26 (0, 0)) (by (with_reducible repeat (first | refine Zn0 ?_ _ | refine Zd0 ?_ | refine Za0 ?_ _)); exact BK449.out) hb); have n1_ := Zq0 (Zb0 (g := gb450) (o := .cells #[.int .u64 a1_0, .int .u64 a1_1, .int .u64 a1_2, .int .u64 a1_3, .bool a1_4] 26 (0, 0)) (by (with_reducible repeat (first | refine Zn0 ?_ _ | refine Zd0 ?_ | refine Za0 ?_ _)); exact BK450.out) hb); have n2_ := Zq0 (Zb0 (g := gb451) (o := .cells #[.int .u64 a2_0, .int .u64 a2_1, .int .u64 a2_2, .int .u64 a2_3, .bool a2_4] 26 (0, 0)) (by (with_reducible repeat (first | refine Zn0 ?_ _ | refine Zd0 ?_ | refine Za0 ?_ _)); exact BK451.out) hb); have n3_ := Zq0 (Zb0 (g := gb457) (o := .cells #[.int .u64 t453, .int .u64 t454, .int .u64 t455, .int .u64 t456] 24 (0, 0)) (by (with_reducible repeat (first | refine Zn0 ?_ _ | refine Zd0 ?_ | refine Za0 ?_ _)); exact BK457.out) hb); have n4_ := Zq0 (Zb0 (g := gb462) (o := .cells #[.int .u64 t458, .int .u64 t459, .int .u64 t460, .int .u64 t461] 24 (0, 0)) (by (with_reducible repeat (first | refine Zn0 ?_ _ | refine Zd0 ?_ | refine Za0 ?_ _)); exact BK462.out) hb); have n5_ := Zq0 (below_step (by repeat (first | (with_reducible first | exact HB.out | apply below_alloc | apply Zw0 | apply Ze0 | refine Zs0 ?_ GE449.out | refine Zs0 ?_ GE450.out | refine Zs0 ?_ GE451.out | refine Zs0 ?_ GE457.out | refine Zs0 ?_ GE462.out) | exact HB.out)) hb); have n6_ := Zq0 (hbox); have n7_ := Zq0 ((by rw [hg]; exact (below_size (by repeat (first | (with_reducible first | exact HB.out | apply below_alloc | apply Zw0 | apply Ze0 | refine Zs0 ?_ GE449.out | refine Zs0 ?_ GE450.out | refine Zs0 ?_ GE451.out | refine Zs0 ?_ GE457.out | refine Zs0 ?_ GE462.out) | exact HB.out))) : w.heap.size ≤ gb467)); have n8_ := Zq0 ((by rw [hg]; exact (below_size (by repeat (first | (with_reducible first | exact HB.out | apply below_alloc | apply Zw0 | apply Ze0 | refine Zs0 ?_ GE449.out | refine Zs0 ?_ GE450.out | refine Zs0 ?_ GE451.out | refine Zs0 ?_ GE457.out | refine Zs0 ?_ GE462.out) | exact HB.out))) : w.heap.size ≤ gb467)); have n9_ := Zq0 ((by rw [hg]; exact Nat.ne_of_lt (blk_lt (g := gb449) (o := .cells #[.int .u64 a0_0, .int .u64 a0_1, .int .u64 a0_2, .int .u64 a0_3, .bool a0_4] 26 (0, 0)) (by (with_reducible repeat (first | refine Zn0 ?_ _ | refine Zd0 ?_ | refine Za0 ?_ _)); exact BK449.out)) : gb449 ≠ gb467)); have n10_ := Zq0 ((by rw [hg]; exact Nat.ne_of_gt (blk_lt (g := gb449) (o := .cells #[.int .u64 a0_0, .int .u64 a0_1, .int .u64 a0_2, .int .u64 a0_3, .bool a0_4] 26 (0, 0)) (by (with_reducible repeat (first | refine Zn0 ?_ _ | refine Zd0 ?_ | refine Za0 ?_ _)); exact BK449.out)) : gb467 ≠ gb449)); have n11_ := Zq0 ((by rw [hg]; exact Nat.ne_of_lt (blk_lt (g := gb450) (o := .cells #[.int .u64 a1_0, .int .u64 a1_1, .int .u64 a1_2, .int .u64 a1_3, .bool a1_4] 26 (0, 0)) (by (with_reducible repeat (first | refine Zn0 ?_ _ | refine Zd0 ?_ | refine Za0 ?_ _)); exact BK450.out)) : gb450 ≠ gb467)); have n12_ := Zq0 ((by rw [hg]; exact Nat.ne_of_gt (blk_lt (g := gb450) (o := .cells #[.int .u64 a1_0, .int .u64 a1_1, .int .u64 a1_2, .int .u64 a1_3, .bool a1_4] 26 (0, 0)) (by (with_reducible repeat (first | refine Zn0 ?_ _ | refine Zd0 ?_ | refine Za0 ?_ _)); exact BK450.out)) : gb467 ≠ gb450)); have n13_ := Zq0 ((by rw [hg]; exact Nat.ne_of_lt (blk_lt (g := gb451) (o := .cells #[.int .u64 a2_0, .int .u64 a2_1, .int .u64 a2_2, .int .u64 a2_3, .bool a2_4] 26 (0, 0)) (by (with_reducible repeat (first | refine Zn0 ?_ _ | refine Zd0 ?_ | refine Za0 ?_ _)); exact BK451.out)) : gb451 ≠ gb467)); have n14_ := Zq0 ((by rw [hg]; exact Nat.ne_of_gt (blk_lt (g := gb451) (o := .cells #[.int .u64 a2_0, .int .u64 a2_1, .int .u64 a2_2, .int .u64 a2_3, .bool a2_4] 26 (0, 0)) (by (with_reducible repeat (first | refine Zn0 ?_ _ | refine Zd0 ?_ | refine Za0 ?_ _)); exact BK451.out)) : gb467 ≠ gb451)); have n15_ := Zq0 ((by rw [hg]; exact Nat.ne_of_lt (blk_lt (g := gb457) (o := .cells #[.int .u64 t453, .int .u64 t454, .int .u64 t455, .int .u64 t456] 24 (0, 0)) (by (with_reducible repeat (first | refine Zn0 ?_ _ | refine Zd0 ?_ | refine Za0 ?_ _)); exact BK457.out)) : gb457 ≠ gb467)); have n16_ := Zq0 ((by rw [hg]; exact Nat.ne_of_gt (blk_lt (g := gb457) (o := .cells #[.int .u64 t453, .int .u64 t454, .int .u64 t455, .int .u64 t456] 24 (0, 0)) (by (with_reducible repeat (first | refine Zn0 ?_ _ | refine Zd0 ?_ | refine Za0 ?_ _)); exact BK457.out)) : gb467 ≠ gb457)); have n17_ := Zq0 ((by rw [hg]; exact Nat.ne_of_lt (blk_lt (g := gb462) (o := .cells #[.int .u64 t458, .int .u64 t459, .int .u64 t460, .int .u64 t461] 24 (0, 0)) (by (with_reducible repeat (first | refine Zn0 ?_ _ | refine Zd0 ?_ | refine Za0 ?_ _)); exact BK462.out)) : gb462 ≠ gb467)); have n18_ := Zq0 ((by rw [hg]; exact Nat.ne_of_gt (blk_lt (g := gb462) (o := .cells #[.int .u64 t458, .int .u64 t459, .int .u64 t460, .int .u64 t461] 24 (0, 0)) (by (with_reducible repeat (first | refine Zn0 ?_ _ | refine Zd0 ?_ | refine Za0 ?_ _)); exact BK462.out)) : gb467 ≠ gb462)); clear BK449; clear BK450; clear BK451; clear BK457; clear BK462; clear HB; have BK449 := n0_; have BK450 := n1_; have BK451 := n2_; have BK457 := n3_; have BK462 := n4_; have HB := n5_; have BK467 := n6_; have GW467 := n7_; have GE467 := n8_; have NB449_467 := n9_; have NB467_449 := n10_; have NB450_467 := n11_; have NB467_450 := n12_; have NB451_467 := n13_; have NB467_451 := n14_; have NB457_467 := n15_; have NB467_457 := n16_; have NB462_467 := n17_; have NB467_462 := n18_; clear n0_ n1_ n2_ n3_ n4_ n5_ n6_ n7_ n8_ n9_ n10_ n11_ n12_ n13_ n14_ n15_ n16_ n17_ n18_; clear hb hbox hg; have hnb66 := NB467_449.out; have hnc66 := NB449_467.out; have hnb67 := NB467_450.out; have hnc67 := NB450_467.out; have hnb68 := NB467_451.out; have hnc68 := NB451_467.out; have hnb69 := NB467_457.out; have hnc69 := NB457_467.out; have hnb70 := NB467_462.out; have hnc70 := NB462_467.out; have hcz71_0 : w65.cell? ⟨gb467, 0, none⟩ = some (.int .u64 0) := (blk_cell BK467.out 0).trans rfl; have hcz71_1 : w65.cell? ⟨gb467, 1, none⟩ = some (.int .u64 0) := (blk_cell BK467.out 1).trans rfl; have hcz71_2 : w65.cell? ⟨gb467, 2, none⟩ = some (.int .u64 0) := (blk_cell BK467.out 2).trans rfl; have hcz71_3 : w65.cell? ⟨gb467, 3, none⟩ = some (.int .u64 0) := (blk_cell BK467.out 3).trans rfl; have hfz71_0 := blk_frozen BK467.out 0; have hfz71_1 := blk_frozen BK467.out 1; have hfz71_2 := blk_frozen BK467.out 2; have hfz71_3 := blk_frozen BK467.out 3; have hcz72_0 : w65.cell? ⟨gb457, 0, none⟩ = some (.int .u64 t453) := (blk_cell BK457.out 0).trans rfl; have hcz72_1 : w65.cell? ⟨gb457, 1, none⟩ = some (.int .u64 t454) := (blk_cell BK457.out 1).trans rfl; have hcz72_2 : w65.cell? ⟨gb457, 2, none⟩ = some (.int .u64 t455) := (blk_cell BK457.out 2).trans rfl; have hcz72_3 : w65.cell? ⟨gb457, 3, none⟩ = some (.int .u64 t456) := (blk_cell BK457.out 3).trans rfl; have hfz72_0 := blk_frozen BK457.out 0; have hfz72_1 := blk_frozen BK457.out 1; have hfz72_2 := blk_frozen BK457.out 2; have hfz72_3 := blk_frozen BK457.out 3; have hcz73_0 : w65.cell? ⟨gb462, 0, none⟩ = some (.int .u64 t458) := (blk_cell BK462.out 0).trans rfl; have hcz73_1 : w65.cell? ⟨gb462, 1, none⟩ = some (.int .u64 t459) := (blk_cell BK462.out 1).trans rfl; have hcz73_2 : w65.cell? ⟨gb462, 2, none⟩ = some (.int .u64 t460) := (blk_cell BK462.out 2).trans rfl; have hcz73_3 : w65.cell? ⟨gb462, 3, none⟩ = some (.int .u64 t461) := (blk_cell BK462.out 3).trans rfl; have hfz73_0 := blk_frozen BK462.out 0; have hfz73_1 := blk_frozen BK462.out 1; have hfz73_2 := blk_frozen BK462.out 2; have hfz73_3 := blk_frozen BK462.out 3) | ((with_reducible refine gate_callee (f := 12) rfl ?_); refine goesL_ (some 24) rfl rfl Tryd.func12 (by kernel_rfl) rfl #[.agg #[.int .u64 t453, .int .u64 t454, .int .u64 t455, .int .u64 t456], .agg #[.int .u64 t458, .int .u64 t459, .int .u64 t460, .int .u64 t461]] rfl (by (try simp only [List.map_toArray, List.map_cons, List.map_nil]); first | done | rfl | (simp only [List.length_drop, List.length_take]; rfl)) ?_; (with_reducible refine (vec_Join.calls t453 t454 t455 t456 t458 t459 t460 t461 t468 t469 t470 t471 _ A9.out).mono ?_); rintro e w74 ⟨rfl, hb⟩; refine ⟨_, rfl, ?_⟩; have n0_ := Zq0 (Zb0 (g := gb449) (o := .cells #[.int .u64 a0_0, .int .u64 a0_1, .int .u64 a0_2, .int .u64 a0_3, .bool a0_4] 26 (0, 0)) (by (repeat (first | (with_reducible first | refine Zn0 ?_ _ | refine Zd0 ?_ | refine Za0 ?_ _) | refine Zf0 ?_ NB449_467.out _)); exact BK449.out) hb); have n1_ := Zq0 (Zb0 (g := gb450) (o := .cells #[.int .u64 a1_0, .int .u64 a1_1, .int .u64 a1_2, .int .u64 a1_3, .bool a1_4] 26 (0, 0)) (by (repeat (first | (with_reducible first | refine Zn0 ?_ _ | refine Zd0 ?_ | refine Za0 ?_ _) | refine Zf0 ?_ NB450_467.out _)); exact BK450.out) hb); have n2_ := Zq0 (Zb0 (g := gb451) (o := .cells #[.int .u64 a2_0, .int .u64 a2_1, .int .u64 a2_2, .int .u64 a2_3, .bool a2_4] 26 (0, 0)) (by (repeat (first | (with_reducible first | refine Zn0 ?_ _ | refine Zd0 ?_ | refine Za0 ?_ _) | refine Zf0 ?_ NB451_467.out _)); exact BK451.out) hb); have n3_ := Zq0 (Zb0 (g := gb457) (o := .cells #[.int .u64 t453, .int .u64 t454, .int .u64 t455, .int .u64 t456] 24 (0, 0)) (by (repeat (first | (with_reducible first | refine Zn0 ?_ _ | refine Zd0 ?_ | refine Za0 ?_ _) | refine Zf0 ?_ NB457_467.out _)); exact BK457.out) hb); have n4_ := Zq0 (Zb0 (g := gb462) (o := .cells #[.int .u64 t458, .int .u64 t459, .int .u64 t460, .int .u64 t461] 24 (0, 0)) (by (repeat (first | (with_reducible first | refine Zn0 ?_ _ | refine Zd0 ?_ | refine Za0 ?_ _) | refine Zf0 ?_ NB462_467.out _)); exact BK462.out) hb); have n5_ := Zq0 (Zb0 (g := gb467) (o := .cells #[.int .u64 t463, .int .u64 t464, .int .u64 t465, .int .u64 t466] 24 (0, 0)) (by (with_reducible repeat (first | refine Zn0 ?_ _ | refine Zd0 ?_ | refine Za0 ?_ _)); refine blk_put (cs := #[.int .u64 t463, .int .u64 t464, .int .u64 t465, .int .u64 0]) ?_ 3 _ rfl; (with_reducible repeat (first | refine Zn0 ?_ _ | refine Zd0 ?_ | refine Za0 ?_ _)); refine blk_put (cs := #[.int .u64 t463, .int .u64 t464, .int .u64 0, .int .u64 0]) ?_ 2 _ rfl; (with_reducible repeat (first | refine Zn0 ?_ _ | refine Zd0 ?_ | refine Za0 ?_ _)); refine blk_put (cs := #[.int .u64 t463, .int .u64 0, .int .u64 0, .int .u64 0]) ?_ 1 _ rfl; (with_reducible repeat (first | refine Zn0 ?_ _ | refine Zd0 ?_ | refine Za0 ?_ _)); refine blk_put (cs := #[.int .u64 0, .int .u64 0, .int .u64 0, .int .u64 0]) ?_ 0 _ rfl; (with_reducible repeat (first | refine Zn0 ?_ _ | refine Zd0 ?_ | refine Za0 ?_ _)); exact BK467.out) hb); have n6_ := Zq0 (below_step (by repeat (first | (with_reducible first | exact HB.out | apply below_alloc | apply Zw0 | apply Ze0 | refine Zs0 ?_ GE449.out | refine Zs0 ?_ GE450.out | refine Zs0 ?_ GE451.out | refine Zs0 ?_ GE457.out | refine Zs0 ?_ GE462.out | refine Zs0 ?_ GE467.out) | exact HB.out)) hb); clear BK449; clear BK450; clear BK451; clear BK457; clear BK462; clear BK467; clear HB; have BK449 := n0_; have BK450 := n1_; have BK451 := n2_; have BK457 := n3_; have BK462 := n4_; have BK467 := n5_; have HB := n6_; clear n0_ n1_ n2_ n3_ n4_ n5_ n6_; (try clear hb); (try clear hb2); (try clear hk); (try clear hi)) | ((with_reducible refine gate_dst (N := 11) rfl ?_); refine box_event ?hg (N := 11) ?hd (cs := #[.int .u64 0, .int .u64 0, .int .u64 0, .int .u64 0]) (t := 24) ?hr ?_; (case hd => rfl); (case hg => rfl); (case hr => first | (go_simp; done) | (go_simp; rfl)); intro gb472 hg w75 hbox hb; have n0_ := Zq0 (Zb0 (g := gb449) (o := .cells #[.int .u64 a0_0, .int .u64 a0_1, .int .u64 a0_2, .int .u64 a0_3, .bool a0_4] 26 (0, 0)) (by (with_reducible repeat (first | refine Zn0 ?_ _ | refine Zd0 ?_ | refine Za0 ?_ _)); exact BK449.out) hb); have n1_ := Zq0 (Zb0 (g := gb450) (o := .cells #[.int .u64 a1_0, .int .u64 a1_1, .int .u64 a1_2, .int .u64 a1_3, .bool a1_4] 26 (0, 0)) (by (with_reducible repeat (first | refine Zn0 ?_ _ | refine Zd0 ?_ | refine Za0 ?_ _)); exact BK450.out) hb); have n2_ := Zq0 (Zb0 (g := gb451) (o := .cells #[.int .u64 a2_0, .int .u64 a2_1, .int .u64 a2_2, .int .u64 a2_3, .bool a2_4] 26 (0, 0)) (by (with_reducible repeat (first | refine Zn0 ?_ _ | refine Zd0 ?_ | refine Za0 ?_ _)); exact BK451.out) hb); have n3_ := Zq0 (Zb0 (g := gb457) (o := .cells #[.int .u64 t453, .int .u64 t454, .int .u64 t455, .int .u64 t456] 24 (0, 0)) (by (with_reducible repeat (first | refine Zn0 ?_ _ | refine Zd0 ?_ | refine Za0 ?_ _)); exact BK457.out) hb); have n4_ := Zq0 (Zb0 (g := gb462) (o := .cells #[.int .u64 t458, .int .u64 t459, .int .u64 t460, .int .u64 t461] 24 (0, 0)) (by (with_reducible repeat (first | refine Zn0 ?_ _ | refine Zd0 ?_ | refine Za0 ?_ _)); exact BK462.out) hb); have n5_ := Zq0 (Zb0 (g := gb467) (o := .cells #[.int .u64 t463, .int .u64 t464, .int .u64 t465, .int .u64 t466] 24 (0, 0)) (by (with_reducible repeat (first | refine Zn0 ?_ _ | refine Zd0 ?_ | refine Za0 ?_ _)); exact BK467.out) hb); have n6_ := Zq0 (below_step (by repeat (first | (with_reducible first | exact HB.out | apply below_alloc | apply Zw0 | apply Ze0 | refine Zs0 ?_ GE449.out | refine Zs0 ?_ GE450.out | refine Zs0 ?_ GE451.out | refine Zs0 ?_ GE457.out | refine Zs0 ?_ GE462.out | refine Zs0 ?_ GE467.out) | exact HB.out)) hb); have n7_ := Zq0 (hbox); have n8_ := Zq0 ((by rw [hg]; exact (below_size (by repeat (first | (with_reducible first | exact HB.out | apply below_alloc | apply Zw0 | apply Ze0 | refine Zs0 ?_ GE449.out | refine Zs0 ?_ GE450.out | refine Zs0 ?_ GE451.out | refine Zs0 ?_ GE457.out | refine Zs0 ?_ GE462.out | refine Zs0 ?_ GE467.out) | exact HB.out))) : w.heap.size ≤ gb472)); have n9_ := Zq0 ((by rw [hg]; exact (below_size (by repeat (first | (with_reducible first | exact HB.out | apply below_alloc | apply Zw0 | apply Ze0 | refine Zs0 ?_ GE449.out | refine Zs0 ?_ GE450.out | refine Zs0 ?_ GE451.out | refine Zs0 ?_ GE457.out | refine Zs0 ?_ GE462.out | refine Zs0 ?_ GE467.out) | exact HB.out))) : w.heap.size ≤ gb472)); have n10_ := Zq0 ((by rw [hg]; exact Nat.ne_of_lt (blk_lt (g := gb449) (o := .cells #[.int .u64 a0_0, .int .u64 a0_1, .int .u64 a0_2, .int .u64 a0_3, .bool a0_4] 26 (0, 0)) (by (with_reducible repeat (first | refine Zn0 ?_ _ | refine Zd0 ?_ | refine Za0 ?_ _)); exact BK449.out)) : gb449 ≠ gb472)); have n11_ := Zq0 ((by rw [hg]; exact Nat.ne_of_gt (blk_lt (g := gb449) (o := .cells #[.int .u64 a0_0, .int .u64 a0_1, .int .u64 a0_2, .int .u64 a0_3, .bool a0_4] 26 (0, 0)) (by (with_reducible repeat (first | refine Zn0 ?_ _ | refine Zd0 ?_ | refine Za0 ?_ _)); exact BK449.out)) : gb472 ≠ gb449)); have n12_ := Zq0 ((by rw [hg]; exact Nat.ne_of_lt (blk_lt (g := gb450) (o := .cells #[.int .u64 a1_0, .int .u64 a1_1, .int .u64 a1_2, .int .u64 a1_3, .bool a1_4] 26 (0, 0)) (by (with_reducible repeat (first | refine Zn0 ?_ _ | refine Zd0 ?_ | refine Za0 ?_ _)); exact BK450.out)) : gb450 ≠ gb472)); have n13_ := Zq0 ((by rw [hg]; exact Nat.ne_of_gt (blk_lt (g := gb450) (o := .cells #[.int .u64 a1_0, .int .u64 a1_1, .int .u64 a1_2, .int .u64 a1_3, .bool a1_4] 26 (0, 0)) (by (with_reducible repeat (first | refine Zn0 ?_ _ | refine Zd0 ?_ | refine Za0 ?_ _)); exact BK450.out)) : gb472 ≠ gb450)); have n14_ := Zq0 ((by rw [hg]; exact Nat.ne_of_lt (blk_lt (g := gb451) (o := .cells #[.int .u64 a2_0, .int .u64 a2_1, .int .u64 a2_2, .int .u64 a2_3, .bool a2_4] 26 (0, 0)) (by (with_reducible repeat (first | refine Zn0 ?_ _ | refine Zd0 ?_ | refine Za0 ?_ _)); exact BK451.out)) : gb451 ≠ gb472)); have n15_ := Zq0 ((by rw [hg]; exact Nat.ne_of_gt (blk_lt (g := gb451) (o := .cells #[.int .u64 a2_0, .int .u64 a2_1, .int .u64 a2_2, .int .u64 a2_3, .bool a2_4] 26 (0, 0)) (by (with_reducible repeat (first | refine Zn0 ?_ _ | refine Zd0 ?_ | refine Za0 ?_ _)); exact BK451.out)) : gb472 ≠ gb451)); have n16_ := Zq0 ((by rw [hg]; exact Nat.ne_of_lt (blk_lt (g := gb457) (o := .cells #[.int .u64 t453, .int .u64 t454, .int .u64 t455, .int .u64 t456] 24 (0, 0)) (by (with_reducible repeat (first | refine Zn0 ?_ _ | refine Zd0 ?_ | refine Za0 ?_ _)); exact BK457.out)) : gb457 ≠ gb472)); have n17_ := Zq0 ((by rw [hg]; exact Nat.ne_of_gt (blk_lt (g := gb457) (o := .cells #[.int .u64 t453, .int .u64 t454, .int .u64 t455, .int .u64 t456] 24 (0, 0)) (by (with_reducible repeat (first | refine Zn0 ?_ _ | refine Zd0 ?_ | refine Za0 ?_ _)); exact BK457.out)) : gb472 ≠ gb457)); have n18_ := Zq0 ((by rw [hg]; exact Nat.ne_of_lt (blk_lt (g := gb462) (o := .cells #[.int .u64 t458, .int .u64 t459, .int .u64 t460, .int .u64 t461] 24 (0, 0)) (by (with_reducible repeat (first | refine Zn0 ?_ _ | refine Zd0 ?_ | refine Za0 ?_ _)); exact BK462.out)) : gb462 ≠ gb472)); have n19_ := Zq0 ((by rw [hg]; exact Nat.ne_of_gt (blk_lt (g := gb462) (o := .cells #[.int .u64 t458, .int .u64 t459, .int .u64 t460, .int .u64 t461] 24 (0, 0)) (by (with_reducible repeat (first | refine Zn0 ?_ _ | refine Zd0 ?_ | refine Za0 ?_ _)); exact BK462.out)) : gb472 ≠ gb462)); have n20_ := Zq0 ((by rw [hg]; exact Nat.ne_of_lt (blk_lt (g := gb467) (o := .cells #[.int .u64 t463, .int .u64 t464, .int .u64 t465, .int .u64 t466] 24 (0, 0)) (by (with_reducible repeat (first | refine Zn0 ?_ _ | refine Zd0 ?_ | refine Za0 ?_ _)); exact BK467.out)) : gb467 ≠ gb472)); have n21_ := Zq0 ((by rw [hg]; exact Nat.ne_of_gt (blk_lt (g := gb467) (o := .cells #[.int .u64 t463, .int .u64 t464, .int .u64 t465, .int .u64 t466] 24 (0, 0)) (by (with_reducible repeat (first | refine Zn0 ?_ _ | refine Zd0 ?_ | refine Za0 ?_ _)); exact BK467.out)) : gb472 ≠ gb467)); clear BK449; clear BK450; clear BK451; clear BK457; clear BK462; clear BK467; clear HB; have BK449 := n0_; have BK450 := n1_; have BK451 := n2_; have BK457 := n3_; have BK462 := n4_; have BK467 := n5_; have HB := n6_; have BK472 := n7_; have GW472 := n8_; have GE472 := n9_; have NB449_472 := n10_; have NB472_449 := n11_; have NB450_472 := n12_; have NB472_450 := n13_; have NB451_472 := n14_; have NB472_451 := n15_; have NB457_472 := n16_; have NB472_457 := n17_; have NB462_472 := n18_; have NB472_462 := n19_; have NB467_472 := n20_; have NB472_467 := n21_; clear n0_ n1_ n2_ n3_ n4_ n5_ n6_ n7_ n8_ n9_ n10_ n11_ n12_ n13_ n14_ n15_ n16_ n17_ n18_ n19_ n20_ n21_; clear hb hbox hg; have hnb76 := NB472_449.out; have hnc76 := NB449_472.out; have hnb77 := NB472_450.out; have hnc77 := NB450_472.out; have hnb78 := NB472_451.out; have hnc78 := NB451_472.out; have hnb79 := NB472_457.out; have hnc79 := NB457_472.out; have hnb80 := NB472_462.out; have hnc80 := NB462_472.out; have hnb81 := NB472_467.out; have hnc81 := NB467_472.out; have hcz82_0 : w75.cell? ⟨gb472, 0, none⟩ = some (.int .u64 0) := (blk_cell BK472.out 0).trans rfl; have hcz82_1 : w75.cell? ⟨gb472, 1, none⟩ = some (.int .u64 0) := (blk_cell BK472.out 1).trans rfl; have hcz82_2 : w75.cell? ⟨gb472, 2, none⟩ = some (.int .u64 0) := (blk_cell BK472.out 2).trans rfl; have hcz82_3 : w75.cell? ⟨gb472, 3, none⟩ = some (.int .u64 0) := (blk_cell BK472.out 3).trans rfl; have hfz82_0 := blk_frozen BK472.out 0; have hfz82_1 := blk_frozen BK472.out 1; have hfz82_2 := blk_frozen BK472.out 2; have hfz82_3 := blk_frozen BK472.out 3; have hcz83_0 : w75.cell? ⟨gb457, 0, none⟩ = some (.int .u64 t453) := (blk_cell BK457.out 0).trans rfl; have hcz83_1 : w75.cell? ⟨gb457, 1, none⟩ = some (.int .u64 t454) := (blk_cell BK457.out 1).trans rfl; have hcz83_2 : w75.cell? ⟨gb457, 2, none⟩ = some (.int .u64 t455) := (blk_cell BK457.out 2).trans rfl; have hcz83_3 : w75.cell? ⟨gb457, 3, none⟩ = some (.int .u64 t456) := (blk_cell BK457.out 3).trans rfl; have hfz83_0 := blk_frozen BK457.out 0; have hfz83_1 := blk_frozen BK457.out 1; have hfz83_2 := blk_frozen BK457.out 2; have hfz83_3 := blk_frozen BK457.out 3; have hcz84_0 : w75.cell? ⟨gb462, 0, none⟩ = some (.int .u64 t458) := (blk_cell BK462.out 0).trans rfl; have hcz84_1 : w75.cell? ⟨gb462, 1, none⟩ = some (.int .u64 t459) := (blk_cell BK462.out 1).trans rfl; have hcz84_2 : w75.cell? ⟨gb462, 2, none⟩ = some (.int .u64 t460) := (blk_cell BK462.out 2).trans rfl; have hcz84_3 : w75.cell? ⟨gb462, 3, none⟩ = some (.int .u64 t461) := (blk_cell BK462.out 3).trans rfl; have hfz84_0 := blk_frozen BK462.out 0; have hfz84_1 := blk_frozen BK462.out 1; have hfz84_2 := blk_frozen BK462.out 2; have hfz84_3 := blk_frozen BK462.out 3) | ((with_reducible refine gate_callee (f := 14) rfl ?_); refine goesL_ (some 27) rfl rfl Tryd.func14 (by kernel_rfl) rfl #[.agg #[.int .u64 t453, .int .u64 t454, .int .u64 t455, .int .u64 t456], .agg #[.int .u64 t458, .int .u64 t459, .int .u64 t460, .int .u64 t461]] rfl (by (try simp only [List.map_toArray, List.map_cons, List.map_nil]); first | done | rfl | (simp only [List.length_drop, List.length_take]; rfl)) ?_; (with_reducible refine (vec_Meet.calls t453 t454 t455 t456 t458 t459 t460 t461 t473 t474 t475 t476 _ A10.out).mono ?_); rintro e w85 ⟨rfl, hb⟩; refine ⟨_, rfl, ?_⟩; have n0_ := Zq0 (Zb0 (g := gb449) (o := .cells #[.int .u64 a0_0, .int .u64 a0_1, .int .u64 a0_2, .int .u64 a0_3, .bool a0_4] 26 (0, 0)) (by (repeat (first | (with_reducible first | refine Zn0 ?_ _ | refine Zd0 ?_ | refine Za0 ?_ _) | refine Zf0 ?_ NB449_472.out _)); exact BK449.out) hb); have n1_ := Zq0 (Zb0 (g := gb450) (o := .cells #[.int .u64 a1_0, .int .u64 a1_1, .int .u64 a1_2, .int .u64 a1_3, .bool a1_4] 26 (0, 0)) (by (repeat (first | (with_reducible first | refine Zn0 ?_ _ | refine Zd0 ?_ | refine Za0 ?_ _) | refine Zf0 ?_ NB450_472.out _)); exact BK450.out) hb); have n2_ := Zq0 (Zb0 (g := gb451) (o := .cells #[.int .u64 a2_0, .int .u64 a2_1, .int .u64 a2_2, .int .u64 a2_3, .bool a2_4] 26 (0, 0)) (by (repeat (first | (with_reducible first | refine Zn0 ?_ _ | refine Zd0 ?_ | refine Za0 ?_ _) | refine Zf0 ?_ NB451_472.out _)); exact BK451.out) hb); have n3_ := Zq0 (Zb0 (g := gb457) (o := .cells #[.int .u64 t453, .int .u64 t454, .int .u64 t455, .int .u64 t456] 24 (0, 0)) (by (repeat (first | (with_reducible first | refine Zn0 ?_ _ | refine Zd0 ?_ | refine Za0 ?_ _) | refine Zf0 ?_ NB457_472.out _)); exact BK457.out) hb); have n4_ := Zq0 (Zb0 (g := gb462) (o := .cells #[.int .u64 t458, .int .u64 t459, .int .u64 t460, .int .u64 t461] 24 (0, 0)) (by (repeat (first | (with_reducible first | refine Zn0 ?_ _ | refine Zd0 ?_ | refine Za0 ?_ _) | refine Zf0 ?_ NB462_472.out _)); exact BK462.out) hb); have n5_ := Zq0 (Zb0 (g := gb467) (o := .cells #[.int .u64 t463, .int .u64 t464, .int .u64 t465, .int .u64 t466] 24 (0, 0)) (by (repeat (first | (with_reducible first | refine Zn0 ?_ _ | refine Zd0 ?_ | refine Za0 ?_ _) | refine Zf0 ?_ NB467_472.out _)); exact BK467.out) hb); have n6_ := Zq0 (Zb0 (g := gb472) (o := .cells #[.int .u64 t468, .int .u64 t469, .int .u64 t470, .int .u64 t471] 24 (0, 0)) (by (with_reducible repeat (first | refine Zn0 ?_ _ | refine Zd0 ?_ | refine Za0 ?_ _)); refine blk_put (cs := #[.int .u64 t468, .int .u64 t469, .int .u64 t470, .int .u64 0]) ?_ 3 _ rfl; (with_reducible repeat (first | refine Zn0 ?_ _ | refine Zd0 ?_ | refine Za0 ?_ _)); refine blk_put (cs := #[.int .u64 t468, .int .u64 t469, .int .u64 0, .int .u64 0]) ?_ 2 _ rfl; (with_reducible repeat (first | refine Zn0 ?_ _ | refine Zd0 ?_ | refine Za0 ?_ _)); refine blk_put (cs := #[.int .u64 t468, .int .u64 0, .int .u64 0, .int .u64 0]) ?_ 1 _ rfl; (with_reducible repeat (first | refine Zn0 ?_ _ | refine Zd0 ?_ | refine Za0 ?_ _)); refine blk_put (cs := #[.int .u64 0, .int .u64 0, .int .u64 0, .int .u64 0]) ?_ 0 _ rfl; (with_reducible repeat (first | refine Zn0 ?_ _ | refine Zd0 ?_ | refine Za0 ?_ _)); exact BK472.out) hb); have n7_ := Zq0 (below_step (by repeat (first | (with_reducible first | exact HB.out | apply below_alloc | apply Zw0 | apply Ze0 | refine Zs0 ?_ GE449.out | refine Zs0 ?_ GE450.out | refine Zs0 ?_ GE451.out | refine Zs0 ?_ GE457.out | refine Zs0 ?_ GE462.out | refine Zs0 ?_ GE467.out | refine Zs0 ?_ GE472.out) | exact HB.out)) hb); clear BK449; clear BK450; clear BK451; clear BK457; clear BK462; clear BK467; clear BK472; clear HB; have BK449 := n0_; have BK450 := n1_; have BK451 := n2_; have BK457 := n3_; have BK462 := n4_; have BK467 := n5_; have BK472 := n6_; have HB := n7_; clear n0_ n1_ n2_ n3_ n4_ n5_ n6_ n7_; (try clear hb); (try clear hb2); (try clear hk); (try clear hi)) | ((with_reducible refine gate_dst (N := 12) rfl ?_); refine box_event ?hg (N := 12) ?hd (cs := #[.int .u64 0, .int .u64 0, .int .u64 0, .int .u64 0]) (t := 24) ?hr ?_; (case hd => rfl); (case hg => rfl); (case hr => first | (go_simp; done) | (go_simp; rfl)); intro gb477 hg w86 hbox hb; have n0_ := Zq0 (Zb0 (g := gb449) (o := .cells #[.int .u64 a0_0, .int .u64 a0_1, .int .u64 a0_2, .int .u64 a0_3, .bool a0_4] 26 (0, 0)) (by (with_reducible repeat (first | refine Zn0 ?_ _ | refine Zd0 ?_ | refine Za0 ?_ _)); exact BK449.out) hb); have n1_ := Zq0 (Zb0 (g := gb450) (o := .cells #[.int .u64 a1_0, .int .u64 a1_1, .int .u64 a1_2, .int .u64 a1_3, .bool a1_4] 26 (0, 0)) (by (with_reducible repeat (first | refine Zn0 ?_ _ | refine Zd0 ?_ | refine Za0 ?_ _)); exact BK450.out) hb); have n2_ := Zq0 (Zb0 (g := gb451) (o := .cells #[.int .u64 a2_0, .int .u64 a2_1, .int .u64 a2_2, .int .u64 a2_3, .bool a2_4] 26 (0, 0)) (by (with_reducible repeat (first | refine Zn0 ?_ _ | refine Zd0 ?_ | refine Za0 ?_ _)); exact BK451.out) hb); have n3_ := Zq0 (Zb0 (g := gb457) (o := .cells #[.int .u64 t453, .int .u64 t454, .int .u64 t455, .int .u64 t456] 24 (0, 0)) (by (with_reducible repeat (first | refine Zn0 ?_ _ | refine Zd0 ?_ | refine Za0 ?_ _)); exact BK457.out) hb); have n4_ := Zq0 (Zb0 (g := gb462) (o := .cells #[.int .u64 t458, .int .u64 t459, .int .u64 t460, .int .u64 t461] 24 (0, 0)) (by (with_reducible repeat (first | refine Zn0 ?_ _ | refine Zd0 ?_ | refine Za0 ?_ _)); exact BK462.out) hb); have n5_ := Zq0 (Zb0 (g := gb467) (o := .cells #[.int .u64 t463, .int .u64 t464, .int .u64 t465, .int .u64 t466] 24 (0, 0)) (by (with_reducible repeat (first | refine Zn0 ?_ _ | refine Zd0 ?_ | refine Za0 ?_ _)); exact BK467.out) hb); have n6_ := Zq0 (Zb0 (g := gb472) (o := .cells #[.int .u64 t468, .int .u64 t469, .int .u64 t470, .int .u64 t471] 24 (0, 0)) (by (with_reducible repeat (first | refine Zn0 ?_ _ | refine Zd0 ?_ | refine Za0 ?_ _)); exact BK472.out) hb); have n7_ := Zq0 (below_step (by repeat (first | (with_reducible first | exact HB.out | apply below_alloc | apply Zw0 | apply Ze0 | refine Zs0 ?_ GE449.out | refine Zs0 ?_ GE450.out | refine Zs0 ?_ GE451.out | refine Zs0 ?_ GE457.out | refine Zs0 ?_ GE462.out | refine Zs0 ?_ GE467.out | refine Zs0 ?_ GE472.out) | exact HB.out)) hb); have n8_ := Zq0 (hbox); have n9_ := Zq0 ((by rw [hg]; exact (below_size (by repeat (first | (with_reducible first | exact HB.out | apply below_alloc | apply Zw0 | apply Ze0 | refine Zs0 ?_ GE449.out | refine Zs0 ?_ GE450.out | refine Zs0 ?_ GE451.out | refine Zs0 ?_ GE457.out | refine Zs0 ?_ GE462.out | refine Zs0 ?_ GE467.out | refine Zs0 ?_ GE472.out) | exact HB.out))) : w.heap.size ≤ gb477)); have n10_ := Zq0 ((by rw [hg]; exact (below_size (by repeat (first | (with_reducible first | exact HB.out | apply below_alloc | apply Zw0 | apply Ze0 | refine Zs0 ?_ GE449.out | refine Zs0 ?_ GE450.out | refine Zs0 ?_ GE451.out | refine Zs0 ?_ GE457.out | refine Zs0 ?_ GE462.out | refine Zs0 ?_ GE467.out | refine Zs0 ?_ GE472.out) | exact HB.out))) : w.heap.size ≤ gb477)); have n11_ := Zq0 ((by rw [hg]; exact Nat.ne_of_lt (blk_lt (g := gb449) (o := .cells #[.int .u64 a0_0, .int .u64 a0_1, .int .u64 a0_2, .int .u64 a0_3, .bool a0_4] 26 (0, 0)) (by (with_reducible repeat (first | refine Zn0 ?_ _ | refine Zd0 ?_ | refine Za0 ?_ _)); exact BK449.out)) : gb449 ≠ gb477)); have n12_ := Zq0 ((by rw [hg]; exact Nat.ne_of_gt (blk_lt (g := gb449) (o := .cells #[.int .u64 a0_0, .int .u64 a0_1, .int .u64 a0_2, .int .u64 a0_3, .bool a0_4] 26 (0, 0)) (by (with_reducible repeat (first | refine Zn0 ?_ _ | refine Zd0 ?_ | refine Za0 ?_ _)); exact BK449.out)) : gb477 ≠ gb449)); have n13_ := Zq0 ((by rw [hg]; exact Nat.ne_of_lt (blk_lt (g := gb450) (o := .cells #[.int .u64 a1_0, .int .u64 a1_1, .int .u64 a1_2, .int .u64 a1_3, .bool a1_4] 26 (0, 0)) (by (with_reducible repeat (first | refine Zn0 ?_ _ | refine Zd0 ?_ | refine Za0 ?_ _)); exact BK450.out)) : gb450 ≠ gb477)); have n14_ := Zq0 ((by rw [hg]; exact Nat.ne_of_gt (blk_lt (g := gb450) (o := .cells #[.int .u64 a1_0, .int .u64 a1_1, .int .u64 a1_2, .int .u64 a1_3, .bool a1_4] 26 (0, 0)) (by (with_reducible repeat (first | refine Zn0 ?_ _ | refine Zd0 ?_ | refine Za0 ?_ _)); exact BK450.out)) : gb477 ≠ gb450)); have n15_ := Zq0 ((by rw [hg]; exact Nat.ne_of_lt (blk_lt (g := gb451) (o := .cells #[.int .u64 a2_0, .int .u64 a2_1, .int .u64 a2_2, .int .u64 a2_3, .bool a2_4] 26 (0, 0)) (by (with_reducible repeat (first | refine Zn0 ?_ _ | refine Zd0 ?_ | refine Za0 ?_ _)); exact BK451.out)) : gb451 ≠ gb477)); have n16_ := Zq0 ((by rw [hg]; exact Nat.ne_of_gt (blk_lt (g := gb451) (o := .cells #[.int .u64 a2_0, .int .u64 a2_1, .int .u64 a2_2, .int .u64 a2_3, .bool a2_4] 26 (0, 0)) (by (with_reducible repeat (first | refine Zn0 ?_ _ | refine Zd0 ?_ | refine Za0 ?_ _)); exact BK451.out)) : gb477 ≠ gb451)); have n17_ := Zq0 ((by rw [hg]; exact Nat.ne_of_lt (blk_lt (g := gb457) (o := .cells #[.int .u64 t453, .int .u64 t454, .int .u64 t455, .int .u64 t456] 24 (0, 0)) (by (with_reducible repeat (first | refine Zn0 ?_ _ | refine Zd0 ?_ | refine Za0 ?_ _)); exact BK457.out)) : gb457 ≠ gb477)); have n18_ := Zq0 ((by rw [hg]; exact Nat.ne_of_gt (blk_lt (g := gb457) (o := .cells #[.int .u64 t453, .int .u64 t454, .int .u64 t455, .int .u64 t456] 24 (0, 0)) (by (with_reducible repeat (first | refine Zn0 ?_ _ | refine Zd0 ?_ | refine Za0 ?_ _)); exact BK457.out)) : gb477 ≠ gb457)); have n19_ := Zq0 ((by rw [hg]; exact Nat.ne_of_lt (blk_lt (g := gb462) (o := .cells #[.int .u64 t458, .int .u64 t459, .int .u64 t460, .int .u64 t461] 24 (0, 0)) (by (with_reducible repeat (first | refine Zn0 ?_ _ | refine Zd0 ?_ | refine Za0 ?_ _)); exact BK462.out)) : gb462 ≠ gb477)); have n20_ := Zq0 ((by rw [hg]; exact Nat.ne_of_gt (blk_lt (g := gb462) (o := .cells #[.int .u64 t458, .int .u64 t459, .int .u64 t460, .int .u64 t461] 24 (0, 0)) (by (with_reducible repeat (first | refine Zn0 ?_ _ | refine Zd0 ?_ | refine Za0 ?_ _)); exact BK462.out)) : gb477 ≠ gb462)); have n21_ := Zq0 ((by rw [hg]; exact Nat.ne_of_lt (blk_lt (g := gb467) (o := .cells #[.int .u64 t463, .int .u64 t464, .int .u64 t465, .int .u64 t466] 24 (0, 0)) (by (with_reducible repeat (first | refine Zn0 ?_ _ | refine Zd0 ?_ | refine Za0 ?_ _)); exact BK467.out)) : gb467 ≠ gb477)); have n22_ := Zq0 ((by rw [hg]; exact Nat.ne_of_gt (blk_lt (g := gb467) (o := .cells #[.int .u64 t463, .int .u64 t464, .int .u64 t465, .int .u64 t466] 24 (0, 0)) (by (with_reducible repeat (first | refine Zn0 ?_ _ | refine Zd0 ?_ | refine Za0 ?_ _)); exact BK467.out)) : gb477 ≠ gb467)); have n23_ := Zq0 ((by rw [hg]; exact Nat.ne_of_lt (blk_lt (g := gb472) (o := .cells #[.int .u64 t468, .int .u64 t469, .int .u64 t470, .int .u64 t471] 24 (0, 0)) (by (with_reducible repeat (first | refine Zn0 ?_ _ | refine Zd0 ?_ | refine Za0 ?_ _)); exact BK472.out)) : gb472 ≠ gb477)); have n24_ := Zq0 ((by rw [hg]; exact Nat.ne_of_gt (blk_lt (g := gb472) (o := .cells #[.int .u64 t468, .int .u64 t469, .int .u64 t470, .int .u64 t471] 24 (0, 0)) (by (with_reducible repeat (first | refine Zn0 ?_ _ | refine Zd0 ?_ | refine Za0 ?_ _)); exact BK472.out)) : gb477 ≠ gb472)); clear BK449; clear BK450; clear BK451; clear BK457; clear BK462; clear BK467; clear BK472; clear HB; have BK449 := n0_; have BK450 := n1_; have BK451 := n2_; have BK457 := n3_; have BK462 := n4_; have BK467 := n5_; have BK472 := n6_; have HB := n7_; have BK477 := n8_; have GW477 := n9_; have GE477 := n10_; have NB449_477 := n11_; have NB477_449 := n12_; have NB450_477 := n13_; have NB477_450 := n14_; have NB451_477 := n15_; have NB477_451 := n16_; have NB457_477 := n17_; have NB477_457 := n18_; have NB462_477 := n19_; have NB477_462 := n20_; have NB467_477 := n21_; have NB477_467 := n22_; have NB472_477 := n23_; have NB477_472 := n24_; clear n0_ n1_ n2_ n3_ n4_ n5_ n6_ n7_ n8_ n9_ n10_ n11_ n12_ n13_ n14_ n15_ n16_ n17_ n18_ n19_ n20_ n21_ n22_ n23_ n24_; clear hb hbox hg; have hnb87 := NB477_449.out; have hnc87 := NB449_477.out; have hnb88 := NB477_450.out; have hnc88 := NB450_477.out; have hnb89 := NB477_451.out; have hnc89 := NB451_477.out; have hnb90 := NB477_457.out; have hnc90 := NB457_477.out; have hnb91 := NB477_462.out; have hnc91 := NB462_477.out; have hnb92 := NB477_467.out; have hnc92 := NB467_477.out; have hnb93 := NB477_472.out; have hnc93 := NB472_477.out; have hcz94_0 : w86.cell? ⟨gb477, 0, none⟩ = some (.int .u64 0) := (blk_cell BK477.out 0).trans rfl; have hcz94_1 : w86.cell? ⟨gb477, 1, none⟩ = some (.int .u64 0) := (blk_cell BK477.out 1).trans rfl; have hcz94_2 : w86.cell? ⟨gb477, 2, none⟩ = some (.int .u64 0) := (blk_cell BK477.out 2).trans rfl; have hcz94_3 : w86.cell? ⟨gb477, 3, none⟩ = some (.int .u64 0) := (blk_cell BK477.out 3).trans rfl; have hfz94_0 := blk_frozen BK477.out 0; have hfz94_1 := blk_frozen BK477.out 1; have hfz94_2 := blk_frozen BK477.out 2; have hfz94_3 := blk_frozen BK477.out 3))
  have n0_ : Aside0 (((((w86.setCell ⟨gb477, 0, none⟩ (.int .u64 t473)).setCell ⟨gb477, 1, none⟩ (.int .u64 t474)).setCell ⟨gb477, 2, none⟩ (.int .u64 t475)).setCell ⟨gb477, 3, none⟩ (.int .u64 t476)).heap[gb449]? = some (.cells #[.int .u64 a0_0, .int .u64 a0_1, .int .u64 a0_2, .int .u64 a0_3, .bool a0_4] 26 (0, 0))) := ⟨by (repeat (first | (with_reducible first | refine Zn0 ?_ _ | refine Zd0 ?_ | refine Za0 ?_ _) | refine Zf0 ?_ NB449_477.out _)); exact BK449.out⟩
  have n1_ : Aside0 (((((w86.setCell ⟨gb477, 0, none⟩ (.int .u64 t473)).setCell ⟨gb477, 1, none⟩ (.int .u64 t474)).setCell ⟨gb477, 2, none⟩ (.int .u64 t475)).setCell ⟨gb477, 3, none⟩ (.int .u64 t476)).heap[gb450]? = some (.cells #[.int .u64 a1_0, .int .u64 a1_1, .int .u64 a1_2, .int .u64 a1_3, .bool a1_4] 26 (0, 0))) := ⟨by (repeat (first | (with_reducible first | refine Zn0 ?_ _ | refine Zd0 ?_ | refine Za0 ?_ _) | refine Zf0 ?_ NB450_477.out _)); exact BK450.out⟩
  have n2_ : Aside0 (((((w86.setCell ⟨gb477, 0, none⟩ (.int .u64 t473)).setCell ⟨gb477, 1, none⟩ (.int .u64 t474)).setCell ⟨gb477, 2, none⟩ (.int .u64 t475)).setCell ⟨gb477, 3, none⟩ (.int .u64 t476)).heap[gb451]? = some (.cells #[.int .u64 a2_0, .int .u64 a2_1, .int .u64 a2_2, .int .u64 a2_3, .bool a2_4] 26 (0, 0))) := ⟨by (repeat (first | (with_reducible first | refine Zn0 ?_ _ | refine Zd0 ?_ | refine Za0 ?_ _) | refine Zf0 ?_ NB451_477.out _)); exact BK451.out⟩
  have n3_ : Aside0 (((((w86.setCell ⟨gb477, 0, none⟩ (.int .u64 t473)).setCell ⟨gb477, 1, none⟩ (.int .u64 t474)).setCell ⟨gb477, 2, none⟩ (.int .u64 t475)).setCell ⟨gb477, 3, none⟩ (.int .u64 t476)).heap[gb457]? = some (.cells #[.int .u64 t453, .int .u64 t454, .int .u64 t455, .int .u64 t456] 24 (0, 0))) := ⟨by (repeat (first | (with_reducible first | refine Zn0 ?_ _ | refine Zd0 ?_ | refine Za0 ?_ _) | refine Zf0 ?_ NB457_477.out _)); exact BK457.out⟩
  have n4_ : Aside0 (((((w86.setCell ⟨gb477, 0, none⟩ (.int .u64 t473)).setCell ⟨gb477, 1, none⟩ (.int .u64 t474)).setCell ⟨gb477, 2, none⟩ (.int .u64 t475)).setCell ⟨gb477, 3, none⟩ (.int .u64 t476)).heap[gb462]? = some (.cells #[.int .u64 t458, .int .u64 t459, .int .u64 t460, .int .u64 t461] 24 (0, 0))) := ⟨by (repeat (first | (with_reducible first | refine Zn0 ?_ _ | refine Zd0 ?_ | refine Za0 ?_ _) | refine Zf0 ?_ NB462_477.out _)); exact BK462.out⟩
  have n5_ : Aside0 (((((w86.setCell ⟨gb477, 0, none⟩ (.int .u64 t473)).setCell ⟨gb477, 1, none⟩ (.int .u64 t474)).setCell ⟨gb477, 2, none⟩ (.int .u64 t475)).setCell ⟨gb477, 3, none⟩ (.int .u64 t476)).heap[gb467]? = some (.cells #[.int .u64 t463, .int .u64 t464, .int .u64 t465, .int .u64 t466] 24 (0, 0))) := ⟨by (repeat (first | (with_reducible first | refine Zn0 ?_ _ | refine Zd0 ?_ | refine Za0 ?_ _) | refine Zf0 ?_ NB467_477.out _)); exact BK467.out⟩
  have n6_ : Aside0 (((((w86.setCell ⟨gb477, 0, none⟩ (.int .u64 t473)).setCell ⟨gb477, 1, none⟩ (.int .u64 t474)).setCell ⟨gb477, 2, none⟩ (.int .u64 t475)).setCell ⟨gb477, 3, none⟩ (.int .u64 t476)).heap[gb472]? = some (.cells #[.int .u64 t468, .int .u64 t469, .int .u64 t470, .int .u64 t471] 24 (0, 0))) := ⟨by (repeat (first | (with_reducible first | refine Zn0 ?_ _ | refine Zd0 ?_ | refine Za0 ?_ _) | refine Zf0 ?_ NB472_477.out _)); exact BK472.out⟩
  have n7_ : Aside0 (((((w86.setCell ⟨gb477, 0, none⟩ (.int .u64 t473)).setCell ⟨gb477, 1, none⟩ (.int .u64 t474)).setCell ⟨gb477, 2, none⟩ (.int .u64 t475)).setCell ⟨gb477, 3, none⟩ (.int .u64 t476)).heap[gb477]? = some (.cells #[.int .u64 t473, .int .u64 t474, .int .u64 t475, .int .u64 t476] 24 (0, 0))) := ⟨by (with_reducible repeat (first | refine Zn0 ?_ _ | refine Zd0 ?_ | refine Za0 ?_ _)); refine blk_put (cs := #[.int .u64 t473, .int .u64 t474, .int .u64 t475, .int .u64 0]) ?_ 3 _ rfl; (with_reducible repeat (first | refine Zn0 ?_ _ | refine Zd0 ?_ | refine Za0 ?_ _)); refine blk_put (cs := #[.int .u64 t473, .int .u64 t474, .int .u64 0, .int .u64 0]) ?_ 2 _ rfl; (with_reducible repeat (first | refine Zn0 ?_ _ | refine Zd0 ?_ | refine Za0 ?_ _)); refine blk_put (cs := #[.int .u64 t473, .int .u64 0, .int .u64 0, .int .u64 0]) ?_ 1 _ rfl; (with_reducible repeat (first | refine Zn0 ?_ _ | refine Zd0 ?_ | refine Za0 ?_ _)); refine blk_put (cs := #[.int .u64 0, .int .u64 0, .int .u64 0, .int .u64 0]) ?_ 0 _ rfl; (with_reducible repeat (first | refine Zn0 ?_ _ | refine Zd0 ?_ | refine Za0 ?_ _)); exact BK477.out⟩
  have n8_ : Aside0 (Below w.heap.size w ((((w86.setCell ⟨gb477, 0, none⟩ (.int .u64 t473)).setCell ⟨gb477, 1, none⟩ (.int .u64 t474)).setCell ⟨gb477, 2, none⟩ (.int .u64 t475)).setCell ⟨gb477, 3, none⟩ (.int .u64 t476))) := ⟨by repeat (first | (with_reducible first | exact HB.out | apply below_alloc | apply Zw0 | apply Ze0 | refine Zs0 ?_ GE449.out | refine Zs0 ?_ GE450.out | refine Zs0 ?_ GE451.out | refine Zs0 ?_ GE457.out | refine Zs0 ?_ GE462.out | refine Zs0 ?_ GE467.out | refine Zs0 ?_ GE472.out | refine Zs0 ?_ GE477.out) | exact HB.out)⟩
  (try clear BK449)
  (try clear BK450)
  (try clear BK451)
  (try clear BK457)
  (try clear BK462)
  (try clear BK467)
  (try clear BK472)
  (try clear BK477)
  (try clear HB)
  generalize ((((w86.setCell ⟨gb477, 0, none⟩ (.int .u64 t473)).setCell ⟨gb477, 1, none⟩ (.int .u64 t474)).setCell ⟨gb477, 2, none⟩ (.int .u64 t475)).setCell ⟨gb477, 3, none⟩ (.int .u64 t476)) = w95 at n0_ n1_ n2_ n3_ n4_ n5_ n6_ n7_ n8_ ⊢
  have BK449 := n0_
  have BK450 := n1_
  have BK451 := n2_
  have BK457 := n3_
  have BK462 := n4_
  have BK467 := n5_
  have BK472 := n6_
  have BK477 := n7_
  have HB := n8_
  clear n0_ n1_ n2_ n3_ n4_ n5_ n6_ n7_ n8_
  have n0_ := Zq0 (Zd0 BK449.out)
  have n1_ := Zq0 (Zd0 BK450.out)
  have n2_ := Zq0 (Zd0 BK451.out)
  have n3_ := Zq0 (Zd0 BK457.out)
  have n4_ := Zq0 (Zd0 BK462.out)
  have n5_ := Zq0 (Zd0 BK467.out)
  have n6_ := Zq0 (Zd0 BK472.out)
  have n7_ := Zq0 (Zd0 BK477.out)
  have n8_ := Zq0 (Ze0 HB.out)
  clear BK449
  clear BK450
  clear BK451
  clear BK457
  clear BK462
  clear BK467
  clear BK472
  clear BK477
  clear HB
  have BK449 := n0_
  have BK450 := n1_
  have BK451 := n2_
  have BK457 := n3_
  have BK462 := n4_
  have BK467 := n5_
  have BK472 := n6_
  have BK477 := n7_
  have HB := n8_
  clear n0_ n1_ n2_ n3_ n4_ n5_ n6_ n7_ n8_
  refine start_ (n := 90) (S := fun w' => w'.cell? ⟨gb472, 0, none⟩ = some (.int .u64 t468) ∧ w'.cell? ⟨gb472, 1, none⟩ = some (.int .u64 t469) ∧ w'.cell? ⟨gb472, 2, none⟩ = some (.int .u64 t470) ∧ w'.cell? ⟨gb472, 3, none⟩ = some (.int .u64 t471) ∧ w'.cell? ⟨gb462, 0, none⟩ = some (.int .u64 t458) ∧ w'.cell? ⟨gb462, 1, none⟩ = some (.int .u64 t459) ∧ w'.cell? ⟨gb462, 2, none⟩ = some (.int .u64 t460) ∧ w'.cell? ⟨gb462, 3, none⟩ = some (.int .u64 t461) ∧ w'.cell? ⟨gb457, 0, none⟩ = some (.int .u64 t453) ∧ w'.cell? ⟨gb457, 1, none⟩ = some (.int .u64 t454) ∧ w'.cell? ⟨gb457, 2, none⟩ = some (.int .u64 t455) ∧ w'.cell? ⟨gb457, 3, none⟩ = some (.int .u64 t456) ∧ w'.cell? ⟨gb477, 0, none⟩ = some (.int .u64 t473) ∧ w'.cell? ⟨gb477, 1, none⟩ = some (.int .u64 t474) ∧ w'.cell? ⟨gb477, 2, none⟩ = some (.int .u64 t475) ∧ w'.cell? ⟨gb477, 3, none⟩ = some (.int .u64 t476) ∧ w'.cell? ⟨gb467, 0, none⟩ = some (.int .u64 t463) ∧ w'.cell? ⟨gb467, 1, none⟩ = some (.int .u64 t464) ∧ w'.cell? ⟨gb467, 2, none⟩ = some (.int .u64 t465) ∧ w'.cell? ⟨gb467, 3, none⟩ = some (.int .u64 t466)) (ds := []) #[false, false, false, false, false, false, false, false, false, false, false, false, false, false, false, false, false, false, false, false, false, false, false, false, false, false, false, false, false, false, false, false, false, false, false, false, false, false, false, false, false, false, false, false, false, false, false, false, false, false, false, false, false, false, false, false, false, false, false, false, false, false, false, false, false, false, false, false, false, false, false, false, false, false, false, false, false, false, false, false, false, false, false, false, false, false, false, false, false, false] (by kernel_rfl) rfl rfl ⟨(blk_cell BK472.out 0).trans rfl, (blk_cell BK472.out 1).trans rfl, (blk_cell BK472.out 2).trans rfl, (blk_cell BK472.out 3).trans rfl, (blk_cell BK462.out 0).trans rfl, (blk_cell BK462.out 1).trans rfl, (blk_cell BK462.out 2).trans rfl, (blk_cell BK462.out 3).trans rfl, (blk_cell BK457.out 0).trans rfl, (blk_cell BK457.out 1).trans rfl, (blk_cell BK457.out 2).trans rfl, (blk_cell BK457.out 3).trans rfl, (blk_cell BK477.out 0).trans rfl, (blk_cell BK477.out 1).trans rfl, (blk_cell BK477.out 2).trans rfl, (blk_cell BK477.out 3).trans rfl, (blk_cell BK467.out 0).trans rfl, (blk_cell BK467.out 1).trans rfl, (blk_cell BK467.out 2).trans rfl, (blk_cell BK467.out 3).trans rfl⟩ (fun hHeld => ?_); refine with_tabW tenementlaw06_VecJoins_p0.tab9 tenementlaw06_VecJoins_p0.bits9 (fun HT_ HW_ => ?_)
  generalize w95.drew = w96 at BK449 BK450 BK451 BK457 BK462 BK467 BK472 BK477 HB hHeld ⊢
  refine pure_ (i := 0) (N := some 28) (v := ?_) (a' := ?_) #[true, false, false, false, false, false, false, false, false, false, false, false, false, false, false, false, false, false, false, false, false, false, false, false, false, false, false, false, false, false, false, false, false, false, false, false, false, false, false, false, false, false, false, false, false, false, false, false, false, false, false, false, false, false, false, false, false, false, false, false, false, false, false, false, false, false, false, false, false, false, false, false, false, false, false, false, false, false, false, false, false, false, false, false, false, false, false, false, false, false] rfl rfl (any_of HT_.out (by kernel_rfl)) (fun _ _ _ h => h) (Or.inl ⟨by rfl, ?_⟩) ?_ ?_
  rotate_left
  · intro w'
    go_simp
    with_reducible rfl
  rotate_left
  · simp only [Act.put, List.setIfInBounds_toArray, List.set_cons_zero, List.set_cons_succ, i64_w, i32_w]
    rfl
  refine pure_ (i := 1) (N := some 29) (v := ?_) (a' := ?_) #[true, true, false, false, false, false, false, false, false, false, false, false, false, false, false, false, false, false, false, false, false, false, false, false, false, false, false, false, false, false, false, false, false, false, false, false, false, false, false, false, false, false, false, false, false, false, false, false, false, false, false, false, false, false, false, false, false, false, false, false, false, false, false, false, false, false, false, false, false, false, false, false, false, false, false, false, false, false, false, false, false, false, false, false, false, false, false, false, false, false] rfl rfl (any_of HT_.out (by kernel_rfl)) (fun _ _ _ h => h) (Or.inl ⟨by rfl, ?_⟩) ?_ ?_
  rotate_left
  · intro w'
    go_simp
    with_reducible rfl
  rotate_left
  · simp only [Act.put, List.setIfInBounds_toArray, List.set_cons_zero, List.set_cons_succ, i64_w, i32_w]
    rfl
  refine take_ (i := 2) (N := some 30) (v := ?_) (a' := ?_) #[true, true, true, false, false, false, false, false, false, false, false, false, false, false, false, false, false, false, false, false, false, false, false, false, false, false, false, false, false, false, false, false, false, false, false, false, false, false, false, false, false, false, false, false, false, false, false, false, false, false, false, false, false, false, false, false, false, false, false, false, false, false, false, false, false, false, false, false, false, false, false, false, false, false, false, false, false, false, false, false, false, false, false, false, false, false, false, false, false, false] rfl rfl (take_ofW HT_.out HW_.out (by kernel_rfl)) (fun _ _ _ h => h) (Or.inl ⟨by rfl, ?_⟩) hHeld ?_ ?_
  rotate_left
  · rintro w' ⟨s0, s1, s2, s3, s4, s5, s6, s7, s8, s9, s10, s11, s12, s13, s14, s15, s16, s17, s18, s19⟩
    go_simp
    with_reducible rfl
  rotate_left
  · simp only [Act.put, List.setIfInBounds_toArray, List.set_cons_zero, List.set_cons_succ, i64_w, i32_w]
    rfl
  refine take_ (i := 3) (N := some 31) (v := ?_) (a' := ?_) #[true, true, true, true, false, false, false, false, false, false, false, false, false, false, false, false, false, false, false, false, false, false, false, false, false, false, false, false, false, false, false, false, false, false, false, false, false, false, false, false, false, false, false, false, false, false, false, false, false, false, false, false, false, false, false, false, false, false, false, false, false, false, false, false, false, false, false, false, false, false, false, false, false, false, false, false, false, false, false, false, false, false, false, false, false, false, false, false, false, false] rfl rfl (take_ofW HT_.out HW_.out (by kernel_rfl)) (fun _ _ _ h => h) (Or.inl ⟨by rfl, ?_⟩) hHeld ?_ ?_
  rotate_left
  · rintro w' ⟨s0, s1, s2, s3, s4, s5, s6, s7, s8, s9, s10, s11, s12, s13, s14, s15, s16, s17, s18, s19⟩
    go_simp
    with_reducible rfl
  rotate_left
  · simp only [Act.put, List.setIfInBounds_toArray, List.set_cons_zero, List.set_cons_succ, i64_w, i32_w]
    rfl
  refine take_ (i := 4) (N := some 32) (v := ?_) (a' := ?_) #[true, true, true, true, true, false, false, false, false, false, false, false, false, false, false, false, false, false, false, false, false, false, false, false, false, false, false, false, false, false, false, false, false, false, false, false, false, false, false, false, false, false, false, false, false, false, false, false, false, false, false, false, false, false, false, false, false, false, false, false, false, false, false, false, false, false, false, false, false, false, false, false, false, false, false, false, false, false, false, false, false, false, false, false, false, false, false, false, false, false] rfl rfl (take_ofW HT_.out HW_.out (by kernel_rfl)) (fun _ _ _ h => h) (Or.inl ⟨by rfl, ?_⟩) hHeld ?_ ?_
  rotate_left
  · rintro w' ⟨s0, s1, s2, s3, s4, s5, s6, s7, s8, s9, s10, s11, s12, s13, s14, s15, s16, s17, s18, s19⟩
    go_simp
    with_reducible rfl
  rotate_left
  · simp only [Act.put, List.setIfInBounds_toArray, List.set_cons_zero, List.set_cons_succ, i64_w, i32_w]
    rfl
  refine one_ (i := 5) (N := some 33) #[true, true, true, true, true, true, false, false, false, false, false, false, false, false, false, false, false, false, false, false, false, false, false, false, false, false, false, false, false, false, false, false, false, false, false, false, false, false, false, false, false, false, false, false, false, false, false, false, false, false, false, false, false, false, false, false, false, false, false, false, false, false, false, false, false, false, false, false, false, false, false, false, false, false, false, false, false, false, false, false, false, false, false, false, false, false, false, false, false, false] rfl rfl (one_of HT_.out (by kernel_rfl)) (by decide) (fun K hK => ?_)
  refine goes_ Tryd.func12 (by kernel_rfl) rfl #[.agg #[.int .u64 t458, .int .u64 t459, .int .u64 t460, .int .u64 t461], .agg #[.int .u64 t453, .int .u64 t454, .int .u64 t455, .int .u64 t456]] (by rfl) rfl rfl (by (try simp only [List.map_toArray, List.map_cons, List.map_nil]); first | done | rfl | (simp only [List.length_drop, List.length_take]; rfl)) ?_
  with_reducible refine (vec_Join.calls t458 t459 t460 t461 t453 t454 t455 t456 t478 t479 t480 t481 _ A11.out).mono ?_
  rintro e w97 ⟨rfl, hb⟩
  refine ⟨_, rfl, ?_⟩
  have n0_ := Zq0 (Zb0 (g := gb449) (o := .cells #[.int .u64 a0_0, .int .u64 a0_1, .int .u64 a0_2, .int .u64 a0_3, .bool a0_4] 26 (0, 0)) (by (with_reducible repeat (first | refine Zn0 ?_ _ | refine Zd0 ?_ | refine Za0 ?_ _)); exact BK449.out) hb)
  have n1_ := Zq0 (Zb0 (g := gb450) (o := .cells #[.int .u64 a1_0, .int .u64 a1_1, .int .u64 a1_2, .int .u64 a1_3, .bool a1_4] 26 (0, 0)) (by (with_reducible repeat (first | refine Zn0 ?_ _ | refine Zd0 ?_ | refine Za0 ?_ _)); exact BK450.out) hb)
  have n2_ := Zq0 (Zb0 (g := gb451) (o := .cells #[.int .u64 a2_0, .int .u64 a2_1, .int .u64 a2_2, .int .u64 a2_3, .bool a2_4] 26 (0, 0)) (by (with_reducible repeat (first | refine Zn0 ?_ _ | refine Zd0 ?_ | refine Za0 ?_ _)); exact BK451.out) hb)
  have n3_ := Zq0 (Zb0 (g := gb457) (o := .cells #[.int .u64 t453, .int .u64 t454, .int .u64 t455, .int .u64 t456] 24 (0, 0)) (by (with_reducible repeat (first | refine Zn0 ?_ _ | refine Zd0 ?_ | refine Za0 ?_ _)); exact BK457.out) hb)
  have n4_ := Zq0 (Zb0 (g := gb462) (o := .cells #[.int .u64 t458, .int .u64 t459, .int .u64 t460, .int .u64 t461] 24 (0, 0)) (by (with_reducible repeat (first | refine Zn0 ?_ _ | refine Zd0 ?_ | refine Za0 ?_ _)); exact BK462.out) hb)
  have n5_ := Zq0 (Zb0 (g := gb467) (o := .cells #[.int .u64 t463, .int .u64 t464, .int .u64 t465, .int .u64 t466] 24 (0, 0)) (by (with_reducible repeat (first | refine Zn0 ?_ _ | refine Zd0 ?_ | refine Za0 ?_ _)); exact BK467.out) hb)
  have n6_ := Zq0 (Zb0 (g := gb472) (o := .cells #[.int .u64 t468, .int .u64 t469, .int .u64 t470, .int .u64 t471] 24 (0, 0)) (by (with_reducible repeat (first | refine Zn0 ?_ _ | refine Zd0 ?_ | refine Za0 ?_ _)); exact BK472.out) hb)
  have n7_ := Zq0 (Zb0 (g := gb477) (o := .cells #[.int .u64 t473, .int .u64 t474, .int .u64 t475, .int .u64 t476] 24 (0, 0)) (by (with_reducible repeat (first | refine Zn0 ?_ _ | refine Zd0 ?_ | refine Za0 ?_ _)); exact BK477.out) hb)
  have n8_ := Zq0 (below_step (by repeat (first | (with_reducible first | exact HB.out | apply below_alloc | apply Zw0 | apply Ze0 | refine Zs0 ?_ GE449.out | refine Zs0 ?_ GE450.out | refine Zs0 ?_ GE451.out | refine Zs0 ?_ GE457.out | refine Zs0 ?_ GE462.out | refine Zs0 ?_ GE467.out | refine Zs0 ?_ GE472.out | refine Zs0 ?_ GE477.out) | exact HB.out)) hb)
  clear BK449
  clear BK450
  clear BK451
  clear BK457
  clear BK462
  clear BK467
  clear BK472
  clear BK477
  clear HB
  have BK449 := n0_
  have BK450 := n1_
  have BK451 := n2_
  have BK457 := n3_
  have BK462 := n4_
  have BK467 := n5_
  have BK472 := n6_
  have BK477 := n7_
  have HB := n8_
  clear n0_ n1_ n2_ n3_ n4_ n5_ n6_ n7_ n8_
  (try clear hb)
  (try clear hb2)
  (try clear hk)
  (try clear hi)
  refine hK.out _ _ ⟨(blk_cell BK472.out 0).trans rfl, (blk_cell BK472.out 1).trans rfl, (blk_cell BK472.out 2).trans rfl, (blk_cell BK472.out 3).trans rfl, (blk_cell BK462.out 0).trans rfl, (blk_cell BK462.out 1).trans rfl, (blk_cell BK462.out 2).trans rfl, (blk_cell BK462.out 3).trans rfl, (blk_cell BK457.out 0).trans rfl, (blk_cell BK457.out 1).trans rfl, (blk_cell BK457.out 2).trans rfl, (blk_cell BK457.out 3).trans rfl, (blk_cell BK477.out 0).trans rfl, (blk_cell BK477.out 1).trans rfl, (blk_cell BK477.out 2).trans rfl, (blk_cell BK477.out 3).trans rfl, (blk_cell BK467.out 0).trans rfl, (blk_cell BK467.out 1).trans rfl, (blk_cell BK467.out 2).trans rfl, (blk_cell BK467.out 3).trans rfl⟩ (fun hHeld => ?_)
  clear hK K
  refine norm_ (a' := ?_) ?_ ?_
  rotate_left
  · show Act.put _ (some 33) _ = _
    simp only [Act.put, List.setIfInBounds_toArray, List.set_cons_zero, List.set_cons_succ, i64_w, i32_w]
    rfl
  refine pure_ (i := 6) (N := some 34) (v := ?_) (a' := ?_) #[true, true, true, true, true, true, true, false, false, false, false, false, false, false, false, false, false, false, false, false, false, false, false, false, false, false, false, false, false, false, false, false, false, false, false, false, false, false, false, false, false, false, false, false, false, false, false, false, false, false, false, false, false, false, false, false, false, false, false, false, false, false, false, false, false, false, false, false, false, false, false, false, false, false, false, false, false, false, false, false, false, false, false, false, false, false, false, false, false, false] rfl rfl (any_of HT_.out (by kernel_rfl)) (fun _ _ _ h => h) (Or.inl ⟨by rfl, ?_⟩) ?_ ?_
  rotate_left
  · intro w'
    go_simp
    with_reducible rfl
  rotate_left
  · simp only [Act.put, List.setIfInBounds_toArray, List.set_cons_zero, List.set_cons_succ, i64_w, i32_w]
    rfl
  refine pure_ (i := 7) (N := some 35) (v := ?_) (a' := ?_) #[true, true, true, true, true, true, true, true, false, false, false, false, false, false, false, false, false, false, false, false, false, false, false, false, false, false, false, false, false, false, false, false, false, false, false, false, false, false, false, false, false, false, false, false, false, false, false, false, false, false, false, false, false, false, false, false, false, false, false, false, false, false, false, false, false, false, false, false, false, false, false, false, false, false, false, false, false, false, false, false, false, false, false, false, false, false, false, false, false, false] rfl rfl (any_of HT_.out (by kernel_rfl)) (fun _ _ _ h => h) (Or.inl ⟨by rfl, ?_⟩) ?_ ?_
  rotate_left
  · intro w'
    go_simp
    with_reducible rfl
  rotate_left
  · simp only [Act.put, List.setIfInBounds_toArray, List.set_cons_zero, List.set_cons_succ, i64_w, i32_w]
    rfl
  refine pure_ (i := 8) (N := some 36) (v := ?_) (a' := ?_) #[true, true, true, true, true, true, true, true, true, false, false, false, false, false, false, false, false, false, false, false, false, false, false, false, false, false, false, false, false, false, false, false, false, false, false, false, false, false, false, false, false, false, false, false, false, false, false, false, false, false, false, false, false, false, false, false, false, false, false, false, false, false, false, false, false, false, false, false, false, false, false, false, false, false, false, false, false, false, false, false, false, false, false, false, false, false, false, false, false, false] rfl rfl (any_of HT_.out (by kernel_rfl)) (fun _ _ _ h => h) (Or.inl ⟨by rfl, ?_⟩) ?_ ?_
  rotate_left
  · intro w'
    go_simp
    with_reducible rfl
  rotate_left
  · simp only [Act.put, List.setIfInBounds_toArray, List.set_cons_zero, List.set_cons_succ, i64_w, i32_w]
    rfl
  refine take_ (i := 9) (N := some 37) (v := ?_) (a' := ?_) #[true, true, true, true, true, true, true, true, true, true, false, false, false, false, false, false, false, false, false, false, false, false, false, false, false, false, false, false, false, false, false, false, false, false, false, false, false, false, false, false, false, false, false, false, false, false, false, false, false, false, false, false, false, false, false, false, false, false, false, false, false, false, false, false, false, false, false, false, false, false, false, false, false, false, false, false, false, false, false, false, false, false, false, false, false, false, false, false, false, false] rfl rfl (take_ofW HT_.out HW_.out (by kernel_rfl)) (fun _ _ _ h => h) (Or.inl ⟨by rfl, ?_⟩) hHeld ?_ ?_
  rotate_left
  · rintro w' ⟨s0, s1, s2, s3, s4, s5, s6, s7, s8, s9, s10, s11, s12, s13, s14, s15, s16, s17, s18, s19⟩
    go_simp
    with_reducible rfl
  rotate_left
  · simp only [Act.put, List.setIfInBounds_toArray, List.set_cons_zero, List.set_cons_succ, i64_w, i32_w]
    rfl
  refine take_ (i := 10) (N := some 38) (v := ?_) (a' := ?_) #[true, true, true, true, true, true, true, true, true, true, true, false, false, false, false, false, false, false, false, false, false, false, false, false, false, false, false, false, false, false, false, false, false, false, false, false, false, false, false, false, false, false, false, false, false, false, false, false, false, false, false, false, false, false, false, false, false, false, false, false, false, false, false, false, false, false, false, false, false, false, false, false, false, false, false, false, false, false, false, false, false, false, false, false, false, false, false, false, false, false] rfl rfl (take_ofW HT_.out HW_.out (by kernel_rfl)) (fun _ _ _ h => h) (Or.inl ⟨by rfl, ?_⟩) hHeld ?_ ?_
  rotate_left
  · rintro w' ⟨s0, s1, s2, s3, s4, s5, s6, s7, s8, s9, s10, s11, s12, s13, s14, s15, s16, s17, s18, s19⟩
    go_simp
    with_reducible rfl
  rotate_left
  · simp only [Act.put, List.setIfInBounds_toArray, List.set_cons_zero, List.set_cons_succ, i64_w, i32_w]
    rfl
  refine take_ (i := 11) (N := some 39) (v := ?_) (a' := ?_) #[true, true, true, true, true, true, true, true, true, true, true, true, false, false, false, false, false, false, false, false, false, false, false, false, false, false, false, false, false, false, false, false, false, false, false, false, false, false, false, false, false, false, false, false, false, false, false, false, false, false, false, false, false, false, false, false, false, false, false, false, false, false, false, false, false, false, false, false, false, false, false, false, false, false, false, false, false, false, false, false, false, false, false, false, false, false, false, false, false, false] rfl rfl (take_ofW HT_.out HW_.out (by kernel_rfl)) (fun _ _ _ h => h) (Or.inl ⟨by rfl, ?_⟩) hHeld ?_ ?_
  rotate_left
  · rintro w' ⟨s0, s1, s2, s3, s4, s5, s6, s7, s8, s9, s10, s11, s12, s13, s14, s15, s16, s17, s18, s19⟩
    go_simp
    with_reducible rfl
  rotate_left
  · simp only [Act.put, List.setIfInBounds_toArray, List.set_cons_zero, List.set_cons_succ, i64_w, i32_w]
    rfl
  refine one_ (i := 12) (N := some 40) #[true, true, true, true, true, true, true, true, true, true, true, true, true, false, false, false, false, false, false, false, false, false, false, false, false, false, false, false, false, false, false, false, false, false, false, false, false, false, false, false, false, false, false, false, false, false, false, false, false, false, false, false, false, false, false, false, false, false, false, false, false, false, false, false, false, false, false, false, false, false, false, false, false, false, false, false, false, false, false, false, false, false, false, false, false, false, false, false, false, false] rfl rfl (one_of HT_.out (by kernel_rfl)) (by decide) (fun K hK => ?_)
  refine goes_ Tryd.func14 (by kernel_rfl) rfl #[.agg #[.int .u64 t458, .int .u64 t459, .int .u64 t460, .int .u64 t461], .agg #[.int .u64 t453, .int .u64 t454, .int .u64 t455, .int .u64 t456]] (by rfl) rfl rfl (by (try simp only [List.map_toArray, List.map_cons, List.map_nil]); first | done | rfl | (simp only [List.length_drop, List.length_take]; rfl)) ?_
  with_reducible refine (vec_Meet.calls t458 t459 t460 t461 t453 t454 t455 t456 t482 t483 t484 t485 _ A13.out).mono ?_
  rintro e w98 ⟨rfl, hb⟩
  refine ⟨_, rfl, ?_⟩
  have n0_ := Zq0 (Zb0 (g := gb449) (o := .cells #[.int .u64 a0_0, .int .u64 a0_1, .int .u64 a0_2, .int .u64 a0_3, .bool a0_4] 26 (0, 0)) (by (with_reducible repeat (first | refine Zn0 ?_ _ | refine Zd0 ?_ | refine Za0 ?_ _)); exact BK449.out) hb)
  have n1_ := Zq0 (Zb0 (g := gb450) (o := .cells #[.int .u64 a1_0, .int .u64 a1_1, .int .u64 a1_2, .int .u64 a1_3, .bool a1_4] 26 (0, 0)) (by (with_reducible repeat (first | refine Zn0 ?_ _ | refine Zd0 ?_ | refine Za0 ?_ _)); exact BK450.out) hb)
  have n2_ := Zq0 (Zb0 (g := gb451) (o := .cells #[.int .u64 a2_0, .int .u64 a2_1, .int .u64 a2_2, .int .u64 a2_3, .bool a2_4] 26 (0, 0)) (by (with_reducible repeat (first | refine Zn0 ?_ _ | refine Zd0 ?_ | refine Za0 ?_ _)); exact BK451.out) hb)
  have n3_ := Zq0 (Zb0 (g := gb457) (o := .cells #[.int .u64 t453, .int .u64 t454, .int .u64 t455, .int .u64 t456] 24 (0, 0)) (by (with_reducible repeat (first | refine Zn0 ?_ _ | refine Zd0 ?_ | refine Za0 ?_ _)); exact BK457.out) hb)
  have n4_ := Zq0 (Zb0 (g := gb462) (o := .cells #[.int .u64 t458, .int .u64 t459, .int .u64 t460, .int .u64 t461] 24 (0, 0)) (by (with_reducible repeat (first | refine Zn0 ?_ _ | refine Zd0 ?_ | refine Za0 ?_ _)); exact BK462.out) hb)
  have n5_ := Zq0 (Zb0 (g := gb467) (o := .cells #[.int .u64 t463, .int .u64 t464, .int .u64 t465, .int .u64 t466] 24 (0, 0)) (by (with_reducible repeat (first | refine Zn0 ?_ _ | refine Zd0 ?_ | refine Za0 ?_ _)); exact BK467.out) hb)
  have n6_ := Zq0 (Zb0 (g := gb472) (o := .cells #[.int .u64 t468, .int .u64 t469, .int .u64 t470, .int .u64 t471] 24 (0, 0)) (by (with_reducible repeat (first | refine Zn0 ?_ _ | refine Zd0 ?_ | refine Za0 ?_ _)); exact BK472.out) hb)
  have n7_ := Zq0 (Zb0 (g := gb477) (o := .cells #[.int .u64 t473, .int .u64 t474, .int .u64 t475, .int .u64 t476] 24 (0, 0)) (by (with_reducible repeat (first | refine Zn0 ?_ _ | refine Zd0 ?_ | refine Za0 ?_ _)); exact BK477.out) hb)
  have n8_ := Zq0 (below_step (by repeat (first | (with_reducible first | exact HB.out | apply below_alloc | apply Zw0 | apply Ze0 | refine Zs0 ?_ GE449.out | refine Zs0 ?_ GE450.out | refine Zs0 ?_ GE451.out | refine Zs0 ?_ GE457.out | refine Zs0 ?_ GE462.out | refine Zs0 ?_ GE467.out | refine Zs0 ?_ GE472.out | refine Zs0 ?_ GE477.out) | exact HB.out)) hb)
  clear BK449
  clear BK450
  clear BK451
  clear BK457
  clear BK462
  clear BK467
  clear BK472
  clear BK477
  clear HB
  have BK449 := n0_
  have BK450 := n1_
  have BK451 := n2_
  have BK457 := n3_
  have BK462 := n4_
  have BK467 := n5_
  have BK472 := n6_
  have BK477 := n7_
  have HB := n8_
  clear n0_ n1_ n2_ n3_ n4_ n5_ n6_ n7_ n8_
  (try clear hb)
  (try clear hb2)
  (try clear hk)
  (try clear hi)
  refine hK.out _ _ ⟨(blk_cell BK472.out 0).trans rfl, (blk_cell BK472.out 1).trans rfl, (blk_cell BK472.out 2).trans rfl, (blk_cell BK472.out 3).trans rfl, (blk_cell BK462.out 0).trans rfl, (blk_cell BK462.out 1).trans rfl, (blk_cell BK462.out 2).trans rfl, (blk_cell BK462.out 3).trans rfl, (blk_cell BK457.out 0).trans rfl, (blk_cell BK457.out 1).trans rfl, (blk_cell BK457.out 2).trans rfl, (blk_cell BK457.out 3).trans rfl, (blk_cell BK477.out 0).trans rfl, (blk_cell BK477.out 1).trans rfl, (blk_cell BK477.out 2).trans rfl, (blk_cell BK477.out 3).trans rfl, (blk_cell BK467.out 0).trans rfl, (blk_cell BK467.out 1).trans rfl, (blk_cell BK467.out 2).trans rfl, (blk_cell BK467.out 3).trans rfl⟩ (fun hHeld => ?_)
  clear hK K
  refine norm_ (a' := ?_) ?_ ?_
  rotate_left
  · show Act.put _ (some 40) _ = _
    simp only [Act.put, List.setIfInBounds_toArray, List.set_cons_zero, List.set_cons_succ, i64_w, i32_w]
    rfl
  refine pure_ (i := 13) (N := some 41) (v := ?_) (a' := ?_) #[true, true, true, true, true, true, true, true, true, true, true, true, true, true, false, false, false, false, false, false, false, false, false, false, false, false, false, false, false, false, false, false, false, false, false, false, false, false, false, false, false, false, false, false, false, false, false, false, false, false, false, false, false, false, false, false, false, false, false, false, false, false, false, false, false, false, false, false, false, false, false, false, false, false, false, false, false, false, false, false, false, false, false, false, false, false, false, false, false, false] rfl rfl (any_of HT_.out (by kernel_rfl)) (fun _ _ _ h => h) (Or.inl ⟨by rfl, ?_⟩) ?_ ?_
  rotate_left
  · intro w'
    go_simp
    with_reducible rfl
  rotate_left
  · simp only [Act.put, List.setIfInBounds_toArray, List.set_cons_zero, List.set_cons_succ, i64_w, i32_w]
    rfl
  refine pure_ (i := 14) (N := some 42) (v := ?_) (a' := ?_) #[true, true, true, true, true, true, true, true, true, true, true, true, true, true, true, false, false, false, false, false, false, false, false, false, false, false, false, false, false, false, false, false, false, false, false, false, false, false, false, false, false, false, false, false, false, false, false, false, false, false, false, false, false, false, false, false, false, false, false, false, false, false, false, false, false, false, false, false, false, false, false, false, false, false, false, false, false, false, false, false, false, false, false, false, false, false, false, false, false, false] rfl rfl (any_of HT_.out (by kernel_rfl)) (fun _ _ _ h => h) (Or.inl ⟨by rfl, ?_⟩) ?_ ?_
  rotate_left
  · intro w'
    go_simp
    with_reducible rfl
  rotate_left
  · simp only [Act.put, List.setIfInBounds_toArray, List.set_cons_zero, List.set_cons_succ, i64_w, i32_w]
    rfl
  refine pure_ (i := 15) (N := some 43) (v := ?_) (a' := ?_) #[true, true, true, true, true, true, true, true, true, true, true, true, true, true, true, true, false, false, false, false, false, false, false, false, false, false, false, false, false, false, false, false, false, false, false, false, false, false, false, false, false, false, false, false, false, false, false, false, false, false, false, false, false, false, false, false, false, false, false, false, false, false, false, false, false, false, false, false, false, false, false, false, false, false, false, false, false, false, false, false, false, false, false, false, false, false, false, false, false, false] rfl rfl (any_of HT_.out (by kernel_rfl)) (fun _ _ _ h => h) (Or.inl ⟨by rfl, ?_⟩) ?_ ?_
  rotate_left
  · intro w'
    go_simp
    with_reducible rfl
  rotate_left
  · simp only [Act.put, List.setIfInBounds_toArray, List.set_cons_zero, List.set_cons_succ, i64_w, i32_w]
    rfl
  refine take_ (i := 16) (N := some 44) (v := ?_) (a' := ?_) #[true, true, true, true, true, true, true, true, true, true, true, true, true, true, true, true, true, false, false, false, false, false, false, false, false, false, false, false, false, false, false, false, false, false, false, false, false, false, false, false, false, false, false, false, false, false, false, false, false, false, false, false, false, false, false, false, false, false, false, false, false, false, false, false, false, false, false, false, false, false, false, false, false, false, false, false, false, false, false, false, false, false, false, false, false, false, false, false, false, false] rfl rfl (take_ofW HT_.out HW_.out (by kernel_rfl)) (fun _ _ _ h => h) (Or.inl ⟨by rfl, ?_⟩) hHeld ?_ ?_
  rotate_left
  · rintro w' ⟨s0, s1, s2, s3, s4, s5, s6, s7, s8, s9, s10, s11, s12, s13, s14, s15, s16, s17, s18, s19⟩
    go_simp
    with_reducible rfl
  rotate_left
  · simp only [Act.put, List.setIfInBounds_toArray, List.set_cons_zero, List.set_cons_succ, i64_w, i32_w]
    rfl
  refine take_ (i := 17) (N := some 45) (v := ?_) (a' := ?_) #[true, true, true, true, true, true, true, true, true, true, true, true, true, true, true, true, true, true, false, false, false, false, false, false, false, false, false, false, false, false, false, false, false, false, false, false, false, false, false, false, false, false, false, false, false, false, false, false, false, false, false, false, false, false, false, false, false, false, false, false, false, false, false, false, false, false, false, false, false, false, false, false, false, false, false, false, false, false, false, false, false, false, false, false, false, false, false, false, false, false] rfl rfl (take_ofW HT_.out HW_.out (by kernel_rfl)) (fun _ _ _ h => h) (Or.inl ⟨by rfl, ?_⟩) hHeld ?_ ?_
  rotate_left
  · rintro w' ⟨s0, s1, s2, s3, s4, s5, s6, s7, s8, s9, s10, s11, s12, s13, s14, s15, s16, s17, s18, s19⟩
    go_simp
    with_reducible rfl
  rotate_left
  · simp only [Act.put, List.setIfInBounds_toArray, List.set_cons_zero, List.set_cons_succ, i64_w, i32_w]
    rfl
  refine take_ (i := 19) (N := some 47) (v := ?_) (a' := ?_) #[true, true, true, true, true, true, true, true, true, true, true, true, true, true, true, true, true, true, false, true, false, false, false, false, false, false, false, false, false, false, false, false, false, false, false, false, false, false, false, false, false, false, false, false, false, false, false, false, false, false, false, false, false, false, false, false, false, false, false, false, false, false, false, false, false, false, false, false, false, false, false, false, false, false, false, false, false, false, false, false, false, false, false, false, false, false, false, false, false, false] rfl rfl (take_ofW HT_.out HW_.out (by kernel_rfl)) (fun _ _ _ h => h) (Or.inl ⟨by rfl, ?_⟩) hHeld ?_ ?_
  rotate_left
  · rintro w' ⟨s0, s1, s2, s3, s4, s5, s6, s7, s8, s9, s10, s11, s12, s13, s14, s15, s16, s17, s18, s19⟩
    go_simp
    with_reducible rfl
  rotate_left
  · simp only [Act.put, List.setIfInBounds_toArray, List.set_cons_zero, List.set_cons_succ, i64_w, i32_w]
    rfl
  refine take_ (i := 20) (N := some 48) (v := ?_) (a' := ?_) #[true, true, true, true, true, true, true, true, true, true, true, true, true, true, true, true, true, true, false, true, true, false, false, false, false, false, false, false, false, false, false, false, false, false, false, false, false, false, false, false, false, false, false, false, false, false, false, false, false, false, false, false, false, false, false, false, false, false, false, false, false, false, false, false, false, false, false, false, false, false, false, false, false, false, false, false, false, false, false, false, false, false, false, false, false, false, false, false, false, false] rfl rfl (take_ofW HT_.out HW_.out (by kernel_rfl)) (fun _ _ _ h => h) (Or.inl ⟨by rfl, ?_⟩) hHeld ?_ ?_
  rotate_left
  · rintro w' ⟨s0, s1, s2, s3, s4, s5, s6, s7, s8, s9, s10, s11, s12, s13, s14, s15, s16, s17, s18, s19⟩
    go_simp
    with_reducible rfl
  rotate_left
  · simp only [Act.put, List.setIfInBounds_toArray, List.set_cons_zero, List.set_cons_succ, i64_w, i32_w]
    rfl
  refine take_ (i := 21) (N := some 49) (v := ?_) (a' := ?_) #[true, true, true, true, true, true, true, true, true, true, true, true, true, true, true, true, true, true, false, true, true, true, false, false, false, false, false, false, false, false, false, false, false, false, false, false, false, false, false, false, false, false, false, false, false, false, false, false, false, false, false, false, false, false, false, false, false, false, false, false, false, false, false, false, false, false, false, false, false, false, false, false, false, false, false, false, false, false, false, false, false, false, false, false, false, false, false, false, false, false] rfl rfl (take_ofW HT_.out HW_.out (by kernel_rfl)) (fun _ _ _ h => h) (Or.inl ⟨by rfl, ?_⟩) hHeld ?_ ?_
  rotate_left
  · rintro w' ⟨s0, s1, s2, s3, s4, s5, s6, s7, s8, s9, s10, s11, s12, s13, s14, s15, s16, s17, s18, s19⟩
    go_simp
    with_reducible rfl
  rotate_left
  · simp only [Act.put, List.setIfInBounds_toArray, List.set_cons_zero, List.set_cons_succ, i64_w, i32_w]
    rfl
  refine one_ (i := 18) (N := some 46) #[true, true, true, true, true, true, true, true, true, true, true, true, true, true, true, true, true, true, true, true, true, true, false, false, false, false, false, false, false, false, false, false, false, false, false, false, false, false, false, false, false, false, false, false, false, false, false, false, false, false, false, false, false, false, false, false, false, false, false, false, false, false, false, false, false, false, false, false, false, false, false, false, false, false, false, false, false, false, false, false, false, false, false, false, false, false, false, false, false, false] rfl rfl (one_of HT_.out (by kernel_rfl)) (by decide) (fun K hK => ?_)
  refine goes_ Tryd.func12 (by kernel_rfl) rfl #[.agg #[.int .u64 t468, .int .u64 t469, .int .u64 t470, .int .u64 t471], .agg #[.int .u64 t463, .int .u64 t464, .int .u64 t465, .int .u64 t466]] (by rfl) rfl rfl (by (try simp only [List.map_toArray, List.map_cons, List.map_nil]); first | done | rfl | (simp only [List.length_drop, List.length_take]; rfl)) ?_
  with_reducible refine (vec_Join.calls t468 t469 t470 t471 t463 t464 t465 t466 t486 t487 t488 t489 _ A15.out).mono ?_
  rintro e w99 ⟨rfl, hb⟩
  refine ⟨_, rfl, ?_⟩
  have n0_ := Zq0 (Zb0 (g := gb449) (o := .cells #[.int .u64 a0_0, .int .u64 a0_1, .int .u64 a0_2, .int .u64 a0_3, .bool a0_4] 26 (0, 0)) (by (with_reducible repeat (first | refine Zn0 ?_ _ | refine Zd0 ?_ | refine Za0 ?_ _)); exact BK449.out) hb)
  have n1_ := Zq0 (Zb0 (g := gb450) (o := .cells #[.int .u64 a1_0, .int .u64 a1_1, .int .u64 a1_2, .int .u64 a1_3, .bool a1_4] 26 (0, 0)) (by (with_reducible repeat (first | refine Zn0 ?_ _ | refine Zd0 ?_ | refine Za0 ?_ _)); exact BK450.out) hb)
  have n2_ := Zq0 (Zb0 (g := gb451) (o := .cells #[.int .u64 a2_0, .int .u64 a2_1, .int .u64 a2_2, .int .u64 a2_3, .bool a2_4] 26 (0, 0)) (by (with_reducible repeat (first | refine Zn0 ?_ _ | refine Zd0 ?_ | refine Za0 ?_ _)); exact BK451.out) hb)
  have n3_ := Zq0 (Zb0 (g := gb457) (o := .cells #[.int .u64 t453, .int .u64 t454, .int .u64 t455, .int .u64 t456] 24 (0, 0)) (by (with_reducible repeat (first | refine Zn0 ?_ _ | refine Zd0 ?_ | refine Za0 ?_ _)); exact BK457.out) hb)
  have n4_ := Zq0 (Zb0 (g := gb462) (o := .cells #[.int .u64 t458, .int .u64 t459, .int .u64 t460, .int .u64 t461] 24 (0, 0)) (by (with_reducible repeat (first | refine Zn0 ?_ _ | refine Zd0 ?_ | refine Za0 ?_ _)); exact BK462.out) hb)
  have n5_ := Zq0 (Zb0 (g := gb467) (o := .cells #[.int .u64 t463, .int .u64 t464, .int .u64 t465, .int .u64 t466] 24 (0, 0)) (by (with_reducible repeat (first | refine Zn0 ?_ _ | refine Zd0 ?_ | refine Za0 ?_ _)); exact BK467.out) hb)
  have n6_ := Zq0 (Zb0 (g := gb472) (o := .cells #[.int .u64 t468, .int .u64 t469, .int .u64 t470, .int .u64 t471] 24 (0, 0)) (by (with_reducible repeat (first | refine Zn0 ?_ _ | refine Zd0 ?_ | refine Za0 ?_ _)); exact BK472.out) hb)
  have n7_ := Zq0 (Zb0 (g := gb477) (o := .cells #[.int .u64 t473, .int .u64 t474, .int .u64 t475, .int .u64 t476] 24 (0, 0)) (by (with_reducible repeat (first | refine Zn0 ?_ _ | refine Zd0 ?_ | refine Za0 ?_ _)); exact BK477.out) hb)
  have n8_ := Zq0 (below_step (by repeat (first | (with_reducible first | exact HB.out | apply below_alloc | apply Zw0 | apply Ze0 | refine Zs0 ?_ GE449.out | refine Zs0 ?_ GE450.out | refine Zs0 ?_ GE451.out | refine Zs0 ?_ GE457.out | refine Zs0 ?_ GE462.out | refine Zs0 ?_ GE467.out | refine Zs0 ?_ GE472.out | refine Zs0 ?_ GE477.out) | exact HB.out)) hb)
  clear BK449
  clear BK450
  clear BK451
  clear BK457
  clear BK462
  clear BK467
  clear BK472
  clear BK477
  clear HB
  have BK449 := n0_
  have BK450 := n1_
  have BK451 := n2_
  have BK457 := n3_
  have BK462 := n4_
  have BK467 := n5_
  have BK472 := n6_
  have BK477 := n7_
  have HB := n8_
  clear n0_ n1_ n2_ n3_ n4_ n5_ n6_ n7_ n8_
  (try clear hb)
  (try clear hb2)
  (try clear hk)
  (try clear hi)
  refine hK.out _ _ ⟨(blk_cell BK472.out 0).trans rfl, (blk_cell BK472.out 1).trans rfl, (blk_cell BK472.out 2).trans rfl, (blk_cell BK472.out 3).trans rfl, (blk_cell BK462.out 0).trans rfl, (blk_cell BK462.out 1).trans rfl, (blk_cell BK462.out 2).trans rfl, (blk_cell BK462.out 3).trans rfl, (blk_cell BK457.out 0).trans rfl, (blk_cell BK457.out 1).trans rfl, (blk_cell BK457.out 2).trans rfl, (blk_cell BK457.out 3).trans rfl, (blk_cell BK477.out 0).trans rfl, (blk_cell BK477.out 1).trans rfl, (blk_cell BK477.out 2).trans rfl, (blk_cell BK477.out 3).trans rfl, (blk_cell BK467.out 0).trans rfl, (blk_cell BK467.out 1).trans rfl, (blk_cell BK467.out 2).trans rfl, (blk_cell BK467.out 3).trans rfl⟩ (fun hHeld => ?_)
  clear hK K
  refine norm_ (a' := ?_) ?_ ?_
  rotate_left
  · show Act.put _ (some 46) _ = _
    simp only [Act.put, List.setIfInBounds_toArray, List.set_cons_zero, List.set_cons_succ, i64_w, i32_w]
    rfl
  refine one_ (i := 22) (N := some 50) #[true, true, true, true, true, true, true, true, true, true, true, true, true, true, true, true, true, true, true, true, true, true, true, false, false, false, false, false, false, false, false, false, false, false, false, false, false, false, false, false, false, false, false, false, false, false, false, false, false, false, false, false, false, false, false, false, false, false, false, false, false, false, false, false, false, false, false, false, false, false, false, false, false, false, false, false, false, false, false, false, false, false, false, false, false, false, false, false, false, false] rfl rfl (one_of HT_.out (by kernel_rfl)) (by decide) (fun K hK => ?_)
  refine goes_ Tryd.func12 (by kernel_rfl) rfl #[.agg #[.int .u64 t458, .int .u64 t459, .int .u64 t460, .int .u64 t461], .agg #[.int .u64 t463, .int .u64 t464, .int .u64 t465, .int .u64 t466]] (by rfl) rfl rfl (by (try simp only [List.map_toArray, List.map_cons, List.map_nil]); first | done | rfl | (simp only [List.length_drop, List.length_take]; rfl)) ?_
  with_reducible refine (vec_Join.calls t458 t459 t460 t461 t463 t464 t465 t466 t490 t491 t492 t493 _ A16.out).mono ?_
  rintro e w100 ⟨rfl, hb⟩
  refine ⟨_, rfl, ?_⟩
  have n0_ := Zq0 (Zb0 (g := gb449) (o := .cells #[.int .u64 a0_0, .int .u64 a0_1, .int .u64 a0_2, .int .u64 a0_3, .bool a0_4] 26 (0, 0)) (by (with_reducible repeat (first | refine Zn0 ?_ _ | refine Zd0 ?_ | refine Za0 ?_ _)); exact BK449.out) hb)
  have n1_ := Zq0 (Zb0 (g := gb450) (o := .cells #[.int .u64 a1_0, .int .u64 a1_1, .int .u64 a1_2, .int .u64 a1_3, .bool a1_4] 26 (0, 0)) (by (with_reducible repeat (first | refine Zn0 ?_ _ | refine Zd0 ?_ | refine Za0 ?_ _)); exact BK450.out) hb)
  have n2_ := Zq0 (Zb0 (g := gb451) (o := .cells #[.int .u64 a2_0, .int .u64 a2_1, .int .u64 a2_2, .int .u64 a2_3, .bool a2_4] 26 (0, 0)) (by (with_reducible repeat (first | refine Zn0 ?_ _ | refine Zd0 ?_ | refine Za0 ?_ _)); exact BK451.out) hb)
  have n3_ := Zq0 (Zb0 (g := gb457) (o := .cells #[.int .u64 t453, .int .u64 t454, .int .u64 t455, .int .u64 t456] 24 (0, 0)) (by (with_reducible repeat (first | refine Zn0 ?_ _ | refine Zd0 ?_ | refine Za0 ?_ _)); exact BK457.out) hb)
  have n4_ := Zq0 (Zb0 (g := gb462) (o := .cells #[.int .u64 t458, .int .u64 t459, .int .u64 t460, .int .u64 t461] 24 (0, 0)) (by (with_reducible repeat (first | refine Zn0 ?_ _ | refine Zd0 ?_ | refine Za0 ?_ _)); exact BK462.out) hb)
  have n5_ := Zq0 (Zb0 (g := gb467) (o := .cells #[.int .u64 t463, .int .u64 t464, .int .u64 t465, .int .u64 t466] 24 (0, 0)) (by (with_reducible repeat (first | refine Zn0 ?_ _ | refine Zd0 ?_ | refine Za0 ?_ _)); exact BK467.out) hb)
  have n6_ := Zq0 (Zb0 (g := gb472) (o := .cells #[.int .u64 t468, .int .u64 t469, .int .u64 t470, .int .u64 t471] 24 (0, 0)) (by (with_reducible repeat (first | refine Zn0 ?_ _ | refine Zd0 ?_ | refine Za0 ?_ _)); exact BK472.out) hb)
  have n7_ := Zq0 (Zb0 (g := gb477) (o := .cells #[.int .u64 t473, .int .u64 t474, .int .u64 t475, .int .u64 t476] 24 (0, 0)) (by (with_reducible repeat (first | refine Zn0 ?_ _ | refine Zd0 ?_ | refine Za0 ?_ _)); exact BK477.out) hb)
  have n8_ := Zq0 (below_step (by repeat (first | (with_reducible first | exact HB.out | apply below_alloc | apply Zw0 | apply Ze0 | refine Zs0 ?_ GE449.out | refine Zs0 ?_ GE450.out | refine Zs0 ?_ GE451.out | refine Zs0 ?_ GE457.out | refine Zs0 ?_ GE462.out | refine Zs0 ?_ GE467.out | refine Zs0 ?_ GE472.out | refine Zs0 ?_ GE477.out) | exact HB.out)) hb)
  clear BK449
  clear BK450
  clear BK451
  clear BK457
  clear BK462
  clear BK467
  clear BK472
  clear BK477
  clear HB
  have BK449 := n0_
  have BK450 := n1_
  have BK451 := n2_
  have BK457 := n3_
  have BK462 := n4_
  have BK467 := n5_
  have BK472 := n6_
  have BK477 := n7_
  have HB := n8_
  clear n0_ n1_ n2_ n3_ n4_ n5_ n6_ n7_ n8_
  (try clear hb)
  (try clear hb2)
  (try clear hk)
  (try clear hi)
  refine hK.out _ _ ⟨(blk_cell BK472.out 0).trans rfl, (blk_cell BK472.out 1).trans rfl, (blk_cell BK472.out 2).trans rfl, (blk_cell BK472.out 3).trans rfl, (blk_cell BK462.out 0).trans rfl, (blk_cell BK462.out 1).trans rfl, (blk_cell BK462.out 2).trans rfl, (blk_cell BK462.out 3).trans rfl, (blk_cell BK457.out 0).trans rfl, (blk_cell BK457.out 1).trans rfl, (blk_cell BK457.out 2).trans rfl, (blk_cell BK457.out 3).trans rfl, (blk_cell BK477.out 0).trans rfl, (blk_cell BK477.out 1).trans rfl, (blk_cell BK477.out 2).trans rfl, (blk_cell BK477.out 3).trans rfl, (blk_cell BK467.out 0).trans rfl, (blk_cell BK467.out 1).trans rfl, (blk_cell BK467.out 2).trans rfl, (blk_cell BK467.out 3).trans rfl⟩ (fun hHeld => ?_)
  clear hK K
  refine norm_ (a' := ?_) ?_ ?_
  rotate_left
  · show Act.put _ (some 50) _ = _
    simp only [Act.put, List.setIfInBounds_toArray, List.set_cons_zero, List.set_cons_succ, i64_w, i32_w]
    rfl
  refine one_ (i := 23) (N := some 51) #[true, true, true, true, true, true, true, true, true, true, true, true, true, true, true, true, true, true, true, true, true, true, true, true, false, false, false, false, false, false, false, false, false, false, false, false, false, false, false, false, false, false, false, false, false, false, false, false, false, false, false, false, false, false, false, false, false, false, false, false, false, false, false, false, false, false, false, false, false, false, false, false, false, false, false, false, false, false, false, false, false, false, false, false, false, false, false, false, false, false] rfl rfl (one_of HT_.out (by kernel_rfl)) (by decide) (fun K hK => ?_)
  refine goes_ Tryd.func12 (by kernel_rfl) rfl #[.agg #[.int .u64 t453, .int .u64 t454, .int .u64 t455, .int .u64 t456], .agg #[.int .u64 t490, .int .u64 t491, .int .u64 t492, .int .u64 t493]] (by rfl) rfl rfl (by (try simp only [List.map_toArray, List.map_cons, List.map_nil]); first | done | rfl | (simp only [List.length_drop, List.length_take]; rfl)) ?_
  with_reducible refine (vec_Join.calls t453 t454 t455 t456 t490 t491 t492 t493 t494 t495 t496 t497 _ A17.out).mono ?_
  rintro e w101 ⟨rfl, hb⟩
  refine ⟨_, rfl, ?_⟩
  have n0_ := Zq0 (Zb0 (g := gb449) (o := .cells #[.int .u64 a0_0, .int .u64 a0_1, .int .u64 a0_2, .int .u64 a0_3, .bool a0_4] 26 (0, 0)) (by (with_reducible repeat (first | refine Zn0 ?_ _ | refine Zd0 ?_ | refine Za0 ?_ _)); exact BK449.out) hb)
  have n1_ := Zq0 (Zb0 (g := gb450) (o := .cells #[.int .u64 a1_0, .int .u64 a1_1, .int .u64 a1_2, .int .u64 a1_3, .bool a1_4] 26 (0, 0)) (by (with_reducible repeat (first | refine Zn0 ?_ _ | refine Zd0 ?_ | refine Za0 ?_ _)); exact BK450.out) hb)
  have n2_ := Zq0 (Zb0 (g := gb451) (o := .cells #[.int .u64 a2_0, .int .u64 a2_1, .int .u64 a2_2, .int .u64 a2_3, .bool a2_4] 26 (0, 0)) (by (with_reducible repeat (first | refine Zn0 ?_ _ | refine Zd0 ?_ | refine Za0 ?_ _)); exact BK451.out) hb)
  have n3_ := Zq0 (Zb0 (g := gb457) (o := .cells #[.int .u64 t453, .int .u64 t454, .int .u64 t455, .int .u64 t456] 24 (0, 0)) (by (with_reducible repeat (first | refine Zn0 ?_ _ | refine Zd0 ?_ | refine Za0 ?_ _)); exact BK457.out) hb)
  have n4_ := Zq0 (Zb0 (g := gb462) (o := .cells #[.int .u64 t458, .int .u64 t459, .int .u64 t460, .int .u64 t461] 24 (0, 0)) (by (with_reducible repeat (first | refine Zn0 ?_ _ | refine Zd0 ?_ | refine Za0 ?_ _)); exact BK462.out) hb)
  have n5_ := Zq0 (Zb0 (g := gb467) (o := .cells #[.int .u64 t463, .int .u64 t464, .int .u64 t465, .int .u64 t466] 24 (0, 0)) (by (with_reducible repeat (first | refine Zn0 ?_ _ | refine Zd0 ?_ | refine Za0 ?_ _)); exact BK467.out) hb)
  have n6_ := Zq0 (Zb0 (g := gb472) (o := .cells #[.int .u64 t468, .int .u64 t469, .int .u64 t470, .int .u64 t471] 24 (0, 0)) (by (with_reducible repeat (first | refine Zn0 ?_ _ | refine Zd0 ?_ | refine Za0 ?_ _)); exact BK472.out) hb)
  have n7_ := Zq0 (Zb0 (g := gb477) (o := .cells #[.int .u64 t473, .int .u64 t474, .int .u64 t475, .int .u64 t476] 24 (0, 0)) (by (with_reducible repeat (first | refine Zn0 ?_ _ | refine Zd0 ?_ | refine Za0 ?_ _)); exact BK477.out) hb)
  have n8_ := Zq0 (below_step (by repeat (first | (with_reducible first | exact HB.out | apply below_alloc | apply Zw0 | apply Ze0 | refine Zs0 ?_ GE449.out | refine Zs0 ?_ GE450.out | refine Zs0 ?_ GE451.out | refine Zs0 ?_ GE457.out | refine Zs0 ?_ GE462.out | refine Zs0 ?_ GE467.out | refine Zs0 ?_ GE472.out | refine Zs0 ?_ GE477.out) | exact HB.out)) hb)
  clear BK449
  clear BK450
  clear BK451
  clear BK457
  clear BK462
  clear BK467
  clear BK472
  clear BK477
  clear HB
  have BK449 := n0_
  have BK450 := n1_
  have BK451 := n2_
  have BK457 := n3_
  have BK462 := n4_
  have BK467 := n5_
  have BK472 := n6_
  have BK477 := n7_
  have HB := n8_
  clear n0_ n1_ n2_ n3_ n4_ n5_ n6_ n7_ n8_
  (try clear hb)
  (try clear hb2)
  (try clear hk)
  (try clear hi)
  refine hK.out _ _ ⟨(blk_cell BK472.out 0).trans rfl, (blk_cell BK472.out 1).trans rfl, (blk_cell BK472.out 2).trans rfl, (blk_cell BK472.out 3).trans rfl, (blk_cell BK462.out 0).trans rfl, (blk_cell BK462.out 1).trans rfl, (blk_cell BK462.out 2).trans rfl, (blk_cell BK462.out 3).trans rfl, (blk_cell BK457.out 0).trans rfl, (blk_cell BK457.out 1).trans rfl, (blk_cell BK457.out 2).trans rfl, (blk_cell BK457.out 3).trans rfl, (blk_cell BK477.out 0).trans rfl, (blk_cell BK477.out 1).trans rfl, (blk_cell BK477.out 2).trans rfl, (blk_cell BK477.out 3).trans rfl, (blk_cell BK467.out 0).trans rfl, (blk_cell BK467.out 1).trans rfl, (blk_cell BK467.out 2).trans rfl, (blk_cell BK467.out 3).trans rfl⟩ (fun hHeld => ?_)
  clear hK K
  refine norm_ (a' := ?_) ?_ ?_
  rotate_left
  · show Act.put _ (some 51) _ = _
    simp only [Act.put, List.setIfInBounds_toArray, List.set_cons_zero, List.set_cons_succ, i64_w, i32_w]
    rfl
  refine pure_ (i := 24) (N := some 52) (v := ?_) (a' := ?_) #[true, true, true, true, true, true, true, true, true, true, true, true, true, true, true, true, true, true, true, true, true, true, true, true, true, false, false, false, false, false, false, false, false, false, false, false, false, false, false, false, false, false, false, false, false, false, false, false, false, false, false, false, false, false, false, false, false, false, false, false, false, false, false, false, false, false, false, false, false, false, false, false, false, false, false, false, false, false, false, false, false, false, false, false, false, false, false, false, false, false] rfl rfl (any_of HT_.out (by kernel_rfl)) (fun _ _ _ h => h) (Or.inl ⟨by rfl, ?_⟩) ?_ ?_
  rotate_left
  · intro w'
    go_simp
    with_reducible rfl
  rotate_left
  · simp only [Act.put, List.setIfInBounds_toArray, List.set_cons_zero, List.set_cons_succ, i64_w, i32_w]
    rfl
  refine pure_ (i := 25) (N := some 53) (v := ?_) (a' := ?_) #[true, true, true, true, true, true, true, true, true, true, true, true, true, true, true, true, true, true, true, true, true, true, true, true, true, true, false, false, false, false, false, false, false, false, false, false, false, false, false, false, false, false, false, false, false, false, false, false, false, false, false, false, false, false, false, false, false, false, false, false, false, false, false, false, false, false, false, false, false, false, false, false, false, false, false, false, false, false, false, false, false, false, false, false, false, false, false, false, false, false] rfl rfl (any_of HT_.out (by kernel_rfl)) (fun _ _ _ h => h) (Or.inl ⟨by rfl, ?_⟩) ?_ ?_
  rotate_left
  · intro w'
    go_simp
    with_reducible rfl
  rotate_left
  · simp only [Act.put, List.setIfInBounds_toArray, List.set_cons_zero, List.set_cons_succ, i64_w, i32_w]
    rfl
  refine pure_ (i := 26) (N := some 54) (v := ?_) (a' := ?_) #[true, true, true, true, true, true, true, true, true, true, true, true, true, true, true, true, true, true, true, true, true, true, true, true, true, true, true, false, false, false, false, false, false, false, false, false, false, false, false, false, false, false, false, false, false, false, false, false, false, false, false, false, false, false, false, false, false, false, false, false, false, false, false, false, false, false, false, false, false, false, false, false, false, false, false, false, false, false, false, false, false, false, false, false, false, false, false, false, false, false] rfl rfl (any_of HT_.out (by kernel_rfl)) (fun _ _ _ h => h) (Or.inl ⟨by rfl, ?_⟩) ?_ ?_
  rotate_left
  · intro w'
    go_simp
    with_reducible rfl
  rotate_left
  · simp only [Act.put, List.setIfInBounds_toArray, List.set_cons_zero, List.set_cons_succ, i64_w, i32_w]
    rfl
  refine take_ (i := 27) (N := some 55) (v := ?_) (a' := ?_) #[true, true, true, true, true, true, true, true, true, true, true, true, true, true, true, true, true, true, true, true, true, true, true, true, true, true, true, true, false, false, false, false, false, false, false, false, false, false, false, false, false, false, false, false, false, false, false, false, false, false, false, false, false, false, false, false, false, false, false, false, false, false, false, false, false, false, false, false, false, false, false, false, false, false, false, false, false, false, false, false, false, false, false, false, false, false, false, false, false, false] rfl rfl (take_ofW HT_.out HW_.out (by kernel_rfl)) (fun _ _ _ h => h) (Or.inl ⟨by rfl, ?_⟩) hHeld ?_ ?_
  rotate_left
  · rintro w' ⟨s0, s1, s2, s3, s4, s5, s6, s7, s8, s9, s10, s11, s12, s13, s14, s15, s16, s17, s18, s19⟩
    go_simp
    with_reducible rfl
  rotate_left
  · simp only [Act.put, List.setIfInBounds_toArray, List.set_cons_zero, List.set_cons_succ, i64_w, i32_w]
    rfl
  refine take_ (i := 28) (N := some 56) (v := ?_) (a' := ?_) #[true, true, true, true, true, true, true, true, true, true, true, true, true, true, true, true, true, true, true, true, true, true, true, true, true, true, true, true, true, false, false, false, false, false, false, false, false, false, false, false, false, false, false, false, false, false, false, false, false, false, false, false, false, false, false, false, false, false, false, false, false, false, false, false, false, false, false, false, false, false, false, false, false, false, false, false, false, false, false, false, false, false, false, false, false, false, false, false, false, false] rfl rfl (take_ofW HT_.out HW_.out (by kernel_rfl)) (fun _ _ _ h => h) (Or.inl ⟨by rfl, ?_⟩) hHeld ?_ ?_
  rotate_left
  · rintro w' ⟨s0, s1, s2, s3, s4, s5, s6, s7, s8, s9, s10, s11, s12, s13, s14, s15, s16, s17, s18, s19⟩
    go_simp
    with_reducible rfl
  rotate_left
  · simp only [Act.put, List.setIfInBounds_toArray, List.set_cons_zero, List.set_cons_succ, i64_w, i32_w]
    rfl
  refine take_ (i := 30) (N := some 58) (v := ?_) (a' := ?_) #[true, true, true, true, true, true, true, true, true, true, true, true, true, true, true, true, true, true, true, true, true, true, true, true, true, true, true, true, true, false, true, false, false, false, false, false, false, false, false, false, false, false, false, false, false, false, false, false, false, false, false, false, false, false, false, false, false, false, false, false, false, false, false, false, false, false, false, false, false, false, false, false, false, false, false, false, false, false, false, false, false, false, false, false, false, false, false, false, false, false] rfl rfl (take_ofW HT_.out HW_.out (by kernel_rfl)) (fun _ _ _ h => h) (Or.inl ⟨by rfl, ?_⟩) hHeld ?_ ?_
  rotate_left
  · rintro w' ⟨s0, s1, s2, s3, s4, s5, s6, s7, s8, s9, s10, s11, s12, s13, s14, s15, s16, s17, s18, s19⟩
    go_simp
    with_reducible rfl
  rotate_left
  · simp only [Act.put, List.setIfInBounds_toArray, List.set_cons_zero, List.set_cons_succ, i64_w, i32_w]
    rfl
  refine take_ (i := 31) (N := some 59) (v := ?_) (a' := ?_) #[true, true, true, true, true, true, true, true, true, true, true, true, true, true, true, true, true, true, true, true, true, true, true, true, true, true, true, true, true, false, true, true, false, false, false, false, false, false, false, false, false, false, false, false, false, false, false, false, false, false, false, false, false, false, false, false, false, false, false, false, false, false, false, false, false, false, false, false, false, false, false, false, false, false, false, false, false, false, false, false, false, false, false, false, false, false, false, false, false, false] rfl rfl (take_ofW HT_.out HW_.out (by kernel_rfl)) (fun _ _ _ h => h) (Or.inl ⟨by rfl, ?_⟩) hHeld ?_ ?_
  rotate_left
  · rintro w' ⟨s0, s1, s2, s3, s4, s5, s6, s7, s8, s9, s10, s11, s12, s13, s14, s15, s16, s17, s18, s19⟩
    go_simp
    with_reducible rfl
  rotate_left
  · simp only [Act.put, List.setIfInBounds_toArray, List.set_cons_zero, List.set_cons_succ, i64_w, i32_w]
    rfl
  refine take_ (i := 32) (N := some 60) (v := ?_) (a' := ?_) #[true, true, true, true, true, true, true, true, true, true, true, true, true, true, true, true, true, true, true, true, true, true, true, true, true, true, true, true, true, false, true, true, true, false, false, false, false, false, false, false, false, false, false, false, false, false, false, false, false, false, false, false, false, false, false, false, false, false, false, false, false, false, false, false, false, false, false, false, false, false, false, false, false, false, false, false, false, false, false, false, false, false, false, false, false, false, false, false, false, false] rfl rfl (take_ofW HT_.out HW_.out (by kernel_rfl)) (fun _ _ _ h => h) (Or.inl ⟨by rfl, ?_⟩) hHeld ?_ ?_
  rotate_left
  · rintro w' ⟨s0, s1, s2, s3, s4, s5, s6, s7, s8, s9, s10, s11, s12, s13, s14, s15, s16, s17, s18, s19⟩
    go_simp
    with_reducible rfl
  rotate_left
  · simp only [Act.put, List.setIfInBounds_toArray, List.set_cons_zero, List.set_cons_succ, i64_w, i32_w]
    rfl
  refine one_ (i := 29) (N := some 57) #[true, true, true, true, true, true, true, true, true, true, true, true, true, true, true, true, true, true, true, true, true, true, true, true, true, true, true, true, true, true, true, true, true, false, false, false, false, false, false, false, false, false, false, false, false, false, false, false, false, false, false, false, false, false, false, false, false, false, false, false, false, false, false, false, false, false, false, false, false, false, false, false, false, false, false, false, false, false, false, false, false, false, false, false, false, false, false, false, false, false] rfl rfl (one_of HT_.out (by kernel_rfl)) (by decide) (fun K hK => ?_)
  refine goes_ Tryd.func14 (by kernel_rfl) rfl #[.agg #[.int .u64 t473, .int .u64 t474, .int .u64 t475, .int .u64 t476], .agg #[.int .u64 t463, .int .u64 t464, .int .u64 t465, .int .u64 t466]] (by rfl) rfl rfl (by (try simp only [List.map_toArray, List.map_cons, List.map_nil]); first | done | rfl | (simp only [List.length_drop, List.length_take]; rfl)) ?_
  with_reducible refine (vec_Meet.calls t473 t474 t475 t476 t463 t464 t465 t466 t498 t499 t500 t501 _ A19.out).mono ?_
  rintro e w102 ⟨rfl, hb⟩
  refine ⟨_, rfl, ?_⟩
  have n0_ := Zq0 (Zb0 (g := gb449) (o := .cells #[.int .u64 a0_0, .int .u64 a0_1, .int .u64 a0_2, .int .u64 a0_3, .bool a0_4] 26 (0, 0)) (by (with_reducible repeat (first | refine Zn0 ?_ _ | refine Zd0 ?_ | refine Za0 ?_ _)); exact BK449.out) hb)
  have n1_ := Zq0 (Zb0 (g := gb450) (o := .cells #[.int .u64 a1_0, .int .u64 a1_1, .int .u64 a1_2, .int .u64 a1_3, .bool a1_4] 26 (0, 0)) (by (with_reducible repeat (first | refine Zn0 ?_ _ | refine Zd0 ?_ | refine Za0 ?_ _)); exact BK450.out) hb)
  have n2_ := Zq0 (Zb0 (g := gb451) (o := .cells #[.int .u64 a2_0, .int .u64 a2_1, .int .u64 a2_2, .int .u64 a2_3, .bool a2_4] 26 (0, 0)) (by (with_reducible repeat (first | refine Zn0 ?_ _ | refine Zd0 ?_ | refine Za0 ?_ _)); exact BK451.out) hb)
  have n3_ := Zq0 (Zb0 (g := gb457) (o := .cells #[.int .u64 t453, .int .u64 t454, .int .u64 t455, .int .u64 t456] 24 (0, 0)) (by (with_reducible repeat (first | refine Zn0 ?_ _ | refine Zd0 ?_ | refine Za0 ?_ _)); exact BK457.out) hb)
  have n4_ := Zq0 (Zb0 (g := gb462) (o := .cells #[.int .u64 t458, .int .u64 t459, .int .u64 t460, .int .u64 t461] 24 (0, 0)) (by (with_reducible repeat (first | refine Zn0 ?_ _ | refine Zd0 ?_ | refine Za0 ?_ _)); exact BK462.out) hb)
  have n5_ := Zq0 (Zb0 (g := gb467) (o := .cells #[.int .u64 t463, .int .u64 t464, .int .u64 t465, .int .u64 t466] 24 (0, 0)) (by (with_reducible repeat (first | refine Zn0 ?_ _ | refine Zd0 ?_ | refine Za0 ?_ _)); exact BK467.out) hb)
  have n6_ := Zq0 (Zb0 (g := gb472) (o := .cells #[.int .u64 t468, .int .u64 t469, .int .u64 t470, .int .u64 t471] 24 (0, 0)) (by (with_reducible repeat (first | refine Zn0 ?_ _ | refine Zd0 ?_ | refine Za0 ?_ _)); exact BK472.out) hb)
  have n7_ := Zq0 (Zb0 (g := gb477) (o := .cells #[.int .u64 t473, .int .u64 t474, .int .u64 t475, .int .u64 t476] 24 (0, 0)) (by (with_reducible repeat (first | refine Zn0 ?_ _ | refine Zd0 ?_ | refine Za0 ?_ _)); exact BK477.out) hb)
  have n8_ := Zq0 (below_step (by repeat (first | (with_reducible first | exact HB.out | apply below_alloc | apply Zw0 | apply Ze0 | refine Zs0 ?_ GE449.out | refine Zs0 ?_ GE450.out | refine Zs0 ?_ GE451.out | refine Zs0 ?_ GE457.out | refine Zs0 ?_ GE462.out | refine Zs0 ?_ GE467.out | refine Zs0 ?_ GE472.out | refine Zs0 ?_ GE477.out) | exact HB.out)) hb)
  clear BK449
  clear BK450
  clear BK451
  clear BK457
  clear BK462
  clear BK467
  clear BK472
  clear BK477
  clear HB
  have BK449 := n0_
  have BK450 := n1_
  have BK451 := n2_
  have BK457 := n3_
  have BK462 := n4_
  have BK467 := n5_
  have BK472 := n6_
  have BK477 := n7_
  have HB := n8_
  clear n0_ n1_ n2_ n3_ n4_ n5_ n6_ n7_ n8_
  (try clear hb)
  (try clear hb2)
  (try clear hk)
  (try clear hi)
  refine hK.out _ _ ⟨(blk_cell BK472.out 0).trans rfl, (blk_cell BK472.out 1).trans rfl, (blk_cell BK472.out 2).trans rfl, (blk_cell BK472.out 3).trans rfl, (blk_cell BK462.out 0).trans rfl, (blk_cell BK462.out 1).trans rfl, (blk_cell BK462.out 2).trans rfl, (blk_cell BK462.out 3).trans rfl, (blk_cell BK457.out 0).trans rfl, (blk_cell BK457.out 1).trans rfl, (blk_cell BK457.out 2).trans rfl, (blk_cell BK457.out 3).trans rfl, (blk_cell BK477.out 0).trans rfl, (blk_cell BK477.out 1).trans rfl, (blk_cell BK477.out 2).trans rfl, (blk_cell BK477.out 3).trans rfl, (blk_cell BK467.out 0).trans rfl, (blk_cell BK467.out 1).trans rfl, (blk_cell BK467.out 2).trans rfl, (blk_cell BK467.out 3).trans rfl⟩ (fun hHeld => ?_)
  clear hK K
  refine norm_ (a' := ?_) ?_ ?_
  rotate_left
  · show Act.put _ (some 57) _ = _
    simp only [Act.put, List.setIfInBounds_toArray, List.set_cons_zero, List.set_cons_succ, i64_w, i32_w]
    rfl
  refine one_ (i := 33) (N := some 61) #[true, true, true, true, true, true, true, true, true, true, true, true, true, true, true, true, true, true, true, true, true, true, true, true, true, true, true, true, true, true, true, true, true, true, false, false, false, false, false, false, false, false, false, false, false, false, false, false, false, false, false, false, false, false, false, false, false, false, false, false, false, false, false, false, false, false, false, false, false, false, false, false, false, false, false, false, false, false, false, false, false, false, false, false, false, false, false, false, false, false] rfl rfl (one_of HT_.out (by kernel_rfl)) (by decide) (fun K hK => ?_)
  refine goes_ Tryd.func14 (by kernel_rfl) rfl #[.agg #[.int .u64 t458, .int .u64 t459, .int .u64 t460, .int .u64 t461], .agg #[.int .u64 t463, .int .u64 t464, .int .u64 t465, .int .u64 t466]] (by rfl) rfl rfl (by (try simp only [List.map_toArray, List.map_cons, List.map_nil]); first | done | rfl | (simp only [List.length_drop, List.length_take]; rfl)) ?_
  with_reducible refine (vec_Meet.calls t458 t459 t460 t461 t463 t464 t465 t466 t502 t503 t504 t505 _ A20.out).mono ?_
  rintro e w103 ⟨rfl, hb⟩
  refine ⟨_, rfl, ?_⟩
  have n0_ := Zq0 (Zb0 (g := gb449) (o := .cells #[.int .u64 a0_0, .int .u64 a0_1, .int .u64 a0_2, .int .u64 a0_3, .bool a0_4] 26 (0, 0)) (by (with_reducible repeat (first | refine Zn0 ?_ _ | refine Zd0 ?_ | refine Za0 ?_ _)); exact BK449.out) hb)
  have n1_ := Zq0 (Zb0 (g := gb450) (o := .cells #[.int .u64 a1_0, .int .u64 a1_1, .int .u64 a1_2, .int .u64 a1_3, .bool a1_4] 26 (0, 0)) (by (with_reducible repeat (first | refine Zn0 ?_ _ | refine Zd0 ?_ | refine Za0 ?_ _)); exact BK450.out) hb)
  have n2_ := Zq0 (Zb0 (g := gb451) (o := .cells #[.int .u64 a2_0, .int .u64 a2_1, .int .u64 a2_2, .int .u64 a2_3, .bool a2_4] 26 (0, 0)) (by (with_reducible repeat (first | refine Zn0 ?_ _ | refine Zd0 ?_ | refine Za0 ?_ _)); exact BK451.out) hb)
  have n3_ := Zq0 (Zb0 (g := gb457) (o := .cells #[.int .u64 t453, .int .u64 t454, .int .u64 t455, .int .u64 t456] 24 (0, 0)) (by (with_reducible repeat (first | refine Zn0 ?_ _ | refine Zd0 ?_ | refine Za0 ?_ _)); exact BK457.out) hb)
  have n4_ := Zq0 (Zb0 (g := gb462) (o := .cells #[.int .u64 t458, .int .u64 t459, .int .u64 t460, .int .u64 t461] 24 (0, 0)) (by (with_reducible repeat (first | refine Zn0 ?_ _ | refine Zd0 ?_ | refine Za0 ?_ _)); exact BK462.out) hb)
  have n5_ := Zq0 (Zb0 (g := gb467) (o := .cells #[.int .u64 t463, .int .u64 t464, .int .u64 t465, .int .u64 t466] 24 (0, 0)) (by (with_reducible repeat (first | refine Zn0 ?_ _ | refine Zd0 ?_ | refine Za0 ?_ _)); exact BK467.out) hb)
  have n6_ := Zq0 (Zb0 (g := gb472) (o := .cells #[.int .u64 t468, .int .u64 t469, .int .u64 t470, .int .u64 t471] 24 (0, 0)) (by (with_reducible repeat (first | refine Zn0 ?_ _ | refine Zd0 ?_ | refine Za0 ?_ _)); exact BK472.out) hb)
  have n7_ := Zq0 (Zb0 (g := gb477) (o := .cells #[.int .u64 t473, .int .u64 t474, .int .u64 t475, .int .u64 t476] 24 (0, 0)) (by (with_reducible repeat (first | refine Zn0 ?_ _ | refine Zd0 ?_ | refine Za0 ?_ _)); exact BK477.out) hb)
  have n8_ := Zq0 (below_step (by repeat (first | (with_reducible first | exact HB.out | apply below_alloc | apply Zw0 | apply Ze0 | refine Zs0 ?_ GE449.out | refine Zs0 ?_ GE450.out | refine Zs0 ?_ GE451.out | refine Zs0 ?_ GE457.out | refine Zs0 ?_ GE462.out | refine Zs0 ?_ GE467.out | refine Zs0 ?_ GE472.out | refine Zs0 ?_ GE477.out) | exact HB.out)) hb)
  clear BK449
  clear BK450
  clear BK451
  clear BK457
  clear BK462
  clear BK467
  clear BK472
  clear BK477
  clear HB
  have BK449 := n0_
  have BK450 := n1_
  have BK451 := n2_
  have BK457 := n3_
  have BK462 := n4_
  have BK467 := n5_
  have BK472 := n6_
  have BK477 := n7_
  have HB := n8_
  clear n0_ n1_ n2_ n3_ n4_ n5_ n6_ n7_ n8_
  (try clear hb)
  (try clear hb2)
  (try clear hk)
  (try clear hi)
  refine hK.out _ _ ⟨(blk_cell BK472.out 0).trans rfl, (blk_cell BK472.out 1).trans rfl, (blk_cell BK472.out 2).trans rfl, (blk_cell BK472.out 3).trans rfl, (blk_cell BK462.out 0).trans rfl, (blk_cell BK462.out 1).trans rfl, (blk_cell BK462.out 2).trans rfl, (blk_cell BK462.out 3).trans rfl, (blk_cell BK457.out 0).trans rfl, (blk_cell BK457.out 1).trans rfl, (blk_cell BK457.out 2).trans rfl, (blk_cell BK457.out 3).trans rfl, (blk_cell BK477.out 0).trans rfl, (blk_cell BK477.out 1).trans rfl, (blk_cell BK477.out 2).trans rfl, (blk_cell BK477.out 3).trans rfl, (blk_cell BK467.out 0).trans rfl, (blk_cell BK467.out 1).trans rfl, (blk_cell BK467.out 2).trans rfl, (blk_cell BK467.out 3).trans rfl⟩ (fun hHeld => ?_)
  clear hK K
  refine norm_ (a' := ?_) ?_ ?_
  rotate_left
  · show Act.put _ (some 61) _ = _
    simp only [Act.put, List.setIfInBounds_toArray, List.set_cons_zero, List.set_cons_succ, i64_w, i32_w]
    rfl
  refine one_ (i := 34) (N := some 62) #[true, true, true, true, true, true, true, true, true, true, true, true, true, true, true, true, true, true, true, true, true, true, true, true, true, true, true, true, true, true, true, true, true, true, true, false, false, false, false, false, false, false, false, false, false, false, false, false, false, false, false, false, false, false, false, false, false, false, false, false, false, false, false, false, false, false, false, false, false, false, false, false, false, false, false, false, false, false, false, false, false, false, false, false, false, false, false, false, false, false] rfl rfl (one_of HT_.out (by kernel_rfl)) (by decide) (fun K hK => ?_)
  refine goes_ Tryd.func14 (by kernel_rfl) rfl #[.agg #[.int .u64 t453, .int .u64 t454, .int .u64 t455, .int .u64 t456], .agg #[.int .u64 t502, .int .u64 t503, .int .u64 t504, .int .u64 t505]] (by rfl) rfl rfl (by (try simp only [List.map_toArray, List.map_cons, List.map_nil]); first | done | rfl | (simp only [List.length_drop, List.length_take]; rfl)) ?_
  with_reducible refine (vec_Meet.calls t453 t454 t455 t456 t502 t503 t504 t505 t506 t507 t508 t509 _ A21.out).mono ?_
  rintro e w104 ⟨rfl, hb⟩
  refine ⟨_, rfl, ?_⟩
  have n0_ := Zq0 (Zb0 (g := gb449) (o := .cells #[.int .u64 a0_0, .int .u64 a0_1, .int .u64 a0_2, .int .u64 a0_3, .bool a0_4] 26 (0, 0)) (by (with_reducible repeat (first | refine Zn0 ?_ _ | refine Zd0 ?_ | refine Za0 ?_ _)); exact BK449.out) hb)
  have n1_ := Zq0 (Zb0 (g := gb450) (o := .cells #[.int .u64 a1_0, .int .u64 a1_1, .int .u64 a1_2, .int .u64 a1_3, .bool a1_4] 26 (0, 0)) (by (with_reducible repeat (first | refine Zn0 ?_ _ | refine Zd0 ?_ | refine Za0 ?_ _)); exact BK450.out) hb)
  have n2_ := Zq0 (Zb0 (g := gb451) (o := .cells #[.int .u64 a2_0, .int .u64 a2_1, .int .u64 a2_2, .int .u64 a2_3, .bool a2_4] 26 (0, 0)) (by (with_reducible repeat (first | refine Zn0 ?_ _ | refine Zd0 ?_ | refine Za0 ?_ _)); exact BK451.out) hb)
  have n3_ := Zq0 (Zb0 (g := gb457) (o := .cells #[.int .u64 t453, .int .u64 t454, .int .u64 t455, .int .u64 t456] 24 (0, 0)) (by (with_reducible repeat (first | refine Zn0 ?_ _ | refine Zd0 ?_ | refine Za0 ?_ _)); exact BK457.out) hb)
  have n4_ := Zq0 (Zb0 (g := gb462) (o := .cells #[.int .u64 t458, .int .u64 t459, .int .u64 t460, .int .u64 t461] 24 (0, 0)) (by (with_reducible repeat (first | refine Zn0 ?_ _ | refine Zd0 ?_ | refine Za0 ?_ _)); exact BK462.out) hb)
  have n5_ := Zq0 (Zb0 (g := gb467) (o := .cells #[.int .u64 t463, .int .u64 t464, .int .u64 t465, .int .u64 t466] 24 (0, 0)) (by (with_reducible repeat (first | refine Zn0 ?_ _ | refine Zd0 ?_ | refine Za0 ?_ _)); exact BK467.out) hb)
  have n6_ := Zq0 (Zb0 (g := gb472) (o := .cells #[.int .u64 t468, .int .u64 t469, .int .u64 t470, .int .u64 t471] 24 (0, 0)) (by (with_reducible repeat (first | refine Zn0 ?_ _ | refine Zd0 ?_ | refine Za0 ?_ _)); exact BK472.out) hb)
  have n7_ := Zq0 (Zb0 (g := gb477) (o := .cells #[.int .u64 t473, .int .u64 t474, .int .u64 t475, .int .u64 t476] 24 (0, 0)) (by (with_reducible repeat (first | refine Zn0 ?_ _ | refine Zd0 ?_ | refine Za0 ?_ _)); exact BK477.out) hb)
  have n8_ := Zq0 (below_step (by repeat (first | (with_reducible first | exact HB.out | apply below_alloc | apply Zw0 | apply Ze0 | refine Zs0 ?_ GE449.out | refine Zs0 ?_ GE450.out | refine Zs0 ?_ GE451.out | refine Zs0 ?_ GE457.out | refine Zs0 ?_ GE462.out | refine Zs0 ?_ GE467.out | refine Zs0 ?_ GE472.out | refine Zs0 ?_ GE477.out) | exact HB.out)) hb)
  clear BK449
  clear BK450
  clear BK451
  clear BK457
  clear BK462
  clear BK467
  clear BK472
  clear BK477
  clear HB
  have BK449 := n0_
  have BK450 := n1_
  have BK451 := n2_
  have BK457 := n3_
  have BK462 := n4_
  have BK467 := n5_
  have BK472 := n6_
  have BK477 := n7_
  have HB := n8_
  clear n0_ n1_ n2_ n3_ n4_ n5_ n6_ n7_ n8_
  (try clear hb)
  (try clear hb2)
  (try clear hk)
  (try clear hi)
  refine hK.out _ _ ⟨(blk_cell BK472.out 0).trans rfl, (blk_cell BK472.out 1).trans rfl, (blk_cell BK472.out 2).trans rfl, (blk_cell BK472.out 3).trans rfl, (blk_cell BK462.out 0).trans rfl, (blk_cell BK462.out 1).trans rfl, (blk_cell BK462.out 2).trans rfl, (blk_cell BK462.out 3).trans rfl, (blk_cell BK457.out 0).trans rfl, (blk_cell BK457.out 1).trans rfl, (blk_cell BK457.out 2).trans rfl, (blk_cell BK457.out 3).trans rfl, (blk_cell BK477.out 0).trans rfl, (blk_cell BK477.out 1).trans rfl, (blk_cell BK477.out 2).trans rfl, (blk_cell BK477.out 3).trans rfl, (blk_cell BK467.out 0).trans rfl, (blk_cell BK467.out 1).trans rfl, (blk_cell BK467.out 2).trans rfl, (blk_cell BK467.out 3).trans rfl⟩ (fun hHeld => ?_)
  clear hK K
  refine norm_ (a' := ?_) ?_ ?_
  rotate_left
  · show Act.put _ (some 62) _ = _
    simp only [Act.put, List.setIfInBounds_toArray, List.set_cons_zero, List.set_cons_succ, i64_w, i32_w]
    rfl
  refine pure_ (i := 35) (N := some 63) (v := ?_) (a' := ?_) #[true, true, true, true, true, true, true, true, true, true, true, true, true, true, true, true, true, true, true, true, true, true, true, true, true, true, true, true, true, true, true, true, true, true, true, true, false, false, false, false, false, false, false, false, false, false, false, false, false, false, false, false, false, false, false, false, false, false, false, false, false, false, false, false, false, false, false, false, false, false, false, false, false, false, false, false, false, false, false, false, false, false, false, false, false, false, false, false, false, false] rfl rfl (any_of HT_.out (by kernel_rfl)) (fun _ _ _ h => h) (Or.inl ⟨by rfl, ?_⟩) ?_ ?_
  rotate_left
  · intro w'
    go_simp
    with_reducible rfl
  rotate_left
  · simp only [Act.put, List.setIfInBounds_toArray, List.set_cons_zero, List.set_cons_succ, i64_w, i32_w]
    rfl
  refine pure_ (i := 36) (N := some 64) (v := ?_) (a' := ?_) #[true, true, true, true, true, true, true, true, true, true, true, true, true, true, true, true, true, true, true, true, true, true, true, true, true, true, true, true, true, true, true, true, true, true, true, true, true, false, false, false, false, false, false, false, false, false, false, false, false, false, false, false, false, false, false, false, false, false, false, false, false, false, false, false, false, false, false, false, false, false, false, false, false, false, false, false, false, false, false, false, false, false, false, false, false, false, false, false, false, false] rfl rfl (any_of HT_.out (by kernel_rfl)) (fun _ _ _ h => h) (Or.inl ⟨by rfl, ?_⟩) ?_ ?_
  rotate_left
  · intro w'
    go_simp
    with_reducible rfl
  rotate_left
  · simp only [Act.put, List.setIfInBounds_toArray, List.set_cons_zero, List.set_cons_succ, i64_w, i32_w]
    rfl
  refine pure_ (i := 37) (N := some 65) (v := ?_) (a' := ?_) #[true, true, true, true, true, true, true, true, true, true, true, true, true, true, true, true, true, true, true, true, true, true, true, true, true, true, true, true, true, true, true, true, true, true, true, true, true, true, false, false, false, false, false, false, false, false, false, false, false, false, false, false, false, false, false, false, false, false, false, false, false, false, false, false, false, false, false, false, false, false, false, false, false, false, false, false, false, false, false, false, false, false, false, false, false, false, false, false, false, false] rfl rfl (any_of HT_.out (by kernel_rfl)) (fun _ _ _ h => h) (Or.inl ⟨by rfl, ?_⟩) ?_ ?_
  rotate_left
  · intro w'
    go_simp
    with_reducible rfl
  rotate_left
  · simp only [Act.put, List.setIfInBounds_toArray, List.set_cons_zero, List.set_cons_succ, i64_w, i32_w]
    rfl
  refine take_ (i := 38) (N := some 66) (v := ?_) (a' := ?_) #[true, true, true, true, true, true, true, true, true, true, true, true, true, true, true, true, true, true, true, true, true, true, true, true, true, true, true, true, true, true, true, true, true, true, true, true, true, true, true, false, false, false, false, false, false, false, false, false, false, false, false, false, false, false, false, false, false, false, false, false, false, false, false, false, false, false, false, false, false, false, false, false, false, false, false, false, false, false, false, false, false, false, false, false, false, false, false, false, false, false] rfl rfl (take_ofW HT_.out HW_.out (by kernel_rfl)) (fun _ _ _ h => h) (Or.inl ⟨by rfl, ?_⟩) hHeld ?_ ?_
  rotate_left
  · rintro w' ⟨s0, s1, s2, s3, s4, s5, s6, s7, s8, s9, s10, s11, s12, s13, s14, s15, s16, s17, s18, s19⟩
    go_simp
    with_reducible rfl
  rotate_left
  · simp only [Act.put, List.setIfInBounds_toArray, List.set_cons_zero, List.set_cons_succ, i64_w, i32_w]
    rfl
  refine take_ (i := 39) (N := some 67) (v := ?_) (a' := ?_) #[true, true, true, true, true, true, true, true, true, true, true, true, true, true, true, true, true, true, true, true, true, true, true, true, true, true, true, true, true, true, true, true, true, true, true, true, true, true, true, true, false, false, false, false, false, false, false, false, false, false, false, false, false, false, false, false, false, false, false, false, false, false, false, false, false, false, false, false, false, false, false, false, false, false, false, false, false, false, false, false, false, false, false, false, false, false, false, false, false, false] rfl rfl (take_ofW HT_.out HW_.out (by kernel_rfl)) (fun _ _ _ h => h) (Or.inl ⟨by rfl, ?_⟩) hHeld ?_ ?_
  rotate_left
  · rintro w' ⟨s0, s1, s2, s3, s4, s5, s6, s7, s8, s9, s10, s11, s12, s13, s14, s15, s16, s17, s18, s19⟩
    go_simp
    with_reducible rfl
  rotate_left
  · simp only [Act.put, List.setIfInBounds_toArray, List.set_cons_zero, List.set_cons_succ, i64_w, i32_w]
    rfl
  refine take_ (i := 41) (N := some 69) (v := ?_) (a' := ?_) #[true, true, true, true, true, true, true, true, true, true, true, true, true, true, true, true, true, true, true, true, true, true, true, true, true, true, true, true, true, true, true, true, true, true, true, true, true, true, true, true, false, true, false, false, false, false, false, false, false, false, false, false, false, false, false, false, false, false, false, false, false, false, false, false, false, false, false, false, false, false, false, false, false, false, false, false, false, false, false, false, false, false, false, false, false, false, false, false, false, false] rfl rfl (take_ofW HT_.out HW_.out (by kernel_rfl)) (fun _ _ _ h => h) (Or.inl ⟨by rfl, ?_⟩) hHeld ?_ ?_
  rotate_left
  · rintro w' ⟨s0, s1, s2, s3, s4, s5, s6, s7, s8, s9, s10, s11, s12, s13, s14, s15, s16, s17, s18, s19⟩
    go_simp
    with_reducible rfl
  rotate_left
  · simp only [Act.put, List.setIfInBounds_toArray, List.set_cons_zero, List.set_cons_succ, i64_w, i32_w]
    rfl
  refine one_ (i := 40) (N := some 68) #[true, true, true, true, true, true, true, true, true, true, true, true, true, true, true, true, true, true, true, true, true, true, true, true, true, true, true, true, true, true, true, true, true, true, true, true, true, true, true, true, true, true, false, false, false, false, false, false, false, false, false, false, false, false, false, false, false, false, false, false, false, false, false, false, false, false, false, false, false, false, false, false, false, false, false, false, false, false, false, false, false, false, false, false, false, false, false, false, false, false] rfl rfl (one_of HT_.out (by kernel_rfl)) (by decide) (fun K hK => ?_)
  refine goes_ Tryd.func12 (by kernel_rfl) rfl #[.agg #[.int .u64 t468, .int .u64 t469, .int .u64 t470, .int .u64 t471], .agg #[.int .u64 t453, .int .u64 t454, .int .u64 t455, .int .u64 t456]] (by rfl) rfl rfl (by (try simp only [List.map_toArray, List.map_cons, List.map_nil]); first | done | rfl | (simp only [List.length_drop, List.length_take]; rfl)) ?_
  with_reducible refine (vec_Join.calls t468 t469 t470 t471 t453 t454 t455 t456 t510 t511 t512 t513 _ A23.out).mono ?_
  rintro e w105 ⟨rfl, hb⟩
  refine ⟨_, rfl, ?_⟩
  have n0_ := Zq0 (Zb0 (g := gb449) (o := .cells #[.int .u64 a0_0, .int .u64 a0_1, .int .u64 a0_2, .int .u64 a0_3, .bool a0_4] 26 (0, 0)) (by (with_reducible repeat (first | refine Zn0 ?_ _ | refine Zd0 ?_ | refine Za0 ?_ _)); exact BK449.out) hb)
  have n1_ := Zq0 (Zb0 (g := gb450) (o := .cells #[.int .u64 a1_0, .int .u64 a1_1, .int .u64 a1_2, .int .u64 a1_3, .bool a1_4] 26 (0, 0)) (by (with_reducible repeat (first | refine Zn0 ?_ _ | refine Zd0 ?_ | refine Za0 ?_ _)); exact BK450.out) hb)
  have n2_ := Zq0 (Zb0 (g := gb451) (o := .cells #[.int .u64 a2_0, .int .u64 a2_1, .int .u64 a2_2, .int .u64 a2_3, .bool a2_4] 26 (0, 0)) (by (with_reducible repeat (first | refine Zn0 ?_ _ | refine Zd0 ?_ | refine Za0 ?_ _)); exact BK451.out) hb)
  have n3_ := Zq0 (Zb0 (g := gb457) (o := .cells #[.int .u64 t453, .int .u64 t454, .int .u64 t455, .int .u64 t456] 24 (0, 0)) (by (with_reducible repeat (first | refine Zn0 ?_ _ | refine Zd0 ?_ | refine Za0 ?_ _)); exact BK457.out) hb)
  have n4_ := Zq0 (Zb0 (g := gb462) (o := .cells #[.int .u64 t458, .int .u64 t459, .int .u64 t460, .int .u64 t461] 24 (0, 0)) (by (with_reducible repeat (first | refine Zn0 ?_ _ | refine Zd0 ?_ | refine Za0 ?_ _)); exact BK462.out) hb)
  have n5_ := Zq0 (Zb0 (g := gb467) (o := .cells #[.int .u64 t463, .int .u64 t464, .int .u64 t465, .int .u64 t466] 24 (0, 0)) (by (with_reducible repeat (first | refine Zn0 ?_ _ | refine Zd0 ?_ | refine Za0 ?_ _)); exact BK467.out) hb)
  have n6_ := Zq0 (Zb0 (g := gb472) (o := .cells #[.int .u64 t468, .int .u64 t469, .int .u64 t470, .int .u64 t471] 24 (0, 0)) (by (with_reducible repeat (first | refine Zn0 ?_ _ | refine Zd0 ?_ | refine Za0 ?_ _)); exact BK472.out) hb)
  have n7_ := Zq0 (Zb0 (g := gb477) (o := .cells #[.int .u64 t473, .int .u64 t474, .int .u64 t475, .int .u64 t476] 24 (0, 0)) (by (with_reducible repeat (first | refine Zn0 ?_ _ | refine Zd0 ?_ | refine Za0 ?_ _)); exact BK477.out) hb)
  have n8_ := Zq0 (below_step (by repeat (first | (with_reducible first | exact HB.out | apply below_alloc | apply Zw0 | apply Ze0 | refine Zs0 ?_ GE449.out | refine Zs0 ?_ GE450.out | refine Zs0 ?_ GE451.out | refine Zs0 ?_ GE457.out | refine Zs0 ?_ GE462.out | refine Zs0 ?_ GE467.out | refine Zs0 ?_ GE472.out | refine Zs0 ?_ GE477.out) | exact HB.out)) hb)
  clear BK449
  clear BK450
  clear BK451
  clear BK457
  clear BK462
  clear BK467
  clear BK472
  clear BK477
  clear HB
  have BK449 := n0_
  have BK450 := n1_
  have BK451 := n2_
  have BK457 := n3_
  have BK462 := n4_
  have BK467 := n5_
  have BK472 := n6_
  have BK477 := n7_
  have HB := n8_
  clear n0_ n1_ n2_ n3_ n4_ n5_ n6_ n7_ n8_
  (try clear hb)
  (try clear hb2)
  (try clear hk)
  (try clear hi)
  refine hK.out _ _ ⟨(blk_cell BK472.out 0).trans rfl, (blk_cell BK472.out 1).trans rfl, (blk_cell BK472.out 2).trans rfl, (blk_cell BK472.out 3).trans rfl, (blk_cell BK462.out 0).trans rfl, (blk_cell BK462.out 1).trans rfl, (blk_cell BK462.out 2).trans rfl, (blk_cell BK462.out 3).trans rfl, (blk_cell BK457.out 0).trans rfl, (blk_cell BK457.out 1).trans rfl, (blk_cell BK457.out 2).trans rfl, (blk_cell BK457.out 3).trans rfl, (blk_cell BK477.out 0).trans rfl, (blk_cell BK477.out 1).trans rfl, (blk_cell BK477.out 2).trans rfl, (blk_cell BK477.out 3).trans rfl, (blk_cell BK467.out 0).trans rfl, (blk_cell BK467.out 1).trans rfl, (blk_cell BK467.out 2).trans rfl, (blk_cell BK467.out 3).trans rfl⟩ (fun hHeld => ?_)
  clear hK K
  refine norm_ (a' := ?_) ?_ ?_
  rotate_left
  · show Act.put _ (some 68) _ = _
    simp only [Act.put, List.setIfInBounds_toArray, List.set_cons_zero, List.set_cons_succ, i64_w, i32_w]
    rfl
  refine pure_ (i := 42) (N := some 70) (v := ?_) (a' := ?_) #[true, true, true, true, true, true, true, true, true, true, true, true, true, true, true, true, true, true, true, true, true, true, true, true, true, true, true, true, true, true, true, true, true, true, true, true, true, true, true, true, true, true, true, false, false, false, false, false, false, false, false, false, false, false, false, false, false, false, false, false, false, false, false, false, false, false, false, false, false, false, false, false, false, false, false, false, false, false, false, false, false, false, false, false, false, false, false, false, false, false] rfl rfl (any_of HT_.out (by kernel_rfl)) (fun _ _ _ h => h) (Or.inl ⟨by rfl, ?_⟩) ?_ ?_
  rotate_left
  · intro w'
    go_simp
    with_reducible rfl
  rotate_left
  · simp only [Act.put, List.setIfInBounds_toArray, List.set_cons_zero, List.set_cons_succ, i64_w, i32_w]
    rfl
  refine pure_ (i := 43) (N := some 71) (v := ?_) (a' := ?_) #[true, true, true, true, true, true, true, true, true, true, true, true, true, true, true, true, true, true, true, true, true, true, true, true, true, true, true, true, true, true, true, true, true, true, true, true, true, true, true, true, true, true, true, true, false, false, false, false, false, false, false, false, false, false, false, false, false, false, false, false, false, false, false, false, false, false, false, false, false, false, false, false, false, false, false, false, false, false, false, false, false, false, false, false, false, false, false, false, false, false] rfl rfl (any_of HT_.out (by kernel_rfl)) (fun _ _ _ h => h) (Or.inl ⟨by rfl, ?_⟩) ?_ ?_
  rotate_left
  · intro w'
    go_simp
    with_reducible rfl
  rotate_left
  · simp only [Act.put, List.setIfInBounds_toArray, List.set_cons_zero, List.set_cons_succ, i64_w, i32_w]
    rfl
  refine pure_ (i := 44) (N := some 72) (v := ?_) (a' := ?_) #[true, true, true, true, true, true, true, true, true, true, true, true, true, true, true, true, true, true, true, true, true, true, true, true, true, true, true, true, true, true, true, true, true, true, true, true, true, true, true, true, true, true, true, true, true, false, false, false, false, false, false, false, false, false, false, false, false, false, false, false, false, false, false, false, false, false, false, false, false, false, false, false, false, false, false, false, false, false, false, false, false, false, false, false, false, false, false, false, false, false] rfl rfl (any_of HT_.out (by kernel_rfl)) (fun _ _ _ h => h) (Or.inl ⟨by rfl, ?_⟩) ?_ ?_
  rotate_left
  · intro w'
    go_simp
    with_reducible rfl
  rotate_left
  · simp only [Act.put, List.setIfInBounds_toArray, List.set_cons_zero, List.set_cons_succ, i64_w, i32_w]
    rfl
  refine take_ (i := 45) (N := some 73) (v := ?_) (a' := ?_) #[true, true, true, true, true, true, true, true, true, true, true, true, true, true, true, true, true, true, true, true, true, true, true, true, true, true, true, true, true, true, true, true, true, true, true, true, true, true, true, true, true, true, true, true, true, true, false, false, false, false, false, false, false, false, false, false, false, false, false, false, false, false, false, false, false, false, false, false, false, false, false, false, false, false, false, false, false, false, false, false, false, false, false, false, false, false, false, false, false, false] rfl rfl (take_ofW HT_.out HW_.out (by kernel_rfl)) (fun _ _ _ h => h) (Or.inl ⟨by rfl, ?_⟩) hHeld ?_ ?_
  rotate_left
  · rintro w' ⟨s0, s1, s2, s3, s4, s5, s6, s7, s8, s9, s10, s11, s12, s13, s14, s15, s16, s17, s18, s19⟩
    go_simp
    with_reducible rfl
  rotate_left
  · simp only [Act.put, List.setIfInBounds_toArray, List.set_cons_zero, List.set_cons_succ, i64_w, i32_w]
    rfl
  refine take_ (i := 46) (N := some 74) (v := ?_) (a' := ?_) #[true, true, true, true, true, true, true, true, true, true, true, true, true, true, true, true, true, true, true, true, true, true, true, true, true, true, true, true, true, true, true, true, true, true, true, true, true, true, true, true, true, true, true, true, true, true, true, false, false, false, false, false, false, false, false, false, false, false, false, false, false, false, false, false, false, false, false, false, false, false, false, false, false, false, false, false, false, false, false, false, false, false, false, false, false, false, false, false, false, false] rfl rfl (take_ofW HT_.out HW_.out (by kernel_rfl)) (fun _ _ _ h => h) (Or.inl ⟨by rfl, ?_⟩) hHeld ?_ ?_
  rotate_left
  · rintro w' ⟨s0, s1, s2, s3, s4, s5, s6, s7, s8, s9, s10, s11, s12, s13, s14, s15, s16, s17, s18, s19⟩
    go_simp
    with_reducible rfl
  rotate_left
  · simp only [Act.put, List.setIfInBounds_toArray, List.set_cons_zero, List.set_cons_succ, i64_w, i32_w]
    rfl
  refine take_ (i := 48) (N := some 76) (v := ?_) (a' := ?_) #[true, true, true, true, true, true, true, true, true, true, true, true, true, true, true, true, true, true, true, true, true, true, true, true, true, true, true, true, true, true, true, true, true, true, true, true, true, true, true, true, true, true, true, true, true, true, true, false, true, false, false, false, false, false, false, false, false, false, false, false, false, false, false, false, false, false, false, false, false, false, false, false, false, false, false, false, false, false, false, false, false, false, false, false, false, false, false, false, false, false] rfl rfl (take_ofW HT_.out HW_.out (by kernel_rfl)) (fun _ _ _ h => h) (Or.inl ⟨by rfl, ?_⟩) hHeld ?_ ?_
  rotate_left
  · rintro w' ⟨s0, s1, s2, s3, s4, s5, s6, s7, s8, s9, s10, s11, s12, s13, s14, s15, s16, s17, s18, s19⟩
    go_simp
    with_reducible rfl
  rotate_left
  · simp only [Act.put, List.setIfInBounds_toArray, List.set_cons_zero, List.set_cons_succ, i64_w, i32_w]
    rfl
  refine one_ (i := 47) (N := some 75) #[true, true, true, true, true, true, true, true, true, true, true, true, true, true, true, true, true, true, true, true, true, true, true, true, true, true, true, true, true, true, true, true, true, true, true, true, true, true, true, true, true, true, true, true, true, true, true, true, true, false, false, false, false, false, false, false, false, false, false, false, false, false, false, false, false, false, false, false, false, false, false, false, false, false, false, false, false, false, false, false, false, false, false, false, false, false, false, false, false, false] rfl rfl (one_of HT_.out (by kernel_rfl)) (by decide) (fun K hK => ?_)
  refine goes_ Tryd.func14 (by kernel_rfl) rfl #[.agg #[.int .u64 t473, .int .u64 t474, .int .u64 t475, .int .u64 t476], .agg #[.int .u64 t453, .int .u64 t454, .int .u64 t455, .int .u64 t456]] (by rfl) rfl rfl (by (try simp only [List.map_toArray, List.map_cons, List.map_nil]); first | done | rfl | (simp only [List.length_drop, List.length_take]; rfl)) ?_
  with_reducible refine (vec_Meet.calls t473 t474 t475 t476 t453 t454 t455 t456 t514 t515 t516 t517 _ A25.out).mono ?_
  rintro e w106 ⟨rfl, hb⟩
  refine ⟨_, rfl, ?_⟩
  have n0_ := Zq0 (Zb0 (g := gb449) (o := .cells #[.int .u64 a0_0, .int .u64 a0_1, .int .u64 a0_2, .int .u64 a0_3, .bool a0_4] 26 (0, 0)) (by (with_reducible repeat (first | refine Zn0 ?_ _ | refine Zd0 ?_ | refine Za0 ?_ _)); exact BK449.out) hb)
  have n1_ := Zq0 (Zb0 (g := gb450) (o := .cells #[.int .u64 a1_0, .int .u64 a1_1, .int .u64 a1_2, .int .u64 a1_3, .bool a1_4] 26 (0, 0)) (by (with_reducible repeat (first | refine Zn0 ?_ _ | refine Zd0 ?_ | refine Za0 ?_ _)); exact BK450.out) hb)
  have n2_ := Zq0 (Zb0 (g := gb451) (o := .cells #[.int .u64 a2_0, .int .u64 a2_1, .int .u64 a2_2, .int .u64 a2_3, .bool a2_4] 26 (0, 0)) (by (with_reducible repeat (first | refine Zn0 ?_ _ | refine Zd0 ?_ | refine Za0 ?_ _)); exact BK451.out) hb)
  have n3_ := Zq0 (Zb0 (g := gb457) (o := .cells #[.int .u64 t453, .int .u64 t454, .int .u64 t455, .int .u64 t456] 24 (0, 0)) (by (with_reducible repeat (first | refine Zn0 ?_ _ | refine Zd0 ?_ | refine Za0 ?_ _)); exact BK457.out) hb)
  have n4_ := Zq0 (Zb0 (g := gb462) (o := .cells #[.int .u64 t458, .int .u64 t459, .int .u64 t460, .int .u64 t461] 24 (0, 0)) (by (with_reducible repeat (first | refine Zn0 ?_ _ | refine Zd0 ?_ | refine Za0 ?_ _)); exact BK462.out) hb)
  have n5_ := Zq0 (Zb0 (g := gb467) (o := .cells #[.int .u64 t463, .int .u64 t464, .int .u64 t465, .int .u64 t466] 24 (0, 0)) (by (with_reducible repeat (first | refine Zn0 ?_ _ | refine Zd0 ?_ | refine Za0 ?_ _)); exact BK467.out) hb)
  have n6_ := Zq0 (Zb0 (g := gb472) (o := .cells #[.int .u64 t468, .int .u64 t469, .int .u64 t470, .int .u64 t471] 24 (0, 0)) (by (with_reducible repeat (first | refine Zn0 ?_ _ | refine Zd0 ?_ | refine Za0 ?_ _)); exact BK472.out) hb)
  have n7_ := Zq0 (Zb0 (g := gb477) (o := .cells #[.int .u64 t473, .int .u64 t474, .int .u64 t475, .int .u64 t476] 24 (0, 0)) (by (with_reducible repeat (first | refine Zn0 ?_ _ | refine Zd0 ?_ | refine Za0 ?_ _)); exact BK477.out) hb)
  have n8_ := Zq0 (below_step (by repeat (first | (with_reducible first | exact HB.out | apply below_alloc | apply Zw0 | apply Ze0 | refine Zs0 ?_ GE449.out | refine Zs0 ?_ GE450.out | refine Zs0 ?_ GE451.out | refine Zs0 ?_ GE457.out | refine Zs0 ?_ GE462.out | refine Zs0 ?_ GE467.out | refine Zs0 ?_ GE472.out | refine Zs0 ?_ GE477.out) | exact HB.out)) hb)
  clear BK449
  clear BK450
  clear BK451
  clear BK457
  clear BK462
  clear BK467
  clear BK472
  clear BK477
  clear HB
  have BK449 := n0_
  have BK450 := n1_
  have BK451 := n2_
  have BK457 := n3_
  have BK462 := n4_
  have BK467 := n5_
  have BK472 := n6_
  have BK477 := n7_
  have HB := n8_
  clear n0_ n1_ n2_ n3_ n4_ n5_ n6_ n7_ n8_
  (try clear hb)
  (try clear hb2)
  (try clear hk)
  (try clear hi)
  refine hK.out _ _ ⟨(blk_cell BK472.out 0).trans rfl, (blk_cell BK472.out 1).trans rfl, (blk_cell BK472.out 2).trans rfl, (blk_cell BK472.out 3).trans rfl, (blk_cell BK462.out 0).trans rfl, (blk_cell BK462.out 1).trans rfl, (blk_cell BK462.out 2).trans rfl, (blk_cell BK462.out 3).trans rfl, (blk_cell BK457.out 0).trans rfl, (blk_cell BK457.out 1).trans rfl, (blk_cell BK457.out 2).trans rfl, (blk_cell BK457.out 3).trans rfl, (blk_cell BK477.out 0).trans rfl, (blk_cell BK477.out 1).trans rfl, (blk_cell BK477.out 2).trans rfl, (blk_cell BK477.out 3).trans rfl, (blk_cell BK467.out 0).trans rfl, (blk_cell BK467.out 1).trans rfl, (blk_cell BK467.out 2).trans rfl, (blk_cell BK467.out 3).trans rfl⟩ (fun hHeld => ?_)
  clear hK K
  refine norm_ (a' := ?_) ?_ ?_
  rotate_left
  · show Act.put _ (some 75) _ = _
    simp only [Act.put, List.setIfInBounds_toArray, List.set_cons_zero, List.set_cons_succ, i64_w, i32_w]
    rfl
  refine pure_ (i := 49) (N := some 77) (v := ?_) (a' := ?_) #[true, true, true, true, true, true, true, true, true, true, true, true, true, true, true, true, true, true, true, true, true, true, true, true, true, true, true, true, true, true, true, true, true, true, true, true, true, true, true, true, true, true, true, true, true, true, true, true, true, true, false, false, false, false, false, false, false, false, false, false, false, false, false, false, false, false, false, false, false, false, false, false, false, false, false, false, false, false, false, false, false, false, false, false, false, false, false, false, false, false] rfl rfl (any_of HT_.out (by kernel_rfl)) (fun _ _ _ h => h) (Or.inl ⟨by rfl, ?_⟩) ?_ ?_
  rotate_left
  · intro w'
    go_simp
    with_reducible rfl
  rotate_left
  · simp only [Act.put, List.setIfInBounds_toArray, List.set_cons_zero, List.set_cons_succ, i64_w, i32_w]
    rfl
  refine pure_ (i := 50) (N := some 78) (v := ?_) (a' := ?_) #[true, true, true, true, true, true, true, true, true, true, true, true, true, true, true, true, true, true, true, true, true, true, true, true, true, true, true, true, true, true, true, true, true, true, true, true, true, true, true, true, true, true, true, true, true, true, true, true, true, true, true, false, false, false, false, false, false, false, false, false, false, false, false, false, false, false, false, false, false, false, false, false, false, false, false, false, false, false, false, false, false, false, false, false, false, false, false, false, false, false] rfl rfl (any_of HT_.out (by kernel_rfl)) (fun _ _ _ h => h) (Or.inl ⟨by rfl, ?_⟩) ?_ ?_
  rotate_left
  · intro w'
    go_simp
    with_reducible rfl
  rotate_left
  · simp only [Act.put, List.setIfInBounds_toArray, List.set_cons_zero, List.set_cons_succ, i64_w, i32_w]
    rfl
  refine pure_ (i := 51) (N := some 79) (v := ?_) (a' := ?_) #[true, true, true, true, true, true, true, true, true, true, true, true, true, true, true, true, true, true, true, true, true, true, true, true, true, true, true, true, true, true, true, true, true, true, true, true, true, true, true, true, true, true, true, true, true, true, true, true, true, true, true, true, false, false, false, false, false, false, false, false, false, false, false, false, false, false, false, false, false, false, false, false, false, false, false, false, false, false, false, false, false, false, false, false, false, false, false, false, false, false] rfl rfl (any_of HT_.out (by kernel_rfl)) (fun _ _ _ h => h) (Or.inl ⟨by rfl, ?_⟩) ?_ ?_
  rotate_left
  · intro w'
    go_simp
    with_reducible rfl
  rotate_left
  · simp only [Act.put, List.setIfInBounds_toArray, List.set_cons_zero, List.set_cons_succ, i64_w, i32_w]
    rfl
  refine take_ (i := 52) (N := some 80) (v := ?_) (a' := ?_) #[true, true, true, true, true, true, true, true, true, true, true, true, true, true, true, true, true, true, true, true, true, true, true, true, true, true, true, true, true, true, true, true, true, true, true, true, true, true, true, true, true, true, true, true, true, true, true, true, true, true, true, true, true, false, false, false, false, false, false, false, false, false, false, false, false, false, false, false, false, false, false, false, false, false, false, false, false, false, false, false, false, false, false, false, false, false, false, false, false, false] rfl rfl (take_ofW HT_.out HW_.out (by kernel_rfl)) (fun _ _ _ h => h) (Or.inl ⟨by rfl, ?_⟩) hHeld ?_ ?_
  rotate_left
  · rintro w' ⟨s0, s1, s2, s3, s4, s5, s6, s7, s8, s9, s10, s11, s12, s13, s14, s15, s16, s17, s18, s19⟩
    go_simp
    with_reducible rfl
  rotate_left
  · simp only [Act.put, List.setIfInBounds_toArray, List.set_cons_zero, List.set_cons_succ, i64_w, i32_w]
    rfl
  refine take_ (i := 53) (N := some 81) (v := ?_) (a' := ?_) #[true, true, true, true, true, true, true, true, true, true, true, true, true, true, true, true, true, true, true, true, true, true, true, true, true, true, true, true, true, true, true, true, true, true, true, true, true, true, true, true, true, true, true, true, true, true, true, true, true, true, true, true, true, true, false, false, false, false, false, false, false, false, false, false, false, false, false, false, false, false, false, false, false, false, false, false, false, false, false, false, false, false, false, false, false, false, false, false, false, false] rfl rfl (take_ofW HT_.out HW_.out (by kernel_rfl)) (fun _ _ _ h => h) (Or.inl ⟨by rfl, ?_⟩) hHeld ?_ ?_
  rotate_left
  · rintro w' ⟨s0, s1, s2, s3, s4, s5, s6, s7, s8, s9, s10, s11, s12, s13, s14, s15, s16, s17, s18, s19⟩
    go_simp
    with_reducible rfl
  rotate_left
  · simp only [Act.put, List.setIfInBounds_toArray, List.set_cons_zero, List.set_cons_succ, i64_w, i32_w]
    rfl
  refine one_ (i := 54) (N := some 82) #[true, true, true, true, true, true, true, true, true, true, true, true, true, true, true, true, true, true, true, true, true, true, true, true, true, true, true, true, true, true, true, true, true, true, true, true, true, true, true, true, true, true, true, true, true, true, true, true, true, true, true, true, true, true, true, false, false, false, false, false, false, false, false, false, false, false, false, false, false, false, false, false, false, false, false, false, false, false, false, false, false, false, false, false, false, false, false, false, false, false] rfl rfl (one_of HT_.out (by kernel_rfl)) (by decide) (fun K hK => ?_)
  refine goes_ Tryd.func22 (by kernel_rfl) rfl #[.agg #[.int .u64 t453, .int .u64 t454, .int .u64 t455, .int .u64 t456], .agg #[.int .u64 t468, .int .u64 t469, .int .u64 t470, .int .u64 t471]] (by rfl) rfl rfl (by (try simp only [List.map_toArray, List.map_cons, List.map_nil]); first | done | rfl | (simp only [List.length_drop, List.length_take]; rfl)) ?_
  with_reducible refine (vec_Leq.calls t453 t454 t455 t456 t468 t469 t470 t471 true _ A27.out).mono ?_
  rintro e w107 ⟨rfl, hb⟩
  refine ⟨_, rfl, ?_⟩
  have n0_ := Zq0 (Zb0 (g := gb449) (o := .cells #[.int .u64 a0_0, .int .u64 a0_1, .int .u64 a0_2, .int .u64 a0_3, .bool a0_4] 26 (0, 0)) (by (with_reducible repeat (first | refine Zn0 ?_ _ | refine Zd0 ?_ | refine Za0 ?_ _)); exact BK449.out) hb)
  have n1_ := Zq0 (Zb0 (g := gb450) (o := .cells #[.int .u64 a1_0, .int .u64 a1_1, .int .u64 a1_2, .int .u64 a1_3, .bool a1_4] 26 (0, 0)) (by (with_reducible repeat (first | refine Zn0 ?_ _ | refine Zd0 ?_ | refine Za0 ?_ _)); exact BK450.out) hb)
  have n2_ := Zq0 (Zb0 (g := gb451) (o := .cells #[.int .u64 a2_0, .int .u64 a2_1, .int .u64 a2_2, .int .u64 a2_3, .bool a2_4] 26 (0, 0)) (by (with_reducible repeat (first | refine Zn0 ?_ _ | refine Zd0 ?_ | refine Za0 ?_ _)); exact BK451.out) hb)
  have n3_ := Zq0 (Zb0 (g := gb457) (o := .cells #[.int .u64 t453, .int .u64 t454, .int .u64 t455, .int .u64 t456] 24 (0, 0)) (by (with_reducible repeat (first | refine Zn0 ?_ _ | refine Zd0 ?_ | refine Za0 ?_ _)); exact BK457.out) hb)
  have n4_ := Zq0 (Zb0 (g := gb462) (o := .cells #[.int .u64 t458, .int .u64 t459, .int .u64 t460, .int .u64 t461] 24 (0, 0)) (by (with_reducible repeat (first | refine Zn0 ?_ _ | refine Zd0 ?_ | refine Za0 ?_ _)); exact BK462.out) hb)
  have n5_ := Zq0 (Zb0 (g := gb467) (o := .cells #[.int .u64 t463, .int .u64 t464, .int .u64 t465, .int .u64 t466] 24 (0, 0)) (by (with_reducible repeat (first | refine Zn0 ?_ _ | refine Zd0 ?_ | refine Za0 ?_ _)); exact BK467.out) hb)
  have n6_ := Zq0 (Zb0 (g := gb472) (o := .cells #[.int .u64 t468, .int .u64 t469, .int .u64 t470, .int .u64 t471] 24 (0, 0)) (by (with_reducible repeat (first | refine Zn0 ?_ _ | refine Zd0 ?_ | refine Za0 ?_ _)); exact BK472.out) hb)
  have n7_ := Zq0 (Zb0 (g := gb477) (o := .cells #[.int .u64 t473, .int .u64 t474, .int .u64 t475, .int .u64 t476] 24 (0, 0)) (by (with_reducible repeat (first | refine Zn0 ?_ _ | refine Zd0 ?_ | refine Za0 ?_ _)); exact BK477.out) hb)
  have n8_ := Zq0 (below_step (by repeat (first | (with_reducible first | exact HB.out | apply below_alloc | apply Zw0 | apply Ze0 | refine Zs0 ?_ GE449.out | refine Zs0 ?_ GE450.out | refine Zs0 ?_ GE451.out | refine Zs0 ?_ GE457.out | refine Zs0 ?_ GE462.out | refine Zs0 ?_ GE467.out | refine Zs0 ?_ GE472.out | refine Zs0 ?_ GE477.out) | exact HB.out)) hb)
  clear BK449
  clear BK450
  clear BK451
  clear BK457
  clear BK462
  clear BK467
  clear BK472
  clear BK477
  clear HB
  have BK449 := n0_
  have BK450 := n1_
  have BK451 := n2_
  have BK457 := n3_
  have BK462 := n4_
  have BK467 := n5_
  have BK472 := n6_
  have BK477 := n7_
  have HB := n8_
  clear n0_ n1_ n2_ n3_ n4_ n5_ n6_ n7_ n8_
  (try clear hb)
  (try clear hb2)
  (try clear hk)
  (try clear hi)
  refine hK.out _ _ ⟨(blk_cell BK472.out 0).trans rfl, (blk_cell BK472.out 1).trans rfl, (blk_cell BK472.out 2).trans rfl, (blk_cell BK472.out 3).trans rfl, (blk_cell BK462.out 0).trans rfl, (blk_cell BK462.out 1).trans rfl, (blk_cell BK462.out 2).trans rfl, (blk_cell BK462.out 3).trans rfl, (blk_cell BK457.out 0).trans rfl, (blk_cell BK457.out 1).trans rfl, (blk_cell BK457.out 2).trans rfl, (blk_cell BK457.out 3).trans rfl, (blk_cell BK477.out 0).trans rfl, (blk_cell BK477.out 1).trans rfl, (blk_cell BK477.out 2).trans rfl, (blk_cell BK477.out 3).trans rfl, (blk_cell BK467.out 0).trans rfl, (blk_cell BK467.out 1).trans rfl, (blk_cell BK467.out 2).trans rfl, (blk_cell BK467.out 3).trans rfl⟩ (fun hHeld => ?_)
  clear hK K
  refine norm_ (a' := ?_) ?_ ?_
  rotate_left
  · show Act.put _ (some 82) _ = _
    simp only [Act.put, List.setIfInBounds_toArray, List.set_cons_zero, List.set_cons_succ, i64_w, i32_w]
    rfl
  refine pure_ (i := 55) (N := some 83) (v := ?_) (a' := ?_) #[true, true, true, true, true, true, true, true, true, true, true, true, true, true, true, true, true, true, true, true, true, true, true, true, true, true, true, true, true, true, true, true, true, true, true, true, true, true, true, true, true, true, true, true, true, true, true, true, true, true, true, true, true, true, true, true, false, false, false, false, false, false, false, false, false, false, false, false, false, false, false, false, false, false, false, false, false, false, false, false, false, false, false, false, false, false, false, false, false, false] rfl rfl (any_of HT_.out (by kernel_rfl)) (fun _ _ _ h => h) (Or.inl ⟨by rfl, ?_⟩) ?_ ?_
  rotate_left
  · intro w'
    go_simp
    with_reducible rfl
  rotate_left
  · simp only [Act.put, List.setIfInBounds_toArray, List.set_cons_zero, List.set_cons_succ, i64_w, i32_w]
    rfl
  refine pure_ (i := 56) (N := some 84) (v := ?_) (a' := ?_) #[true, true, true, true, true, true, true, true, true, true, true, true, true, true, true, true, true, true, true, true, true, true, true, true, true, true, true, true, true, true, true, true, true, true, true, true, true, true, true, true, true, true, true, true, true, true, true, true, true, true, true, true, true, true, true, true, true, false, false, false, false, false, false, false, false, false, false, false, false, false, false, false, false, false, false, false, false, false, false, false, false, false, false, false, false, false, false, false, false, false] rfl rfl (any_of HT_.out (by kernel_rfl)) (fun _ _ _ h => h) (Or.inl ⟨by rfl, ?_⟩) ?_ ?_
  rotate_left
  · intro w'
    go_simp
    with_reducible rfl
  rotate_left
  · simp only [Act.put, List.setIfInBounds_toArray, List.set_cons_zero, List.set_cons_succ, i64_w, i32_w]
    rfl
  refine take_ (i := 57) (N := some 85) (v := ?_) (a' := ?_) #[true, true, true, true, true, true, true, true, true, true, true, true, true, true, true, true, true, true, true, true, true, true, true, true, true, true, true, true, true, true, true, true, true, true, true, true, true, true, true, true, true, true, true, true, true, true, true, true, true, true, true, true, true, true, true, true, true, true, false, false, false, false, false, false, false, false, false, false, false, false, false, false, false, false, false, false, false, false, false, false, false, false, false, false, false, false, false, false, false, false] rfl rfl (take_ofW HT_.out HW_.out (by kernel_rfl)) (fun _ _ _ h => h) (Or.inl ⟨by rfl, ?_⟩) hHeld ?_ ?_
  rotate_left
  · rintro w' ⟨s0, s1, s2, s3, s4, s5, s6, s7, s8, s9, s10, s11, s12, s13, s14, s15, s16, s17, s18, s19⟩
    go_simp
    with_reducible rfl
  rotate_left
  · simp only [Act.put, List.setIfInBounds_toArray, List.set_cons_zero, List.set_cons_succ, i64_w, i32_w]
    rfl
  refine take_ (i := 58) (N := some 86) (v := ?_) (a' := ?_) #[true, true, true, true, true, true, true, true, true, true, true, true, true, true, true, true, true, true, true, true, true, true, true, true, true, true, true, true, true, true, true, true, true, true, true, true, true, true, true, true, true, true, true, true, true, true, true, true, true, true, true, true, true, true, true, true, true, true, true, false, false, false, false, false, false, false, false, false, false, false, false, false, false, false, false, false, false, false, false, false, false, false, false, false, false, false, false, false, false, false] rfl rfl (take_ofW HT_.out HW_.out (by kernel_rfl)) (fun _ _ _ h => h) (Or.inl ⟨by rfl, ?_⟩) hHeld ?_ ?_
  rotate_left
  · rintro w' ⟨s0, s1, s2, s3, s4, s5, s6, s7, s8, s9, s10, s11, s12, s13, s14, s15, s16, s17, s18, s19⟩
    go_simp
    with_reducible rfl
  rotate_left
  · simp only [Act.put, List.setIfInBounds_toArray, List.set_cons_zero, List.set_cons_succ, i64_w, i32_w]
    rfl
  refine one_ (i := 59) (N := some 87) #[true, true, true, true, true, true, true, true, true, true, true, true, true, true, true, true, true, true, true, true, true, true, true, true, true, true, true, true, true, true, true, true, true, true, true, true, true, true, true, true, true, true, true, true, true, true, true, true, true, true, true, true, true, true, true, true, true, true, true, true, false, false, false, false, false, false, false, false, false, false, false, false, false, false, false, false, false, false, false, false, false, false, false, false, false, false, false, false, false, false] rfl rfl (one_of HT_.out (by kernel_rfl)) (by decide) (fun K hK => ?_)
  refine goes_ Tryd.func22 (by kernel_rfl) rfl #[.agg #[.int .u64 t473, .int .u64 t474, .int .u64 t475, .int .u64 t476], .agg #[.int .u64 t458, .int .u64 t459, .int .u64 t460, .int .u64 t461]] (by rfl) rfl rfl (by (try simp only [List.map_toArray, List.map_cons, List.map_nil]); first | done | rfl | (simp only [List.length_drop, List.length_take]; rfl)) ?_
  with_reducible refine (vec_Leq.calls t473 t474 t475 t476 t458 t459 t460 t461 true _ A29.out).mono ?_
  rintro e w108 ⟨rfl, hb⟩
  refine ⟨_, rfl, ?_⟩
  have n0_ := Zq0 (Zb0 (g := gb449) (o := .cells #[.int .u64 a0_0, .int .u64 a0_1, .int .u64 a0_2, .int .u64 a0_3, .bool a0_4] 26 (0, 0)) (by (with_reducible repeat (first | refine Zn0 ?_ _ | refine Zd0 ?_ | refine Za0 ?_ _)); exact BK449.out) hb)
  have n1_ := Zq0 (Zb0 (g := gb450) (o := .cells #[.int .u64 a1_0, .int .u64 a1_1, .int .u64 a1_2, .int .u64 a1_3, .bool a1_4] 26 (0, 0)) (by (with_reducible repeat (first | refine Zn0 ?_ _ | refine Zd0 ?_ | refine Za0 ?_ _)); exact BK450.out) hb)
  have n2_ := Zq0 (Zb0 (g := gb451) (o := .cells #[.int .u64 a2_0, .int .u64 a2_1, .int .u64 a2_2, .int .u64 a2_3, .bool a2_4] 26 (0, 0)) (by (with_reducible repeat (first | refine Zn0 ?_ _ | refine Zd0 ?_ | refine Za0 ?_ _)); exact BK451.out) hb)
  have n3_ := Zq0 (Zb0 (g := gb457) (o := .cells #[.int .u64 t453, .int .u64 t454, .int .u64 t455, .int .u64 t456] 24 (0, 0)) (by (with_reducible repeat (first | refine Zn0 ?_ _ | refine Zd0 ?_ | refine Za0 ?_ _)); exact BK457.out) hb)
  have n4_ := Zq0 (Zb0 (g := gb462) (o := .cells #[.int .u64 t458, .int .u64 t459, .int .u64 t460, .int .u64 t461] 24 (0, 0)) (by (with_reducible repeat (first | refine Zn0 ?_ _ | refine Zd0 ?_ | refine Za0 ?_ _)); exact BK462.out) hb)
  have n5_ := Zq0 (Zb0 (g := gb467) (o := .cells #[.int .u64 t463, .int .u64 t464, .int .u64 t465, .int .u64 t466] 24 (0, 0)) (by (with_reducible repeat (first | refine Zn0 ?_ _ | refine Zd0 ?_ | refine Za0 ?_ _)); exact BK467.out) hb)
  have n6_ := Zq0 (Zb0 (g := gb472) (o := .cells #[.int .u64 t468, .int .u64 t469, .int .u64 t470, .int .u64 t471] 24 (0, 0)) (by (with_reducible repeat (first | refine Zn0 ?_ _ | refine Zd0 ?_ | refine Za0 ?_ _)); exact BK472.out) hb)
  have n7_ := Zq0 (Zb0 (g := gb477) (o := .cells #[.int .u64 t473, .int .u64 t474, .int .u64 t475, .int .u64 t476] 24 (0, 0)) (by (with_reducible repeat (first | refine Zn0 ?_ _ | refine Zd0 ?_ | refine Za0 ?_ _)); exact BK477.out) hb)
  have n8_ := Zq0 (below_step (by repeat (first | (with_reducible first | exact HB.out | apply below_alloc | apply Zw0 | apply Ze0 | refine Zs0 ?_ GE449.out | refine Zs0 ?_ GE450.out | refine Zs0 ?_ GE451.out | refine Zs0 ?_ GE457.out | refine Zs0 ?_ GE462.out | refine Zs0 ?_ GE467.out | refine Zs0 ?_ GE472.out | refine Zs0 ?_ GE477.out) | exact HB.out)) hb)
  clear BK449
  clear BK450
  clear BK451
  clear BK457
  clear BK462
  clear BK467
  clear BK472
  clear BK477
  clear HB
  have BK449 := n0_
  have BK450 := n1_
  have BK451 := n2_
  have BK457 := n3_
  have BK462 := n4_
  have BK467 := n5_
  have BK472 := n6_
  have BK477 := n7_
  have HB := n8_
  clear n0_ n1_ n2_ n3_ n4_ n5_ n6_ n7_ n8_
  (try clear hb)
  (try clear hb2)
  (try clear hk)
  (try clear hi)
  refine hK.out _ _ ⟨(blk_cell BK472.out 0).trans rfl, (blk_cell BK472.out 1).trans rfl, (blk_cell BK472.out 2).trans rfl, (blk_cell BK472.out 3).trans rfl, (blk_cell BK462.out 0).trans rfl, (blk_cell BK462.out 1).trans rfl, (blk_cell BK462.out 2).trans rfl, (blk_cell BK462.out 3).trans rfl, (blk_cell BK457.out 0).trans rfl, (blk_cell BK457.out 1).trans rfl, (blk_cell BK457.out 2).trans rfl, (blk_cell BK457.out 3).trans rfl, (blk_cell BK477.out 0).trans rfl, (blk_cell BK477.out 1).trans rfl, (blk_cell BK477.out 2).trans rfl, (blk_cell BK477.out 3).trans rfl, (blk_cell BK467.out 0).trans rfl, (blk_cell BK467.out 1).trans rfl, (blk_cell BK467.out 2).trans rfl, (blk_cell BK467.out 3).trans rfl⟩ (fun hHeld => ?_)
  clear hK K
  refine norm_ (a' := ?_) ?_ ?_
  rotate_left
  · show Act.put _ (some 87) _ = _
    simp only [Act.put, List.setIfInBounds_toArray, List.set_cons_zero, List.set_cons_succ, i64_w, i32_w]
    rfl
  refine pure_ (i := 60) (N := some 88) (v := ?_) (a' := ?_) #[true, true, true, true, true, true, true, true, true, true, true, true, true, true, true, true, true, true, true, true, true, true, true, true, true, true, true, true, true, true, true, true, true, true, true, true, true, true, true, true, true, true, true, true, true, true, true, true, true, true, true, true, true, true, true, true, true, true, true, true, true, false, false, false, false, false, false, false, false, false, false, false, false, false, false, false, false, false, false, false, false, false, false, false, false, false, false, false, false, false] rfl rfl (any_of HT_.out (by kernel_rfl)) (fun _ _ _ h => h) (Or.inl ⟨by rfl, ?_⟩) ?_ ?_
  rotate_left
  · intro w'
    go_simp
    with_reducible rfl
  rotate_left
  · simp only [Act.put, List.setIfInBounds_toArray, List.set_cons_zero, List.set_cons_succ, i64_w, i32_w]
    rfl
  refine pure_ (i := 61) (N := some 89) (v := ?_) (a' := ?_) #[true, true, true, true, true, true, true, true, true, true, true, true, true, true, true, true, true, true, true, true, true, true, true, true, true, true, true, true, true, true, true, true, true, true, true, true, true, true, true, true, true, true, true, true, true, true, true, true, true, true, true, true, true, true, true, true, true, true, true, true, true, true, false, false, false, false, false, false, false, false, false, false, false, false, false, false, false, false, false, false, false, false, false, false, false, false, false, false, false, false] rfl rfl (any_of HT_.out (by kernel_rfl)) (fun _ _ _ h => h) (Or.inl ⟨by rfl, ?_⟩) ?_ ?_
  rotate_left
  · intro w'
    go_simp
    with_reducible rfl
  rotate_left
  · simp only [Act.put, List.setIfInBounds_toArray, List.set_cons_zero, List.set_cons_succ, i64_w, i32_w]
    rfl
  refine take_ (i := 62) (N := some 90) (v := ?_) (a' := ?_) #[true, true, true, true, true, true, true, true, true, true, true, true, true, true, true, true, true, true, true, true, true, true, true, true, true, true, true, true, true, true, true, true, true, true, true, true, true, true, true, true, true, true, true, true, true, true, true, true, true, true, true, true, true, true, true, true, true, true, true, true, true, true, true, false, false, false, false, false, false, false, false, false, false, false, false, false, false, false, false, false, false, false, false, false, false, false, false, false, false, false] rfl rfl (take_ofW HT_.out HW_.out (by kernel_rfl)) (fun _ _ _ h => h) (Or.inl ⟨by rfl, ?_⟩) hHeld ?_ ?_
  rotate_left
  · rintro w' ⟨s0, s1, s2, s3, s4, s5, s6, s7, s8, s9, s10, s11, s12, s13, s14, s15, s16, s17, s18, s19⟩
    go_simp
    with_reducible rfl
  rotate_left
  · simp only [Act.put, List.setIfInBounds_toArray, List.set_cons_zero, List.set_cons_succ, i64_w, i32_w]
    rfl
  refine take_ (i := 63) (N := some 91) (v := ?_) (a' := ?_) #[true, true, true, true, true, true, true, true, true, true, true, true, true, true, true, true, true, true, true, true, true, true, true, true, true, true, true, true, true, true, true, true, true, true, true, true, true, true, true, true, true, true, true, true, true, true, true, true, true, true, true, true, true, true, true, true, true, true, true, true, true, true, true, true, false, false, false, false, false, false, false, false, false, false, false, false, false, false, false, false, false, false, false, false, false, false, false, false, false, false] rfl rfl (take_ofW HT_.out HW_.out (by kernel_rfl)) (fun _ _ _ h => h) (Or.inl ⟨by rfl, ?_⟩) hHeld ?_ ?_
  rotate_left
  · rintro w' ⟨s0, s1, s2, s3, s4, s5, s6, s7, s8, s9, s10, s11, s12, s13, s14, s15, s16, s17, s18, s19⟩
    go_simp
    with_reducible rfl
  rotate_left
  · simp only [Act.put, List.setIfInBounds_toArray, List.set_cons_zero, List.set_cons_succ, i64_w, i32_w]
    rfl
  refine take_ (i := 65) (N := some 93) (v := ?_) (a' := ?_) #[true, true, true, true, true, true, true, true, true, true, true, true, true, true, true, true, true, true, true, true, true, true, true, true, true, true, true, true, true, true, true, true, true, true, true, true, true, true, true, true, true, true, true, true, true, true, true, true, true, true, true, true, true, true, true, true, true, true, true, true, true, true, true, true, false, true, false, false, false, false, false, false, false, false, false, false, false, false, false, false, false, false, false, false, false, false, false, false, false, false] rfl rfl (take_ofW HT_.out HW_.out (by kernel_rfl)) (fun _ _ _ h => h) (Or.inl ⟨by rfl, ?_⟩) hHeld ?_ ?_
  rotate_left
  · rintro w' ⟨s0, s1, s2, s3, s4, s5, s6, s7, s8, s9, s10, s11, s12, s13, s14, s15, s16, s17, s18, s19⟩
    go_simp
    with_reducible rfl
  rotate_left
  · simp only [Act.put, List.setIfInBounds_toArray, List.set_cons_zero, List.set_cons_succ, i64_w, i32_w]
    rfl
  refine one_ (i := 64) (N := some 92) #[true, true, true, true, true, true, true, true, true, true, true, true, true, true, true, true, true, true, true, true, true, true, true, true, true, true, true, true, true, true, true, true, true, true, true, true, true, true, true, true, true, true, true, true, true, true, true, true, true, true, true, true, true, true, true, true, true, true, true, true, true, true, true, true, true, true, false, false, false, false, false, false, false, false, false, false, false, false, false, false, false, false, false, false, false, false, false, false, false, false] rfl rfl (one_of HT_.out (by kernel_rfl)) (by decide) (fun K hK => ?_)
  refine goes_ Tryd.func12 (by kernel_rfl) rfl #[.agg #[.int .u64 t453, .int .u64 t454, .int .u64 t455, .int .u64 t456], .agg #[.int .u64 t473, .int .u64 t474, .int .u64 t475, .int .u64 t476]] (by rfl) rfl rfl (by (try simp only [List.map_toArray, List.map_cons, List.map_nil]); first | done | rfl | (simp only [List.length_drop, List.length_take]; rfl)) ?_
  with_reducible refine (vec_Join.calls t453 t454 t455 t456 t473 t474 t475 t476 t520 t521 t522 t523 _ A31.out).mono ?_
  rintro e w109 ⟨rfl, hb⟩
  refine ⟨_, rfl, ?_⟩
  have n0_ := Zq0 (Zb0 (g := gb449) (o := .cells #[.int .u64 a0_0, .int .u64 a0_1, .int .u64 a0_2, .int .u64 a0_3, .bool a0_4] 26 (0, 0)) (by (with_reducible repeat (first | refine Zn0 ?_ _ | refine Zd0 ?_ | refine Za0 ?_ _)); exact BK449.out) hb)
  have n1_ := Zq0 (Zb0 (g := gb450) (o := .cells #[.int .u64 a1_0, .int .u64 a1_1, .int .u64 a1_2, .int .u64 a1_3, .bool a1_4] 26 (0, 0)) (by (with_reducible repeat (first | refine Zn0 ?_ _ | refine Zd0 ?_ | refine Za0 ?_ _)); exact BK450.out) hb)
  have n2_ := Zq0 (Zb0 (g := gb451) (o := .cells #[.int .u64 a2_0, .int .u64 a2_1, .int .u64 a2_2, .int .u64 a2_3, .bool a2_4] 26 (0, 0)) (by (with_reducible repeat (first | refine Zn0 ?_ _ | refine Zd0 ?_ | refine Za0 ?_ _)); exact BK451.out) hb)
  have n3_ := Zq0 (Zb0 (g := gb457) (o := .cells #[.int .u64 t453, .int .u64 t454, .int .u64 t455, .int .u64 t456] 24 (0, 0)) (by (with_reducible repeat (first | refine Zn0 ?_ _ | refine Zd0 ?_ | refine Za0 ?_ _)); exact BK457.out) hb)
  have n4_ := Zq0 (Zb0 (g := gb462) (o := .cells #[.int .u64 t458, .int .u64 t459, .int .u64 t460, .int .u64 t461] 24 (0, 0)) (by (with_reducible repeat (first | refine Zn0 ?_ _ | refine Zd0 ?_ | refine Za0 ?_ _)); exact BK462.out) hb)
  have n5_ := Zq0 (Zb0 (g := gb467) (o := .cells #[.int .u64 t463, .int .u64 t464, .int .u64 t465, .int .u64 t466] 24 (0, 0)) (by (with_reducible repeat (first | refine Zn0 ?_ _ | refine Zd0 ?_ | refine Za0 ?_ _)); exact BK467.out) hb)
  have n6_ := Zq0 (Zb0 (g := gb472) (o := .cells #[.int .u64 t468, .int .u64 t469, .int .u64 t470, .int .u64 t471] 24 (0, 0)) (by (with_reducible repeat (first | refine Zn0 ?_ _ | refine Zd0 ?_ | refine Za0 ?_ _)); exact BK472.out) hb)
  have n7_ := Zq0 (Zb0 (g := gb477) (o := .cells #[.int .u64 t473, .int .u64 t474, .int .u64 t475, .int .u64 t476] 24 (0, 0)) (by (with_reducible repeat (first | refine Zn0 ?_ _ | refine Zd0 ?_ | refine Za0 ?_ _)); exact BK477.out) hb)
  have n8_ := Zq0 (below_step (by repeat (first | (with_reducible first | exact HB.out | apply below_alloc | apply Zw0 | apply Ze0 | refine Zs0 ?_ GE449.out | refine Zs0 ?_ GE450.out | refine Zs0 ?_ GE451.out | refine Zs0 ?_ GE457.out | refine Zs0 ?_ GE462.out | refine Zs0 ?_ GE467.out | refine Zs0 ?_ GE472.out | refine Zs0 ?_ GE477.out) | exact HB.out)) hb)
  clear BK449
  clear BK450
  clear BK451
  clear BK457
  clear BK462
  clear BK467
  clear BK472
  clear BK477
  clear HB
  have BK449 := n0_
  have BK450 := n1_
  have BK451 := n2_
  have BK457 := n3_
  have BK462 := n4_
  have BK467 := n5_
  have BK472 := n6_
  have BK477 := n7_
  have HB := n8_
  clear n0_ n1_ n2_ n3_ n4_ n5_ n6_ n7_ n8_
  (try clear hb)
  (try clear hb2)
  (try clear hk)
  (try clear hi)
  refine hK.out _ _ ⟨(blk_cell BK472.out 0).trans rfl, (blk_cell BK472.out 1).trans rfl, (blk_cell BK472.out 2).trans rfl, (blk_cell BK472.out 3).trans rfl, (blk_cell BK462.out 0).trans rfl, (blk_cell BK462.out 1).trans rfl, (blk_cell BK462.out 2).trans rfl, (blk_cell BK462.out 3).trans rfl, (blk_cell BK457.out 0).trans rfl, (blk_cell BK457.out 1).trans rfl, (blk_cell BK457.out 2).trans rfl, (blk_cell BK457.out 3).trans rfl, (blk_cell BK477.out 0).trans rfl, (blk_cell BK477.out 1).trans rfl, (blk_cell BK477.out 2).trans rfl, (blk_cell BK477.out 3).trans rfl, (blk_cell BK467.out 0).trans rfl, (blk_cell BK467.out 1).trans rfl, (blk_cell BK467.out 2).trans rfl, (blk_cell BK467.out 3).trans rfl⟩ (fun hHeld => ?_)
  clear hK K
  refine norm_ (a' := ?_) ?_ ?_
  rotate_left
  · show Act.put _ (some 92) _ = _
    simp only [Act.put, List.setIfInBounds_toArray, List.set_cons_zero, List.set_cons_succ, i64_w, i32_w]
    rfl
  refine pure_ (i := 66) (N := some 94) (v := ?_) (a' := ?_) #[true, true, true, true, true, true, true, true, true, true, true, true, true, true, true, true, true, true, true, true, true, true, true, true, true, true, true, true, true, true, true, true, true, true, true, true, true, true, true, true, true, true, true, true, true, true, true, true, true, true, true, true, true, true, true, true, true, true, true, true, true, true, true, true, true, true, true, false, false, false, false, false, false, false, false, false, false, false, false, false, false, false, false, false, false, false, false, false, false, false] rfl rfl (any_of HT_.out (by kernel_rfl)) (fun _ _ _ h => h) (Or.inl ⟨by rfl, ?_⟩) ?_ ?_
  rotate_left
  · intro w'
    go_simp
    with_reducible rfl
  rotate_left
  · simp only [Act.put, List.setIfInBounds_toArray, List.set_cons_zero, List.set_cons_succ, i64_w, i32_w]
    rfl
  refine pure_ (i := 67) (N := some 95) (v := ?_) (a' := ?_) #[true, true, true, true, true, true, true, true, true, true, true, true, true, true, true, true, true, true, true, true, true, true, true, true, true, true, true, true, true, true, true, true, true, true, true, true, true, true, true, true, true, true, true, true, true, true, true, true, true, true, true, true, true, true, true, true, true, true, true, true, true, true, true, true, true, true, true, true, false, false, false, false, false, false, false, false, false, false, false, false, false, false, false, false, false, false, false, false, false, false] rfl rfl (any_of HT_.out (by kernel_rfl)) (fun _ _ _ h => h) (Or.inl ⟨by rfl, ?_⟩) ?_ ?_
  rotate_left
  · intro w'
    go_simp
    with_reducible rfl
  rotate_left
  · simp only [Act.put, List.setIfInBounds_toArray, List.set_cons_zero, List.set_cons_succ, i64_w, i32_w]
    rfl
  refine pure_ (i := 68) (N := some 96) (v := ?_) (a' := ?_) #[true, true, true, true, true, true, true, true, true, true, true, true, true, true, true, true, true, true, true, true, true, true, true, true, true, true, true, true, true, true, true, true, true, true, true, true, true, true, true, true, true, true, true, true, true, true, true, true, true, true, true, true, true, true, true, true, true, true, true, true, true, true, true, true, true, true, true, true, true, false, false, false, false, false, false, false, false, false, false, false, false, false, false, false, false, false, false, false, false, false] rfl rfl (any_of HT_.out (by kernel_rfl)) (fun _ _ _ h => h) (Or.inl ⟨by rfl, ?_⟩) ?_ ?_
  rotate_left
  · intro w'
    go_simp
    with_reducible rfl
  rotate_left
  · simp only [Act.put, List.setIfInBounds_toArray, List.set_cons_zero, List.set_cons_succ, i64_w, i32_w]
    rfl
  refine take_ (i := 69) (N := some 97) (v := ?_) (a' := ?_) #[true, true, true, true, true, true, true, true, true, true, true, true, true, true, true, true, true, true, true, true, true, true, true, true, true, true, true, true, true, true, true, true, true, true, true, true, true, true, true, true, true, true, true, true, true, true, true, true, true, true, true, true, true, true, true, true, true, true, true, true, true, true, true, true, true, true, true, true, true, true, false, false, false, false, false, false, false, false, false, false, false, false, false, false, false, false, false, false, false, false] rfl rfl (take_ofW HT_.out HW_.out (by kernel_rfl)) (fun _ _ _ h => h) (Or.inl ⟨by rfl, ?_⟩) hHeld ?_ ?_
  rotate_left
  · rintro w' ⟨s0, s1, s2, s3, s4, s5, s6, s7, s8, s9, s10, s11, s12, s13, s14, s15, s16, s17, s18, s19⟩
    go_simp
    with_reducible rfl
  rotate_left
  · simp only [Act.put, List.setIfInBounds_toArray, List.set_cons_zero, List.set_cons_succ, i64_w, i32_w]
    rfl
  refine take_ (i := 70) (N := some 98) (v := ?_) (a' := ?_) #[true, true, true, true, true, true, true, true, true, true, true, true, true, true, true, true, true, true, true, true, true, true, true, true, true, true, true, true, true, true, true, true, true, true, true, true, true, true, true, true, true, true, true, true, true, true, true, true, true, true, true, true, true, true, true, true, true, true, true, true, true, true, true, true, true, true, true, true, true, true, true, false, false, false, false, false, false, false, false, false, false, false, false, false, false, false, false, false, false, false] rfl rfl (take_ofW HT_.out HW_.out (by kernel_rfl)) (fun _ _ _ h => h) (Or.inl ⟨by rfl, ?_⟩) hHeld ?_ ?_
  rotate_left
  · rintro w' ⟨s0, s1, s2, s3, s4, s5, s6, s7, s8, s9, s10, s11, s12, s13, s14, s15, s16, s17, s18, s19⟩
    go_simp
    with_reducible rfl
  rotate_left
  · simp only [Act.put, List.setIfInBounds_toArray, List.set_cons_zero, List.set_cons_succ, i64_w, i32_w]
    rfl
  refine take_ (i := 72) (N := some 100) (v := ?_) (a' := ?_) #[true, true, true, true, true, true, true, true, true, true, true, true, true, true, true, true, true, true, true, true, true, true, true, true, true, true, true, true, true, true, true, true, true, true, true, true, true, true, true, true, true, true, true, true, true, true, true, true, true, true, true, true, true, true, true, true, true, true, true, true, true, true, true, true, true, true, true, true, true, true, true, false, true, false, false, false, false, false, false, false, false, false, false, false, false, false, false, false, false, false] rfl rfl (take_ofW HT_.out HW_.out (by kernel_rfl)) (fun _ _ _ h => h) (Or.inl ⟨by rfl, ?_⟩) hHeld ?_ ?_
  rotate_left
  · rintro w' ⟨s0, s1, s2, s3, s4, s5, s6, s7, s8, s9, s10, s11, s12, s13, s14, s15, s16, s17, s18, s19⟩
    go_simp
    with_reducible rfl
  rotate_left
  · simp only [Act.put, List.setIfInBounds_toArray, List.set_cons_zero, List.set_cons_succ, i64_w, i32_w]
    rfl
  refine one_ (i := 71) (N := some 99) #[true, true, true, true, true, true, true, true, true, true, true, true, true, true, true, true, true, true, true, true, true, true, true, true, true, true, true, true, true, true, true, true, true, true, true, true, true, true, true, true, true, true, true, true, true, true, true, true, true, true, true, true, true, true, true, true, true, true, true, true, true, true, true, true, true, true, true, true, true, true, true, true, true, false, false, false, false, false, false, false, false, false, false, false, false, false, false, false, false, false] rfl rfl (one_of HT_.out (by kernel_rfl)) (by decide) (fun K hK => ?_)
  refine goes_ Tryd.func14 (by kernel_rfl) rfl #[.agg #[.int .u64 t453, .int .u64 t454, .int .u64 t455, .int .u64 t456], .agg #[.int .u64 t468, .int .u64 t469, .int .u64 t470, .int .u64 t471]] (by rfl) rfl rfl (by (try simp only [List.map_toArray, List.map_cons, List.map_nil]); first | done | rfl | (simp only [List.length_drop, List.length_take]; rfl)) ?_
  with_reducible refine (vec_Meet.calls t453 t454 t455 t456 t468 t469 t470 t471 t524 t525 t526 t527 _ A33.out).mono ?_
  rintro e w110 ⟨rfl, hb⟩
  refine ⟨_, rfl, ?_⟩
  have n0_ := Zq0 (Zb0 (g := gb449) (o := .cells #[.int .u64 a0_0, .int .u64 a0_1, .int .u64 a0_2, .int .u64 a0_3, .bool a0_4] 26 (0, 0)) (by (with_reducible repeat (first | refine Zn0 ?_ _ | refine Zd0 ?_ | refine Za0 ?_ _)); exact BK449.out) hb)
  have n1_ := Zq0 (Zb0 (g := gb450) (o := .cells #[.int .u64 a1_0, .int .u64 a1_1, .int .u64 a1_2, .int .u64 a1_3, .bool a1_4] 26 (0, 0)) (by (with_reducible repeat (first | refine Zn0 ?_ _ | refine Zd0 ?_ | refine Za0 ?_ _)); exact BK450.out) hb)
  have n2_ := Zq0 (Zb0 (g := gb451) (o := .cells #[.int .u64 a2_0, .int .u64 a2_1, .int .u64 a2_2, .int .u64 a2_3, .bool a2_4] 26 (0, 0)) (by (with_reducible repeat (first | refine Zn0 ?_ _ | refine Zd0 ?_ | refine Za0 ?_ _)); exact BK451.out) hb)
  have n3_ := Zq0 (Zb0 (g := gb457) (o := .cells #[.int .u64 t453, .int .u64 t454, .int .u64 t455, .int .u64 t456] 24 (0, 0)) (by (with_reducible repeat (first | refine Zn0 ?_ _ | refine Zd0 ?_ | refine Za0 ?_ _)); exact BK457.out) hb)
  have n4_ := Zq0 (Zb0 (g := gb462) (o := .cells #[.int .u64 t458, .int .u64 t459, .int .u64 t460, .int .u64 t461] 24 (0, 0)) (by (with_reducible repeat (first | refine Zn0 ?_ _ | refine Zd0 ?_ | refine Za0 ?_ _)); exact BK462.out) hb)
  have n5_ := Zq0 (Zb0 (g := gb467) (o := .cells #[.int .u64 t463, .int .u64 t464, .int .u64 t465, .int .u64 t466] 24 (0, 0)) (by (with_reducible repeat (first | refine Zn0 ?_ _ | refine Zd0 ?_ | refine Za0 ?_ _)); exact BK467.out) hb)
  have n6_ := Zq0 (Zb0 (g := gb472) (o := .cells #[.int .u64 t468, .int .u64 t469, .int .u64 t470, .int .u64 t471] 24 (0, 0)) (by (with_reducible repeat (first | refine Zn0 ?_ _ | refine Zd0 ?_ | refine Za0 ?_ _)); exact BK472.out) hb)
  have n7_ := Zq0 (Zb0 (g := gb477) (o := .cells #[.int .u64 t473, .int .u64 t474, .int .u64 t475, .int .u64 t476] 24 (0, 0)) (by (with_reducible repeat (first | refine Zn0 ?_ _ | refine Zd0 ?_ | refine Za0 ?_ _)); exact BK477.out) hb)
  have n8_ := Zq0 (below_step (by repeat (first | (with_reducible first | exact HB.out | apply below_alloc | apply Zw0 | apply Ze0 | refine Zs0 ?_ GE449.out | refine Zs0 ?_ GE450.out | refine Zs0 ?_ GE451.out | refine Zs0 ?_ GE457.out | refine Zs0 ?_ GE462.out | refine Zs0 ?_ GE467.out | refine Zs0 ?_ GE472.out | refine Zs0 ?_ GE477.out) | exact HB.out)) hb)
  clear BK449
  clear BK450
  clear BK451
  clear BK457
  clear BK462
  clear BK467
  clear BK472
  clear BK477
  clear HB
  have BK449 := n0_
  have BK450 := n1_
  have BK451 := n2_
  have BK457 := n3_
  have BK462 := n4_
  have BK467 := n5_
  have BK472 := n6_
  have BK477 := n7_
  have HB := n8_
  clear n0_ n1_ n2_ n3_ n4_ n5_ n6_ n7_ n8_
  (try clear hb)
  (try clear hb2)
  (try clear hk)
  (try clear hi)
  refine hK.out _ _ ⟨(blk_cell BK472.out 0).trans rfl, (blk_cell BK472.out 1).trans rfl, (blk_cell BK472.out 2).trans rfl, (blk_cell BK472.out 3).trans rfl, (blk_cell BK462.out 0).trans rfl, (blk_cell BK462.out 1).trans rfl, (blk_cell BK462.out 2).trans rfl, (blk_cell BK462.out 3).trans rfl, (blk_cell BK457.out 0).trans rfl, (blk_cell BK457.out 1).trans rfl, (blk_cell BK457.out 2).trans rfl, (blk_cell BK457.out 3).trans rfl, (blk_cell BK477.out 0).trans rfl, (blk_cell BK477.out 1).trans rfl, (blk_cell BK477.out 2).trans rfl, (blk_cell BK477.out 3).trans rfl, (blk_cell BK467.out 0).trans rfl, (blk_cell BK467.out 1).trans rfl, (blk_cell BK467.out 2).trans rfl, (blk_cell BK467.out 3).trans rfl⟩ (fun hHeld => ?_)
  clear hK K
  refine norm_ (a' := ?_) ?_ ?_
  rotate_left
  · show Act.put _ (some 99) _ = _
    simp only [Act.put, List.setIfInBounds_toArray, List.set_cons_zero, List.set_cons_succ, i64_w, i32_w]
    rfl
  refine pure_ (i := 73) (N := some 101) (v := ?_) (a' := ?_) #[true, true, true, true, true, true, true, true, true, true, true, true, true, true, true, true, true, true, true, true, true, true, true, true, true, true, true, true, true, true, true, true, true, true, true, true, true, true, true, true, true, true, true, true, true, true, true, true, true, true, true, true, true, true, true, true, true, true, true, true, true, true, true, true, true, true, true, true, true, true, true, true, true, true, false, false, false, false, false, false, false, false, false, false, false, false, false, false, false, false] rfl rfl (any_of HT_.out (by kernel_rfl)) (fun _ _ _ h => h) (Or.inl ⟨by rfl, ?_⟩) ?_ ?_
  rotate_left
  · intro w'
    go_simp
    with_reducible rfl
  rotate_left
  · simp only [Act.put, List.setIfInBounds_toArray, List.set_cons_zero, List.set_cons_succ, i64_w, i32_w]
    rfl
  refine pure_ (i := 74) (N := some 102) (v := ?_) (a' := ?_) #[true, true, true, true, true, true, true, true, true, true, true, true, true, true, true, true, true, true, true, true, true, true, true, true, true, true, true, true, true, true, true, true, true, true, true, true, true, true, true, true, true, true, true, true, true, true, true, true, true, true, true, true, true, true, true, true, true, true, true, true, true, true, true, true, true, true, true, true, true, true, true, true, true, true, true, false, false, false, false, false, false, false, false, false, false, false, false, false, false, false] rfl rfl (any_of HT_.out (by kernel_rfl)) (fun _ _ _ h => h) (Or.inl ⟨by rfl, ?_⟩) ?_ ?_
  rotate_left
  · intro w'
    go_simp
    with_reducible rfl
  rotate_left
  · simp only [Act.put, List.setIfInBounds_toArray, List.set_cons_zero, List.set_cons_succ, i64_w, i32_w]
    rfl
  refine pure_ (i := 75) (N := some 103) (v := ?_) (a' := ?_) #[true, true, true, true, true, true, true, true, true, true, true, true, true, true, true, true, true, true, true, true, true, true, true, true, true, true, true, true, true, true, true, true, true, true, true, true, true, true, true, true, true, true, true, true, true, true, true, true, true, true, true, true, true, true, true, true, true, true, true, true, true, true, true, true, true, true, true, true, true, true, true, true, true, true, true, true, false, false, false, false, false, false, false, false, false, false, false, false, false, false] rfl rfl (any_of HT_.out (by kernel_rfl)) (fun _ _ _ h => h) (Or.inl ⟨by rfl, ?_⟩) ?_ ?_
  rotate_left
  · intro w'
    go_simp
    with_reducible rfl
  rotate_left
  · simp only [Act.put, List.setIfInBounds_toArray, List.set_cons_zero, List.set_cons_succ, i64_w, i32_w]
    rfl
  refine take_ (i := 76) (N := some 104) (v := ?_) (a' := ?_) #[true, true, true, true, true, true, true, true, true, true, true, true, true, true, true, true, true, true, true, true, true, true, true, true, true, true, true, true, true, true, true, true, true, true, true, true, true, true, true, true, true, true, true, true, true, true, true, true, true, true, true, true, true, true, true, true, true, true, true, true, true, true, true, true, true, true, true, true, true, true, true, true, true, true, true, true, true, false, false, false, false, false, false, false, false, false, false, false, false, false] rfl rfl (take_ofW HT_.out HW_.out (by kernel_rfl)) (fun _ _ _ h => h) (Or.inl ⟨by rfl, ?_⟩) hHeld ?_ ?_
  rotate_left
  · rintro w' ⟨s0, s1, s2, s3, s4, s5, s6, s7, s8, s9, s10, s11, s12, s13, s14, s15, s16, s17, s18, s19⟩
    go_simp
    with_reducible rfl
  rotate_left
  · simp only [Act.put, List.setIfInBounds_toArray, List.set_cons_zero, List.set_cons_succ, i64_w, i32_w]
    rfl
  refine one_ (i := 77) (N := some 105) #[true, true, true, true, true, true, true, true, true, true, true, true, true, true, true, true, true, true, true, true, true, true, true, true, true, true, true, true, true, true, true, true, true, true, true, true, true, true, true, true, true, true, true, true, true, true, true, true, true, true, true, true, true, true, true, true, true, true, true, true, true, true, true, true, true, true, true, true, true, true, true, true, true, true, true, true, true, true, false, false, false, false, false, false, false, false, false, false, false, false] rfl rfl (one_of HT_.out (by kernel_rfl)) (by decide) (fun K hK => ?_)
  refine goes_ Tryd.func20 (by kernel_rfl) rfl #[.agg #[.int .u64 t453, .int .u64 t454, .int .u64 t455, .int .u64 t456]] (by rfl) rfl rfl (by (try simp only [List.map_toArray, List.map_cons, List.map_nil]); first | done | rfl | (simp only [List.length_drop, List.length_take]; rfl)) ?_
  with_reducible refine (vec_Right.calls t453 t454 t455 t456 true _ A35.out).mono ?_
  rintro e w111 ⟨rfl, hb⟩
  refine ⟨_, rfl, ?_⟩
  have n0_ := Zq0 (Zb0 (g := gb449) (o := .cells #[.int .u64 a0_0, .int .u64 a0_1, .int .u64 a0_2, .int .u64 a0_3, .bool a0_4] 26 (0, 0)) (by (with_reducible repeat (first | refine Zn0 ?_ _ | refine Zd0 ?_ | refine Za0 ?_ _)); exact BK449.out) hb)
  have n1_ := Zq0 (Zb0 (g := gb450) (o := .cells #[.int .u64 a1_0, .int .u64 a1_1, .int .u64 a1_2, .int .u64 a1_3, .bool a1_4] 26 (0, 0)) (by (with_reducible repeat (first | refine Zn0 ?_ _ | refine Zd0 ?_ | refine Za0 ?_ _)); exact BK450.out) hb)
  have n2_ := Zq0 (Zb0 (g := gb451) (o := .cells #[.int .u64 a2_0, .int .u64 a2_1, .int .u64 a2_2, .int .u64 a2_3, .bool a2_4] 26 (0, 0)) (by (with_reducible repeat (first | refine Zn0 ?_ _ | refine Zd0 ?_ | refine Za0 ?_ _)); exact BK451.out) hb)
  have n3_ := Zq0 (Zb0 (g := gb457) (o := .cells #[.int .u64 t453, .int .u64 t454, .int .u64 t455, .int .u64 t456] 24 (0, 0)) (by (with_reducible repeat (first | refine Zn0 ?_ _ | refine Zd0 ?_ | refine Za0 ?_ _)); exact BK457.out) hb)
  have n4_ := Zq0 (Zb0 (g := gb462) (o := .cells #[.int .u64 t458, .int .u64 t459, .int .u64 t460, .int .u64 t461] 24 (0, 0)) (by (with_reducible repeat (first | refine Zn0 ?_ _ | refine Zd0 ?_ | refine Za0 ?_ _)); exact BK462.out) hb)
  have n5_ := Zq0 (Zb0 (g := gb467) (o := .cells #[.int .u64 t463, .int .u64 t464, .int .u64 t465, .int .u64 t466] 24 (0, 0)) (by (with_reducible repeat (first | refine Zn0 ?_ _ | refine Zd0 ?_ | refine Za0 ?_ _)); exact BK467.out) hb)
  have n6_ := Zq0 (Zb0 (g := gb472) (o := .cells #[.int .u64 t468, .int .u64 t469, .int .u64 t470, .int .u64 t471] 24 (0, 0)) (by (with_reducible repeat (first | refine Zn0 ?_ _ | refine Zd0 ?_ | refine Za0 ?_ _)); exact BK472.out) hb)
  have n7_ := Zq0 (Zb0 (g := gb477) (o := .cells #[.int .u64 t473, .int .u64 t474, .int .u64 t475, .int .u64 t476] 24 (0, 0)) (by (with_reducible repeat (first | refine Zn0 ?_ _ | refine Zd0 ?_ | refine Za0 ?_ _)); exact BK477.out) hb)
  have n8_ := Zq0 (below_step (by repeat (first | (with_reducible first | exact HB.out | apply below_alloc | apply Zw0 | apply Ze0 | refine Zs0 ?_ GE449.out | refine Zs0 ?_ GE450.out | refine Zs0 ?_ GE451.out | refine Zs0 ?_ GE457.out | refine Zs0 ?_ GE462.out | refine Zs0 ?_ GE467.out | refine Zs0 ?_ GE472.out | refine Zs0 ?_ GE477.out) | exact HB.out)) hb)
  clear BK449
  clear BK450
  clear BK451
  clear BK457
  clear BK462
  clear BK467
  clear BK472
  clear BK477
  clear HB
  have BK449 := n0_
  have BK450 := n1_
  have BK451 := n2_
  have BK457 := n3_
  have BK462 := n4_
  have BK467 := n5_
  have BK472 := n6_
  have BK477 := n7_
  have HB := n8_
  clear n0_ n1_ n2_ n3_ n4_ n5_ n6_ n7_ n8_
  (try clear hb)
  (try clear hb2)
  (try clear hk)
  (try clear hi)
  refine hK.out _ _ ⟨(blk_cell BK472.out 0).trans rfl, (blk_cell BK472.out 1).trans rfl, (blk_cell BK472.out 2).trans rfl, (blk_cell BK472.out 3).trans rfl, (blk_cell BK462.out 0).trans rfl, (blk_cell BK462.out 1).trans rfl, (blk_cell BK462.out 2).trans rfl, (blk_cell BK462.out 3).trans rfl, (blk_cell BK457.out 0).trans rfl, (blk_cell BK457.out 1).trans rfl, (blk_cell BK457.out 2).trans rfl, (blk_cell BK457.out 3).trans rfl, (blk_cell BK477.out 0).trans rfl, (blk_cell BK477.out 1).trans rfl, (blk_cell BK477.out 2).trans rfl, (blk_cell BK477.out 3).trans rfl, (blk_cell BK467.out 0).trans rfl, (blk_cell BK467.out 1).trans rfl, (blk_cell BK467.out 2).trans rfl, (blk_cell BK467.out 3).trans rfl⟩ (fun hHeld => ?_)
  clear hK K
  refine norm_ (a' := ?_) ?_ ?_
  rotate_left
  · show Act.put _ (some 105) _ = _
    simp only [Act.put, List.setIfInBounds_toArray, List.set_cons_zero, List.set_cons_succ, i64_w, i32_w]
    rfl
  refine pure_ (i := 78) (N := some 106) (v := ?_) (a' := ?_) #[true, true, true, true, true, true, true, true, true, true, true, true, true, true, true, true, true, true, true, true, true, true, true, true, true, true, true, true, true, true, true, true, true, true, true, true, true, true, true, true, true, true, true, true, true, true, true, true, true, true, true, true, true, true, true, true, true, true, true, true, true, true, true, true, true, true, true, true, true, true, true, true, true, true, true, true, true, true, true, false, false, false, false, false, false, false, false, false, false, false] rfl rfl (any_of HT_.out (by kernel_rfl)) (fun _ _ _ h => h) (Or.inl ⟨by rfl, ?_⟩) ?_ ?_
  rotate_left
  · intro w'
    go_simp
    with_reducible rfl
  rotate_left
  · simp only [Act.put, List.setIfInBounds_toArray, List.set_cons_zero, List.set_cons_succ, i64_w, i32_w]
    rfl
  refine pure_ (i := 79) (N := some 107) (v := ?_) (a' := ?_) #[true, true, true, true, true, true, true, true, true, true, true, true, true, true, true, true, true, true, true, true, true, true, true, true, true, true, true, true, true, true, true, true, true, true, true, true, true, true, true, true, true, true, true, true, true, true, true, true, true, true, true, true, true, true, true, true, true, true, true, true, true, true, true, true, true, true, true, true, true, true, true, true, true, true, true, true, true, true, true, true, false, false, false, false, false, false, false, false, false, false] rfl rfl (any_of HT_.out (by kernel_rfl)) (fun _ _ _ h => h) (Or.inl ⟨by rfl, ?_⟩) ?_ ?_
  rotate_left
  · intro w'
    go_simp
    with_reducible rfl
  rotate_left
  · simp only [Act.put, List.setIfInBounds_toArray, List.set_cons_zero, List.set_cons_succ, i64_w, i32_w]
    rfl
  refine take_ (i := 80) (N := some 108) (v := ?_) (a' := ?_) #[true, true, true, true, true, true, true, true, true, true, true, true, true, true, true, true, true, true, true, true, true, true, true, true, true, true, true, true, true, true, true, true, true, true, true, true, true, true, true, true, true, true, true, true, true, true, true, true, true, true, true, true, true, true, true, true, true, true, true, true, true, true, true, true, true, true, true, true, true, true, true, true, true, true, true, true, true, true, true, true, true, false, false, false, false, false, false, false, false, false] rfl rfl (take_ofW HT_.out HW_.out (by kernel_rfl)) (fun _ _ _ h => h) (Or.inl ⟨by rfl, ?_⟩) hHeld ?_ ?_
  rotate_left
  · rintro w' ⟨s0, s1, s2, s3, s4, s5, s6, s7, s8, s9, s10, s11, s12, s13, s14, s15, s16, s17, s18, s19⟩
    go_simp
    with_reducible rfl
  rotate_left
  · simp only [Act.put, List.setIfInBounds_toArray, List.set_cons_zero, List.set_cons_succ, i64_w, i32_w]
    rfl
  refine one_ (i := 81) (N := some 109) #[true, true, true, true, true, true, true, true, true, true, true, true, true, true, true, true, true, true, true, true, true, true, true, true, true, true, true, true, true, true, true, true, true, true, true, true, true, true, true, true, true, true, true, true, true, true, true, true, true, true, true, true, true, true, true, true, true, true, true, true, true, true, true, true, true, true, true, true, true, true, true, true, true, true, true, true, true, true, true, true, true, true, false, false, false, false, false, false, false, false] rfl rfl (one_of HT_.out (by kernel_rfl)) (by decide) (fun K hK => ?_)
  refine goes_ Tryd.func20 (by kernel_rfl) rfl #[.agg #[.int .u64 t458, .int .u64 t459, .int .u64 t460, .int .u64 t461]] (by rfl) rfl rfl (by (try simp only [List.map_toArray, List.map_cons, List.map_nil]); first | done | rfl | (simp only [List.length_drop, List.length_take]; rfl)) ?_
  with_reducible refine (vec_Right.calls t458 t459 t460 t461 true _ A37.out).mono ?_
  rintro e w112 ⟨rfl, hb⟩
  refine ⟨_, rfl, ?_⟩
  have n0_ := Zq0 (Zb0 (g := gb449) (o := .cells #[.int .u64 a0_0, .int .u64 a0_1, .int .u64 a0_2, .int .u64 a0_3, .bool a0_4] 26 (0, 0)) (by (with_reducible repeat (first | refine Zn0 ?_ _ | refine Zd0 ?_ | refine Za0 ?_ _)); exact BK449.out) hb)
  have n1_ := Zq0 (Zb0 (g := gb450) (o := .cells #[.int .u64 a1_0, .int .u64 a1_1, .int .u64 a1_2, .int .u64 a1_3, .bool a1_4] 26 (0, 0)) (by (with_reducible repeat (first | refine Zn0 ?_ _ | refine Zd0 ?_ | refine Za0 ?_ _)); exact BK450.out) hb)
  have n2_ := Zq0 (Zb0 (g := gb451) (o := .cells #[.int .u64 a2_0, .int .u64 a2_1, .int .u64 a2_2, .int .u64 a2_3, .bool a2_4] 26 (0, 0)) (by (with_reducible repeat (first | refine Zn0 ?_ _ | refine Zd0 ?_ | refine Za0 ?_ _)); exact BK451.out) hb)
  have n3_ := Zq0 (Zb0 (g := gb457) (o := .cells #[.int .u64 t453, .int .u64 t454, .int .u64 t455, .int .u64 t456] 24 (0, 0)) (by (with_reducible repeat (first | refine Zn0 ?_ _ | refine Zd0 ?_ | refine Za0 ?_ _)); exact BK457.out) hb)
  have n4_ := Zq0 (Zb0 (g := gb462) (o := .cells #[.int .u64 t458, .int .u64 t459, .int .u64 t460, .int .u64 t461] 24 (0, 0)) (by (with_reducible repeat (first | refine Zn0 ?_ _ | refine Zd0 ?_ | refine Za0 ?_ _)); exact BK462.out) hb)
  have n5_ := Zq0 (Zb0 (g := gb467) (o := .cells #[.int .u64 t463, .int .u64 t464, .int .u64 t465, .int .u64 t466] 24 (0, 0)) (by (with_reducible repeat (first | refine Zn0 ?_ _ | refine Zd0 ?_ | refine Za0 ?_ _)); exact BK467.out) hb)
  have n6_ := Zq0 (Zb0 (g := gb472) (o := .cells #[.int .u64 t468, .int .u64 t469, .int .u64 t470, .int .u64 t471] 24 (0, 0)) (by (with_reducible repeat (first | refine Zn0 ?_ _ | refine Zd0 ?_ | refine Za0 ?_ _)); exact BK472.out) hb)
  have n7_ := Zq0 (Zb0 (g := gb477) (o := .cells #[.int .u64 t473, .int .u64 t474, .int .u64 t475, .int .u64 t476] 24 (0, 0)) (by (with_reducible repeat (first | refine Zn0 ?_ _ | refine Zd0 ?_ | refine Za0 ?_ _)); exact BK477.out) hb)
  have n8_ := Zq0 (below_step (by repeat (first | (with_reducible first | exact HB.out | apply below_alloc | apply Zw0 | apply Ze0 | refine Zs0 ?_ GE449.out | refine Zs0 ?_ GE450.out | refine Zs0 ?_ GE451.out | refine Zs0 ?_ GE457.out | refine Zs0 ?_ GE462.out | refine Zs0 ?_ GE467.out | refine Zs0 ?_ GE472.out | refine Zs0 ?_ GE477.out) | exact HB.out)) hb)
  clear BK449
  clear BK450
  clear BK451
  clear BK457
  clear BK462
  clear BK467
  clear BK472
  clear BK477
  clear HB
  have BK449 := n0_
  have BK450 := n1_
  have BK451 := n2_
  have BK457 := n3_
  have BK462 := n4_
  have BK467 := n5_
  have BK472 := n6_
  have BK477 := n7_
  have HB := n8_
  clear n0_ n1_ n2_ n3_ n4_ n5_ n6_ n7_ n8_
  (try clear hb)
  (try clear hb2)
  (try clear hk)
  (try clear hi)
  refine hK.out _ _ ⟨(blk_cell BK472.out 0).trans rfl, (blk_cell BK472.out 1).trans rfl, (blk_cell BK472.out 2).trans rfl, (blk_cell BK472.out 3).trans rfl, (blk_cell BK462.out 0).trans rfl, (blk_cell BK462.out 1).trans rfl, (blk_cell BK462.out 2).trans rfl, (blk_cell BK462.out 3).trans rfl, (blk_cell BK457.out 0).trans rfl, (blk_cell BK457.out 1).trans rfl, (blk_cell BK457.out 2).trans rfl, (blk_cell BK457.out 3).trans rfl, (blk_cell BK477.out 0).trans rfl, (blk_cell BK477.out 1).trans rfl, (blk_cell BK477.out 2).trans rfl, (blk_cell BK477.out 3).trans rfl, (blk_cell BK467.out 0).trans rfl, (blk_cell BK467.out 1).trans rfl, (blk_cell BK467.out 2).trans rfl, (blk_cell BK467.out 3).trans rfl⟩ (fun hHeld => ?_)
  clear hK K
  refine norm_ (a' := ?_) ?_ ?_
  rotate_left
  · show Act.put _ (some 109) _ = _
    simp only [Act.put, List.setIfInBounds_toArray, List.set_cons_zero, List.set_cons_succ, i64_w, i32_w]
    rfl
  refine pure_ (i := 82) (N := some 110) (v := ?_) (a' := ?_) #[true, true, true, true, true, true, true, true, true, true, true, true, true, true, true, true, true, true, true, true, true, true, true, true, true, true, true, true, true, true, true, true, true, true, true, true, true, true, true, true, true, true, true, true, true, true, true, true, true, true, true, true, true, true, true, true, true, true, true, true, true, true, true, true, true, true, true, true, true, true, true, true, true, true, true, true, true, true, true, true, true, true, true, false, false, false, false, false, false, false] rfl rfl (any_of HT_.out (by kernel_rfl)) (fun _ _ _ h => h) (Or.inl ⟨by rfl, ?_⟩) ?_ ?_
  rotate_left
  · intro w'
    go_simp
    with_reducible rfl
  rotate_left
  · simp only [Act.put, List.setIfInBounds_toArray, List.set_cons_zero, List.set_cons_succ, i64_w, i32_w]
    rfl
  refine pure_ (i := 83) (N := some 111) (v := ?_) (a' := ?_) #[true, true, true, true, true, true, true, true, true, true, true, true, true, true, true, true, true, true, true, true, true, true, true, true, true, true, true, true, true, true, true, true, true, true, true, true, true, true, true, true, true, true, true, true, true, true, true, true, true, true, true, true, true, true, true, true, true, true, true, true, true, true, true, true, true, true, true, true, true, true, true, true, true, true, true, true, true, true, true, true, true, true, true, true, false, false, false, false, false, false] rfl rfl (any_of HT_.out (by kernel_rfl)) (fun _ _ _ h => h) (Or.inl ⟨by rfl, ?_⟩) ?_ ?_
  rotate_left
  · intro w'
    go_simp
    with_reducible rfl
  rotate_left
  · simp only [Act.put, List.setIfInBounds_toArray, List.set_cons_zero, List.set_cons_succ, i64_w, i32_w]
    rfl
  refine pure_ (i := 84) (N := some 112) (v := ?_) (a' := ?_) #[true, true, true, true, true, true, true, true, true, true, true, true, true, true, true, true, true, true, true, true, true, true, true, true, true, true, true, true, true, true, true, true, true, true, true, true, true, true, true, true, true, true, true, true, true, true, true, true, true, true, true, true, true, true, true, true, true, true, true, true, true, true, true, true, true, true, true, true, true, true, true, true, true, true, true, true, true, true, true, true, true, true, true, true, true, false, false, false, false, false] rfl rfl (any_of HT_.out (by kernel_rfl)) (fun _ _ _ h => h) (Or.inl ⟨by rfl, ?_⟩) ?_ ?_
  rotate_left
  · intro w'
    go_simp
    with_reducible rfl
  rotate_left
  · simp only [Act.put, List.setIfInBounds_toArray, List.set_cons_zero, List.set_cons_succ, i64_w, i32_w]
    rfl
  refine take_ (i := 85) (N := some 113) (v := ?_) (a' := ?_) #[true, true, true, true, true, true, true, true, true, true, true, true, true, true, true, true, true, true, true, true, true, true, true, true, true, true, true, true, true, true, true, true, true, true, true, true, true, true, true, true, true, true, true, true, true, true, true, true, true, true, true, true, true, true, true, true, true, true, true, true, true, true, true, true, true, true, true, true, true, true, true, true, true, true, true, true, true, true, true, true, true, true, true, true, true, true, false, false, false, false] rfl rfl (take_ofW HT_.out HW_.out (by kernel_rfl)) (fun _ _ _ h => h) (Or.inl ⟨by rfl, ?_⟩) hHeld ?_ ?_
  rotate_left
  · rintro w' ⟨s0, s1, s2, s3, s4, s5, s6, s7, s8, s9, s10, s11, s12, s13, s14, s15, s16, s17, s18, s19⟩
    go_simp
    with_reducible rfl
  rotate_left
  · simp only [Act.put, List.setIfInBounds_toArray, List.set_cons_zero, List.set_cons_succ, i64_w, i32_w]
    rfl
  refine one_ (i := 86) (N := some 114) #[true, true, true, true, true, true, true, true, true, true, true, true, true, true, true, true, true, true, true, true, true, true, true, true, true, true, true, true, true, true, true, true, true, true, true, true, true, true, true, true, true, true, true, true, true, true, true, true, true, true, true, true, true, true, true, true, true, true, true, true, true, true, true, true, true, true, true, true, true, true, true, true, true, true, true, true, true, true, true, true, true, true, true, true, true, true, true, false, false, false] rfl rfl (one_of HT_.out (by kernel_rfl)) (by decide) (fun K hK => ?_)
  refine goes_ Tryd.func20 (by kernel_rfl) rfl #[.agg #[.int .u64 t468, .int .u64 t469, .int .u64 t470, .int .u64 t471]] (by rfl) rfl rfl (by (try simp only [List.map_toArray, List.map_cons, List.map_nil]); first | done | rfl | (simp only [List.length_drop, List.length_take]; rfl)) ?_
  with_reducible refine (vec_Right.calls t468 t469 t470 t471 true _ A39.out).mono ?_
  rintro e w113 ⟨rfl, hb⟩
  refine ⟨_, rfl, ?_⟩
  have n0_ := Zq0 (Zb0 (g := gb449) (o := .cells #[.int .u64 a0_0, .int .u64 a0_1, .int .u64 a0_2, .int .u64 a0_3, .bool a0_4] 26 (0, 0)) (by (with_reducible repeat (first | refine Zn0 ?_ _ | refine Zd0 ?_ | refine Za0 ?_ _)); exact BK449.out) hb)
  have n1_ := Zq0 (Zb0 (g := gb450) (o := .cells #[.int .u64 a1_0, .int .u64 a1_1, .int .u64 a1_2, .int .u64 a1_3, .bool a1_4] 26 (0, 0)) (by (with_reducible repeat (first | refine Zn0 ?_ _ | refine Zd0 ?_ | refine Za0 ?_ _)); exact BK450.out) hb)
  have n2_ := Zq0 (Zb0 (g := gb451) (o := .cells #[.int .u64 a2_0, .int .u64 a2_1, .int .u64 a2_2, .int .u64 a2_3, .bool a2_4] 26 (0, 0)) (by (with_reducible repeat (first | refine Zn0 ?_ _ | refine Zd0 ?_ | refine Za0 ?_ _)); exact BK451.out) hb)
  have n3_ := Zq0 (Zb0 (g := gb457) (o := .cells #[.int .u64 t453, .int .u64 t454, .int .u64 t455, .int .u64 t456] 24 (0, 0)) (by (with_reducible repeat (first | refine Zn0 ?_ _ | refine Zd0 ?_ | refine Za0 ?_ _)); exact BK457.out) hb)
  have n4_ := Zq0 (Zb0 (g := gb462) (o := .cells #[.int .u64 t458, .int .u64 t459, .int .u64 t460, .int .u64 t461] 24 (0, 0)) (by (with_reducible repeat (first | refine Zn0 ?_ _ | refine Zd0 ?_ | refine Za0 ?_ _)); exact BK462.out) hb)
  have n5_ := Zq0 (Zb0 (g := gb467) (o := .cells #[.int .u64 t463, .int .u64 t464, .int .u64 t465, .int .u64 t466] 24 (0, 0)) (by (with_reducible repeat (first | refine Zn0 ?_ _ | refine Zd0 ?_ | refine Za0 ?_ _)); exact BK467.out) hb)
  have n6_ := Zq0 (Zb0 (g := gb472) (o := .cells #[.int .u64 t468, .int .u64 t469, .int .u64 t470, .int .u64 t471] 24 (0, 0)) (by (with_reducible repeat (first | refine Zn0 ?_ _ | refine Zd0 ?_ | refine Za0 ?_ _)); exact BK472.out) hb)
  have n7_ := Zq0 (Zb0 (g := gb477) (o := .cells #[.int .u64 t473, .int .u64 t474, .int .u64 t475, .int .u64 t476] 24 (0, 0)) (by (with_reducible repeat (first | refine Zn0 ?_ _ | refine Zd0 ?_ | refine Za0 ?_ _)); exact BK477.out) hb)
  have n8_ := Zq0 (below_step (by repeat (first | (with_reducible first | exact HB.out | apply below_alloc | apply Zw0 | apply Ze0 | refine Zs0 ?_ GE449.out | refine Zs0 ?_ GE450.out | refine Zs0 ?_ GE451.out | refine Zs0 ?_ GE457.out | refine Zs0 ?_ GE462.out | refine Zs0 ?_ GE467.out | refine Zs0 ?_ GE472.out | refine Zs0 ?_ GE477.out) | exact HB.out)) hb)
  clear BK449
  clear BK450
  clear BK451
  clear BK457
  clear BK462
  clear BK467
  clear BK472
  clear BK477
  clear HB
  have BK449 := n0_
  have BK450 := n1_
  have BK451 := n2_
  have BK457 := n3_
  have BK462 := n4_
  have BK467 := n5_
  have BK472 := n6_
  have BK477 := n7_
  have HB := n8_
  clear n0_ n1_ n2_ n3_ n4_ n5_ n6_ n7_ n8_
  (try clear hb)
  (try clear hb2)
  (try clear hk)
  (try clear hi)
  refine hK.out _ _ ⟨(blk_cell BK472.out 0).trans rfl, (blk_cell BK472.out 1).trans rfl, (blk_cell BK472.out 2).trans rfl, (blk_cell BK472.out 3).trans rfl, (blk_cell BK462.out 0).trans rfl, (blk_cell BK462.out 1).trans rfl, (blk_cell BK462.out 2).trans rfl, (blk_cell BK462.out 3).trans rfl, (blk_cell BK457.out 0).trans rfl, (blk_cell BK457.out 1).trans rfl, (blk_cell BK457.out 2).trans rfl, (blk_cell BK457.out 3).trans rfl, (blk_cell BK477.out 0).trans rfl, (blk_cell BK477.out 1).trans rfl, (blk_cell BK477.out 2).trans rfl, (blk_cell BK477.out 3).trans rfl, (blk_cell BK467.out 0).trans rfl, (blk_cell BK467.out 1).trans rfl, (blk_cell BK467.out 2).trans rfl, (blk_cell BK467.out 3).trans rfl⟩ (fun hHeld => ?_)
  clear hK K
  refine norm_ (a' := ?_) ?_ ?_
  rotate_left
  · show Act.put _ (some 114) _ = _
    simp only [Act.put, List.setIfInBounds_toArray, List.set_cons_zero, List.set_cons_succ, i64_w, i32_w]
    rfl
  refine pure_ (i := 87) (N := some 115) (v := ?_) (a' := ?_) #[true, true, true, true, true, true, true, true, true, true, true, true, true, true, true, true, true, true, true, true, true, true, true, true, true, true, true, true, true, true, true, true, true, true, true, true, true, true, true, true, true, true, true, true, true, true, true, true, true, true, true, true, true, true, true, true, true, true, true, true, true, true, true, true, true, true, true, true, true, true, true, true, true, true, true, true, true, true, true, true, true, true, true, true, true, true, true, true, false, false] rfl rfl (any_of HT_.out (by kernel_rfl)) (fun _ _ _ h => h) (Or.inl ⟨by rfl, ?_⟩) ?_ ?_
  rotate_left
  · intro w'
    go_simp
    with_reducible rfl
  rotate_left
  · simp only [Act.put, List.setIfInBounds_toArray, List.set_cons_zero, List.set_cons_succ, i64_w, i32_w]
    rfl
  refine pure_ (i := 88) (N := some 116) (v := ?_) (a' := ?_) #[true, true, true, true, true, true, true, true, true, true, true, true, true, true, true, true, true, true, true, true, true, true, true, true, true, true, true, true, true, true, true, true, true, true, true, true, true, true, true, true, true, true, true, true, true, true, true, true, true, true, true, true, true, true, true, true, true, true, true, true, true, true, true, true, true, true, true, true, true, true, true, true, true, true, true, true, true, true, true, true, true, true, true, true, true, true, true, true, true, false] rfl rfl (any_of HT_.out (by kernel_rfl)) (fun _ _ _ h => h) (Or.inl ⟨by rfl, ?_⟩) ?_ ?_
  rotate_left
  · intro w'
    go_simp
    with_reducible rfl
  rotate_left
  · simp only [Act.put, List.setIfInBounds_toArray, List.set_cons_zero, List.set_cons_succ, i64_w, i32_w]
    rfl
  refine pure_ (i := 89) (N := some 6) (v := ?_) (a' := ?_) #[true, true, true, true, true, true, true, true, true, true, true, true, true, true, true, true, true, true, true, true, true, true, true, true, true, true, true, true, true, true, true, true, true, true, true, true, true, true, true, true, true, true, true, true, true, true, true, true, true, true, true, true, true, true, true, true, true, true, true, true, true, true, true, true, true, true, true, true, true, true, true, true, true, true, true, true, true, true, true, true, true, true, true, true, true, true, true, true, true, true] rfl rfl (any_of HT_.out (by kernel_rfl)) (fun _ _ _ h => h) (Or.inl ⟨by rfl, ?_⟩) ?_ ?_
  rotate_left
  · intro w'
    go_simp
    with_reducible rfl
  rotate_left
  · simp only [Act.put, List.setIfInBounds_toArray, List.set_cons_zero, List.set_cons_succ, i64_w, i32_w]
    rfl
  refine done_ (done_of HT_.out (by kernel_rfl)) ?_
  try go_wp2
  go_ret
  exact ⟨by first | rfl | (simp [errW_none, errW_some] <;> rfl) | (simp [*, errW_none, errW_some] <;> rfl), by repeat (first | (with_reducible first | exact HB.out | apply below_alloc | apply Zw0 | apply Ze0 | refine Zs0 ?_ GE449.out | refine Zs0 ?_ GE450.out | refine Zs0 ?_ GE451.out | refine Zs0 ?_ GE457.out | refine Zs0 ?_ GE462.out | refine Zs0 ?_ GE467.out | refine Zs0 ?_ GE472.out | refine Zs0 ?_ GE477.out) | exact HB.out)⟩

end Go.Proofs.YtakhahfegialfaaDoor.Q
