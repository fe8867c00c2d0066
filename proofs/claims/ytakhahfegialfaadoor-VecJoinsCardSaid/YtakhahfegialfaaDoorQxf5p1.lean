-- Written by this session's own driver (wip/hybrid.py) of the kit's printer; contracts marked FOREIGN are by hand.
import Derived.Test.YtakhahfegialfaaDoorQx0
import Derived.Test.YtakhahfegialfaaDoorQxe24
import Derived.Test.YtakhahfegialfaaDoorQxf12
import Derived.Test.YtakhahfegialfaaDoorQxf14
import Derived.Test.YtakhahfegialfaaDoorQxf22
import Derived.Test.YtakhahfegialfaaDoorQxf20
import Derived.Test.YtakhahfegialfaaDoorQxf10
import Derived.Test.YtakhahfegialfaaDoorQxf11
namespace Go.Proofs.YtakhahfegialfaaDoor.Q
open Go.RowKit Go.Proofs.YtakhahfegialfaaDoorW.PrintWords Go.Proofs.YtakhahfegialfaaDoorW.PrintLast Go.Proofs.YtakhahfegialfaaDoorW.PrintMore
attribute [local go_sem] max2_int min2_int max_two min_two max_three min_three max_four min_four   -- for this text's walks alone
set_option linter.unusedVariables false
set_option linter.unusedSimpArgs false

attribute [local go_sem] ixA24_0 ixA24_1 ixA24_2 ixA24_3   -- for this text's walks alone
attribute [local go_sem high] eqA24
/-! ### tenementlaw06_VecJoins_p1: function 5 -/
theorem Zq1 {p : Prop} (h : p) : Aside0 p := ⟨h⟩
theorem Zn1 {w : World} {g : Nat} {o : Obj} (h : w.heap[g]? = some o) (n : Nat) : (w.drewN n).heap[g]? = some o := h
theorem Zd1 {w : World} {g : Nat} {o : Obj} (h : w.heap[g]? = some o) : w.drew.heap[g]? = some o := h
theorem Za1 {w : World} {g : Nat} {o : Obj} (h : w.heap[g]? = some o) (x : Obj) : (w.alloc x).heap[g]? = some o := blk_alloc h x
theorem Zf1 {w : World} {g : Nat} {t : TypeId} {cs : Array Value} (h : w.heap[g]? = some (.cells cs t (0, 0))) {p : Addr} (hp : g ≠ p.block) (u : Value) : (w.setCell p u).heap[g]? = some (.cells cs t (0, 0)) := blk_far h hp u
theorem Zb1 {w W : World} {g : Nat} {o : Obj} (h : w.heap[g]? = some o) (hb : Below w.heap.size w W) : W.heap[g]? = some o := blk_below h hb
theorem Zw1 {B : Nat} {w W : World} (h : Below B w W) (n : Nat) : Below B w (W.drewN n) := pw_below_drewN h n
theorem Ze1 {B : Nat} {w W : World} (h : Below B w W) : Below B w W.drew := below_drew1 h
theorem Zs1 {w W : World} {g j : Nat} {v : Value} (h : Below w.heap.size w W) (hg : w.heap.size ≤ g) : Below w.heap.size w (W.setCell ⟨g, j, none⟩ v) := below_set h hg
def tenementlaw06_VecJoins_p1.f (k : Nat) (a0_0 : Int) (a0_1 : Int) (a0_2 : Int) (a0_3 : Int) (a0_4 : Bool) (a1_0 : Int) (a1_1 : Int) (a1_2 : Int) (a1_3 : Int) (a1_4 : Bool) (a2_0 : Int) (a2_1 : Int) (a2_2 : Int) (a2_3 : Int) (a2_4 : Bool) : Option (Bool) := (tenementlaw06_examples.f k).bind fun t534 => (if t534 = true then ((tenementlaw06_Vector_vector.f k a0_0 a0_1 a0_2 a0_3 a0_4).bind fun bt535 => ((tenementlaw06_Vector_vector.f k a1_0 a1_1 a1_2 a1_3 a1_4).bind fun bt540 => ((tenementlaw06_Vector_vector.f k a2_0 a2_1 a2_2 a2_3 a2_4).bind fun bt545 => ((vec_Join.f bt535.1 bt535.2.1 bt535.2.2.1 bt535.2.2.2 bt540.1 bt540.2.1 bt540.2.2.1 bt540.2.2.2).bind fun bt550 => ((vec_Meet.f bt535.1 bt535.2.1 bt535.2.2.1 bt535.2.2.2 bt540.1 bt540.2.1 bt540.2.2.1 bt540.2.2.2).bind fun bt555 => ((vec_Join.f bt540.1 bt540.2.1 bt540.2.2.1 bt540.2.2.2 bt535.1 bt535.2.1 bt535.2.2.1 bt535.2.2.2).bind fun bt560 => (if (bt550.1 == bt560.1 && (bt550.2.1 == bt560.2.1 && (bt550.2.2.1 == bt560.2.2.1 && (bt550.2.2.2 == bt560.2.2.2)))) = true then ((vec_Meet.f bt540.1 bt540.2.1 bt540.2.2.1 bt540.2.2.2 bt535.1 bt535.2.1 bt535.2.2.1 bt535.2.2.2).bind fun bt564 => (if (bt555.1 == bt564.1 && (bt555.2.1 == bt564.2.1 && (bt555.2.2.1 == bt564.2.2.1 && (bt555.2.2.2 == bt564.2.2.2)))) = true then ((vec_Join.f bt550.1 bt550.2.1 bt550.2.2.1 bt550.2.2.2 bt545.1 bt545.2.1 bt545.2.2.1 bt545.2.2.2).bind fun bt568 => ((vec_Join.f bt540.1 bt540.2.1 bt540.2.2.1 bt540.2.2.2 bt545.1 bt545.2.1 bt545.2.2.1 bt545.2.2.2).bind fun bt572 => ((vec_Join.f bt535.1 bt535.2.1 bt535.2.2.1 bt535.2.2.2 bt572.1 bt572.2.1 bt572.2.2.1 bt572.2.2.2).bind fun bt576 => (if (bt568.1 == bt576.1 && (bt568.2.1 == bt576.2.1 && (bt568.2.2.1 == bt576.2.2.1 && (bt568.2.2.2 == bt576.2.2.2)))) = true then ((vec_Meet.f bt555.1 bt555.2.1 bt555.2.2.1 bt555.2.2.2 bt545.1 bt545.2.1 bt545.2.2.1 bt545.2.2.2).bind fun bt580 => ((vec_Meet.f bt540.1 bt540.2.1 bt540.2.2.1 bt540.2.2.2 bt545.1 bt545.2.1 bt545.2.2.1 bt545.2.2.2).bind fun bt584 => ((vec_Meet.f bt535.1 bt535.2.1 bt535.2.2.1 bt535.2.2.2 bt584.1 bt584.2.1 bt584.2.2.1 bt584.2.2.2).bind fun bt588 => (if (bt580.1 == bt588.1 && (bt580.2.1 == bt588.2.1 && (bt580.2.2.1 == bt588.2.2.1 && (bt580.2.2.2 == bt588.2.2.2)))) = true then ((vec_Join.f bt550.1 bt550.2.1 bt550.2.2.1 bt550.2.2.2 bt535.1 bt535.2.1 bt535.2.2.1 bt535.2.2.2).bind fun bt592 => (if (bt592.1 == bt550.1 && (bt592.2.1 == bt550.2.1 && (bt592.2.2.1 == bt550.2.2.1 && (bt592.2.2.2 == bt550.2.2.2)))) = true then ((vec_Meet.f bt555.1 bt555.2.1 bt555.2.2.1 bt555.2.2.2 bt535.1 bt535.2.1 bt535.2.2.1 bt535.2.2.2).bind fun bt596 => (if (bt596.1 == bt555.1 && (bt596.2.1 == bt555.2.1 && (bt596.2.2.1 == bt555.2.2.1 && (bt596.2.2.2 == bt555.2.2.2)))) = true then ((vec_Leq.f bt535.1 bt535.2.1 bt535.2.2.1 bt535.2.2.2 bt550.1 bt550.2.1 bt550.2.2.1 bt550.2.2.2).bind fun t600 => (if t600 = true then ((vec_Leq.f bt555.1 bt555.2.1 bt555.2.2.1 bt555.2.2.2 bt540.1 bt540.2.1 bt540.2.2.1 bt540.2.2.2).bind fun t601 => (if t601 = true then ((vec_Join.f bt535.1 bt535.2.1 bt535.2.2.1 bt535.2.2.2 bt555.1 bt555.2.1 bt555.2.2.1 bt555.2.2.2).bind fun bt602 => (if (bt602.1 == bt535.1 && (bt602.2.1 == bt535.2.1 && (bt602.2.2.1 == bt535.2.2.1 && (bt602.2.2.2 == bt535.2.2.2)))) = true then ((vec_Meet.f bt535.1 bt535.2.1 bt535.2.2.1 bt535.2.2.2 bt550.1 bt550.2.1 bt550.2.2.1 bt550.2.2.2).bind fun bt606 => (if (bt606.1 == bt535.1 && (bt606.2.1 == bt535.2.1 && (bt606.2.2.1 == bt535.2.2.1 && (bt606.2.2.2 == bt535.2.2.2)))) = true then ((vec_Right.f bt535.1 bt535.2.1 bt535.2.2.1 bt535.2.2.2).bind fun t610 => (if t610 = true then ((vec_Right.f bt540.1 bt540.2.1 bt540.2.2.1 bt540.2.2.2).bind fun t611 => (if t611 = true then (none) else (some true))) else (none))) else (none))) else (none))) else (none))) else (none))) else (none))) else (none))) else (none))))) else (none))))) else (none))) else (none)))))))) else (none))
theorem tenementlaw06_VecJoins_p1.mono : ∀ a0 a1 a2 a3 a4 a5 a6 a7 a8 a9 a10 a11 a12 a13 a14 k, LeO (tenementlaw06_VecJoins_p1.f k a0 a1 a2 a3 a4 a5 a6 a7 a8 a9 a10 a11 a12 a13 a14) (tenementlaw06_VecJoins_p1.f (k + 1) a0 a1 a2 a3 a4 a5 a6 a7 a8 a9 a10 a11 a12 a13 a14) := by
  intro a0 a1 a2 a3 a4 a5 a6 a7 a8 a9 a10 a11 a12 a13 a14 k
  unfold tenementlaw06_VecJoins_p1.f
  repeat' first
      | (with_reducible exact tenementlaw06_Vector_vector.mono _ _ _ _ _ _)
      | (with_reducible exact tenementlaw06_examples.mono _)
      | (with_reducible exact LeO.refl _)
      | (with_reducible exact LeO.none _)
      | (with_reducible refine LeO.ite ?_ ?_)
      | (with_reducible refine LeO.bind ?_ (fun _ => ?_))
      | exact tenementlaw06_Vector_vector.mono _ _ _ _ _ _
      | exact tenementlaw06_examples.mono _
      | exact LeO.none _
      | refine LeO.ite ?_ ?_
      | refine LeO.bind ?_ (fun _ => ?_)
def tenementlaw06_VecJoins_p1.T9 : Bool × List (List Nat × List Nat) := (true, [([], []), ([0], [0]), ([1], [1]), ([1], [1]), ([1], [1]), ([3, 4, 1, 1], [1, 3, 4]), ([2, 5, 1], [1, 2, 5]), ([1, 6], [1, 6]), ([7, 5], [7]), ([8], [8]), ([8], [8]), ([8], [8]), ([10, 11, 8, 8], [8, 10, 11]), ([9, 12, 8], [8, 9, 12]), ([8, 13], [8, 13]), ([14, 12], [14]), ([15], [15]), ([15], [15]), ([16, 17, 15, 15], [15, 16, 17]), ([15], [15]), ([15], [15]), ([15], [15]), ([20, 21, 18, 15], [15, 20, 21]), ([19, 22, 22, 15], [15, 19, 22]), ([18, 23, 15], [15, 18, 23]), ([15, 24], [15, 24]), ([25, 23], [25]), ([26], [26]), ([26], [26]), ([27, 28, 26, 26], [26, 27, 28]), ([26], [26]), ([26], [26]), ([26], [26]), ([31, 32, 29, 26], [26, 31, 32]), ([30, 33, 33, 26], [26, 30, 33]), ([29, 34, 26], [26, 29, 34]), ([26, 35], [26, 35]), ([36, 34], [36]), ([37], [37]), ([37], [37]), ([38, 39, 37, 37], [37, 38, 39]), ([37], [37]), ([40, 41, 37], [37, 40, 41]), ([37, 42], [37, 42]), ([43, 40], [43]), ([44], [44]), ([44], [44]), ([45, 46, 44, 44], [44, 45, 46]), ([44], [44]), ([47, 48, 44], [44, 47, 48]), ([44, 49], [44, 49]), ([50, 47], [50]), ([51], [51]), ([51], [51]), ([52, 53, 51, 51], [51, 52, 53]), ([51, 54], [51, 54]), ([55, 54], [55]), ([56], [56]), ([56], [56]), ([57, 58, 56, 56], [56, 57, 58]), ([56, 59], [56, 59]), ([60, 59], [60]), ([61], [61]), ([61], [61]), ([62, 63, 61, 61], [61, 62, 63]), ([61], [61]), ([64, 65, 61], [61, 64, 65]), ([61, 66], [61, 66]), ([67, 64], [67]), ([68], [68]), ([68], [68]), ([69, 70, 68, 68], [68, 69, 70]), ([68], [68]), ([71, 72, 68], [68, 71, 72]), ([68, 73], [68, 73]), ([74, 71], [74]), ([75], [75]), ([76, 75, 75], [75, 76]), ([77, 75], [75, 77]), ([78, 77, 75], [75, 78]), ([79], [79]), ([80, 79, 79], [79, 80]), ([81, 79], [79, 81]), ([79, 82, 75], [75, 79, 82]), ([83, 81, 75], [75, 83]), ([84], [84]), ([85, 84, 84], [84, 85]), ([84, 86, 75], [75, 84, 86]), ([75, 87], [75, 87]), ([88, 86, 0, 1, 2, 3, 4, 5, 6, 7, 8, 9, 10, 11, 12, 13, 14, 15, 16, 17, 18, 19, 20, 21, 22, 23, 24, 25, 26, 27, 28, 29, 30, 31, 32, 33, 34, 35, 36, 37, 38, 39, 40, 41, 42, 43, 44, 45, 46, 47, 48, 49, 50, 51, 52, 53, 54, 55, 56, 57, 58, 59, 60, 61, 62, 63, 64, 65, 66, 67, 68, 69, 70, 71, 72, 73, 74, 75, 76, 77, 78, 79, 80, 81, 82, 83, 84, 85, 86, 87, 88], [88])])
def tenementlaw06_VecJoins_p1.B9 : List Nat := [0, 1, 3, 3, 3, 27, 63, 127, 255, 511, 511, 511, 3583, 8191, 16383, 32767, 65535, 65535, 262143, 65535, 65535, 65535, 3670015, 8388607, 16777215, 33554431, 67108863, 134217727, 134217727, 536870911, 134217727, 134217727, 134217727, 7516192767, 17179869183, 34359738367, 68719476735, 137438953471, 274877906943, 274877906943, 1099511627775, 274877906943, 4398046511103, 8796093022207, 17592186044415, 35184372088831, 35184372088831, 140737488355327, 35184372088831, 562949953421311, 1125899906842623, 2251799813685247, 4503599627370495, 4503599627370495, 18014398509481983, 36028797018963967, 72057594037927935, 144115188075855871, 144115188075855871, 576460752303423487, 1152921504606846975, 2305843009213693951, 4611686018427387903, 4611686018427387903, 18446744073709551615, 4611686018427387903, 73786976294838206463, 147573952589676412927, 295147905179352825855, 590295810358705651711, 590295810358705651711, 2361183241434822606847, 590295810358705651711, 9444732965739290427391, 18889465931478580854783, 37778931862957161709567, 75557863725914323419135, 151115727451828646838271, 302231454903657293676543, 604462909807314587353087, 1208925819614629174706175, 2417851639229258349412351, 4835703278458516698824703, 9671406556917033397649407, 19342813113834066795298815, 38685626227668133590597631, 77371252455336267181195263, 154742504910672534362390527, 309485009821345068724781055, 618970019642690137449562111]
theorem tenementlaw06_VecJoins_p1.tab9 : rtab .any (opsOf Tryd.f5 9) = tenementlaw06_VecJoins_p1.T9 := by kernel_rfl
theorem tenementlaw06_VecJoins_p1.bits9 : waitsOk tenementlaw06_VecJoins_p1.T9.2 tenementlaw06_VecJoins_p1.B9 = true := by kernel_rfl
set_option maxHeartbeats 8000000 in
set_option maxRecDepth 100000 in
theorem tenementlaw06_VecJoins_p1.calls (k : Nat) (a0_0 : Int) (a0_1 : Int) (a0_2 : Int) (a0_3 : Int) (a0_4 : Bool) (a1_0 : Int) (a1_1 : Int) (a1_2 : Int) (a1_3 : Int) (a1_4 : Bool) (a2_0 : Int) (a2_1 : Int) (a2_2 : Int) (a2_3 : Int) (a2_4 : Bool) (r : Bool) (w : World) (h : tenementlaw06_VecJoins_p1.f k a0_0 a0_1 a0_2 a0_3 a0_4 a1_0 a1_1 a1_2 a1_3 a1_4 a2_0 a2_1 a2_2 a2_3 a2_4 = some r) :
    Calls Tryd.prog 5 #[.agg #[.int .u64 a0_0, .int .u64 a0_1, .int .u64 a0_2, .int .u64 a0_3, .bool a0_4], .agg #[.int .u64 a1_0, .int .u64 a1_1, .int .u64 a1_2, .int .u64 a1_3, .bool a1_4], .agg #[.int .u64 a2_0, .int .u64 a2_1, .int .u64 a2_2, .int .u64 a2_3, .bool a2_4]] w fun e w' => e = .returned (.bool r) ∧ Below w.heap.size w w' := by
  have hu26 := Tryd.underlying26
  have hu24 := Tryd.underlying24
  have HB := Zq1 (Below.refl w.heap.size w)
  have H : ((tenementlaw06_examples.f k).bind fun t534 => (if t534 = true then ((tenementlaw06_Vector_vector.f k a0_0 a0_1 a0_2 a0_3 a0_4).bind fun bt535 => ((tenementlaw06_Vector_vector.f k a1_0 a1_1 a1_2 a1_3 a1_4).bind fun bt540 => ((tenementlaw06_Vector_vector.f k a2_0 a2_1 a2_2 a2_3 a2_4).bind fun bt545 => ((vec_Join.f bt535.1 bt535.2.1 bt535.2.2.1 bt535.2.2.2 bt540.1 bt540.2.1 bt540.2.2.1 bt540.2.2.2).bind fun bt550 => ((vec_Meet.f bt535.1 bt535.2.1 bt535.2.2.1 bt535.2.2.2 bt540.1 bt540.2.1 bt540.2.2.1 bt540.2.2.2).bind fun bt555 => ((vec_Join.f bt540.1 bt540.2.1 bt540.2.2.1 bt540.2.2.2 bt535.1 bt535.2.1 bt535.2.2.1 bt535.2.2.2).bind fun bt560 => (if (bt550.1 == bt560.1 && (bt550.2.1 == bt560.2.1 && (bt550.2.2.1 == bt560.2.2.1 && (bt550.2.2.2 == bt560.2.2.2)))) = true then ((vec_Meet.f bt540.1 bt540.2.1 bt540.2.2.1 bt540.2.2.2 bt535.1 bt535.2.1 bt535.2.2.1 bt535.2.2.2).bind fun bt564 => (if (bt555.1 == bt564.1 && (bt555.2.1 == bt564.2.1 && (bt555.2.2.1 == bt564.2.2.1 && (bt555.2.2.2 == bt564.2.2.2)))) = true then ((vec_Join.f bt550.1 bt550.2.1 bt550.2.2.1 bt550.2.2.2 bt545.1 bt545.2.1 bt545.2.2.1 bt545.2.2.2).bind fun bt568 => ((vec_Join.f bt540.1 bt540.2.1 bt540.2.2.1 bt540.2.2.2 bt545.1 bt545.2.1 bt545.2.2.1 bt545.2.2.2).bind fun bt572 => ((vec_Join.f bt535.1 bt535.2.1 bt535.2.2.1 bt535.2.2.2 bt572.1 bt572.2.1 bt572.2.2.1 bt572.2.2.2).bind fun bt576 => (if (bt568.1 == bt576.1 && (bt568.2.1 == bt576.2.1 && (bt568.2.2.1 == bt576.2.2.1 && (bt568.2.2.2 == bt576.2.2.2)))) = true then ((vec_Meet.f bt555.1 bt555.2.1 bt555.2.2.1 bt555.2.2.2 bt545.1 bt545.2.1 bt545.2.2.1 bt545.2.2.2).bind fun bt580 => ((vec_Meet.f bt540.1 bt540.2.1 bt540.2.2.1 bt540.2.2.2 bt545.1 bt545.2.1 bt545.2.2.1 bt545.2.2.2).bind fun bt584 => ((vec_Meet.f bt535.1 bt535.2.1 bt535.2.2.1 bt535.2.2.2 bt584.1 bt584.2.1 bt584.2.2.1 bt584.2.2.2).bind fun bt588 => (if (bt580.1 == bt588.1 && (bt580.2.1 == bt588.2.1 && (bt580.2.2.1 == bt588.2.2.1 && (bt580.2.2.2 == bt588.2.2.2)))) = true then ((vec_Join.f bt550.1 bt550.2.1 bt550.2.2.1 bt550.2.2.2 bt535.1 bt535.2.1 bt535.2.2.1 bt535.2.2.2).bind fun bt592 => (if (bt592.1 == bt550.1 && (bt592.2.1 == bt550.2.1 && (bt592.2.2.1 == bt550.2.2.1 && (bt592.2.2.2 == bt550.2.2.2)))) = true then ((vec_Meet.f bt555.1 bt555.2.1 bt555.2.2.1 bt555.2.2.2 bt535.1 bt535.2.1 bt535.2.2.1 bt535.2.2.2).bind fun bt596 => (if (bt596.1 == bt555.1 && (bt596.2.1 == bt555.2.1 && (bt596.2.2.1 == bt555.2.2.1 && (bt596.2.2.2 == bt555.2.2.2)))) = true then ((vec_Leq.f bt535.1 bt535.2.1 bt535.2.2.1 bt535.2.2.2 bt550.1 bt550.2.1 bt550.2.2.1 bt550.2.2.2).bind fun t600 => (if t600 = true then ((vec_Leq.f bt555.1 bt555.2.1 bt555.2.2.1 bt555.2.2.2 bt540.1 bt540.2.1 bt540.2.2.1 bt540.2.2.2).bind fun t601 => (if t601 = true then ((vec_Join.f bt535.1 bt535.2.1 bt535.2.2.1 bt535.2.2.2 bt555.1 bt555.2.1 bt555.2.2.1 bt555.2.2.2).bind fun bt602 => (if (bt602.1 == bt535.1 && (bt602.2.1 == bt535.2.1 && (bt602.2.2.1 == bt535.2.2.1 && (bt602.2.2.2 == bt535.2.2.2)))) = true then ((vec_Meet.f bt535.1 bt535.2.1 bt535.2.2.1 bt535.2.2.2 bt550.1 bt550.2.1 bt550.2.2.1 bt550.2.2.2).bind fun bt606 => (if (bt606.1 == bt535.1 && (bt606.2.1 == bt535.2.1 && (bt606.2.2.1 == bt535.2.2.1 && (bt606.2.2.2 == bt535.2.2.2)))) = true then ((vec_Right.f bt535.1 bt535.2.1 bt535.2.2.1 bt535.2.2.2).bind fun t610 => (if t610 = true then ((vec_Right.f bt540.1 bt540.2.1 bt540.2.2.1 bt540.2.2.2).bind fun t611 => (if t611 = true then (none) else (some true))) else (none))) else (none))) else (none))) else (none))) else (none))) else (none))) else (none))) else (none))))) else (none))))) else (none))) else (none)))))))) else (none))) = some r := h
  clear h
  replace H := Option.bind_eq_some_iff.mp H
  obtain ⟨t534, A40, H⟩ := H
  replace H : (if t534 = true then ((tenementlaw06_Vector_vector.f k a0_0 a0_1 a0_2 a0_3 a0_4).bind fun bt535 => ((tenementlaw06_Vector_vector.f k a1_0 a1_1 a1_2 a1_3 a1_4).bind fun bt540 => ((tenementlaw06_Vector_vector.f k a2_0 a2_1 a2_2 a2_3 a2_4).bind fun bt545 => ((vec_Join.f bt535.1 bt535.2.1 bt535.2.2.1 bt535.2.2.2 bt540.1 bt540.2.1 bt540.2.2.1 bt540.2.2.2).bind fun bt550 => ((vec_Meet.f bt535.1 bt535.2.1 bt535.2.2.1 bt535.2.2.2 bt540.1 bt540.2.1 bt540.2.2.1 bt540.2.2.2).bind fun bt555 => ((vec_Join.f bt540.1 bt540.2.1 bt540.2.2.1 bt540.2.2.2 bt535.1 bt535.2.1 bt535.2.2.1 bt535.2.2.2).bind fun bt560 => (if (bt550.1 == bt560.1 && (bt550.2.1 == bt560.2.1 && (bt550.2.2.1 == bt560.2.2.1 && (bt550.2.2.2 == bt560.2.2.2)))) = true then ((vec_Meet.f bt540.1 bt540.2.1 bt540.2.2.1 bt540.2.2.2 bt535.1 bt535.2.1 bt535.2.2.1 bt535.2.2.2).bind fun bt564 => (if (bt555.1 == bt564.1 && (bt555.2.1 == bt564.2.1 && (bt555.2.2.1 == bt564.2.2.1 && (bt555.2.2.2 == bt564.2.2.2)))) = true then ((vec_Join.f bt550.1 bt550.2.1 bt550.2.2.1 bt550.2.2.2 bt545.1 bt545.2.1 bt545.2.2.1 bt545.2.2.2).bind fun bt568 => ((vec_Join.f bt540.1 bt540.2.1 bt540.2.2.1 bt540.2.2.2 bt545.1 bt545.2.1 bt545.2.2.1 bt545.2.2.2).bind fun bt572 => ((vec_Join.f bt535.1 bt535.2.1 bt535.2.2.1 bt535.2.2.2 bt572.1 bt572.2.1 bt572.2.2.1 bt572.2.2.2).bind fun bt576 => (if (bt568.1 == bt576.1 && (bt568.2.1 == bt576.2.1 && (bt568.2.2.1 == bt576.2.2.1 && (bt568.2.2.2 == bt576.2.2.2)))) = true then ((vec_Meet.f bt555.1 bt555.2.1 bt555.2.2.1 bt555.2.2.2 bt545.1 bt545.2.1 bt545.2.2.1 bt545.2.2.2).bind fun bt580 => ((vec_Meet.f bt540.1 bt540.2.1 bt540.2.2.1 bt540.2.2.2 bt545.1 bt545.2.1 bt545.2.2.1 bt545.2.2.2).bind fun bt584 => ((vec_Meet.f bt535.1 bt535.2.1 bt535.2.2.1 bt535.2.2.2 bt584.1 bt584.2.1 bt584.2.2.1 bt584.2.2.2).bind fun bt588 => (if (bt580.1 == bt588.1 && (bt580.2.1 == bt588.2.1 && (bt580.2.2.1 == bt588.2.2.1 && (bt580.2.2.2 == bt588.2.2.2)))) = true then ((vec_Join.f bt550.1 bt550.2.1 bt550.2.2.1 bt550.2.2.2 bt535.1 bt535.2.1 bt535.2.2.1 bt535.2.2.2).bind fun bt592 => (if (bt592.1 == bt550.1 && (bt592.2.1 == bt550.2.1 && (bt592.2.2.1 == bt550.2.2.1 && (bt592.2.2.2 == bt550.2.2.2)))) = true then ((vec_Meet.f bt555.1 bt555.2.1 bt555.2.2.1 bt555.2.2.2 bt535.1 bt535.2.1 bt535.2.2.1 bt535.2.2.2).bind fun bt596 => (if (bt596.1 == bt555.1 && (bt596.2.1 == bt555.2.1 && (bt596.2.2.1 == bt555.2.2.1 && (bt596.2.2.2 == bt555.2.2.2)))) = true then ((vec_Leq.f bt535.1 bt535.2.1 bt535.2.2.1 bt535.2.2.2 bt550.1 bt550.2.1 bt550.2.2.1 bt550.2.2.2).bind fun t600 => (if t600 = true then ((vec_Leq.f bt555.1 bt555.2.1 bt555.2.2.1 bt555.2.2.2 bt540.1 bt540.2.1 bt540.2.2.1 bt540.2.2.2).bind fun t601 => (if t601 = true then ((vec_Join.f bt535.1 bt535.2.1 bt535.2.2.1 bt535.2.2.2 bt555.1 bt555.2.1 bt555.2.2.1 bt555.2.2.2).bind fun bt602 => (if (bt602.1 == bt535.1 && (bt602.2.1 == bt535.2.1 && (bt602.2.2.1 == bt535.2.2.1 && (bt602.2.2.2 == bt535.2.2.2)))) = true then ((vec_Meet.f bt535.1 bt535.2.1 bt535.2.2.1 bt535.2.2.2 bt550.1 bt550.2.1 bt550.2.2.1 bt550.2.2.2).bind fun bt606 => (if (bt606.1 == bt535.1 && (bt606.2.1 == bt535.2.1 && (bt606.2.2.1 == bt535.2.2.1 && (bt606.2.2.2 == bt535.2.2.2)))) = true then ((vec_Right.f bt535.1 bt535.2.1 bt535.2.2.1 bt535.2.2.2).bind fun t610 => (if t610 = true then ((vec_Right.f bt540.1 bt540.2.1 bt540.2.2.1 bt540.2.2.2).bind fun t611 => (if t611 = true then (none) else (some true))) else (none))) else (none))) else (none))) else (none))) else (none))) else (none))) else (none))) else (none))))) else (none))))) else (none))) else (none)))))))) else (none)) = some r := H
  have A4 := Zq1 A40
  clear A40
  by_cases c5 : t534 = true
  rotate_left
  · replace c5 := Bool.eq_false_iff.mpr c5
    subst c5
    have H1 : (none) = some r := by rw [if_neg (show ¬ (false = true) by decide)] at H; exact H
    clear H
    have H := H1
    clear H1
    exact absurd H (by simp)
  subst c5
  have H1 : ((tenementlaw06_Vector_vector.f k a0_0 a0_1 a0_2 a0_3 a0_4).bind fun bt535 => ((tenementlaw06_Vector_vector.f k a1_0 a1_1 a1_2 a1_3 a1_4).bind fun bt540 => ((tenementlaw06_Vector_vector.f k a2_0 a2_1 a2_2 a2_3 a2_4).bind fun bt545 => ((vec_Join.f bt535.1 bt535.2.1 bt535.2.2.1 bt535.2.2.2 bt540.1 bt540.2.1 bt540.2.2.1 bt540.2.2.2).bind fun bt550 => ((vec_Meet.f bt535.1 bt535.2.1 bt535.2.2.1 bt535.2.2.2 bt540.1 bt540.2.1 bt540.2.2.1 bt540.2.2.2).bind fun bt555 => ((vec_Join.f bt540.1 bt540.2.1 bt540.2.2.1 bt540.2.2.2 bt535.1 bt535.2.1 bt535.2.2.1 bt535.2.2.2).bind fun bt560 => (if (bt550.1 == bt560.1 && (bt550.2.1 == bt560.2.1 && (bt550.2.2.1 == bt560.2.2.1 && (bt550.2.2.2 == bt560.2.2.2)))) = true then ((vec_Meet.f bt540.1 bt540.2.1 bt540.2.2.1 bt540.2.2.2 bt535.1 bt535.2.1 bt535.2.2.1 bt535.2.2.2).bind fun bt564 => (if (bt555.1 == bt564.1 && (bt555.2.1 == bt564.2.1 && (bt555.2.2.1 == bt564.2.2.1 && (bt555.2.2.2 == bt564.2.2.2)))) = true then ((vec_Join.f bt550.1 bt550.2.1 bt550.2.2.1 bt550.2.2.2 bt545.1 bt545.2.1 bt545.2.2.1 bt545.2.2.2).bind fun bt568 => ((vec_Join.f bt540.1 bt540.2.1 bt540.2.2.1 bt540.2.2.2 bt545.1 bt545.2.1 bt545.2.2.1 bt545.2.2.2).bind fun bt572 => ((vec_Join.f bt535.1 bt535.2.1 bt535.2.2.1 bt535.2.2.2 bt572.1 bt572.2.1 bt572.2.2.1 bt572.2.2.2).bind fun bt576 => (if (bt568.1 == bt576.1 && (bt568.2.1 == bt576.2.1 && (bt568.2.2.1 == bt576.2.2.1 && (bt568.2.2.2 == bt576.2.2.2)))) = true then ((vec_Meet.f bt555.1 bt555.2.1 bt555.2.2.1 bt555.2.2.2 bt545.1 bt545.2.1 bt545.2.2.1 bt545.2.2.2).bind fun bt580 => ((vec_Meet.f bt540.1 bt540.2.1 bt540.2.2.1 bt540.2.2.2 bt545.1 bt545.2.1 bt545.2.2.1 bt545.2.2.2).bind fun bt584 => ((vec_Meet.f bt535.1 bt535.2.1 bt535.2.2.1 bt535.2.2.2 bt584.1 bt584.2.1 bt584.2.2.1 bt584.2.2.2).bind fun bt588 => (if (bt580.1 == bt588.1 && (bt580.2.1 == bt588.2.1 && (bt580.2.2.1 == bt588.2.2.1 && (bt580.2.2.2 == bt588.2.2.2)))) = true then ((vec_Join.f bt550.1 bt550.2.1 bt550.2.2.1 bt550.2.2.2 bt535.1 bt535.2.1 bt535.2.2.1 bt535.2.2.2).bind fun bt592 => (if (bt592.1 == bt550.1 && (bt592.2.1 == bt550.2.1 && (bt592.2.2.1 == bt550.2.2.1 && (bt592.2.2.2 == bt550.2.2.2)))) = true then ((vec_Meet.f bt555.1 bt555.2.1 bt555.2.2.1 bt555.2.2.2 bt535.1 bt535.2.1 bt535.2.2.1 bt535.2.2.2).bind fun bt596 => (if (bt596.1 == bt555.1 && (bt596.2.1 == bt555.2.1 && (bt596.2.2.1 == bt555.2.2.1 && (bt596.2.2.2 == bt555.2.2.2)))) = true then ((vec_Leq.f bt535.1 bt535.2.1 bt535.2.2.1 bt535.2.2.2 bt550.1 bt550.2.1 bt550.2.2.1 bt550.2.2.2).bind fun t600 => (if t600 = true then ((vec_Leq.f bt555.1 bt555.2.1 bt555.2.2.1 bt555.2.2.2 bt540.1 bt540.2.1 bt540.2.2.1 bt540.2.2.2).bind fun t601 => (if t601 = true then ((vec_Join.f bt535.1 bt535.2.1 bt535.2.2.1 bt535.2.2.2 bt555.1 bt555.2.1 bt555.2.2.1 bt555.2.2.2).bind fun bt602 => (if (bt602.1 == bt535.1 && (bt602.2.1 == bt535.2.1 && (bt602.2.2.1 == bt535.2.2.1 && (bt602.2.2.2 == bt535.2.2.2)))) = true then ((vec_Meet.f bt535.1 bt535.2.1 bt535.2.2.1 bt535.2.2.2 bt550.1 bt550.2.1 bt550.2.2.1 bt550.2.2.2).bind fun bt606 => (if (bt606.1 == bt535.1 && (bt606.2.1 == bt535.2.1 && (bt606.2.2.1 == bt535.2.2.1 && (bt606.2.2.2 == bt535.2.2.2)))) = true then ((vec_Right.f bt535.1 bt535.2.1 bt535.2.2.1 bt535.2.2.2).bind fun t610 => (if t610 = true then ((vec_Right.f bt540.1 bt540.2.1 bt540.2.2.1 bt540.2.2.2).bind fun t611 => (if t611 = true then (none) else (some true))) else (none))) else (none))) else (none))) else (none))) else (none))) else (none))) else (none))) else (none))))) else (none))))) else (none))) else (none)))))))) = some r := by rw [if_pos rfl] at H; exact H
  clear H
  have H := H1
  clear H1
  replace H := Option.bind_eq_some_iff.mp H
  obtain ⟨⟨t535, t536, t537, t538⟩, A60, H⟩ := H
  replace H : ((tenementlaw06_Vector_vector.f k a1_0 a1_1 a1_2 a1_3 a1_4).bind fun bt540 => ((tenementlaw06_Vector_vector.f k a2_0 a2_1 a2_2 a2_3 a2_4).bind fun bt545 => ((vec_Join.f t535 t536 t537 t538 bt540.1 bt540.2.1 bt540.2.2.1 bt540.2.2.2).bind fun bt550 => ((vec_Meet.f t535 t536 t537 t538 bt540.1 bt540.2.1 bt540.2.2.1 bt540.2.2.2).bind fun bt555 => ((vec_Join.f bt540.1 bt540.2.1 bt540.2.2.1 bt540.2.2.2 t535 t536 t537 t538).bind fun bt560 => (if (bt550.1 == bt560.1 && (bt550.2.1 == bt560.2.1 && (bt550.2.2.1 == bt560.2.2.1 && (bt550.2.2.2 == bt560.2.2.2)))) = true then ((vec_Meet.f bt540.1 bt540.2.1 bt540.2.2.1 bt540.2.2.2 t535 t536 t537 t538).bind fun bt564 => (if (bt555.1 == bt564.1 && (bt555.2.1 == bt564.2.1 && (bt555.2.2.1 == bt564.2.2.1 && (bt555.2.2.2 == bt564.2.2.2)))) = true then ((vec_Join.f bt550.1 bt550.2.1 bt550.2.2.1 bt550.2.2.2 bt545.1 bt545.2.1 bt545.2.2.1 bt545.2.2.2).bind fun bt568 => ((vec_Join.f bt540.1 bt540.2.1 bt540.2.2.1 bt540.2.2.2 bt545.1 bt545.2.1 bt545.2.2.1 bt545.2.2.2).bind fun bt572 => ((vec_Join.f t535 t536 t537 t538 bt572.1 bt572.2.1 bt572.2.2.1 bt572.2.2.2).bind fun bt576 => (if (bt568.1 == bt576.1 && (bt568.2.1 == bt576.2.1 && (bt568.2.2.1 == bt576.2.2.1 && (bt568.2.2.2 == bt576.2.2.2)))) = true then ((vec_Meet.f bt555.1 bt555.2.1 bt555.2.2.1 bt555.2.2.2 bt545.1 bt545.2.1 bt545.2.2.1 bt545.2.2.2).bind fun bt580 => ((vec_Meet.f bt540.1 bt540.2.1 bt540.2.2.1 bt540.2.2.2 bt545.1 bt545.2.1 bt545.2.2.1 bt545.2.2.2).bind fun bt584 => ((vec_Meet.f t535 t536 t537 t538 bt584.1 bt584.2.1 bt584.2.2.1 bt584.2.2.2).bind fun bt588 => (if (bt580.1 == bt588.1 && (bt580.2.1 == bt588.2.1 && (bt580.2.2.1 == bt588.2.2.1 && (bt580.2.2.2 == bt588.2.2.2)))) = true then ((vec_Join.f bt550.1 bt550.2.1 bt550.2.2.1 bt550.2.2.2 t535 t536 t537 t538).bind fun bt592 => (if (bt592.1 == bt550.1 && (bt592.2.1 == bt550.2.1 && (bt592.2.2.1 == bt550.2.2.1 && (bt592.2.2.2 == bt550.2.2.2)))) = true then ((vec_Meet.f bt555.1 bt555.2.1 bt555.2.2.1 bt555.2.2.2 t535 t536 t537 t538).bind fun bt596 => (if (bt596.1 == bt555.1 && (bt596.2.1 == bt555.2.1 && (bt596.2.2.1 == bt555.2.2.1 && (bt596.2.2.2 == bt555.2.2.2)))) = true then ((vec_Leq.f t535 t536 t537 t538 bt550.1 bt550.2.1 bt550.2.2.1 bt550.2.2.2).bind fun t600 => (if t600 = true then ((vec_Leq.f bt555.1 bt555.2.1 bt555.2.2.1 bt555.2.2.2 bt540.1 bt540.2.1 bt540.2.2.1 bt540.2.2.2).bind fun t601 => (if t601 = true then ((vec_Join.f t535 t536 t537 t538 bt555.1 bt555.2.1 bt555.2.2.1 bt555.2.2.2).bind fun bt602 => (if (bt602.1 == t535 && (bt602.2.1 == t536 && (bt602.2.2.1 == t537 && (bt602.2.2.2 == t538)))) = true then ((vec_Meet.f t535 t536 t537 t538 bt550.1 bt550.2.1 bt550.2.2.1 bt550.2.2.2).bind fun bt606 => (if (bt606.1 == t535 && (bt606.2.1 == t536 && (bt606.2.2.1 == t537 && (bt606.2.2.2 == t538)))) = true then ((vec_Right.f t535 t536 t537 t538).bind fun t610 => (if t610 = true then ((vec_Right.f bt540.1 bt540.2.1 bt540.2.2.1 bt540.2.2.2).bind fun t611 => (if t611 = true then (none) else (some true))) else (none))) else (none))) else (none))) else (none))) else (none))) else (none))) else (none))) else (none))))) else (none))))) else (none))) else (none))))))) = some r := H
  have A6 := Zq1 A60
  clear A60
  replace H := Option.bind_eq_some_iff.mp H
  obtain ⟨⟨t540, t541, t542, t543⟩, A70, H⟩ := H
  replace H : ((tenementlaw06_Vector_vector.f k a2_0 a2_1 a2_2 a2_3 a2_4).bind fun bt545 => ((vec_Join.f t535 t536 t537 t538 t540 t541 t542 t543).bind fun bt550 => ((vec_Meet.f t535 t536 t537 t538 t540 t541 t542 t543).bind fun bt555 => ((vec_Join.f t540 t541 t542 t543 t535 t536 t537 t538).bind fun bt560 => (if (bt550.1 == bt560.1 && (bt550.2.1 == bt560.2.1 && (bt550.2.2.1 == bt560.2.2.1 && (bt550.2.2.2 == bt560.2.2.2)))) = true then ((vec_Meet.f t540 t541 t542 t543 t535 t536 t537 t538).bind fun bt564 => (if (bt555.1 == bt564.1 && (bt555.2.1 == bt564.2.1 && (bt555.2.2.1 == bt564.2.2.1 && (bt555.2.2.2 == bt564.2.2.2)))) = true then ((vec_Join.f bt550.1 bt550.2.1 bt550.2.2.1 bt550.2.2.2 bt545.1 bt545.2.1 bt545.2.2.1 bt545.2.2.2).bind fun bt568 => ((vec_Join.f t540 t541 t542 t543 bt545.1 bt545.2.1 bt545.2.2.1 bt545.2.2.2).bind fun bt572 => ((vec_Join.f t535 t536 t537 t538 bt572.1 bt572.2.1 bt572.2.2.1 bt572.2.2.2).bind fun bt576 => (if (bt568.1 == bt576.1 && (bt568.2.1 == bt576.2.1 && (bt568.2.2.1 == bt576.2.2.1 && (bt568.2.2.2 == bt576.2.2.2)))) = true then ((vec_Meet.f bt555.1 bt555.2.1 bt555.2.2.1 bt555.2.2.2 bt545.1 bt545.2.1 bt545.2.2.1 bt545.2.2.2).bind fun bt580 => ((vec_Meet.f t540 t541 t542 t543 bt545.1 bt545.2.1 bt545.2.2.1 bt545.2.2.2).bind fun bt584 => ((vec_Meet.f t535 t536 t537 t538 bt584.1 bt584.2.1 bt584.2.2.1 bt584.2.2.2).bind fun bt588 => (if (bt580.1 == bt588.1 && (bt580.2.1 == bt588.2.1 && (bt580.2.2.1 == bt588.2.2.1 && (bt580.2.2.2 == bt588.2.2.2)))) = true then ((vec_Join.f bt550.1 bt550.2.1 bt550.2.2.1 bt550.2.2.2 t535 t536 t537 t538).bind fun bt592 => (if (bt592.1 == bt550.1 && (bt592.2.1 == bt550.2.1 && (bt592.2.2.1 == bt550.2.2.1 && (bt592.2.2.2 == bt550.2.2.2)))) = true then ((vec_Meet.f bt555.1 bt555.2.1 bt555.2.2.1 bt555.2.2.2 t535 t536 t537 t538).bind fun bt596 => (if (bt596.1 == bt555.1 && (bt596.2.1 == bt555.2.1 && (bt596.2.2.1 == bt555.2.2.1 && (bt596.2.2.2 == bt555.2.2.2)))) = true then ((vec_Leq.f t535 t536 t537 t538 bt550.1 bt550.2.1 bt550.2.2.1 bt550.2.2.2).bind fun t600 => (if t600 = true then ((vec_Leq.f bt555.1 bt555.2.1 bt555.2.2.1 bt555.2.2.2 t540 t541 t542 t543).bind fun t601 => (if t601 = true then ((vec_Join.f t535 t536 t537 t538 bt555.1 bt555.2.1 bt555.2.2.1 bt555.2.2.2).bind fun bt602 => (if (bt602.1 == t535 && (bt602.2.1 == t536 && (bt602.2.2.1 == t537 && (bt602.2.2.2 == t538)))) = true then ((vec_Meet.f t535 t536 t537 t538 bt550.1 bt550.2.1 bt550.2.2.1 bt550.2.2.2).bind fun bt606 => (if (bt606.1 == t535 && (bt606.2.1 == t536 && (bt606.2.2.1 == t537 && (bt606.2.2.2 == t538)))) = true then ((vec_Right.f t535 t536 t537 t538).bind fun t610 => (if t610 = true then ((vec_Right.f t540 t541 t542 t543).bind fun t611 => (if t611 = true then (none) else (some true))) else (none))) else (none))) else (none))) else (none))) else (none))) else (none))) else (none))) else (none))))) else (none))))) else (none))) else (none)))))) = some r := H
  have A7 := Zq1 A70
  clear A70
  replace H := Option.bind_eq_some_iff.mp H
  obtain ⟨⟨t545, t546, t547, t548⟩, A80, H⟩ := H
  replace H : ((vec_Join.f t535 t536 t537 t538 t540 t541 t542 t543).bind fun bt550 => ((vec_Meet.f t535 t536 t537 t538 t540 t541 t542 t543).bind fun bt555 => ((vec_Join.f t540 t541 t542 t543 t535 t536 t537 t538).bind fun bt560 => (if (bt550.1 == bt560.1 && (bt550.2.1 == bt560.2.1 && (bt550.2.2.1 == bt560.2.2.1 && (bt550.2.2.2 == bt560.2.2.2)))) = true then ((vec_Meet.f t540 t541 t542 t543 t535 t536 t537 t538).bind fun bt564 => (if (bt555.1 == bt564.1 && (bt555.2.1 == bt564.2.1 && (bt555.2.2.1 == bt564.2.2.1 && (bt555.2.2.2 == bt564.2.2.2)))) = true then ((vec_Join.f bt550.1 bt550.2.1 bt550.2.2.1 bt550.2.2.2 t545 t546 t547 t548).bind fun bt568 => ((vec_Join.f t540 t541 t542 t543 t545 t546 t547 t548).bind fun bt572 => ((vec_Join.f t535 t536 t537 t538 bt572.1 bt572.2.1 bt572.2.2.1 bt572.2.2.2).bind fun bt576 => (if (bt568.1 == bt576.1 && (bt568.2.1 == bt576.2.1 && (bt568.2.2.1 == bt576.2.2.1 && (bt568.2.2.2 == bt576.2.2.2)))) = true then ((vec_Meet.f bt555.1 bt555.2.1 bt555.2.2.1 bt555.2.2.2 t545 t546 t547 t548).bind fun bt580 => ((vec_Meet.f t540 t541 t542 t543 t545 t546 t547 t548).bind fun bt584 => ((vec_Meet.f t535 t536 t537 t538 bt584.1 bt584.2.1 bt584.2.2.1 bt584.2.2.2).bind fun bt588 => (if (bt580.1 == bt588.1 && (bt580.2.1 == bt588.2.1 && (bt580.2.2.1 == bt588.2.2.1 && (bt580.2.2.2 == bt588.2.2.2)))) = true then ((vec_Join.f bt550.1 bt550.2.1 bt550.2.2.1 bt550.2.2.2 t535 t536 t537 t538).bind fun bt592 => (if (bt592.1 == bt550.1 && (bt592.2.1 == bt550.2.1 && (bt592.2.2.1 == bt550.2.2.1 && (bt592.2.2.2 == bt550.2.2.2)))) = true then ((vec_Meet.f bt555.1 bt555.2.1 bt555.2.2.1 bt555.2.2.2 t535 t536 t537 t538).bind fun bt596 => (if (bt596.1 == bt555.1 && (bt596.2.1 == bt555.2.1 && (bt596.2.2.1 == bt555.2.2.1 && (bt596.2.2.2 == bt555.2.2.2)))) = true then ((vec_Leq.f t535 t536 t537 t538 bt550.1 bt550.2.1 bt550.2.2.1 bt550.2.2.2).bind fun t600 => (if t600 = true then ((vec_Leq.f bt555.1 bt555.2.1 bt555.2.2.1 bt555.2.2.2 t540 t541 t542 t543).bind fun t601 => (if t601 = true then ((vec_Join.f t535 t536 t537 t538 bt555.1 bt555.2.1 bt555.2.2.1 bt555.2.2.2).bind fun bt602 => (if (bt602.1 == t535 && (bt602.2.1 == t536 && (bt602.2.2.1 == t537 && (bt602.2.2.2 == t538)))) = true then ((vec_Meet.f t535 t536 t537 t538 bt550.1 bt550.2.1 bt550.2.2.1 bt550.2.2.2).bind fun bt606 => (if (bt606.1 == t535 && (bt606.2.1 == t536 && (bt606.2.2.1 == t537 && (bt606.2.2.2 == t538)))) = true then ((vec_Right.f t535 t536 t537 t538).bind fun t610 => (if t610 = true then ((vec_Right.f t540 t541 t542 t543).bind fun t611 => (if t611 = true then (none) else (some true))) else (none))) else (none))) else (none))) else (none))) else (none))) else (none))) else (none))) else (none))))) else (none))))) else (none))) else (none))))) = some r := H
  have A8 := Zq1 A80
  clear A80
  replace H := Option.bind_eq_some_iff.mp H
  obtain ⟨⟨t550, t551, t552, t553⟩, A90, H⟩ := H
  replace H : ((vec_Meet.f t535 t536 t537 t538 t540 t541 t542 t543).bind fun bt555 => ((vec_Join.f t540 t541 t542 t543 t535 t536 t537 t538).bind fun bt560 => (if (t550 == bt560.1 && (t551 == bt560.2.1 && (t552 == bt560.2.2.1 && (t553 == bt560.2.2.2)))) = true then ((vec_Meet.f t540 t541 t542 t543 t535 t536 t537 t538).bind fun bt564 => (if (bt555.1 == bt564.1 && (bt555.2.1 == bt564.2.1 && (bt555.2.2.1 == bt564.2.2.1 && (bt555.2.2.2 == bt564.2.2.2)))) = true then ((vec_Join.f t550 t551 t552 t553 t545 t546 t547 t548).bind fun bt568 => ((vec_Join.f t540 t541 t542 t543 t545 t546 t547 t548).bind fun bt572 => ((vec_Join.f t535 t536 t537 t538 bt572.1 bt572.2.1 bt572.2.2.1 bt572.2.2.2).bind fun bt576 => (if (bt568.1 == bt576.1 && (bt568.2.1 == bt576.2.1 && (bt568.2.2.1 == bt576.2.2.1 && (bt568.2.2.2 == bt576.2.2.2)))) = true then ((vec_Meet.f bt555.1 bt555.2.1 bt555.2.2.1 bt555.2.2.2 t545 t546 t547 t548).bind fun bt580 => ((vec_Meet.f t540 t541 t542 t543 t545 t546 t547 t548).bind fun bt584 => ((vec_Meet.f t535 t536 t537 t538 bt584.1 bt584.2.1 bt584.2.2.1 bt584.2.2.2).bind fun bt588 => (if (bt580.1 == bt588.1 && (bt580.2.1 == bt588.2.1 && (bt580.2.2.1 == bt588.2.2.1 && (bt580.2.2.2 == bt588.2.2.2)))) = true then ((vec_Join.f t550 t551 t552 t553 t535 t536 t537 t538).bind fun bt592 => (if (bt592.1 == t550 && (bt592.2.1 == t551 && (bt592.2.2.1 == t552 && (bt592.2.2.2 == t553)))) = true then ((vec_Meet.f bt555.1 bt555.2.1 bt555.2.2.1 bt555.2.2.2 t535 t536 t537 t538).bind fun bt596 => (if (bt596.1 == bt555.1 && (bt596.2.1 == bt555.2.1 && (bt596.2.2.1 == bt555.2.2.1 && (bt596.2.2.2 == bt555.2.2.2)))) = true then ((vec_Leq.f t535 t536 t537 t538 t550 t551 t552 t553).bind fun t600 => (if t600 = true then ((vec_Leq.f bt555.1 bt555.2.1 bt555.2.2.1 bt555.2.2.2 t540 t541 t542 t543).bind fun t601 => (if t601 = true then ((vec_Join.f t535 t536 t537 t538 bt555.1 bt555.2.1 bt555.2.2.1 bt555.2.2.2).bind fun bt602 => (if (bt602.1 == t535 && (bt602.2.1 == t536 && (bt602.2.2.1 == t537 && (bt602.2.2.2 == t538)))) = true then ((vec_Meet.f t535 t536 t537 t538 t550 t551 t552 t553).bind fun bt606 => (if (bt606.1 == t535 && (bt606.2.1 == t536 && (bt606.2.2.1 == t537 && (bt606.2.2.2 == t538)))) = true then ((vec_Right.f t535 t536 t537 t538).bind fun t610 => (if t610 = true then ((vec_Right.f t540 t541 t542 t543).bind fun t611 => (if t611 = true then (none) else (some true))) else (none))) else (none))) else (none))) else (none))) else (none))) else (none))) else (none))) else (none))))) else (none))))) else (none))) else (none)))) = some r := H
  have A9 := Zq1 A90
  clear A90
  replace H := Option.bind_eq_some_iff.mp H
  obtain ⟨⟨t555, t556, t557, t558⟩, A100, H⟩ := H
  replace H : ((vec_Join.f t540 t541 t542 t543 t535 t536 t537 t538).bind fun bt560 => (if (t550 == bt560.1 && (t551 == bt560.2.1 && (t552 == bt560.2.2.1 && (t553 == bt560.2.2.2)))) = true then ((vec_Meet.f t540 t541 t542 t543 t535 t536 t537 t538).bind fun bt564 => (if (t555 == bt564.1 && (t556 == bt564.2.1 && (t557 == bt564.2.2.1 && (t558 == bt564.2.2.2)))) = true then ((vec_Join.f t550 t551 t552 t553 t545 t546 t547 t548).bind fun bt568 => ((vec_Join.f t540 t541 t542 t543 t545 t546 t547 t548).bind fun bt572 => ((vec_Join.f t535 t536 t537 t538 bt572.1 bt572.2.1 bt572.2.2.1 bt572.2.2.2).bind fun bt576 => (if (bt568.1 == bt576.1 && (bt568.2.1 == bt576.2.1 && (bt568.2.2.1 == bt576.2.2.1 && (bt568.2.2.2 == bt576.2.2.2)))) = true then ((vec_Meet.f t555 t556 t557 t558 t545 t546 t547 t548).bind fun bt580 => ((vec_Meet.f t540 t541 t542 t543 t545 t546 t547 t548).bind fun bt584 => ((vec_Meet.f t535 t536 t537 t538 bt584.1 bt584.2.1 bt584.2.2.1 bt584.2.2.2).bind fun bt588 => (if (bt580.1 == bt588.1 && (bt580.2.1 == bt588.2.1 && (bt580.2.2.1 == bt588.2.2.1 && (bt580.2.2.2 == bt588.2.2.2)))) = true then ((vec_Join.f t550 t551 t552 t553 t535 t536 t537 t538).bind fun bt592 => (if (bt592.1 == t550 && (bt592.2.1 == t551 && (bt592.2.2.1 == t552 && (bt592.2.2.2 == t553)))) = true then ((vec_Meet.f t555 t556 t557 t558 t535 t536 t537 t538).bind fun bt596 => (if (bt596.1 == t555 && (bt596.2.1 == t556 && (bt596.2.2.1 == t557 && (bt596.2.2.2 == t558)))) = true then ((vec_Leq.f t535 t536 t537 t538 t550 t551 t552 t553).bind fun t600 => (if t600 = true then ((vec_Leq.f t555 t556 t557 t558 t540 t541 t542 t543).bind fun t601 => (if t601 = true then ((vec_Join.f t535 t536 t537 t538 t555 t556 t557 t558).bind fun bt602 => (if (bt602.1 == t535 && (bt602.2.1 == t536 && (bt602.2.2.1 == t537 && (bt602.2.2.2 == t538)))) = true then ((vec_Meet.f t535 t536 t537 t538 t550 t551 t552 t553).bind fun bt606 => (if (bt606.1 == t535 && (bt606.2.1 == t536 && (bt606.2.2.1 == t537 && (bt606.2.2.2 == t538)))) = true then ((vec_Right.f t535 t536 t537 t538).bind fun t610 => (if t610 = true then ((vec_Right.f t540 t541 t542 t543).bind fun t611 => (if t611 = true then (none) else (some true))) else (none))) else (none))) else (none))) else (none))) else (none))) else (none))) else (none))) else (none))))) else (none))))) else (none))) else (none))) = some r := H
  have A10 := Zq1 A100
  clear A100
  replace H := Option.bind_eq_some_iff.mp H
  obtain ⟨⟨t560, t561, t562, t563⟩, A110, H⟩ := H
  replace H : (if (t550 == t560 && (t551 == t561 && (t552 == t562 && (t553 == t563)))) = true then ((vec_Meet.f t540 t541 t542 t543 t535 t536 t537 t538).bind fun bt564 => (if (t555 == bt564.1 && (t556 == bt564.2.1 && (t557 == bt564.2.2.1 && (t558 == bt564.2.2.2)))) = true then ((vec_Join.f t550 t551 t552 t553 t545 t546 t547 t548).bind fun bt568 => ((vec_Join.f t540 t541 t542 t543 t545 t546 t547 t548).bind fun bt572 => ((vec_Join.f t535 t536 t537 t538 bt572.1 bt572.2.1 bt572.2.2.1 bt572.2.2.2).bind fun bt576 => (if (bt568.1 == bt576.1 && (bt568.2.1 == bt576.2.1 && (bt568.2.2.1 == bt576.2.2.1 && (bt568.2.2.2 == bt576.2.2.2)))) = true then ((vec_Meet.f t555 t556 t557 t558 t545 t546 t547 t548).bind fun bt580 => ((vec_Meet.f t540 t541 t542 t543 t545 t546 t547 t548).bind fun bt584 => ((vec_Meet.f t535 t536 t537 t538 bt584.1 bt584.2.1 bt584.2.2.1 bt584.2.2.2).bind fun bt588 => (if (bt580.1 == bt588.1 && (bt580.2.1 == bt588.2.1 && (bt580.2.2.1 == bt588.2.2.1 && (bt580.2.2.2 == bt588.2.2.2)))) = true then ((vec_Join.f t550 t551 t552 t553 t535 t536 t537 t538).bind fun bt592 => (if (bt592.1 == t550 && (bt592.2.1 == t551 && (bt592.2.2.1 == t552 && (bt592.2.2.2 == t553)))) = true then ((vec_Meet.f t555 t556 t557 t558 t535 t536 t537 t538).bind fun bt596 => (if (bt596.1 == t555 && (bt596.2.1 == t556 && (bt596.2.2.1 == t557 && (bt596.2.2.2 == t558)))) = true then ((vec_Leq.f t535 t536 t537 t538 t550 t551 t552 t553).bind fun t600 => (if t600 = true then ((vec_Leq.f t555 t556 t557 t558 t540 t541 t542 t543).bind fun t601 => (if t601 = true then ((vec_Join.f t535 t536 t537 t538 t555 t556 t557 t558).bind fun bt602 => (if (bt602.1 == t535 && (bt602.2.1 == t536 && (bt602.2.2.1 == t537 && (bt602.2.2.2 == t538)))) = true then ((vec_Meet.f t535 t536 t537 t538 t550 t551 t552 t553).bind fun bt606 => (if (bt606.1 == t535 && (bt606.2.1 == t536 && (bt606.2.2.1 == t537 && (bt606.2.2.2 == t538)))) = true then ((vec_Right.f t535 t536 t537 t538).bind fun t610 => (if t610 = true then ((vec_Right.f t540 t541 t542 t543).bind fun t611 => (if t611 = true then (none) else (some true))) else (none))) else (none))) else (none))) else (none))) else (none))) else (none))) else (none))) else (none))))) else (none))))) else (none))) else (none)) = some r := H
  have A11 := Zq1 A110
  clear A110
  by_cases c12 : (t550 == t560 && (t551 == t561 && (t552 == t562 && (t553 == t563)))) = true
  rotate_left
  · rw [if_neg c12] at H
    exact absurd H (by simp)
  rw [if_pos c12] at H
  have c12b0 : (t550 == t560 && (t551 == t561 && (t552 == t562 && (t553 == t563)))) = true := c12
  (try (have c12b1 : decide (t550 = t560 && (t551 == t561 && (t552 == t562 && (t553 == t563)))) = true := by simpa using c12))
  (try (have c12b2 : (t550 == t560 && (t551 == t561 && (t552 == t562 && (t553 == t563)))) = true := by simpa using c12))
  clear c12
  replace H := Option.bind_eq_some_iff.mp H
  obtain ⟨⟨t564, t565, t566, t567⟩, A130, H⟩ := H
  replace H : (if (t555 == t564 && (t556 == t565 && (t557 == t566 && (t558 == t567)))) = true then ((vec_Join.f t550 t551 t552 t553 t545 t546 t547 t548).bind fun bt568 => ((vec_Join.f t540 t541 t542 t543 t545 t546 t547 t548).bind fun bt572 => ((vec_Join.f t535 t536 t537 t538 bt572.1 bt572.2.1 bt572.2.2.1 bt572.2.2.2).bind fun bt576 => (if (bt568.1 == bt576.1 && (bt568.2.1 == bt576.2.1 && (bt568.2.2.1 == bt576.2.2.1 && (bt568.2.2.2 == bt576.2.2.2)))) = true then ((vec_Meet.f t555 t556 t557 t558 t545 t546 t547 t548).bind fun bt580 => ((vec_Meet.f t540 t541 t542 t543 t545 t546 t547 t548).bind fun bt584 => ((vec_Meet.f t535 t536 t537 t538 bt584.1 bt584.2.1 bt584.2.2.1 bt584.2.2.2).bind fun bt588 => (if (bt580.1 == bt588.1 && (bt580.2.1 == bt588.2.1 && (bt580.2.2.1 == bt588.2.2.1 && (bt580.2.2.2 == bt588.2.2.2)))) = true then ((vec_Join.f t550 t551 t552 t553 t535 t536 t537 t538).bind fun bt592 => (if (bt592.1 == t550 && (bt592.2.1 == t551 && (bt592.2.2.1 == t552 && (bt592.2.2.2 == t553)))) = true then ((vec_Meet.f t555 t556 t557 t558 t535 t536 t537 t538).bind fun bt596 => (if (bt596.1 == t555 && (bt596.2.1 == t556 && (bt596.2.2.1 == t557 && (bt596.2.2.2 == t558)))) = true then ((vec_Leq.f t535 t536 t537 t538 t550 t551 t552 t553).bind fun t600 => (if t600 = true then ((vec_Leq.f t555 t556 t557 t558 t540 t541 t542 t543).bind fun t601 => (if t601 = true then ((vec_Join.f t535 t536 t537 t538 t555 t556 t557 t558).bind fun bt602 => (if (bt602.1 == t535 && (bt602.2.1 == t536 && (bt602.2.2.1 == t537 && (bt602.2.2.2 == t538)))) = true then ((vec_Meet.f t535 t536 t537 t538 t550 t551 t552 t553).bind fun bt606 => (if (bt606.1 == t535 && (bt606.2.1 == t536 && (bt606.2.2.1 == t537 && (bt606.2.2.2 == t538)))) = true then ((vec_Right.f t535 t536 t537 t538).bind fun t610 => (if t610 = true then ((vec_Right.f t540 t541 t542 t543).bind fun t611 => (if t611 = true then (none) else (some true))) else (none))) else (none))) else (none))) else (none))) else (none))) else (none))) else (none))) else (none))))) else (none))))) else (none)) = some r := H
  have A13 := Zq1 A130
  clear A130
  by_cases c14 : (t555 == t564 && (t556 == t565 && (t557 == t566 && (t558 == t567)))) = true
  rotate_left
  · rw [if_neg c14] at H
    exact absurd H (by simp)
  rw [if_pos c14] at H
  have c14b0 : (t555 == t564 && (t556 == t565 && (t557 == t566 && (t558 == t567)))) = true := c14
  (try (have c14b1 : decide (t555 = t564 && (t556 == t565 && (t557 == t566 && (t558 == t567)))) = true := by simpa using c14))
  (try (have c14b2 : (t555 == t564 && (t556 == t565 && (t557 == t566 && (t558 == t567)))) = true := by simpa using c14))
  clear c14
  replace H := Option.bind_eq_some_iff.mp H
  obtain ⟨⟨t568, t569, t570, t571⟩, A150, H⟩ := H
  replace H : ((vec_Join.f t540 t541 t542 t543 t545 t546 t547 t548).bind fun bt572 => ((vec_Join.f t535 t536 t537 t538 bt572.1 bt572.2.1 bt572.2.2.1 bt572.2.2.2).bind fun bt576 => (if (t568 == bt576.1 && (t569 == bt576.2.1 && (t570 == bt576.2.2.1 && (t571 == bt576.2.2.2)))) = true then ((vec_Meet.f t555 t556 t557 t558 t545 t546 t547 t548).bind fun bt580 => ((vec_Meet.f t540 t541 t542 t543 t545 t546 t547 t548).bind fun bt584 => ((vec_Meet.f t535 t536 t537 t538 bt584.1 bt584.2.1 bt584.2.2.1 bt584.2.2.2).bind fun bt588 => (if (bt580.1 == bt588.1 && (bt580.2.1 == bt588.2.1 && (bt580.2.2.1 == bt588.2.2.1 && (bt580.2.2.2 == bt588.2.2.2)))) = true then ((vec_Join.f t550 t551 t552 t553 t535 t536 t537 t538).bind fun bt592 => (if (bt592.1 == t550 && (bt592.2.1 == t551 && (bt592.2.2.1 == t552 && (bt592.2.2.2 == t553)))) = true then ((vec_Meet.f t555 t556 t557 t558 t535 t536 t537 t538).bind fun bt596 => (if (bt596.1 == t555 && (bt596.2.1 == t556 && (bt596.2.2.1 == t557 && (bt596.2.2.2 == t558)))) = true then ((vec_Leq.f t535 t536 t537 t538 t550 t551 t552 t553).bind fun t600 => (if t600 = true then ((vec_Leq.f t555 t556 t557 t558 t540 t541 t542 t543).bind fun t601 => (if t601 = true then ((vec_Join.f t535 t536 t537 t538 t555 t556 t557 t558).bind fun bt602 => (if (bt602.1 == t535 && (bt602.2.1 == t536 && (bt602.2.2.1 == t537 && (bt602.2.2.2 == t538)))) = true then ((vec_Meet.f t535 t536 t537 t538 t550 t551 t552 t553).bind fun bt606 => (if (bt606.1 == t535 && (bt606.2.1 == t536 && (bt606.2.2.1 == t537 && (bt606.2.2.2 == t538)))) = true then ((vec_Right.f t535 t536 t537 t538).bind fun t610 => (if t610 = true then ((vec_Right.f t540 t541 t542 t543).bind fun t611 => (if t611 = true then (none) else (some true))) else (none))) else (none))) else (none))) else (none))) else (none))) else (none))) else (none))) else (none))))) else (none)))) = some r := H
  have A15 := Zq1 A150
  clear A150
  replace H := Option.bind_eq_some_iff.mp H
  obtain ⟨⟨t572, t573, t574, t575⟩, A160, H⟩ := H
  replace H : ((vec_Join.f t535 t536 t537 t538 t572 t573 t574 t575).bind fun bt576 => (if (t568 == bt576.1 && (t569 == bt576.2.1 && (t570 == bt576.2.2.1 && (t571 == bt576.2.2.2)))) = true then ((vec_Meet.f t555 t556 t557 t558 t545 t546 t547 t548).bind fun bt580 => ((vec_Meet.f t540 t541 t542 t543 t545 t546 t547 t548).bind fun bt584 => ((vec_Meet.f t535 t536 t537 t538 bt584.1 bt584.2.1 bt584.2.2.1 bt584.2.2.2).bind fun bt588 => (if (bt580.1 == bt588.1 && (bt580.2.1 == bt588.2.1 && (bt580.2.2.1 == bt588.2.2.1 && (bt580.2.2.2 == bt588.2.2.2)))) = true then ((vec_Join.f t550 t551 t552 t553 t535 t536 t537 t538).bind fun bt592 => (if (bt592.1 == t550 && (bt592.2.1 == t551 && (bt592.2.2.1 == t552 && (bt592.2.2.2 == t553)))) = true then ((vec_Meet.f t555 t556 t557 t558 t535 t536 t537 t538).bind fun bt596 => (if (bt596.1 == t555 && (bt596.2.1 == t556 && (bt596.2.2.1 == t557 && (bt596.2.2.2 == t558)))) = true then ((vec_Leq.f t535 t536 t537 t538 t550 t551 t552 t553).bind fun t600 => (if t600 = true then ((vec_Leq.f t555 t556 t557 t558 t540 t541 t542 t543).bind fun t601 => (if t601 = true then ((vec_Join.f t535 t536 t537 t538 t555 t556 t557 t558).bind fun bt602 => (if (bt602.1 == t535 && (bt602.2.1 == t536 && (bt602.2.2.1 == t537 && (bt602.2.2.2 == t538)))) = true then ((vec_Meet.f t535 t536 t537 t538 t550 t551 t552 t553).bind fun bt606 => (if (bt606.1 == t535 && (bt606.2.1 == t536 && (bt606.2.2.1 == t537 && (bt606.2.2.2 == t538)))) = true then ((vec_Right.f t535 t536 t537 t538).bind fun t610 => (if t610 = true then ((vec_Right.f t540 t541 t542 t543).bind fun t611 => (if t611 = true then (none) else (some true))) else (none))) else (none))) else (none))) else (none))) else (none))) else (none))) else (none))) else (none))))) else (none))) = some r := H
  have A16 := Zq1 A160
  clear A160
  replace H := Option.bind_eq_some_iff.mp H
  obtain ⟨⟨t576, t577, t578, t579⟩, A170, H⟩ := H
  replace H : (if (t568 == t576 && (t569 == t577 && (t570 == t578 && (t571 == t579)))) = true then ((vec_Meet.f t555 t556 t557 t558 t545 t546 t547 t548).bind fun bt580 => ((vec_Meet.f t540 t541 t542 t543 t545 t546 t547 t548).bind fun bt584 => ((vec_Meet.f t535 t536 t537 t538 bt584.1 bt584.2.1 bt584.2.2.1 bt584.2.2.2).bind fun bt588 => (if (bt580.1 == bt588.1 && (bt580.2.1 == bt588.2.1 && (bt580.2.2.1 == bt588.2.2.1 && (bt580.2.2.2 == bt588.2.2.2)))) = true then ((vec_Join.f t550 t551 t552 t553 t535 t536 t537 t538).bind fun bt592 => (if (bt592.1 == t550 && (bt592.2.1 == t551 && (bt592.2.2.1 == t552 && (bt592.2.2.2 == t553)))) = true then ((vec_Meet.f t555 t556 t557 t558 t535 t536 t537 t538).bind fun bt596 => (if (bt596.1 == t555 && (bt596.2.1 == t556 && (bt596.2.2.1 == t557 && (bt596.2.2.2 == t558)))) = true then ((vec_Leq.f t535 t536 t537 t538 t550 t551 t552 t553).bind fun t600 => (if t600 = true then ((vec_Leq.f t555 t556 t557 t558 t540 t541 t542 t543).bind fun t601 => (if t601 = true then ((vec_Join.f t535 t536 t537 t538 t555 t556 t557 t558).bind fun bt602 => (if (bt602.1 == t535 && (bt602.2.1 == t536 && (bt602.2.2.1 == t537 && (bt602.2.2.2 == t538)))) = true then ((vec_Meet.f t535 t536 t537 t538 t550 t551 t552 t553).bind fun bt606 => (if (bt606.1 == t535 && (bt606.2.1 == t536 && (bt606.2.2.1 == t537 && (bt606.2.2.2 == t538)))) = true then ((vec_Right.f t535 t536 t537 t538).bind fun t610 => (if t610 = true then ((vec_Right.f t540 t541 t542 t543).bind fun t611 => (if t611 = true then (none) else (some true))) else (none))) else (none))) else (none))) else (none))) else (none))) else (none))) else (none))) else (none))))) else (none)) = some r := H
  have A17 := Zq1 A170
  clear A170
  by_cases c18 : (t568 == t576 && (t569 == t577 && (t570 == t578 && (t571 == t579)))) = true
  rotate_left
  · rw [if_neg c18] at H
    exact absurd H (by simp)
  rw [if_pos c18] at H
  have c18b0 : (t568 == t576 && (t569 == t577 && (t570 == t578 && (t571 == t579)))) = true := c18
  (try (have c18b1 : decide (t568 = t576 && (t569 == t577 && (t570 == t578 && (t571 == t579)))) = true := by simpa using c18))
  (try (have c18b2 : (t568 == t576 && (t569 == t577 && (t570 == t578 && (t571 == t579)))) = true := by simpa using c18))
  clear c18
  replace H := Option.bind_eq_some_iff.mp H
  obtain ⟨⟨t580, t581, t582, t583⟩, A190, H⟩ := H
  replace H : ((vec_Meet.f t540 t541 t542 t543 t545 t546 t547 t548).bind fun bt584 => ((vec_Meet.f t535 t536 t537 t538 bt584.1 bt584.2.1 bt584.2.2.1 bt584.2.2.2).bind fun bt588 => (if (t580 == bt588.1 && (t581 == bt588.2.1 && (t582 == bt588.2.2.1 && (t583 == bt588.2.2.2)))) = true then ((vec_Join.f t550 t551 t552 t553 t535 t536 t537 t538).bind fun bt592 => (if (bt592.1 == t550 && (bt592.2.1 == t551 && (bt592.2.2.1 == t552 && (bt592.2.2.2 == t553)))) = true then ((vec_Meet.f t555 t556 t557 t558 t535 t536 t537 t538).bind fun bt596 => (if (bt596.1 == t555 && (bt596.2.1 == t556 && (bt596.2.2.1 == t557 && (bt596.2.2.2 == t558)))) = true then ((vec_Leq.f t535 t536 t537 t538 t550 t551 t552 t553).bind fun t600 => (if t600 = true then ((vec_Leq.f t555 t556 t557 t558 t540 t541 t542 t543).bind fun t601 => (if t601 = true then ((vec_Join.f t535 t536 t537 t538 t555 t556 t557 t558).bind fun bt602 => (if (bt602.1 == t535 && (bt602.2.1 == t536 && (bt602.2.2.1 == t537 && (bt602.2.2.2 == t538)))) = true then ((vec_Meet.f t535 t536 t537 t538 t550 t551 t552 t553).bind fun bt606 => (if (bt606.1 == t535 && (bt606.2.1 == t536 && (bt606.2.2.1 == t537 && (bt606.2.2.2 == t538)))) = true then ((vec_Right.f t535 t536 t537 t538).bind fun t610 => (if t610 = true then ((vec_Right.f t540 t541 t542 t543).bind fun t611 => (if t611 = true then (none) else (some true))) else (none))) else (none))) else (none))) else (none))) else (none))) else (none))) else (none))) else (none)))) = some r := H
  have A19 := Zq1 A190
  clear A190
  replace H := Option.bind_eq_some_iff.mp H
  obtain ⟨⟨t584, t585, t586, t587⟩, A200, H⟩ := H
  replace H : ((vec_Meet.f t535 t536 t537 t538 t584 t585 t586 t587).bind fun bt588 => (if (t580 == bt588.1 && (t581 == bt588.2.1 && (t582 == bt588.2.2.1 && (t583 == bt588.2.2.2)))) = true then ((vec_Join.f t550 t551 t552 t553 t535 t536 t537 t538).bind fun bt592 => (if (bt592.1 == t550 && (bt592.2.1 == t551 && (bt592.2.2.1 == t552 && (bt592.2.2.2 == t553)))) = true then ((vec_Meet.f t555 t556 t557 t558 t535 t536 t537 t538).bind fun bt596 => (if (bt596.1 == t555 && (bt596.2.1 == t556 && (bt596.2.2.1 == t557 && (bt596.2.2.2 == t558)))) = true then ((vec_Leq.f t535 t536 t537 t538 t550 t551 t552 t553).bind fun t600 => (if t600 = true then ((vec_Leq.f t555 t556 t557 t558 t540 t541 t542 t543).bind fun t601 => (if t601 = true then ((vec_Join.f t535 t536 t537 t538 t555 t556 t557 t558).bind fun bt602 => (if (bt602.1 == t535 && (bt602.2.1 == t536 && (bt602.2.2.1 == t537 && (bt602.2.2.2 == t538)))) = true then ((vec_Meet.f t535 t536 t537 t538 t550 t551 t552 t553).bind fun bt606 => (if (bt606.1 == t535 && (bt606.2.1 == t536 && (bt606.2.2.1 == t537 && (bt606.2.2.2 == t538)))) = true then ((vec_Right.f t535 t536 t537 t538).bind fun t610 => (if t610 = true then ((vec_Right.f t540 t541 t542 t543).bind fun t611 => (if t611 = true then (none) else (some true))) else (none))) else (none))) else (none))) else (none))) else (none))) else (none))) else (none))) else (none))) = some r := H
  have A20 := Zq1 A200
  clear A200
  replace H := Option.bind_eq_some_iff.mp H
  obtain ⟨⟨t588, t589, t590, t591⟩, A210, H⟩ := H
  replace H : (if (t580 == t588 && (t581 == t589 && (t582 == t590 && (t583 == t591)))) = true then ((vec_Join.f t550 t551 t552 t553 t535 t536 t537 t538).bind fun bt592 => (if (bt592.1 == t550 && (bt592.2.1 == t551 && (bt592.2.2.1 == t552 && (bt592.2.2.2 == t553)))) = true then ((vec_Meet.f t555 t556 t557 t558 t535 t536 t537 t538).bind fun bt596 => (if (bt596.1 == t555 && (bt596.2.1 == t556 && (bt596.2.2.1 == t557 && (bt596.2.2.2 == t558)))) = true then ((vec_Leq.f t535 t536 t537 t538 t550 t551 t552 t553).bind fun t600 => (if t600 = true then ((vec_Leq.f t555 t556 t557 t558 t540 t541 t542 t543).bind fun t601 => (if t601 = true then ((vec_Join.f t535 t536 t537 t538 t555 t556 t557 t558).bind fun bt602 => (if (bt602.1 == t535 && (bt602.2.1 == t536 && (bt602.2.2.1 == t537 && (bt602.2.2.2 == t538)))) = true then ((vec_Meet.f t535 t536 t537 t538 t550 t551 t552 t553).bind fun bt606 => (if (bt606.1 == t535 && (bt606.2.1 == t536 && (bt606.2.2.1 == t537 && (bt606.2.2.2 == t538)))) = true then ((vec_Right.f t535 t536 t537 t538).bind fun t610 => (if t610 = true then ((vec_Right.f t540 t541 t542 t543).bind fun t611 => (if t611 = true then (none) else (some true))) else (none))) else (none))) else (none))) else (none))) else (none))) else (none))) else (none))) else (none)) = some r := H
  have A21 := Zq1 A210
  clear A210
  by_cases c22 : (t580 == t588 && (t581 == t589 && (t582 == t590 && (t583 == t591)))) = true
  rotate_left
  · rw [if_neg c22] at H
    exact absurd H (by simp)
  rw [if_pos c22] at H
  have c22b0 : (t580 == t588 && (t581 == t589 && (t582 == t590 && (t583 == t591)))) = true := c22
  (try (have c22b1 : decide (t580 = t588 && (t581 == t589 && (t582 == t590 && (t583 == t591)))) = true := by simpa using c22))
  (try (have c22b2 : (t580 == t588 && (t581 == t589 && (t582 == t590 && (t583 == t591)))) = true := by simpa using c22))
  clear c22
  replace H := Option.bind_eq_some_iff.mp H
  obtain ⟨⟨t592, t593, t594, t595⟩, A230, H⟩ := H
  replace H : (if (t592 == t550 && (t593 == t551 && (t594 == t552 && (t595 == t553)))) = true then ((vec_Meet.f t555 t556 t557 t558 t535 t536 t537 t538).bind fun bt596 => (if (bt596.1 == t555 && (bt596.2.1 == t556 && (bt596.2.2.1 == t557 && (bt596.2.2.2 == t558)))) = true then ((vec_Leq.f t535 t536 t537 t538 t550 t551 t552 t553).bind fun t600 => (if t600 = true then ((vec_Leq.f t555 t556 t557 t558 t540 t541 t542 t543).bind fun t601 => (if t601 = true then ((vec_Join.f t535 t536 t537 t538 t555 t556 t557 t558).bind fun bt602 => (if (bt602.1 == t535 && (bt602.2.1 == t536 && (bt602.2.2.1 == t537 && (bt602.2.2.2 == t538)))) = true then ((vec_Meet.f t535 t536 t537 t538 t550 t551 t552 t553).bind fun bt606 => (if (bt606.1 == t535 && (bt606.2.1 == t536 && (bt606.2.2.1 == t537 && (bt606.2.2.2 == t538)))) = true then ((vec_Right.f t535 t536 t537 t538).bind fun t610 => (if t610 = true then ((vec_Right.f t540 t541 t542 t543).bind fun t611 => (if t611 = true then (none) else (some true))) else (none))) else (none))) else (none))) else (none))) else (none))) else (none))) else (none)) = some r := H
  have A23 := Zq1 A230
  clear A230
  by_cases c24 : (t592 == t550 && (t593 == t551 && (t594 == t552 && (t595 == t553)))) = true
  rotate_left
  · rw [if_neg c24] at H
    exact absurd H (by simp)
  rw [if_pos c24] at H
  have c24b0 : (t592 == t550 && (t593 == t551 && (t594 == t552 && (t595 == t553)))) = true := c24
  (try (have c24b1 : decide (t592 = t550 && (t593 == t551 && (t594 == t552 && (t595 == t553)))) = true := by simpa using c24))
  (try (have c24b2 : (t592 == t550 && (t593 == t551 && (t594 == t552 && (t595 == t553)))) = true := by simpa using c24))
  clear c24
  replace H := Option.bind_eq_some_iff.mp H
  obtain ⟨⟨t596, t597, t598, t599⟩, A250, H⟩ := H
  replace H : (if (t596 == t555 && (t597 == t556 && (t598 == t557 && (t599 == t558)))) = true then ((vec_Leq.f t535 t536 t537 t538 t550 t551 t552 t553).bind fun t600 => (if t600 = true then ((vec_Leq.f t555 t556 t557 t558 t540 t541 t542 t543).bind fun t601 => (if t601 = true then ((vec_Join.f t535 t536 t537 t538 t555 t556 t557 t558).bind fun bt602 => (if (bt602.1 == t535 && (bt602.2.1 == t536 && (bt602.2.2.1 == t537 && (bt602.2.2.2 == t538)))) = true then ((vec_Meet.f t535 t536 t537 t538 t550 t551 t552 t553).bind fun bt606 => (if (bt606.1 == t535 && (bt606.2.1 == t536 && (bt606.2.2.1 == t537 && (bt606.2.2.2 == t538)))) = true then ((vec_Right.f t535 t536 t537 t538).bind fun t610 => (if t610 = true then ((vec_Right.f t540 t541 t542 t543).bind fun t611 => (if t611 = true then (none) else (some true))) else (none))) else (none))) else (none))) else (none))) else (none))) else (none)) = some r := H
  have A25 := Zq1 A250
  clear A250
  by_cases c26 : (t596 == t555 && (t597 == t556 && (t598 == t557 && (t599 == t558)))) = true
  rotate_left
  · rw [if_neg c26] at H
    exact absurd H (by simp)
  rw [if_pos c26] at H
  have c26b0 : (t596 == t555 && (t597 == t556 && (t598 == t557 && (t599 == t558)))) = true := c26
  (try (have c26b1 : decide (t596 = t555 && (t597 == t556 && (t598 == t557 && (t599 == t558)))) = true := by simpa using c26))
  (try (have c26b2 : (t596 == t555 && (t597 == t556 && (t598 == t557 && (t599 == t558)))) = true := by simpa using c26))
  clear c26
  replace H := Option.bind_eq_some_iff.mp H
  obtain ⟨t600, A270, H⟩ := H
  replace H : (if t600 = true then ((vec_Leq.f t555 t556 t557 t558 t540 t541 t542 t543).bind fun t601 => (if t601 = true then ((vec_Join.f t535 t536 t537 t538 t555 t556 t557 t558).bind fun bt602 => (if (bt602.1 == t535 && (bt602.2.1 == t536 && (bt602.2.2.1 == t537 && (bt602.2.2.2 == t538)))) = true then ((vec_Meet.f t535 t536 t537 t538 t550 t551 t552 t553).bind fun bt606 => (if (bt606.1 == t535 && (bt606.2.1 == t536 && (bt606.2.2.1 == t537 && (bt606.2.2.2 == t538)))) = true then ((vec_Right.f t535 t536 t537 t538).bind fun t610 => (if t610 = true then ((vec_Right.f t540 t541 t542 t543).bind fun t611 => (if t611 = true then (none) else (some true))) else (none))) else (none))) else (none))) else (none))) else (none)) = some r := H
  have A27 := Zq1 A270
  clear A270
  by_cases c28 : t600 = true
  rotate_left
  · replace c28 := Bool.eq_false_iff.mpr c28
    subst c28
    have H1 : (none) = some r := by rw [if_neg (show ¬ (false = true) by decide)] at H; exact H
    clear H
    have H := H1
    clear H1
    exact absurd H (by simp)
  subst c28
  have H1 : ((vec_Leq.f t555 t556 t557 t558 t540 t541 t542 t543).bind fun t601 => (if t601 = true then ((vec_Join.f t535 t536 t537 t538 t555 t556 t557 t558).bind fun bt602 => (if (bt602.1 == t535 && (bt602.2.1 == t536 && (bt602.2.2.1 == t537 && (bt602.2.2.2 == t538)))) = true then ((vec_Meet.f t535 t536 t537 t538 t550 t551 t552 t553).bind fun bt606 => (if (bt606.1 == t535 && (bt606.2.1 == t536 && (bt606.2.2.1 == t537 && (bt606.2.2.2 == t538)))) = true then ((vec_Right.f t535 t536 t537 t538).bind fun t610 => (if t610 = true then ((vec_Right.f t540 t541 t542 t543).bind fun t611 => (if t611 = true then (none) else (some true))) else (none))) else (none))) else (none))) else (none))) = some r := by rw [if_pos rfl] at H; exact H
  clear H
  have H := H1
  clear H1
  replace H := Option.bind_eq_some_iff.mp H
  obtain ⟨t601, A290, H⟩ := H
  replace H : (if t601 = true then ((vec_Join.f t535 t536 t537 t538 t555 t556 t557 t558).bind fun bt602 => (if (bt602.1 == t535 && (bt602.2.1 == t536 && (bt602.2.2.1 == t537 && (bt602.2.2.2 == t538)))) = true then ((vec_Meet.f t535 t536 t537 t538 t550 t551 t552 t553).bind fun bt606 => (if (bt606.1 == t535 && (bt606.2.1 == t536 && (bt606.2.2.1 == t537 && (bt606.2.2.2 == t538)))) = true then ((vec_Right.f t535 t536 t537 t538).bind fun t610 => (if t610 = true then ((vec_Right.f t540 t541 t542 t543).bind fun t611 => (if t611 = true then (none) else (some true))) else (none))) else (none))) else (none))) else (none)) = some r := H
  have A29 := Zq1 A290
  clear A290
  by_cases c30 : t601 = true
  rotate_left
  · replace c30 := Bool.eq_false_iff.mpr c30
    subst c30
    have H1 : (none) = some r := by rw [if_neg (show ¬ (false = true) by decide)] at H; exact H
    clear H
    have H := H1
    clear H1
    exact absurd H (by simp)
  subst c30
  have H1 : ((vec_Join.f t535 t536 t537 t538 t555 t556 t557 t558).bind fun bt602 => (if (bt602.1 == t535 && (bt602.2.1 == t536 && (bt602.2.2.1 == t537 && (bt602.2.2.2 == t538)))) = true then ((vec_Meet.f t535 t536 t537 t538 t550 t551 t552 t553).bind fun bt606 => (if (bt606.1 == t535 && (bt606.2.1 == t536 && (bt606.2.2.1 == t537 && (bt606.2.2.2 == t538)))) = true then ((vec_Right.f t535 t536 t537 t538).bind fun t610 => (if t610 = true then ((vec_Right.f t540 t541 t542 t543).bind fun t611 => (if t611 = true then (none) else (some true))) else (none))) else (none))) else (none))) = some r := by rw [if_pos rfl] at H; exact H
  clear H
  have H := H1
  clear H1
  replace H := Option.bind_eq_some_iff.mp H
  obtain ⟨⟨t602, t603, t604, t605⟩, A310, H⟩ := H
  replace H : (if (t602 == t535 && (t603 == t536 && (t604 == t537 && (t605 == t538)))) = true then ((vec_Meet.f t535 t536 t537 t538 t550 t551 t552 t553).bind fun bt606 => (if (bt606.1 == t535 && (bt606.2.1 == t536 && (bt606.2.2.1 == t537 && (bt606.2.2.2 == t538)))) = true then ((vec_Right.f t535 t536 t537 t538).bind fun t610 => (if t610 = true then ((vec_Right.f t540 t541 t542 t543).bind fun t611 => (if t611 = true then (none) else (some true))) else (none))) else (none))) else (none)) = some r := H
  have A31 := Zq1 A310
  clear A310
  by_cases c32 : (t602 == t535 && (t603 == t536 && (t604 == t537 && (t605 == t538)))) = true
  rotate_left
  · rw [if_neg c32] at H
    exact absurd H (by simp)
  rw [if_pos c32] at H
  have c32b0 : (t602 == t535 && (t603 == t536 && (t604 == t537 && (t605 == t538)))) = true := c32
  (try (have c32b1 : decide (t602 = t535 && (t603 == t536 && (t604 == t537 && (t605 == t538)))) = true := by simpa using c32))
  (try (have c32b2 : (t602 == t535 && (t603 == t536 && (t604 == t537 && (t605 == t538)))) = true := by simpa using c32))
  clear c32
  replace H := Option.bind_eq_some_iff.mp H
  obtain ⟨⟨t606, t607, t608, t609⟩, A330, H⟩ := H
  replace H : (if (t606 == t535 && (t607 == t536 && (t608 == t537 && (t609 == t538)))) = true then ((vec_Right.f t535 t536 t537 t538).bind fun t610 => (if t610 = true then ((vec_Right.f t540 t541 t542 t543).bind fun t611 => (if t611 = true then (none) else (some true))) else (none))) else (none)) = some r := H
  have A33 := Zq1 A330
  clear A330
  by_cases c34 : (t606 == t535 && (t607 == t536 && (t608 == t537 && (t609 == t538)))) = true
  rotate_left
  · rw [if_neg c34] at H
    exact absurd H (by simp)
  rw [if_pos c34] at H
  have c34b0 : (t606 == t535 && (t607 == t536 && (t608 == t537 && (t609 == t538)))) = true := c34
  (try (have c34b1 : decide (t606 = t535 && (t607 == t536 && (t608 == t537 && (t609 == t538)))) = true := by simpa using c34))
  (try (have c34b2 : (t606 == t535 && (t607 == t536 && (t608 == t537 && (t609 == t538)))) = true := by simpa using c34))
  clear c34
  replace H := Option.bind_eq_some_iff.mp H
  obtain ⟨t610, A350, H⟩ := H
  replace H : (if t610 = true then ((vec_Right.f t540 t541 t542 t543).bind fun t611 => (if t611 = true then (none) else (some true))) else (none)) = some r := H
  have A35 := Zq1 A350
  clear A350
  by_cases c36 : t610 = true
  rotate_left
  · replace c36 := Bool.eq_false_iff.mpr c36
    subst c36
    have H1 : (none) = some r := by rw [if_neg (show ¬ (false = true) by decide)] at H; exact H
    clear H
    have H := H1
    clear H1
    exact absurd H (by simp)
  subst c36
  have H1 : ((vec_Right.f t540 t541 t542 t543).bind fun t611 => (if t611 = true then (none) else (some true))) = some r := by rw [if_pos rfl] at H; exact H
  clear H
  have H := H1
  clear H1
  replace H := Option.bind_eq_some_iff.mp H
  obtain ⟨t611, A370, H⟩ := H
  replace H : (if t611 = true then (none) else (some true)) = some r := H
  have A37 := Zq1 A370
  clear A370
  by_cases c38 : t611 = true
  · subst c38
    have H1 : (none) = some r := by rw [if_pos rfl] at H; exact H
    clear H
    have H := H1
    clear H1
    exact absurd H (by simp)
  replace c38 := Bool.eq_false_iff.mpr c38
  subst c38
  have H1 : (some true) = some r := by rw [if_neg (show ¬ (false = true) by decide)] at H; exact H
  clear H
  have H := H1
  clear H1
  obtain rfl := Option.some.inj H
  go_enter Tryd.func5, Tryd.ntmps5
  try go_wp2_with (first | ((with_reducible refine gate_dst (N := 3) rfl ?_); refine box_event ?hg (N := 3) ?hd (cs := #[.int .u64 a0_0, .int .u64 a0_1, .int .u64 a0_2, .int .u64 a0_3, .bool a0_4]) (t := 26) ?hr ?_; (case hd => rfl); (case hg => rfl); (case hr => first | (go_simp; done) | (go_simp; rfl)); intro gb531 hg w39 hbox hb; have n0_ := Zq1 (below_step (by repeat (first | (with_reducible first | exact HB.out | apply below_alloc | apply Zw1 | apply Ze1) | exact HB.out)) hb); have n1_ := Zq1 (hbox); have n2_ := Zq1 ((by rw [hg]; exact (below_size (by repeat (first | (with_reducible first | exact HB.out | apply below_alloc | apply Zw1 | apply Ze1) | exact HB.out))) : w.heap.size ≤ gb531)); have n3_ := Zq1 ((by rw [hg]; exact (below_size (by repeat (first | (with_reducible first | exact HB.out | apply below_alloc | apply Zw1 | apply Ze1) | exact HB.out))) : w.heap.size ≤ gb531)); clear HB; have HB := n0_; have BK531 := n1_; have GW531 := n2_; have GE531 := n3_; clear n0_ n1_ n2_ n3_; clear hb hbox hg) | ((with_reducible refine gate_dst (N := 4) rfl ?_); refine box_event ?hg (N := 4) ?hd (cs := #[.int .u64 a1_0, .int .u64 a1_1, .int .u64 a1_2, .int .u64 a1_3, .bool a1_4]) (t := 26) ?hr ?_; (case hd => rfl); (case hg => rfl); (case hr => first | (go_simp; done) | (go_simp; rfl)); intro gb532 hg w40 hbox hb; have n0_ := Zq1 (Zb1 (g := gb531) (o := .cells #[.int .u64 a0_0, .int .u64 a0_1, .int .u64 a0_2, .int .u64 a0_3, .bool a0_4] 26 (0, 0)) (by (with_reducible repeat (first | refine Zn1 ?_ _ | refine Zd1 ?_ | refine Za1 ?_ _)); exact BK531.out) hb); have n1_ := Zq1 (below_step (by repeat (first | (with_reducible first | exact HB.out | apply below_alloc | apply Zw1 | apply Ze1 | refine Zs1 ?_ GE531.out) | exact HB.out)) hb); have n2_ := Zq1 (hbox); have n3_ := Zq1 ((by rw [hg]; exact (below_size (by repeat (first | (with_reducible first | exact HB.out | apply below_alloc | apply Zw1 | apply Ze1 | refine Zs1 ?_ GE531.out) | exact HB.out))) : w.heap.size ≤ gb532)); have n4_ := Zq1 ((by rw [hg]; exact (below_size (by repeat (first | (with_reducible first | exact HB.out | apply below_alloc | apply Zw1 | apply Ze1 | refine Zs1 ?_ GE531.out) | exact HB.out))) : w.heap.size ≤ gb532)); have n5_ := Zq1 ((by rw [hg]; exact Nat.ne_of_lt (blk_lt (g := gb531) (o := .cells #[.int .u64 a0_0, .int .u64 a0_1, .int .u64 a0_2, .int .u64 a0_3, .bool a0_4] 26 (0, 0)) (by (with_reducible repeat (first | refine Zn1 ?_ _ | refine Zd1 ?_ | refine Za1 ?_ _)); exact BK531.out)) : gb531 ≠ gb532)); have n6_ := Zq1 ((by rw [hg]; exact Nat.ne_of_gt (blk_lt (g := gb531) (o := .cells #[.int .u64 a0_0, .int .u64 a0_1, .int .u64 a0_2, .int .u64 a0_3, .bool a0_4] 26 (0, 0)) (by (with_reducible repeat (first | refine Zn1 ?_ _ | refine Zd1 ?_ | refine Za1 ?_ _)); exact BK531.out)) : gb532 ≠ gb531)); clear BK531; clear HB; have BK531 := n0_; have HB := n1_; have BK532 := n2_; have GW532 := n3_; have GE532 := n4_; have NB531_532 := n5_; have NB532_531 := n6_; clear n0_ n1_ n2_ n3_ n4_ n5_ n6_; clear hb hbox hg) | ((with_reducible refine gate_dst (N := 5) rfl ?_); refine box_event ?hg (N := 5) ?hd (cs := #[.int .u64 a2_0, .int .u64 a2_1, .int .u64 a2_2, .int .u64 a2_3, .bool a2_4]) (t := 26) ?hr ?_; (case hd => rfl); (case hg => rfl); (case hr => first | (go_simp; done) | (go_simp; rfl)); intro gb533 hg w41 hbox hb; have n0_ := Zq1 (Zb1 (g := gb531) (o := .cells #[.int .u64 a0_0, .int .u64 a0_1, .int .u64 a0_2, .int .u64 a0_3, .bool a0_4] 26 (0, 0)) (by (with_reducible repeat (first | refine Zn1 ?_ _ | refine Zd1 ?_ | refine Za1 ?_ _)); exact BK531.out) hb); have n1_ := Zq1 (Zb1 (g := gb532) (o := .cells #[.int .u64 a1_0, .int .u64 a1_1, .int .u64 a1_2, .int .u64 a1_3, .bool a1_4] 26 (0, 0)) (by (with_reducible repeat (first | refine Zn1 ?_ _ | refine Zd1 ?_ | refine Za1 ?_ _)); exact BK532.out) hb); have n2_ := Zq1 (below_step (by repeat (first | (with_reducible first | exact HB.out | apply below_alloc | apply Zw1 | apply Ze1 | refine Zs1 ?_ GE531.out | refine Zs1 ?_ GE532.out) | exact HB.out)) hb); have n3_ := Zq1 (hbox); have n4_ := Zq1 ((by rw [hg]; exact (below_size (by repeat (first | (with_reducible first | exact HB.out | apply below_alloc | apply Zw1 | apply Ze1 | refine Zs1 ?_ GE531.out | refine Zs1 ?_ GE532.out) | exact HB.out))) : w.heap.size ≤ gb533)); have n5_ := Zq1 ((by rw [hg]; exact (below_size (by repeat (first | (with_reducible first | exact HB.out | apply below_alloc | apply Zw1 | apply Ze1 | refine Zs1 ?_ GE531.out | refine Zs1 ?_ GE532.out) | exact HB.out))) : w.heap.size ≤ gb533)); have n6_ := Zq1 ((by rw [hg]; exact Nat.ne_of_lt (blk_lt (g := gb531) (o := .cells #[.int .u64 a0_0, .int .u64 a0_1, .int .u64 a0_2, .int .u64 a0_3, .bool a0_4] 26 (0, 0)) (by (with_reducible repeat (first | refine Zn1 ?_ _ | refine Zd1 ?_ | refine Za1 ?_ _)); exact BK531.out)) : gb531 ≠ gb533)); have n7_ := Zq1 ((by rw [hg]; exact Nat.ne_of_gt (blk_lt (g := gb531) (o := .cells #[.int .u64 a0_0, .int .u64 a0_1, .int .u64 a0_2, .int .u64 a0_3, .bool a0_4] 26 (0, 0)) (by (with_reducible repeat (first | refine Zn1 ?_ _ | refine Zd1 ?_ | refine Za1 ?_ _)); exact BK531.out)) : gb533 ≠ gb531)); have n8_ := Zq1 ((by rw [hg]; exact Nat.ne_of_lt (blk_lt (g := gb532) (o := .cells #[.int .u64 a1_0, .int .u64 a1_1, .int .u64 a1_2, .int .u64 a1_3, .bool a1_4] 26 (0, 0)) (by (with_reducible repeat (first | refine Zn1 ?_ _ | refine Zd1 ?_ | refine Za1 ?_ _)); exact BK532.out)) : gb532 ≠ gb533)); have n9_ := Zq1 ((by rw [hg]; exact Nat.ne_of_gt (blk_lt (g := gb532) (o := .cells #[.int .u64 a1_0, .int .u64 a1_1, .int .u64 a1_2, .int .u64 a1_3, .bool a1_4] 26 (0, 0)) (by (with_reducible repeat (first | refine Zn1 ?_ _ | refine Zd1 ?_ | refine Za1 ?_ _)); exact BK532.out)) : gb533 ≠ gb532)); clear BK531; clear BK532; clear HB; have BK531 := n0_; have BK532 := n1_; have HB := n2_; have BK533 := n3_; have GW533 := n4_; have GE533 := n5_; have NB531_533 := n6_; have NB533_531 := n7_; have NB532_533 := n8_; have NB533_532 := n9_; clear n0_ n1_ n2_ n3_ n4_ n5_ n6_ n7_ n8_ n9_; clear hb hbox hg) | ((with_reducible refine gate_callee (f := 10) rfl ?_); refine goesL_ (some 13) rfl rfl Tryd.func10 (by kernel_rfl) rfl #[] rfl (by (try simp only [List.map_toArray, List.map_cons, List.map_nil]); first | done | rfl | (simp only [List.length_drop, List.length_take]; rfl)) ?_; (with_reducible refine (tenementlaw06_examples.calls k  true _ A4.out).mono ?_); rintro e w42 ⟨rfl, hb⟩; refine ⟨_, rfl, ?_⟩; have n0_ := Zq1 (Zb1 (g := gb531) (o := .cells #[.int .u64 a0_0, .int .u64 a0_1, .int .u64 a0_2, .int .u64 a0_3, .bool a0_4] 26 (0, 0)) (by (with_reducible repeat (first | refine Zn1 ?_ _ | refine Zd1 ?_ | refine Za1 ?_ _)); exact BK531.out) hb); have n1_ := Zq1 (Zb1 (g := gb532) (o := .cells #[.int .u64 a1_0, .int .u64 a1_1, .int .u64 a1_2, .int .u64 a1_3, .bool a1_4] 26 (0, 0)) (by (with_reducible repeat (first | refine Zn1 ?_ _ | refine Zd1 ?_ | refine Za1 ?_ _)); exact BK532.out) hb); have n2_ := Zq1 (Zb1 (g := gb533) (o := .cells #[.int .u64 a2_0, .int .u64 a2_1, .int .u64 a2_2, .int .u64 a2_3, .bool a2_4] 26 (0, 0)) (by (with_reducible repeat (first | refine Zn1 ?_ _ | refine Zd1 ?_ | refine Za1 ?_ _)); exact BK533.out) hb); have n3_ := Zq1 (below_step (by repeat (first | (with_reducible first | exact HB.out | apply below_alloc | apply Zw1 | apply Ze1 | refine Zs1 ?_ GE531.out | refine Zs1 ?_ GE532.out | refine Zs1 ?_ GE533.out) | exact HB.out)) hb); clear BK531; clear BK532; clear BK533; clear HB; have BK531 := n0_; have BK532 := n1_; have BK533 := n2_; have HB := n3_; clear n0_ n1_ n2_ n3_; (try clear hb); (try clear hb2); (try clear hk); (try clear hi); have hnb43 := NB531_532.out; have hnc43 := NB532_531.out; have hnb44 := NB531_533.out; have hnc44 := NB533_531.out; have hcz45_0 : w42.cell? ⟨gb531, 0, none⟩ = some (.int .u64 a0_0) := (blk_cell BK531.out 0).trans rfl; have hcz45_1 : w42.cell? ⟨gb531, 1, none⟩ = some (.int .u64 a0_1) := (blk_cell BK531.out 1).trans rfl; have hcz45_2 : w42.cell? ⟨gb531, 2, none⟩ = some (.int .u64 a0_2) := (blk_cell BK531.out 2).trans rfl; have hcz45_3 : w42.cell? ⟨gb531, 3, none⟩ = some (.int .u64 a0_3) := (blk_cell BK531.out 3).trans rfl; have hcz45_4 : w42.cell? ⟨gb531, 4, none⟩ = some (.bool a0_4) := (blk_cell BK531.out 4).trans rfl; have hfz45_0 := blk_frozen BK531.out 0; have hfz45_1 := blk_frozen BK531.out 1; have hfz45_2 := blk_frozen BK531.out 2; have hfz45_3 := blk_frozen BK531.out 3; have hfz45_4 := blk_frozen BK531.out 4) | ((with_reducible refine gate_callee (f := 11) rfl ?_); refine goesL_ (some 17) rfl rfl Tryd.func11 (by kernel_rfl) rfl #[.agg #[.int .u64 a0_0, .int .u64 a0_1, .int .u64 a0_2, .int .u64 a0_3, .bool a0_4]] rfl (by (try simp only [List.map_toArray, List.map_cons, List.map_nil]); first | done | rfl | (simp only [List.length_drop, List.length_take]; rfl)) ?_; (with_reducible refine (tenementlaw06_Vector_vector.calls k a0_0 a0_1 a0_2 a0_3 a0_4 t535 t536 t537 t538 _ A6.out).mono ?_); rintro e w46 ⟨rfl, hb⟩; refine ⟨_, rfl, ?_⟩; have n0_ := Zq1 (Zb1 (g := gb531) (o := .cells #[.int .u64 a0_0, .int .u64 a0_1, .int .u64 a0_2, .int .u64 a0_3, .bool a0_4] 26 (0, 0)) (by (with_reducible repeat (first | refine Zn1 ?_ _ | refine Zd1 ?_ | refine Za1 ?_ _)); exact BK531.out) hb); have n1_ := Zq1 (Zb1 (g := gb532) (o := .cells #[.int .u64 a1_0, .int .u64 a1_1, .int .u64 a1_2, .int .u64 a1_3, .bool a1_4] 26 (0, 0)) (by (with_reducible repeat (first | refine Zn1 ?_ _ | refine Zd1 ?_ | refine Za1 ?_ _)); exact BK532.out) hb); have n2_ := Zq1 (Zb1 (g := gb533) (o := .cells #[.int .u64 a2_0, .int .u64 a2_1, .int .u64 a2_2, .int .u64 a2_3, .bool a2_4] 26 (0, 0)) (by (with_reducible repeat (first | refine Zn1 ?_ _ | refine Zd1 ?_ | refine Za1 ?_ _)); exact BK533.out) hb); have n3_ := Zq1 (below_step (by repeat (first | (with_reducible first | exact HB.out | apply below_alloc | apply Zw1 | apply Ze1 | refine Zs1 ?_ GE531.out | refine Zs1 ?_ GE532.out | refine Zs1 ?_ GE533.out) | exact HB.out)) hb); clear BK531; clear BK532; clear BK533; clear HB; have BK531 := n0_; have BK532 := n1_; have BK533 := n2_; have HB := n3_; clear n0_ n1_ n2_ n3_; (try clear hb); (try clear hb2); (try clear hk); (try clear hi)) | ((with_reducible refine gate_dst (N := 8) rfl ?_); refine box_event ?hg (N := 8) ?hd (cs := #[.int .u64 0, .int .u64 0, .int .u64 0, .int .u64 0]) (t := 24) ?hr ?_; (case hd => rfl); (case hg => rfl); (case hr => first | (go_simp; done) | (go_simp; rfl)); intro gb539 hg w47 hbox hb; have n0_ := Zq1 (Zb1 (g := gb531) (o := .cells #[.int .u64 a0_0, .int .u64 a0_1, .int .u64 a0_2, .int .u64 a0_3, .bool a0_4] 26 (0, 0)) (by (with_reducible repeat (first | refine Zn1 ?_ _ | refine Zd1 ?_ | refine Za1 ?_ _)); exact BK531.out) hb); have n1_ := Zq1 (Zb1 (g := gb532) (o := .cells #[.int .u64 a1_0, .int .u64 a1_1, .int .u64 a1_2, .int .u64 a1_3, .bool a1_4] 26 (0, 0)) (by (with_reducible repeat (first | refine Zn1 ?_ _ | refine Zd1 ?_ | refine Za1 ?_ _)); exact BK532.out) hb); have n2_ := Zq1 (Zb1 (g := gb533) (o := .cells #[.int .u64 a2_0, .int .u64 a2_1, .int .u64 a2_2, .int .u64 a2_3, .bool a2_4] 26 (0, 0)) (by (with_reducible repeat (first | refine Zn1 ?_ _ | refine Zd1 ?_ | refine Za1 ?_ _)); exact BK533.out) hb); have n3_ := Zq1 (below_step (by repeat (first | (with_reducible first | exact HB.out | apply below_alloc | apply Zw1 | apply Ze1 | refine Zs1 ?_ GE531.out | refine Zs1 ?_ GE532.out | refine Zs1 ?_ GE533.out) | exact HB.out)) hb); have n4_ := Zq1 (hbox); have n5_ := Zq1 ((by rw [hg]; exact (below_size (by repeat (first | (with_reducible first | exact HB.out | apply below_alloc | apply Zw1 | apply Ze1 | refine Zs1 ?_ GE531.out | refine Zs1 ?_ GE532.out | refine Zs1 ?_ GE533.out) | exact HB.out))) : w.heap.size ≤ gb539)); have n6_ := Zq1 ((by rw [hg]; exact (below_size (by repeat (first | (with_reducible first | exact HB.out | apply below_alloc | apply Zw1 | apply Ze1 | refine Zs1 ?_ GE531.out | refine Zs1 ?_ GE532.out | refine Zs1 ?_ GE533.out) | exact HB.out))) : w.heap.size ≤ gb539)); have n7_ := Zq1 ((by rw [hg]; exact Nat.ne_of_lt (blk_lt (g := gb531) (o := .cells #[.int .u64 a0_0, .int .u64 a0_1, .int .u64 a0_2, .int .u64 a0_3, .bool a0_4] 26 (0, 0)) (by (with_reducible repeat (first | refine Zn1 ?_ _ | refine Zd1 ?_ | refine Za1 ?_ _)); exact BK531.out)) : gb531 ≠ gb539)); have n8_ := Zq1 ((by rw [hg]; exact Nat.ne_of_gt (blk_lt (g := gb531) (o := .cells #[.int .u64 a0_0, .int .u64 a0_1, .int .u64 a0_2, .int .u64 a0_3, .bool a0_4] 26 (0, 0)) (by (with_reducible repeat (first | refine Zn1 ?_ _ | refine Zd1 ?_ | refine Za1 ?_ _)); exact BK531.out)) : gb539 ≠ gb531)); have n9_ := Zq1 ((by rw [hg]; exact Nat.ne_of_lt (blk_lt (g := gb532) (o := .cells #[.int .u64 a1_0, .int .u64 a1_1, .int .u64 a1_2, .int .u64 a1_3, .bool a1_4] 26 (0, 0)) (by (with_reducible repeat (first | refine Zn1 ?_ _ | refine Zd1 ?_ | refine Za1 ?_ _)); exact BK532.out)) : gb532 ≠ gb539)); have n10_ := Zq1 ((by rw [hg]; exact Nat.ne_of_gt (blk_lt (g := gb532) (o := .cells #[.int .u64 a1_0, .int .u64 a1_1, .int .u64 a1_2, .int .u64 a1_3, .bool a1_4] 26 (0, 0)) (by (with_reducible repeat (first | refine Zn1 ?_ _ | refine Zd1 ?_ | refine Za1 ?_ _)); exact BK532.out)) : gb539 ≠ gb532)); have n11_ := Zq1 ((by rw [hg]; exact Nat.ne_of_lt (blk_lt (g := gb533) (o := .cells #[.int .u64 a2_0, .int .u64 a2_1, .int .u64 a2_2, .int .u64 a2_3, .bool a2_4] 26 (0, 0)) (by (with_reducible repeat (first | refine Zn1 ?_ _ | refine Zd1 ?_ | refine Za1 ?_ _)); exact BK533.out)) : gb533 ≠ gb539)); have n12_ := Zq1 ((by rw [hg]; exact Nat.ne_of_gt (blk_lt (g := gb533) (o := .cells #[.int .u64 a2_0, .int .u64 a2_1, .int .u64 a2_2, .int .u64 a2_3, .bool a2_4] 26 (0, 0)) (by (with_reducible repeat (first | refine Zn1 ?_ _ | refine Zd1 ?_ | refine Za1 ?_ _)); exact BK533.out)) : gb539 ≠ gb533)); clear BK531; clear BK532; clear BK533; clear HB; have BK531 := n0_; have BK532 := n1_; have BK533 := n2_; have HB := n3_; have BK539 := n4_; have GW539 := n5_; have GE539 := n6_; have NB531_539 := n7_; have NB539_531 := n8_; have NB532_539 := n9_; have NB539_532 := n10_; have NB533_539 := n11_; have NB539_533 := n12_; clear n0_ n1_ n2_ n3_ n4_ n5_ n6_ n7_ n8_ n9_ n10_ n11_ n12_; clear hb hbox hg; have hnb48 := NB539_531.out; have hnc48 := NB531_539.out; have hnb49 := NB539_532.out; have hnc49 := NB532_539.out; have hnb50 := NB539_533.out; have hnc50 := NB533_539.out; have hcz51_0 : w47.cell? ⟨gb539, 0, none⟩ = some (.int .u64 0) := (blk_cell BK539.out 0).trans rfl; have hcz51_1 : w47.cell? ⟨gb539, 1, none⟩ = some (.int .u64 0) := (blk_cell BK539.out 1).trans rfl; have hcz51_2 : w47.cell? ⟨gb539, 2, none⟩ = some (.int .u64 0) := (blk_cell BK539.out 2).trans rfl; have hcz51_3 : w47.cell? ⟨gb539, 3, none⟩ = some (.int .u64 0) := (blk_cell BK539.out 3).trans rfl; have hfz51_0 := blk_frozen BK539.out 0; have hfz51_1 := blk_frozen BK539.out 1; have hfz51_2 := blk_frozen BK539.out 2; have hfz51_3 := blk_frozen BK539.out 3; have hnb52 := NB532_533.out; have hnc52 := NB533_532.out; have hcz53_0 : w47.cell? ⟨gb532, 0, none⟩ = some (.int .u64 a1_0) := (blk_cell BK532.out 0).trans rfl; have hcz53_1 : w47.cell? ⟨gb532, 1, none⟩ = some (.int .u64 a1_1) := (blk_cell BK532.out 1).trans rfl; have hcz53_2 : w47.cell? ⟨gb532, 2, none⟩ = some (.int .u64 a1_2) := (blk_cell BK532.out 2).trans rfl; have hcz53_3 : w47.cell? ⟨gb532, 3, none⟩ = some (.int .u64 a1_3) := (blk_cell BK532.out 3).trans rfl; have hcz53_4 : w47.cell? ⟨gb532, 4, none⟩ = some (.bool a1_4) := (blk_cell BK532.out 4).trans rfl; have hfz53_0 := blk_frozen BK532.out 0; have hfz53_1 := blk_frozen BK532.out 1; have hfz53_2 := blk_frozen BK532.out 2; have hfz53_3 := blk_frozen BK532.out 3; have hfz53_4 := blk_frozen BK532.out 4) | ((with_reducible refine gate_callee (f := 11) rfl ?_); refine goesL_ (some 19) rfl rfl Tryd.func11 (by kernel_rfl) rfl #[.agg #[.int .u64 a1_0, .int .u64 a1_1, .int .u64 a1_2, .int .u64 a1_3, .bool a1_4]] rfl (by (try simp only [List.map_toArray, List.map_cons, List.map_nil]); first | done | rfl | (simp only [List.length_drop, List.length_take]; rfl)) ?_; (with_reducible refine (tenementlaw06_Vector_vector.calls k a1_0 a1_1 a1_2 a1_3 a1_4 t540 t541 t542 t543 _ A7.out).mono ?_); rintro e w54 ⟨rfl, hb⟩; refine ⟨_, rfl, ?_⟩; have n0_ := Zq1 (Zb1 (g := gb531) (o := .cells #[.int .u64 a0_0, .int .u64 a0_1, .int .u64 a0_2, .int .u64 a0_3, .bool a0_4] 26 (0, 0)) (by (repeat (first | (with_reducible first | refine Zn1 ?_ _ | refine Zd1 ?_ | refine Za1 ?_ _) | refine Zf1 ?_ NB531_539.out _)); exact BK531.out) hb); have n1_ := Zq1 (Zb1 (g := gb532) (o := .cells #[.int .u64 a1_0, .int .u64 a1_1, .int .u64 a1_2, .int .u64 a1_3, .bool a1_4] 26 (0, 0)) (by (repeat (first | (with_reducible first | refine Zn1 ?_ _ | refine Zd1 ?_ | refine Za1 ?_ _) | refine Zf1 ?_ NB532_539.out _)); exact BK532.out) hb); have n2_ := Zq1 (Zb1 (g := gb533) (o := .cells #[.int .u64 a2_0, .int .u64 a2_1, .int .u64 a2_2, .int .u64 a2_3, .bool a2_4] 26 (0, 0)) (by (repeat (first | (with_reducible first | refine Zn1 ?_ _ | refine Zd1 ?_ | refine Za1 ?_ _) | refine Zf1 ?_ NB533_539.out _)); exact BK533.out) hb); have n3_ := Zq1 (Zb1 (g := gb539) (o := .cells #[.int .u64 t535, .int .u64 t536, .int .u64 t537, .int .u64 t538] 24 (0, 0)) (by (with_reducible repeat (first | refine Zn1 ?_ _ | refine Zd1 ?_ | refine Za1 ?_ _)); refine blk_put (cs := #[.int .u64 t535, .int .u64 t536, .int .u64 t537, .int .u64 0]) ?_ 3 _ rfl; (with_reducible repeat (first | refine Zn1 ?_ _ | refine Zd1 ?_ | refine Za1 ?_ _)); refine blk_put (cs := #[.int .u64 t535, .int .u64 t536, .int .u64 0, .int .u64 0]) ?_ 2 _ rfl; (with_reducible repeat (first | refine Zn1 ?_ _ | refine Zd1 ?_ | refine Za1 ?_ _)); refine blk_put (cs := #[.int .u64 t535, .int .u64 0, .int .u64 0, .int .u64 0]) ?_ 1 _ rfl; (with_reducible repeat (first | refine Zn1 ?_ _ | refine Zd1 ?_ | refine Za1 ?_ _)); refine blk_put (cs := #[.int .u64 0, .int .u64 0, .int .u64 0, .int .u64 0]) ?_ 0 _ rfl; (with_reducible repeat (first | refine Zn1 ?_ _ | refine Zd1 ?_ | refine Za1 ?_ _)); exact BK539.out) hb); have n4_ := Zq1 (below_step (by repeat (first | (with_reducible first | exact HB.out | apply below_alloc | apply Zw1 | apply Ze1 | refine Zs1 ?_ GE531.out | refine Zs1 ?_ GE532.out | refine Zs1 ?_ GE533.out | refine Zs1 ?_ GE539.out) | exact HB.out)) hb); clear BK531; clear BK532; clear BK533; clear BK539; clear HB; have BK531 := n0_; have BK532 := n1_; have BK533 := n2_; have BK539 := n3_; have HB := n4_; clear n0_ n1_ n2_ n3_ n4_; (try clear hb); (try clear hb2); (try clear hk); (try clear hi)) | ((with_reducible refine gate_dst (N := 9) rfl ?_); refine box_event ?hg (N := 9) ?hd (cs := #[.int .u64 0, .int .u64 0, .int .u64 0, .int .u64 0]) (t := 24) ?hr ?_; (case hd => rfl); (case hg => rfl); (case hr => first | (go_simp; done) | (go_simp; rfl)); intro gb544 hg w55 hbox hb; have n0_ := Zq1 (Zb1 (g := gb531) (o := .cells #[.int .u64 a0_0, .int .u64 a0_1, .int .u64 a0_2, .int .u64 a0_3, .bool a0_4] 26 (0, 0)) (by (with_reducible repeat (first | refine Zn1 ?_ _ | refine Zd1 ?_ | refine Za1 ?_ _)); exact BK531.out) hb); have n1_ := Zq1 (Zb1 (g := gb532) (o := .cells #[.int .u64 a1_0, .int .u64 a1_1, .int .u64 a1_2, .int .u64 a1_3, .bool a1_4] 26 (0, 0)) (by (with_reducible repeat (first | refine Zn1 ?_ _ | refine Zd1 ?_ | refine Za1 ?_ _)); exact BK532.out) hb); have n2_ := Zq1 (Zb1 (g := gb533) (o := .cells #[.int .u64 a2_0, .int .u64 a2_1, .int .u64 a2_2, .int .u64 a2_3, .bool a2_4] 26 (0, 0)) (by (with_reducible repeat (first | refine Zn1 ?_ _ | refine Zd1 ?_ | refine Za1 ?_ _)); exact BK533.out) hb); have n3_ := Zq1 (Zb1 (g := gb539) (o := .cells #[.int .u64 t535, .int .u64 t536, .int .u64 t537, .int .u64 t538] 24 (0, 0)) (by (with_reducible repeat (first | refine Zn1 ?_ _ | refine Zd1 ?_ | refine Za1 ?_ _)); exact BK539.out) hb); have n4_ := Zq1 (below_step (by repeat (first | (with_reducible first | exact HB.out | apply below_alloc | apply Zw1 | apply Ze1 | refine Zs1 ?_ GE531.out | refine Zs1 ?_ GE532.out | refine Zs1 ?_ GE533.out | refine Zs1 ?_ GE539.out) | exact HB.out)) hb); have n5_ := Zq1 (hbox); have n6_ := Zq1 ((by rw [hg]; exact (below_size (by repeat (first | (with_reducible first | exact HB.out | apply below_alloc | apply Zw1 | apply Ze1 | refine Zs1 ?_ GE531.out | refine Zs1 ?_ GE532.out | refine Zs1 ?_ GE533.out | refine Zs1 ?_ GE539.out) | exact HB.out))) : w.heap.size ≤ gb544)); have n7_ := Zq1 ((by rw [hg]; exact (below_size (by repeat (first | (with_reducible first | exact HB.out | apply below_alloc | apply Zw1 | apply Ze1 | refine Zs1 ?_ GE531.out | refine Zs1 ?_ GE532.out | refine Zs1 ?_ GE533.out | refine Zs1 ?_ GE539.out) | exact HB.out))) : w.heap.size ≤ gb544)); have n8_ := Zq1 ((by rw [hg]; exact Nat.ne_of_lt (blk_lt (g := gb531) (o := .cells #[.int .u64 a0_0, .int .u64 a0_1, .int .u64 a0_2, .int .u64 a0_3, .bool a0_4] 26 (0, 0)) (by (with_reducible repeat (first | refine Zn1 ?_ _ | refine Zd1 ?_ | refine Za1 ?_ _)); exact BK531.out)) : gb531 ≠ gb544)); have n9_ := Zq1 ((by rw [hg]; exact Nat.ne_of_gt (blk_lt (g := gb531) (o := .cells #[.int .u64 a0_0, .int .u64 a0_1, .int .u64 a0_2, .int .u64 a0_3, .bool a0_4] 26 (0, 0)) (by (with_reducible repeat (first | refine Zn1 ?_ _ | refine Zd1 ?_ | refine Za1 ?_ _)); exact BK531.out)) : gb544 ≠ gb531)); have n10_ := Zq1 ((by rw [hg]; exact Nat.ne_of_lt (blk_lt (g := gb532) (o := .cells #[.int .u64 a1_0, .int .u64 a1_1, .int .u64 a1_2, .int .u64 a1_3, .bool a1_4] 26 (0, 0)) (by (with_reducible repeat (first | refine Zn1 ?_ _ | refine Zd1 ?_ | refine Za1 ?_ _)); exact BK532.out)) : gb532 ≠ gb544)); have n11_ := Zq1 ((by rw [hg]; exact Nat.ne_of_gt (blk_lt (g := gb532) (o := .cells #[.int .u64 a1_0, .int .u64 a1_1, .int .u64 a1_2, .int .u64 a1_3, .bool a1_4] 26 (0, 0)) (by (with_reducible repeat (first | refine Zn1 ?_ _ | refine Zd1 ?_ | refine Za1 ?_ _)); exact BK532.out)) : gb544 ≠ gb532)); have n12_ := Zq1 ((by rw [hg]; exact Nat.ne_of_lt (blk_lt (g := gb533) (o := .cells #[.int .u64 a2_0, .int .u64 a2_1, .int .u64 a2_2, .int .u64 a2_3, .bool a2_4] 26 (0, 0)) (by (with_reducible repeat (first | refine Zn1 ?_ _ | refine Zd1 ?_ | refine Za1 ?_ _)); exact BK533.out)) : gb533 ≠ gb544)); have n13_ := Zq1 ((by rw [hg]; exact Nat.ne_of_gt (blk_lt (g := gb533) (o := .cells #[.int .u64 a2_0, .int .u64 a2_1, .int .u64 a2_2, .int .u64 a2_3, .bool a2_4] 26 (0, 0)) (by (with_reducible repeat (first | refine Zn1 ?_ _ | refine Zd1 ?_ | refine Za1 ?_ _)); exact BK533.out)) : gb544 ≠ gb533)); have n14_ := Zq1 ((by rw [hg]; exact Nat.ne_of_lt (blk_lt (g := gb539) (o := .cells #[.int .u64 t535, .int .u64 t536, .int .u64 t537, .int .u64 t538] 24 (0, 0)) (by (with_reducible repeat (first | refine Zn1 ?_ _ | refine Zd1 ?_ | refine Za1 ?_ _)); exact BK539.out)) : gb539 ≠ gb544)); have n15_ := Zq1 ((by rw [hg]; exact Nat.ne_of_gt (blk_lt (g := gb539) (o := .cells #[.int .u64 t535, .int .u64 t536, .int .u64 t537, .int .u64 t538] 24 (0, 0)) (by (with_reducible repeat (first | refine Zn1 ?_ _ | refine Zd1 ?_ | refine Za1 ?_ _)); exact BK539.out)) : gb544 ≠ gb539)); clear BK531; clear BK532; clear BK533; clear BK539; clear HB; have BK531 := n0_; have BK532 := n1_; have BK533 := n2_; have BK539 := n3_; have HB := n4_; have BK544 := n5_; have GW544 := n6_; have GE544 := n7_; have NB531_544 := n8_; have NB544_531 := n9_; have NB532_544 := n10_; have NB544_532 := n11_; have NB533_544 := n12_; have NB544_533 := n13_; have NB539_544 := n14_; have NB544_539 := n15_; clear n0_ n1_ n2_ n3_ n4_ n5_ n6_ n7_ n8_ n9_ n10_ n11_ n12_ n13_ n14_ n15_; clear hb hbox hg; have hnb56 := NB544_531.out; have hnc56 := NB531_544.out; have hnb57 := NB544_532.out; have hnc57 := NB532_544.out; have hnb58 := NB544_533.out; have hnc58 := NB533_544.out; have hnb59 := NB544_539.out; have hnc59 := NB539_544.out; have hcz60_0 : w55.cell? ⟨gb544, 0, none⟩ = some (.int .u64 0) := (blk_cell BK544.out 0).trans rfl; have hcz60_1 : w55.cell? ⟨gb544, 1, none⟩ = some (.int .u64 0) := (blk_cell BK544.out 1).trans rfl; have hcz60_2 : w55.cell? ⟨gb544, 2, none⟩ = some (.int .u64 0) := (blk_cell BK544.out 2).trans rfl; have hcz60_3 : w55.cell? ⟨gb544, 3, none⟩ = some (.int .u64 0) := (blk_cell BK544.out 3).trans rfl; have hfz60_0 := blk_frozen BK544.out 0; have hfz60_1 := blk_frozen BK544.out 1; have hfz60_2 := blk_frozen BK544.out 2; have hfz60_3 := blk_frozen BK544.out 3; have hcz61_0 : w55.cell? ⟨gb533, 0, none⟩ = some (.int .u64 a2_0) := (blk_cell BK533.out 0).trans rfl; have hcz61_1 : w55.cell? ⟨gb533, 1, none⟩ = some (.int .u64 a2_1) := (blk_cell BK533.out 1).trans rfl; have hcz61_2 : w55.cell? ⟨gb533, 2, none⟩ = some (.int .u64 a2_2) := (blk_cell BK533.out 2).trans rfl; have hcz61_3 : w55.cell? ⟨gb533, 3, none⟩ = some (.int .u64 a2_3) := (blk_cell BK533.out 3).trans rfl; have hcz61_4 : w55.cell? ⟨gb533, 4, none⟩ = some (.bool a2_4) := (blk_cell BK533.out 4).trans rfl; have hfz61_0 := blk_frozen BK533.out 0; have hfz61_1 := blk_frozen BK533.out 1; have hfz61_2 := blk_frozen BK533.out 2; have hfz61_3 := blk_frozen BK533.out 3; have hfz61_4 := blk_frozen BK533.out 4) | ((with_reducible refine gate_callee (f := 11) rfl ?_); refine goesL_ (some 21) rfl rfl Tryd.func11 (by kernel_rfl) rfl #[.agg #[.int .u64 a2_0, .int .u64 a2_1, .int .u64 a2_2, .int .u64 a2_3, .bool a2_4]] rfl (by (try simp only [List.map_toArray, List.map_cons, List.map_nil]); first | done | rfl | (simp only [List.length_drop, List.length_take]; rfl)) ?_; (with_reducible refine (tenementlaw06_Vector_vector.calls k a2_0 a2_1 a2_2 a2_3 a2_4 t545 t546 t547 t548 _ A8.out).mono ?_); rintro e w62 ⟨rfl, hb⟩; refine ⟨_, rfl, ?_⟩; have n0_ := Zq1 (Zb1 (g := gb531) (o := .cells #[.int .u64 a0_0, .int .u64 a0_1, .int .u64 a0_2, .int .u64 a0_3, .bool a0_4] 26 (0, 0)) (by (repeat (first | (with_reducible first | refine Zn1 ?_ _ | refine Zd1 ?_ | refine Za1 ?_ _) | refine Zf1 ?_ NB531_544.out _)); exact BK531.out) hb); have n1_ := Zq1 (Zb1 (g := gb532) (o := .cells #[.int .u64 a1_0, .int .u64 a1_1, .int .u64 a1_2, .int .u64 a1_3, .bool a1_4] 26 (0, 0)) (by (repeat (first | (with_reducible first | refine Zn1 ?_ _ | refine Zd1 ?_ | refine Za1 ?_ _) | refine Zf1 ?_ NB532_544.out _)); exact BK532.out) hb); have n2_ := Zq1 (Zb1 (g := gb533) (o := .cells #[.int .u64 a2_0, .int .u64 a2_1, .int .u64 a2_2, .int .u64 a2_3, .bool a2_4] 26 (0, 0)) (by (repeat (first | (with_reducible first | refine Zn1 ?_ _ | refine Zd1 ?_ | refine Za1 ?_ _) | refine Zf1 ?_ NB533_544.out _)); exact BK533.out) hb); have n3_ := Zq1 (Zb1 (g := gb539) (o := .cells #[.int .u64 t535, .int .u64 t536, .int .u64 t537, .int .u64 t538] 24 (0, 0)) (by (repeat (first | (with_reducible first | refine Zn1 ?_ _ | refine Zd1 ?_ | refine Za1 ?_ _) | refine Zf1 ?_ NB539_544.out _)); exact BK539.out) hb); have n4_ := Zq1 (Zb1 (g := gb544) (o := .cells #[.int .u64 t540, .int .u64 t541, .int .u64 t542, .int .u64 t543] 24 (0, 0)) (by (with_reducible repeat (first | refine Zn1 ?_ _ | refine Zd1 ?_ | refine Za1 ?_ _)); refine blk_put (cs := #[.int .u64 t540, .int .u64 t541, .int .u64 t542, .int .u64 0]) ?_ 3 _ rfl; (with_reducible repeat (first | refine Zn1 ?_ _ | refine Zd1 ?_ | refine Za1 ?_ _)); refine blk_put (cs := #[.int .u64 t540, .int .u64 t541, .int .u64 0, .int .u64 0]) ?_ 2 _ rfl; (with_reducible repeat (first | refine Zn1 ?_ _ | refine Zd1 ?_ | refine Za1 ?_ _)); refine blk_put (cs := #[.int .u64 t540, .int .u64 0, .int .u64 0, .int .u64 0]) ?_ 1 _ rfl; (with_reducible repeat (first | refine Zn1 ?_ _ | refine Zd1 ?_ | refine Za1 ?_ _)); refine blk_put (cs := #[.int .u64 0, .int .u64 0, .int .u64 0, .int .u64 0]) ?_ 0 _ rfl; (with_reducible repeat (first | refine Zn1 ?_ _ | refine Zd1 ?_ | refine Za1 ?_ _)); exact BK544.out) hb); have n5_ := Zq1 (below_step (by repeat (first | (with_reducible first | exact HB.out | apply below_alloc | apply Zw1 | apply Ze1 | refine Zs1 ?_ GE531.out | refine Zs1 ?_ GE532.out | refine Zs1 ?_ GE533.out | refine Zs1 ?_ GE539.out | refine Zs1 ?_ GE544.out) | exact HB.out)) hb); clear BK531; clear BK532; clear BK533; clear BK539; clear BK544; clear HB; have BK531 := n0_; have BK532 := n1_; have BK533 := n2_; have BK539 := n3_; have BK544 := n4_; have HB := n5_; clear n0_ n1_ n2_ n3_ n4_ n5_; (try clear hb); (try clear hb2); (try clear hk); (try clear hi)) | ((with_reducible refine gate_dst (N := 10) rfl ?_); refine box_event ?hg (N := 10) ?hd (cs := #[.int .u64 0, .int .u64 0, .int .u64 0, .int .u64 0]) (t := 24) ?hr ?_; (case hd => rfl); (case hg => rfl); (case hr => first | (go_simp; done) | (go_simp; rfl)); intro gb549 hg w63 hbox hb; have n0_ := Zq1 (Zb1 (g := gb531) (o := .cells #[.int .u64 a0_0, .int .u64 a0_1, .int .u64 a0_2, .int .u64 a0_3, .bool a0_4] 26 (0, 0)) (by (with_reducible repeat (first | refine Zn1 ?_ _ | refine Zd1 ?_ | refine Za1 ?_ _)); exact BK531.out) hb); have n1_ := Zq1 (Zb1 (g := gb532) (o := .cells #[.int .u64 a1_0, .int .u64 a1_1, .int .u64 a1_2, .int .u64 a1_3, .bool a1_4] 26 (0, 0)) (by (with_reducible repeat (first | refine Zn1 ?_ _ | refine Zd1 ?_ | refine Za1 ?_ _)); exact BK532.out) hb); have n2_ := Zq1 (Zb1 (g := gb533) (o := .cells #[.int .u64 a2_0, .int .u64 a2_1, .int .u64 a2_2, .int .u64 a2_3, .bool a2_4] 26 (0, 0)) (by (with_reducible repeat (first | refine Zn1 ?_ _ | refine Zd1 ?_ | refine Za1 ?_ _)); exact BK533.out) hb); have n3_ := Zq1 (Zb1 (g := gb539) (o := .cells #[.int .u64 t535, .int .u64 t536, .int .u64 t537, .int .u64 t538] 24 (0, 0)) (by (with_reducible repeat (first | refine Zn1 ?_ _ | refine Zd1 ?_ | refine Za1 ?_ _)); exact BK539.out) hb); have n4_ := Zq1 (Zb1 (g := gb544) (o := .cells #[.int .u64 t540, .int .u64 t541, .int .u64 t542, .int .u64 t543] 24 (0, 0)) (by (with_reducible repeat (first | refine Zn1 ?_ _ | refine Zd1 ?_ | refine Za1 ?_ _)); exact BK544.out) hb); have n5_ := Zq1 (below_step (by repeat (first | (with_reducible first | exact HB.out | apply below_alloc | apply Zw1 | apply Ze1 | refine Zs1 ?_ GE531.out | refine Zs1 ?_ GE532.out | refine Zs1 ?_ GE533.out | refine Zs1 ?_ GE539.out | refine Zs1 ?_ GE544.out) | exact HB.out)) hb); have n6_ := Zq1 (hbox); have n7_ := Zq1 ((by rw [hg]; exact (below_size (by repeat (first | (with_reducible first | exact HB.out | apply below_alloc | apply Zw1 | apply Ze1 | refine Zs1 ?_ GE531.out | refine Zs1 ?_ GE532.out | refine Zs1 ?_ GE533.out | refine Zs1 ?_ GE539.out | refine Zs1 ?_ GE544.out) | exact HB.out))) : w.heap.size ≤ gb549)); have n8_ := Zq1 ((by rw [hg]; exact (below_size (by repeat (first | (with_reducible first | exact HB.out | apply below_alloc | apply Zw1 | apply Ze1 | refine Zs1 ?_ GE531.out | refine Zs1 ?_ GE532.out | refine Zs1 ?_ GE533.out | refine Zs1 ?_ GE539.out | refine Zs1 ?_ GE544.out) | exact HB.out))) : w.heap.size ≤ gb549)); have n9_ := Zq1 ((by rw [hg]; exact Nat.ne_of_lt (blk_lt (g := gb531) (o := .cells #[.int .u64 a0_0, .int .u64 a0_1, .int .u64 a0_2, .int .u64 a0_3, .bool a0_4] 26 (0, 0)) (by (with_reducible repeat (first | refine Zn1 ?_ _ | refine Zd1 ?_ | refine Za1 ?_ _)); exact BK531.out)) : gb531 ≠ gb549)); have n10_ := Zq1 ((by rw [hg]; exact Nat.ne_of_gt (blk_lt (g := gb531) (o := .cells #[.int .u64 a0_0, .int .u64 a0_1, .int .u64 a0_2, .int .u64 a0_3, .bool a0_4] 26 (0, 0)) (by (with_reducible repeat (first | refine Zn1 ?_ _ | refine Zd1 ?_ | refine Za1 ?_ _)); exact BK531.out)) : gb549 ≠ gb531)); have n11_ := Zq1 ((by rw [hg]; exact Nat.ne_of_lt (blk_lt (g := gb532) (o := .cells #[.int .u64 a1_0, .int .u64 a1_1, .int .u64 a1_2, .int .u64 a1_3, .bool a1_4] 26 (0, 0)) (by (with_reducible repeat (first | refine Zn1 ?_ _ | refine Zd1 ?_ | refine Za1 ?_ _)); exact BK532.out)) : gb532 ≠ gb549)); have n12_ := Zq1 ((by rw [hg]; exact Nat.ne_of_gt (blk_lt (g := gb532) (o := .cells #[.int .u64 a1_0, .int .u64 a1_1, .int .u64 a1_2, .int .u64 a1_3, .bool a1_4] 26 (0, 0)) (by (with_reducible repeat (first | refine Zn1 ?_ _ | refine Zd1 ?_ | refine Za1 ?_ _)); exact BK532.out)) : gb549 ≠ gb532)); have n13_ := Zq1 ((by rw [hg]; exact Nat.ne_of_lt (blk_lt (g := gb533) (o := .cells #[.int .u64 a2_0, .int .u64 a2_1, .int .u64 a2_2, .int .u64 a2_3, .bool a2_4] 26 (0, 0)) (by (with_reducible repeat (first | refine Zn1 ?_ _ | refine Zd1 ?_ | refine Za1 ?_ _)); exact BK533.out)) : gb533 ≠ gb549)); have n14_ := Zq1 ((by rw [hg]; exact Nat.ne_of_gt (blk_lt (g := gb533) (o := .cells #[.int .u64 a2_0, .int .u64 a2_1, .int .u64 a2_2, .int .u64 a2_3, .bool a2_4] 26 (0, 0)) (by (with_reducible repeat (first | refine Zn1 ?_ _ | refine Zd1 ?_ | refine Za1 ?_ _)); exact BK533.out)) : gb549 ≠ gb533)); have n15_ := Zq1 ((by rw [hg]; exact Nat.ne_of_lt (blk_lt (g := gb539) (o := .cells #[.int .u64 t535, .int .u64 t536, .int .u64 t537, .int .u64 t538] 24 (0, 0)) (by (with_reducible repeat (first | refine Zn1 ?_ _ | refine Zd1 ?_ | refine Za1 ?_ _)); exact BK539.out)) : gb539 ≠ gb549)); have n16_ := Zq1 ((by rw [hg]; exact Nat.ne_of_gt (blk_lt (g := gb539) (o := .cells #[.int .u64 t535, .int .u64 t536, .int .u64 t537, .int .u64 t538] 24 (0, 0)) (by (with_reducible repeat (first | refine Zn1 ?_ _ | refine Zd1 ?_ | refine Za1 ?_ _)); exact BK539.out)) : gb549 ≠ gb539)); have n17_ := Zq1 ((by rw [hg]; exact Nat.ne_of_lt (blk_lt (g := gb544) (o := .cells #[.int .u64 t540, .int .u64 t541, .int .u64 t542, .int .u64 t543] 24 (0, 0)) (by (with_reducible repeat (first | refine Zn1 ?_ _ | refine Zd1 ?_ | refine Za1 ?_ _)); exact BK544.out)) : gb544 ≠ gb549)); have n18_ := Zq1 ((by rw [hg]; exact Nat.ne_of_gt (blk_lt (g := gb544) (o := .cells #[.int .u64 t540, .int .u64 t541, .int .u64 t542, .int .u64 t543] 24 (0, 0)) (by (with_reducible repeat (first | refine Zn1 ?_ _ | refine Zd1 ?_ | refine Za1 ?_ _)); exact BK544.out)) : gb549 ≠ gb544)); clear BK531; clear BK532; clear BK533; clear BK539; clear BK544; clear HB; have BK531 := n0_; have BK532 := n1_; have BK533 := n2_; have BK539 := n3_; have BK544 := n4_; have HB := n5_; have BK549 := n6_; have GW549 := n7_; have GE549 := n8_; have NB531_549 := n9_; have NB549_531 := n10_; have NB532_549 := n11_; have NB549_532 := n12_; have NB533_549 := n13_; have NB549_533 := n14_; have NB539_549 := n15_; have NB549_539 := n16_; have NB544_549 := n17_; have NB549_544 := n18_; clear n0_ n1_ n2_ n3_ n4_ n5_ n6_ n7_ n8_ n9_ n10_ n11_ n12_ n13_ n14_ n15_ n16_ n17_ n18_; clear hb hbox hg; have hnb64 := NB549_531.out; have hnc64 := NB531_549.out; have hnb65 := NB549_532.out; have hnc65 := NB532_549.out; have hnb66 := NB549_533.out; have hnc66 := NB533_549.out; have hnb67 := NB549_539.out; have hnc67 := NB539_549.out; have hnb68 := NB549_544.out; have hnc68 := NB544_549.out; have hcz69_0 : w63.cell? ⟨gb549, 0, none⟩ = some (.int .u64 0) := (blk_cell BK549.out 0).trans rfl; have hcz69_1 : w63.cell? ⟨gb549, 1, none⟩ = some (.int .u64 0) := (blk_cell BK549.out 1).trans rfl; have hcz69_2 : w63.cell? ⟨gb549, 2, none⟩ = some (.int .u64 0) := (blk_cell BK549.out 2).trans rfl; have hcz69_3 : w63.cell? ⟨gb549, 3, none⟩ = some (.int .u64 0) := (blk_cell BK549.out 3).trans rfl; have hfz69_0 := blk_frozen BK549.out 0; have hfz69_1 := blk_frozen BK549.out 1; have hfz69_2 := blk_frozen BK549.out 2; have hfz69_3 := blk_frozen BK549.out 3; have hcz70_0 : w63.cell? ⟨gb539, 0, none⟩ = some (.int .u64 t535) := (blk_cell BK539.out 0).trans rfl; have hcz70_1 : w63.cell? ⟨gb539, 1, none⟩ = some (.int .u64 t536) := (blk_cell BK539.out 1).trans rfl; have hcz70_2 : w63.cell? ⟨gb539, 2, none⟩ = some (.int .u64 t537) := (blk_cell BK539.out 2).trans rfl; have hcz70_3 : w63.cell? ⟨gb539, 3, none⟩ = some (.int .u64 t538) := (blk_cell BK539.out 3).trans rfl; have hfz70_0 := blk_frozen BK539.out 0; have hfz70_1 := blk_frozen BK539.out 1; have hfz70_2 := blk_frozen BK539.out 2; have hfz70_3 := blk_frozen BK539.out 3; have hcz71_0 : w63.cell? ⟨gb544, 0, none⟩ = some (.int .u64 t540) := (blk_cell BK544.out 0).trans rfl; have hcz71_1 : w63.cell? ⟨gb544, 1, none⟩ = some (.int .u64 t541) := (blk_cell BK544.out 1).trans rfl; have hcz71_2 : w63.cell? ⟨gb544, 2, none⟩ = some (.int .u64 t542) := (blk_cell BK544.out 2).trans rfl; have hcz71_3 : w63.cell? ⟨gb544, 3, none⟩ = some (.int .u64 t543) := (blk_cell BK544.out 3).trans rfl; have hfz71_0 := blk_frozen BK544.out 0; have hfz71_1 := blk_frozen BK544.out 1; have hfz71_2 := blk_frozen BK544.out 2; have hfz71_3 := blk_frozen BK544.out 3) | ((with_reducible refine gate_callee (f := 12) rfl ?_); refine goesL_ (some 24) rfl rfl Tryd.func12 (by kernel_rfl) rfl #[.agg #[.int .u64 t535, .int .u64 t536, .int .u64 t537, .int .u64 t538], .agg #[.int .u64 t540, .int .u64 t541, .int .u64 t542, .int .u64 t543]] rfl (by (try simp only [List.map_toArray, List.map_cons, List.map_nil]); first | done | rfl | (simp only [List.length_drop, List.length_take]; rfl)) ?_; (with_reducible refine (vec_Join.calls t535 t536 t537 t538 t540 t541 t542 t543 t550 t551 t552 t553 _ A9.out).mono ?_); rintro e w72 ⟨rfl, hb⟩; refine ⟨_, rfl, ?_⟩; have n0_ := Zq1 (Zb1 (g := gb531) (o := .cells #[.int .u64 a0_0, .int .u64 a0_1, .int .u64 a0_2, .int .u64 a0_3, .bool a0_4] 26 (0, 0)) (by (repeat (first | (with_reducible first | refine Zn1 ?_ _ | refine Zd1 ?_ | refine Za1 ?_ _) | refine Zf1 ?_ NB531_549.out _)); exact BK531.out) hb); have n1_ := Zq1 (Zb1 (g := gb532) (o := .cells #[.int .u64 a1_0, .int .u64 a1_1, .int .u64 a1_2, .int .u64 a1_3, .bool a1_4] 26 (0, 0)) (by (repeat (first | (with_reducible first | refine Zn1 ?_ _ | refine Zd1 ?_ | refine Za1 ?_ _) | refine Zf1 ?_ NB532_549.out _)); exact BK532.out) hb); have n2_ := Zq1 (Zb1 (g := gb533) (o := .cells #[.int .u64 a2_0, .int .u64 a2_1, .int .u64 a2_2, .int .u64 a2_3, .bool a2_4] 26 (0, 0)) (by (repeat (first | (with_reducible first | refine Zn1 ?_ _ | refine Zd1 ?_ | refine Za1 ?_ _) | refine Zf1 ?_ NB533_549.out _)); exact BK533.out) hb); have n3_ := Zq1 (Zb1 (g := gb539) (o := .cells #[.int .u64 t535, .int .u64 t536, .int .u64 t537, .int .u64 t538] 24 (0, 0)) (by (repeat (first | (with_reducible first | refine Zn1 ?_ _ | refine Zd1 ?_ | refine Za1 ?_ _) | refine Zf1 ?_ NB539_549.out _)); exact BK539.out) hb); have n4_ := Zq1 (Zb1 (g := gb544) (o := .cells #[.int .u64 t540, .int .u64 t541, .int .u64 t542, .int .u64 t543] 24 (0, 0)) (by (repeat (first | (with_reducible first | refine Zn1 ?_ _ | refine Zd1 ?_ | refine Za1 ?_ _) | refine Zf1 ?_ NB544_549.out _)); exact BK544.out) hb); have n5_ := Zq1 (Zb1 (g := gb549) (o := .cells #[.int .u64 t545, .int .u64 t546, .int .u64 t547, .int .u64 t548] 24 (0, 0)) (by (with_reducible repeat (first | refine Zn1 ?_ _ | refine Zd1 ?_ | refine Za1 ?_ _)); refine blk_put (cs := #[.int .u64 t545, .int .u64 t546, .int .u64 t547, .int .u64 0]) ?_ 3 _ rfl; (with_reducible repeat (first | refine Zn1 ?_ _ | refine Zd1 ?_ | refine Za1 ?_ _)); refine blk_put (cs := #[.int .u64 t545, .int .u64 t546, .int .u64 0, .int .u64 0]) ?_ 2 _ rfl; (with_reducible repeat (first | refine Zn1 ?_ _ | refine Zd1 ?_ | refine Za1 ?_ _)); refine blk_put (cs := #[.int .u64 t545, .int .u64 0, .int .u64 0, .int .u64 0]) ?_ 1 _ rfl; (with_reducible repeat (first | refine Zn1 ?_ _ | refine Zd1 ?_ | refine Za1 ?_ _)); refine blk_put (cs := #[.int .u64 0, .int .u64 0, .int .u64 0, .int .u64 0]) ?_ 0 _ rfl; (with_reducible repeat (first | refine Zn1 ?_ _ | refine Zd1 ?_ | refine Za1 ?_ _)); exact BK549.out) hb); have n6_ := Zq1 (below_step (by repeat (first | (with_reducible first | exact HB.out | apply below_alloc | apply Zw1 | apply Ze1 | refine Zs1 ?_ GE531.out | refine Zs1 ?_ GE532.out | refine Zs1 ?_ GE533.out | refine Zs1 ?_ GE539.out | refine Zs1 ?_ GE544.out | refine Zs1 ?_ GE549.out) | exact HB.out)) hb); clear BK531; clear BK532; clear BK533; clear BK539; clear BK544; clear BK549; clear HB; have BK531 := n0_; have BK532 := n1_; have BK533 := n2_; have BK539 := n3_; have BK544 := n4_; have BK549 := n5_; have HB := n6_; clear n0_ n1_ n2_ n3_ n4_ n5_ n6_; (try clear hb); (try clear hb2); (try clear hk); (try clear hi)) | ((with_reducible refine gate_dst (N := 11) rfl ?_); refine box_event ?hg (N := 11) ?hd (cs := #[.int .u64 0, .int .u64 0, .int .u64 0, .int .u64 0]) (t := 24) ?hr ?_; (case hd => rfl); (case hg => rfl); (case hr => first | (go_simp; done) | (go_simp; rfl)); intro gb554 hg w73 hbox hb; have n0_ := Zq1 (Zb1 (g := gb531) (o := .cells #[.int .u64 a0_0, .int .u64 a0_1, .int .u64 a0_2, .int .u64 a0_3, .bool a0_4] 26 (0, 0)) (by (with_reducible repeat (first | refine Zn1 ?_ _ | refine Zd1 ?_ | refine Za1 ?_ _)); exact BK531.out) hb); have n1_ := Zq1 (Zb1 (g := gb532) (o := .cells #[.int .u64 a1_0, .int .u64 a1_1, .int .u64 a1_2, .int .u64 a1_3, .bool a1_4] 26 (0, 0)) (by (with_reducible repeat (first | refine Zn1 ?_ _ | refine Zd1 ?_ | refine Za1 ?_ _)); exact BK532.out) hb); have n2_ := Zq1 (Zb1 (g := gb533) (o := .cells #[.int .u64 a2_0, .int .u64 a2_1, .int .u64 a2_2, .int .u64 a2_3, .bool a2_4] 26 (0, 0)) (by (with_reducible repeat (first | refine Zn1 ?_ _ | refine Zd1 ?_ | refine Za1 ?_ _)); exact BK533.out) hb); have n3_ := Zq1 (Zb1 (g := gb539) (o := .cells #[.int .u64 t535, .int .u64 t536, .int .u64 t537, .int .u64 t538] 24 (0, 0)) (by (with_reducible repeat (first | refine Zn1 ?_ _ | refine Zd1 ?_ | refine Za1 ?_ _)); exact BK539.out) hb); have n4_ := Zq1 (Zb1 (g := gb544) (o := .cells #[.int .u64 t540, .int .u64 t541, .int .u64 t542, .int .u64 t543] 24 (0, 0)) (by (with_reducible repeat (first | refine Zn1 ?_ _ | refine Zd1 ?_ | refine Za1 ?_ _)); exact BK544.out) hb); have n5_ := Zq1 (Zb1 (g := gb549) (o := .cells #[.int .u64 t545, .int .u64 t546, .int .u64 t547, .int .u64 t548] 24 (0, 0)) (by (with_reducible repeat (first | refine Zn1 ?_ _ | refine Zd1 ?_ | refine Za1 ?_ _)); exact BK549.out) hb); have n6_ := Zq1 (below_step (by repeat (first | (with_reducible first | exact HB.out | apply below_alloc | apply Zw1 | apply Ze1 | refine Zs1 ?_ GE531.out | refine Zs1 ?_ GE532.out | refine Zs1 ?_ GE533.out | refine Zs1 ?_ GE539.out | refine Zs1 ?_ GE544.out | refine Zs1 ?_ GE549.out) | exact HB.out)) hb); have n7_ := Zq1 (hbox); have n8_ := Zq1 ((by rw [hg]; exact (below_size (by repeat (first | (with_reducible first | exact HB.out | apply below_alloc | apply Zw1 | apply Ze1 | refine Zs1 ?_ GE531.out | refine Zs1 ?_ GE532.out | refine Zs1 ?_ GE533.out | refine Zs1 ?_ GE539.out | refine Zs1 ?_ GE544.out | refine Zs1 ?_ GE549.out) | exact HB.out))) : w.heap.size ≤ gb554)); have n9_ := Zq1 ((by rw [hg]; exact (below_size (by repeat (first | (with_reducible first | exact HB.out | apply below_alloc | apply Zw1 | apply Ze1 | refine Zs1 ?_ GE531.out | refine Zs1 ?_ GE532.out | refine Zs1 ?_ GE533.out | refine Zs1 ?_ GE539.out | refine Zs1 ?_ GE544.out | refine Zs1 ?_ GE549.out) | exact HB.out))) : w.heap.size ≤ gb554)); have n10_ := Zq1 ((by rw [hg]; exact Nat.ne_of_lt (blk_lt (g := gb531) (o := .cells #[.int .u64 a0_0, .int .u64 a0_1, .int .u64 a0_2, .int .u64 a0_3, .bool a0_4] 26 (0, 0)) (by (with_reducible repeat (first | refine Zn1 ?_ _ | refine Zd1 ?_ | refine Za1 ?_ _)); exact BK531.out)) : gb531 ≠ gb554)); have n11_ := Zq1 ((by rw [hg]; exact Nat.ne_of_gt (blk_lt (g := gb531) (o := .cells #[.int .u64 a0_0, .int .u64 a0_1, .int .u64 a0_2, .int .u64 a0_3, .bool a0_4] 26 (0, 0)) (by (with_reducible repeat (first | refine Zn1 ?_ _ | refine Zd1 ?_ | refine Za1 ?_ _)); exact BK531.out)) : gb554 ≠ gb531)); have n12_ := Zq1 ((by rw [hg]; exact Nat.ne_of_lt (blk_lt (g := gb532) (o := .cells #[.int .u64 a1_0, .int .u64 a1_1, .int .u64 a1_2, .int .u64 a1_3, .bool a1_4] 26 (0, 0)) (by (with_reducible repeat (first | refine Zn1 ?_ _ | refine Zd1 ?_ | refine Za1 ?_ _)); exact BK532.out)) : gb532 ≠ gb554)); have n13_ := Zq1 ((by rw [hg]; exact Nat.ne_of_gt (blk_lt (g := gb532) (o := .cells #[.int .u64 a1_0, .int .u64 a1_1, .int .u64 a1_2, .int .u64 a1_3, .bool a1_4] 26 (0, 0)) (by (with_reducible repeat (first | refine Zn1 ?_ _ | refine Zd1 ?_ | refine Za1 ?_ _)); exact BK532.out)) : gb554 ≠ gb532)); have n14_ := Zq1 ((by rw [hg]; exact Nat.ne_of_lt (blk_lt (g := gb533) (o := .cells #[.int .u64 a2_0, .int .u64 a2_1, .int .u64 a2_2, .int .u64 a2_3, .bool a2_4] 26 (0, 0)) (by (with_reducible repeat (first | refine Zn1 ?_ _ | refine Zd1 ?_ | refine Za1 ?_ _)); exact BK533.out)) : gb533 ≠ gb554)); have n15_ := Zq1 ((by rw [hg]; exact Nat.ne_of_gt (blk_lt (g := gb533) (o := .cells #[.int .u64 a2_0, .int .u64 a2_1, .int .u64 a2_2, .int .u64 a2_3, .bool a2_4] 26 (0, 0)) (by (with_reducible repeat (first | refine Zn1 ?_ _ | refine Zd1 ?_ | refine Za1 ?_ _)); exact BK533.out)) : gb554 ≠ gb533)); have n16_ := Zq1 ((by rw [hg]; exact Nat.ne_of_lt (blk_lt (g := gb539) (o := .cells #[.int .u64 t535, .int .u64 t536, .int .u64 t537, .int .u64 t538] 24 (0, 0)) (by (with_reducible repeat (first | refine Zn1 ?_ _ | refine Zd1 ?_ | refine Za1 ?_ _)); exact BK539.out)) : gb539 ≠ gb554)); have n17_ := Zq1 ((by rw [hg]; exact Nat.ne_of_gt (blk_lt (g := gb539) (o := .cells #[.int .u64 t535, .int .u64 t536, .int .u64 t537, .int .u64 t538] 24 (0, 0)) (by (with_reducible repeat (first | refine Zn1 ?_ _ | refine Zd1 ?_ | refine Za1 ?_ _)); exact BK539.out)) : gb554 ≠ gb539)); have n18_ := Zq1 ((by rw [hg]; exact Nat.ne_of_lt (blk_lt (g := gb544) (o := .cells #[.int .u64 t540, .int .u64 t541, .int .u64 t542, .int .u64 t543] 24 (0, 0)) (by (with_reducible repeat (first | refine Zn1 ?_ _ | refine Zd1 ?_ | refine Za1 ?_ _)); exact BK544.out)) : gb544 ≠ gb554)); have n19_ := Zq1 ((by rw [hg]; exact Nat.ne_of_gt (blk_lt (g := gb544) (o := .cells #[.int .u64 t540, .int .u64 t541, .int .u64 t542, .int .u64 t543] 24 (0, 0)) (by (with_reducible repeat (first | refine Zn1 ?_ _ | refine Zd1 ?_ | refine Za1 ?_ _)); exact BK544.out)) : gb554 ≠ gb544)); have n20_ := Zq1 ((by rw [hg]; exact Nat.ne_of_lt (blk_lt (g := gb549) (o := .cells #[.int .u64 t545, .int .u64 t546, .int .u64 t547, .int .u64 t548] 24 (0, 0)) (by (with_reducible repeat (first | refine Zn1 ?_ _ | refine Zd1 ?_ | refine Za1 ?_ _)); exact BK549.out)) : gb549 ≠ gb554)); have n21_ := Zq1 ((by rw [hg]; exact Nat.ne_of_gt (blk_lt (g := gb549) (o := .cells #[.int .u64 t545, .int .u64 t546, .int .u64 t547, .int .u64 t548] 24 (0, 0)) (by (with_reducible repeat (first | refine Zn1 ?_ _ | refine Zd1 ?_ | refine Za1 ?_ _)); exact BK549.out)) : gb554 ≠ gb549)); clear BK531; clear BK532; clear BK533; clear BK539; clear BK544; clear BK549; clear HB; have BK531 := n0_; have BK532 := n1_; have BK533 := n2_; have BK539 := n3_; have BK544 := n4_; have BK549 := n5_; have HB := n6_; have BK554 := n7_; have GW554 := n8_; have GE554 := n9_; have NB531_554 := n10_; have NB554_531 := n11_; have NB532_554 := n12_; have NB554_532 := n13_; have NB533_554 := n14_; have NB554_533 := n15_; have NB539_554 := n16_; have NB554_539 := n17_; have NB544_554 := n18_; have NB554_544 := n19_; have NB549_554 := n20_; have NB554_549 := n21_; clear n0_ n1_ n2_ n3_ n4_ n5_ n6_ n7_ n8_ n9_ n10_ n11_ n12_ n13_ n14_ n15_ n16_ n17_ n18_ n19_ n20_ n21_; clear hb hbox hg; have hnb74 := NB554_531.out; have hnc74 := NB531_554.out; have hnb75 := NB554_532.out; have hnc75 := NB532_554.out; have hnb76 := NB554_533.out; have hnc76 := NB533_554.out; have hnb77 := NB554_539.out; have hnc77 := NB539_554.out; have hnb78 := NB554_544.out; have hnc78 := NB544_554.out; have hnb79 := NB554_549.out; have hnc79 := NB549_554.out; have hcz80_0 : w73.cell? ⟨gb554, 0, none⟩ = some (.int .u64 0) := (blk_cell BK554.out 0).trans rfl; have hcz80_1 : w73.cell? ⟨gb554, 1, none⟩ = some (.int .u64 0) := (blk_cell BK554.out 1).trans rfl; have hcz80_2 : w73.cell? ⟨gb554, 2, none⟩ = some (.int .u64 0) := (blk_cell BK554.out 2).trans rfl; have hcz80_3 : w73.cell? ⟨gb554, 3, none⟩ = some (.int .u64 0) := (blk_cell BK554.out 3).trans rfl; have hfz80_0 := blk_frozen BK554.out 0; have hfz80_1 := blk_frozen BK554.out 1; have hfz80_2 := blk_frozen BK554.out 2; have hfz80_3 := blk_frozen BK554.out 3; have hcz81_0 : w73.cell? ⟨gb539, 0, none⟩ = some (.int .u64 t535) := (blk_cell BK539.out 0).trans rfl; have hcz81_1 : w73.cell? ⟨gb539, 1, none⟩ = some (.int .u64 t536) := (blk_cell BK539.out 1).trans rfl; have hcz81_2 : w73.cell? ⟨gb539, 2, none⟩ = some (.int .u64 t537) := (blk_cell BK539.out 2).trans rfl; have hcz81_3 : w73.cell? ⟨gb539, 3, none⟩ = some (.int .u64 t538) := (blk_cell BK539.out 3).trans rfl; have hfz81_0 := blk_frozen BK539.out 0; have hfz81_1 := blk_frozen BK539.out 1; have hfz81_2 := blk_frozen BK539.out 2; have hfz81_3 := blk_frozen BK539.out 3; have hcz82_0 : w73.cell? ⟨gb544, 0, none⟩ = some (.int .u64 t540) := (blk_cell BK544.out 0).trans rfl; have hcz82_1 : w73.cell? ⟨gb544, 1, none⟩ = some (.int .u64 t541) := (blk_cell BK544.out 1).trans rfl; have hcz82_2 : w73.cell? ⟨gb544, 2, none⟩ = some (.int .u64 t542) := (blk_cell BK544.out 2).trans rfl; have hcz82_3 : w73.cell? ⟨gb544, 3, none⟩ = some (.int .u64 t543) := (blk_cell BK544.out 3).trans rfl; have hfz82_0 := blk_frozen BK544.out 0; have hfz82_1 := blk_frozen BK544.out 1; have hfz82_2 := blk_frozen BK544.out 2; have hfz82_3 := blk_frozen BK544.out 3) | ((with_reducible refine gate_callee (f := 14) rfl ?_); refine goesL_ (some 27) rfl rfl Tryd.func14 (by kernel_rfl) rfl #[.agg #[.int .u64 t535, .int .u64 t536, .int .u64 t537, .int .u64 t538], .agg #[.int .u64 t540, .int .u64 t541, .int .u64 t542, .int .u64 t543]] rfl (by (try simp only [List.map_toArray, List.map_cons, List.map_nil]); first | done | rfl | (simp only [List.length_drop, List.length_take]; rfl)) ?_; (with_reducible refine (vec_Meet.calls t535 t536 t537 t538 t540 t541 t542 t543 t555 t556 t557 t558 _ A10.out).mono ?_); rintro e w83 ⟨rfl, hb⟩; refine ⟨_, rfl, ?_⟩; have n0_ := Zq1 (Zb1 (g := gb531) (o := .cells #[.int .u64 a0_0, .int .u64 a0_1, .int .u64 a0_2, .int .u64 a0_3, .bool a0_4] 26 (0, 0)) (by (repeat (first | (with_reducible first | refine Zn1 ?_ _ | refine Zd1 ?_ | refine Za1 ?_ _) | refine Zf1 ?_ NB531_554.out _)); exact BK531.out) hb); have n1_ := Zq1 (Zb1 (g := gb532) (o := .cells #[.int .u64 a1_0, .int .u64 a1_1, .int .u64 a1_2, .int .u64 a1_3, .bool a1_4] 26 (0, 0)) (by (repeat (first | (with_reducible first | refine Zn1 ?_ _ | refine Zd1 ?_ | refine Za1 ?_ _) | refine Zf1 ?_ NB532_554.out _)); exact BK532.out) hb); have n2_ := Zq1 (Zb1 (g := gb533) (o := .cells #[.int .u64 a2_0, .int .u64 a2_1, .int .u64 a2_2, .int .u64 a2_3, .bool a2_4] 26 (0, 0)) (by (repeat (first | (with_reducible first | refine Zn1 ?_ _ | refine Zd1 ?_ | refine Za1 ?_ _) | refine Zf1 ?_ NB533_554.out _)); exact BK533.out) hb); have n3_ := Zq1 (Zb1 (g := gb539) (o := .cells #[.int .u64 t535, .int .u64 t536, .int .u64 t537, .int .u64 t538] 24 (0, 0)) (by (repeat (first | (with_reducible first | refine Zn1 ?_ _ | refine Zd1 ?_ | refine Za1 ?_ _) | refine Zf1 ?_ NB539_554.out _)); exact BK539.out) hb); have n4_ := Zq1 (Zb1 (g := gb544) (o := .cells #[.int .u64 t540, .int .u64 t541, .int .u64 t542, .int .u64 t543] 24 (0, 0)) (by (repeat (first | (with_reducible first | refine Zn1 ?_ _ | refine Zd1 ?_ | refine Za1 ?_ _) | refine Zf1 ?_ NB544_554.out _)); exact BK544.out) hb); have n5_ := Zq1 (Zb1 (g := gb549) (o := .cells #[.int .u64 t545, .int .u64 t546, .int .u64 t547, .int .u64 t548] 24 (0, 0)) (by (repeat (first | (with_reducible first | refine Zn1 ?_ _ | refine Zd1 ?_ | refine Za1 ?_ _) | refine Zf1 ?_ NB549_554.out _)); exact BK549.out) hb); have n6_ := Zq1 (Zb1 (g := gb554) (o := .cells #[.int .u64 t550, .int .u64 t551, .int .u64 t552, .int .u64 t553] 24 (0, 0)) (by (with_reducible repeat (first | refine Zn1 ?_ _ | refine Zd1 ?_ | refine Za1 ?_ _)); refine blk_put (cs := #[.int .u64 t550, .int .u64 t551, .int .u64 t552, .int .u64 0]) ?_ 3 _ rfl; (with_reducible repeat (first | refine Zn1 ?_ _ | refine Zd1 ?_ | refine Za1 ?_ _)); refine blk_put (cs := #[.int .u64 t550, .int .u64 t551, .int .u64 0, .int .u64 0]) ?_ 2 _ rfl; (with_reducible repeat (first | refine Zn1 ?_ _ | refine Zd1 ?_ | refine Za1 ?_ _)); refine blk_put (cs := #[.int .u64 t550, .int .u64 0, .int .u64 0, .int .u64 0]) ?_ 1 _ rfl; (with_reducible repeat (first | refine Zn1 ?_ _ | refine Zd1 ?_ | refine Za1 ?_ _)); refine blk_put (cs := #[.int .u64 0, .int .u64 0, .int .u64 0, .int .u64 0]) ?_ 0 _ rfl; (with_reducible repeat (first | refine Zn1 ?_ _ | refine Zd1 ?_ | refine Za1 ?_ _)); exact BK554.out) hb); have n7_ := Zq1 (below_step (by repeat (first | (with_reducible first | exact HB.out | apply below_alloc | apply Zw1 | apply Ze1 | refine Zs1 ?_ GE531.out | refine Zs1 ?_ GE532.out | refine Zs1 ?_ GE533.out | refine Zs1 ?_ GE539.out | refine Zs1 ?_ GE544.out | refine Zs1 ?_ GE549.out | refine Zs1 ?_ GE554.out) | exact HB.out)) hb); clear BK531; clear BK532; clear BK533; clear BK539; clear BK544; clear BK549; clear BK554; clear HB; have BK531 := n0_; have BK532 := n1_; have BK533 := n2_; have BK539 := n3_; have BK544 := n4_; have BK549 := n5_; have BK554 := n6_; have HB := n7_; clear n0_ n1_ n2_ n3_ n4_ n5_ n6_ n7_; (try clear hb); (try clear hb2); (try clear hk); (try clear hi)) | ((with_reducible refine gate_dst (N := 12) rfl ?_); refine box_event ?hg (N := 12) ?hd (cs := #[.int .u64 0, .int .u64 0, .int .u64 0, .int .u64 0]) (t := 24) ?hr ?_; (case hd => rfl); (case hg => rfl); (case hr => first | (go_simp; done) | (go_simp; rfl)); intro gb559 hg w84 hbox hb; have n0_ := Zq1 (Zb1 (g := gb531) (o := .cells #[.int .u64 a0_0, .int .u64 a0_1, .int .u64 a0_2, .int .u64 a0_3, .bool a0_4] 26 (0, 0)) (by (with_reducible repeat (first | refine Zn1 ?_ _ | refine Zd1 ?_ | refine Za1 ?_ _)); exact BK531.out) hb); have n1_ := Zq1 (Zb1 (g := gb532) (o := .cells #[.int .u64 a1_0, .int .u64 a1_1, .int .u64 a1_2, .int .u64 a1_3, .bool a1_4] 26 (0, 0)) (by (with_reducible repeat (first | refine Zn1 ?_ _ | refine Zd1 ?_ | refine Za1 ?_ _)); exact BK532.out) hb); have n2_ := Zq1 (Zb1 (g := gb533) (o := .cells #[.int .u64 a2_0, .int .u64 a2_1, .int .u64 a2_2, .int .u64 a2_3, .bool a2_4] 26 (0, 0)) (by (with_reducible repeat (first | refine Zn1 ?_ _ | refine Zd1 ?_ | refine Za1 ?_ _)); exact BK533.out) hb); have n3_ := Zq1 (Zb1 (g := gb539) (o := .cells #[.int .u64 t535, .int .u64 t536, .int .u64 t537, .int .u64 t538] 24 (0, 0)) (by (with_reducible repeat (first | refine Zn1 ?_ _ | refine Zd1 ?_ | refine Za1 ?_ _)); exact BK539.out) hb); have n4_ := Zq1 (Zb1 (g := gb544) (o := .cells #[.int .u64 t540, .int .u64 t541, .int .u64 t542, .int .u64 t543] 24 (0, 0)) (by (with_reducible repeat (first | refine Zn1 ?_ _ | refine Zd1 ?_ | refine Za1 ?_ _)); exact BK544.out) hb); have n5_ := Zq1 (Zb1 (g := gb549) (o := .cells #[.int .u64 t545, .int .u64 t546, .int .u64 t547, .int .u64 t548] 24 (0, 0)) (by (with_reducible repeat (first | refine Zn1 ?_ _ | refine Zd1 ?_ | refine Za1 ?_ _)); exact BK549.out) hb); have n6_ := Zq1 (Zb1 (g := gb554) (o := .cells #[.int .u64 t550, .int .u64 t551, .int .u64 t552, .int .u64 t553] 24 (0, 0)) (by (with_reducible repeat (first | refine Zn1 ?_ _ | refine Zd1 ?_ | refine Za1 ?_ _)); exact BK554.out) hb); have n7_ := Zq1 (below_step (by repeat (first | (with_reducible first | exact HB.out | apply below_alloc | apply Zw1 | apply Ze1 | refine Zs1 ?_ GE531.out | refine Zs1 ?_ GE532.out | refine Zs1 ?_ GE533.out | refine Zs1 ?_ GE539.out | refine Zs1 ?_ GE544.out | refine Zs1 ?_ GE549.out | refine Zs1 ?_ GE554.out) | exact HB.out)) hb); have n8_ := Zq1 (hbox); have n9_ := Zq1 ((by rw [hg]; exact (below_size (by repeat (first | (with_reducible first | exact HB.out | apply below_alloc | apply Zw1 | apply Ze1 | refine Zs1 ?_ GE531.out | refine Zs1 ?_ GE532.out | refine Zs1 ?_ GE533.out | refine Zs1 ?_ GE539.out | refine Zs1 ?_ GE544.out | refine Zs1 ?_ GE549.out | refine Zs1 ?_ GE554.out) | exact HB.out))) : w.heap.size ≤ gb559)); have n10_ := Zq1 ((by rw [hg]; exact (below_size (by repeat (first | (with_reducible first | exact HB.out | apply below_alloc | apply Zw1 | apply Ze1 | refine Zs1 ?_ GE531.out | refine Zs1 ?_ GE532.out | refine Zs1 ?_ GE533.out | refine Zs1 ?_ GE539.out | refine Zs1 ?_ GE544.out | refine Zs1 ?_ GE549.out | refine Zs1 ?_ GE554.out) | exact HB.out))) : w.heap.size ≤ gb559)); have n11_ := Zq1 ((by rw [hg]; exact Nat.ne_of_lt (blk_lt (g := gb531) (o := .cells #[.int .u64 a0_0, .int .u64 a0_1, .int .u64 a0_2, .int .u64 a0_3, .bool a0_4] 26 (0, 0)) (by (with_reducible repeat (first | refine Zn1 ?_ _ | refine Zd1 ?_ | refine Za1 ?_ _)); exact BK531.out)) : gb531 ≠ gb559)); have n12_ := Zq1 ((by rw [hg]; exact Nat.ne_of_gt (blk_lt (g := gb531) (o := .cells #[.int .u64 a0_0, .int .u64 a0_1, .int .u64 a0_2, .int .u64 a0_3, .bool a0_4] 26 (0, 0)) (by (with_reducible repeat (first | refine Zn1 ?_ _ | refine Zd1 ?_ | refine Za1 ?_ _)); exact BK531.out)) : gb559 ≠ gb531)); have n13_ := Zq1 ((by rw [hg]; exact Nat.ne_of_lt (blk_lt (g := gb532) (o := .cells #[.int .u64 a1_0, .int .u64 a1_1, .int .u64 a1_2, .int .u64 a1_3, .bool a1_4] 26 (0, 0)) (by (with_reducible repeat (first | refine Zn1 ?_ _ | refine Zd1 ?_ | refine Za1 ?_ _)); exact BK532.out)) : gb532 ≠ gb559)); have n14_ := Zq1 ((by rw [hg]; exact Nat.ne_of_gt (blk_lt (g := gb532) (o := .cells #[.int .u64 a1_0, .int .u64 a1_1, .int .u64 a1_2, .int .u64 a1_3, .bool a1_4] 26 (0, 0)) (by (with_reducible repeat (first | refine Zn1 ?_ _ | refine Zd1 ?_ | refine Za1 ?_ _)); exact BK532.out)) : gb559 ≠ gb532)); have n15_ := Zq1 ((by rw [hg]; exact Nat.ne_of_lt (blk_lt (g := gb533) (o := .cells #[.int .u64 a2_0, .int .u64 a2_1, .int .u64 a2_2, .int .u64 a2_3, .bool a2_4] 26 (0, 0)) (by (with_reducible repeat (first | refine Zn1 ?_ _ | refine Zd1 ?_ | refine Za1 ?_ _)); exact BK533.out)) : gb533 ≠ gb559)); have n16_ := Zq1 ((by rw [hg]; exact Nat.ne_of_gt (blk_lt (g := gb533) (o := .cells #[.int .u64 a2_0, .int .u64 a2_1, .int .u64 a2_2, .int .u64 a2_3, .bool a2_4] 26 (0, 0)) (by (with_reducible repeat (first | refine Zn1 ?_ _ | refine Zd1 ?_ | refine Za1 ?_ _)); exact BK533.out)) : gb559 ≠ gb533)); have n17_ := Zq1 ((by rw [hg]; exact Nat.ne_of_lt (blk_lt (g := gb539) (o := .cells #[.int .u64 t535, .int .u64 t536, .int .u64 t537, .int .u64 t538] 24 (0, 0)) (by (with_reducible repeat (first | refine Zn1 ?_ _ | refine Zd1 ?_ | refine Za1 ?_ _)); exact BK539.out)) : gb539 ≠ gb559)); have n18_ := Zq1 ((by rw [hg]; exact Nat.ne_of_gt (blk_lt (g := gb539) (o := .cells #[.int .u64 t535, .int .u64 t536, .int .u64 t537, .int .u64 t538] 24 (0, 0)) (by (with_reducible repeat (first | refine Zn1 ?_ _ | refine Zd1 ?_ | refine Za1 ?_ _)); exact BK539.out)) : gb559 ≠ gb539)); have n19_ := Zq1 ((by rw [hg]; exact Nat.ne_of_lt (blk_lt (g := gb544) (o := .cells #[.int .u64 t540, .int .u64 t541, .int .u64 t542, .int .u64 t543] 24 (0, 0)) (by (with_reducible repeat (first | refine Zn1 ?_ _ | refine Zd1 ?_ | refine Za1 ?_ _)); exact BK544.out)) : gb544 ≠ gb559)); have n20_ := Zq1 ((by rw [hg]; exact Nat.ne_of_gt (blk_lt (g := gb544) (o := .cells #[.int .u64 t540, .int .u64 t541, .int .u64 t542, .int .u64 t543] 24 (0, 0)) (by (with_reducible repeat (first | refine Zn1 ?_ _ | refine Zd1 ?_ | refine Za1 ?_ _)); exact BK544.out)) : gb559 ≠ gb544)); have n21_ := Zq1 ((by rw [hg]; exact Nat.ne_of_lt (blk_lt (g := gb549) (o := .cells #[.int .u64 t545, .int .u64 t546, .int .u64 t547, .int .u64 t548] 24 (0, 0)) (by (with_reducible repeat (first | refine Zn1 ?_ _ | refine Zd1 ?_ | refine Za1 ?_ _)); exact BK549.out)) : gb549 ≠ gb559)); have n22_ := Zq1 ((by rw [hg]; exact Nat.ne_of_gt (blk_lt (g := gb549) (o := .cells #[.int .u64 t545, .int .u64 t546, .int .u64 t547, .int .u64 t548] 24 (0, 0)) (by (with_reducible repeat (first | refine Zn1 ?_ _ | refine Zd1 ?_ | refine Za1 ?_ _)); exact BK549.out)) : gb559 ≠ gb549)); have n23_ := Zq1 ((by rw [hg]; exact Nat.ne_of_lt (blk_lt (g := gb554) (o := .cells #[.int .u64 t550, .int .u64 t551, .int .u64 t552, .int .u64 t553] 24 (0, 0)) (by (with_reducible repeat (first | refine Zn1 ?_ _ | refine Zd1 ?_ | refine Za1 ?_ _)); exact BK554.out)) : gb554 ≠ gb559)); have n24_ := Zq1 ((by rw [hg]; exact Nat.ne_of_gt (blk_lt (g := gb554) (o := .cells #[.int .u64 t550, .int .u64 t551, .int .u64 t552, .int .u64 t553] 24 (0, 0)) (by (with_reducible repeat (first | refine Zn1 ?_ _ | refine Zd1 ?_ | refine Za1 ?_ _)); exact BK554.out)) : gb559 ≠ gb554)); clear BK531; clear BK532; clear BK533; clear BK539; clear BK544; clear BK549; clear BK554; clear HB; have BK531 := n0_; have BK532 := n1_; have BK533 := n2_; have BK539 := n3_; have BK544 := n4_; have BK549 := n5_; have BK554 := n6_; have HB := n7_; have BK559 := n8_; have GW559 := n9_; have GE559 := n10_; have NB531_559 := n11_; have NB559_531 := n12_; have NB532_559 := n13_; have NB559_532 := n14_; have NB533_559 := n15_; have NB559_533 := n16_; have NB539_559 := n17_; have NB559_539 := n18_; have NB544_559 := n19_; have NB559_544 := n20_; have NB549_559 := n21_; have NB559_549 := n22_; have NB554_559 := n23_; have NB559_554 := n24_; clear n0_ n1_ n2_ n3_ n4_ n5_ n6_ n7_ n8_ n9_ n10_ n11_ n12_ n13_ n14_ n15_ n16_ n17_ n18_ n19_ n20_ n21_ n22_ n23_ n24_; clear hb hbox hg; have hnb85 := NB559_531.out; have hnc85 := NB531_559.out; have hnb86 := NB559_532.out; have hnc86 := NB532_559.out; have hnb87 := NB559_533.out; have hnc87 := NB533_559.out; have hnb88 := NB559_539.out; have hnc88 := NB539_559.out; have hnb89 := NB559_544.out; have hnc89 := NB544_559.out; have hnb90 := NB559_549.out; have hnc90 := NB549_559.out; have hnb91 := NB559_554.out; have hnc91 := NB554_559.out; have hcz92_0 : w84.cell? ⟨gb559, 0, none⟩ = some (.int .u64 0) := (blk_cell BK559.out 0).trans rfl; have hcz92_1 : w84.cell? ⟨gb559, 1, none⟩ = some (.int .u64 0) := (blk_cell BK559.out 1).trans rfl; have hcz92_2 : w84.cell? ⟨gb559, 2, none⟩ = some (.int .u64 0) := (blk_cell BK559.out 2).trans rfl; have hcz92_3 : w84.cell? ⟨gb559, 3, none⟩ = some (.int .u64 0) := (blk_cell BK559.out 3).trans rfl; have hfz92_0 := blk_frozen BK559.out 0; have hfz92_1 := blk_frozen BK559.out 1; have hfz92_2 := blk_frozen BK559.out 2; have hfz92_3 := blk_frozen BK559.out 3))
  have n0_ : Aside0 (((((w84.setCell ⟨gb559, 0, none⟩ (.int .u64 t555)).setCell ⟨gb559, 1, none⟩ (.int .u64 t556)).setCell ⟨gb559, 2, none⟩ (.int .u64 t557)).setCell ⟨gb559, 3, none⟩ (.int .u64 t558)).heap[gb531]? = some (.cells #[.int .u64 a0_0, .int .u64 a0_1, .int .u64 a0_2, .int .u64 a0_3, .bool a0_4] 26 (0, 0))) := ⟨by (repeat (first | (with_reducible first | refine Zn1 ?_ _ | refine Zd1 ?_ | refine Za1 ?_ _) | refine Zf1 ?_ NB531_559.out _)); exact BK531.out⟩
  have n1_ : Aside0 (((((w84.setCell ⟨gb559, 0, none⟩ (.int .u64 t555)).setCell ⟨gb559, 1, none⟩ (.int .u64 t556)).setCell ⟨gb559, 2, none⟩ (.int .u64 t557)).setCell ⟨gb559, 3, none⟩ (.int .u64 t558)).heap[gb532]? = some (.cells #[.int .u64 a1_0, .int .u64 a1_1, .int .u64 a1_2, .int .u64 a1_3, .bool a1_4] 26 (0, 0))) := ⟨by (repeat (first | (with_reducible first | refine Zn1 ?_ _ | refine Zd1 ?_ | refine Za1 ?_ _) | refine Zf1 ?_ NB532_559.out _)); exact BK532.out⟩
  have n2_ : Aside0 (((((w84.setCell ⟨gb559, 0, none⟩ (.int .u64 t555)).setCell ⟨gb559, 1, none⟩ (.int .u64 t556)).setCell ⟨gb559, 2, none⟩ (.int .u64 t557)).setCell ⟨gb559, 3, none⟩ (.int .u64 t558)).heap[gb533]? = some (.cells #[.int .u64 a2_0, .int .u64 a2_1, .int .u64 a2_2, .int .u64 a2_3, .bool a2_4] 26 (0, 0))) := ⟨by (repeat (first | (with_reducible first | refine Zn1 ?_ _ | refine Zd1 ?_ | refine Za1 ?_ _) | refine Zf1 ?_ NB533_559.out _)); exact BK533.out⟩
  have n3_ : Aside0 (((((w84.setCell ⟨gb559, 0, none⟩ (.int .u64 t555)).setCell ⟨gb559, 1, none⟩ (.int .u64 t556)).setCell ⟨gb559, 2, none⟩ (.int .u64 t557)).setCell ⟨gb559, 3, none⟩ (.int .u64 t558)).heap[gb539]? = some (.cells #[.int .u64 t535, .int .u64 t536, .int .u64 t537, .int .u64 t538] 24 (0, 0))) := ⟨by (repeat (first | (with_reducible first | refine Zn1 ?_ _ | refine Zd1 ?_ | refine Za1 ?_ _) | refine Zf1 ?_ NB539_559.out _)); exact BK539.out⟩
  have n4_ : Aside0 (((((w84.setCell ⟨gb559, 0, none⟩ (.int .u64 t555)).setCell ⟨gb559, 1, none⟩ (.int .u64 t556)).setCell ⟨gb559, 2, none⟩ (.int .u64 t557)).setCell ⟨gb559, 3, none⟩ (.int .u64 t558)).heap[gb544]? = some (.cells #[.int .u64 t540, .int .u64 t541, .int .u64 t542, .int .u64 t543] 24 (0, 0))) := ⟨by (repeat (first | (with_reducible first | refine Zn1 ?_ _ | refine Zd1 ?_ | refine Za1 ?_ _) | refine Zf1 ?_ NB544_559.out _)); exact BK544.out⟩
  have n5_ : Aside0 (((((w84.setCell ⟨gb559, 0, none⟩ (.int .u64 t555)).setCell ⟨gb559, 1, none⟩ (.int .u64 t556)).setCell ⟨gb559, 2, none⟩ (.int .u64 t557)).setCell ⟨gb559, 3, none⟩ (.int .u64 t558)).heap[gb549]? = some (.cells #[.int .u64 t545, .int .u64 t546, .int .u64 t547, .int .u64 t548] 24 (0, 0))) := ⟨by (repeat (first | (with_reducible first | refine Zn1 ?_ _ | refine Zd1 ?_ | refine Za1 ?_ _) | refine Zf1 ?_ NB549_559.out _)); exact BK549.out⟩
  have n6_ : Aside0 (((((w84.setCell ⟨gb559, 0, none⟩ (.int .u64 t555)).setCell ⟨gb559, 1, none⟩ (.int .u64 t556)).setCell ⟨gb559, 2, none⟩ (.int .u64 t557)).setCell ⟨gb559, 3, none⟩ (.int .u64 t558)).heap[gb554]? = some (.cells #[.int .u64 t550, .int .u64 t551, .int .u64 t552, .int .u64 t553] 24 (0, 0))) := ⟨by (repeat (first | (with_reducible first | refine Zn1 ?_ _ | refine Zd1 ?_ | refine Za1 ?_ _) | refine Zf1 ?_ NB554_559.out _)); exact BK554.out⟩
  have n7_ : Aside0 (((((w84.setCell ⟨gb559, 0, none⟩ (.int .u64 t555)).setCell ⟨gb559, 1, none⟩ (.int .u64 t556)).setCell ⟨gb559, 2, none⟩ (.int .u64 t557)).setCell ⟨gb559, 3, none⟩ (.int .u64 t558)).heap[gb559]? = some (.cells #[.int .u64 t555, .int .u64 t556, .int .u64 t557, .int .u64 t558] 24 (0, 0))) := ⟨by (with_reducible repeat (first | refine Zn1 ?_ _ | refine Zd1 ?_ | refine Za1 ?_ _)); refine blk_put (cs := #[.int .u64 t555, .int .u64 t556, .int .u64 t557, .int .u64 0]) ?_ 3 _ rfl; (with_reducible repeat (first | refine Zn1 ?_ _ | refine Zd1 ?_ | refine Za1 ?_ _)); refine blk_put (cs := #[.int .u64 t555, .int .u64 t556, .int .u64 0, .int .u64 0]) ?_ 2 _ rfl; (with_reducible repeat (first | refine Zn1 ?_ _ | refine Zd1 ?_ | refine Za1 ?_ _)); refine blk_put (cs := #[.int .u64 t555, .int .u64 0, .int .u64 0, .int .u64 0]) ?_ 1 _ rfl; (with_reducible repeat (first | refine Zn1 ?_ _ | refine Zd1 ?_ | refine Za1 ?_ _)); refine blk_put (cs := #[.int .u64 0, .int .u64 0, .int .u64 0, .int .u64 0]) ?_ 0 _ rfl; (with_reducible repeat (first | refine Zn1 ?_ _ | refine Zd1 ?_ | refine Za1 ?_ _)); exact BK559.out⟩
  have n8_ : Aside0 (Below w.heap.size w ((((w84.setCell ⟨gb559, 0, none⟩ (.int .u64 t555)).setCell ⟨gb559, 1, none⟩ (.int .u64 t556)).setCell ⟨gb559, 2, none⟩ (.int .u64 t557)).setCell ⟨gb559, 3, none⟩ (.int .u64 t558))) := ⟨by repeat (first | (with_reducible first | exact HB.out | apply below_alloc | apply Zw1 | apply Ze1 | refine Zs1 ?_ GE531.out | refine Zs1 ?_ GE532.out | refine Zs1 ?_ GE533.out | refine Zs1 ?_ GE539.out | refine Zs1 ?_ GE544.out | refine Zs1 ?_ GE549.out | refine Zs1 ?_ GE554.out | refine Zs1 ?_ GE559.out) | exact HB.out)⟩
  (try clear BK531)
  (try clear BK532)
  (try clear BK533)
  (try clear BK539)
  (try clear BK544)
  (try clear BK549)
  (try clear BK554)
  (try clear BK559)
  (try clear HB)
  generalize ((((w84.setCell ⟨gb559, 0, none⟩ (.int .u64 t555)).setCell ⟨gb559, 1, none⟩ (.int .u64 t556)).setCell ⟨gb559, 2, none⟩ (.int .u64 t557)).setCell ⟨gb559, 3, none⟩ (.int .u64 t558)) = w93 at n0_ n1_ n2_ n3_ n4_ n5_ n6_ n7_ n8_ ⊢
  have BK531 := n0_
  have BK532 := n1_
  have BK533 := n2_
  have BK539 := n3_
  have BK544 := n4_
  have BK549 := n5_
  have BK554 := n6_
  have BK559 := n7_
  have HB := n8_
  clear n0_ n1_ n2_ n3_ n4_ n5_ n6_ n7_ n8_
  have n0_ := Zq1 (Zd1 BK531.out)
  have n1_ := Zq1 (Zd1 BK532.out)
  have n2_ := Zq1 (Zd1 BK533.out)
  have n3_ := Zq1 (Zd1 BK539.out)
  have n4_ := Zq1 (Zd1 BK544.out)
  have n5_ := Zq1 (Zd1 BK549.out)
  have n6_ := Zq1 (Zd1 BK554.out)
  have n7_ := Zq1 (Zd1 BK559.out)
  have n8_ := Zq1 (Ze1 HB.out)
  clear BK531
  clear BK532
  clear BK533
  clear BK539
  clear BK544
  clear BK549
  clear BK554
  clear BK559
  clear HB
  have BK531 := n0_
  have BK532 := n1_
  have BK533 := n2_
  have BK539 := n3_
  have BK544 := n4_
  have BK549 := n5_
  have BK554 := n6_
  have BK559 := n7_
  have HB := n8_
  clear n0_ n1_ n2_ n3_ n4_ n5_ n6_ n7_ n8_
  refine start_ (n := 90) (S := fun w' => w'.cell? ⟨gb554, 0, none⟩ = some (.int .u64 t550) ∧ w'.cell? ⟨gb554, 1, none⟩ = some (.int .u64 t551) ∧ w'.cell? ⟨gb554, 2, none⟩ = some (.int .u64 t552) ∧ w'.cell? ⟨gb554, 3, none⟩ = some (.int .u64 t553) ∧ w'.cell? ⟨gb544, 0, none⟩ = some (.int .u64 t540) ∧ w'.cell? ⟨gb544, 1, none⟩ = some (.int .u64 t541) ∧ w'.cell? ⟨gb544, 2, none⟩ = some (.int .u64 t542) ∧ w'.cell? ⟨gb544, 3, none⟩ = some (.int .u64 t543) ∧ w'.cell? ⟨gb539, 0, none⟩ = some (.int .u64 t535) ∧ w'.cell? ⟨gb539, 1, none⟩ = some (.int .u64 t536) ∧ w'.cell? ⟨gb539, 2, none⟩ = some (.int .u64 t537) ∧ w'.cell? ⟨gb539, 3, none⟩ = some (.int .u64 t538) ∧ w'.cell? ⟨gb559, 0, none⟩ = some (.int .u64 t555) ∧ w'.cell? ⟨gb559, 1, none⟩ = some (.int .u64 t556) ∧ w'.cell? ⟨gb559, 2, none⟩ = some (.int .u64 t557) ∧ w'.cell? ⟨gb559, 3, none⟩ = some (.int .u64 t558) ∧ w'.cell? ⟨gb549, 0, none⟩ = some (.int .u64 t545) ∧ w'.cell? ⟨gb549, 1, none⟩ = some (.int .u64 t546) ∧ w'.cell? ⟨gb549, 2, none⟩ = some (.int .u64 t547) ∧ w'.cell? ⟨gb549, 3, none⟩ = some (.int .u64 t548)) (ds := []) #[false, false, false, false, false, false, false, false, false, false, false, false, false, false, false, false, false, false, false, false, false, false, false, false, false, false, false, false, false, false, false, false, false, false, false, false, false, false, false, false, false, false, false, false, false, false, false, false, false, false, false, false, false, false, false, false, false, false, false, false, false, false, false, false, false, false, false, false, false, false, false, false, false, false, false, false, false, false, false, false, false, false, false, false, false, false, false, false, false, false] (by kernel_rfl) rfl rfl ⟨(blk_cell BK554.out 0).trans rfl, (blk_cell BK554.out 1).trans rfl, (blk_cell BK554.out 2).trans rfl, (blk_cell BK554.out 3).trans rfl, (blk_cell BK544.out 0).trans rfl, (blk_cell BK544.out 1).trans rfl, (blk_cell BK544.out 2).trans rfl, (blk_cell BK544.out 3).trans rfl, (blk_cell BK539.out 0).trans rfl, (blk_cell BK539.out 1).trans rfl, (blk_cell BK539.out 2).trans rfl, (blk_cell BK539.out 3).trans rfl, (blk_cell BK559.out 0).trans rfl, (blk_cell BK559.out 1).trans rfl, (blk_cell BK559.out 2).trans rfl, (blk_cell BK559.out 3).trans rfl, (blk_cell BK549.out 0).trans rfl, (blk_cell BK549.out 1).trans rfl, (blk_cell BK549.out 2).trans rfl, (blk_cell BK549.out 3).trans rfl⟩ (fun hHeld => ?_); refine with_tabW tenementlaw06_VecJoins_p1.tab9 tenementlaw06_VecJoins_p1.bits9 (fun HT_ HW_ => ?_)
  generalize w93.drew = w94 at BK531 BK532 BK533 BK539 BK544 BK549 BK554 BK559 HB hHeld ⊢
  refine pure_ (i := 0) (N := some 28) (v := ?_) (a' := ?_) #[true, false, false, false, false, false, false, false, false, false, false, false, false, false, false, false, false, false, false, false, false, false, false, false, false, false, false, false, false, false, false, false, false, false, false, false, false, false, false, false, false, false, false, false, false, false, false, false, false, false, false, false, false, false, false, false, false, false, false, false, false, false, false, false, false, false, false, false, false, false, false, false, false, false, false, false, false, false, false, false, false, false, false, false, false, false, false, false, false, false] rfl rfl (any_of HT_.out (by kernel_rfl)) (fun _ _ _ h => h) (Or.inl ⟨by rfl, ?_⟩) ?_ ?_
  rotate_left
  · intro w'
    go_simp
    with_reducible rfl
  rotate_left
  · simp only [Act.put, List.setIfInBounds_toArray, List.set_cons_zero, List.set_cons_succ, i64_w, i32_w]
    rfl
  refine pure_ (i := 1) (N := some 29) (v := ?_) (a' := ?_) #[true, true, false, false, false, false, false, false, false, false, false, false, false, false, false, false, false, false, false, false, false, false, false, false, false, false, false, false, false, false, false, false, false, false, false, false, false, false, false, false, false, false, false, false, false, false, false, false, false, false, false, false, false, false, false, false, false, false, false, false, false, false, false, false, false, false, false, false, false, false, false, false, false, false, false, false, false, false, false, false, false, false, false, false, false, false, false, false, false, false] rfl rfl (any_of HT_.out (by kernel_rfl)) (fun _ _ _ h => h) (Or.inl ⟨by rfl, ?_⟩) ?_ ?_
  rotate_left
  · intro w'
    go_simp
    with_reducible rfl
  rotate_left
  · simp only [Act.put, List.setIfInBounds_toArray, List.set_cons_zero, List.set_cons_succ, i64_w, i32_w]
    rfl
  refine take_ (i := 2) (N := some 30) (v := ?_) (a' := ?_) #[true, true, true, false, false, false, false, false, false, false, false, false, false, false, false, false, false, false, false, false, false, false, false, false, false, false, false, false, false, false, false, false, false, false, false, false, false, false, false, false, false, false, false, false, false, false, false, false, false, false, false, false, false, false, false, false, false, false, false, false, false, false, false, false, false, false, false, false, false, false, false, false, false, false, false, false, false, false, false, false, false, false, false, false, false, false, false, false, false, false] rfl rfl (take_ofW HT_.out HW_.out (by kernel_rfl)) (fun _ _ _ h => h) (Or.inl ⟨by rfl, ?_⟩) hHeld ?_ ?_
  rotate_left
  · rintro w' ⟨s0, s1, s2, s3, s4, s5, s6, s7, s8, s9, s10, s11, s12, s13, s14, s15, s16, s17, s18, s19⟩
    go_simp
    with_reducible rfl
  rotate_left
  · simp only [Act.put, List.setIfInBounds_toArray, List.set_cons_zero, List.set_cons_succ, i64_w, i32_w]
    rfl
  refine take_ (i := 3) (N := some 31) (v := ?_) (a' := ?_) #[true, true, true, true, false, false, false, false, false, false, false, false, false, false, false, false, false, false, false, false, false, false, false, false, false, false, false, false, false, false, false, false, false, false, false, false, false, false, false, false, false, false, false, false, false, false, false, false, false, false, false, false, false, false, false, false, false, false, false, false, false, false, false, false, false, false, false, false, false, false, false, false, false, false, false, false, false, false, false, false, false, false, false, false, false, false, false, false, false, false] rfl rfl (take_ofW HT_.out HW_.out (by kernel_rfl)) (fun _ _ _ h => h) (Or.inl ⟨by rfl, ?_⟩) hHeld ?_ ?_
  rotate_left
  · rintro w' ⟨s0, s1, s2, s3, s4, s5, s6, s7, s8, s9, s10, s11, s12, s13, s14, s15, s16, s17, s18, s19⟩
    go_simp
    with_reducible rfl
  rotate_left
  · simp only [Act.put, List.setIfInBounds_toArray, List.set_cons_zero, List.set_cons_succ, i64_w, i32_w]
    rfl
  refine take_ (i := 4) (N := some 32) (v := ?_) (a' := ?_) #[true, true, true, true, true, false, false, false, false, false, false, false, false, false, false, false, false, false, false, false, false, false, false, false, false, false, false, false, false, false, false, false, false, false, false, false, false, false, false, false, false, false, false, false, false, false, false, false, false, false, false, false, false, false, false, false, false, false, false, false, false, false, false, false, false, false, false, false, false, false, false, false, false, false, false, false, false, false, false, false, false, false, false, false, false, false, false, false, false, false] rfl rfl (take_ofW HT_.out HW_.out (by kernel_rfl)) (fun _ _ _ h => h) (Or.inl ⟨by rfl, ?_⟩) hHeld ?_ ?_
  rotate_left
  · rintro w' ⟨s0, s1, s2, s3, s4, s5, s6, s7, s8, s9, s10, s11, s12, s13, s14, s15, s16, s17, s18, s19⟩
    go_simp
    with_reducible rfl
  rotate_left
  · simp only [Act.put, List.setIfInBounds_toArray, List.set_cons_zero, List.set_cons_succ, i64_w, i32_w]
    rfl
  refine one_ (i := 5) (N := some 33) #[true, true, true, true, true, true, false, false, false, false, false, false, false, false, false, false, false, false, false, false, false, false, false, false, false, false, false, false, false, false, false, false, false, false, false, false, false, false, false, false, false, false, false, false, false, false, false, false, false, false, false, false, false, false, false, false, false, false, false, false, false, false, false, false, false, false, false, false, false, false, false, false, false, false, false, false, false, false, false, false, false, false, false, false, false, false, false, false, false, false] rfl rfl (one_of HT_.out (by kernel_rfl)) (by decide) (fun K hK => ?_)
  refine goes_ Tryd.func12 (by kernel_rfl) rfl #[.agg #[.int .u64 t540, .int .u64 t541, .int .u64 t542, .int .u64 t543], .agg #[.int .u64 t535, .int .u64 t536, .int .u64 t537, .int .u64 t538]] (by rfl) rfl rfl (by (try simp only [List.map_toArray, List.map_cons, List.map_nil]); first | done | rfl | (simp only [List.length_drop, List.length_take]; rfl)) ?_
  with_reducible refine (vec_Join.calls t540 t541 t542 t543 t535 t536 t537 t538 t560 t561 t562 t563 _ A11.out).mono ?_
  rintro e w95 ⟨rfl, hb⟩
  refine ⟨_, rfl, ?_⟩
  have n0_ := Zq1 (Zb1 (g := gb531) (o := .cells #[.int .u64 a0_0, .int .u64 a0_1, .int .u64 a0_2, .int .u64 a0_3, .bool a0_4] 26 (0, 0)) (by (with_reducible repeat (first | refine Zn1 ?_ _ | refine Zd1 ?_ | refine Za1 ?_ _)); exact BK531.out) hb)
  have n1_ := Zq1 (Zb1 (g := gb532) (o := .cells #[.int .u64 a1_0, .int .u64 a1_1, .int .u64 a1_2, .int .u64 a1_3, .bool a1_4] 26 (0, 0)) (by (with_reducible repeat (first | refine Zn1 ?_ _ | refine Zd1 ?_ | refine Za1 ?_ _)); exact BK532.out) hb)
  have n2_ := Zq1 (Zb1 (g := gb533) (o := .cells #[.int .u64 a2_0, .int .u64 a2_1, .int .u64 a2_2, .int .u64 a2_3, .bool a2_4] 26 (0, 0)) (by (with_reducible repeat (first | refine Zn1 ?_ _ | refine Zd1 ?_ | refine Za1 ?_ _)); exact BK533.out) hb)
  have n3_ := Zq1 (Zb1 (g := gb539) (o := .cells #[.int .u64 t535, .int .u64 t536, .int .u64 t537, .int .u64 t538] 24 (0, 0)) (by (with_reducible repeat (first | refine Zn1 ?_ _ | refine Zd1 ?_ | refine Za1 ?_ _)); exact BK539.out) hb)
  have n4_ := Zq1 (Zb1 (g := gb544) (o := .cells #[.int .u64 t540, .int .u64 t541, .int .u64 t542, .int .u64 t543] 24 (0, 0)) (by (with_reducible repeat (first | refine Zn1 ?_ _ | refine Zd1 ?_ | refine Za1 ?_ _)); exact BK544.out) hb)
  have n5_ := Zq1 (Zb1 (g := gb549) (o := .cells #[.int .u64 t545, .int .u64 t546, .int .u64 t547, .int .u64 t548] 24 (0, 0)) (by (with_reducible repeat (first | refine Zn1 ?_ _ | refine Zd1 ?_ | refine Za1 ?_ _)); exact BK549.out) hb)
  have n6_ := Zq1 (Zb1 (g := gb554) (o := .cells #[.int .u64 t550, .int .u64 t551, .int .u64 t552, .int .u64 t553] 24 (0, 0)) (by (with_reducible repeat (first | refine Zn1 ?_ _ | refine Zd1 ?_ | refine Za1 ?_ _)); exact BK554.out) hb)
  have n7_ := Zq1 (Zb1 (g := gb559) (o := .cells #[.int .u64 t555, .int .u64 t556, .int .u64 t557, .int .u64 t558] 24 (0, 0)) (by (with_reducible repeat (first | refine Zn1 ?_ _ | refine Zd1 ?_ | refine Za1 ?_ _)); exact BK559.out) hb)
  have n8_ := Zq1 (below_step (by repeat (first | (with_reducible first | exact HB.out | apply below_alloc | apply Zw1 | apply Ze1 | refine Zs1 ?_ GE531.out | refine Zs1 ?_ GE532.out | refine Zs1 ?_ GE533.out | refine Zs1 ?_ GE539.out | refine Zs1 ?_ GE544.out | refine Zs1 ?_ GE549.out | refine Zs1 ?_ GE554.out | refine Zs1 ?_ GE559.out) | exact HB.out)) hb)
  clear BK531
  clear BK532
  clear BK533
  clear BK539
  clear BK544
  clear BK549
  clear BK554
  clear BK559
  clear HB
  have BK531 := n0_
  have BK532 := n1_
  have BK533 := n2_
  have BK539 := n3_
  have BK544 := n4_
  have BK549 := n5_
  have BK554 := n6_
  have BK559 := n7_
  have HB := n8_
  clear n0_ n1_ n2_ n3_ n4_ n5_ n6_ n7_ n8_
  (try clear hb)
  (try clear hb2)
  (try clear hk)
  (try clear hi)
  refine hK.out _ _ ⟨(blk_cell BK554.out 0).trans rfl, (blk_cell BK554.out 1).trans rfl, (blk_cell BK554.out 2).trans rfl, (blk_cell BK554.out 3).trans rfl, (blk_cell BK544.out 0).trans rfl, (blk_cell BK544.out 1).trans rfl, (blk_cell BK544.out 2).trans rfl, (blk_cell BK544.out 3).trans rfl, (blk_cell BK539.out 0).trans rfl, (blk_cell BK539.out 1).trans rfl, (blk_cell BK539.out 2).trans rfl, (blk_cell BK539.out 3).trans rfl, (blk_cell BK559.out 0).trans rfl, (blk_cell BK559.out 1).trans rfl, (blk_cell BK559.out 2).trans rfl, (blk_cell BK559.out 3).trans rfl, (blk_cell BK549.out 0).trans rfl, (blk_cell BK549.out 1).trans rfl, (blk_cell BK549.out 2).trans rfl, (blk_cell BK549.out 3).trans rfl⟩ (fun hHeld => ?_)
  clear hK K
  refine norm_ (a' := ?_) ?_ ?_
  rotate_left
  · show Act.put _ (some 33) _ = _
    simp only [Act.put, List.setIfInBounds_toArray, List.set_cons_zero, List.set_cons_succ, i64_w, i32_w]
    rfl
  refine pure_ (i := 6) (N := some 34) (v := ?_) (a' := ?_) #[true, true, true, true, true, true, true, false, false, false, false, false, false, false, false, false, false, false, false, false, false, false, false, false, false, false, false, false, false, false, false, false, false, false, false, false, false, false, false, false, false, false, false, false, false, false, false, false, false, false, false, false, false, false, false, false, false, false, false, false, false, false, false, false, false, false, false, false, false, false, false, false, false, false, false, false, false, false, false, false, false, false, false, false, false, false, false, false, false, false] rfl rfl (any_of HT_.out (by kernel_rfl)) (fun _ _ _ h => h) (Or.inl ⟨by rfl, ?_⟩) ?_ ?_
  rotate_left
  · intro w'
    go_simp
    with_reducible rfl
  rotate_left
  · simp only [Act.put, List.setIfInBounds_toArray, List.set_cons_zero, List.set_cons_succ, i64_w, i32_w]
    rfl
  refine pure_ (i := 7) (N := some 35) (v := ?_) (a' := ?_) #[true, true, true, true, true, true, true, true, false, false, false, false, false, false, false, false, false, false, false, false, false, false, false, false, false, false, false, false, false, false, false, false, false, false, false, false, false, false, false, false, false, false, false, false, false, false, false, false, false, false, false, false, false, false, false, false, false, false, false, false, false, false, false, false, false, false, false, false, false, false, false, false, false, false, false, false, false, false, false, false, false, false, false, false, false, false, false, false, false, false] rfl rfl (any_of HT_.out (by kernel_rfl)) (fun _ _ _ h => h) (Or.inl ⟨by rfl, ?_⟩) ?_ ?_
  rotate_left
  · intro w'
    go_simp
    with_reducible rfl
  rotate_left
  · simp only [Act.put, List.setIfInBounds_toArray, List.set_cons_zero, List.set_cons_succ, i64_w, i32_w]
    rfl
  refine pure_ (i := 8) (N := some 36) (v := ?_) (a' := ?_) #[true, true, true, true, true, true, true, true, true, false, false, false, false, false, false, false, false, false, false, false, false, false, false, false, false, false, false, false, false, false, false, false, false, false, false, false, false, false, false, false, false, false, false, false, false, false, false, false, false, false, false, false, false, false, false, false, false, false, false, false, false, false, false, false, false, false, false, false, false, false, false, false, false, false, false, false, false, false, false, false, false, false, false, false, false, false, false, false, false, false] rfl rfl (any_of HT_.out (by kernel_rfl)) (fun _ _ _ h => h) (Or.inl ⟨by rfl, ?_⟩) ?_ ?_
  rotate_left
  · intro w'
    go_simp
    with_reducible rfl
  rotate_left
  · simp only [Act.put, List.setIfInBounds_toArray, List.set_cons_zero, List.set_cons_succ, i64_w, i32_w]
    rfl
  refine take_ (i := 9) (N := some 37) (v := ?_) (a' := ?_) #[true, true, true, true, true, true, true, true, true, true, false, false, false, false, false, false, false, false, false, false, false, false, false, false, false, false, false, false, false, false, false, false, false, false, false, false, false, false, false, false, false, false, false, false, false, false, false, false, false, false, false, false, false, false, false, false, false, false, false, false, false, false, false, false, false, false, false, false, false, false, false, false, false, false, false, false, false, false, false, false, false, false, false, false, false, false, false, false, false, false] rfl rfl (take_ofW HT_.out HW_.out (by kernel_rfl)) (fun _ _ _ h => h) (Or.inl ⟨by rfl, ?_⟩) hHeld ?_ ?_
  rotate_left
  · rintro w' ⟨s0, s1, s2, s3, s4, s5, s6, s7, s8, s9, s10, s11, s12, s13, s14, s15, s16, s17, s18, s19⟩
    go_simp
    with_reducible rfl
  rotate_left
  · simp only [Act.put, List.setIfInBounds_toArray, List.set_cons_zero, List.set_cons_succ, i64_w, i32_w]
    rfl
  refine take_ (i := 10) (N := some 38) (v := ?_) (a' := ?_) #[true, true, true, true, true, true, true, true, true, true, true, false, false, false, false, false, false, false, false, false, false, false, false, false, false, false, false, false, false, false, false, false, false, false, false, false, false, false, false, false, false, false, false, false, false, false, false, false, false, false, false, false, false, false, false, false, false, false, false, false, false, false, false, false, false, false, false, false, false, false, false, false, false, false, false, false, false, false, false, false, false, false, false, false, false, false, false, false, false, false] rfl rfl (take_ofW HT_.out HW_.out (by kernel_rfl)) (fun _ _ _ h => h) (Or.inl ⟨by rfl, ?_⟩) hHeld ?_ ?_
  rotate_left
  · rintro w' ⟨s0, s1, s2, s3, s4, s5, s6, s7, s8, s9, s10, s11, s12, s13, s14, s15, s16, s17, s18, s19⟩
    go_simp
    with_reducible rfl
  rotate_left
  · simp only [Act.put, List.setIfInBounds_toArray, List.set_cons_zero, List.set_cons_succ, i64_w, i32_w]
    rfl
  refine take_ (i := 11) (N := some 39) (v := ?_) (a' := ?_) #[true, true, true, true, true, true, true, true, true, true, true, true, false, false, false, false, false, false, false, false, false, false, false, false, false, false, false, false, false, false, false, false, false, false, false, false, false, false, false, false, false, false, false, false, false, false, false, false, false, false, false, false, false, false, false, false, false, false, false, false, false, false, false, false, false, false, false, false, false, false, false, false, false, false, false, false, false, false, false, false, false, false, false, false, false, false, false, false, false, false] rfl rfl (take_ofW HT_.out HW_.out (by kernel_rfl)) (fun _ _ _ h => h) (Or.inl ⟨by rfl, ?_⟩) hHeld ?_ ?_
  rotate_left
  · rintro w' ⟨s0, s1, s2, s3, s4, s5, s6, s7, s8, s9, s10, s11, s12, s13, s14, s15, s16, s17, s18, s19⟩
    go_simp
    with_reducible rfl
  rotate_left
  · simp only [Act.put, List.setIfInBounds_toArray, List.set_cons_zero, List.set_cons_succ, i64_w, i32_w]
    rfl
  refine one_ (i := 12) (N := some 40) #[true, true, true, true, true, true, true, true, true, true, true, true, true, false, false, false, false, false, false, false, false, false, false, false, false, false, false, false, false, false, false, false, false, false, false, false, false, false, false, false, false, false, false, false, false, false, false, false, false, false, false, false, false, false, false, false, false, false, false, false, false, false, false, false, false, false, false, false, false, false, false, false, false, false, false, false, false, false, false, false, false, false, false, false, false, false, false, false, false, false] rfl rfl (one_of HT_.out (by kernel_rfl)) (by decide) (fun K hK => ?_)
  refine goes_ Tryd.func14 (by kernel_rfl) rfl #[.agg #[.int .u64 t540, .int .u64 t541, .int .u64 t542, .int .u64 t543], .agg #[.int .u64 t535, .int .u64 t536, .int .u64 t537, .int .u64 t538]] (by rfl) rfl rfl (by (try simp only [List.map_toArray, List.map_cons, List.map_nil]); first | done | rfl | (simp only [List.length_drop, List.length_take]; rfl)) ?_
  with_reducible refine (vec_Meet.calls t540 t541 t542 t543 t535 t536 t537 t538 t564 t565 t566 t567 _ A13.out).mono ?_
  rintro e w96 ⟨rfl, hb⟩
  refine ⟨_, rfl, ?_⟩
  have n0_ := Zq1 (Zb1 (g := gb531) (o := .cells #[.int .u64 a0_0, .int .u64 a0_1, .int .u64 a0_2, .int .u64 a0_3, .bool a0_4] 26 (0, 0)) (by (with_reducible repeat (first | refine Zn1 ?_ _ | refine Zd1 ?_ | refine Za1 ?_ _)); exact BK531.out) hb)
  have n1_ := Zq1 (Zb1 (g := gb532) (o := .cells #[.int .u64 a1_0, .int .u64 a1_1, .int .u64 a1_2, .int .u64 a1_3, .bool a1_4] 26 (0, 0)) (by (with_reducible repeat (first | refine Zn1 ?_ _ | refine Zd1 ?_ | refine Za1 ?_ _)); exact BK532.out) hb)
  have n2_ := Zq1 (Zb1 (g := gb533) (o := .cells #[.int .u64 a2_0, .int .u64 a2_1, .int .u64 a2_2, .int .u64 a2_3, .bool a2_4] 26 (0, 0)) (by (with_reducible repeat (first | refine Zn1 ?_ _ | refine Zd1 ?_ | refine Za1 ?_ _)); exact BK533.out) hb)
  have n3_ := Zq1 (Zb1 (g := gb539) (o := .cells #[.int .u64 t535, .int .u64 t536, .int .u64 t537, .int .u64 t538] 24 (0, 0)) (by (with_reducible repeat (first | refine Zn1 ?_ _ | refine Zd1 ?_ | refine Za1 ?_ _)); exact BK539.out) hb)
  have n4_ := Zq1 (Zb1 (g := gb544) (o := .cells #[.int .u64 t540, .int .u64 t541, .int .u64 t542, .int .u64 t543] 24 (0, 0)) (by (with_reducible repeat (first | refine Zn1 ?_ _ | refine Zd1 ?_ | refine Za1 ?_ _)); exact BK544.out) hb)
  have n5_ := Zq1 (Zb1 (g := gb549) (o := .cells #[.int .u64 t545, .int .u64 t546, .int .u64 t547, .int .u64 t548] 24 (0, 0)) (by (with_reducible repeat (first | refine Zn1 ?_ _ | refine Zd1 ?_ | refine Za1 ?_ _)); exact BK549.out) hb)
  have n6_ := Zq1 (Zb1 (g := gb554) (o := .cells #[.int .u64 t550, .int .u64 t551, .int .u64 t552, .int .u64 t553] 24 (0, 0)) (by (with_reducible repeat (first | refine Zn1 ?_ _ | refine Zd1 ?_ | refine Za1 ?_ _)); exact BK554.out) hb)
  have n7_ := Zq1 (Zb1 (g := gb559) (o := .cells #[.int .u64 t555, .int .u64 t556, .int .u64 t557, .int .u64 t558] 24 (0, 0)) (by (with_reducible repeat (first | refine Zn1 ?_ _ | refine Zd1 ?_ | refine Za1 ?_ _)); exact BK559.out) hb)
  have n8_ := Zq1 (below_step (by repeat (first | (with_reducible first | exact HB.out | apply below_alloc | apply Zw1 | apply Ze1 | refine Zs1 ?_ GE531.out | refine Zs1 ?_ GE532.out | refine Zs1 ?_ GE533.out | refine Zs1 ?_ GE539.out | refine Zs1 ?_ GE544.out | refine Zs1 ?_ GE549.out | refine Zs1 ?_ GE554.out | refine Zs1 ?_ GE559.out) | exact HB.out)) hb)
  clear BK531
  clear BK532
  clear BK533
  clear BK539
  clear BK544
  clear BK549
  clear BK554
  clear BK559
  clear HB
  have BK531 := n0_
  have BK532 := n1_
  have BK533 := n2_
  have BK539 := n3_
  have BK544 := n4_
  have BK549 := n5_
  have BK554 := n6_
  have BK559 := n7_
  have HB := n8_
  clear n0_ n1_ n2_ n3_ n4_ n5_ n6_ n7_ n8_
  (try clear hb)
  (try clear hb2)
  (try clear hk)
  (try clear hi)
  refine hK.out _ _ ⟨(blk_cell BK554.out 0).trans rfl, (blk_cell BK554.out 1).trans rfl, (blk_cell BK554.out 2).trans rfl, (blk_cell BK554.out 3).trans rfl, (blk_cell BK544.out 0).trans rfl, (blk_cell BK544.out 1).trans rfl, (blk_cell BK544.out 2).trans rfl, (blk_cell BK544.out 3).trans rfl, (blk_cell BK539.out 0).trans rfl, (blk_cell BK539.out 1).trans rfl, (blk_cell BK539.out 2).trans rfl, (blk_cell BK539.out 3).trans rfl, (blk_cell BK559.out 0).trans rfl, (blk_cell BK559.out 1).trans rfl, (blk_cell BK559.out 2).trans rfl, (blk_cell BK559.out 3).trans rfl, (blk_cell BK549.out 0).trans rfl, (blk_cell BK549.out 1).trans rfl, (blk_cell BK549.out 2).trans rfl, (blk_cell BK549.out 3).trans rfl⟩ (fun hHeld => ?_)
  clear hK K
  refine norm_ (a' := ?_) ?_ ?_
  rotate_left
  · show Act.put _ (some 40) _ = _
    simp only [Act.put, List.setIfInBounds_toArray, List.set_cons_zero, List.set_cons_succ, i64_w, i32_w]
    rfl
  refine pure_ (i := 13) (N := some 41) (v := ?_) (a' := ?_) #[true, true, true, true, true, true, true, true, true, true, true, true, true, true, false, false, false, false, false, false, false, false, false, false, false, false, false, false, false, false, false, false, false, false, false, false, false, false, false, false, false, false, false, false, false, false, false, false, false, false, false, false, false, false, false, false, false, false, false, false, false, false, false, false, false, false, false, false, false, false, false, false, false, false, false, false, false, false, false, false, false, false, false, false, false, false, false, false, false, false] rfl rfl (any_of HT_.out (by kernel_rfl)) (fun _ _ _ h => h) (Or.inl ⟨by rfl, ?_⟩) ?_ ?_
  rotate_left
  · intro w'
    go_simp
    with_reducible rfl
  rotate_left
  · simp only [Act.put, List.setIfInBounds_toArray, List.set_cons_zero, List.set_cons_succ, i64_w, i32_w]
    rfl
  refine pure_ (i := 14) (N := some 42) (v := ?_) (a' := ?_) #[true, true, true, true, true, true, true, true, true, true, true, true, true, true, true, false, false, false, false, false, false, false, false, false, false, false, false, false, false, false, false, false, false, false, false, false, false, false, false, false, false, false, false, false, false, false, false, false, false, false, false, false, false, false, false, false, false, false, false, false, false, false, false, false, false, false, false, false, false, false, false, false, false, false, false, false, false, false, false, false, false, false, false, false, false, false, false, false, false, false] rfl rfl (any_of HT_.out (by kernel_rfl)) (fun _ _ _ h => h) (Or.inl ⟨by rfl, ?_⟩) ?_ ?_
  rotate_left
  · intro w'
    go_simp
    with_reducible rfl
  rotate_left
  · simp only [Act.put, List.setIfInBounds_toArray, List.set_cons_zero, List.set_cons_succ, i64_w, i32_w]
    rfl
  refine pure_ (i := 15) (N := some 43) (v := ?_) (a' := ?_) #[true, true, true, true, true, true, true, true, true, true, true, true, true, true, true, true, false, false, false, false, false, false, false, false, false, false, false, false, false, false, false, false, false, false, false, false, false, false, false, false, false, false, false, false, false, false, false, false, false, false, false, false, false, false, false, false, false, false, false, false, false, false, false, false, false, false, false, false, false, false, false, false, false, false, false, false, false, false, false, false, false, false, false, false, false, false, false, false, false, false] rfl rfl (any_of HT_.out (by kernel_rfl)) (fun _ _ _ h => h) (Or.inl ⟨by rfl, ?_⟩) ?_ ?_
  rotate_left
  · intro w'
    go_simp
    with_reducible rfl
  rotate_left
  · simp only [Act.put, List.setIfInBounds_toArray, List.set_cons_zero, List.set_cons_succ, i64_w, i32_w]
    rfl
  refine take_ (i := 16) (N := some 44) (v := ?_) (a' := ?_) #[true, true, true, true, true, true, true, true, true, true, true, true, true, true, true, true, true, false, false, false, false, false, false, false, false, false, false, false, false, false, false, false, false, false, false, false, false, false, false, false, false, false, false, false, false, false, false, false, false, false, false, false, false, false, false, false, false, false, false, false, false, false, false, false, false, false, false, false, false, false, false, false, false, false, false, false, false, false, false, false, false, false, false, false, false, false, false, false, false, false] rfl rfl (take_ofW HT_.out HW_.out (by kernel_rfl)) (fun _ _ _ h => h) (Or.inl ⟨by rfl, ?_⟩) hHeld ?_ ?_
  rotate_left
  · rintro w' ⟨s0, s1, s2, s3, s4, s5, s6, s7, s8, s9, s10, s11, s12, s13, s14, s15, s16, s17, s18, s19⟩
    go_simp
    with_reducible rfl
  rotate_left
  · simp only [Act.put, List.setIfInBounds_toArray, List.set_cons_zero, List.set_cons_succ, i64_w, i32_w]
    rfl
  refine take_ (i := 17) (N := some 45) (v := ?_) (a' := ?_) #[true, true, true, true, true, true, true, true, true, true, true, true, true, true, true, true, true, true, false, false, false, false, false, false, false, false, false, false, false, false, false, false, false, false, false, false, false, false, false, false, false, false, false, false, false, false, false, false, false, false, false, false, false, false, false, false, false, false, false, false, false, false, false, false, false, false, false, false, false, false, false, false, false, false, false, false, false, false, false, false, false, false, false, false, false, false, false, false, false, false] rfl rfl (take_ofW HT_.out HW_.out (by kernel_rfl)) (fun _ _ _ h => h) (Or.inl ⟨by rfl, ?_⟩) hHeld ?_ ?_
  rotate_left
  · rintro w' ⟨s0, s1, s2, s3, s4, s5, s6, s7, s8, s9, s10, s11, s12, s13, s14, s15, s16, s17, s18, s19⟩
    go_simp
    with_reducible rfl
  rotate_left
  · simp only [Act.put, List.setIfInBounds_toArray, List.set_cons_zero, List.set_cons_succ, i64_w, i32_w]
    rfl
  refine take_ (i := 19) (N := some 47) (v := ?_) (a' := ?_) #[true, true, true, true, true, true, true, true, true, true, true, true, true, true, true, true, true, true, false, true, false, false, false, false, false, false, false, false, false, false, false, false, false, false, false, false, false, false, false, false, false, false, false, false, false, false, false, false, false, false, false, false, false, false, false, false, false, false, false, false, false, false, false, false, false, false, false, false, false, false, false, false, false, false, false, false, false, false, false, false, false, false, false, false, false, false, false, false, false, false] rfl rfl (take_ofW HT_.out HW_.out (by kernel_rfl)) (fun _ _ _ h => h) (Or.inl ⟨by rfl, ?_⟩) hHeld ?_ ?_
  rotate_left
  · rintro w' ⟨s0, s1, s2, s3, s4, s5, s6, s7, s8, s9, s10, s11, s12, s13, s14, s15, s16, s17, s18, s19⟩
    go_simp
    with_reducible rfl
  rotate_left
  · simp only [Act.put, List.setIfInBounds_toArray, List.set_cons_zero, List.set_cons_succ, i64_w, i32_w]
    rfl
  refine take_ (i := 20) (N := some 48) (v := ?_) (a' := ?_) #[true, true, true, true, true, true, true, true, true, true, true, true, true, true, true, true, true, true, false, true, true, false, false, false, false, false, false, false, false, false, false, false, false, false, false, false, false, false, false, false, false, false, false, false, false, false, false, false, false, false, false, false, false, false, false, false, false, false, false, false, false, false, false, false, false, false, false, false, false, false, false, false, false, false, false, false, false, false, false, false, false, false, false, false, false, false, false, false, false, false] rfl rfl (take_ofW HT_.out HW_.out (by kernel_rfl)) (fun _ _ _ h => h) (Or.inl ⟨by rfl, ?_⟩) hHeld ?_ ?_
  rotate_left
  · rintro w' ⟨s0, s1, s2, s3, s4, s5, s6, s7, s8, s9, s10, s11, s12, s13, s14, s15, s16, s17, s18, s19⟩
    go_simp
    with_reducible rfl
  rotate_left
  · simp only [Act.put, List.setIfInBounds_toArray, List.set_cons_zero, List.set_cons_succ, i64_w, i32_w]
    rfl
  refine take_ (i := 21) (N := some 49) (v := ?_) (a' := ?_) #[true, true, true, true, true, true, true, true, true, true, true, true, true, true, true, true, true, true, false, true, true, true, false, false, false, false, false, false, false, false, false, false, false, false, false, false, false, false, false, false, false, false, false, false, false, false, false, false, false, false, false, false, false, false, false, false, false, false, false, false, false, false, false, false, false, false, false, false, false, false, false, false, false, false, false, false, false, false, false, false, false, false, false, false, false, false, false, false, false, false] rfl rfl (take_ofW HT_.out HW_.out (by kernel_rfl)) (fun _ _ _ h => h) (Or.inl ⟨by rfl, ?_⟩) hHeld ?_ ?_
  rotate_left
  · rintro w' ⟨s0, s1, s2, s3, s4, s5, s6, s7, s8, s9, s10, s11, s12, s13, s14, s15, s16, s17, s18, s19⟩
    go_simp
    with_reducible rfl
  rotate_left
  · simp only [Act.put, List.setIfInBounds_toArray, List.set_cons_zero, List.set_cons_succ, i64_w, i32_w]
    rfl
  refine one_ (i := 18) (N := some 46) #[true, true, true, true, true, true, true, true, true, true, true, true, true, true, true, true, true, true, true, true, true, true, false, false, false, false, false, false, false, false, false, false, false, false, false, false, false, false, false, false, false, false, false, false, false, false, false, false, false, false, false, false, false, false, false, false, false, false, false, false, false, false, false, false, false, false, false, false, false, false, false, false, false, false, false, false, false, false, false, false, false, false, false, false, false, false, false, false, false, false] rfl rfl (one_of HT_.out (by kernel_rfl)) (by decide) (fun K hK => ?_)
  refine goes_ Tryd.func12 (by kernel_rfl) rfl #[.agg #[.int .u64 t550, .int .u64 t551, .int .u64 t552, .int .u64 t553], .agg #[.int .u64 t545, .int .u64 t546, .int .u64 t547, .int .u64 t548]] (by rfl) rfl rfl (by (try simp only [List.map_toArray, List.map_cons, List.map_nil]); first | done | rfl | (simp only [List.length_drop, List.length_take]; rfl)) ?_
  with_reducible refine (vec_Join.calls t550 t551 t552 t553 t545 t546 t547 t548 t568 t569 t570 t571 _ A15.out).mono ?_
  rintro e w97 ⟨rfl, hb⟩
  refine ⟨_, rfl, ?_⟩
  have n0_ := Zq1 (Zb1 (g := gb531) (o := .cells #[.int .u64 a0_0, .int .u64 a0_1, .int .u64 a0_2, .int .u64 a0_3, .bool a0_4] 26 (0, 0)) (by (with_reducible repeat (first | refine Zn1 ?_ _ | refine Zd1 ?_ | refine Za1 ?_ _)); exact BK531.out) hb)
  have n1_ := Zq1 (Zb1 (g := gb532) (o := .cells #[.int .u64 a1_0, .int .u64 a1_1, .int .u64 a1_2, .int .u64 a1_3, .bool a1_4] 26 (0, 0)) (by (with_reducible repeat (first | refine Zn1 ?_ _ | refine Zd1 ?_ | refine Za1 ?_ _)); exact BK532.out) hb)
  have n2_ := Zq1 (Zb1 (g := gb533) (o := .cells #[.int .u64 a2_0, .int .u64 a2_1, .int .u64 a2_2, .int .u64 a2_3, .bool a2_4] 26 (0, 0)) (by (with_reducible repeat (first | refine Zn1 ?_ _ | refine Zd1 ?_ | refine Za1 ?_ _)); exact BK533.out) hb)
  have n3_ := Zq1 (Zb1 (g := gb539) (o := .cells #[.int .u64 t535, .int .u64 t536, .int .u64 t537, .int .u64 t538] 24 (0, 0)) (by (with_reducible repeat (first | refine Zn1 ?_ _ | refine Zd1 ?_ | refine Za1 ?_ _)); exact BK539.out) hb)
  have n4_ := Zq1 (Zb1 (g := gb544) (o := .cells #[.int .u64 t540, .int .u64 t541, .int .u64 t542, .int .u64 t543] 24 (0, 0)) (by (with_reducible repeat (first | refine Zn1 ?_ _ | refine Zd1 ?_ | refine Za1 ?_ _)); exact BK544.out) hb)
  have n5_ := Zq1 (Zb1 (g := gb549) (o := .cells #[.int .u64 t545, .int .u64 t546, .int .u64 t547, .int .u64 t548] 24 (0, 0)) (by (with_reducible repeat (first | refine Zn1 ?_ _ | refine Zd1 ?_ | refine Za1 ?_ _)); exact BK549.out) hb)
  have n6_ := Zq1 (Zb1 (g := gb554) (o := .cells #[.int .u64 t550, .int .u64 t551, .int .u64 t552, .int .u64 t553] 24 (0, 0)) (by (with_reducible repeat (first | refine Zn1 ?_ _ | refine Zd1 ?_ | refine Za1 ?_ _)); exact BK554.out) hb)
  have n7_ := Zq1 (Zb1 (g := gb559) (o := .cells #[.int .u64 t555, .int .u64 t556, .int .u64 t557, .int .u64 t558] 24 (0, 0)) (by (with_reducible repeat (first | refine Zn1 ?_ _ | refine Zd1 ?_ | refine Za1 ?_ _)); exact BK559.out) hb)
  have n8_ := Zq1 (below_step (by repeat (first | (with_reducible first | exact HB.out | apply below_alloc | apply Zw1 | apply Ze1 | refine Zs1 ?_ GE531.out | refine Zs1 ?_ GE532.out | refine Zs1 ?_ GE533.out | refine Zs1 ?_ GE539.out | refine Zs1 ?_ GE544.out | refine Zs1 ?_ GE549.out | refine Zs1 ?_ GE554.out | refine Zs1 ?_ GE559.out) | exact HB.out)) hb)
  clear BK531
  clear BK532
  clear BK533
  clear BK539
  clear BK544
  clear BK549
  clear BK554
  clear BK559
  clear HB
  have BK531 := n0_
  have BK532 := n1_
  have BK533 := n2_
  have BK539 := n3_
  have BK544 := n4_
  have BK549 := n5_
  have BK554 := n6_
  have BK559 := n7_
  have HB := n8_
  clear n0_ n1_ n2_ n3_ n4_ n5_ n6_ n7_ n8_
  (try clear hb)
  (try clear hb2)
  (try clear hk)
  (try clear hi)
  refine hK.out _ _ ⟨(blk_cell BK554.out 0).trans rfl, (blk_cell BK554.out 1).trans rfl, (blk_cell BK554.out 2).trans rfl, (blk_cell BK554.out 3).trans rfl, (blk_cell BK544.out 0).trans rfl, (blk_cell BK544.out 1).trans rfl, (blk_cell BK544.out 2).trans rfl, (blk_cell BK544.out 3).trans rfl, (blk_cell BK539.out 0).trans rfl, (blk_cell BK539.out 1).trans rfl, (blk_cell BK539.out 2).trans rfl, (blk_cell BK539.out 3).trans rfl, (blk_cell BK559.out 0).trans rfl, (blk_cell BK559.out 1).trans rfl, (blk_cell BK559.out 2).trans rfl, (blk_cell BK559.out 3).trans rfl, (blk_cell BK549.out 0).trans rfl, (blk_cell BK549.out 1).trans rfl, (blk_cell BK549.out 2).trans rfl, (blk_cell BK549.out 3).trans rfl⟩ (fun hHeld => ?_)
  clear hK K
  refine norm_ (a' := ?_) ?_ ?_
  rotate_left
  · show Act.put _ (some 46) _ = _
    simp only [Act.put, List.setIfInBounds_toArray, List.set_cons_zero, List.set_cons_succ, i64_w, i32_w]
    rfl
  refine one_ (i := 22) (N := some 50) #[true, true, true, true, true, true, true, true, true, true, true, true, true, true, true, true, true, true, true, true, true, true, true, false, false, false, false, false, false, false, false, false, false, false, false, false, false, false, false, false, false, false, false, false, false, false, false, false, false, false, false, false, false, false, false, false, false, false, false, false, false, false, false, false, false, false, false, false, false, false, false, false, false, false, false, false, false, false, false, false, false, false, false, false, false, false, false, false, false, false] rfl rfl (one_of HT_.out (by kernel_rfl)) (by decide) (fun K hK => ?_)
  refine goes_ Tryd.func12 (by kernel_rfl) rfl #[.agg #[.int .u64 t540, .int .u64 t541, .int .u64 t542, .int .u64 t543], .agg #[.int .u64 t545, .int .u64 t546, .int .u64 t547, .int .u64 t548]] (by rfl) rfl rfl (by (try simp only [List.map_toArray, List.map_cons, List.map_nil]); first | done | rfl | (simp only [List.length_drop, List.length_take]; rfl)) ?_
  with_reducible refine (vec_Join.calls t540 t541 t542 t543 t545 t546 t547 t548 t572 t573 t574 t575 _ A16.out).mono ?_
  rintro e w98 ⟨rfl, hb⟩
  refine ⟨_, rfl, ?_⟩
  have n0_ := Zq1 (Zb1 (g := gb531) (o := .cells #[.int .u64 a0_0, .int .u64 a0_1, .int .u64 a0_2, .int .u64 a0_3, .bool a0_4] 26 (0, 0)) (by (with_reducible repeat (first | refine Zn1 ?_ _ | refine Zd1 ?_ | refine Za1 ?_ _)); exact BK531.out) hb)
  have n1_ := Zq1 (Zb1 (g := gb532) (o := .cells #[.int .u64 a1_0, .int .u64 a1_1, .int .u64 a1_2, .int .u64 a1_3, .bool a1_4] 26 (0, 0)) (by (with_reducible repeat (first | refine Zn1 ?_ _ | refine Zd1 ?_ | refine Za1 ?_ _)); exact BK532.out) hb)
  have n2_ := Zq1 (Zb1 (g := gb533) (o := .cells #[.int .u64 a2_0, .int .u64 a2_1, .int .u64 a2_2, .int .u64 a2_3, .bool a2_4] 26 (0, 0)) (by (with_reducible repeat (first | refine Zn1 ?_ _ | refine Zd1 ?_ | refine Za1 ?_ _)); exact BK533.out) hb)
  have n3_ := Zq1 (Zb1 (g := gb539) (o := .cells #[.int .u64 t535, .int .u64 t536, .int .u64 t537, .int .u64 t538] 24 (0, 0)) (by (with_reducible repeat (first | refine Zn1 ?_ _ | refine Zd1 ?_ | refine Za1 ?_ _)); exact BK539.out) hb)
  have n4_ := Zq1 (Zb1 (g := gb544) (o := .cells #[.int .u64 t540, .int .u64 t541, .int .u64 t542, .int .u64 t543] 24 (0, 0)) (by (with_reducible repeat (first | refine Zn1 ?_ _ | refine Zd1 ?_ | refine Za1 ?_ _)); exact BK544.out) hb)
  have n5_ := Zq1 (Zb1 (g := gb549) (o := .cells #[.int .u64 t545, .int .u64 t546, .int .u64 t547, .int .u64 t548] 24 (0, 0)) (by (with_reducible repeat (first | refine Zn1 ?_ _ | refine Zd1 ?_ | refine Za1 ?_ _)); exact BK549.out) hb)
  have n6_ := Zq1 (Zb1 (g := gb554) (o := .cells #[.int .u64 t550, .int .u64 t551, .int .u64 t552, .int .u64 t553] 24 (0, 0)) (by (with_reducible repeat (first | refine Zn1 ?_ _ | refine Zd1 ?_ | refine Za1 ?_ _)); exact BK554.out) hb)
  have n7_ := Zq1 (Zb1 (g := gb559) (o := .cells #[.int .u64 t555, .int .u64 t556, .int .u64 t557, .int .u64 t558] 24 (0, 0)) (by (with_reducible repeat (first | refine Zn1 ?_ _ | refine Zd1 ?_ | refine Za1 ?_ _)); exact BK559.out) hb)
  have n8_ := Zq1 (below_step (by repeat (first | (with_reducible first | exact HB.out | apply below_alloc | apply Zw1 | apply Ze1 | refine Zs1 ?_ GE531.out | refine Zs1 ?_ GE532.out | refine Zs1 ?_ GE533.out | refine Zs1 ?_ GE539.out | refine Zs1 ?_ GE544.out | refine Zs1 ?_ GE549.out | refine Zs1 ?_ GE554.out | refine Zs1 ?_ GE559.out) | exact HB.out)) hb)
  clear BK531
  clear BK532
  clear BK533
  clear BK539
  clear BK544
  clear BK549
  clear BK554
  clear BK559
  clear HB
  have BK531 := n0_
  have BK532 := n1_
  have BK533 := n2_
  have BK539 := n3_
  have BK544 := n4_
  have BK549 := n5_
  have BK554 := n6_
  have BK559 := n7_
  have HB := n8_
  clear n0_ n1_ n2_ n3_ n4_ n5_ n6_ n7_ n8_
  (try clear hb)
  (try clear hb2)
  (try clear hk)
  (try clear hi)
  refine hK.out _ _ ⟨(blk_cell BK554.out 0).trans rfl, (blk_cell BK554.out 1).trans rfl, (blk_cell BK554.out 2).trans rfl, (blk_cell BK554.out 3).trans rfl, (blk_cell BK544.out 0).trans rfl, (blk_cell BK544.out 1).trans rfl, (blk_cell BK544.out 2).trans rfl, (blk_cell BK544.out 3).trans rfl, (blk_cell BK539.out 0).trans rfl, (blk_cell BK539.out 1).trans rfl, (blk_cell BK539.out 2).trans rfl, (blk_cell BK539.out 3).trans rfl, (blk_cell BK559.out 0).trans rfl, (blk_cell BK559.out 1).trans rfl, (blk_cell BK559.out 2).trans rfl, (blk_cell BK559.out 3).trans rfl, (blk_cell BK549.out 0).trans rfl, (blk_cell BK549.out 1).trans rfl, (blk_cell BK549.out 2).trans rfl, (blk_cell BK549.out 3).trans rfl⟩ (fun hHeld => ?_)
  clear hK K
  refine norm_ (a' := ?_) ?_ ?_
  rotate_left
  · show Act.put _ (some 50) _ = _
    simp only [Act.put, List.setIfInBounds_toArray, List.set_cons_zero, List.set_cons_succ, i64_w, i32_w]
    rfl
  refine one_ (i := 23) (N := some 51) #[true, true, true, true, true, true, true, true, true, true, true, true, true, true, true, true, true, true, true, true, true, true, true, true, false, false, false, false, false, false, false, false, false, false, false, false, false, false, false, false, false, false, false, false, false, false, false, false, false, false, false, false, false, false, false, false, false, false, false, false, false, false, false, false, false, false, false, false, false, false, false, false, false, false, false, false, false, false, false, false, false, false, false, false, false, false, false, false, false, false] rfl rfl (one_of HT_.out (by kernel_rfl)) (by decide) (fun K hK => ?_)
  refine goes_ Tryd.func12 (by kernel_rfl) rfl #[.agg #[.int .u64 t535, .int .u64 t536, .int .u64 t537, .int .u64 t538], .agg #[.int .u64 t572, .int .u64 t573, .int .u64 t574, .int .u64 t575]] (by rfl) rfl rfl (by (try simp only [List.map_toArray, List.map_cons, List.map_nil]); first | done | rfl | (simp only [List.length_drop, List.length_take]; rfl)) ?_
  with_reducible refine (vec_Join.calls t535 t536 t537 t538 t572 t573 t574 t575 t576 t577 t578 t579 _ A17.out).mono ?_
  rintro e w99 ⟨rfl, hb⟩
  refine ⟨_, rfl, ?_⟩
  have n0_ := Zq1 (Zb1 (g := gb531) (o := .cells #[.int .u64 a0_0, .int .u64 a0_1, .int .u64 a0_2, .int .u64 a0_3, .bool a0_4] 26 (0, 0)) (by (with_reducible repeat (first | refine Zn1 ?_ _ | refine Zd1 ?_ | refine Za1 ?_ _)); exact BK531.out) hb)
  have n1_ := Zq1 (Zb1 (g := gb532) (o := .cells #[.int .u64 a1_0, .int .u64 a1_1, .int .u64 a1_2, .int .u64 a1_3, .bool a1_4] 26 (0, 0)) (by (with_reducible repeat (first | refine Zn1 ?_ _ | refine Zd1 ?_ | refine Za1 ?_ _)); exact BK532.out) hb)
  have n2_ := Zq1 (Zb1 (g := gb533) (o := .cells #[.int .u64 a2_0, .int .u64 a2_1, .int .u64 a2_2, .int .u64 a2_3, .bool a2_4] 26 (0, 0)) (by (with_reducible repeat (first | refine Zn1 ?_ _ | refine Zd1 ?_ | refine Za1 ?_ _)); exact BK533.out) hb)
  have n3_ := Zq1 (Zb1 (g := gb539) (o := .cells #[.int .u64 t535, .int .u64 t536, .int .u64 t537, .int .u64 t538] 24 (0, 0)) (by (with_reducible repeat (first | refine Zn1 ?_ _ | refine Zd1 ?_ | refine Za1 ?_ _)); exact BK539.out) hb)
  have n4_ := Zq1 (Zb1 (g := gb544) (o := .cells #[.int .u64 t540, .int .u64 t541, .int .u64 t542, .int .u64 t543] 24 (0, 0)) (by (with_reducible repeat (first | refine Zn1 ?_ _ | refine Zd1 ?_ | refine Za1 ?_ _)); exact BK544.out) hb)
  have n5_ := Zq1 (Zb1 (g := gb549) (o := .cells #[.int .u64 t545, .int .u64 t546, .int .u64 t547, .int .u64 t548] 24 (0, 0)) (by (with_reducible repeat (first | refine Zn1 ?_ _ | refine Zd1 ?_ | refine Za1 ?_ _)); exact BK549.out) hb)
  have n6_ := Zq1 (Zb1 (g := gb554) (o := .cells #[.int .u64 t550, .int .u64 t551, .int .u64 t552, .int .u64 t553] 24 (0, 0)) (by (with_reducible repeat (first | refine Zn1 ?_ _ | refine Zd1 ?_ | refine Za1 ?_ _)); exact BK554.out) hb)
  have n7_ := Zq1 (Zb1 (g := gb559) (o := .cells #[.int .u64 t555, .int .u64 t556, .int .u64 t557, .int .u64 t558] 24 (0, 0)) (by (with_reducible repeat (first | refine Zn1 ?_ _ | refine Zd1 ?_ | refine Za1 ?_ _)); exact BK559.out) hb)
  have n8_ := Zq1 (below_step (by repeat (first | (with_reducible first | exact HB.out | apply below_alloc | apply Zw1 | apply Ze1 | refine Zs1 ?_ GE531.out | refine Zs1 ?_ GE532.out | refine Zs1 ?_ GE533.out | refine Zs1 ?_ GE539.out | refine Zs1 ?_ GE544.out | refine Zs1 ?_ GE549.out | refine Zs1 ?_ GE554.out | refine Zs1 ?_ GE559.out) | exact HB.out)) hb)
  clear BK531
  clear BK532
  clear BK533
  clear BK539
  clear BK544
  clear BK549
  clear BK554
  clear BK559
  clear HB
  have BK531 := n0_
  have BK532 := n1_
  have BK533 := n2_
  have BK539 := n3_
  have BK544 := n4_
  have BK549 := n5_
  have BK554 := n6_
  have BK559 := n7_
  have HB := n8_
  clear n0_ n1_ n2_ n3_ n4_ n5_ n6_ n7_ n8_
  (try clear hb)
  (try clear hb2)
  (try clear hk)
  (try clear hi)
  refine hK.out _ _ ⟨(blk_cell BK554.out 0).trans rfl, (blk_cell BK554.out 1).trans rfl, (blk_cell BK554.out 2).trans rfl, (blk_cell BK554.out 3).trans rfl, (blk_cell BK544.out 0).trans rfl, (blk_cell BK544.out 1).trans rfl, (blk_cell BK544.out 2).trans rfl, (blk_cell BK544.out 3).trans rfl, (blk_cell BK539.out 0).trans rfl, (blk_cell BK539.out 1).trans rfl, (blk_cell BK539.out 2).trans rfl, (blk_cell BK539.out 3).trans rfl, (blk_cell BK559.out 0).trans rfl, (blk_cell BK559.out 1).trans rfl, (blk_cell BK559.out 2).trans rfl, (blk_cell BK559.out 3).trans rfl, (blk_cell BK549.out 0).trans rfl, (blk_cell BK549.out 1).trans rfl, (blk_cell BK549.out 2).trans rfl, (blk_cell BK549.out 3).trans rfl⟩ (fun hHeld => ?_)
  clear hK K
  refine norm_ (a' := ?_) ?_ ?_
  rotate_left
  · show Act.put _ (some 51) _ = _
    simp only [Act.put, List.setIfInBounds_toArray, List.set_cons_zero, List.set_cons_succ, i64_w, i32_w]
    rfl
  refine pure_ (i := 24) (N := some 52) (v := ?_) (a' := ?_) #[true, true, true, true, true, true, true, true, true, true, true, true, true, true, true, true, true, true, true, true, true, true, true, true, true, false, false, false, false, false, false, false, false, false, false, false, false, false, false, false, false, false, false, false, false, false, false, false, false, false, false, false, false, false, false, false, false, false, false, false, false, false, false, false, false, false, false, false, false, false, false, false, false, false, false, false, false, false, false, false, false, false, false, false, false, false, false, false, false, false] rfl rfl (any_of HT_.out (by kernel_rfl)) (fun _ _ _ h => h) (Or.inl ⟨by rfl, ?_⟩) ?_ ?_
  rotate_left
  · intro w'
    go_simp
    with_reducible rfl
  rotate_left
  · simp only [Act.put, List.setIfInBounds_toArray, List.set_cons_zero, List.set_cons_succ, i64_w, i32_w]
    rfl
  refine pure_ (i := 25) (N := some 53) (v := ?_) (a' := ?_) #[true, true, true, true, true, true, true, true, true, true, true, true, true, true, true, true, true, true, true, true, true, true, true, true, true, true, false, false, false, false, false, false, false, false, false, false, false, false, false, false, false, false, false, false, false, false, false, false, false, false, false, false, false, false, false, false, false, false, false, false, false, false, false, false, false, false, false, false, false, false, false, false, false, false, false, false, false, false, false, false, false, false, false, false, false, false, false, false, false, false] rfl rfl (any_of HT_.out (by kernel_rfl)) (fun _ _ _ h => h) (Or.inl ⟨by rfl, ?_⟩) ?_ ?_
  rotate_left
  · intro w'
    go_simp
    with_reducible rfl
  rotate_left
  · simp only [Act.put, List.setIfInBounds_toArray, List.set_cons_zero, List.set_cons_succ, i64_w, i32_w]
    rfl
  refine pure_ (i := 26) (N := some 54) (v := ?_) (a' := ?_) #[true, true, true, true, true, true, true, true, true, true, true, true, true, true, true, true, true, true, true, true, true, true, true, true, true, true, true, false, false, false, false, false, false, false, false, false, false, false, false, false, false, false, false, false, false, false, false, false, false, false, false, false, false, false, false, false, false, false, false, false, false, false, false, false, false, false, false, false, false, false, false, false, false, false, false, false, false, false, false, false, false, false, false, false, false, false, false, false, false, false] rfl rfl (any_of HT_.out (by kernel_rfl)) (fun _ _ _ h => h) (Or.inl ⟨by rfl, ?_⟩) ?_ ?_
  rotate_left
  · intro w'
    go_simp
    with_reducible rfl
  rotate_left
  · simp only [Act.put, List.setIfInBounds_toArray, List.set_cons_zero, List.set_cons_succ, i64_w, i32_w]
    rfl
  refine take_ (i := 27) (N := some 55) (v := ?_) (a' := ?_) #[true, true, true, true, true, true, true, true, true, true, true, true, true, true, true, true, true, true, true, true, true, true, true, true, true, true, true, true, false, false, false, false, false, false, false, false, false, false, false, false, false, false, false, false, false, false, false, false, false, false, false, false, false, false, false, false, false, false, false, false, false, false, false, false, false, false, false, false, false, false, false, false, false, false, false, false, false, false, false, false, false, false, false, false, false, false, false, false, false, false] rfl rfl (take_ofW HT_.out HW_.out (by kernel_rfl)) (fun _ _ _ h => h) (Or.inl ⟨by rfl, ?_⟩) hHeld ?_ ?_
  rotate_left
  · rintro w' ⟨s0, s1, s2, s3, s4, s5, s6, s7, s8, s9, s10, s11, s12, s13, s14, s15, s16, s17, s18, s19⟩
    go_simp
    with_reducible rfl
  rotate_left
  · simp only [Act.put, List.setIfInBounds_toArray, List.set_cons_zero, List.set_cons_succ, i64_w, i32_w]
    rfl
  refine take_ (i := 28) (N := some 56) (v := ?_) (a' := ?_) #[true, true, true, true, true, true, true, true, true, true, true, true, true, true, true, true, true, true, true, true, true, true, true, true, true, true, true, true, true, false, false, false, false, false, false, false, false, false, false, false, false, false, false, false, false, false, false, false, false, false, false, false, false, false, false, false, false, false, false, false, false, false, false, false, false, false, false, false, false, false, false, false, false, false, false, false, false, false, false, false, false, false, false, false, false, false, false, false, false, false] rfl rfl (take_ofW HT_.out HW_.out (by kernel_rfl)) (fun _ _ _ h => h) (Or.inl ⟨by rfl, ?_⟩) hHeld ?_ ?_
  rotate_left
  · rintro w' ⟨s0, s1, s2, s3, s4, s5, s6, s7, s8, s9, s10, s11, s12, s13, s14, s15, s16, s17, s18, s19⟩
    go_simp
    with_reducible rfl
  rotate_left
  · simp only [Act.put, List.setIfInBounds_toArray, List.set_cons_zero, List.set_cons_succ, i64_w, i32_w]
    rfl
  refine take_ (i := 30) (N := some 58) (v := ?_) (a' := ?_) #[true, true, true, true, true, true, true, true, true, true, true, true, true, true, true, true, true, true, true, true, true, true, true, true, true, true, true, true, true, false, true, false, false, false, false, false, false, false, false, false, false, false, false, false, false, false, false, false, false, false, false, false, false, false, false, false, false, false, false, false, false, false, false, false, false, false, false, false, false, false, false, false, false, false, false, false, false, false, false, false, false, false, false, false, false, false, false, false, false, false] rfl rfl (take_ofW HT_.out HW_.out (by kernel_rfl)) (fun _ _ _ h => h) (Or.inl ⟨by rfl, ?_⟩) hHeld ?_ ?_
  rotate_left
  · rintro w' ⟨s0, s1, s2, s3, s4, s5, s6, s7, s8, s9, s10, s11, s12, s13, s14, s15, s16, s17, s18, s19⟩
    go_simp
    with_reducible rfl
  rotate_left
  · simp only [Act.put, List.setIfInBounds_toArray, List.set_cons_zero, List.set_cons_succ, i64_w, i32_w]
    rfl
  refine take_ (i := 31) (N := some 59) (v := ?_) (a' := ?_) #[true, true, true, true, true, true, true, true, true, true, true, true, true, true, true, true, true, true, true, true, true, true, true, true, true, true, true, true, true, false, true, true, false, false, false, false, false, false, false, false, false, false, false, false, false, false, false, false, false, false, false, false, false, false, false, false, false, false, false, false, false, false, false, false, false, false, false, false, false, false, false, false, false, false, false, false, false, false, false, false, false, false, false, false, false, false, false, false, false, false] rfl rfl (take_ofW HT_.out HW_.out (by kernel_rfl)) (fun _ _ _ h => h) (Or.inl ⟨by rfl, ?_⟩) hHeld ?_ ?_
  rotate_left
  · rintro w' ⟨s0, s1, s2, s3, s4, s5, s6, s7, s8, s9, s10, s11, s12, s13, s14, s15, s16, s17, s18, s19⟩
    go_simp
    with_reducible rfl
  rotate_left
  · simp only [Act.put, List.setIfInBounds_toArray, List.set_cons_zero, List.set_cons_succ, i64_w, i32_w]
    rfl
  refine take_ (i := 32) (N := some 60) (v := ?_) (a' := ?_) #[true, true, true, true, true, true, true, true, true, true, true, true, true, true, true, true, true, true, true, true, true, true, true, true, true, true, true, true, true, false, true, true, true, false, false, false, false, false, false, false, false, false, false, false, false, false, false, false, false, false, false, false, false, false, false, false, false, false, false, false, false, false, false, false, false, false, false, false, false, false, false, false, false, false, false, false, false, false, false, false, false, false, false, false, false, false, false, false, false, false] rfl rfl (take_ofW HT_.out HW_.out (by kernel_rfl)) (fun _ _ _ h => h) (Or.inl ⟨by rfl, ?_⟩) hHeld ?_ ?_
  rotate_left
  · rintro w' ⟨s0, s1, s2, s3, s4, s5, s6, s7, s8, s9, s10, s11, s12, s13, s14, s15, s16, s17, s18, s19⟩
    go_simp
    with_reducible rfl
  rotate_left
  · simp only [Act.put, List.setIfInBounds_toArray, List.set_cons_zero, List.set_cons_succ, i64_w, i32_w]
    rfl
  refine one_ (i := 29) (N := some 57) #[true, true, true, true, true, true, true, true, true, true, true, true, true, true, true, true, true, true, true, true, true, true, true, true, true, true, true, true, true, true, true, true, true, false, false, false, false, false, false, false, false, false, false, false, false, false, false, false, false, false, false, false, false, false, false, false, false, false, false, false, false, false, false, false, false, false, false, false, false, false, false, false, false, false, false, false, false, false, false, false, false, false, false, false, false, false, false, false, false, false] rfl rfl (one_of HT_.out (by kernel_rfl)) (by decide) (fun K hK => ?_)
  refine goes_ Tryd.func14 (by kernel_rfl) rfl #[.agg #[.int .u64 t555, .int .u64 t556, .int .u64 t557, .int .u64 t558], .agg #[.int .u64 t545, .int .u64 t546, .int .u64 t547, .int .u64 t548]] (by rfl) rfl rfl (by (try simp only [List.map_toArray, List.map_cons, List.map_nil]); first | done | rfl | (simp only [List.length_drop, List.length_take]; rfl)) ?_
  with_reducible refine (vec_Meet.calls t555 t556 t557 t558 t545 t546 t547 t548 t580 t581 t582 t583 _ A19.out).mono ?_
  rintro e w100 ⟨rfl, hb⟩
  refine ⟨_, rfl, ?_⟩
  have n0_ := Zq1 (Zb1 (g := gb531) (o := .cells #[.int .u64 a0_0, .int .u64 a0_1, .int .u64 a0_2, .int .u64 a0_3, .bool a0_4] 26 (0, 0)) (by (with_reducible repeat (first | refine Zn1 ?_ _ | refine Zd1 ?_ | refine Za1 ?_ _)); exact BK531.out) hb)
  have n1_ := Zq1 (Zb1 (g := gb532) (o := .cells #[.int .u64 a1_0, .int .u64 a1_1, .int .u64 a1_2, .int .u64 a1_3, .bool a1_4] 26 (0, 0)) (by (with_reducible repeat (first | refine Zn1 ?_ _ | refine Zd1 ?_ | refine Za1 ?_ _)); exact BK532.out) hb)
  have n2_ := Zq1 (Zb1 (g := gb533) (o := .cells #[.int .u64 a2_0, .int .u64 a2_1, .int .u64 a2_2, .int .u64 a2_3, .bool a2_4] 26 (0, 0)) (by (with_reducible repeat (first | refine Zn1 ?_ _ | refine Zd1 ?_ | refine Za1 ?_ _)); exact BK533.out) hb)
  have n3_ := Zq1 (Zb1 (g := gb539) (o := .cells #[.int .u64 t535, .int .u64 t536, .int .u64 t537, .int .u64 t538] 24 (0, 0)) (by (with_reducible repeat (first | refine Zn1 ?_ _ | refine Zd1 ?_ | refine Za1 ?_ _)); exact BK539.out) hb)
  have n4_ := Zq1 (Zb1 (g := gb544) (o := .cells #[.int .u64 t540, .int .u64 t541, .int .u64 t542, .int .u64 t543] 24 (0, 0)) (by (with_reducible repeat (first | refine Zn1 ?_ _ | refine Zd1 ?_ | refine Za1 ?_ _)); exact BK544.out) hb)
  have n5_ := Zq1 (Zb1 (g := gb549) (o := .cells #[.int .u64 t545, .int .u64 t546, .int .u64 t547, .int .u64 t548] 24 (0, 0)) (by (with_reducible repeat (first | refine Zn1 ?_ _ | refine Zd1 ?_ | refine Za1 ?_ _)); exact BK549.out) hb)
  have n6_ := Zq1 (Zb1 (g := gb554) (o := .cells #[.int .u64 t550, .int .u64 t551, .int .u64 t552, .int .u64 t553] 24 (0, 0)) (by (with_reducible repeat (first | refine Zn1 ?_ _ | refine Zd1 ?_ | refine Za1 ?_ _)); exact BK554.out) hb)
  have n7_ := Zq1 (Zb1 (g := gb559) (o := .cells #[.int .u64 t555, .int .u64 t556, .int .u64 t557, .int .u64 t558] 24 (0, 0)) (by (with_reducible repeat (first | refine Zn1 ?_ _ | refine Zd1 ?_ | refine Za1 ?_ _)); exact BK559.out) hb)
  have n8_ := Zq1 (below_step (by repeat (first | (with_reducible first | exact HB.out | apply below_alloc | apply Zw1 | apply Ze1 | refine Zs1 ?_ GE531.out | refine Zs1 ?_ GE532.out | refine Zs1 ?_ GE533.out | refine Zs1 ?_ GE539.out | refine Zs1 ?_ GE544.out | refine Zs1 ?_ GE549.out | refine Zs1 ?_ GE554.out | refine Zs1 ?_ GE559.out) | exact HB.out)) hb)
  clear BK531
  clear BK532
  clear BK533
  clear BK539
  clear BK544
  clear BK549
  clear BK554
  clear BK559
  clear HB
  have BK531 := n0_
  have BK532 := n1_
  have BK533 := n2_
  have BK539 := n3_
  have BK544 := n4_
  have BK549 := n5_
  have BK554 := n6_
  have BK559 := n7_
  have HB := n8_
  clear n0_ n1_ n2_ n3_ n4_ n5_ n6_ n7_ n8_
  (try clear hb)
  (try clear hb2)
  (try clear hk)
  (try clear hi)
  refine hK.out _ _ ⟨(blk_cell BK554.out 0).trans rfl, (blk_cell BK554.out 1).trans rfl, (blk_cell BK554.out 2).trans rfl, (blk_cell BK554.out 3).trans rfl, (blk_cell BK544.out 0).trans rfl, (blk_cell BK544.out 1).trans rfl, (blk_cell BK544.out 2).trans rfl, (blk_cell BK544.out 3).trans rfl, (blk_cell BK539.out 0).trans rfl, (blk_cell BK539.out 1).trans rfl, (blk_cell BK539.out 2).trans rfl, (blk_cell BK539.out 3).trans rfl, (blk_cell BK559.out 0).trans rfl, (blk_cell BK559.out 1).trans rfl, (blk_cell BK559.out 2).trans rfl, (blk_cell BK559.out 3).trans rfl, (blk_cell BK549.out 0).trans rfl, (blk_cell BK549.out 1).trans rfl, (blk_cell BK549.out 2).trans rfl, (blk_cell BK549.out 3).trans rfl⟩ (fun hHeld => ?_)
  clear hK K
  refine norm_ (a' := ?_) ?_ ?_
  rotate_left
  · show Act.put _ (some 57) _ = _
    simp only [Act.put, List.setIfInBounds_toArray, List.set_cons_zero, List.set_cons_succ, i64_w, i32_w]
    rfl
  refine one_ (i := 33) (N := some 61) #[true, true, true, true, true, true, true, true, true, true, true, true, true, true, true, true, true, true, true, true, true, true, true, true, true, true, true, true, true, true, true, true, true, true, false, false, false, false, false, false, false, false, false, false, false, false, false, false, false, false, false, false, false, false, false, false, false, false, false, false, false, false, false, false, false, false, false, false, false, false, false, false, false, false, false, false, false, false, false, false, false, false, false, false, false, false, false, false, false, false] rfl rfl (one_of HT_.out (by kernel_rfl)) (by decide) (fun K hK => ?_)
  refine goes_ Tryd.func14 (by kernel_rfl) rfl #[.agg #[.int .u64 t540, .int .u64 t541, .int .u64 t542, .int .u64 t543], .agg #[.int .u64 t545, .int .u64 t546, .int .u64 t547, .int .u64 t548]] (by rfl) rfl rfl (by (try simp only [List.map_toArray, List.map_cons, List.map_nil]); first | done | rfl | (simp only [List.length_drop, List.length_take]; rfl)) ?_
  with_reducible refine (vec_Meet.calls t540 t541 t542 t543 t545 t546 t547 t548 t584 t585 t586 t587 _ A20.out).mono ?_
  rintro e w101 ⟨rfl, hb⟩
  refine ⟨_, rfl, ?_⟩
  have n0_ := Zq1 (Zb1 (g := gb531) (o := .cells #[.int .u64 a0_0, .int .u64 a0_1, .int .u64 a0_2, .int .u64 a0_3, .bool a0_4] 26 (0, 0)) (by (with_reducible repeat (first | refine Zn1 ?_ _ | refine Zd1 ?_ | refine Za1 ?_ _)); exact BK531.out) hb)
  have n1_ := Zq1 (Zb1 (g := gb532) (o := .cells #[.int .u64 a1_0, .int .u64 a1_1, .int .u64 a1_2, .int .u64 a1_3, .bool a1_4] 26 (0, 0)) (by (with_reducible repeat (first | refine Zn1 ?_ _ | refine Zd1 ?_ | refine Za1 ?_ _)); exact BK532.out) hb)
  have n2_ := Zq1 (Zb1 (g := gb533) (o := .cells #[.int .u64 a2_0, .int .u64 a2_1, .int .u64 a2_2, .int .u64 a2_3, .bool a2_4] 26 (0, 0)) (by (with_reducible repeat (first | refine Zn1 ?_ _ | refine Zd1 ?_ | refine Za1 ?_ _)); exact BK533.out) hb)
  have n3_ := Zq1 (Zb1 (g := gb539) (o := .cells #[.int .u64 t535, .int .u64 t536, .int .u64 t537, .int .u64 t538] 24 (0, 0)) (by (with_reducible repeat (first | refine Zn1 ?_ _ | refine Zd1 ?_ | refine Za1 ?_ _)); exact BK539.out) hb)
  have n4_ := Zq1 (Zb1 (g := gb544) (o := .cells #[.int .u64 t540, .int .u64 t541, .int .u64 t542, .int .u64 t543] 24 (0, 0)) (by (with_reducible repeat (first | refine Zn1 ?_ _ | refine Zd1 ?_ | refine Za1 ?_ _)); exact BK544.out) hb)
  have n5_ := Zq1 (Zb1 (g := gb549) (o := .cells #[.int .u64 t545, .int .u64 t546, .int .u64 t547, .int .u64 t548] 24 (0, 0)) (by (with_reducible repeat (first | refine Zn1 ?_ _ | refine Zd1 ?_ | refine Za1 ?_ _)); exact BK549.out) hb)
  have n6_ := Zq1 (Zb1 (g := gb554) (o := .cells #[.int .u64 t550, .int .u64 t551, .int .u64 t552, .int .u64 t553] 24 (0, 0)) (by (with_reducible repeat (first | refine Zn1 ?_ _ | refine Zd1 ?_ | refine Za1 ?_ _)); exact BK554.out) hb)
  have n7_ := Zq1 (Zb1 (g := gb559) (o := .cells #[.int .u64 t555, .int .u64 t556, .int .u64 t557, .int .u64 t558] 24 (0, 0)) (by (with_reducible repeat (first | refine Zn1 ?_ _ | refine Zd1 ?_ | refine Za1 ?_ _)); exact BK559.out) hb)
  have n8_ := Zq1 (below_step (by repeat (first | (with_reducible first | exact HB.out | apply below_alloc | apply Zw1 | apply Ze1 | refine Zs1 ?_ GE531.out | refine Zs1 ?_ GE532.out | refine Zs1 ?_ GE533.out | refine Zs1 ?_ GE539.out | refine Zs1 ?_ GE544.out | refine Zs1 ?_ GE549.out | refine Zs1 ?_ GE554.out | refine Zs1 ?_ GE559.out) | exact HB.out)) hb)
  clear BK531
  clear BK532
  clear BK533
  clear BK539
  clear BK544
  clear BK549
  clear BK554
  clear BK559
  clear HB
  have BK531 := n0_
  have BK532 := n1_
  have BK533 := n2_
  have BK539 := n3_
  have BK544 := n4_
  have BK549 := n5_
  have BK554 := n6_
  have BK559 := n7_
  have HB := n8_
  clear n0_ n1_ n2_ n3_ n4_ n5_ n6_ n7_ n8_
  (try clear hb)
  (try clear hb2)
  (try clear hk)
  (try clear hi)
  refine hK.out _ _ ⟨(blk_cell BK554.out 0).trans rfl, (blk_cell BK554.out 1).trans rfl, (blk_cell BK554.out 2).trans rfl, (blk_cell BK554.out 3).trans rfl, (blk_cell BK544.out 0).trans rfl, (blk_cell BK544.out 1).trans rfl, (blk_cell BK544.out 2).trans rfl, (blk_cell BK544.out 3).trans rfl, (blk_cell BK539.out 0).trans rfl, (blk_cell BK539.out 1).trans rfl, (blk_cell BK539.out 2).trans rfl, (blk_cell BK539.out 3).trans rfl, (blk_cell BK559.out 0).trans rfl, (blk_cell BK559.out 1).trans rfl, (blk_cell BK559.out 2).trans rfl, (blk_cell BK559.out 3).trans rfl, (blk_cell BK549.out 0).trans rfl, (blk_cell BK549.out 1).trans rfl, (blk_cell BK549.out 2).trans rfl, (blk_cell BK549.out 3).trans rfl⟩ (fun hHeld => ?_)
  clear hK K
  refine norm_ (a' := ?_) ?_ ?_
  rotate_left
  · show Act.put _ (some 61) _ = _
    simp only [Act.put, List.setIfInBounds_toArray, List.set_cons_zero, List.set_cons_succ, i64_w, i32_w]
    rfl
  refine one_ (i := 34) (N := some 62) #[true, true, true, true, true, true, true, true, true, true, true, true, true, true, true, true, true, true, true, true, true, true, true, true, true, true, true, true, true, true, true, true, true, true, true, false, false, false, false, false, false, false, false, false, false, false, false, false, false, false, false, false, false, false, false, false, false, false, false, false, false, false, false, false, false, false, false, false, false, false, false, false, false, false, false, false, false, false, false, false, false, false, false, false, false, false, false, false, false, false] rfl rfl (one_of HT_.out (by kernel_rfl)) (by decide) (fun K hK => ?_)
  refine goes_ Tryd.func14 (by kernel_rfl) rfl #[.agg #[.int .u64 t535, .int .u64 t536, .int .u64 t537, .int .u64 t538], .agg #[.int .u64 t584, .int .u64 t585, .int .u64 t586, .int .u64 t587]] (by rfl) rfl rfl (by (try simp only [List.map_toArray, List.map_cons, List.map_nil]); first | done | rfl | (simp only [List.length_drop, List.length_take]; rfl)) ?_
  with_reducible refine (vec_Meet.calls t535 t536 t537 t538 t584 t585 t586 t587 t588 t589 t590 t591 _ A21.out).mono ?_
  rintro e w102 ⟨rfl, hb⟩
  refine ⟨_, rfl, ?_⟩
  have n0_ := Zq1 (Zb1 (g := gb531) (o := .cells #[.int .u64 a0_0, .int .u64 a0_1, .int .u64 a0_2, .int .u64 a0_3, .bool a0_4] 26 (0, 0)) (by (with_reducible repeat (first | refine Zn1 ?_ _ | refine Zd1 ?_ | refine Za1 ?_ _)); exact BK531.out) hb)
  have n1_ := Zq1 (Zb1 (g := gb532) (o := .cells #[.int .u64 a1_0, .int .u64 a1_1, .int .u64 a1_2, .int .u64 a1_3, .bool a1_4] 26 (0, 0)) (by (with_reducible repeat (first | refine Zn1 ?_ _ | refine Zd1 ?_ | refine Za1 ?_ _)); exact BK532.out) hb)
  have n2_ := Zq1 (Zb1 (g := gb533) (o := .cells #[.int .u64 a2_0, .int .u64 a2_1, .int .u64 a2_2, .int .u64 a2_3, .bool a2_4] 26 (0, 0)) (by (with_reducible repeat (first | refine Zn1 ?_ _ | refine Zd1 ?_ | refine Za1 ?_ _)); exact BK533.out) hb)
  have n3_ := Zq1 (Zb1 (g := gb539) (o := .cells #[.int .u64 t535, .int .u64 t536, .int .u64 t537, .int .u64 t538] 24 (0, 0)) (by (with_reducible repeat (first | refine Zn1 ?_ _ | refine Zd1 ?_ | refine Za1 ?_ _)); exact BK539.out) hb)
  have n4_ := Zq1 (Zb1 (g := gb544) (o := .cells #[.int .u64 t540, .int .u64 t541, .int .u64 t542, .int .u64 t543] 24 (0, 0)) (by (with_reducible repeat (first | refine Zn1 ?_ _ | refine Zd1 ?_ | refine Za1 ?_ _)); exact BK544.out) hb)
  have n5_ := Zq1 (Zb1 (g := gb549) (o := .cells #[.int .u64 t545, .int .u64 t546, .int .u64 t547, .int .u64 t548] 24 (0, 0)) (by (with_reducible repeat (first | refine Zn1 ?_ _ | refine Zd1 ?_ | refine Za1 ?_ _)); exact BK549.out) hb)
  have n6_ := Zq1 (Zb1 (g := gb554) (o := .cells #[.int .u64 t550, .int .u64 t551, .int .u64 t552, .int .u64 t553] 24 (0, 0)) (by (with_reducible repeat (first | refine Zn1 ?_ _ | refine Zd1 ?_ | refine Za1 ?_ _)); exact BK554.out) hb)
  have n7_ := Zq1 (Zb1 (g := gb559) (o := .cells #[.int .u64 t555, .int .u64 t556, .int .u64 t557, .int .u64 t558] 24 (0, 0)) (by (with_reducible repeat (first | refine Zn1 ?_ _ | refine Zd1 ?_ | refine Za1 ?_ _)); exact BK559.out) hb)
  have n8_ := Zq1 (below_step (by repeat (first | (with_reducible first | exact HB.out | apply below_alloc | apply Zw1 | apply Ze1 | refine Zs1 ?_ GE531.out | refine Zs1 ?_ GE532.out | refine Zs1 ?_ GE533.out | refine Zs1 ?_ GE539.out | refine Zs1 ?_ GE544.out | refine Zs1 ?_ GE549.out | refine Zs1 ?_ GE554.out | refine Zs1 ?_ GE559.out) | exact HB.out)) hb)
  clear BK531
  clear BK532
  clear BK533
  clear BK539
  clear BK544
  clear BK549
  clear BK554
  clear BK559
  clear HB
  have BK531 := n0_
  have BK532 := n1_
  have BK533 := n2_
  have BK539 := n3_
  have BK544 := n4_
  have BK549 := n5_
  have BK554 := n6_
  have BK559 := n7_
  have HB := n8_
  clear n0_ n1_ n2_ n3_ n4_ n5_ n6_ n7_ n8_
  (try clear hb)
  (try clear hb2)
  (try clear hk)
  (try clear hi)
  refine hK.out _ _ ⟨(blk_cell BK554.out 0).trans rfl, (blk_cell BK554.out 1).trans rfl, (blk_cell BK554.out 2).trans rfl, (blk_cell BK554.out 3).trans rfl, (blk_cell BK544.out 0).trans rfl, (blk_cell BK544.out 1).trans rfl, (blk_cell BK544.out 2).trans rfl, (blk_cell BK544.out 3).trans rfl, (blk_cell BK539.out 0).trans rfl, (blk_cell BK539.out 1).trans rfl, (blk_cell BK539.out 2).trans rfl, (blk_cell BK539.out 3).trans rfl, (blk_cell BK559.out 0).trans rfl, (blk_cell BK559.out 1).trans rfl, (blk_cell BK559.out 2).trans rfl, (blk_cell BK559.out 3).trans rfl, (blk_cell BK549.out 0).trans rfl, (blk_cell BK549.out 1).trans rfl, (blk_cell BK549.out 2).trans rfl, (blk_cell BK549.out 3).trans rfl⟩ (fun hHeld => ?_)
  clear hK K
  refine norm_ (a' := ?_) ?_ ?_
  rotate_left
  · show Act.put _ (some 62) _ = _
    simp only [Act.put, List.setIfInBounds_toArray, List.set_cons_zero, List.set_cons_succ, i64_w, i32_w]
    rfl
  refine pure_ (i := 35) (N := some 63) (v := ?_) (a' := ?_) #[true, true, true, true, true, true, true, true, true, true, true, true, true, true, true, true, true, true, true, true, true, true, true, true, true, true, true, true, true, true, true, true, true, true, true, true, false, false, false, false, false, false, false, false, false, false, false, false, false, false, false, false, false, false, false, false, false, false, false, false, false, false, false, false, false, false, false, false, false, false, false, false, false, false, false, false, false, false, false, false, false, false, false, false, false, false, false, false, false, false] rfl rfl (any_of HT_.out (by kernel_rfl)) (fun _ _ _ h => h) (Or.inl ⟨by rfl, ?_⟩) ?_ ?_
  rotate_left
  · intro w'
    go_simp
    with_reducible rfl
  rotate_left
  · simp only [Act.put, List.setIfInBounds_toArray, List.set_cons_zero, List.set_cons_succ, i64_w, i32_w]
    rfl
  refine pure_ (i := 36) (N := some 64) (v := ?_) (a' := ?_) #[true, true, true, true, true, true, true, true, true, true, true, true, true, true, true, true, true, true, true, true, true, true, true, true, true, true, true, true, true, true, true, true, true, true, true, true, true, false, false, false, false, false, false, false, false, false, false, false, false, false, false, false, false, false, false, false, false, false, false, false, false, false, false, false, false, false, false, false, false, false, false, false, false, false, false, false, false, false, false, false, false, false, false, false, false, false, false, false, false, false] rfl rfl (any_of HT_.out (by kernel_rfl)) (fun _ _ _ h => h) (Or.inl ⟨by rfl, ?_⟩) ?_ ?_
  rotate_left
  · intro w'
    go_simp
    with_reducible rfl
  rotate_left
  · simp only [Act.put, List.setIfInBounds_toArray, List.set_cons_zero, List.set_cons_succ, i64_w, i32_w]
    rfl
  refine pure_ (i := 37) (N := some 65) (v := ?_) (a' := ?_) #[true, true, true, true, true, true, true, true, true, true, true, true, true, true, true, true, true, true, true, true, true, true, true, true, true, true, true, true, true, true, true, true, true, true, true, true, true, true, false, false, false, false, false, false, false, false, false, false, false, false, false, false, false, false, false, false, false, false, false, false, false, false, false, false, false, false, false, false, false, false, false, false, false, false, false, false, false, false, false, false, false, false, false, false, false, false, false, false, false, false] rfl rfl (any_of HT_.out (by kernel_rfl)) (fun _ _ _ h => h) (Or.inl ⟨by rfl, ?_⟩) ?_ ?_
  rotate_left
  · intro w'
    go_simp
    with_reducible rfl
  rotate_left
  · simp only [Act.put, List.setIfInBounds_toArray, List.set_cons_zero, List.set_cons_succ, i64_w, i32_w]
    rfl
  refine take_ (i := 38) (N := some 66) (v := ?_) (a' := ?_) #[true, true, true, true, true, true, true, true, true, true, true, true, true, true, true, true, true, true, true, true, true, true, true, true, true, true, true, true, true, true, true, true, true, true, true, true, true, true, true, false, false, false, false, false, false, false, false, false, false, false, false, false, false, false, false, false, false, false, false, false, false, false, false, false, false, false, false, false, false, false, false, false, false, false, false, false, false, false, false, false, false, false, false, false, false, false, false, false, false, false] rfl rfl (take_ofW HT_.out HW_.out (by kernel_rfl)) (fun _ _ _ h => h) (Or.inl ⟨by rfl, ?_⟩) hHeld ?_ ?_
  rotate_left
  · rintro w' ⟨s0, s1, s2, s3, s4, s5, s6, s7, s8, s9, s10, s11, s12, s13, s14, s15, s16, s17, s18, s19⟩
    go_simp
    with_reducible rfl
  rotate_left
  · simp only [Act.put, List.setIfInBounds_toArray, List.set_cons_zero, List.set_cons_succ, i64_w, i32_w]
    rfl
  refine take_ (i := 39) (N := some 67) (v := ?_) (a' := ?_) #[true, true, true, true, true, true, true, true, true, true, true, true, true, true, true, true, true, true, true, true, true, true, true, true, true, true, true, true, true, true, true, true, true, true, true, true, true, true, true, true, false, false, false, false, false, false, false, false, false, false, false, false, false, false, false, false, false, false, false, false, false, false, false, false, false, false, false, false, false, false, false, false, false, false, false, false, false, false, false, false, false, false, false, false, false, false, false, false, false, false] rfl rfl (take_ofW HT_.out HW_.out (by kernel_rfl)) (fun _ _ _ h => h) (Or.inl ⟨by rfl, ?_⟩) hHeld ?_ ?_
  rotate_left
  · rintro w' ⟨s0, s1, s2, s3, s4, s5, s6, s7, s8, s9, s10, s11, s12, s13, s14, s15, s16, s17, s18, s19⟩
    go_simp
    with_reducible rfl
  rotate_left
  · simp only [Act.put, List.setIfInBounds_toArray, List.set_cons_zero, List.set_cons_succ, i64_w, i32_w]
    rfl
  refine take_ (i := 41) (N := some 69) (v := ?_) (a' := ?_) #[true, true, true, true, true, true, true, true, true, true, true, true, true, true, true, true, true, true, true, true, true, true, true, true, true, true, true, true, true, true, true, true, true, true, true, true, true, true, true, true, false, true, false, false, false, false, false, false, false, false, false, false, false, false, false, false, false, false, false, false, false, false, false, false, false, false, false, false, false, false, false, false, false, false, false, false, false, false, false, false, false, false, false, false, false, false, false, false, false, false] rfl rfl (take_ofW HT_.out HW_.out (by kernel_rfl)) (fun _ _ _ h => h) (Or.inl ⟨by rfl, ?_⟩) hHeld ?_ ?_
  rotate_left
  · rintro w' ⟨s0, s1, s2, s3, s4, s5, s6, s7, s8, s9, s10, s11, s12, s13, s14, s15, s16, s17, s18, s19⟩
    go_simp
    with_reducible rfl
  rotate_left
  · simp only [Act.put, List.setIfInBounds_toArray, List.set_cons_zero, List.set_cons_succ, i64_w, i32_w]
    rfl
  refine one_ (i := 40) (N := some 68) #[true, true, true, true, true, true, true, true, true, true, true, true, true, true, true, true, true, true, true, true, true, true, true, true, true, true, true, true, true, true, true, true, true, true, true, true, true, true, true, true, true, true, false, false, false, false, false, false, false, false, false, false, false, false, false, false, false, false, false, false, false, false, false, false, false, false, false, false, false, false, false, false, false, false, false, false, false, false, false, false, false, false, false, false, false, false, false, false, false, false] rfl rfl (one_of HT_.out (by kernel_rfl)) (by decide) (fun K hK => ?_)
  refine goes_ Tryd.func12 (by kernel_rfl) rfl #[.agg #[.int .u64 t550, .int .u64 t551, .int .u64 t552, .int .u64 t553], .agg #[.int .u64 t535, .int .u64 t536, .int .u64 t537, .int .u64 t538]] (by rfl) rfl rfl (by (try simp only [List.map_toArray, List.map_cons, List.map_nil]); first | done | rfl | (simp only [List.length_drop, List.length_take]; rfl)) ?_
  with_reducible refine (vec_Join.calls t550 t551 t552 t553 t535 t536 t537 t538 t592 t593 t594 t595 _ A23.out).mono ?_
  rintro e w103 ⟨rfl, hb⟩
  refine ⟨_, rfl, ?_⟩
  have n0_ := Zq1 (Zb1 (g := gb531) (o := .cells #[.int .u64 a0_0, .int .u64 a0_1, .int .u64 a0_2, .int .u64 a0_3, .bool a0_4] 26 (0, 0)) (by (with_reducible repeat (first | refine Zn1 ?_ _ | refine Zd1 ?_ | refine Za1 ?_ _)); exact BK531.out) hb)
  have n1_ := Zq1 (Zb1 (g := gb532) (o := .cells #[.int .u64 a1_0, .int .u64 a1_1, .int .u64 a1_2, .int .u64 a1_3, .bool a1_4] 26 (0, 0)) (by (with_reducible repeat (first | refine Zn1 ?_ _ | refine Zd1 ?_ | refine Za1 ?_ _)); exact BK532.out) hb)
  have n2_ := Zq1 (Zb1 (g := gb533) (o := .cells #[.int .u64 a2_0, .int .u64 a2_1, .int .u64 a2_2, .int .u64 a2_3, .bool a2_4] 26 (0, 0)) (by (with_reducible repeat (first | refine Zn1 ?_ _ | refine Zd1 ?_ | refine Za1 ?_ _)); exact BK533.out) hb)
  have n3_ := Zq1 (Zb1 (g := gb539) (o := .cells #[.int .u64 t535, .int .u64 t536, .int .u64 t537, .int .u64 t538] 24 (0, 0)) (by (with_reducible repeat (first | refine Zn1 ?_ _ | refine Zd1 ?_ | refine Za1 ?_ _)); exact BK539.out) hb)
  have n4_ := Zq1 (Zb1 (g := gb544) (o := .cells #[.int .u64 t540, .int .u64 t541, .int .u64 t542, .int .u64 t543] 24 (0, 0)) (by (with_reducible repeat (first | refine Zn1 ?_ _ | refine Zd1 ?_ | refine Za1 ?_ _)); exact BK544.out) hb)
  have n5_ := Zq1 (Zb1 (g := gb549) (o := .cells #[.int .u64 t545, .int .u64 t546, .int .u64 t547, .int .u64 t548] 24 (0, 0)) (by (with_reducible repeat (first | refine Zn1 ?_ _ | refine Zd1 ?_ | refine Za1 ?_ _)); exact BK549.out) hb)
  have n6_ := Zq1 (Zb1 (g := gb554) (o := .cells #[.int .u64 t550, .int .u64 t551, .int .u64 t552, .int .u64 t553] 24 (0, 0)) (by (with_reducible repeat (first | refine Zn1 ?_ _ | refine Zd1 ?_ | refine Za1 ?_ _)); exact BK554.out) hb)
  have n7_ := Zq1 (Zb1 (g := gb559) (o := .cells #[.int .u64 t555, .int .u64 t556, .int .u64 t557, .int .u64 t558] 24 (0, 0)) (by (with_reducible repeat (first | refine Zn1 ?_ _ | refine Zd1 ?_ | refine Za1 ?_ _)); exact BK559.out) hb)
  have n8_ := Zq1 (below_step (by repeat (first | (with_reducible first | exact HB.out | apply below_alloc | apply Zw1 | apply Ze1 | refine Zs1 ?_ GE531.out | refine Zs1 ?_ GE532.out | refine Zs1 ?_ GE533.out | refine Zs1 ?_ GE539.out | refine Zs1 ?_ GE544.out | refine Zs1 ?_ GE549.out | refine Zs1 ?_ GE554.out | refine Zs1 ?_ GE559.out) | exact HB.out)) hb)
  clear BK531
  clear BK532
  clear BK533
  clear BK539
  clear BK544
  clear BK549
  clear BK554
  clear BK559
  clear HB
  have BK531 := n0_
  have BK532 := n1_
  have BK533 := n2_
  have BK539 := n3_
  have BK544 := n4_
  have BK549 := n5_
  have BK554 := n6_
  have BK559 := n7_
  have HB := n8_
  clear n0_ n1_ n2_ n3_ n4_ n5_ n6_ n7_ n8_
  (try clear hb)
  (try clear hb2)
  (try clear hk)
  (try clear hi)
  refine hK.out _ _ ⟨(blk_cell BK554.out 0).trans rfl, (blk_cell BK554.out 1).trans rfl, (blk_cell BK554.out 2).trans rfl, (blk_cell BK554.out 3).trans rfl, (blk_cell BK544.out 0).trans rfl, (blk_cell BK544.out 1).trans rfl, (blk_cell BK544.out 2).trans rfl, (blk_cell BK544.out 3).trans rfl, (blk_cell BK539.out 0).trans rfl, (blk_cell BK539.out 1).trans rfl, (blk_cell BK539.out 2).trans rfl, (blk_cell BK539.out 3).trans rfl, (blk_cell BK559.out 0).trans rfl, (blk_cell BK559.out 1).trans rfl, (blk_cell BK559.out 2).trans rfl, (blk_cell BK559.out 3).trans rfl, (blk_cell BK549.out 0).trans rfl, (blk_cell BK549.out 1).trans rfl, (blk_cell BK549.out 2).trans rfl, (blk_cell BK549.out 3).trans rfl⟩ (fun hHeld => ?_)
  clear hK K
  refine norm_ (a' := ?_) ?_ ?_
  rotate_left
  · show Act.put _ (some 68) _ = _
    simp only [Act.put, List.setIfInBounds_toArray, List.set_cons_zero, List.set_cons_succ, i64_w, i32_w]
    rfl
  refine pure_ (i := 42) (N := some 70) (v := ?_) (a' := ?_) #[true, true, true, true, true, true, true, true, true, true, true, true, true, true, true, true, true, true, true, true, true, true, true, true, true, true, true, true, true, true, true, true, true, true, true, true, true, true, true, true, true, true, true, false, false, false, false, false, false, false, false, false, false, false, false, false, false, false, false, false, false, false, false, false, false, false, false, false, false, false, false, false, false, false, false, false, false, false, false, false, false, false, false, false, false, false, false, false, false, false] rfl rfl (any_of HT_.out (by kernel_rfl)) (fun _ _ _ h => h) (Or.inl ⟨by rfl, ?_⟩) ?_ ?_
  rotate_left
  · intro w'
    go_simp
    with_reducible rfl
  rotate_left
  · simp only [Act.put, List.setIfInBounds_toArray, List.set_cons_zero, List.set_cons_succ, i64_w, i32_w]
    rfl
  refine pure_ (i := 43) (N := some 71) (v := ?_) (a' := ?_) #[true, true, true, true, true, true, true, true, true, true, true, true, true, true, true, true, true, true, true, true, true, true, true, true, true, true, true, true, true, true, true, true, true, true, true, true, true, true, true, true, true, true, true, true, false, false, false, false, false, false, false, false, false, false, false, false, false, false, false, false, false, false, false, false, false, false, false, false, false, false, false, false, false, false, false, false, false, false, false, false, false, false, false, false, false, false, false, false, false, false] rfl rfl (any_of HT_.out (by kernel_rfl)) (fun _ _ _ h => h) (Or.inl ⟨by rfl, ?_⟩) ?_ ?_
  rotate_left
  · intro w'
    go_simp
    with_reducible rfl
  rotate_left
  · simp only [Act.put, List.setIfInBounds_toArray, List.set_cons_zero, List.set_cons_succ, i64_w, i32_w]
    rfl
  refine pure_ (i := 44) (N := some 72) (v := ?_) (a' := ?_) #[true, true, true, true, true, true, true, true, true, true, true, true, true, true, true, true, true, true, true, true, true, true, true, true, true, true, true, true, true, true, true, true, true, true, true, true, true, true, true, true, true, true, true, true, true, false, false, false, false, false, false, false, false, false, false, false, false, false, false, false, false, false, false, false, false, false, false, false, false, false, false, false, false, false, false, false, false, false, false, false, false, false, false, false, false, false, false, false, false, false] rfl rfl (any_of HT_.out (by kernel_rfl)) (fun _ _ _ h => h) (Or.inl ⟨by rfl, ?_⟩) ?_ ?_
  rotate_left
  · intro w'
    go_simp
    with_reducible rfl
  rotate_left
  · simp only [Act.put, List.setIfInBounds_toArray, List.set_cons_zero, List.set_cons_succ, i64_w, i32_w]
    rfl
  refine take_ (i := 45) (N := some 73) (v := ?_) (a' := ?_) #[true, true, true, true, true, true, true, true, true, true, true, true, true, true, true, true, true, true, true, true, true, true, true, true, true, true, true, true, true, true, true, true, true, true, true, true, true, true, true, true, true, true, true, true, true, true, false, false, false, false, false, false, false, false, false, false, false, false, false, false, false, false, false, false, false, false, false, false, false, false, false, false, false, false, false, false, false, false, false, false, false, false, false, false, false, false, false, false, false, false] rfl rfl (take_ofW HT_.out HW_.out (by kernel_rfl)) (fun _ _ _ h => h) (Or.inl ⟨by rfl, ?_⟩) hHeld ?_ ?_
  rotate_left
  · rintro w' ⟨s0, s1, s2, s3, s4, s5, s6, s7, s8, s9, s10, s11, s12, s13, s14, s15, s16, s17, s18, s19⟩
    go_simp
    with_reducible rfl
  rotate_left
  · simp only [Act.put, List.setIfInBounds_toArray, List.set_cons_zero, List.set_cons_succ, i64_w, i32_w]
    rfl
  refine take_ (i := 46) (N := some 74) (v := ?_) (a' := ?_) #[true, true, true, true, true, true, true, true, true, true, true, true, true, true, true, true, true, true, true, true, true, true, true, true, true, true, true, true, true, true, true, true, true, true, true, true, true, true, true, true, true, true, true, true, true, true, true, false, false, false, false, false, false, false, false, false, false, false, false, false, false, false, false, false, false, false, false, false, false, false, false, false, false, false, false, false, false, false, false, false, false, false, false, false, false, false, false, false, false, false] rfl rfl (take_ofW HT_.out HW_.out (by kernel_rfl)) (fun _ _ _ h => h) (Or.inl ⟨by rfl, ?_⟩) hHeld ?_ ?_
  rotate_left
  · rintro w' ⟨s0, s1, s2, s3, s4, s5, s6, s7, s8, s9, s10, s11, s12, s13, s14, s15, s16, s17, s18, s19⟩
    go_simp
    with_reducible rfl
  rotate_left
  · simp only [Act.put, List.setIfInBounds_toArray, List.set_cons_zero, List.set_cons_succ, i64_w, i32_w]
    rfl
  refine take_ (i := 48) (N := some 76) (v := ?_) (a' := ?_) #[true, true, true, true, true, true, true, true, true, true, true, true, true, true, true, true, true, true, true, true, true, true, true, true, true, true, true, true, true, true, true, true, true, true, true, true, true, true, true, true, true, true, true, true, true, true, true, false, true, false, false, false, false, false, false, false, false, false, false, false, false, false, false, false, false, false, false, false, false, false, false, false, false, false, false, false, false, false, false, false, false, false, false, false, false, false, false, false, false, false] rfl rfl (take_ofW HT_.out HW_.out (by kernel_rfl)) (fun _ _ _ h => h) (Or.inl ⟨by rfl, ?_⟩) hHeld ?_ ?_
  rotate_left
  · rintro w' ⟨s0, s1, s2, s3, s4, s5, s6, s7, s8, s9, s10, s11, s12, s13, s14, s15, s16, s17, s18, s19⟩
    go_simp
    with_reducible rfl
  rotate_left
  · simp only [Act.put, List.setIfInBounds_toArray, List.set_cons_zero, List.set_cons_succ, i64_w, i32_w]
    rfl
  refine one_ (i := 47) (N := some 75) #[true, true, true, true, true, true, true, true, true, true, true, true, true, true, true, true, true, true, true, true, true, true, true, true, true, true, true, true, true, true, true, true, true, true, true, true, true, true, true, true, true, true, true, true, true, true, true, true, true, false, false, false, false, false, false, false, false, false, false, false, false, false, false, false, false, false, false, false, false, false, false, false, false, false, false, false, false, false, false, false, false, false, false, false, false, false, false, false, false, false] rfl rfl (one_of HT_.out (by kernel_rfl)) (by decide) (fun K hK => ?_)
  refine goes_ Tryd.func14 (by kernel_rfl) rfl #[.agg #[.int .u64 t555, .int .u64 t556, .int .u64 t557, .int .u64 t558], .agg #[.int .u64 t535, .int .u64 t536, .int .u64 t537, .int .u64 t538]] (by rfl) rfl rfl (by (try simp only [List.map_toArray, List.map_cons, List.map_nil]); first | done | rfl | (simp only [List.length_drop, List.length_take]; rfl)) ?_
  with_reducible refine (vec_Meet.calls t555 t556 t557 t558 t535 t536 t537 t538 t596 t597 t598 t599 _ A25.out).mono ?_
  rintro e w104 ⟨rfl, hb⟩
  refine ⟨_, rfl, ?_⟩
  have n0_ := Zq1 (Zb1 (g := gb531) (o := .cells #[.int .u64 a0_0, .int .u64 a0_1, .int .u64 a0_2, .int .u64 a0_3, .bool a0_4] 26 (0, 0)) (by (with_reducible repeat (first | refine Zn1 ?_ _ | refine Zd1 ?_ | refine Za1 ?_ _)); exact BK531.out) hb)
  have n1_ := Zq1 (Zb1 (g := gb532) (o := .cells #[.int .u64 a1_0, .int .u64 a1_1, .int .u64 a1_2, .int .u64 a1_3, .bool a1_4] 26 (0, 0)) (by (with_reducible repeat (first | refine Zn1 ?_ _ | refine Zd1 ?_ | refine Za1 ?_ _)); exact BK532.out) hb)
  have n2_ := Zq1 (Zb1 (g := gb533) (o := .cells #[.int .u64 a2_0, .int .u64 a2_1, .int .u64 a2_2, .int .u64 a2_3, .bool a2_4] 26 (0, 0)) (by (with_reducible repeat (first | refine Zn1 ?_ _ | refine Zd1 ?_ | refine Za1 ?_ _)); exact BK533.out) hb)
  have n3_ := Zq1 (Zb1 (g := gb539) (o := .cells #[.int .u64 t535, .int .u64 t536, .int .u64 t537, .int .u64 t538] 24 (0, 0)) (by (with_reducible repeat (first | refine Zn1 ?_ _ | refine Zd1 ?_ | refine Za1 ?_ _)); exact BK539.out) hb)
  have n4_ := Zq1 (Zb1 (g := gb544) (o := .cells #[.int .u64 t540, .int .u64 t541, .int .u64 t542, .int .u64 t543] 24 (0, 0)) (by (with_reducible repeat (first | refine Zn1 ?_ _ | refine Zd1 ?_ | refine Za1 ?_ _)); exact BK544.out) hb)
  have n5_ := Zq1 (Zb1 (g := gb549) (o := .cells #[.int .u64 t545, .int .u64 t546, .int .u64 t547, .int .u64 t548] 24 (0, 0)) (by (with_reducible repeat (first | refine Zn1 ?_ _ | refine Zd1 ?_ | refine Za1 ?_ _)); exact BK549.out) hb)
  have n6_ := Zq1 (Zb1 (g := gb554) (o := .cells #[.int .u64 t550, .int .u64 t551, .int .u64 t552, .int .u64 t553] 24 (0, 0)) (by (with_reducible repeat (first | refine Zn1 ?_ _ | refine Zd1 ?_ | refine Za1 ?_ _)); exact BK554.out) hb)
  have n7_ := Zq1 (Zb1 (g := gb559) (o := .cells #[.int .u64 t555, .int .u64 t556, .int .u64 t557, .int .u64 t558] 24 (0, 0)) (by (with_reducible repeat (first | refine Zn1 ?_ _ | refine Zd1 ?_ | refine Za1 ?_ _)); exact BK559.out) hb)
  have n8_ := Zq1 (below_step (by repeat (first | (with_reducible first | exact HB.out | apply below_alloc | apply Zw1 | apply Ze1 | refine Zs1 ?_ GE531.out | refine Zs1 ?_ GE532.out | refine Zs1 ?_ GE533.out | refine Zs1 ?_ GE539.out | refine Zs1 ?_ GE544.out | refine Zs1 ?_ GE549.out | refine Zs1 ?_ GE554.out | refine Zs1 ?_ GE559.out) | exact HB.out)) hb)
  clear BK531
  clear BK532
  clear BK533
  clear BK539
  clear BK544
  clear BK549
  clear BK554
  clear BK559
  clear HB
  have BK531 := n0_
  have BK532 := n1_
  have BK533 := n2_
  have BK539 := n3_
  have BK544 := n4_
  have BK549 := n5_
  have BK554 := n6_
  have BK559 := n7_
  have HB := n8_
  clear n0_ n1_ n2_ n3_ n4_ n5_ n6_ n7_ n8_
  (try clear hb)
  (try clear hb2)
  (try clear hk)
  (try clear hi)
  refine hK.out _ _ ⟨(blk_cell BK554.out 0).trans rfl, (blk_cell BK554.out 1).trans rfl, (blk_cell BK554.out 2).trans rfl, (blk_cell BK554.out 3).trans rfl, (blk_cell BK544.out 0).trans rfl, (blk_cell BK544.out 1).trans rfl, (blk_cell BK544.out 2).trans rfl, (blk_cell BK544.out 3).trans rfl, (blk_cell BK539.out 0).trans rfl, (blk_cell BK539.out 1).trans rfl, (blk_cell BK539.out 2).trans rfl, (blk_cell BK539.out 3).trans rfl, (blk_cell BK559.out 0).trans rfl, (blk_cell BK559.out 1).trans rfl, (blk_cell BK559.out 2).trans rfl, (blk_cell BK559.out 3).trans rfl, (blk_cell BK549.out 0).trans rfl, (blk_cell BK549.out 1).trans rfl, (blk_cell BK549.out 2).trans rfl, (blk_cell BK549.out 3).trans rfl⟩ (fun hHeld => ?_)
  clear hK K
  refine norm_ (a' := ?_) ?_ ?_
  rotate_left
  · show Act.put _ (some 75) _ = _
    simp only [Act.put, List.setIfInBounds_toArray, List.set_cons_zero, List.set_cons_succ, i64_w, i32_w]
    rfl
  refine pure_ (i := 49) (N := some 77) (v := ?_) (a' := ?_) #[true, true, true, true, true, true, true, true, true, true, true, true, true, true, true, true, true, true, true, true, true, true, true, true, true, true, true, true, true, true, true, true, true, true, true, true, true, true, true, true, true, true, true, true, true, true, true, true, true, true, false, false, false, false, false, false, false, false, false, false, false, false, false, false, false, false, false, false, false, false, false, false, false, false, false, false, false, false, false, false, false, false, false, false, false, false, false, false, false, false] rfl rfl (any_of HT_.out (by kernel_rfl)) (fun _ _ _ h => h) (Or.inl ⟨by rfl, ?_⟩) ?_ ?_
  rotate_left
  · intro w'
    go_simp
    with_reducible rfl
  rotate_left
  · simp only [Act.put, List.setIfInBounds_toArray, List.set_cons_zero, List.set_cons_succ, i64_w, i32_w]
    rfl
  refine pure_ (i := 50) (N := some 78) (v := ?_) (a' := ?_) #[true, true, true, true, true, true, true, true, true, true, true, true, true, true, true, true, true, true, true, true, true, true, true, true, true, true, true, true, true, true, true, true, true, true, true, true, true, true, true, true, true, true, true, true, true, true, true, true, true, true, true, false, false, false, false, false, false, false, false, false, false, false, false, false, false, false, false, false, false, false, false, false, false, false, false, false, false, false, false, false, false, false, false, false, false, false, false, false, false, false] rfl rfl (any_of HT_.out (by kernel_rfl)) (fun _ _ _ h => h) (Or.inl ⟨by rfl, ?_⟩) ?_ ?_
  rotate_left
  · intro w'
    go_simp
    with_reducible rfl
  rotate_left
  · simp only [Act.put, List.setIfInBounds_toArray, List.set_cons_zero, List.set_cons_succ, i64_w, i32_w]
    rfl
  refine pure_ (i := 51) (N := some 79) (v := ?_) (a' := ?_) #[true, true, true, true, true, true, true, true, true, true, true, true, true, true, true, true, true, true, true, true, true, true, true, true, true, true, true, true, true, true, true, true, true, true, true, true, true, true, true, true, true, true, true, true, true, true, true, true, true, true, true, true, false, false, false, false, false, false, false, false, false, false, false, false, false, false, false, false, false, false, false, false, false, false, false, false, false, false, false, false, false, false, false, false, false, false, false, false, false, false] rfl rfl (any_of HT_.out (by kernel_rfl)) (fun _ _ _ h => h) (Or.inl ⟨by rfl, ?_⟩) ?_ ?_
  rotate_left
  · intro w'
    go_simp
    with_reducible rfl
  rotate_left
  · simp only [Act.put, List.setIfInBounds_toArray, List.set_cons_zero, List.set_cons_succ, i64_w, i32_w]
    rfl
  refine take_ (i := 52) (N := some 80) (v := ?_) (a' := ?_) #[true, true, true, true, true, true, true, true, true, true, true, true, true, true, true, true, true, true, true, true, true, true, true, true, true, true, true, true, true, true, true, true, true, true, true, true, true, true, true, true, true, true, true, true, true, true, true, true, true, true, true, true, true, false, false, false, false, false, false, false, false, false, false, false, false, false, false, false, false, false, false, false, false, false, false, false, false, false, false, false, false, false, false, false, false, false, false, false, false, false] rfl rfl (take_ofW HT_.out HW_.out (by kernel_rfl)) (fun _ _ _ h => h) (Or.inl ⟨by rfl, ?_⟩) hHeld ?_ ?_
  rotate_left
  · rintro w' ⟨s0, s1, s2, s3, s4, s5, s6, s7, s8, s9, s10, s11, s12, s13, s14, s15, s16, s17, s18, s19⟩
    go_simp
    with_reducible rfl
  rotate_left
  · simp only [Act.put, List.setIfInBounds_toArray, List.set_cons_zero, List.set_cons_succ, i64_w, i32_w]
    rfl
  refine take_ (i := 53) (N := some 81) (v := ?_) (a' := ?_) #[true, true, true, true, true, true, true, true, true, true, true, true, true, true, true, true, true, true, true, true, true, true, true, true, true, true, true, true, true, true, true, true, true, true, true, true, true, true, true, true, true, true, true, true, true, true, true, true, true, true, true, true, true, true, false, false, false, false, false, false, false, false, false, false, false, false, false, false, false, false, false, false, false, false, false, false, false, false, false, false, false, false, false, false, false, false, false, false, false, false] rfl rfl (take_ofW HT_.out HW_.out (by kernel_rfl)) (fun _ _ _ h => h) (Or.inl ⟨by rfl, ?_⟩) hHeld ?_ ?_
  rotate_left
  · rintro w' ⟨s0, s1, s2, s3, s4, s5, s6, s7, s8, s9, s10, s11, s12, s13, s14, s15, s16, s17, s18, s19⟩
    go_simp
    with_reducible rfl
  rotate_left
  · simp only [Act.put, List.setIfInBounds_toArray, List.set_cons_zero, List.set_cons_succ, i64_w, i32_w]
    rfl
  refine one_ (i := 54) (N := some 82) #[true, true, true, true, true, true, true, true, true, true, true, true, true, true, true, true, true, true, true, true, true, true, true, true, true, true, true, true, true, true, true, true, true, true, true, true, true, true, true, true, true, true, true, true, true, true, true, true, true, true, true, true, true, true, true, false, false, false, false, false, false, false, false, false, false, false, false, false, false, false, false, false, false, false, false, false, false, false, false, false, false, false, false, false, false, false, false, false, false, false] rfl rfl (one_of HT_.out (by kernel_rfl)) (by decide) (fun K hK => ?_)
  refine goes_ Tryd.func22 (by kernel_rfl) rfl #[.agg #[.int .u64 t535, .int .u64 t536, .int .u64 t537, .int .u64 t538], .agg #[.int .u64 t550, .int .u64 t551, .int .u64 t552, .int .u64 t553]] (by rfl) rfl rfl (by (try simp only [List.map_toArray, List.map_cons, List.map_nil]); first | done | rfl | (simp only [List.length_drop, List.length_take]; rfl)) ?_
  with_reducible refine (vec_Leq.calls t535 t536 t537 t538 t550 t551 t552 t553 true _ A27.out).mono ?_
  rintro e w105 ⟨rfl, hb⟩
  refine ⟨_, rfl, ?_⟩
  have n0_ := Zq1 (Zb1 (g := gb531) (o := .cells #[.int .u64 a0_0, .int .u64 a0_1, .int .u64 a0_2, .int .u64 a0_3, .bool a0_4] 26 (0, 0)) (by (with_reducible repeat (first | refine Zn1 ?_ _ | refine Zd1 ?_ | refine Za1 ?_ _)); exact BK531.out) hb)
  have n1_ := Zq1 (Zb1 (g := gb532) (o := .cells #[.int .u64 a1_0, .int .u64 a1_1, .int .u64 a1_2, .int .u64 a1_3, .bool a1_4] 26 (0, 0)) (by (with_reducible repeat (first | refine Zn1 ?_ _ | refine Zd1 ?_ | refine Za1 ?_ _)); exact BK532.out) hb)
  have n2_ := Zq1 (Zb1 (g := gb533) (o := .cells #[.int .u64 a2_0, .int .u64 a2_1, .int .u64 a2_2, .int .u64 a2_3, .bool a2_4] 26 (0, 0)) (by (with_reducible repeat (first | refine Zn1 ?_ _ | refine Zd1 ?_ | refine Za1 ?_ _)); exact BK533.out) hb)
  have n3_ := Zq1 (Zb1 (g := gb539) (o := .cells #[.int .u64 t535, .int .u64 t536, .int .u64 t537, .int .u64 t538] 24 (0, 0)) (by (with_reducible repeat (first | refine Zn1 ?_ _ | refine Zd1 ?_ | refine Za1 ?_ _)); exact BK539.out) hb)
  have n4_ := Zq1 (Zb1 (g := gb544) (o := .cells #[.int .u64 t540, .int .u64 t541, .int .u64 t542, .int .u64 t543] 24 (0, 0)) (by (with_reducible repeat (first | refine Zn1 ?_ _ | refine Zd1 ?_ | refine Za1 ?_ _)); exact BK544.out) hb)
  have n5_ := Zq1 (Zb1 (g := gb549) (o := .cells #[.int .u64 t545, .int .u64 t546, .int .u64 t547, .int .u64 t548] 24 (0, 0)) (by (with_reducible repeat (first | refine Zn1 ?_ _ | refine Zd1 ?_ | refine Za1 ?_ _)); exact BK549.out) hb)
  have n6_ := Zq1 (Zb1 (g := gb554) (o := .cells #[.int .u64 t550, .int .u64 t551, .int .u64 t552, .int .u64 t553] 24 (0, 0)) (by (with_reducible repeat (first | refine Zn1 ?_ _ | refine Zd1 ?_ | refine Za1 ?_ _)); exact BK554.out) hb)
  have n7_ := Zq1 (Zb1 (g := gb559) (o := .cells #[.int .u64 t555, .int .u64 t556, .int .u64 t557, .int .u64 t558] 24 (0, 0)) (by (with_reducible repeat (first | refine Zn1 ?_ _ | refine Zd1 ?_ | refine Za1 ?_ _)); exact BK559.out) hb)
  have n8_ := Zq1 (below_step (by repeat (first | (with_reducible first | exact HB.out | apply below_alloc | apply Zw1 | apply Ze1 | refine Zs1 ?_ GE531.out | refine Zs1 ?_ GE532.out | refine Zs1 ?_ GE533.out | refine Zs1 ?_ GE539.out | refine Zs1 ?_ GE544.out | refine Zs1 ?_ GE549.out | refine Zs1 ?_ GE554.out | refine Zs1 ?_ GE559.out) | exact HB.out)) hb)
  clear BK531
  clear BK532
  clear BK533
  clear BK539
  clear BK544
  clear BK549
  clear BK554
  clear BK559
  clear HB
  have BK531 := n0_
  have BK532 := n1_
  have BK533 := n2_
  have BK539 := n3_
  have BK544 := n4_
  have BK549 := n5_
  have BK554 := n6_
  have BK559 := n7_
  have HB := n8_
  clear n0_ n1_ n2_ n3_ n4_ n5_ n6_ n7_ n8_
  (try clear hb)
  (try clear hb2)
  (try clear hk)
  (try clear hi)
  refine hK.out _ _ ⟨(blk_cell BK554.out 0).trans rfl, (blk_cell BK554.out 1).trans rfl, (blk_cell BK554.out 2).trans rfl, (blk_cell BK554.out 3).trans rfl, (blk_cell BK544.out 0).trans rfl, (blk_cell BK544.out 1).trans rfl, (blk_cell BK544.out 2).trans rfl, (blk_cell BK544.out 3).trans rfl, (blk_cell BK539.out 0).trans rfl, (blk_cell BK539.out 1).trans rfl, (blk_cell BK539.out 2).trans rfl, (blk_cell BK539.out 3).trans rfl, (blk_cell BK559.out 0).trans rfl, (blk_cell BK559.out 1).trans rfl, (blk_cell BK559.out 2).trans rfl, (blk_cell BK559.out 3).trans rfl, (blk_cell BK549.out 0).trans rfl, (blk_cell BK549.out 1).trans rfl, (blk_cell BK549.out 2).trans rfl, (blk_cell BK549.out 3).trans rfl⟩ (fun hHeld => ?_)
  clear hK K
  refine norm_ (a' := ?_) ?_ ?_
  rotate_left
  · show Act.put _ (some 82) _ = _
    simp only [Act.put, List.setIfInBounds_toArray, List.set_cons_zero, List.set_cons_succ, i64_w, i32_w]
    rfl
  refine pure_ (i := 55) (N := some 83) (v := ?_) (a' := ?_) #[true, true, true, true, true, true, true, true, true, true, true, true, true, true, true, true, true, true, true, true, true, true, true, true, true, true, true, true, true, true, true, true, true, true, true, true, true, true, true, true, true, true, true, true, true, true, true, true, true, true, true, true, true, true, true, true, false, false, false, false, false, false, false, false, false, false, false, false, false, false, false, false, false, false, false, false, false, false, false, false, false, false, false, false, false, false, false, false, false, false] rfl rfl (any_of HT_.out (by kernel_rfl)) (fun _ _ _ h => h) (Or.inl ⟨by rfl, ?_⟩) ?_ ?_
  rotate_left
  · intro w'
    go_simp
    with_reducible rfl
  rotate_left
  · simp only [Act.put, List.setIfInBounds_toArray, List.set_cons_zero, List.set_cons_succ, i64_w, i32_w]
    rfl
  refine pure_ (i := 56) (N := some 84) (v := ?_) (a' := ?_) #[true, true, true, true, true, true, true, true, true, true, true, true, true, true, true, true, true, true, true, true, true, true, true, true, true, true, true, true, true, true, true, true, true, true, true, true, true, true, true, true, true, true, true, true, true, true, true, true, true, true, true, true, true, true, true, true, true, false, false, false, false, false, false, false, false, false, false, false, false, false, false, false, false, false, false, false, false, false, false, false, false, false, false, false, false, false, false, false, false, false] rfl rfl (any_of HT_.out (by kernel_rfl)) (fun _ _ _ h => h) (Or.inl ⟨by rfl, ?_⟩) ?_ ?_
  rotate_left
  · intro w'
    go_simp
    with_reducible rfl
  rotate_left
  · simp only [Act.put, List.setIfInBounds_toArray, List.set_cons_zero, List.set_cons_succ, i64_w, i32_w]
    rfl
  refine take_ (i := 57) (N := some 85) (v := ?_) (a' := ?_) #[true, true, true, true, true, true, true, true, true, true, true, true, true, true, true, true, true, true, true, true, true, true, true, true, true, true, true, true, true, true, true, true, true, true, true, true, true, true, true, true, true, true, true, true, true, true, true, true, true, true, true, true, true, true, true, true, true, true, false, false, false, false, false, false, false, false, false, false, false, false, false, false, false, false, false, false, false, false, false, false, false, false, false, false, false, false, false, false, false, false] rfl rfl (take_ofW HT_.out HW_.out (by kernel_rfl)) (fun _ _ _ h => h) (Or.inl ⟨by rfl, ?_⟩) hHeld ?_ ?_
  rotate_left
  · rintro w' ⟨s0, s1, s2, s3, s4, s5, s6, s7, s8, s9, s10, s11, s12, s13, s14, s15, s16, s17, s18, s19⟩
    go_simp
    with_reducible rfl
  rotate_left
  · simp only [Act.put, List.setIfInBounds_toArray, List.set_cons_zero, List.set_cons_succ, i64_w, i32_w]
    rfl
  refine take_ (i := 58) (N := some 86) (v := ?_) (a' := ?_) #[true, true, true, true, true, true, true, true, true, true, true, true, true, true, true, true, true, true, true, true, true, true, true, true, true, true, true, true, true, true, true, true, true, true, true, true, true, true, true, true, true, true, true, true, true, true, true, true, true, true, true, true, true, true, true, true, true, true, true, false, false, false, false, false, false, false, false, false, false, false, false, false, false, false, false, false, false, false, false, false, false, false, false, false, false, false, false, false, false, false] rfl rfl (take_ofW HT_.out HW_.out (by kernel_rfl)) (fun _ _ _ h => h) (Or.inl ⟨by rfl, ?_⟩) hHeld ?_ ?_
  rotate_left
  · rintro w' ⟨s0, s1, s2, s3, s4, s5, s6, s7, s8, s9, s10, s11, s12, s13, s14, s15, s16, s17, s18, s19⟩
    go_simp
    with_reducible rfl
  rotate_left
  · simp only [Act.put, List.setIfInBounds_toArray, List.set_cons_zero, List.set_cons_succ, i64_w, i32_w]
    rfl
  refine one_ (i := 59) (N := some 87) #[true, true, true, true, true, true, true, true, true, true, true, true, true, true, true, true, true, true, true, true, true, true, true, true, true, true, true, true, true, true, true, true, true, true, true, true, true, true, true, true, true, true, true, true, true, true, true, true, true, true, true, true, true, true, true, true, true, true, true, true, false, false, false, false, false, false, false, false, false, false, false, false, false, false, false, false, false, false, false, false, false, false, false, false, false, false, false, false, false, false] rfl rfl (one_of HT_.out (by kernel_rfl)) (by decide) (fun K hK => ?_)
  refine goes_ Tryd.func22 (by kernel_rfl) rfl #[.agg #[.int .u64 t555, .int .u64 t556, .int .u64 t557, .int .u64 t558], .agg #[.int .u64 t540, .int .u64 t541, .int .u64 t542, .int .u64 t543]] (by rfl) rfl rfl (by (try simp only [List.map_toArray, List.map_cons, List.map_nil]); first | done | rfl | (simp only [List.length_drop, List.length_take]; rfl)) ?_
  with_reducible refine (vec_Leq.calls t555 t556 t557 t558 t540 t541 t542 t543 true _ A29.out).mono ?_
  rintro e w106 ⟨rfl, hb⟩
  refine ⟨_, rfl, ?_⟩
  have n0_ := Zq1 (Zb1 (g := gb531) (o := .cells #[.int .u64 a0_0, .int .u64 a0_1, .int .u64 a0_2, .int .u64 a0_3, .bool a0_4] 26 (0, 0)) (by (with_reducible repeat (first | refine Zn1 ?_ _ | refine Zd1 ?_ | refine Za1 ?_ _)); exact BK531.out) hb)
  have n1_ := Zq1 (Zb1 (g := gb532) (o := .cells #[.int .u64 a1_0, .int .u64 a1_1, .int .u64 a1_2, .int .u64 a1_3, .bool a1_4] 26 (0, 0)) (by (with_reducible repeat (first | refine Zn1 ?_ _ | refine Zd1 ?_ | refine Za1 ?_ _)); exact BK532.out) hb)
  have n2_ := Zq1 (Zb1 (g := gb533) (o := .cells #[.int .u64 a2_0, .int .u64 a2_1, .int .u64 a2_2, .int .u64 a2_3, .bool a2_4] 26 (0, 0)) (by (with_reducible repeat (first | refine Zn1 ?_ _ | refine Zd1 ?_ | refine Za1 ?_ _)); exact BK533.out) hb)
  have n3_ := Zq1 (Zb1 (g := gb539) (o := .cells #[.int .u64 t535, .int .u64 t536, .int .u64 t537, .int .u64 t538] 24 (0, 0)) (by (with_reducible repeat (first | refine Zn1 ?_ _ | refine Zd1 ?_ | refine Za1 ?_ _)); exact BK539.out) hb)
  have n4_ := Zq1 (Zb1 (g := gb544) (o := .cells #[.int .u64 t540, .int .u64 t541, .int .u64 t542, .int .u64 t543] 24 (0, 0)) (by (with_reducible repeat (first | refine Zn1 ?_ _ | refine Zd1 ?_ | refine Za1 ?_ _)); exact BK544.out) hb)
  have n5_ := Zq1 (Zb1 (g := gb549) (o := .cells #[.int .u64 t545, .int .u64 t546, .int .u64 t547, .int .u64 t548] 24 (0, 0)) (by (with_reducible repeat (first | refine Zn1 ?_ _ | refine Zd1 ?_ | refine Za1 ?_ _)); exact BK549.out) hb)
  have n6_ := Zq1 (Zb1 (g := gb554) (o := .cells #[.int .u64 t550, .int .u64 t551, .int .u64 t552, .int .u64 t553] 24 (0, 0)) (by (with_reducible repeat (first | refine Zn1 ?_ _ | refine Zd1 ?_ | refine Za1 ?_ _)); exact BK554.out) hb)
  have n7_ := Zq1 (Zb1 (g := gb559) (o := .cells #[.int .u64 t555, .int .u64 t556, .int .u64 t557, .int .u64 t558] 24 (0, 0)) (by (with_reducible repeat (first | refine Zn1 ?_ _ | refine Zd1 ?_ | refine Za1 ?_ _)); exact BK559.out) hb)
  have n8_ := Zq1 (below_step (by repeat (first | (with_reducible first | exact HB.out | apply below_alloc | apply Zw1 | apply Ze1 | refine Zs1 ?_ GE531.out | refine Zs1 ?_ GE532.out | refine Zs1 ?_ GE533.out | refine Zs1 ?_ GE539.out | refine Zs1 ?_ GE544.out | refine Zs1 ?_ GE549.out | refine Zs1 ?_ GE554.out | refine Zs1 ?_ GE559.out) | exact HB.out)) hb)
  clear BK531
  clear BK532
  clear BK533
  clear BK539
  clear BK544
  clear BK549
  clear BK554
  clear BK559
  clear HB
  have BK531 := n0_
  have BK532 := n1_
  have BK533 := n2_
  have BK539 := n3_
  have BK544 := n4_
  have BK549 := n5_
  have BK554 := n6_
  have BK559 := n7_
  have HB := n8_
  clear n0_ n1_ n2_ n3_ n4_ n5_ n6_ n7_ n8_
  (try clear hb)
  (try clear hb2)
  (try clear hk)
  (try clear hi)
  refine hK.out _ _ ⟨(blk_cell BK554.out 0).trans rfl, (blk_cell BK554.out 1).trans rfl, (blk_cell BK554.out 2).trans rfl, (blk_cell BK554.out 3).trans rfl, (blk_cell BK544.out 0).trans rfl, (blk_cell BK544.out 1).trans rfl, (blk_cell BK544.out 2).trans rfl, (blk_cell BK544.out 3).trans rfl, (blk_cell BK539.out 0).trans rfl, (blk_cell BK539.out 1).trans rfl, (blk_cell BK539.out 2).trans rfl, (blk_cell BK539.out 3).trans rfl, (blk_cell BK559.out 0).trans rfl, (blk_cell BK559.out 1).trans rfl, (blk_cell BK559.out 2).trans rfl, (blk_cell BK559.out 3).trans rfl, (blk_cell BK549.out 0).trans rfl, (blk_cell BK549.out 1).trans rfl, (blk_cell BK549.out 2).trans rfl, (blk_cell BK549.out 3).trans rfl⟩ (fun hHeld => ?_)
  clear hK K
  refine norm_ (a' := ?_) ?_ ?_
  rotate_left
  · show Act.put _ (some 87) _ = _
    simp only [Act.put, List.setIfInBounds_toArray, List.set_cons_zero, List.set_cons_succ, i64_w, i32_w]
    rfl
  refine pure_ (i := 60) (N := some 88) (v := ?_) (a' := ?_) #[true, true, true, true, true, true, true, true, true, true, true, true, true, true, true, true, true, true, true, true, true, true, true, true, true, true, true, true, true, true, true, true, true, true, true, true, true, true, true, true, true, true, true, true, true, true, true, true, true, true, true, true, true, true, true, true, true, true, true, true, true, false, false, false, false, false, false, false, false, false, false, false, false, false, false, false, false, false, false, false, false, false, false, false, false, false, false, false, false, false] rfl rfl (any_of HT_.out (by kernel_rfl)) (fun _ _ _ h => h) (Or.inl ⟨by rfl, ?_⟩) ?_ ?_
  rotate_left
  · intro w'
    go_simp
    with_reducible rfl
  rotate_left
  · simp only [Act.put, List.setIfInBounds_toArray, List.set_cons_zero, List.set_cons_succ, i64_w, i32_w]
    rfl
  refine pure_ (i := 61) (N := some 89) (v := ?_) (a' := ?_) #[true, true, true, true, true, true, true, true, true, true, true, true, true, true, true, true, true, true, true, true, true, true, true, true, true, true, true, true, true, true, true, true, true, true, true, true, true, true, true, true, true, true, true, true, true, true, true, true, true, true, true, true, true, true, true, true, true, true, true, true, true, true, false, false, false, false, false, false, false, false, false, false, false, false, false, false, false, false, false, false, false, false, false, false, false, false, false, false, false, false] rfl rfl (any_of HT_.out (by kernel_rfl)) (fun _ _ _ h => h) (Or.inl ⟨by rfl, ?_⟩) ?_ ?_
  rotate_left
  · intro w'
    go_simp
    with_reducible rfl
  rotate_left
  · simp only [Act.put, List.setIfInBounds_toArray, List.set_cons_zero, List.set_cons_succ, i64_w, i32_w]
    rfl
  refine take_ (i := 62) (N := some 90) (v := ?_) (a' := ?_) #[true, true, true, true, true, true, true, true, true, true, true, true, true, true, true, true, true, true, true, true, true, true, true, true, true, true, true, true, true, true, true, true, true, true, true, true, true, true, true, true, true, true, true, true, true, true, true, true, true, true, true, true, true, true, true, true, true, true, true, true, true, true, true, false, false, false, false, false, false, false, false, false, false, false, false, false, false, false, false, false, false, false, false, false, false, false, false, false, false, false] rfl rfl (take_ofW HT_.out HW_.out (by kernel_rfl)) (fun _ _ _ h => h) (Or.inl ⟨by rfl, ?_⟩) hHeld ?_ ?_
  rotate_left
  · rintro w' ⟨s0, s1, s2, s3, s4, s5, s6, s7, s8, s9, s10, s11, s12, s13, s14, s15, s16, s17, s18, s19⟩
    go_simp
    with_reducible rfl
  rotate_left
  · simp only [Act.put, List.setIfInBounds_toArray, List.set_cons_zero, List.set_cons_succ, i64_w, i32_w]
    rfl
  refine take_ (i := 63) (N := some 91) (v := ?_) (a' := ?_) #[true, true, true, true, true, true, true, true, true, true, true, true, true, true, true, true, true, true, true, true, true, true, true, true, true, true, true, true, true, true, true, true, true, true, true, true, true, true, true, true, true, true, true, true, true, true, true, true, true, true, true, true, true, true, true, true, true, true, true, true, true, true, true, true, false, false, false, false, false, false, false, false, false, false, false, false, false, false, false, false, false, false, false, false, false, false, false, false, false, false] rfl rfl (take_ofW HT_.out HW_.out (by kernel_rfl)) (fun _ _ _ h => h) (Or.inl ⟨by rfl, ?_⟩) hHeld ?_ ?_
  rotate_left
  · rintro w' ⟨s0, s1, s2, s3, s4, s5, s6, s7, s8, s9, s10, s11, s12, s13, s14, s15, s16, s17, s18, s19⟩
    go_simp
    with_reducible rfl
  rotate_left
  · simp only [Act.put, List.setIfInBounds_toArray, List.set_cons_zero, List.set_cons_succ, i64_w, i32_w]
    rfl
  refine take_ (i := 65) (N := some 93) (v := ?_) (a' := ?_) #[true, true, true, true, true, true, true, true, true, true, true, true, true, true, true, true, true, true, true, true, true, true, true, true, true, true, true, true, true, true, true, true, true, true, true, true, true, true, true, true, true, true, true, true, true, true, true, true, true, true, true, true, true, true, true, true, true, true, true, true, true, true, true, true, false, true, false, false, false, false, false, false, false, false, false, false, false, false, false, false, false, false, false, false, false, false, false, false, false, false] rfl rfl (take_ofW HT_.out HW_.out (by kernel_rfl)) (fun _ _ _ h => h) (Or.inl ⟨by rfl, ?_⟩) hHeld ?_ ?_
  rotate_left
  · rintro w' ⟨s0, s1, s2, s3, s4, s5, s6, s7, s8, s9, s10, s11, s12, s13, s14, s15, s16, s17, s18, s19⟩
    go_simp
    with_reducible rfl
  rotate_left
  · simp only [Act.put, List.setIfInBounds_toArray, List.set_cons_zero, List.set_cons_succ, i64_w, i32_w]
    rfl
  refine one_ (i := 64) (N := some 92) #[true, true, true, true, true, true, true, true, true, true, true, true, true, true, true, true, true, true, true, true, true, true, true, true, true, true, true, true, true, true, true, true, true, true, true, true, true, true, true, true, true, true, true, true, true, true, true, true, true, true, true, true, true, true, true, true, true, true, true, true, true, true, true, true, true, true, false, false, false, false, false, false, false, false, false, false, false, false, false, false, false, false, false, false, false, false, false, false, false, false] rfl rfl (one_of HT_.out (by kernel_rfl)) (by decide) (fun K hK => ?_)
  refine goes_ Tryd.func12 (by kernel_rfl) rfl #[.agg #[.int .u64 t535, .int .u64 t536, .int .u64 t537, .int .u64 t538], .agg #[.int .u64 t555, .int .u64 t556, .int .u64 t557, .int .u64 t558]] (by rfl) rfl rfl (by (try simp only [List.map_toArray, List.map_cons, List.map_nil]); first | done | rfl | (simp only [List.length_drop, List.length_take]; rfl)) ?_
  with_reducible refine (vec_Join.calls t535 t536 t537 t538 t555 t556 t557 t558 t602 t603 t604 t605 _ A31.out).mono ?_
  rintro e w107 ⟨rfl, hb⟩
  refine ⟨_, rfl, ?_⟩
  have n0_ := Zq1 (Zb1 (g := gb531) (o := .cells #[.int .u64 a0_0, .int .u64 a0_1, .int .u64 a0_2, .int .u64 a0_3, .bool a0_4] 26 (0, 0)) (by (with_reducible repeat (first | refine Zn1 ?_ _ | refine Zd1 ?_ | refine Za1 ?_ _)); exact BK531.out) hb)
  have n1_ := Zq1 (Zb1 (g := gb532) (o := .cells #[.int .u64 a1_0, .int .u64 a1_1, .int .u64 a1_2, .int .u64 a1_3, .bool a1_4] 26 (0, 0)) (by (with_reducible repeat (first | refine Zn1 ?_ _ | refine Zd1 ?_ | refine Za1 ?_ _)); exact BK532.out) hb)
  have n2_ := Zq1 (Zb1 (g := gb533) (o := .cells #[.int .u64 a2_0, .int .u64 a2_1, .int .u64 a2_2, .int .u64 a2_3, .bool a2_4] 26 (0, 0)) (by (with_reducible repeat (first | refine Zn1 ?_ _ | refine Zd1 ?_ | refine Za1 ?_ _)); exact BK533.out) hb)
  have n3_ := Zq1 (Zb1 (g := gb539) (o := .cells #[.int .u64 t535, .int .u64 t536, .int .u64 t537, .int .u64 t538] 24 (0, 0)) (by (with_reducible repeat (first | refine Zn1 ?_ _ | refine Zd1 ?_ | refine Za1 ?_ _)); exact BK539.out) hb)
  have n4_ := Zq1 (Zb1 (g := gb544) (o := .cells #[.int .u64 t540, .int .u64 t541, .int .u64 t542, .int .u64 t543] 24 (0, 0)) (by (with_reducible repeat (first | refine Zn1 ?_ _ | refine Zd1 ?_ | refine Za1 ?_ _)); exact BK544.out) hb)
  have n5_ := Zq1 (Zb1 (g := gb549) (o := .cells #[.int .u64 t545, .int .u64 t546, .int .u64 t547, .int .u64 t548] 24 (0, 0)) (by (with_reducible repeat (first | refine Zn1 ?_ _ | refine Zd1 ?_ | refine Za1 ?_ _)); exact BK549.out) hb)
  have n6_ := Zq1 (Zb1 (g := gb554) (o := .cells #[.int .u64 t550, .int .u64 t551, .int .u64 t552, .int .u64 t553] 24 (0, 0)) (by (with_reducible repeat (first | refine Zn1 ?_ _ | refine Zd1 ?_ | refine Za1 ?_ _)); exact BK554.out) hb)
  have n7_ := Zq1 (Zb1 (g := gb559) (o := .cells #[.int .u64 t555, .int .u64 t556, .int .u64 t557, .int .u64 t558] 24 (0, 0)) (by (with_reducible repeat (first | refine Zn1 ?_ _ | refine Zd1 ?_ | refine Za1 ?_ _)); exact BK559.out) hb)
  have n8_ := Zq1 (below_step (by repeat (first | (with_reducible first | exact HB.out | apply below_alloc | apply Zw1 | apply Ze1 | refine Zs1 ?_ GE531.out | refine Zs1 ?_ GE532.out | refine Zs1 ?_ GE533.out | refine Zs1 ?_ GE539.out | refine Zs1 ?_ GE544.out | refine Zs1 ?_ GE549.out | refine Zs1 ?_ GE554.out | refine Zs1 ?_ GE559.out) | exact HB.out)) hb)
  clear BK531
  clear BK532
  clear BK533
  clear BK539
  clear BK544
  clear BK549
  clear BK554
  clear BK559
  clear HB
  have BK531 := n0_
  have BK532 := n1_
  have BK533 := n2_
  have BK539 := n3_
  have BK544 := n4_
  have BK549 := n5_
  have BK554 := n6_
  have BK559 := n7_
  have HB := n8_
  clear n0_ n1_ n2_ n3_ n4_ n5_ n6_ n7_ n8_
  (try clear hb)
  (try clear hb2)
  (try clear hk)
  (try clear hi)
  refine hK.out _ _ ⟨(blk_cell BK554.out 0).trans rfl, (blk_cell BK554.out 1).trans rfl, (blk_cell BK554.out 2).trans rfl, (blk_cell BK554.out 3).trans rfl, (blk_cell BK544.out 0).trans rfl, (blk_cell BK544.out 1).trans rfl, (blk_cell BK544.out 2).trans rfl, (blk_cell BK544.out 3).trans rfl, (blk_cell BK539.out 0).trans rfl, (blk_cell BK539.out 1).trans rfl, (blk_cell BK539.out 2).trans rfl, (blk_cell BK539.out 3).trans rfl, (blk_cell BK559.out 0).trans rfl, (blk_cell BK559.out 1).trans rfl, (blk_cell BK559.out 2).trans rfl, (blk_cell BK559.out 3).trans rfl, (blk_cell BK549.out 0).trans rfl, (blk_cell BK549.out 1).trans rfl, (blk_cell BK549.out 2).trans rfl, (blk_cell BK549.out 3).trans rfl⟩ (fun hHeld => ?_)
  clear hK K
  refine norm_ (a' := ?_) ?_ ?_
  rotate_left
  · show Act.put _ (some 92) _ = _
    simp only [Act.put, List.setIfInBounds_toArray, List.set_cons_zero, List.set_cons_succ, i64_w, i32_w]
    rfl
  refine pure_ (i := 66) (N := some 94) (v := ?_) (a' := ?_) #[true, true, true, true, true, true, true, true, true, true, true, true, true, true, true, true, true, true, true, true, true, true, true, true, true, true, true, true, true, true, true, true, true, true, true, true, true, true, true, true, true, true, true, true, true, true, true, true, true, true, true, true, true, true, true, true, true, true, true, true, true, true, true, true, true, true, true, false, false, false, false, false, false, false, false, false, false, false, false, false, false, false, false, false, false, false, false, false, false, false] rfl rfl (any_of HT_.out (by kernel_rfl)) (fun _ _ _ h => h) (Or.inl ⟨by rfl, ?_⟩) ?_ ?_
  rotate_left
  · intro w'
    go_simp
    with_reducible rfl
  rotate_left
  · simp only [Act.put, List.setIfInBounds_toArray, List.set_cons_zero, List.set_cons_succ, i64_w, i32_w]
    rfl
  refine pure_ (i := 67) (N := some 95) (v := ?_) (a' := ?_) #[true, true, true, true, true, true, true, true, true, true, true, true, true, true, true, true, true, true, true, true, true, true, true, true, true, true, true, true, true, true, true, true, true, true, true, true, true, true, true, true, true, true, true, true, true, true, true, true, true, true, true, true, true, true, true, true, true, true, true, true, true, true, true, true, true, true, true, true, false, false, false, false, false, false, false, false, false, false, false, false, false, false, false, false, false, false, false, false, false, false] rfl rfl (any_of HT_.out (by kernel_rfl)) (fun _ _ _ h => h) (Or.inl ⟨by rfl, ?_⟩) ?_ ?_
  rotate_left
  · intro w'
    go_simp
    with_reducible rfl
  rotate_left
  · simp only [Act.put, List.setIfInBounds_toArray, List.set_cons_zero, List.set_cons_succ, i64_w, i32_w]
    rfl
  refine pure_ (i := 68) (N := some 96) (v := ?_) (a' := ?_) #[true, true, true, true, true, true, true, true, true, true, true, true, true, true, true, true, true, true, true, true, true, true, true, true, true, true, true, true, true, true, true, true, true, true, true, true, true, true, true, true, true, true, true, true, true, true, true, true, true, true, true, true, true, true, true, true, true, true, true, true, true, true, true, true, true, true, true, true, true, false, false, false, false, false, false, false, false, false, false, false, false, false, false, false, false, false, false, false, false, false] rfl rfl (any_of HT_.out (by kernel_rfl)) (fun _ _ _ h => h) (Or.inl ⟨by rfl, ?_⟩) ?_ ?_
  rotate_left
  · intro w'
    go_simp
    with_reducible rfl
  rotate_left
  · simp only [Act.put, List.setIfInBounds_toArray, List.set_cons_zero, List.set_cons_succ, i64_w, i32_w]
    rfl
  refine take_ (i := 69) (N := some 97) (v := ?_) (a' := ?_) #[true, true, true, true, true, true, true, true, true, true, true, true, true, true, true, true, true, true, true, true, true, true, true, true, true, true, true, true, true, true, true, true, true, true, true, true, true, true, true, true, true, true, true, true, true, true, true, true, true, true, true, true, true, true, true, true, true, true, true, true, true, true, true, true, true, true, true, true, true, true, false, false, false, false, false, false, false, false, false, false, false, false, false, false, false, false, false, false, false, false] rfl rfl (take_ofW HT_.out HW_.out (by kernel_rfl)) (fun _ _ _ h => h) (Or.inl ⟨by rfl, ?_⟩) hHeld ?_ ?_
  rotate_left
  · rintro w' ⟨s0, s1, s2, s3, s4, s5, s6, s7, s8, s9, s10, s11, s12, s13, s14, s15, s16, s17, s18, s19⟩
    go_simp
    with_reducible rfl
  rotate_left
  · simp only [Act.put, List.setIfInBounds_toArray, List.set_cons_zero, List.set_cons_succ, i64_w, i32_w]
    rfl
  refine take_ (i := 70) (N := some 98) (v := ?_) (a' := ?_) #[true, true, true, true, true, true, true, true, true, true, true, true, true, true, true, true, true, true, true, true, true, true, true, true, true, true, true, true, true, true, true, true, true, true, true, true, true, true, true, true, true, true, true, true, true, true, true, true, true, true, true, true, true, true, true, true, true, true, true, true, true, true, true, true, true, true, true, true, true, true, true, false, false, false, false, false, false, false, false, false, false, false, false, false, false, false, false, false, false, false] rfl rfl (take_ofW HT_.out HW_.out (by kernel_rfl)) (fun _ _ _ h => h) (Or.inl ⟨by rfl, ?_⟩) hHeld ?_ ?_
  rotate_left
  · rintro w' ⟨s0, s1, s2, s3, s4, s5, s6, s7, s8, s9, s10, s11, s12, s13, s14, s15, s16, s17, s18, s19⟩
    go_simp
    with_reducible rfl
  rotate_left
  · simp only [Act.put, List.setIfInBounds_toArray, List.set_cons_zero, List.set_cons_succ, i64_w, i32_w]
    rfl
  refine take_ (i := 72) (N := some 100) (v := ?_) (a' := ?_) #[true, true, true, true, true, true, true, true, true, true, true, true, true, true, true, true, true, true, true, true, true, true, true, true, true, true, true, true, true, true, true, true, true, true, true, true, true, true, true, true, true, true, true, true, true, true, true, true, true, true, true, true, true, true, true, true, true, true, true, true, true, true, true, true, true, true, true, true, true, true, true, false, true, false, false, false, false, false, false, false, false, false, false, false, false, false, false, false, false, false] rfl rfl (take_ofW HT_.out HW_.out (by kernel_rfl)) (fun _ _ _ h => h) (Or.inl ⟨by rfl, ?_⟩) hHeld ?_ ?_
  rotate_left
  · rintro w' ⟨s0, s1, s2, s3, s4, s5, s6, s7, s8, s9, s10, s11, s12, s13, s14, s15, s16, s17, s18, s19⟩
    go_simp
    with_reducible rfl
  rotate_left
  · simp only [Act.put, List.setIfInBounds_toArray, List.set_cons_zero, List.set_cons_succ, i64_w, i32_w]
    rfl
  refine one_ (i := 71) (N := some 99) #[true, true, true, true, true, true, true, true, true, true, true, true, true, true, true, true, true, true, true, true, true, true, true, true, true, true, true, true, true, true, true, true, true, true, true, true, true, true, true, true, true, true, true, true, true, true, true, true, true, true, true, true, true, true, true, true, true, true, true, true, true, true, true, true, true, true, true, true, true, true, true, true, true, false, false, false, false, false, false, false, false, false, false, false, false, false, false, false, false, false] rfl rfl (one_of HT_.out (by kernel_rfl)) (by decide) (fun K hK => ?_)
  refine goes_ Tryd.func14 (by kernel_rfl) rfl #[.agg #[.int .u64 t535, .int .u64 t536, .int .u64 t537, .int .u64 t538], .agg #[.int .u64 t550, .int .u64 t551, .int .u64 t552, .int .u64 t553]] (by rfl) rfl rfl (by (try simp only [List.map_toArray, List.map_cons, List.map_nil]); first | done | rfl | (simp only [List.length_drop, List.length_take]; rfl)) ?_
  with_reducible refine (vec_Meet.calls t535 t536 t537 t538 t550 t551 t552 t553 t606 t607 t608 t609 _ A33.out).mono ?_
  rintro e w108 ⟨rfl, hb⟩
  refine ⟨_, rfl, ?_⟩
  have n0_ := Zq1 (Zb1 (g := gb531) (o := .cells #[.int .u64 a0_0, .int .u64 a0_1, .int .u64 a0_2, .int .u64 a0_3, .bool a0_4] 26 (0, 0)) (by (with_reducible repeat (first | refine Zn1 ?_ _ | refine Zd1 ?_ | refine Za1 ?_ _)); exact BK531.out) hb)
  have n1_ := Zq1 (Zb1 (g := gb532) (o := .cells #[.int .u64 a1_0, .int .u64 a1_1, .int .u64 a1_2, .int .u64 a1_3, .bool a1_4] 26 (0, 0)) (by (with_reducible repeat (first | refine Zn1 ?_ _ | refine Zd1 ?_ | refine Za1 ?_ _)); exact BK532.out) hb)
  have n2_ := Zq1 (Zb1 (g := gb533) (o := .cells #[.int .u64 a2_0, .int .u64 a2_1, .int .u64 a2_2, .int .u64 a2_3, .bool a2_4] 26 (0, 0)) (by (with_reducible repeat (first | refine Zn1 ?_ _ | refine Zd1 ?_ | refine Za1 ?_ _)); exact BK533.out) hb)
  have n3_ := Zq1 (Zb1 (g := gb539) (o := .cells #[.int .u64 t535, .int .u64 t536, .int .u64 t537, .int .u64 t538] 24 (0, 0)) (by (with_reducible repeat (first | refine Zn1 ?_ _ | refine Zd1 ?_ | refine Za1 ?_ _)); exact BK539.out) hb)
  have n4_ := Zq1 (Zb1 (g := gb544) (o := .cells #[.int .u64 t540, .int .u64 t541, .int .u64 t542, .int .u64 t543] 24 (0, 0)) (by (with_reducible repeat (first | refine Zn1 ?_ _ | refine Zd1 ?_ | refine Za1 ?_ _)); exact BK544.out) hb)
  have n5_ := Zq1 (Zb1 (g := gb549) (o := .cells #[.int .u64 t545, .int .u64 t546, .int .u64 t547, .int .u64 t548] 24 (0, 0)) (by (with_reducible repeat (first | refine Zn1 ?_ _ | refine Zd1 ?_ | refine Za1 ?_ _)); exact BK549.out) hb)
  have n6_ := Zq1 (Zb1 (g := gb554) (o := .cells #[.int .u64 t550, .int .u64 t551, .int .u64 t552, .int .u64 t553] 24 (0, 0)) (by (with_reducible repeat (first | refine Zn1 ?_ _ | refine Zd1 ?_ | refine Za1 ?_ _)); exact BK554.out) hb)
  have n7_ := Zq1 (Zb1 (g := gb559) (o := .cells #[.int .u64 t555, .int .u64 t556, .int .u64 t557, .int .u64 t558] 24 (0, 0)) (by (with_reducible repeat (first | refine Zn1 ?_ _ | refine Zd1 ?_ | refine Za1 ?_ _)); exact BK559.out) hb)
  have n8_ := Zq1 (below_step (by repeat (first | (with_reducible first | exact HB.out | apply below_alloc | apply Zw1 | apply Ze1 | refine Zs1 ?_ GE531.out | refine Zs1 ?_ GE532.out | refine Zs1 ?_ GE533.out | refine Zs1 ?_ GE539.out | refine Zs1 ?_ GE544.out | refine Zs1 ?_ GE549.out | refine Zs1 ?_ GE554.out | refine Zs1 ?_ GE559.out) | exact HB.out)) hb)
  clear BK531
  clear BK532
  clear BK533
  clear BK539
  clear BK544
  clear BK549
  clear BK554
  clear BK559
  clear HB
  have BK531 := n0_
  have BK532 := n1_
  have BK533 := n2_
  have BK539 := n3_
  have BK544 := n4_
  have BK549 := n5_
  have BK554 := n6_
  have BK559 := n7_
  have HB := n8_
  clear n0_ n1_ n2_ n3_ n4_ n5_ n6_ n7_ n8_
  (try clear hb)
  (try clear hb2)
  (try clear hk)
  (try clear hi)
  refine hK.out _ _ ⟨(blk_cell BK554.out 0).trans rfl, (blk_cell BK554.out 1).trans rfl, (blk_cell BK554.out 2).trans rfl, (blk_cell BK554.out 3).trans rfl, (blk_cell BK544.out 0).trans rfl, (blk_cell BK544.out 1).trans rfl, (blk_cell BK544.out 2).trans rfl, (blk_cell BK544.out 3).trans rfl, (blk_cell BK539.out 0).trans rfl, (blk_cell BK539.out 1).trans rfl, (blk_cell BK539.out 2).trans rfl, (blk_cell BK539.out 3).trans rfl, (blk_cell BK559.out 0).trans rfl, (blk_cell BK559.out 1).trans rfl, (blk_cell BK559.out 2).trans rfl, (blk_cell BK559.out 3).trans rfl, (blk_cell BK549.out 0).trans rfl, (blk_cell BK549.out 1).trans rfl, (blk_cell BK549.out 2).trans rfl, (blk_cell BK549.out 3).trans rfl⟩ (fun hHeld => ?_)
  clear hK K
  refine norm_ (a' := ?_) ?_ ?_
  rotate_left
  · show Act.put _ (some 99) _ = _
    simp only [Act.put, List.setIfInBounds_toArray, List.set_cons_zero, List.set_cons_succ, i64_w, i32_w]
    rfl
  refine pure_ (i := 73) (N := some 101) (v := ?_) (a' := ?_) #[true, true, true, true, true, true, true, true, true, true, true, true, true, true, true, true, true, true, true, true, true, true, true, true, true, true, true, true, true, true, true, true, true, true, true, true, true, true, true, true, true, true, true, true, true, true, true, true, true, true, true, true, true, true, true, true, true, true, true, true, true, true, true, true, true, true, true, true, true, true, true, true, true, true, false, false, false, false, false, false, false, false, false, false, false, false, false, false, false, false] rfl rfl (any_of HT_.out (by kernel_rfl)) (fun _ _ _ h => h) (Or.inl ⟨by rfl, ?_⟩) ?_ ?_
  rotate_left
  · intro w'
    go_simp
    with_reducible rfl
  rotate_left
  · simp only [Act.put, List.setIfInBounds_toArray, List.set_cons_zero, List.set_cons_succ, i64_w, i32_w]
    rfl
  refine pure_ (i := 74) (N := some 102) (v := ?_) (a' := ?_) #[true, true, true, true, true, true, true, true, true, true, true, true, true, true, true, true, true, true, true, true, true, true, true, true, true, true, true, true, true, true, true, true, true, true, true, true, true, true, true, true, true, true, true, true, true, true, true, true, true, true, true, true, true, true, true, true, true, true, true, true, true, true, true, true, true, true, true, true, true, true, true, true, true, true, true, false, false, false, false, false, false, false, false, false, false, false, false, false, false, false] rfl rfl (any_of HT_.out (by kernel_rfl)) (fun _ _ _ h => h) (Or.inl ⟨by rfl, ?_⟩) ?_ ?_
  rotate_left
  · intro w'
    go_simp
    with_reducible rfl
  rotate_left
  · simp only [Act.put, List.setIfInBounds_toArray, List.set_cons_zero, List.set_cons_succ, i64_w, i32_w]
    rfl
  refine pure_ (i := 75) (N := some 103) (v := ?_) (a' := ?_) #[true, true, true, true, true, true, true, true, true, true, true, true, true, true, true, true, true, true, true, true, true, true, true, true, true, true, true, true, true, true, true, true, true, true, true, true, true, true, true, true, true, true, true, true, true, true, true, true, true, true, true, true, true, true, true, true, true, true, true, true, true, true, true, true, true, true, true, true, true, true, true, true, true, true, true, true, false, false, false, false, false, false, false, false, false, false, false, false, false, false] rfl rfl (any_of HT_.out (by kernel_rfl)) (fun _ _ _ h => h) (Or.inl ⟨by rfl, ?_⟩) ?_ ?_
  rotate_left
  · intro w'
    go_simp
    with_reducible rfl
  rotate_left
  · simp only [Act.put, List.setIfInBounds_toArray, List.set_cons_zero, List.set_cons_succ, i64_w, i32_w]
    rfl
  refine take_ (i := 76) (N := some 104) (v := ?_) (a' := ?_) #[true, true, true, true, true, true, true, true, true, true, true, true, true, true, true, true, true, true, true, true, true, true, true, true, true, true, true, true, true, true, true, true, true, true, true, true, true, true, true, true, true, true, true, true, true, true, true, true, true, true, true, true, true, true, true, true, true, true, true, true, true, true, true, true, true, true, true, true, true, true, true, true, true, true, true, true, true, false, false, false, false, false, false, false, false, false, false, false, false, false] rfl rfl (take_ofW HT_.out HW_.out (by kernel_rfl)) (fun _ _ _ h => h) (Or.inl ⟨by rfl, ?_⟩) hHeld ?_ ?_
  rotate_left
  · rintro w' ⟨s0, s1, s2, s3, s4, s5, s6, s7, s8, s9, s10, s11, s12, s13, s14, s15, s16, s17, s18, s19⟩
    go_simp
    with_reducible rfl
  rotate_left
  · simp only [Act.put, List.setIfInBounds_toArray, List.set_cons_zero, List.set_cons_succ, i64_w, i32_w]
    rfl
  refine one_ (i := 77) (N := some 105) #[true, true, true, true, true, true, true, true, true, true, true, true, true, true, true, true, true, true, true, true, true, true, true, true, true, true, true, true, true, true, true, true, true, true, true, true, true, true, true, true, true, true, true, true, true, true, true, true, true, true, true, true, true, true, true, true, true, true, true, true, true, true, true, true, true, true, true, true, true, true, true, true, true, true, true, true, true, true, false, false, false, false, false, false, false, false, false, false, false, false] rfl rfl (one_of HT_.out (by kernel_rfl)) (by decide) (fun K hK => ?_)
  refine goes_ Tryd.func20 (by kernel_rfl) rfl #[.agg #[.int .u64 t535, .int .u64 t536, .int .u64 t537, .int .u64 t538]] (by rfl) rfl rfl (by (try simp only [List.map_toArray, List.map_cons, List.map_nil]); first | done | rfl | (simp only [List.length_drop, List.length_take]; rfl)) ?_
  with_reducible refine (vec_Right.calls t535 t536 t537 t538 true _ A35.out).mono ?_
  rintro e w109 ⟨rfl, hb⟩
  refine ⟨_, rfl, ?_⟩
  have n0_ := Zq1 (Zb1 (g := gb531) (o := .cells #[.int .u64 a0_0, .int .u64 a0_1, .int .u64 a0_2, .int .u64 a0_3, .bool a0_4] 26 (0, 0)) (by (with_reducible repeat (first | refine Zn1 ?_ _ | refine Zd1 ?_ | refine Za1 ?_ _)); exact BK531.out) hb)
  have n1_ := Zq1 (Zb1 (g := gb532) (o := .cells #[.int .u64 a1_0, .int .u64 a1_1, .int .u64 a1_2, .int .u64 a1_3, .bool a1_4] 26 (0, 0)) (by (with_reducible repeat (first | refine Zn1 ?_ _ | refine Zd1 ?_ | refine Za1 ?_ _)); exact BK532.out) hb)
  have n2_ := Zq1 (Zb1 (g := gb533) (o := .cells #[.int .u64 a2_0, .int .u64 a2_1, .int .u64 a2_2, .int .u64 a2_3, .bool a2_4] 26 (0, 0)) (by (with_reducible repeat (first | refine Zn1 ?_ _ | refine Zd1 ?_ | refine Za1 ?_ _)); exact BK533.out) hb)
  have n3_ := Zq1 (Zb1 (g := gb539) (o := .cells #[.int .u64 t535, .int .u64 t536, .int .u64 t537, .int .u64 t538] 24 (0, 0)) (by (with_reducible repeat (first | refine Zn1 ?_ _ | refine Zd1 ?_ | refine Za1 ?_ _)); exact BK539.out) hb)
  have n4_ := Zq1 (Zb1 (g := gb544) (o := .cells #[.int .u64 t540, .int .u64 t541, .int .u64 t542, .int .u64 t543] 24 (0, 0)) (by (with_reducible repeat (first | refine Zn1 ?_ _ | refine Zd1 ?_ | refine Za1 ?_ _)); exact BK544.out) hb)
  have n5_ := Zq1 (Zb1 (g := gb549) (o := .cells #[.int .u64 t545, .int .u64 t546, .int .u64 t547, .int .u64 t548] 24 (0, 0)) (by (with_reducible repeat (first | refine Zn1 ?_ _ | refine Zd1 ?_ | refine Za1 ?_ _)); exact BK549.out) hb)
  have n6_ := Zq1 (Zb1 (g := gb554) (o := .cells #[.int .u64 t550, .int .u64 t551, .int .u64 t552, .int .u64 t553] 24 (0, 0)) (by (with_reducible repeat (first | refine Zn1 ?_ _ | refine Zd1 ?_ | refine Za1 ?_ _)); exact BK554.out) hb)
  have n7_ := Zq1 (Zb1 (g := gb559) (o := .cells #[.int .u64 t555, .int .u64 t556, .int .u64 t557, .int .u64 t558] 24 (0, 0)) (by (with_reducible repeat (first | refine Zn1 ?_ _ | refine Zd1 ?_ | refine Za1 ?_ _)); exact BK559.out) hb)
  have n8_ := Zq1 (below_step (by repeat (first | (with_reducible first | exact HB.out | apply below_alloc | apply Zw1 | apply Ze1 | refine Zs1 ?_ GE531.out | refine Zs1 ?_ GE532.out | refine Zs1 ?_ GE533.out | refine Zs1 ?_ GE539.out | refine Zs1 ?_ GE544.out | refine Zs1 ?_ GE549.out | refine Zs1 ?_ GE554.out | refine Zs1 ?_ GE559.out) | exact HB.out)) hb)
  clear BK531
  clear BK532
  clear BK533
  clear BK539
  clear BK544
  clear BK549
  clear BK554
  clear BK559
  clear HB
  have BK531 := n0_
  have BK532 := n1_
  have BK533 := n2_
  have BK539 := n3_
  have BK544 := n4_
  have BK549 := n5_
  have BK554 := n6_
  have BK559 := n7_
  have HB := n8_
  clear n0_ n1_ n2_ n3_ n4_ n5_ n6_ n7_ n8_
  (try clear hb)
  (try clear hb2)
  (try clear hk)
  (try clear hi)
  refine hK.out _ _ ⟨(blk_cell BK554.out 0).trans rfl, (blk_cell BK554.out 1).trans rfl, (blk_cell BK554.out 2).trans rfl, (blk_cell BK554.out 3).trans rfl, (blk_cell BK544.out 0).trans rfl, (blk_cell BK544.out 1).trans rfl, (blk_cell BK544.out 2).trans rfl, (blk_cell BK544.out 3).trans rfl, (blk_cell BK539.out 0).trans rfl, (blk_cell BK539.out 1).trans rfl, (blk_cell BK539.out 2).trans rfl, (blk_cell BK539.out 3).trans rfl, (blk_cell BK559.out 0).trans rfl, (blk_cell BK559.out 1).trans rfl, (blk_cell BK559.out 2).trans rfl, (blk_cell BK559.out 3).trans rfl, (blk_cell BK549.out 0).trans rfl, (blk_cell BK549.out 1).trans rfl, (blk_cell BK549.out 2).trans rfl, (blk_cell BK549.out 3).trans rfl⟩ (fun hHeld => ?_)
  clear hK K
  refine norm_ (a' := ?_) ?_ ?_
  rotate_left
  · show Act.put _ (some 105) _ = _
    simp only [Act.put, List.setIfInBounds_toArray, List.set_cons_zero, List.set_cons_succ, i64_w, i32_w]
    rfl
  refine pure_ (i := 78) (N := some 106) (v := ?_) (a' := ?_) #[true, true, true, true, true, true, true, true, true, true, true, true, true, true, true, true, true, true, true, true, true, true, true, true, true, true, true, true, true, true, true, true, true, true, true, true, true, true, true, true, true, true, true, true, true, true, true, true, true, true, true, true, true, true, true, true, true, true, true, true, true, true, true, true, true, true, true, true, true, true, true, true, true, true, true, true, true, true, true, false, false, false, false, false, false, false, false, false, false, false] rfl rfl (any_of HT_.out (by kernel_rfl)) (fun _ _ _ h => h) (Or.inl ⟨by rfl, ?_⟩) ?_ ?_
  rotate_left
  · intro w'
    go_simp
    with_reducible rfl
  rotate_left
  · simp only [Act.put, List.setIfInBounds_toArray, List.set_cons_zero, List.set_cons_succ, i64_w, i32_w]
    rfl
  refine pure_ (i := 79) (N := some 107) (v := ?_) (a' := ?_) #[true, true, true, true, true, true, true, true, true, true, true, true, true, true, true, true, true, true, true, true, true, true, true, true, true, true, true, true, true, true, true, true, true, true, true, true, true, true, true, true, true, true, true, true, true, true, true, true, true, true, true, true, true, true, true, true, true, true, true, true, true, true, true, true, true, true, true, true, true, true, true, true, true, true, true, true, true, true, true, true, false, false, false, false, false, false, false, false, false, false] rfl rfl (any_of HT_.out (by kernel_rfl)) (fun _ _ _ h => h) (Or.inl ⟨by rfl, ?_⟩) ?_ ?_
  rotate_left
  · intro w'
    go_simp
    with_reducible rfl
  rotate_left
  · simp only [Act.put, List.setIfInBounds_toArray, List.set_cons_zero, List.set_cons_succ, i64_w, i32_w]
    rfl
  refine take_ (i := 80) (N := some 108) (v := ?_) (a' := ?_) #[true, true, true, true, true, true, true, true, true, true, true, true, true, true, true, true, true, true, true, true, true, true, true, true, true, true, true, true, true, true, true, true, true, true, true, true, true, true, true, true, true, true, true, true, true, true, true, true, true, true, true, true, true, true, true, true, true, true, true, true, true, true, true, true, true, true, true, true, true, true, true, true, true, true, true, true, true, true, true, true, true, false, false, false, false, false, false, false, false, false] rfl rfl (take_ofW HT_.out HW_.out (by kernel_rfl)) (fun _ _ _ h => h) (Or.inl ⟨by rfl, ?_⟩) hHeld ?_ ?_
  rotate_left
  · rintro w' ⟨s0, s1, s2, s3, s4, s5, s6, s7, s8, s9, s10, s11, s12, s13, s14, s15, s16, s17, s18, s19⟩
    go_simp
    with_reducible rfl
  rotate_left
  · simp only [Act.put, List.setIfInBounds_toArray, List.set_cons_zero, List.set_cons_succ, i64_w, i32_w]
    rfl
  refine one_ (i := 81) (N := some 109) #[true, true, true, true, true, true, true, true, true, true, true, true, true, true, true, true, true, true, true, true, true, true, true, true, true, true, true, true, true, true, true, true, true, true, true, true, true, true, true, true, true, true, true, true, true, true, true, true, true, true, true, true, true, true, true, true, true, true, true, true, true, true, true, true, true, true, true, true, true, true, true, true, true, true, true, true, true, true, true, true, true, true, false, false, false, false, false, false, false, false] rfl rfl (one_of HT_.out (by kernel_rfl)) (by decide) (fun K hK => ?_)
  refine goes_ Tryd.func20 (by kernel_rfl) rfl #[.agg #[.int .u64 t540, .int .u64 t541, .int .u64 t542, .int .u64 t543]] (by rfl) rfl rfl (by (try simp only [List.map_toArray, List.map_cons, List.map_nil]); first | done | rfl | (simp only [List.length_drop, List.length_take]; rfl)) ?_
  with_reducible refine (vec_Right.calls t540 t541 t542 t543 false _ A37.out).mono ?_
  rintro e w110 ⟨rfl, hb⟩
  refine ⟨_, rfl, ?_⟩
  have n0_ := Zq1 (Zb1 (g := gb531) (o := .cells #[.int .u64 a0_0, .int .u64 a0_1, .int .u64 a0_2, .int .u64 a0_3, .bool a0_4] 26 (0, 0)) (by (with_reducible repeat (first | refine Zn1 ?_ _ | refine Zd1 ?_ | refine Za1 ?_ _)); exact BK531.out) hb)
  have n1_ := Zq1 (Zb1 (g := gb532) (o := .cells #[.int .u64 a1_0, .int .u64 a1_1, .int .u64 a1_2, .int .u64 a1_3, .bool a1_4] 26 (0, 0)) (by (with_reducible repeat (first | refine Zn1 ?_ _ | refine Zd1 ?_ | refine Za1 ?_ _)); exact BK532.out) hb)
  have n2_ := Zq1 (Zb1 (g := gb533) (o := .cells #[.int .u64 a2_0, .int .u64 a2_1, .int .u64 a2_2, .int .u64 a2_3, .bool a2_4] 26 (0, 0)) (by (with_reducible repeat (first | refine Zn1 ?_ _ | refine Zd1 ?_ | refine Za1 ?_ _)); exact BK533.out) hb)
  have n3_ := Zq1 (Zb1 (g := gb539) (o := .cells #[.int .u64 t535, .int .u64 t536, .int .u64 t537, .int .u64 t538] 24 (0, 0)) (by (with_reducible repeat (first | refine Zn1 ?_ _ | refine Zd1 ?_ | refine Za1 ?_ _)); exact BK539.out) hb)
  have n4_ := Zq1 (Zb1 (g := gb544) (o := .cells #[.int .u64 t540, .int .u64 t541, .int .u64 t542, .int .u64 t543] 24 (0, 0)) (by (with_reducible repeat (first | refine Zn1 ?_ _ | refine Zd1 ?_ | refine Za1 ?_ _)); exact BK544.out) hb)
  have n5_ := Zq1 (Zb1 (g := gb549) (o := .cells #[.int .u64 t545, .int .u64 t546, .int .u64 t547, .int .u64 t548] 24 (0, 0)) (by (with_reducible repeat (first | refine Zn1 ?_ _ | refine Zd1 ?_ | refine Za1 ?_ _)); exact BK549.out) hb)
  have n6_ := Zq1 (Zb1 (g := gb554) (o := .cells #[.int .u64 t550, .int .u64 t551, .int .u64 t552, .int .u64 t553] 24 (0, 0)) (by (with_reducible repeat (first | refine Zn1 ?_ _ | refine Zd1 ?_ | refine Za1 ?_ _)); exact BK554.out) hb)
  have n7_ := Zq1 (Zb1 (g := gb559) (o := .cells #[.int .u64 t555, .int .u64 t556, .int .u64 t557, .int .u64 t558] 24 (0, 0)) (by (with_reducible repeat (first | refine Zn1 ?_ _ | refine Zd1 ?_ | refine Za1 ?_ _)); exact BK559.out) hb)
  have n8_ := Zq1 (below_step (by repeat (first | (with_reducible first | exact HB.out | apply below_alloc | apply Zw1 | apply Ze1 | refine Zs1 ?_ GE531.out | refine Zs1 ?_ GE532.out | refine Zs1 ?_ GE533.out | refine Zs1 ?_ GE539.out | refine Zs1 ?_ GE544.out | refine Zs1 ?_ GE549.out | refine Zs1 ?_ GE554.out | refine Zs1 ?_ GE559.out) | exact HB.out)) hb)
  clear BK531
  clear BK532
  clear BK533
  clear BK539
  clear BK544
  clear BK549
  clear BK554
  clear BK559
  clear HB
  have BK531 := n0_
  have BK532 := n1_
  have BK533 := n2_
  have BK539 := n3_
  have BK544 := n4_
  have BK549 := n5_
  have BK554 := n6_
  have BK559 := n7_
  have HB := n8_
  clear n0_ n1_ n2_ n3_ n4_ n5_ n6_ n7_ n8_
  (try clear hb)
  (try clear hb2)
  (try clear hk)
  (try clear hi)
  refine hK.out _ _ ⟨(blk_cell BK554.out 0).trans rfl, (blk_cell BK554.out 1).trans rfl, (blk_cell BK554.out 2).trans rfl, (blk_cell BK554.out 3).trans rfl, (blk_cell BK544.out 0).trans rfl, (blk_cell BK544.out 1).trans rfl, (blk_cell BK544.out 2).trans rfl, (blk_cell BK544.out 3).trans rfl, (blk_cell BK539.out 0).trans rfl, (blk_cell BK539.out 1).trans rfl, (blk_cell BK539.out 2).trans rfl, (blk_cell BK539.out 3).trans rfl, (blk_cell BK559.out 0).trans rfl, (blk_cell BK559.out 1).trans rfl, (blk_cell BK559.out 2).trans rfl, (blk_cell BK559.out 3).trans rfl, (blk_cell BK549.out 0).trans rfl, (blk_cell BK549.out 1).trans rfl, (blk_cell BK549.out 2).trans rfl, (blk_cell BK549.out 3).trans rfl⟩ (fun hHeld => ?_)
  clear hK K
  refine norm_ (a' := ?_) ?_ ?_
  rotate_left
  · show Act.put _ (some 109) _ = _
    simp only [Act.put, List.setIfInBounds_toArray, List.set_cons_zero, List.set_cons_succ, i64_w, i32_w]
    rfl
  refine pure_ (i := 82) (N := some 110) (v := ?_) (a' := ?_) #[true, true, true, true, true, true, true, true, true, true, true, true, true, true, true, true, true, true, true, true, true, true, true, true, true, true, true, true, true, true, true, true, true, true, true, true, true, true, true, true, true, true, true, true, true, true, true, true, true, true, true, true, true, true, true, true, true, true, true, true, true, true, true, true, true, true, true, true, true, true, true, true, true, true, true, true, true, true, true, true, true, true, true, false, false, false, false, false, false, false] rfl rfl (any_of HT_.out (by kernel_rfl)) (fun _ _ _ h => h) (Or.inl ⟨by rfl, ?_⟩) ?_ ?_
  rotate_left
  · intro w'
    go_simp
    with_reducible rfl
  rotate_left
  · simp only [Act.put, List.setIfInBounds_toArray, List.set_cons_zero, List.set_cons_succ, i64_w, i32_w]
    rfl
  refine pure_ (i := 83) (N := some 111) (v := ?_) (a' := ?_) #[true, true, true, true, true, true, true, true, true, true, true, true, true, true, true, true, true, true, true, true, true, true, true, true, true, true, true, true, true, true, true, true, true, true, true, true, true, true, true, true, true, true, true, true, true, true, true, true, true, true, true, true, true, true, true, true, true, true, true, true, true, true, true, true, true, true, true, true, true, true, true, true, true, true, true, true, true, true, true, true, true, true, true, true, false, false, false, false, false, false] rfl rfl (any_of HT_.out (by kernel_rfl)) (fun _ _ _ h => h) (Or.inl ⟨by rfl, ?_⟩) ?_ ?_
  rotate_left
  · intro w'
    go_simp
    with_reducible rfl
  rotate_left
  · simp only [Act.put, List.setIfInBounds_toArray, List.set_cons_zero, List.set_cons_succ, i64_w, i32_w]
    rfl
  refine pure_ (i := 84) (N := some 112) (v := ?_) (a' := ?_) #[true, true, true, true, true, true, true, true, true, true, true, true, true, true, true, true, true, true, true, true, true, true, true, true, true, true, true, true, true, true, true, true, true, true, true, true, true, true, true, true, true, true, true, true, true, true, true, true, true, true, true, true, true, true, true, true, true, true, true, true, true, true, true, true, true, true, true, true, true, true, true, true, true, true, true, true, true, true, true, true, true, true, true, true, true, false, false, false, false, false] rfl rfl (any_of HT_.out (by kernel_rfl)) (fun _ _ _ h => h) (Or.inl ⟨by rfl, ?_⟩) ?_ ?_
  rotate_left
  · intro w'
    go_simp
    with_reducible rfl
  rotate_left
  · simp only [Act.put, List.setIfInBounds_toArray, List.set_cons_zero, List.set_cons_succ, i64_w, i32_w]
    rfl
  refine pure_ (i := 85) (N := some 113) (v := undef) (a' := ?_) #[true, true, true, true, true, true, true, true, true, true, true, true, true, true, true, true, true, true, true, true, true, true, true, true, true, true, true, true, true, true, true, true, true, true, true, true, true, true, true, true, true, true, true, true, true, true, true, true, true, true, true, true, true, true, true, true, true, true, true, true, true, true, true, true, true, true, true, true, true, true, true, true, true, true, true, true, true, true, true, true, true, true, true, true, true, true, false, false, false, false] rfl rfl (any_of HT_.out (by kernel_rfl)) (fun _ _ _ h => h) (Or.inr ⟨by rfl, rfl⟩) ?_ ?_
  rotate_left
  · simp only [Act.put, List.setIfInBounds_toArray, List.set_cons_zero, List.set_cons_succ, i64_w, i32_w]
    rfl
  refine pure_ (i := 86) (N := some 114) (v := undef) (a' := ?_) #[true, true, true, true, true, true, true, true, true, true, true, true, true, true, true, true, true, true, true, true, true, true, true, true, true, true, true, true, true, true, true, true, true, true, true, true, true, true, true, true, true, true, true, true, true, true, true, true, true, true, true, true, true, true, true, true, true, true, true, true, true, true, true, true, true, true, true, true, true, true, true, true, true, true, true, true, true, true, true, true, true, true, true, true, true, true, true, false, false, false] rfl rfl (any_of HT_.out (by kernel_rfl)) (fun _ _ _ h => h) (Or.inr ⟨by rfl, rfl⟩) ?_ ?_
  rotate_left
  · simp only [Act.put, List.setIfInBounds_toArray, List.set_cons_zero, List.set_cons_succ, i64_w, i32_w]
    rfl
  refine pure_ (i := 87) (N := some 115) (v := ?_) (a' := ?_) #[true, true, true, true, true, true, true, true, true, true, true, true, true, true, true, true, true, true, true, true, true, true, true, true, true, true, true, true, true, true, true, true, true, true, true, true, true, true, true, true, true, true, true, true, true, true, true, true, true, true, true, true, true, true, true, true, true, true, true, true, true, true, true, true, true, true, true, true, true, true, true, true, true, true, true, true, true, true, true, true, true, true, true, true, true, true, true, true, false, false] rfl rfl (any_of HT_.out (by kernel_rfl)) (fun _ _ _ h => h) (Or.inl ⟨by rfl, ?_⟩) ?_ ?_
  rotate_left
  · intro w'
    go_simp
    with_reducible rfl
  rotate_left
  · simp only [Act.put, List.setIfInBounds_toArray, List.set_cons_zero, List.set_cons_succ, i64_w, i32_w]
    rfl
  refine pure_ (i := 88) (N := some 116) (v := ?_) (a' := ?_) #[true, true, true, true, true, true, true, true, true, true, true, true, true, true, true, true, true, true, true, true, true, true, true, true, true, true, true, true, true, true, true, true, true, true, true, true, true, true, true, true, true, true, true, true, true, true, true, true, true, true, true, true, true, true, true, true, true, true, true, true, true, true, true, true, true, true, true, true, true, true, true, true, true, true, true, true, true, true, true, true, true, true, true, true, true, true, true, true, true, false] rfl rfl (any_of HT_.out (by kernel_rfl)) (fun _ _ _ h => h) (Or.inl ⟨by rfl, ?_⟩) ?_ ?_
  rotate_left
  · intro w'
    go_simp
    with_reducible rfl
  rotate_left
  · simp only [Act.put, List.setIfInBounds_toArray, List.set_cons_zero, List.set_cons_succ, i64_w, i32_w]
    rfl
  refine pure_ (i := 89) (N := some 6) (v := ?_) (a' := ?_) #[true, true, true, true, true, true, true, true, true, true, true, true, true, true, true, true, true, true, true, true, true, true, true, true, true, true, true, true, true, true, true, true, true, true, true, true, true, true, true, true, true, true, true, true, true, true, true, true, true, true, true, true, true, true, true, true, true, true, true, true, true, true, true, true, true, true, true, true, true, true, true, true, true, true, true, true, true, true, true, true, true, true, true, true, true, true, true, true, true, true] rfl rfl (any_of HT_.out (by kernel_rfl)) (fun _ _ _ h => h) (Or.inl ⟨by rfl, ?_⟩) ?_ ?_
  rotate_left
  · intro w'
    go_simp
    with_reducible rfl
  rotate_left
  · simp only [Act.put, List.setIfInBounds_toArray, List.set_cons_zero, List.set_cons_succ, i64_w, i32_w]
    rfl
  refine done_ (done_of HT_.out (by kernel_rfl)) ?_
  try go_wp2
  go_ret
  exact ⟨by first | rfl | (simp [errW_none, errW_some] <;> rfl) | (simp [*, errW_none, errW_some] <;> rfl), by repeat (first | (with_reducible first | exact HB.out | apply below_alloc | apply Zw1 | apply Ze1 | refine Zs1 ?_ GE531.out | refine Zs1 ?_ GE532.out | refine Zs1 ?_ GE533.out | refine Zs1 ?_ GE539.out | refine Zs1 ?_ GE544.out | refine Zs1 ?_ GE549.out | refine Zs1 ?_ GE554.out | refine Zs1 ?_ GE559.out) | exact HB.out)⟩

end Go.Proofs.YtakhahfegialfaaDoor.Q
