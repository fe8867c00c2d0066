-- Written by this session's own driver (wip/hybrid.py) of the kit's printer; contracts marked FOREIGN are by hand.
import Derived.Test.YtakhahfegialfaaDoorQx0
import Derived.Test.YtakhahfegialfaaDoorQxe29
import Derived.Test.YtakhahfegialfaaDoorQxf12
import Derived.Test.YtakhahfegialfaaDoorQxf14
import Derived.Test.YtakhahfegialfaaDoorQxf16
import Derived.Test.YtakhahfegialfaaDoorQxf18
import Derived.Test.YtakhahfegialfaaDoorQxf22
import Derived.Test.YtakhahfegialfaaDoorQxf20
import Derived.Test.YtakhahfegialfaaDoorQxf24
import Derived.Test.YtakhahfegialfaaDoorQxf26
import Derived.Test.YtakhahfegialfaaDoorQxf28
import Derived.Test.YtakhahfegialfaaDoorQxf41
import Derived.Test.YtakhahfegialfaaDoorQxf10
import Derived.Test.YtakhahfegialfaaDoorQxf11
import Derived.Test.YtakhahfegialfaaDoorQxf13
import Derived.Test.YtakhahfegialfaaDoorQxf15
import Derived.Test.YtakhahfegialfaaDoorQxf17
import Derived.Test.YtakhahfegialfaaDoorQxf19
import Derived.Test.YtakhahfegialfaaDoorQxf21
import Derived.Test.YtakhahfegialfaaDoorQxf23
import Derived.Test.YtakhahfegialfaaDoorQxf25
import Derived.Test.YtakhahfegialfaaDoorQxf27
import Derived.Test.YtakhahfegialfaaDoorQxf29
import Derived.Test.YtakhahfegialfaaDoorQxf31
import Derived.Test.YtakhahfegialfaaDoorWBMore
namespace Go.Proofs.YtakhahfegialfaaDoor.Q
open Go.RowKit Go.Proofs.YtakhahfegialfaaDoorW.PrintWords Go.Proofs.YtakhahfegialfaaDoorW.PrintLast Go.Proofs.YtakhahfegialfaaDoorW.PrintMore
attribute [local go_sem] max2_int min2_int max_two min_two max_three min_three max_four min_four   -- for this text's walks alone
set_option linter.unusedVariables false
set_option linter.unusedSimpArgs false

attribute [local go_sem] ixA29_0 ixA29_1 ixA29_2 ixA29_3   -- for this text's walks alone
attribute [local go_sem high] eqA29
/-! ### tenementlaw06_VecTells: function 3 -/
theorem Zq {p : Prop} (h : p) : Aside0 p := ⟨h⟩
theorem Zn {w : World} {g : Nat} {o : Obj} (h : w.heap[g]? = some o) (n : Nat) : (w.drewN n).heap[g]? = some o := h
theorem Zd {w : World} {g : Nat} {o : Obj} (h : w.heap[g]? = some o) : w.drew.heap[g]? = some o := h
theorem Za {w : World} {g : Nat} {o : Obj} (h : w.heap[g]? = some o) (x : Obj) : (w.alloc x).heap[g]? = some o := blk_alloc h x
theorem Zf {w : World} {g : Nat} {t : TypeId} {cs : Array Value} (h : w.heap[g]? = some (.cells cs t (0, 0))) {p : Addr} (hp : g ≠ p.block) (u : Value) : (w.setCell p u).heap[g]? = some (.cells cs t (0, 0)) := blk_far h hp u
theorem Zb {w W : World} {g : Nat} {o : Obj} (h : w.heap[g]? = some o) (hb : Below w.heap.size w W) : W.heap[g]? = some o := blk_below h hb
theorem Zw {B : Nat} {w W : World} (h : Below B w W) (n : Nat) : Below B w (W.drewN n) := pw_below_drewN h n
theorem Ze {B : Nat} {w W : World} (h : Below B w W) : Below B w W.drew := below_drew1 h
theorem Zs {w W : World} {g j : Nat} {v : Value} (h : Below w.heap.size w W) (hg : w.heap.size ≤ g) : Below w.heap.size w (W.setCell ⟨g, j, none⟩ v) := below_set h hg
def tenementlaw06_VecTells.j0 : Nat → Int → Int → Bool → Int → Int → Int → Int → Bool → Int → Int → Int → Int → Bool → Option (Bool)
  | 0, _, _, _, _, _, _, _, _, _, _, _, _, _ => none
  | k + 1, x2, x3, x11, x239000, x239001, x239002, x239003, x239004, x240000, x240001, x240002, x240003, x240004 => (tenementlaw06_Vector_vector.f k x239000 x239001 x239002 x239003 x239004).bind fun bt241 => ((tenementlaw06_Vector_vector.f k x240000 x240001 x240002 x240003 x240004).bind fun bt246 => ((vec_Join.f bt241.1 bt241.2.1 bt241.2.2.1 bt241.2.2.2 bt246.1 bt246.2.1 bt246.2.2.1 bt246.2.2.2).bind fun bt253 => ((tenementref06_Join.f k bt241.1 bt241.2.1 bt241.2.2.1 bt241.2.2.2 bt246.1 bt246.2.1 bt246.2.2.1 bt246.2.2.2).bind fun bt257 => ((vec_Meet.f bt241.1 bt241.2.1 bt241.2.2.1 bt241.2.2.2 bt246.1 bt246.2.1 bt246.2.2.1 bt246.2.2.2).bind fun bt261 => ((tenementref06_Meet.f k bt241.1 bt241.2.1 bt241.2.2.1 bt241.2.2.2 bt246.1 bt246.2.1 bt246.2.2.1 bt246.2.2.2).bind fun bt265 => ((vec_With.f bt241.1 bt241.2.1 bt241.2.2.1 bt241.2.2.2 x2 x3).bind fun bt269 => ((tenementref06_With.f bt241.1 bt241.2.1 bt241.2.2.1 bt241.2.2.2 x2 x3).bind fun bt273 => ((vec_All.f k (([(⟨bt241.1, bt241.2.1, bt241.2.2.1, bt241.2.2.2⟩ : S24), (⟨bt246.1, bt246.2.1, bt246.2.2.1, bt246.2.2.2⟩ : S24), (⟨bt241.1, bt241.2.1, bt241.2.2.1, bt241.2.2.2⟩ : S24)] : List (S24)))).bind fun bt280 => ((tenementref06_All.f k (([(⟨bt241.1, bt241.2.1, bt241.2.2.1, bt241.2.2.2⟩ : S29), (⟨bt246.1, bt246.2.1, bt246.2.2.1, bt246.2.2.2⟩ : S29), (⟨bt241.1, bt241.2.1, bt241.2.2.1, bt241.2.2.2⟩ : S29)] : List (S29)))).bind fun bt287 => (if x11 = true then (if (bt253.1 == bt257.1 && (bt253.2.1 == bt257.2.1 && (bt253.2.2.1 == bt257.2.2.1 && (bt253.2.2.2 == bt257.2.2.2)))) = true then (if (bt261.1 == bt265.1 && (bt261.2.1 == bt265.2.1 && (bt261.2.2.1 == bt265.2.2.1 && (bt261.2.2.2 == bt265.2.2.2)))) = true then (if (bt269.1 == bt273.1 && (bt269.2.1 == bt273.2.1 && (bt269.2.2.1 == bt273.2.2.1 && (bt269.2.2.2 == bt273.2.2.2)))) = true then (if (bt280.1 == bt287.1 && (bt280.2.1 == bt287.2.1 && (bt280.2.2.1 == bt287.2.2.1 && (bt280.2.2.2 == bt287.2.2.2)))) = true then ((vec_Right.f bt241.1 bt241.2.1 bt241.2.2.1 bt241.2.2.2).bind fun t291 => ((tenementref06_Right.f k bt241.1 bt241.2.1 bt241.2.2.1 bt241.2.2.2).bind fun t292 => (if t291 = t292 then ((vec_Leq.f bt241.1 bt241.2.1 bt241.2.2.1 bt241.2.2.2 bt246.1 bt246.2.1 bt246.2.2.1 bt246.2.2.2).bind fun t293 => ((tenementref06_Leq.f k bt241.1 bt241.2.1 bt241.2.2.1 bt241.2.2.2 bt246.1 bt246.2.1 bt246.2.2.1 bt246.2.2.2).bind fun t294 => (if t293 = t294 then ((vec_At.f bt241.1 bt241.2.1 bt241.2.2.1 bt241.2.2.2 x2).bind fun t295 => ((tenementref06_At.f bt241.1 bt241.2.1 bt241.2.2.1 bt241.2.2.2 x2).bind fun t296 => (if t295 = t296 then ((vec_Sum.f bt241.1 bt241.2.1 bt241.2.2.1 bt241.2.2.2).bind fun t297 => ((tenementref06_Sum.f bt241.1 bt241.2.1 bt241.2.2.1 bt241.2.2.2).bind fun t298 => (if t297 = t298 then ((vec_Put.f k bt241.1 bt241.2.1 bt241.2.2.1 bt241.2.2.2).bind fun t299 => ((tenementref06_Put.f k bt241.1 bt241.2.1 bt241.2.2.1 bt241.2.2.2).bind fun t300 => (if t299.toList = t300.toList then ((BigText.g bt241.1 bt241.2.1 bt241.2.2.1 bt241.2.2.2).bind fun t301 => ((tenementref06_Text.f k bt241.1 bt241.2.1 bt241.2.2.1 bt241.2.2.2).bind fun t302 => (if t301.toList = t302.toList then (some true) else (none)))) else (none)))) else (none)))) else (none)))) else (none)))) else (none)))) else (none)) else (none)) else (none)) else (none)) else (none)))))))))))
def tenementlaw06_VecTells.f (k : Nat) (a0_0 : Int) (a0_1 : Int) (a0_2 : Int) (a0_3 : Int) (a0_4 : Bool) (a1_0 : Int) (a1_1 : Int) (a1_2 : Int) (a1_3 : Int) (a1_4 : Bool) (a2 : Int) (a3 : Int) (a4 : Bool) : Option (Bool) := (tenementlaw06_examples.f k).bind fun t240 => (if t240 = true then (if a4 = true then (tenementlaw06_VecTells.j0 k (Int.tmod a2 7) a3 t240 a0_0 a0_1 a0_2 a0_3 a0_4 a1_0 a1_1 a1_2 a1_3 a1_4) else (tenementlaw06_VecTells.j0 k a2 a3 t240 a0_0 a0_1 a0_2 a0_3 a0_4 a1_0 a1_1 a1_2 a1_3 a1_4)) else (none))
theorem tenementlaw06_VecTells.mono_l : ∀ k, (∀ y0 y1 y2 y3 y4 y5 y6 y7 y8 y9 y10 y11 y12, LeO (tenementlaw06_VecTells.j0 k y0 y1 y2 y3 y4 y5 y6 y7 y8 y9 y10 y11 y12) (tenementlaw06_VecTells.j0 (k + 1) y0 y1 y2 y3 y4 y5 y6 y7 y8 y9 y10 y11 y12))
  | 0 => fun _ _ _ _ _ _ _ _ _ _ _ _ _ r h => by simp [tenementlaw06_VecTells.j0] at h
  | k + 1 => by
    have ih0 := tenementlaw06_VecTells.mono_l k
    · intro y0 y1 y2 y3 y4 y5 y6 y7 y8 y9 y10 y11 y12
      unfold tenementlaw06_VecTells.j0
      repeat' first
      | (with_reducible exact ih0 _ _ _ _ _ _ _ _ _ _ _ _ _)
      | (with_reducible exact tenementlaw06_Vector_vector.mono _ _ _ _ _ _)
      | (with_reducible exact tenementlaw06_examples.mono _)
      | (with_reducible exact tenementref06_All.mono _ _)
      | (with_reducible exact tenementref06_Join.mono _ _ _ _ _ _ _ _ _)
      | (with_reducible exact tenementref06_Leq.mono _ _ _ _ _ _ _ _ _)
      | (with_reducible exact tenementref06_Meet.mono _ _ _ _ _ _ _ _ _)
      | (with_reducible exact tenementref06_Put.mono _ _ _ _ _)
      | (with_reducible exact tenementref06_Right.mono _ _ _ _ _)
      | (with_reducible exact tenementref06_Text.mono _ _ _ _ _)
      | (with_reducible exact vec_All.mono _ _)
      | (with_reducible exact vec_Put.mono _ _ _ _ _)
      | (with_reducible exact LeO.refl _)
      | (with_reducible exact LeO.none _)
      | (with_reducible refine LeO.ite ?_ ?_)
      | (with_reducible refine LeO.bind ?_ (fun _ => ?_))
      | exact ih0 _ _ _ _ _ _ _ _ _ _ _ _ _
      | exact tenementlaw06_Vector_vector.mono _ _ _ _ _ _
      | exact tenementlaw06_examples.mono _
      | exact tenementref06_All.mono _ _
      | exact tenementref06_Join.mono _ _ _ _ _ _ _ _ _
      | exact tenementref06_Leq.mono _ _ _ _ _ _ _ _ _
      | exact tenementref06_Meet.mono _ _ _ _ _ _ _ _ _
      | exact tenementref06_Put.mono _ _ _ _ _
      | exact tenementref06_Right.mono _ _ _ _ _
      | exact tenementref06_Text.mono _ _ _ _ _
      | exact vec_All.mono _ _
      | exact vec_Put.mono _ _ _ _ _
      | exact LeO.none _
      | refine LeO.ite ?_ ?_
      | refine LeO.bind ?_ (fun _ => ?_)
theorem tenementlaw06_VecTells.mono : ∀ a0 a1 a2 a3 a4 a5 a6 a7 a8 a9 a10 a11 a12 k, LeO (tenementlaw06_VecTells.f k a0 a1 a2 a3 a4 a5 a6 a7 a8 a9 a10 a11 a12) (tenementlaw06_VecTells.f (k + 1) a0 a1 a2 a3 a4 a5 a6 a7 a8 a9 a10 a11 a12) := by
  intro a0 a1 a2 a3 a4 a5 a6 a7 a8 a9 a10 a11 a12 k
  have ih0 := tenementlaw06_VecTells.mono_l k
  unfold tenementlaw06_VecTells.f
  repeat' first
      | (with_reducible exact ih0 _ _ _ _ _ _ _ _ _ _ _ _ _)
      | (with_reducible exact tenementlaw06_Vector_vector.mono _ _ _ _ _ _)
      | (with_reducible exact tenementlaw06_examples.mono _)
      | (with_reducible exact tenementref06_All.mono _ _)
      | (with_reducible exact tenementref06_Join.mono _ _ _ _ _ _ _ _ _)
      | (with_reducible exact tenementref06_Leq.mono _ _ _ _ _ _ _ _ _)
      | (with_reducible exact tenementref06_Meet.mono _ _ _ _ _ _ _ _ _)
      | (with_reducible exact tenementref06_Put.mono _ _ _ _ _)
      | (with_reducible exact tenementref06_Right.mono _ _ _ _ _)
      | (with_reducible exact tenementref06_Text.mono _ _ _ _ _)
      | (with_reducible exact vec_All.mono _ _)
      | (with_reducible exact vec_Put.mono _ _ _ _ _)
      | (with_reducible exact LeO.refl _)
      | (with_reducible exact LeO.none _)
      | (with_reducible refine LeO.ite ?_ ?_)
      | (with_reducible refine LeO.bind ?_ (fun _ => ?_))
      | exact ih0 _ _ _ _ _ _ _ _ _ _ _ _ _
      | exact tenementlaw06_Vector_vector.mono _ _ _ _ _ _
      | exact tenementlaw06_examples.mono _
      | exact tenementref06_All.mono _ _
      | exact tenementref06_Join.mono _ _ _ _ _ _ _ _ _
      | exact tenementref06_Leq.mono _ _ _ _ _ _ _ _ _
      | exact tenementref06_Meet.mono _ _ _ _ _ _ _ _ _
      | exact tenementref06_Put.mono _ _ _ _ _
      | exact tenementref06_Right.mono _ _ _ _ _
      | exact tenementref06_Text.mono _ _ _ _ _
      | exact vec_All.mono _ _
      | exact vec_Put.mono _ _ _ _ _
      | exact LeO.none _
      | refine LeO.ite ?_ ?_
      | refine LeO.bind ?_ (fun _ => ?_)
def tenementlaw06_VecTells.T10 : Bool × List (List Nat × List Nat) := (true, [([], []), ([], []), ([0, 1], [0, 1]), ([], []), ([], []), ([3, 4, 2], [3, 4]), ([2, 5], [2, 5]), ([6, 5, 0, 1, 2, 3, 4, 5, 6], [6])])
def tenementlaw06_VecTells.B10 : List Nat := [0, 0, 3, 0, 0, 31, 63, 127]
theorem tenementlaw06_VecTells.tab10 : rtab .any (opsOf Tryd.f3 10) = tenementlaw06_VecTells.T10 := by kernel_rfl
theorem tenementlaw06_VecTells.bits10 : waitsOk tenementlaw06_VecTells.T10.2 tenementlaw06_VecTells.B10 = true := by kernel_rfl
def tenementlaw06_VecTells.T11 : Bool × List (List Nat × List Nat) := (true, [([], []), ([], []), ([0, 1], [0, 1]), ([], []), ([], []), ([3, 4, 2], [3, 4]), ([2, 5], [2, 5]), ([6, 5, 0, 1, 2, 3, 4, 5, 6], [6])])
def tenementlaw06_VecTells.B11 : List Nat := [0, 0, 3, 0, 0, 31, 63, 127]
theorem tenementlaw06_VecTells.tab11 : rtab .any (opsOf Tryd.f3 11) = tenementlaw06_VecTells.T11 := by kernel_rfl
theorem tenementlaw06_VecTells.bits11 : waitsOk tenementlaw06_VecTells.T11.2 tenementlaw06_VecTells.B11 = true := by kernel_rfl
def tenementlaw06_VecTells.T12 : Bool × List (List Nat × List Nat) := (true, [([], []), ([], []), ([], []), ([0, 1, 2], [0, 1, 2]), ([], []), ([], []), ([], []), ([4, 5, 6, 3], [4, 5, 6]), ([3, 7], [3, 7]), ([8, 7, 0, 1, 2, 3, 4, 5, 6, 7, 8], [8])])
def tenementlaw06_VecTells.B12 : List Nat := [0, 0, 0, 7, 0, 0, 0, 127, 255, 511]
theorem tenementlaw06_VecTells.tab12 : rtab .any (opsOf Tryd.f3 12) = tenementlaw06_VecTells.T12 := by kernel_rfl
theorem tenementlaw06_VecTells.bits12 : waitsOk tenementlaw06_VecTells.T12.2 tenementlaw06_VecTells.B12 = true := by kernel_rfl
def tenementlaw06_VecTells.T13 : Bool × List (List Nat × List Nat) := (true, [([], []), ([], []), ([], []), ([0, 1, 2], [0, 1, 2]), ([3], [3]), ([], []), ([], []), ([], []), ([5, 6, 7], [5, 6, 7]), ([8, 4], [8]), ([4, 9], [4, 9]), ([10, 9, 0, 1, 2, 3, 4, 5, 6, 7, 8, 9, 10], [10])])
def tenementlaw06_VecTells.B13 : List Nat := [0, 0, 0, 7, 15, 0, 0, 0, 224, 511, 1023, 2047]
theorem tenementlaw06_VecTells.tab13 : rtab .any (opsOf Tryd.f3 13) = tenementlaw06_VecTells.T13 := by kernel_rfl
theorem tenementlaw06_VecTells.bits13 : waitsOk tenementlaw06_VecTells.T13.2 tenementlaw06_VecTells.B13 = true := by kernel_rfl
def tenementlaw06_VecTells.T14 : Bool × List (List Nat × List Nat) := (true, [([], []), ([0], [0]), ([1], [1]), ([1, 2], [1, 2]), ([3, 1], [3]), ([4], [4]), ([4, 5], [4, 5]), ([6, 4], [6]), ([7], [7]), ([7, 8], [7, 8]), ([9, 7], [9]), ([10], [10]), ([10, 11], [10, 11]), ([12, 10], [12]), ([13], [13]), ([14, 13, 13], [13, 14]), ([13], [13]), ([16, 15, 13], [13, 16]), ([15, 17, 13], [13, 15, 17]), ([13, 18], [13, 18]), ([19, 17], [19]), ([20], [20]), ([20], [20]), ([21, 22, 20, 20], [20, 21, 22]), ([20], [20]), ([20], [20]), ([24, 25, 23, 20], [20, 24, 25]), ([23, 26, 20], [20, 23, 26]), ([20, 27], [20, 27]), ([28, 26], [28]), ([29], [29]), ([29], [29]), ([30, 31, 29, 29], [29, 30, 31]), ([29], [29]), ([29], [29]), ([33, 34, 32, 29], [29, 33, 34]), ([32, 35, 29], [29, 32, 35]), ([29, 36], [29, 36]), ([37, 35], [37]), ([38], [38]), ([39, 38, 38], [38, 39]), ([38], [38]), ([41, 40, 38], [38, 41]), ([40, 42, 38], [38, 40, 42]), ([38, 43], [38, 43]), ([44, 42], [44]), ([45], [45]), ([46, 45, 45], [45, 46]), ([45], [45]), ([48, 47, 45], [45, 48]), ([47, 49, 45], [45, 47, 49]), ([45, 50], [45, 50]), ([51, 49], [51]), ([52], [52]), ([53, 52, 52], [52, 53]), ([52], [52]), ([55, 54, 52], [52, 55]), ([54, 56, 52], [52, 54, 56]), ([52, 57], [52, 57]), ([58, 56, 0, 1, 2, 3, 4, 5, 6, 7, 8, 9, 10, 11, 12, 13, 14, 15, 16, 17, 18, 19, 20, 21, 22, 23, 24, 25, 26, 27, 28, 29, 30, 31, 32, 33, 34, 35, 36, 37, 38, 39, 40, 41, 42, 43, 44, 45, 46, 47, 48, 49, 50, 51, 52, 53, 54, 55, 56, 57, 58], [58])])
def tenementlaw06_VecTells.B14 : List Nat := [0, 1, 3, 7, 15, 31, 63, 127, 255, 511, 1023, 2047, 4095, 8191, 16383, 32767, 16383, 131071, 262143, 524287, 1048575, 2097151, 2097151, 8388607, 2097151, 2097151, 67108863, 134217727, 268435455, 536870911, 1073741823, 1073741823, 4294967295, 1073741823, 1073741823, 34359738367, 68719476735, 137438953471, 274877906943, 549755813887, 1099511627775, 549755813887, 4398046511103, 8796093022207, 17592186044415, 35184372088831, 70368744177663, 140737488355327, 70368744177663, 562949953421311, 1125899906842623, 2251799813685247, 4503599627370495, 9007199254740991, 18014398509481983, 9007199254740991, 72057594037927935, 144115188075855871, 288230376151711743, 576460752303423487]
theorem tenementlaw06_VecTells.tab14 : rtab .any (opsOf Tryd.f3 14) = tenementlaw06_VecTells.T14 := by kernel_rfl
theorem tenementlaw06_VecTells.bits14 : waitsOk tenementlaw06_VecTells.T14.2 tenementlaw06_VecTells.B14 = true := by kernel_rfl
set_option maxHeartbeats 8000000 in
set_option maxRecDepth 100000 in
theorem tenementlaw06_VecTells.calls (k : Nat) (a0_0 : Int) (a0_1 : Int) (a0_2 : Int) (a0_3 : Int) (a0_4 : Bool) (a1_0 : Int) (a1_1 : Int) (a1_2 : Int) (a1_3 : Int) (a1_4 : Bool) (a2 : Int) (a3 : Int) (a4 : Bool) (r : Bool) (w : World) (HT : BigText.Tab w) (h : tenementlaw06_VecTells.f k a0_0 a0_1 a0_2 a0_3 a0_4 a1_0 a1_1 a1_2 a1_3 a1_4 a2 a3 a4 = some r) :
    Calls Tryd.prog 3 #[.agg #[.int .u64 a0_0, .int .u64 a0_1, .int .u64 a0_2, .int .u64 a0_3, .bool a0_4], .agg #[.int .u64 a1_0, .int .u64 a1_1, .int .u64 a1_2, .int .u64 a1_3, .bool a1_4], .int .i64 a2, .int .u64 a3, .bool a4] w fun e w' => e = .returned (.bool r) ∧ Below w.heap.size w w' := by
  have hu26 := Tryd.underlying26
  have hu24 := Tryd.underlying24
  have hu29 := Tryd.underlying29
  have HB := Zq (Below.refl w.heap.size w)
  have H : ((tenementlaw06_examples.f k).bind fun t240 => (if t240 = true then (if a4 = true then (tenementlaw06_VecTells.j0 k (Int.tmod a2 7) a3 t240 a0_0 a0_1 a0_2 a0_3 a0_4 a1_0 a1_1 a1_2 a1_3 a1_4) else (tenementlaw06_VecTells.j0 k a2 a3 t240 a0_0 a0_1 a0_2 a0_3 a0_4 a1_0 a1_1 a1_2 a1_3 a1_4)) else (none))) = some r := h
  clear h
  replace H := Option.bind_eq_some_iff.mp H
  obtain ⟨t240, A60, H⟩ := H
  replace H : (if t240 = true then (if a4 = true then (tenementlaw06_VecTells.j0 k (Int.tmod a2 7) a3 t240 a0_0 a0_1 a0_2 a0_3 a0_4 a1_0 a1_1 a1_2 a1_3 a1_4) else (tenementlaw06_VecTells.j0 k a2 a3 t240 a0_0 a0_1 a0_2 a0_3 a0_4 a1_0 a1_1 a1_2 a1_3 a1_4)) else (none)) = some r := H
  have A6 := Zq A60
  clear A60
  by_cases c7 : t240 = true
  rotate_left
  · replace c7 := Bool.eq_false_iff.mpr c7
    subst c7
    have H1 : (none) = some r := by rw [if_neg (show ¬ (false = true) by decide)] at H; exact H
    clear H
    have H := H1
    clear H1
    exact absurd H (by simp)
  subst c7
  have H1 : (if a4 = true then (tenementlaw06_VecTells.j0 k (Int.tmod a2 7) a3 true a0_0 a0_1 a0_2 a0_3 a0_4 a1_0 a1_1 a1_2 a1_3 a1_4) else (tenementlaw06_VecTells.j0 k a2 a3 true a0_0 a0_1 a0_2 a0_3 a0_4 a1_0 a1_1 a1_2 a1_3 a1_4)) = some r := by rw [if_pos rfl] at H; exact H
  clear H
  have H := H1
  clear H1
  have HC8 := Zq H
  clear H
  go_enter Tryd.func3, Tryd.ntmps3
  go_upto_if 23 with (first | ((with_reducible refine gate_dst (N := 5) rfl ?_); refine box_event ?hg (N := 5) ?hd (cs := #[.int .u64 a0_0, .int .u64 a0_1, .int .u64 a0_2, .int .u64 a0_3, .bool a0_4]) (t := 26) ?hr ?_; (case hd => rfl); (case hg => rfl); (case hr => first | (go_simp; done) | (go_simp; rfl)); intro gb238 hg w9 hbox hb; have n0_ := Zq (below_step (by repeat (first | (with_reducible first | exact HB.out | apply below_alloc | apply Zw | apply Ze) | exact HB.out)) hb); have n1_ := Zq (hbox); have n2_ := Zq ((by rw [hg]; exact (below_size (by repeat (first | (with_reducible first | exact HB.out | apply below_alloc | apply Zw | apply Ze) | exact HB.out))) : w.heap.size ≤ gb238)); have n3_ := Zq ((by rw [hg]; exact (below_size (by repeat (first | (with_reducible first | exact HB.out | apply below_alloc | apply Zw | apply Ze) | exact HB.out))) : w.heap.size ≤ gb238)); clear HB; have HB := n0_; have BK238 := n1_; have GW238 := n2_; have GE238 := n3_; clear n0_ n1_ n2_ n3_; clear hb hbox hg) | ((with_reducible refine gate_dst (N := 6) rfl ?_); refine box_event ?hg (N := 6) ?hd (cs := #[.int .u64 a1_0, .int .u64 a1_1, .int .u64 a1_2, .int .u64 a1_3, .bool a1_4]) (t := 26) ?hr ?_; (case hd => rfl); (case hg => rfl); (case hr => first | (go_simp; done) | (go_simp; rfl)); intro gb239 hg w10 hbox hb; have n0_ := Zq (Zb (g := gb238) (o := .cells #[.int .u64 a0_0, .int .u64 a0_1, .int .u64 a0_2, .int .u64 a0_3, .bool a0_4] 26 (0, 0)) (by (with_reducible repeat (first | refine Zn ?_ _ | refine Zd ?_ | refine Za ?_ _)); exact BK238.out) hb); have n1_ := Zq (below_step (by repeat (first | (with_reducible first | exact HB.out | apply below_alloc | apply Zw | apply Ze | refine Zs ?_ GE238.out) | exact HB.out)) hb); have n2_ := Zq (hbox); have n3_ := Zq ((by rw [hg]; exact (below_size (by repeat (first | (with_reducible first | exact HB.out | apply below_alloc | apply Zw | apply Ze | refine Zs ?_ GE238.out) | exact HB.out))) : w.heap.size ≤ gb239)); have n4_ := Zq ((by rw [hg]; exact (below_size (by repeat (first | (with_reducible first | exact HB.out | apply below_alloc | apply Zw | apply Ze | refine Zs ?_ GE238.out) | exact HB.out))) : w.heap.size ≤ gb239)); have n5_ := Zq ((by rw [hg]; exact Nat.ne_of_lt (blk_lt (g := gb238) (o := .cells #[.int .u64 a0_0, .int .u64 a0_1, .int .u64 a0_2, .int .u64 a0_3, .bool a0_4] 26 (0, 0)) (by (with_reducible repeat (first | refine Zn ?_ _ | refine Zd ?_ | refine Za ?_ _)); exact BK238.out)) : gb238 ≠ gb239)); have n6_ := Zq ((by rw [hg]; exact Nat.ne_of_gt (blk_lt (g := gb238) (o := .cells #[.int .u64 a0_0, .int .u64 a0_1, .int .u64 a0_2, .int .u64 a0_3, .bool a0_4] 26 (0, 0)) (by (with_reducible repeat (first | refine Zn ?_ _ | refine Zd ?_ | refine Za ?_ _)); exact BK238.out)) : gb239 ≠ gb238)); clear BK238; clear HB; have BK238 := n0_; have HB := n1_; have BK239 := n2_; have GW239 := n3_; have GE239 := n4_; have NB238_239 := n5_; have NB239_238 := n6_; clear n0_ n1_ n2_ n3_ n4_ n5_ n6_; clear hb hbox hg) | ((with_reducible refine gate_callee (f := 10) rfl ?_); refine goesL_ (some 20) rfl rfl Tryd.func10 (by kernel_rfl) rfl #[] rfl (by (try simp only [List.map_toArray, List.map_cons, List.map_nil]); first | done | rfl | (simp only [List.length_drop, List.length_take]; rfl)) ?_; (with_reducible refine (tenementlaw06_examples.calls k  true _ A6.out).mono ?_); rintro e w11 ⟨rfl, hb⟩; refine ⟨_, rfl, ?_⟩; have n0_ := Zq (Zb (g := gb238) (o := .cells #[.int .u64 a0_0, .int .u64 a0_1, .int .u64 a0_2, .int .u64 a0_3, .bool a0_4] 26 (0, 0)) (by (with_reducible repeat (first | refine Zn ?_ _ | refine Zd ?_ | refine Za ?_ _)); exact BK238.out) hb); have n1_ := Zq (Zb (g := gb239) (o := .cells #[.int .u64 a1_0, .int .u64 a1_1, .int .u64 a1_2, .int .u64 a1_3, .bool a1_4] 26 (0, 0)) (by (with_reducible repeat (first | refine Zn ?_ _ | refine Zd ?_ | refine Za ?_ _)); exact BK239.out) hb); have n2_ := Zq (below_step (by repeat (first | (with_reducible first | exact HB.out | apply below_alloc | apply Zw | apply Ze | refine Zs ?_ GE238.out | refine Zs ?_ GE239.out) | exact HB.out)) hb); clear BK238; clear BK239; clear HB; have BK238 := n0_; have BK239 := n1_; have HB := n2_; clear n0_ n1_ n2_; (try clear hb); (try clear hb2); (try clear hk); (try clear hi)))
  (try simp only [Act.put, List.setIfInBounds_toArray, List.set_cons_zero, List.set_cons_succ])
  go_cut [2] (fun v2 wc => ∃ (kq : Nat) (x2_7 : Int), v2 = .int .i64 x2_7 ∧ Aside0 (tenementlaw06_VecTells.j0 kq x2_7 a3 true a0_0 a0_1 a0_2 a0_3 a0_4 a1_0 a1_1 a1_2 a1_3 a1_4 = some r) ∧ Aside0 (kq ≤ k) ∧ Aside0 (wc.heap[gb238]? = some (.cells #[.int .u64 a0_0, .int .u64 a0_1, .int .u64 a0_2, .int .u64 a0_3, .bool a0_4] 26 (0, 0))) ∧ Aside0 (wc.heap[gb239]? = some (.cells #[.int .u64 a1_0, .int .u64 a1_1, .int .u64 a1_2, .int .u64 a1_3, .bool a1_4] 26 (0, 0))) ∧ Aside0 (Below w.heap.size w wc))
  case first =>
    have H := HC8.out
    clear HC8
    by_cases c12 : a4 = true
    · subst c12
      have H1 : (tenementlaw06_VecTells.j0 k (Int.tmod a2 7) a3 true a0_0 a0_1 a0_2 a0_3 a0_4 a1_0 a1_1 a1_2 a1_3 a1_4) = some r := by rw [if_pos rfl] at H; exact H
      clear H
      have H := H1
      clear H1
      have H' := Zq H
      clear H
      go_wp2
      go_meet
      case rel => exact ⟨_, (Int.tmod a2 7), (by first | rfl | (simp; done) | (simp [*]; done)), H', ⟨by first | omega | exact Nat.le_refl _⟩, ⟨by (with_reducible repeat (first | refine Zn ?_ _ | refine Zd ?_ | refine Za ?_ _)); exact BK238.out⟩, ⟨by (with_reducible repeat (first | refine Zn ?_ _ | refine Zd ?_ | refine Za ?_ _)); exact BK239.out⟩, ⟨by repeat (first | (with_reducible first | exact HB.out | apply below_alloc | apply Zw | apply Ze | refine Zs ?_ GE238.out | refine Zs ?_ GE239.out) | exact HB.out)⟩⟩
    replace c12 := Bool.eq_false_iff.mpr c12
    subst c12
    have H1 : (tenementlaw06_VecTells.j0 k a2 a3 true a0_0 a0_1 a0_2 a0_3 a0_4 a1_0 a1_1 a1_2 a1_3 a1_4) = some r := by rw [if_neg (show ¬ (false = true) by decide)] at H; exact H
    clear H
    have H := H1
    clear H1
    have H' := Zq H
    clear H
    go_wp2
    go_meet
    case rel => exact ⟨_, (a2), (by first | rfl | (simp; done) | (simp [*]; done)), H', ⟨by first | omega | exact Nat.le_refl _⟩, ⟨by (with_reducible repeat (first | refine Zn ?_ _ | refine Zd ?_ | refine Za ?_ _)); exact BK238.out⟩, ⟨by (with_reducible repeat (first | refine Zn ?_ _ | refine Zd ?_ | refine Za ?_ _)); exact BK239.out⟩, ⟨by repeat (first | (with_reducible first | exact HB.out | apply below_alloc | apply Zw | apply Ze | refine Zs ?_ GE238.out | refine Zs ?_ GE239.out) | exact HB.out)⟩⟩
  case rest =>
    clear HC8
    try clear c1
    try clear p2
    try clear c3
    try clear c7
    try clear c10
    try clear c12
    obtain ⟨kq, x2_7, rfl, HA, HJ7, BK238, BK239, HB⟩ := hcut
    cases kq with
    | zero => exact absurd HA.out (by simp [tenementlaw06_VecTells.j0])
    | succ kj7 =>
      have H := HA.out
      clear HA
      simp only [tenementlaw06_VecTells.j0] at H
      replace H := Option.bind_eq_some_iff.mp H
      obtain ⟨⟨t241, t242, t243, t244⟩, A130, H⟩ := H
      replace H : ((tenementlaw06_Vector_vector.f kj7 a1_0 a1_1 a1_2 a1_3 a1_4).bind fun bt246 => ((vec_Join.f t241 t242 t243 t244 bt246.1 bt246.2.1 bt246.2.2.1 bt246.2.2.2).bind fun bt253 => ((tenementref06_Join.f kj7 t241 t242 t243 t244 bt246.1 bt246.2.1 bt246.2.2.1 bt246.2.2.2).bind fun bt257 => ((vec_Meet.f t241 t242 t243 t244 bt246.1 bt246.2.1 bt246.2.2.1 bt246.2.2.2).bind fun bt261 => ((tenementref06_Meet.f kj7 t241 t242 t243 t244 bt246.1 bt246.2.1 bt246.2.2.1 bt246.2.2.2).bind fun bt265 => ((vec_With.f t241 t242 t243 t244 x2_7 a3).bind fun bt269 => ((tenementref06_With.f t241 t242 t243 t244 x2_7 a3).bind fun bt273 => ((vec_All.f kj7 (([(⟨t241, t242, t243, t244⟩ : S24), (⟨bt246.1, bt246.2.1, bt246.2.2.1, bt246.2.2.2⟩ : S24), (⟨t241, t242, t243, t244⟩ : S24)] : List (S24)))).bind fun bt280 => ((tenementref06_All.f kj7 (([(⟨t241, t242, t243, t244⟩ : S29), (⟨bt246.1, bt246.2.1, bt246.2.2.1, bt246.2.2.2⟩ : S29), (⟨t241, t242, t243, t244⟩ : S29)] : List (S29)))).bind fun bt287 => (if true = true then (if (bt253.1 == bt257.1 && (bt253.2.1 == bt257.2.1 && (bt253.2.2.1 == bt257.2.2.1 && (bt253.2.2.2 == bt257.2.2.2)))) = true then (if (bt261.1 == bt265.1 && (bt261.2.1 == bt265.2.1 && (bt261.2.2.1 == bt265.2.2.1 && (bt261.2.2.2 == bt265.2.2.2)))) = true then (if (bt269.1 == bt273.1 && (bt269.2.1 == bt273.2.1 && (bt269.2.2.1 == bt273.2.2.1 && (bt269.2.2.2 == bt273.2.2.2)))) = true then (if (bt280.1 == bt287.1 && (bt280.2.1 == bt287.2.1 && (bt280.2.2.1 == bt287.2.2.1 && (bt280.2.2.2 == bt287.2.2.2)))) = true then ((vec_Right.f t241 t242 t243 t244).bind fun t291 => ((tenementref06_Right.f kj7 t241 t242 t243 t244).bind fun t292 => (if t291 = t292 then ((vec_Leq.f t241 t242 t243 t244 bt246.1 bt246.2.1 bt246.2.2.1 bt246.2.2.2).bind fun t293 => ((tenementref06_Leq.f kj7 t241 t242 t243 t244 bt246.1 bt246.2.1 bt246.2.2.1 bt246.2.2.2).bind fun t294 => (if t293 = t294 then ((vec_At.f t241 t242 t243 t244 x2_7).bind fun t295 => ((tenementref06_At.f t241 t242 t243 t244 x2_7).bind fun t296 => (if t295 = t296 then ((vec_Sum.f t241 t242 t243 t244).bind fun t297 => ((tenementref06_Sum.f t241 t242 t243 t244).bind fun t298 => (if t297 = t298 then ((vec_Put.f kj7 t241 t242 t243 t244).bind fun t299 => ((tenementref06_Put.f kj7 t241 t242 t243 t244).bind fun t300 => (if t299.toList = t300.toList then ((BigText.g t241 t242 t243 t244).bind fun t301 => ((tenementref06_Text.f kj7 t241 t242 t243 t244).bind fun t302 => (if t301.toList = t302.toList then (some true) else (none)))) else (none)))) else (none)))) else (none)))) else (none)))) else (none)))) else (none)) else (none)) else (none)) else (none)) else (none))))))))))) = some r := H
      have A13 := Zq A130
      clear A130
      replace H := Option.bind_eq_some_iff.mp H
      obtain ⟨⟨t246, t247, t248, t249⟩, A140, H⟩ := H
      replace H : ((vec_Join.f t241 t242 t243 t244 t246 t247 t248 t249).bind fun bt253 => ((tenementref06_Join.f kj7 t241 t242 t243 t244 t246 t247 t248 t249).bind fun bt257 => ((vec_Meet.f t241 t242 t243 t244 t246 t247 t248 t249).bind fun bt261 => ((tenementref06_Meet.f kj7 t241 t242 t243 t244 t246 t247 t248 t249).bind fun bt265 => ((vec_With.f t241 t242 t243 t244 x2_7 a3).bind fun bt269 => ((tenementref06_With.f t241 t242 t243 t244 x2_7 a3).bind fun bt273 => ((vec_All.f kj7 (([(⟨t241, t242, t243, t244⟩ : S24), (⟨t246, t247, t248, t249⟩ : S24), (⟨t241, t242, t243, t244⟩ : S24)] : List (S24)))).bind fun bt280 => ((tenementref06_All.f kj7 (([(⟨t241, t242, t243, t244⟩ : S29), (⟨t246, t247, t248, t249⟩ : S29), (⟨t241, t242, t243, t244⟩ : S29)] : List (S29)))).bind fun bt287 => (if true = true then (if (bt253.1 == bt257.1 && (bt253.2.1 == bt257.2.1 && (bt253.2.2.1 == bt257.2.2.1 && (bt253.2.2.2 == bt257.2.2.2)))) = true then (if (bt261.1 == bt265.1 && (bt261.2.1 == bt265.2.1 && (bt261.2.2.1 == bt265.2.2.1 && (bt261.2.2.2 == bt265.2.2.2)))) = true then (if (bt269.1 == bt273.1 && (bt269.2.1 == bt273.2.1 && (bt269.2.2.1 == bt273.2.2.1 && (bt269.2.2.2 == bt273.2.2.2)))) = true then (if (bt280.1 == bt287.1 && (bt280.2.1 == bt287.2.1 && (bt280.2.2.1 == bt287.2.2.1 && (bt280.2.2.2 == bt287.2.2.2)))) = true then ((vec_Right.f t241 t242 t243 t244).bind fun t291 => ((tenementref06_Right.f kj7 t241 t242 t243 t244).bind fun t292 => (if t291 = t292 then ((vec_Leq.f t241 t242 t243 t244 t246 t247 t248 t249).bind fun t293 => ((tenementref06_Leq.f kj7 t241 t242 t243 t244 t246 t247 t248 t249).bind fun t294 => (if t293 = t294 then ((vec_At.f t241 t242 t243 t244 x2_7).bind fun t295 => ((tenementref06_At.f t241 t242 t243 t244 x2_7).bind fun t296 => (if t295 = t296 then ((vec_Sum.f t241 t242 t243 t244).bind fun t297 => ((tenementref06_Sum.f t241 t242 t243 t244).bind fun t298 => (if t297 = t298 then ((vec_Put.f kj7 t241 t242 t243 t244).bind fun t299 => ((tenementref06_Put.f kj7 t241 t242 t243 t244).bind fun t300 => (if t299.toList = t300.toList then ((BigText.g t241 t242 t243 t244).bind fun t301 => ((tenementref06_Text.f kj7 t241 t242 t243 t244).bind fun t302 => (if t301.toList = t302.toList then (some true) else (none)))) else (none)))) else (none)))) else (none)))) else (none)))) else (none)))) else (none)) else (none)) else (none)) else (none)) else (none)))))))))) = some r := H
      have A14 := Zq A140
      clear A140
      replace H := Option.bind_eq_some_iff.mp H
      obtain ⟨⟨t253, t254, t255, t256⟩, A150, H⟩ := H
      replace H : ((tenementref06_Join.f kj7 t241 t242 t243 t244 t246 t247 t248 t249).bind fun bt257 => ((vec_Meet.f t241 t242 t243 t244 t246 t247 t248 t249).bind fun bt261 => ((tenementref06_Meet.f kj7 t241 t242 t243 t244 t246 t247 t248 t249).bind fun bt265 => ((vec_With.f t241 t242 t243 t244 x2_7 a3).bind fun bt269 => ((tenementref06_With.f t241 t242 t243 t244 x2_7 a3).bind fun bt273 => ((vec_All.f kj7 (([(⟨t241, t242, t243, t244⟩ : S24), (⟨t246, t247, t248, t249⟩ : S24), (⟨t241, t242, t243, t244⟩ : S24)] : List (S24)))).bind fun bt280 => ((tenementref06_All.f kj7 (([(⟨t241, t242, t243, t244⟩ : S29), (⟨t246, t247, t248, t249⟩ : S29), (⟨t241, t242, t243, t244⟩ : S29)] : List (S29)))).bind fun bt287 => (if true = true then (if (t253 == bt257.1 && (t254 == bt257.2.1 && (t255 == bt257.2.2.1 && (t256 == bt257.2.2.2)))) = true then (if (bt261.1 == bt265.1 && (bt261.2.1 == bt265.2.1 && (bt261.2.2.1 == bt265.2.2.1 && (bt261.2.2.2 == bt265.2.2.2)))) = true then (if (bt269.1 == bt273.1 && (bt269.2.1 == bt273.2.1 && (bt269.2.2.1 == bt273.2.2.1 && (bt269.2.2.2 == bt273.2.2.2)))) = true then (if (bt280.1 == bt287.1 && (bt280.2.1 == bt287.2.1 && (bt280.2.2.1 == bt287.2.2.1 && (bt280.2.2.2 == bt287.2.2.2)))) = true then ((vec_Right.f t241 t242 t243 t244).bind fun t291 => ((tenementref06_Right.f kj7 t241 t242 t243 t244).bind fun t292 => (if t291 = t292 then ((vec_Leq.f t241 t242 t243 t244 t246 t247 t248 t249).bind fun t293 => ((tenementref06_Leq.f kj7 t241 t242 t243 t244 t246 t247 t248 t249).bind fun t294 => (if t293 = t294 then ((vec_At.f t241 t242 t243 t244 x2_7).bind fun t295 => ((tenementref06_At.f t241 t242 t243 t244 x2_7).bind fun t296 => (if t295 = t296 then ((vec_Sum.f t241 t242 t243 t244).bind fun t297 => ((tenementref06_Sum.f t241 t242 t243 t244).bind fun t298 => (if t297 = t298 then ((vec_Put.f kj7 t241 t242 t243 t244).bind fun t299 => ((tenementref06_Put.f kj7 t241 t242 t243 t244).bind fun t300 => (if t299.toList = t300.toList then ((BigText.g t241 t242 t243 t244).bind fun t301 => ((tenementref06_Text.f kj7 t241 t242 t243 t244).bind fun t302 => (if t301.toList = t302.toList then (some true) else (none)))) else (none)))) else (none)))) else (none)))) else (none)))) else (none)))) else (none)) else (none)) else (none)) else (none)) else (none))))))))) = some r := H
      have A15 := Zq A150
      clear A150
      replace H := Option.bind_eq_some_iff.mp H
      obtain ⟨⟨t257, t258, t259, t260⟩, A160, H⟩ := H
      replace H : ((vec_Meet.f t241 t242 t243 t244 t246 t247 t248 t249).bind fun bt261 => ((tenementref06_Meet.f kj7 t241 t242 t243 t244 t246 t247 t248 t249).bind fun bt265 => ((vec_With.f t241 t242 t243 t244 x2_7 a3).bind fun bt269 => ((tenementref06_With.f t241 t242 t243 t244 x2_7 a3).bind fun bt273 => ((vec_All.f kj7 (([(⟨t241, t242, t243, t244⟩ : S24), (⟨t246, t247, t248, t249⟩ : S24), (⟨t241, t242, t243, t244⟩ : S24)] : List (S24)))).bind fun bt280 => ((tenementref06_All.f kj7 (([(⟨t241, t242, t243, t244⟩ : S29), (⟨t246, t247, t248, t249⟩ : S29), (⟨t241, t242, t243, t244⟩ : S29)] : List (S29)))).bind fun bt287 => (if true = true then (if (t253 == t257 && (t254 == t258 && (t255 == t259 && (t256 == t260)))) = true then (if (bt261.1 == bt265.1 && (bt261.2.1 == bt265.2.1 && (bt261.2.2.1 == bt265.2.2.1 && (bt261.2.2.2 == bt265.2.2.2)))) = true then (if (bt269.1 == bt273.1 && (bt269.2.1 == bt273.2.1 && (bt269.2.2.1 == bt273.2.2.1 && (bt269.2.2.2 == bt273.2.2.2)))) = true then (if (bt280.1 == bt287.1 && (bt280.2.1 == bt287.2.1 && (bt280.2.2.1 == bt287.2.2.1 && (bt280.2.2.2 == bt287.2.2.2)))) = true then ((vec_Right.f t241 t242 t243 t244).bind fun t291 => ((tenementref06_Right.f kj7 t241 t242 t243 t244).bind fun t292 => (if t291 = t292 then ((vec_Leq.f t241 t242 t243 t244 t246 t247 t248 t249).bind fun t293 => ((tenementref06_Leq.f kj7 t241 t242 t243 t244 t246 t247 t248 t249).bind fun t294 => (if t293 = t294 then ((vec_At.f t241 t242 t243 t244 x2_7).bind fun t295 => ((tenementref06_At.f t241 t242 t243 t244 x2_7).bind fun t296 => (if t295 = t296 then ((vec_Sum.f t241 t242 t243 t244).bind fun t297 => ((tenementref06_Sum.f t241 t242 t243 t244).bind fun t298 => (if t297 = t298 then ((vec_Put.f kj7 t241 t242 t243 t244).bind fun t299 => ((tenementref06_Put.f kj7 t241 t242 t243 t244).bind fun t300 => (if t299.toList = t300.toList then ((BigText.g t241 t242 t243 t244).bind fun t301 => ((tenementref06_Text.f kj7 t241 t242 t243 t244).bind fun t302 => (if t301.toList = t302.toList then (some true) else (none)))) else (none)))) else (none)))) else (none)))) else (none)))) else (none)))) else (none)) else (none)) else (none)) else (none)) else (none)))))))) = some r := H
      have A16 := Zq A160
      clear A160
      replace H := Option.bind_eq_some_iff.mp H
      obtain ⟨⟨t261, t262, t263, t264⟩, A170, H⟩ := H
      replace H : ((tenementref06_Meet.f kj7 t241 t242 t243 t244 t246 t247 t248 t249).bind fun bt265 => ((vec_With.f t241 t242 t243 t244 x2_7 a3).bind fun bt269 => ((tenementref06_With.f t241 t242 t243 t244 x2_7 a3).bind fun bt273 => ((vec_All.f kj7 (([(⟨t241, t242, t243, t244⟩ : S24), (⟨t246, t247, t248, t249⟩ : S24), (⟨t241, t242, t243, t244⟩ : S24)] : List (S24)))).bind fun bt280 => ((tenementref06_All.f kj7 (([(⟨t241, t242, t243, t244⟩ : S29), (⟨t246, t247, t248, t249⟩ : S29), (⟨t241, t242, t243, t244⟩ : S29)] : List (S29)))).bind fun bt287 => (if true = true then (if (t253 == t257 && (t254 == t258 && (t255 == t259 && (t256 == t260)))) = true then (if (t261 == bt265.1 && (t262 == bt265.2.1 && (t263 == bt265.2.2.1 && (t264 == bt265.2.2.2)))) = true then (if (bt269.1 == bt273.1 && (bt269.2.1 == bt273.2.1 && (bt269.2.2.1 == bt273.2.2.1 && (bt269.2.2.2 == bt273.2.2.2)))) = true then (if (bt280.1 == bt287.1 && (bt280.2.1 == bt287.2.1 && (bt280.2.2.1 == bt287.2.2.1 && (bt280.2.2.2 == bt287.2.2.2)))) = true then ((vec_Right.f t241 t242 t243 t244).bind fun t291 => ((tenementref06_Right.f kj7 t241 t242 t243 t244).bind fun t292 => (if t291 = t292 then ((vec_Leq.f t241 t242 t243 t244 t246 t247 t248 t249).bind fun t293 => ((tenementref06_Leq.f kj7 t241 t242 t243 t244 t246 t247 t248 t249).bind fun t294 => (if t293 = t294 then ((vec_At.f t241 t242 t243 t244 x2_7).bind fun t295 => ((tenementref06_At.f t241 t242 t243 t244 x2_7).bind fun t296 => (if t295 = t296 then ((vec_Sum.f t241 t242 t243 t244).bind fun t297 => ((tenementref06_Sum.f t241 t242 t243 t244).bind fun t298 => (if t297 = t298 then ((vec_Put.f kj7 t241 t242 t243 t244).bind fun t299 => ((tenementref06_Put.f kj7 t241 t242 t243 t244).bind fun t300 => (if t299.toList = t300.toList then ((BigText.g t241 t242 t243 t244).bind fun t301 => ((tenementref06_Text.f kj7 t241 t242 t243 t244).bind fun t302 => (if t301.toList = t302.toList then (some true) else (none)))) else (none)))) else (none)))) else (none)))) else (none)))) else (none)))) else (none)) else (none)) else (none)) else (none)) else (none))))))) = some r := H
      have A17 := Zq A170
      clear A170
      replace H := Option.bind_eq_some_iff.mp H
      obtain ⟨⟨t265, t266, t267, t268⟩, A180, H⟩ := H
      replace H : ((vec_With.f t241 t242 t243 t244 x2_7 a3).bind fun bt269 => ((tenementref06_With.f t241 t242 t243 t244 x2_7 a3).bind fun bt273 => ((vec_All.f kj7 (([(⟨t241, t242, t243, t244⟩ : S24), (⟨t246, t247, t248, t249⟩ : S24), (⟨t241, t242, t243, t244⟩ : S24)] : List (S24)))).bind fun bt280 => ((tenementref06_All.f kj7 (([(⟨t241, t242, t243, t244⟩ : S29), (⟨t246, t247, t248, t249⟩ : S29), (⟨t241, t242, t243, t244⟩ : S29)] : List (S29)))).bind fun bt287 => (if true = true then (if (t253 == t257 && (t254 == t258 && (t255 == t259 && (t256 == t260)))) = true then (if (t261 == t265 && (t262 == t266 && (t263 == t267 && (t264 == t268)))) = true then (if (bt269.1 == bt273.1 && (bt269.2.1 == bt273.2.1 && (bt269.2.2.1 == bt273.2.2.1 && (bt269.2.2.2 == bt273.2.2.2)))) = true then (if (bt280.1 == bt287.1 && (bt280.2.1 == bt287.2.1 && (bt280.2.2.1 == bt287.2.2.1 && (bt280.2.2.2 == bt287.2.2.2)))) = true then ((vec_Right.f t241 t242 t243 t244).bind fun t291 => ((tenementref06_Right.f kj7 t241 t242 t243 t244).bind fun t292 => (if t291 = t292 then ((vec_Leq.f t241 t242 t243 t244 t246 t247 t248 t249).bind fun t293 => ((tenementref06_Leq.f kj7 t241 t242 t243 t244 t246 t247 t248 t249).bind fun t294 => (if t293 = t294 then ((vec_At.f t241 t242 t243 t244 x2_7).bind fun t295 => ((tenementref06_At.f t241 t242 t243 t244 x2_7).bind fun t296 => (if t295 = t296 then ((vec_Sum.f t241 t242 t243 t244).bind fun t297 => ((tenementref06_Sum.f t241 t242 t243 t244).bind fun t298 => (if t297 = t298 then ((vec_Put.f kj7 t241 t242 t243 t244).bind fun t299 => ((tenementref06_Put.f kj7 t241 t242 t243 t244).bind fun t300 => (if t299.toList = t300.toList then ((BigText.g t241 t242 t243 t244).bind fun t301 => ((tenementref06_Text.f kj7 t241 t242 t243 t244).bind fun t302 => (if t301.toList = t302.toList then (some true) else (none)))) else (none)))) else (none)))) else (none)))) else (none)))) else (none)))) else (none)) else (none)) else (none)) else (none)) else (none)))))) = some r := H
      have A18 := Zq A180
      clear A180
      replace H := Option.bind_eq_some_iff.mp H
      obtain ⟨⟨t269, t270, t271, t272⟩, A190, H⟩ := H
      replace H : ((tenementref06_With.f t241 t242 t243 t244 x2_7 a3).bind fun bt273 => ((vec_All.f kj7 (([(⟨t241, t242, t243, t244⟩ : S24), (⟨t246, t247, t248, t249⟩ : S24), (⟨t241, t242, t243, t244⟩ : S24)] : List (S24)))).bind fun bt280 => ((tenementref06_All.f kj7 (([(⟨t241, t242, t243, t244⟩ : S29), (⟨t246, t247, t248, t249⟩ : S29), (⟨t241, t242, t243, t244⟩ : S29)] : List (S29)))).bind fun bt287 => (if true = true then (if (t253 == t257 && (t254 == t258 && (t255 == t259 && (t256 == t260)))) = true then (if (t261 == t265 && (t262 == t266 && (t263 == t267 && (t264 == t268)))) = true then (if (t269 == bt273.1 && (t270 == bt273.2.1 && (t271 == bt273.2.2.1 && (t272 == bt273.2.2.2)))) = true then (if (bt280.1 == bt287.1 && (bt280.2.1 == bt287.2.1 && (bt280.2.2.1 == bt287.2.2.1 && (bt280.2.2.2 == bt287.2.2.2)))) = true then ((vec_Right.f t241 t242 t243 t244).bind fun t291 => ((tenementref06_Right.f kj7 t241 t242 t243 t244).bind fun t292 => (if t291 = t292 then ((vec_Leq.f t241 t242 t243 t244 t246 t247 t248 t249).bind fun t293 => ((tenementref06_Leq.f kj7 t241 t242 t243 t244 t246 t247 t248 t249).bind fun t294 => (if t293 = t294 then ((vec_At.f t241 t242 t243 t244 x2_7).bind fun t295 => ((tenementref06_At.f t241 t242 t243 t244 x2_7).bind fun t296 => (if t295 = t296 then ((vec_Sum.f t241 t242 t243 t244).bind fun t297 => ((tenementref06_Sum.f t241 t242 t243 t244).bind fun t298 => (if t297 = t298 then ((vec_Put.f kj7 t241 t242 t243 t244).bind fun t299 => ((tenementref06_Put.f kj7 t241 t242 t243 t244).bind fun t300 => (if t299.toList = t300.toList then ((BigText.g t241 t242 t243 t244).bind fun t301 => ((tenementref06_Text.f kj7 t241 t242 t243 t244).bind fun t302 => (if t301.toList = t302.toList then (some true) else (none)))) else (none)))) else (none)))) else (none)))) else (none)))) else (none)))) else (none)) else (none)) else (none)) else (none)) else (none))))) = some r := H
      have A19 := Zq A190
      clear A190
      replace H := Option.bind_eq_some_iff.mp H
      obtain ⟨⟨t273, t274, t275, t276⟩, A200, H⟩ := H
      replace H : ((vec_All.f kj7 (([(⟨t241, t242, t243, t244⟩ : S24), (⟨t246, t247, t248, t249⟩ : S24), (⟨t241, t242, t243, t244⟩ : S24)] : List (S24)))).bind fun bt280 => ((tenementref06_All.f kj7 (([(⟨t241, t242, t243, t244⟩ : S29), (⟨t246, t247, t248, t249⟩ : S29), (⟨t241, t242, t243, t244⟩ : S29)] : List (S29)))).bind fun bt287 => (if true = true then (if (t253 == t257 && (t254 == t258 && (t255 == t259 && (t256 == t260)))) = true then (if (t261 == t265 && (t262 == t266 && (t263 == t267 && (t264 == t268)))) = true then (if (t269 == t273 && (t270 == t274 && (t271 == t275 && (t272 == t276)))) = true then (if (bt280.1 == bt287.1 && (bt280.2.1 == bt287.2.1 && (bt280.2.2.1 == bt287.2.2.1 && (bt280.2.2.2 == bt287.2.2.2)))) = true then ((vec_Right.f t241 t242 t243 t244).bind fun t291 => ((tenementref06_Right.f kj7 t241 t242 t243 t244).bind fun t292 => (if t291 = t292 then ((vec_Leq.f t241 t242 t243 t244 t246 t247 t248 t249).bind fun t293 => ((tenementref06_Leq.f kj7 t241 t242 t243 t244 t246 t247 t248 t249).bind fun t294 => (if t293 = t294 then ((vec_At.f t241 t242 t243 t244 x2_7).bind fun t295 => ((tenementref06_At.f t241 t242 t243 t244 x2_7).bind fun t296 => (if t295 = t296 then ((vec_Sum.f t241 t242 t243 t244).bind fun t297 => ((tenementref06_Sum.f t241 t242 t243 t244).bind fun t298 => (if t297 = t298 then ((vec_Put.f kj7 t241 t242 t243 t244).bind fun t299 => ((tenementref06_Put.f kj7 t241 t242 t243 t244).bind fun t300 => (if t299.toList = t300.toList then ((BigText.g t241 t242 t243 t244).bind fun t301 => ((tenementref06_Text.f kj7 t241 t242 t243 t244).bind fun t302 => (if t301.toList = t302.toList then (some true) else (none)))) else (none)))) else (none)))) else (none)))) else (none)))) else (none)))) else (none)) else (none)) else (none)) else (none)) else (none)))) = some r := H
      have A20 := Zq A200
      clear A200
      obtain ⟨y277, hy277⟩ : ∃ y_ : List (S24), y_ = (([(⟨t241, t242, t243, t244⟩ : S24), (⟨t246, t247, t248, t249⟩ : S24), (⟨t241, t242, t243, t244⟩ : S24)] : List (S24))) := ⟨_, rfl⟩
      replace H : ((vec_All.f kj7 y277).bind fun bt280 => ((tenementref06_All.f kj7 (([(⟨t241, t242, t243, t244⟩ : S29), (⟨t246, t247, t248, t249⟩ : S29), (⟨t241, t242, t243, t244⟩ : S29)] : List (S29)))).bind fun bt287 => (if true = true then (if (t253 == t257 && (t254 == t258 && (t255 == t259 && (t256 == t260)))) = true then (if (t261 == t265 && (t262 == t266 && (t263 == t267 && (t264 == t268)))) = true then (if (t269 == t273 && (t270 == t274 && (t271 == t275 && (t272 == t276)))) = true then (if (bt280.1 == bt287.1 && (bt280.2.1 == bt287.2.1 && (bt280.2.2.1 == bt287.2.2.1 && (bt280.2.2.2 == bt287.2.2.2)))) = true then ((vec_Right.f t241 t242 t243 t244).bind fun t291 => ((tenementref06_Right.f kj7 t241 t242 t243 t244).bind fun t292 => (if t291 = t292 then ((vec_Leq.f t241 t242 t243 t244 t246 t247 t248 t249).bind fun t293 => ((tenementref06_Leq.f kj7 t241 t242 t243 t244 t246 t247 t248 t249).bind fun t294 => (if t293 = t294 then ((vec_At.f t241 t242 t243 t244 x2_7).bind fun t295 => ((tenementref06_At.f t241 t242 t243 t244 x2_7).bind fun t296 => (if t295 = t296 then ((vec_Sum.f t241 t242 t243 t244).bind fun t297 => ((tenementref06_Sum.f t241 t242 t243 t244).bind fun t298 => (if t297 = t298 then ((vec_Put.f kj7 t241 t242 t243 t244).bind fun t299 => ((tenementref06_Put.f kj7 t241 t242 t243 t244).bind fun t300 => (if t299.toList = t300.toList then ((BigText.g t241 t242 t243 t244).bind fun t301 => ((tenementref06_Text.f kj7 t241 t242 t243 t244).bind fun t302 => (if t301.toList = t302.toList then (some true) else (none)))) else (none)))) else (none)))) else (none)))) else (none)))) else (none)))) else (none)) else (none)) else (none)) else (none)) else (none)))) = some r := by first | (rw [hy277]; with_reducible exact H) | (have H2_ := (Option.bind_some _ _).symm.trans H; rw [hy277]; with_reducible exact H2_) | (have H2_ := (Option.bind_some _ _).symm.trans H; with_reducible exact H2_) | with_reducible exact H | (rw [hy277]; exact H) | exact H
      have Ny277 := Zq hy277
      clear hy277
      replace H := Option.bind_eq_some_iff.mp H
      obtain ⟨⟨t280, t281, t282, t283⟩, A210, H⟩ := H
      replace H : ((tenementref06_All.f kj7 (([(⟨t241, t242, t243, t244⟩ : S29), (⟨t246, t247, t248, t249⟩ : S29), (⟨t241, t242, t243, t244⟩ : S29)] : List (S29)))).bind fun bt287 => (if true = true then (if (t253 == t257 && (t254 == t258 && (t255 == t259 && (t256 == t260)))) = true then (if (t261 == t265 && (t262 == t266 && (t263 == t267 && (t264 == t268)))) = true then (if (t269 == t273 && (t270 == t274 && (t271 == t275 && (t272 == t276)))) = true then (if (t280 == bt287.1 && (t281 == bt287.2.1 && (t282 == bt287.2.2.1 && (t283 == bt287.2.2.2)))) = true then ((vec_Right.f t241 t242 t243 t244).bind fun t291 => ((tenementref06_Right.f kj7 t241 t242 t243 t244).bind fun t292 => (if t291 = t292 then ((vec_Leq.f t241 t242 t243 t244 t246 t247 t248 t249).bind fun t293 => ((tenementref06_Leq.f kj7 t241 t242 t243 t244 t246 t247 t248 t249).bind fun t294 => (if t293 = t294 then ((vec_At.f t241 t242 t243 t244 x2_7).bind fun t295 => ((tenementref06_At.f t241 t242 t243 t244 x2_7).bind fun t296 => (if t295 = t296 then ((vec_Sum.f t241 t242 t243 t244).bind fun t297 => ((tenementref06_Sum.f t241 t242 t243 t244).bind fun t298 => (if t297 = t298 then ((vec_Put.f kj7 t241 t242 t243 t244).bind fun t299 => ((tenementref06_Put.f kj7 t241 t242 t243 t244).bind fun t300 => (if t299.toList = t300.toList then ((BigText.g t241 t242 t243 t244).bind fun t301 => ((tenementref06_Text.f kj7 t241 t242 t243 t244).bind fun t302 => (if t301.toList = t302.toList then (some true) else (none)))) else (none)))) else (none)))) else (none)))) else (none)))) else (none)))) else (none)) else (none)) else (none)) else (none)) else (none))) = some r := H
      have A21 := Zq A210
      clear A210
      obtain ⟨y284, hy284⟩ : ∃ y_ : List (S29), y_ = (([(⟨t241, t242, t243, t244⟩ : S29), (⟨t246, t247, t248, t249⟩ : S29), (⟨t241, t242, t243, t244⟩ : S29)] : List (S29))) := ⟨_, rfl⟩
      replace H : ((tenementref06_All.f kj7 y284).bind fun bt287 => (if true = true then (if (t253 == t257 && (t254 == t258 && (t255 == t259 && (t256 == t260)))) = true then (if (t261 == t265 && (t262 == t266 && (t263 == t267 && (t264 == t268)))) = true then (if (t269 == t273 && (t270 == t274 && (t271 == t275 && (t272 == t276)))) = true then (if (t280 == bt287.1 && (t281 == bt287.2.1 && (t282 == bt287.2.2.1 && (t283 == bt287.2.2.2)))) = true then ((vec_Right.f t241 t242 t243 t244).bind fun t291 => ((tenementref06_Right.f kj7 t241 t242 t243 t244).bind fun t292 => (if t291 = t292 then ((vec_Leq.f t241 t242 t243 t244 t246 t247 t248 t249).bind fun t293 => ((tenementref06_Leq.f kj7 t241 t242 t243 t244 t246 t247 t248 t249).bind fun t294 => (if t293 = t294 then ((vec_At.f t241 t242 t243 t244 x2_7).bind fun t295 => ((tenementref06_At.f t241 t242 t243 t244 x2_7).bind fun t296 => (if t295 = t296 then ((vec_Sum.f t241 t242 t243 t244).bind fun t297 => ((tenementref06_Sum.f t241 t242 t243 t244).bind fun t298 => (if t297 = t298 then ((vec_Put.f kj7 t241 t242 t243 t244).bind fun t299 => ((tenementref06_Put.f kj7 t241 t242 t243 t244).bind fun t300 => (if t299.toList = t300.toList then ((BigText.g t241 t242 t243 t244).bind fun t301 => ((tenementref06_Text.f kj7 t241 t242 t243 t244).bind fun t302 => (if t301.toList = t302.toList then (some true) else (none)))) else (none)))) else (none)))) else (none)))) else (none)))) else (none)))) else (none)) else (none)) else (none)) else (none)) else (none))) = some r := by first | (rw [hy284]; with_reducible exact H) | (have H2_ := (Option.bind_some _ _).symm.trans H; rw [hy284]; with_reducible exact H2_) | (have H2_ := (Option.bind_some _ _).symm.trans H; with_reducible exact H2_) | with_reducible exact H | (rw [hy284]; exact H) | exact H
      have Ny284 := Zq hy284
      clear hy284
      replace H := Option.bind_eq_some_iff.mp H
      obtain ⟨⟨t287, t288, t289, t290⟩, A220, H⟩ := H
      replace H : (if true = true then (if (t253 == t257 && (t254 == t258 && (t255 == t259 && (t256 == t260)))) = true then (if (t261 == t265 && (t262 == t266 && (t263 == t267 && (t264 == t268)))) = true then (if (t269 == t273 && (t270 == t274 && (t271 == t275 && (t272 == t276)))) = true then (if (t280 == t287 && (t281 == t288 && (t282 == t289 && (t283 == t290)))) = true then ((vec_Right.f t241 t242 t243 t244).bind fun t291 => ((tenementref06_Right.f kj7 t241 t242 t243 t244).bind fun t292 => (if t291 = t292 then ((vec_Leq.f t241 t242 t243 t244 t246 t247 t248 t249).bind fun t293 => ((tenementref06_Leq.f kj7 t241 t242 t243 t244 t246 t247 t248 t249).bind fun t294 => (if t293 = t294 then ((vec_At.f t241 t242 t243 t244 x2_7).bind fun t295 => ((tenementref06_At.f t241 t242 t243 t244 x2_7).bind fun t296 => (if t295 = t296 then ((vec_Sum.f t241 t242 t243 t244).bind fun t297 => ((tenementref06_Sum.f t241 t242 t243 t244).bind fun t298 => (if t297 = t298 then ((vec_Put.f kj7 t241 t242 t243 t244).bind fun t299 => ((tenementref06_Put.f kj7 t241 t242 t243 t244).bind fun t300 => (if t299.toList = t300.toList then ((BigText.g t241 t242 t243 t244).bind fun t301 => ((tenementref06_Text.f kj7 t241 t242 t243 t244).bind fun t302 => (if t301.toList = t302.toList then (some true) else (none)))) else (none)))) else (none)))) else (none)))) else (none)))) else (none)))) else (none)) else (none)) else (none)) else (none)) else (none)) = some r := H
      have A22 := Zq A220
      clear A220
      replace H : (if (t253 == t257 && (t254 == t258 && (t255 == t259 && (t256 == t260)))) = true then (if (t261 == t265 && (t262 == t266 && (t263 == t267 && (t264 == t268)))) = true then (if (t269 == t273 && (t270 == t274 && (t271 == t275 && (t272 == t276)))) = true then (if (t280 == t287 && (t281 == t288 && (t282 == t289 && (t283 == t290)))) = true then ((vec_Right.f t241 t242 t243 t244).bind fun t291 => ((tenementref06_Right.f kj7 t241 t242 t243 t244).bind fun t292 => (if t291 = t292 then ((vec_Leq.f t241 t242 t243 t244 t246 t247 t248 t249).bind fun t293 => ((tenementref06_Leq.f kj7 t241 t242 t243 t244 t246 t247 t248 t249).bind fun t294 => (if t293 = t294 then ((vec_At.f t241 t242 t243 t244 x2_7).bind fun t295 => ((tenementref06_At.f t241 t242 t243 t244 x2_7).bind fun t296 => (if t295 = t296 then ((vec_Sum.f t241 t242 t243 t244).bind fun t297 => ((tenementref06_Sum.f t241 t242 t243 t244).bind fun t298 => (if t297 = t298 then ((vec_Put.f kj7 t241 t242 t243 t244).bind fun t299 => ((tenementref06_Put.f kj7 t241 t242 t243 t244).bind fun t300 => (if t299.toList = t300.toList then ((BigText.g t241 t242 t243 t244).bind fun t301 => ((tenementref06_Text.f kj7 t241 t242 t243 t244).bind fun t302 => (if t301.toList = t302.toList then (some true) else (none)))) else (none)))) else (none)))) else (none)))) else (none)))) else (none)))) else (none)) else (none)) else (none)) else (none)) = some r := by first | (rw [if_pos rfl] at H; exact H) | (rw [if_pos trivial] at H; exact H)
      by_cases c23 : (t253 == t257 && (t254 == t258 && (t255 == t259 && (t256 == t260)))) = true
      rotate_left
      · rw [if_neg c23] at H
        exact absurd H (by simp)
      rw [if_pos c23] at H
      have c23b0 : (t253 == t257 && (t254 == t258 && (t255 == t259 && (t256 == t260)))) = true := c23
      (try (have c23b1 : decide (t253 = t257 && (t254 == t258 && (t255 == t259 && (t256 == t260)))) = true := by simpa using c23))
      (try (have c23b2 : (t253 == t257 && (t254 == t258 && (t255 == t259 && (t256 == t260)))) = true := by simpa using c23))
      clear c23
      by_cases c24 : (t261 == t265 && (t262 == t266 && (t263 == t267 && (t264 == t268)))) = true
      rotate_left
      · rw [if_neg c24] at H
        exact absurd H (by simp)
      rw [if_pos c24] at H
      have c24b0 : (t261 == t265 && (t262 == t266 && (t263 == t267 && (t264 == t268)))) = true := c24
      (try (have c24b1 : decide (t261 = t265 && (t262 == t266 && (t263 == t267 && (t264 == t268)))) = true := by simpa using c24))
      (try (have c24b2 : (t261 == t265 && (t262 == t266 && (t263 == t267 && (t264 == t268)))) = true := by simpa using c24))
      clear c24
      by_cases c25 : (t269 == t273 && (t270 == t274 && (t271 == t275 && (t272 == t276)))) = true
      rotate_left
      · rw [if_neg c25] at H
        exact absurd H (by simp)
      rw [if_pos c25] at H
      have c25b0 : (t269 == t273 && (t270 == t274 && (t271 == t275 && (t272 == t276)))) = true := c25
      (try (have c25b1 : decide (t269 = t273 && (t270 == t274 && (t271 == t275 && (t272 == t276)))) = true := by simpa using c25))
      (try (have c25b2 : (t269 == t273 && (t270 == t274 && (t271 == t275 && (t272 == t276)))) = true := by simpa using c25))
      clear c25
      by_cases c26 : (t280 == t287 && (t281 == t288 && (t282 == t289 && (t283 == t290)))) = true
      rotate_left
      · rw [if_neg c26] at H
        exact absurd H (by simp)
      rw [if_pos c26] at H
      have c26b0 : (t280 == t287 && (t281 == t288 && (t282 == t289 && (t283 == t290)))) = true := c26
      (try (have c26b1 : decide (t280 = t287 && (t281 == t288 && (t282 == t289 && (t283 == t290)))) = true := by simpa using c26))
      (try (have c26b2 : (t280 == t287 && (t281 == t288 && (t282 == t289 && (t283 == t290)))) = true := by simpa using c26))
      clear c26
      replace H := Option.bind_eq_some_iff.mp H
      obtain ⟨t291, A270, H⟩ := H
      replace H : ((tenementref06_Right.f kj7 t241 t242 t243 t244).bind fun t292 => (if t291 = t292 then ((vec_Leq.f t241 t242 t243 t244 t246 t247 t248 t249).bind fun t293 => ((tenementref06_Leq.f kj7 t241 t242 t243 t244 t246 t247 t248 t249).bind fun t294 => (if t293 = t294 then ((vec_At.f t241 t242 t243 t244 x2_7).bind fun t295 => ((tenementref06_At.f t241 t242 t243 t244 x2_7).bind fun t296 => (if t295 = t296 then ((vec_Sum.f t241 t242 t243 t244).bind fun t297 => ((tenementref06_Sum.f t241 t242 t243 t244).bind fun t298 => (if t297 = t298 then ((vec_Put.f kj7 t241 t242 t243 t244).bind fun t299 => ((tenementref06_Put.f kj7 t241 t242 t243 t244).bind fun t300 => (if t299.toList = t300.toList then ((BigText.g t241 t242 t243 t244).bind fun t301 => ((tenementref06_Text.f kj7 t241 t242 t243 t244).bind fun t302 => (if t301.toList = t302.toList then (some true) else (none)))) else (none)))) else (none)))) else (none)))) else (none)))) else (none))) = some r := H
      have A27 := Zq A270
      clear A270
      replace H := Option.bind_eq_some_iff.mp H
      obtain ⟨t292, A280, H⟩ := H
      replace H : (if t291 = t292 then ((vec_Leq.f t241 t242 t243 t244 t246 t247 t248 t249).bind fun t293 => ((tenementref06_Leq.f kj7 t241 t242 t243 t244 t246 t247 t248 t249).bind fun t294 => (if t293 = t294 then ((vec_At.f t241 t242 t243 t244 x2_7).bind fun t295 => ((tenementref06_At.f t241 t242 t243 t244 x2_7).bind fun t296 => (if t295 = t296 then ((vec_Sum.f t241 t242 t243 t244).bind fun t297 => ((tenementref06_Sum.f t241 t242 t243 t244).bind fun t298 => (if t297 = t298 then ((vec_Put.f kj7 t241 t242 t243 t244).bind fun t299 => ((tenementref06_Put.f kj7 t241 t242 t243 t244).bind fun t300 => (if t299.toList = t300.toList then ((BigText.g t241 t242 t243 t244).bind fun t301 => ((tenementref06_Text.f kj7 t241 t242 t243 t244).bind fun t302 => (if t301.toList = t302.toList then (some true) else (none)))) else (none)))) else (none)))) else (none)))) else (none)))) else (none)) = some r := H
      have A28 := Zq A280
      clear A280
      by_cases c29 : t291 = t292
      rotate_left
      · rw [if_neg c29] at H
        exact absurd H (by simp)
      subst c29
      have H1 : ((vec_Leq.f t241 t242 t243 t244 t246 t247 t248 t249).bind fun t293 => ((tenementref06_Leq.f kj7 t241 t242 t243 t244 t246 t247 t248 t249).bind fun t294 => (if t293 = t294 then ((vec_At.f t241 t242 t243 t244 x2_7).bind fun t295 => ((tenementref06_At.f t241 t242 t243 t244 x2_7).bind fun t296 => (if t295 = t296 then ((vec_Sum.f t241 t242 t243 t244).bind fun t297 => ((tenementref06_Sum.f t241 t242 t243 t244).bind fun t298 => (if t297 = t298 then ((vec_Put.f kj7 t241 t242 t243 t244).bind fun t299 => ((tenementref06_Put.f kj7 t241 t242 t243 t244).bind fun t300 => (if t299.toList = t300.toList then ((BigText.g t241 t242 t243 t244).bind fun t301 => ((tenementref06_Text.f kj7 t241 t242 t243 t244).bind fun t302 => (if t301.toList = t302.toList then (some true) else (none)))) else (none)))) else (none)))) else (none)))) else (none)))) = some r := by rw [if_pos rfl] at H; exact H
      clear H
      have H := H1
      clear H1
      replace H := Option.bind_eq_some_iff.mp H
      obtain ⟨t293, A300, H⟩ := H
      replace H : ((tenementref06_Leq.f kj7 t241 t242 t243 t244 t246 t247 t248 t249).bind fun t294 => (if t293 = t294 then ((vec_At.f t241 t242 t243 t244 x2_7).bind fun t295 => ((tenementref06_At.f t241 t242 t243 t244 x2_7).bind fun t296 => (if t295 = t296 then ((vec_Sum.f t241 t242 t243 t244).bind fun t297 => ((tenementref06_Sum.f t241 t242 t243 t244).bind fun t298 => (if t297 = t298 then ((vec_Put.f kj7 t241 t242 t243 t244).bind fun t299 => ((tenementref06_Put.f kj7 t241 t242 t243 t244).bind fun t300 => (if t299.toList = t300.toList then ((BigText.g t241 t242 t243 t244).bind fun t301 => ((tenementref06_Text.f kj7 t241 t242 t243 t244).bind fun t302 => (if t301.toList = t302.toList then (some true) else (none)))) else (none)))) else (none)))) else (none)))) else (none))) = some r := H
      have A30 := Zq A300
      clear A300
      replace H := Option.bind_eq_some_iff.mp H
      obtain ⟨t294, A310, H⟩ := H
      replace H : (if t293 = t294 then ((vec_At.f t241 t242 t243 t244 x2_7).bind fun t295 => ((tenementref06_At.f t241 t242 t243 t244 x2_7).bind fun t296 => (if t295 = t296 then ((vec_Sum.f t241 t242 t243 t244).bind fun t297 => ((tenementref06_Sum.f t241 t242 t243 t244).bind fun t298 => (if t297 = t298 then ((vec_Put.f kj7 t241 t242 t243 t244).bind fun t299 => ((tenementref06_Put.f kj7 t241 t242 t243 t244).bind fun t300 => (if t299.toList = t300.toList then ((BigText.g t241 t242 t243 t244).bind fun t301 => ((tenementref06_Text.f kj7 t241 t242 t243 t244).bind fun t302 => (if t301.toList = t302.toList then (some true) else (none)))) else (none)))) else (none)))) else (none)))) else (none)) = some r := H
      have A31 := Zq A310
      clear A310
      by_cases c32 : t293 = t294
      rotate_left
      · rw [if_neg c32] at H
        exact absurd H (by simp)
      subst c32
      have H1 : ((vec_At.f t241 t242 t243 t244 x2_7).bind fun t295 => ((tenementref06_At.f t241 t242 t243 t244 x2_7).bind fun t296 => (if t295 = t296 then ((vec_Sum.f t241 t242 t243 t244).bind fun t297 => ((tenementref06_Sum.f t241 t242 t243 t244).bind fun t298 => (if t297 = t298 then ((vec_Put.f kj7 t241 t242 t243 t244).bind fun t299 => ((tenementref06_Put.f kj7 t241 t242 t243 t244).bind fun t300 => (if t299.toList = t300.toList then ((BigText.g t241 t242 t243 t244).bind fun t301 => ((tenementref06_Text.f kj7 t241 t242 t243 t244).bind fun t302 => (if t301.toList = t302.toList then (some true) else (none)))) else (none)))) else (none)))) else (none)))) = some r := by rw [if_pos rfl] at H; exact H
      clear H
      have H := H1
      clear H1
      replace H := Option.bind_eq_some_iff.mp H
      obtain ⟨t295, A330, H⟩ := H
      replace H : ((tenementref06_At.f t241 t242 t243 t244 x2_7).bind fun t296 => (if t295 = t296 then ((vec_Sum.f t241 t242 t243 t244).bind fun t297 => ((tenementref06_Sum.f t241 t242 t243 t244).bind fun t298 => (if t297 = t298 then ((vec_Put.f kj7 t241 t242 t243 t244).bind fun t299 => ((tenementref06_Put.f kj7 t241 t242 t243 t244).bind fun t300 => (if t299.toList = t300.toList then ((BigText.g t241 t242 t243 t244).bind fun t301 => ((tenementref06_Text.f kj7 t241 t242 t243 t244).bind fun t302 => (if t301.toList = t302.toList then (some true) else (none)))) else (none)))) else (none)))) else (none))) = some r := H
      have A33 := Zq A330
      clear A330
      replace H := Option.bind_eq_some_iff.mp H
      obtain ⟨t296, A340, H⟩ := H
      replace H : (if t295 = t296 then ((vec_Sum.f t241 t242 t243 t244).bind fun t297 => ((tenementref06_Sum.f t241 t242 t243 t244).bind fun t298 => (if t297 = t298 then ((vec_Put.f kj7 t241 t242 t243 t244).bind fun t299 => ((tenementref06_Put.f kj7 t241 t242 t243 t244).bind fun t300 => (if t299.toList = t300.toList then ((BigText.g t241 t242 t243 t244).bind fun t301 => ((tenementref06_Text.f kj7 t241 t242 t243 t244).bind fun t302 => (if t301.toList = t302.toList then (some true) else (none)))) else (none)))) else (none)))) else (none)) = some r := H
      have A34 := Zq A340
      clear A340
      by_cases c35 : t295 = t296
      rotate_left
      · rw [if_neg c35] at H
        exact absurd H (by simp)
      rw [if_pos c35] at H
      have c35b0 : (t295 == t296) = true := beq_iff_eq.mpr c35
      have c35b1 : (t295 != t296) = false := bne_eq_false_iff_eq.mpr c35
      clear c35
      replace H := Option.bind_eq_some_iff.mp H
      obtain ⟨t297, A360, H⟩ := H
      replace H : ((tenementref06_Sum.f t241 t242 t243 t244).bind fun t298 => (if t297 = t298 then ((vec_Put.f kj7 t241 t242 t243 t244).bind fun t299 => ((tenementref06_Put.f kj7 t241 t242 t243 t244).bind fun t300 => (if t299.toList = t300.toList then ((BigText.g t241 t242 t243 t244).bind fun t301 => ((tenementref06_Text.f kj7 t241 t242 t243 t244).bind fun t302 => (if t301.toList = t302.toList then (some true) else (none)))) else (none)))) else (none))) = some r := H
      have A36 := Zq A360
      clear A360
      replace H := Option.bind_eq_some_iff.mp H
      obtain ⟨t298, A370, H⟩ := H
      replace H : (if t297 = t298 then ((vec_Put.f kj7 t241 t242 t243 t244).bind fun t299 => ((tenementref06_Put.f kj7 t241 t242 t243 t244).bind fun t300 => (if t299.toList = t300.toList then ((BigText.g t241 t242 t243 t244).bind fun t301 => ((tenementref06_Text.f kj7 t241 t242 t243 t244).bind fun t302 => (if t301.toList = t302.toList then (some true) else (none)))) else (none)))) else (none)) = some r := H
      have A37 := Zq A370
      clear A370
      by_cases c38 : t297 = t298
      rotate_left
      · rw [if_neg c38] at H
        exact absurd H (by simp)
      rw [if_pos c38] at H
      have c38b0 : (t297 == t298) = true := beq_iff_eq.mpr c38
      have c38b1 : (t297 != t298) = false := bne_eq_false_iff_eq.mpr c38
      clear c38
      replace H := Option.bind_eq_some_iff.mp H
      obtain ⟨t299, A390, H⟩ := H
      replace H : ((tenementref06_Put.f kj7 t241 t242 t243 t244).bind fun t300 => (if t299.toList = t300.toList then ((BigText.g t241 t242 t243 t244).bind fun t301 => ((tenementref06_Text.f kj7 t241 t242 t243 t244).bind fun t302 => (if t301.toList = t302.toList then (some true) else (none)))) else (none))) = some r := H
      have A39 := Zq A390
      clear A390
      replace H := Option.bind_eq_some_iff.mp H
      obtain ⟨t300, A400, H⟩ := H
      replace H : (if t299.toList = t300.toList then ((BigText.g t241 t242 t243 t244).bind fun t301 => ((tenementref06_Text.f kj7 t241 t242 t243 t244).bind fun t302 => (if t301.toList = t302.toList then (some true) else (none)))) else (none)) = some r := H
      have A40 := Zq A400
      clear A400
      by_cases c41 : t299.toList = t300.toList
      rotate_left
      · rw [if_neg c41] at H
        exact absurd H (by simp)
      rw [if_pos c41] at H
      have c41b0 : (t299.toList == t300.toList) = true := beq_iff_eq.mpr c41
      have c41b1 : (t299.toList != t300.toList) = false := bne_eq_false_iff_eq.mpr c41
      clear c41
      replace H := Option.bind_eq_some_iff.mp H
      obtain ⟨t301, A420, H⟩ := H
      replace H : ((tenementref06_Text.f kj7 t241 t242 t243 t244).bind fun t302 => (if t301.toList = t302.toList then (some true) else (none))) = some r := H
      have A42 := Zq A420
      clear A420
      replace H := Option.bind_eq_some_iff.mp H
      obtain ⟨t302, A430, H⟩ := H
      replace H : (if t301.toList = t302.toList then (some true) else (none)) = some r := H
      have A43 := Zq A430
      clear A430
      by_cases c44 : t301.toList = t302.toList
      rotate_left
      · rw [if_neg c44] at H
        exact absurd H (by simp)
      rw [if_pos c44] at H
      have c44b0 : (t301.toList == t302.toList) = true := beq_iff_eq.mpr c44
      have c44b1 : (t301.toList != t302.toList) = false := bne_eq_false_iff_eq.mpr c44
      clear c44
      obtain rfl := Option.some.inj H
      have hnb45 := NB238_239.out
      have hnc45 := NB239_238.out
      have hcz46_0 : wc.cell? ⟨gb238, 0, none⟩ = some (.int .u64 a0_0) := (blk_cell BK238.out 0).trans rfl
      have hcz46_1 : wc.cell? ⟨gb238, 1, none⟩ = some (.int .u64 a0_1) := (blk_cell BK238.out 1).trans rfl
      have hcz46_2 : wc.cell? ⟨gb238, 2, none⟩ = some (.int .u64 a0_2) := (blk_cell BK238.out 2).trans rfl
      have hcz46_3 : wc.cell? ⟨gb238, 3, none⟩ = some (.int .u64 a0_3) := (blk_cell BK238.out 3).trans rfl
      have hcz46_4 : wc.cell? ⟨gb238, 4, none⟩ = some (.bool a0_4) := (blk_cell BK238.out 4).trans rfl
      have hfz46_0 := blk_frozen BK238.out 0
      have hfz46_1 := blk_frozen BK238.out 1
      have hfz46_2 := blk_frozen BK238.out 2
      have hfz46_3 := blk_frozen BK238.out 3
      have hfz46_4 := blk_frozen BK238.out 4
      try go_wp2_with (first | ((with_reducible refine gate_callee (f := 11) rfl ?_); refine goesL_ (some 27) rfl rfl Tryd.func11 (by kernel_rfl) rfl #[.agg #[.int .u64 a0_0, .int .u64 a0_1, .int .u64 a0_2, .int .u64 a0_3, .bool a0_4]] rfl (by (try simp only [List.map_toArray, List.map_cons, List.map_nil]); first | done | rfl | (simp only [List.length_drop, List.length_take]; rfl)) ?_; (with_reducible refine (tenementlaw06_Vector_vector.calls kj7 a0_0 a0_1 a0_2 a0_3 a0_4 t241 t242 t243 t244 _ A13.out).mono ?_); rintro e w47 ⟨rfl, hb⟩; refine ⟨_, rfl, ?_⟩; have n0_ := Zq (Zb (g := gb238) (o := .cells #[.int .u64 a0_0, .int .u64 a0_1, .int .u64 a0_2, .int .u64 a0_3, .bool a0_4] 26 (0, 0)) (by (with_reducible repeat (first | refine Zn ?_ _ | refine Zd ?_ | refine Za ?_ _)); exact BK238.out) hb); have n1_ := Zq (Zb (g := gb239) (o := .cells #[.int .u64 a1_0, .int .u64 a1_1, .int .u64 a1_2, .int .u64 a1_3, .bool a1_4] 26 (0, 0)) (by (with_reducible repeat (first | refine Zn ?_ _ | refine Zd ?_ | refine Za ?_ _)); exact BK239.out) hb); have n2_ := Zq (below_step (by repeat (first | (with_reducible first | exact HB.out | apply below_alloc | apply Zw | apply Ze | refine Zs ?_ GE238.out | refine Zs ?_ GE239.out) | exact HB.out)) hb); clear BK238; clear BK239; clear HB; have BK238 := n0_; have BK239 := n1_; have HB := n2_; clear n0_ n1_ n2_; (try clear hb); (try clear hb2); (try clear hk); (try clear hi)) | ((with_reducible refine gate_dst (N := 12) rfl ?_); refine box_event ?hg (N := 12) ?hd (cs := #[.int .u64 0, .int .u64 0, .int .u64 0, .int .u64 0]) (t := 24) ?hr ?_; (case hd => rfl); (case hg => rfl); (case hr => first | (go_simp; done) | (go_simp; rfl)); intro gb245 hg w48 hbox hb; have n0_ := Zq (Zb (g := gb238) (o := .cells #[.int .u64 a0_0, .int .u64 a0_1, .int .u64 a0_2, .int .u64 a0_3, .bool a0_4] 26 (0, 0)) (by (with_reducible repeat (first | refine Zn ?_ _ | refine Zd ?_ | refine Za ?_ _)); exact BK238.out) hb); have n1_ := Zq (Zb (g := gb239) (o := .cells #[.int .u64 a1_0, .int .u64 a1_1, .int .u64 a1_2, .int .u64 a1_3, .bool a1_4] 26 (0, 0)) (by (with_reducible repeat (first | refine Zn ?_ _ | refine Zd ?_ | refine Za ?_ _)); exact BK239.out) hb); have n2_ := Zq (below_step (by repeat (first | (with_reducible first | exact HB.out | apply below_alloc | apply Zw | apply Ze | refine Zs ?_ GE238.out | refine Zs ?_ GE239.out) | exact HB.out)) hb); have n3_ := Zq (hbox); have n4_ := Zq ((by rw [hg]; exact (below_size (by repeat (first | (with_reducible first | exact HB.out | apply below_alloc | apply Zw | apply Ze | refine Zs ?_ GE238.out | refine Zs ?_ GE239.out) | exact HB.out))) : w.heap.size ≤ gb245)); have n5_ := Zq ((by rw [hg]; exact (below_size (by repeat (first | (with_reducible first | exact HB.out | apply below_alloc | apply Zw | apply Ze | refine Zs ?_ GE238.out | refine Zs ?_ GE239.out) | exact HB.out))) : w.heap.size ≤ gb245)); have n6_ := Zq ((by rw [hg]; exact Nat.ne_of_lt (blk_lt (g := gb238) (o := .cells #[.int .u64 a0_0, .int .u64 a0_1, .int .u64 a0_2, .int .u64 a0_3, .bool a0_4] 26 (0, 0)) (by (with_reducible repeat (first | refine Zn ?_ _ | refine Zd ?_ | refine Za ?_ _)); exact BK238.out)) : gb238 ≠ gb245)); have n7_ := Zq ((by rw [hg]; exact Nat.ne_of_gt (blk_lt (g := gb238) (o := .cells #[.int .u64 a0_0, .int .u64 a0_1, .int .u64 a0_2, .int .u64 a0_3, .bool a0_4] 26 (0, 0)) (by (with_reducible repeat (first | refine Zn ?_ _ | refine Zd ?_ | refine Za ?_ _)); exact BK238.out)) : gb245 ≠ gb238)); have n8_ := Zq ((by rw [hg]; exact Nat.ne_of_lt (blk_lt (g := gb239) (o := .cells #[.int .u64 a1_0, .int .u64 a1_1, .int .u64 a1_2, .int .u64 a1_3, .bool a1_4] 26 (0, 0)) (by (with_reducible repeat (first | refine Zn ?_ _ | refine Zd ?_ | refine Za ?_ _)); exact BK239.out)) : gb239 ≠ gb245)); have n9_ := Zq ((by rw [hg]; exact Nat.ne_of_gt (blk_lt (g := gb239) (o := .cells #[.int .u64 a1_0, .int .u64 a1_1, .int .u64 a1_2, .int .u64 a1_3, .bool a1_4] 26 (0, 0)) (by (with_reducible repeat (first | refine Zn ?_ _ | refine Zd ?_ | refine Za ?_ _)); exact BK239.out)) : gb245 ≠ gb239)); clear BK238; clear BK239; clear HB; have BK238 := n0_; have BK239 := n1_; have HB := n2_; have BK245 := n3_; have GW245 := n4_; have GE245 := n5_; have NB238_245 := n6_; have NB245_238 := n7_; have NB239_245 := n8_; have NB245_239 := n9_; clear n0_ n1_ n2_ n3_ n4_ n5_ n6_ n7_ n8_ n9_; clear hb hbox hg; have hnb49 := NB245_238.out; have hnc49 := NB238_245.out; have hnb50 := NB245_239.out; have hnc50 := NB239_245.out; have hcz51_0 : w48.cell? ⟨gb245, 0, none⟩ = some (.int .u64 0) := (blk_cell BK245.out 0).trans rfl; have hcz51_1 : w48.cell? ⟨gb245, 1, none⟩ = some (.int .u64 0) := (blk_cell BK245.out 1).trans rfl; have hcz51_2 : w48.cell? ⟨gb245, 2, none⟩ = some (.int .u64 0) := (blk_cell BK245.out 2).trans rfl; have hcz51_3 : w48.cell? ⟨gb245, 3, none⟩ = some (.int .u64 0) := (blk_cell BK245.out 3).trans rfl; have hfz51_0 := blk_frozen BK245.out 0; have hfz51_1 := blk_frozen BK245.out 1; have hfz51_2 := blk_frozen BK245.out 2; have hfz51_3 := blk_frozen BK245.out 3; have hcz52_0 : w48.cell? ⟨gb239, 0, none⟩ = some (.int .u64 a1_0) := (blk_cell BK239.out 0).trans rfl; have hcz52_1 : w48.cell? ⟨gb239, 1, none⟩ = some (.int .u64 a1_1) := (blk_cell BK239.out 1).trans rfl; have hcz52_2 : w48.cell? ⟨gb239, 2, none⟩ = some (.int .u64 a1_2) := (blk_cell BK239.out 2).trans rfl; have hcz52_3 : w48.cell? ⟨gb239, 3, none⟩ = some (.int .u64 a1_3) := (blk_cell BK239.out 3).trans rfl; have hcz52_4 : w48.cell? ⟨gb239, 4, none⟩ = some (.bool a1_4) := (blk_cell BK239.out 4).trans rfl; have hfz52_0 := blk_frozen BK239.out 0; have hfz52_1 := blk_frozen BK239.out 1; have hfz52_2 := blk_frozen BK239.out 2; have hfz52_3 := blk_frozen BK239.out 3; have hfz52_4 := blk_frozen BK239.out 4) | ((with_reducible refine gate_callee (f := 11) rfl ?_); refine goesL_ (some 29) rfl rfl Tryd.func11 (by kernel_rfl) rfl #[.agg #[.int .u64 a1_0, .int .u64 a1_1, .int .u64 a1_2, .int .u64 a1_3, .bool a1_4]] rfl (by (try simp only [List.map_toArray, List.map_cons, List.map_nil]); first | done | rfl | (simp only [List.length_drop, List.length_take]; rfl)) ?_; (with_reducible refine (tenementlaw06_Vector_vector.calls kj7 a1_0 a1_1 a1_2 a1_3 a1_4 t246 t247 t248 t249 _ A14.out).mono ?_); rintro e w53 ⟨rfl, hb⟩; refine ⟨_, rfl, ?_⟩; have n0_ := Zq (Zb (g := gb238) (o := .cells #[.int .u64 a0_0, .int .u64 a0_1, .int .u64 a0_2, .int .u64 a0_3, .bool a0_4] 26 (0, 0)) (by (repeat (first | (with_reducible first | refine Zn ?_ _ | refine Zd ?_ | refine Za ?_ _) | refine Zf ?_ NB238_245.out _)); exact BK238.out) hb); have n1_ := Zq (Zb (g := gb239) (o := .cells #[.int .u64 a1_0, .int .u64 a1_1, .int .u64 a1_2, .int .u64 a1_3, .bool a1_4] 26 (0, 0)) (by (repeat (first | (with_reducible first | refine Zn ?_ _ | refine Zd ?_ | refine Za ?_ _) | refine Zf ?_ NB239_245.out _)); exact BK239.out) hb); have n2_ := Zq (Zb (g := gb245) (o := .cells #[.int .u64 t241, .int .u64 t242, .int .u64 t243, .int .u64 t244] 24 (0, 0)) (by (with_reducible repeat (first | refine Zn ?_ _ | refine Zd ?_ | refine Za ?_ _)); refine blk_put (cs := #[.int .u64 t241, .int .u64 t242, .int .u64 t243, .int .u64 0]) ?_ 3 _ rfl; (with_reducible repeat (first | refine Zn ?_ _ | refine Zd ?_ | refine Za ?_ _)); refine blk_put (cs := #[.int .u64 t241, .int .u64 t242, .int .u64 0, .int .u64 0]) ?_ 2 _ rfl; (with_reducible repeat (first | refine Zn ?_ _ | refine Zd ?_ | refine Za ?_ _)); refine blk_put (cs := #[.int .u64 t241, .int .u64 0, .int .u64 0, .int .u64 0]) ?_ 1 _ rfl; (with_reducible repeat (first | refine Zn ?_ _ | refine Zd ?_ | refine Za ?_ _)); refine blk_put (cs := #[.int .u64 0, .int .u64 0, .int .u64 0, .int .u64 0]) ?_ 0 _ rfl; (with_reducible repeat (first | refine Zn ?_ _ | refine Zd ?_ | refine Za ?_ _)); exact BK245.out) hb); have n3_ := Zq (below_step (by repeat (first | (with_reducible first | exact HB.out | apply below_alloc | apply Zw | apply Ze | refine Zs ?_ GE238.out | refine Zs ?_ GE239.out | refine Zs ?_ GE245.out) | exact HB.out)) hb); clear BK238; clear BK239; clear BK245; clear HB; have BK238 := n0_; have BK239 := n1_; have BK245 := n2_; have HB := n3_; clear n0_ n1_ n2_ n3_; (try clear hb); (try clear hb2); (try clear hk); (try clear hi)) | ((with_reducible refine gate_dst (N := 13) rfl ?_); refine box_event ?hg (N := 13) ?hd (cs := #[.int .u64 0, .int .u64 0, .int .u64 0, .int .u64 0]) (t := 24) ?hr ?_; (case hd => rfl); (case hg => rfl); (case hr => first | (go_simp; done) | (go_simp; rfl)); intro gb250 hg w54 hbox hb; have n0_ := Zq (Zb (g := gb238) (o := .cells #[.int .u64 a0_0, .int .u64 a0_1, .int .u64 a0_2, .int .u64 a0_3, .bool a0_4] 26 (0, 0)) (by (with_reducible repeat (first | refine Zn ?_ _ | refine Zd ?_ | refine Za ?_ _)); exact BK238.out) hb); have n1_ := Zq (Zb (g := gb239) (o := .cells #[.int .u64 a1_0, .int .u64 a1_1, .int .u64 a1_2, .int .u64 a1_3, .bool a1_4] 26 (0, 0)) (by (with_reducible repeat (first | refine Zn ?_ _ | refine Zd ?_ | refine Za ?_ _)); exact BK239.out) hb); have n2_ := Zq (Zb (g := gb245) (o := .cells #[.int .u64 t241, .int .u64 t242, .int .u64 t243, .int .u64 t244] 24 (0, 0)) (by (with_reducible repeat (first | refine Zn ?_ _ | refine Zd ?_ | refine Za ?_ _)); exact BK245.out) hb); have n3_ := Zq (below_step (by repeat (first | (with_reducible first | exact HB.out | apply below_alloc | apply Zw | apply Ze | refine Zs ?_ GE238.out | refine Zs ?_ GE239.out | refine Zs ?_ GE245.out) | exact HB.out)) hb); have n4_ := Zq (hbox); have n5_ := Zq ((by rw [hg]; exact (below_size (by repeat (first | (with_reducible first | exact HB.out | apply below_alloc | apply Zw | apply Ze | refine Zs ?_ GE238.out | refine Zs ?_ GE239.out | refine Zs ?_ GE245.out) | exact HB.out))) : w.heap.size ≤ gb250)); have n6_ := Zq ((by rw [hg]; exact (below_size (by repeat (first | (with_reducible first | exact HB.out | apply below_alloc | apply Zw | apply Ze | refine Zs ?_ GE238.out | refine Zs ?_ GE239.out | refine Zs ?_ GE245.out) | exact HB.out))) : w.heap.size ≤ gb250)); have n7_ := Zq ((by rw [hg]; exact Nat.ne_of_lt (blk_lt (g := gb238) (o := .cells #[.int .u64 a0_0, .int .u64 a0_1, .int .u64 a0_2, .int .u64 a0_3, .bool a0_4] 26 (0, 0)) (by (with_reducible repeat (first | refine Zn ?_ _ | refine Zd ?_ | refine Za ?_ _)); exact BK238.out)) : gb238 ≠ gb250)); have n8_ := Zq ((by rw [hg]; exact Nat.ne_of_gt (blk_lt (g := gb238) (o := .cells #[.int .u64 a0_0, .int .u64 a0_1, .int .u64 a0_2, .int .u64 a0_3, .bool a0_4] 26 (0, 0)) (by (with_reducible repeat (first | refine Zn ?_ _ | refine Zd ?_ | refine Za ?_ _)); exact BK238.out)) : gb250 ≠ gb238)); have n9_ := Zq ((by rw [hg]; exact Nat.ne_of_lt (blk_lt (g := gb239) (o := .cells #[.int .u64 a1_0, .int .u64 a1_1, .int .u64 a1_2, .int .u64 a1_3, .bool a1_4] 26 (0, 0)) (by (with_reducible repeat (first | refine Zn ?_ _ | refine Zd ?_ | refine Za ?_ _)); exact BK239.out)) : gb239 ≠ gb250)); have n10_ := Zq ((by rw [hg]; exact Nat.ne_of_gt (blk_lt (g := gb239) (o := .cells #[.int .u64 a1_0, .int .u64 a1_1, .int .u64 a1_2, .int .u64 a1_3, .bool a1_4] 26 (0, 0)) (by (with_reducible repeat (first | refine Zn ?_ _ | refine Zd ?_ | refine Za ?_ _)); exact BK239.out)) : gb250 ≠ gb239)); have n11_ := Zq ((by rw [hg]; exact Nat.ne_of_lt (blk_lt (g := gb245) (o := .cells #[.int .u64 t241, .int .u64 t242, .int .u64 t243, .int .u64 t244] 24 (0, 0)) (by (with_reducible repeat (first | refine Zn ?_ _ | refine Zd ?_ | refine Za ?_ _)); exact BK245.out)) : gb245 ≠ gb250)); have n12_ := Zq ((by rw [hg]; exact Nat.ne_of_gt (blk_lt (g := gb245) (o := .cells #[.int .u64 t241, .int .u64 t242, .int .u64 t243, .int .u64 t244] 24 (0, 0)) (by (with_reducible repeat (first | refine Zn ?_ _ | refine Zd ?_ | refine Za ?_ _)); exact BK245.out)) : gb250 ≠ gb245)); clear BK238; clear BK239; clear BK245; clear HB; have BK238 := n0_; have BK239 := n1_; have BK245 := n2_; have HB := n3_; have BK250 := n4_; have GW250 := n5_; have GE250 := n6_; have NB238_250 := n7_; have NB250_238 := n8_; have NB239_250 := n9_; have NB250_239 := n10_; have NB245_250 := n11_; have NB250_245 := n12_; clear n0_ n1_ n2_ n3_ n4_ n5_ n6_ n7_ n8_ n9_ n10_ n11_ n12_; clear hb hbox hg; have hnb55 := NB250_238.out; have hnc55 := NB238_250.out; have hnb56 := NB250_239.out; have hnc56 := NB239_250.out; have hnb57 := NB250_245.out; have hnc57 := NB245_250.out; have hcz58_0 : w54.cell? ⟨gb250, 0, none⟩ = some (.int .u64 0) := (blk_cell BK250.out 0).trans rfl; have hcz58_1 : w54.cell? ⟨gb250, 1, none⟩ = some (.int .u64 0) := (blk_cell BK250.out 1).trans rfl; have hcz58_2 : w54.cell? ⟨gb250, 2, none⟩ = some (.int .u64 0) := (blk_cell BK250.out 2).trans rfl; have hcz58_3 : w54.cell? ⟨gb250, 3, none⟩ = some (.int .u64 0) := (blk_cell BK250.out 3).trans rfl; have hfz58_0 := blk_frozen BK250.out 0; have hfz58_1 := blk_frozen BK250.out 1; have hfz58_2 := blk_frozen BK250.out 2; have hfz58_3 := blk_frozen BK250.out 3; have hcz59_0 : w54.cell? ⟨gb245, 0, none⟩ = some (.int .u64 t241) := (blk_cell BK245.out 0).trans rfl; have hcz59_1 : w54.cell? ⟨gb245, 1, none⟩ = some (.int .u64 t242) := (blk_cell BK245.out 1).trans rfl; have hcz59_2 : w54.cell? ⟨gb245, 2, none⟩ = some (.int .u64 t243) := (blk_cell BK245.out 2).trans rfl; have hcz59_3 : w54.cell? ⟨gb245, 3, none⟩ = some (.int .u64 t244) := (blk_cell BK245.out 3).trans rfl; have hfz59_0 := blk_frozen BK245.out 0; have hfz59_1 := blk_frozen BK245.out 1; have hfz59_2 := blk_frozen BK245.out 2; have hfz59_3 := blk_frozen BK245.out 3) | ((with_reducible refine gate_dst (N := 14) rfl ?_); refine box_event ?hg (N := 14) ?hd (cs := #[.int .u64 0, .int .u64 0, .int .u64 0, .int .u64 0]) (t := 29) ?hr ?_; (case hd => rfl); (case hg => rfl); (case hr => first | (go_simp; done) | (go_simp; rfl)); intro gb251 hg w60 hbox hb; have n0_ := Zq (Zb (g := gb238) (o := .cells #[.int .u64 a0_0, .int .u64 a0_1, .int .u64 a0_2, .int .u64 a0_3, .bool a0_4] 26 (0, 0)) (by (repeat (first | (with_reducible first | refine Zn ?_ _ | refine Zd ?_ | refine Za ?_ _) | refine Zf ?_ NB238_250.out _)); exact BK238.out) hb); have n1_ := Zq (Zb (g := gb239) (o := .cells #[.int .u64 a1_0, .int .u64 a1_1, .int .u64 a1_2, .int .u64 a1_3, .bool a1_4] 26 (0, 0)) (by (repeat (first | (with_reducible first | refine Zn ?_ _ | refine Zd ?_ | refine Za ?_ _) | refine Zf ?_ NB239_250.out _)); exact BK239.out) hb); have n2_ := Zq (Zb (g := gb245) (o := .cells #[.int .u64 t241, .int .u64 t242, .int .u64 t243, .int .u64 t244] 24 (0, 0)) (by (repeat (first | (with_reducible first | refine Zn ?_ _ | refine Zd ?_ | refine Za ?_ _) | refine Zf ?_ NB245_250.out _)); exact BK245.out) hb); have n3_ := Zq (Zb (g := gb250) (o := .cells #[.int .u64 t246, .int .u64 t247, .int .u64 t248, .int .u64 t249] 24 (0, 0)) (by (with_reducible repeat (first | refine Zn ?_ _ | refine Zd ?_ | refine Za ?_ _)); refine blk_put (cs := #[.int .u64 t246, .int .u64 t247, .int .u64 t248, .int .u64 0]) ?_ 3 _ rfl; (with_reducible repeat (first | refine Zn ?_ _ | refine Zd ?_ | refine Za ?_ _)); refine blk_put (cs := #[.int .u64 t246, .int .u64 t247, .int .u64 0, .int .u64 0]) ?_ 2 _ rfl; (with_reducible repeat (first | refine Zn ?_ _ | refine Zd ?_ | refine Za ?_ _)); refine blk_put (cs := #[.int .u64 t246, .int .u64 0, .int .u64 0, .int .u64 0]) ?_ 1 _ rfl; (with_reducible repeat (first | refine Zn ?_ _ | refine Zd ?_ | refine Za ?_ _)); refine blk_put (cs := #[.int .u64 0, .int .u64 0, .int .u64 0, .int .u64 0]) ?_ 0 _ rfl; (with_reducible repeat (first | refine Zn ?_ _ | refine Zd ?_ | refine Za ?_ _)); exact BK250.out) hb); have n4_ := Zq (below_step (by repeat (first | (with_reducible first | exact HB.out | apply below_alloc | apply Zw | apply Ze | refine Zs ?_ GE238.out | refine Zs ?_ GE239.out | refine Zs ?_ GE245.out | refine Zs ?_ GE250.out) | exact HB.out)) hb); have n5_ := Zq (hbox); have n6_ := Zq ((by rw [hg]; exact (below_size (by repeat (first | (with_reducible first | exact HB.out | apply below_alloc | apply Zw | apply Ze | refine Zs ?_ GE238.out | refine Zs ?_ GE239.out | refine Zs ?_ GE245.out | refine Zs ?_ GE250.out) | exact HB.out))) : w.heap.size ≤ gb251)); have n7_ := Zq ((by rw [hg]; exact (below_size (by repeat (first | (with_reducible first | exact HB.out | apply below_alloc | apply Zw | apply Ze | refine Zs ?_ GE238.out | refine Zs ?_ GE239.out | refine Zs ?_ GE245.out | refine Zs ?_ GE250.out) | exact HB.out))) : w.heap.size ≤ gb251)); have n8_ := Zq ((by rw [hg]; exact Nat.ne_of_lt (blk_lt (g := gb238) (o := .cells #[.int .u64 a0_0, .int .u64 a0_1, .int .u64 a0_2, .int .u64 a0_3, .bool a0_4] 26 (0, 0)) (by (repeat (first | (with_reducible first | refine Zn ?_ _ | refine Zd ?_ | refine Za ?_ _) | refine Zf ?_ NB238_250.out _)); exact BK238.out)) : gb238 ≠ gb251)); have n9_ := Zq ((by rw [hg]; exact Nat.ne_of_gt (blk_lt (g := gb238) (o := .cells #[.int .u64 a0_0, .int .u64 a0_1, .int .u64 a0_2, .int .u64 a0_3, .bool a0_4] 26 (0, 0)) (by (repeat (first | (with_reducible first | refine Zn ?_ _ | refine Zd ?_ | refine Za ?_ _) | refine Zf ?_ NB238_250.out _)); exact BK238.out)) : gb251 ≠ gb238)); have n10_ := Zq ((by rw [hg]; exact Nat.ne_of_lt (blk_lt (g := gb239) (o := .cells #[.int .u64 a1_0, .int .u64 a1_1, .int .u64 a1_2, .int .u64 a1_3, .bool a1_4] 26 (0, 0)) (by (repeat (first | (with_reducible first | refine Zn ?_ _ | refine Zd ?_ | refine Za ?_ _) | refine Zf ?_ NB239_250.out _)); exact BK239.out)) : gb239 ≠ gb251)); have n11_ := Zq ((by rw [hg]; exact Nat.ne_of_gt (blk_lt (g := gb239) (o := .cells #[.int .u64 a1_0, .int .u64 a1_1, .int .u64 a1_2, .int .u64 a1_3, .bool a1_4] 26 (0, 0)) (by (repeat (first | (with_reducible first | refine Zn ?_ _ | refine Zd ?_ | refine Za ?_ _) | refine Zf ?_ NB239_250.out _)); exact BK239.out)) : gb251 ≠ gb239)); have n12_ := Zq ((by rw [hg]; exact Nat.ne_of_lt (blk_lt (g := gb245) (o := .cells #[.int .u64 t241, .int .u64 t242, .int .u64 t243, .int .u64 t244] 24 (0, 0)) (by (repeat (first | (with_reducible first | refine Zn ?_ _ | refine Zd ?_ | refine Za ?_ _) | refine Zf ?_ NB245_250.out _)); exact BK245.out)) : gb245 ≠ gb251)); have n13_ := Zq ((by rw [hg]; exact Nat.ne_of_gt (blk_lt (g := gb245) (o := .cells #[.int .u64 t241, .int .u64 t242, .int .u64 t243, .int .u64 t244] 24 (0, 0)) (by (repeat (first | (with_reducible first | refine Zn ?_ _ | refine Zd ?_ | refine Za ?_ _) | refine Zf ?_ NB245_250.out _)); exact BK245.out)) : gb251 ≠ gb245)); have n14_ := Zq ((by rw [hg]; exact Nat.ne_of_lt (blk_lt (g := gb250) (o := .cells #[.int .u64 t246, .int .u64 t247, .int .u64 t248, .int .u64 t249] 24 (0, 0)) (by (with_reducible repeat (first | refine Zn ?_ _ | refine Zd ?_ | refine Za ?_ _)); refine blk_put (cs := #[.int .u64 t246, .int .u64 t247, .int .u64 t248, .int .u64 0]) ?_ 3 _ rfl; (with_reducible repeat (first | refine Zn ?_ _ | refine Zd ?_ | refine Za ?_ _)); refine blk_put (cs := #[.int .u64 t246, .int .u64 t247, .int .u64 0, .int .u64 0]) ?_ 2 _ rfl; (with_reducible repeat (first | refine Zn ?_ _ | refine Zd ?_ | refine Za ?_ _)); refine blk_put (cs := #[.int .u64 t246, .int .u64 0, .int .u64 0, .int .u64 0]) ?_ 1 _ rfl; (with_reducible repeat (first | refine Zn ?_ _ | refine Zd ?_ | refine Za ?_ _)); refine blk_put (cs := #[.int .u64 0, .int .u64 0, .int .u64 0, .int .u64 0]) ?_ 0 _ rfl; (with_reducible repeat (first | refine Zn ?_ _ | refine Zd ?_ | refine Za ?_ _)); exact BK250.out)) : gb250 ≠ gb251)); have n15_ := Zq ((by rw [hg]; exact Nat.ne_of_gt (blk_lt (g := gb250) (o := .cells #[.int .u64 t246, .int .u64 t247, .int .u64 t248, .int .u64 t249] 24 (0, 0)) (by (with_reducible repeat (first | refine Zn ?_ _ | refine Zd ?_ | refine Za ?_ _)); refine blk_put (cs := #[.int .u64 t246, .int .u64 t247, .int .u64 t248, .int .u64 0]) ?_ 3 _ rfl; (with_reducible repeat (first | refine Zn ?_ _ | refine Zd ?_ | refine Za ?_ _)); refine blk_put (cs := #[.int .u64 t246, .int .u64 t247, .int .u64 0, .int .u64 0]) ?_ 2 _ rfl; (with_reducible repeat (first | refine Zn ?_ _ | refine Zd ?_ | refine Za ?_ _)); refine blk_put (cs := #[.int .u64 t246, .int .u64 0, .int .u64 0, .int .u64 0]) ?_ 1 _ rfl; (with_reducible repeat (first | refine Zn ?_ _ | refine Zd ?_ | refine Za ?_ _)); refine blk_put (cs := #[.int .u64 0, .int .u64 0, .int .u64 0, .int .u64 0]) ?_ 0 _ rfl; (with_reducible repeat (first | refine Zn ?_ _ | refine Zd ?_ | refine Za ?_ _)); exact BK250.out)) : gb251 ≠ gb250)); clear BK238; clear BK239; clear BK245; clear BK250; clear HB; have BK238 := n0_; have BK239 := n1_; have BK245 := n2_; have BK250 := n3_; have HB := n4_; have BK251 := n5_; have GW251 := n6_; have GE251 := n7_; have NB238_251 := n8_; have NB251_238 := n9_; have NB239_251 := n10_; have NB251_239 := n11_; have NB245_251 := n12_; have NB251_245 := n13_; have NB250_251 := n14_; have NB251_250 := n15_; clear n0_ n1_ n2_ n3_ n4_ n5_ n6_ n7_ n8_ n9_ n10_ n11_ n12_ n13_ n14_ n15_; clear hb hbox hg; have hnb61 := NB251_238.out; have hnc61 := NB238_251.out; have hnb62 := NB251_239.out; have hnc62 := NB239_251.out; have hnb63 := NB251_245.out; have hnc63 := NB245_251.out; have hnb64 := NB251_250.out; have hnc64 := NB250_251.out; have hcz65_0 : w60.cell? ⟨gb251, 0, none⟩ = some (.int .u64 0) := (blk_cell BK251.out 0).trans rfl; have hcz65_1 : w60.cell? ⟨gb251, 1, none⟩ = some (.int .u64 0) := (blk_cell BK251.out 1).trans rfl; have hcz65_2 : w60.cell? ⟨gb251, 2, none⟩ = some (.int .u64 0) := (blk_cell BK251.out 2).trans rfl; have hcz65_3 : w60.cell? ⟨gb251, 3, none⟩ = some (.int .u64 0) := (blk_cell BK251.out 3).trans rfl; have hfz65_0 := blk_frozen BK251.out 0; have hfz65_1 := blk_frozen BK251.out 1; have hfz65_2 := blk_frozen BK251.out 2; have hfz65_3 := blk_frozen BK251.out 3; have hcz66_0 : w60.cell? ⟨gb250, 0, none⟩ = some (.int .u64 t246) := (blk_cell BK250.out 0).trans rfl; have hcz66_1 : w60.cell? ⟨gb250, 1, none⟩ = some (.int .u64 t247) := (blk_cell BK250.out 1).trans rfl; have hcz66_2 : w60.cell? ⟨gb250, 2, none⟩ = some (.int .u64 t248) := (blk_cell BK250.out 2).trans rfl; have hcz66_3 : w60.cell? ⟨gb250, 3, none⟩ = some (.int .u64 t249) := (blk_cell BK250.out 3).trans rfl; have hfz66_0 := blk_frozen BK250.out 0; have hfz66_1 := blk_frozen BK250.out 1; have hfz66_2 := blk_frozen BK250.out 2; have hfz66_3 := blk_frozen BK250.out 3) | ((with_reducible refine gate_dst (N := 15) rfl ?_); refine box_event ?hg (N := 15) ?hd (cs := #[.int .u64 0, .int .u64 0, .int .u64 0, .int .u64 0]) (t := 29) ?hr ?_; (case hd => rfl); (case hg => rfl); (case hr => first | (go_simp; done) | (go_simp; rfl)); intro gb252 hg w67 hbox hb; have n0_ := Zq (Zb (g := gb238) (o := .cells #[.int .u64 a0_0, .int .u64 a0_1, .int .u64 a0_2, .int .u64 a0_3, .bool a0_4] 26 (0, 0)) (by (repeat (first | (with_reducible first | refine Zn ?_ _ | refine Zd ?_ | refine Za ?_ _) | refine Zf ?_ NB238_251.out _)); exact BK238.out) hb); have n1_ := Zq (Zb (g := gb239) (o := .cells #[.int .u64 a1_0, .int .u64 a1_1, .int .u64 a1_2, .int .u64 a1_3, .bool a1_4] 26 (0, 0)) (by (repeat (first | (with_reducible first | refine Zn ?_ _ | refine Zd ?_ | refine Za ?_ _) | refine Zf ?_ NB239_251.out _)); exact BK239.out) hb); have n2_ := Zq (Zb (g := gb245) (o := .cells #[.int .u64 t241, .int .u64 t242, .int .u64 t243, .int .u64 t244] 24 (0, 0)) (by (repeat (first | (with_reducible first | refine Zn ?_ _ | refine Zd ?_ | refine Za ?_ _) | refine Zf ?_ NB245_251.out _)); exact BK245.out) hb); have n3_ := Zq (Zb (g := gb250) (o := .cells #[.int .u64 t246, .int .u64 t247, .int .u64 t248, .int .u64 t249] 24 (0, 0)) (by (repeat (first | (with_reducible first | refine Zn ?_ _ | refine Zd ?_ | refine Za ?_ _) | refine Zf ?_ NB250_251.out _)); exact BK250.out) hb); have n4_ := Zq (Zb (g := gb251) (o := .cells #[.int .u64 t241, .int .u64 t242, .int .u64 t243, .int .u64 t244] 29 (0, 0)) (by (with_reducible repeat (first | refine Zn ?_ _ | refine Zd ?_ | refine Za ?_ _)); refine blk_put (cs := #[.int .u64 t241, .int .u64 t242, .int .u64 t243, .int .u64 0]) ?_ 3 _ rfl; (with_reducible repeat (first | refine Zn ?_ _ | refine Zd ?_ | refine Za ?_ _)); refine blk_put (cs := #[.int .u64 t241, .int .u64 t242, .int .u64 0, .int .u64 0]) ?_ 2 _ rfl; (with_reducible repeat (first | refine Zn ?_ _ | refine Zd ?_ | refine Za ?_ _)); refine blk_put (cs := #[.int .u64 t241, .int .u64 0, .int .u64 0, .int .u64 0]) ?_ 1 _ rfl; (with_reducible repeat (first | refine Zn ?_ _ | refine Zd ?_ | refine Za ?_ _)); refine blk_put (cs := #[.int .u64 0, .int .u64 0, .int .u64 0, .int .u64 0]) ?_ 0 _ rfl; (with_reducible repeat (first | refine Zn ?_ _ | refine Zd ?_ | refine Za ?_ _)); exact BK251.out) hb); have n5_ := Zq (below_step (by repeat (first | (with_reducible first | exact HB.out | apply below_alloc | apply Zw | apply Ze | refine Zs ?_ GE238.out | refine Zs ?_ GE239.out | refine Zs ?_ GE245.out | refine Zs ?_ GE250.out | refine Zs ?_ GE251.out) | exact HB.out)) hb); have n6_ := Zq (hbox); have n7_ := Zq ((by rw [hg]; exact (below_size (by repeat (first | (with_reducible first | exact HB.out | apply below_alloc | apply Zw | apply Ze | refine Zs ?_ GE238.out | refine Zs ?_ GE239.out | refine Zs ?_ GE245.out | refine Zs ?_ GE250.out | refine Zs ?_ GE251.out) | exact HB.out))) : w.heap.size ≤ gb252)); have n8_ := Zq ((by rw [hg]; exact (below_size (by repeat (first | (with_reducible first | exact HB.out | apply below_alloc | apply Zw | apply Ze | refine Zs ?_ GE238.out | refine Zs ?_ GE239.out | refine Zs ?_ GE245.out | refine Zs ?_ GE250.out | refine Zs ?_ GE251.out) | exact HB.out))) : w.heap.size ≤ gb252)); have n9_ := Zq ((by rw [hg]; exact Nat.ne_of_lt (blk_lt (g := gb238) (o := .cells #[.int .u64 a0_0, .int .u64 a0_1, .int .u64 a0_2, .int .u64 a0_3, .bool a0_4] 26 (0, 0)) (by (repeat (first | (with_reducible first | refine Zn ?_ _ | refine Zd ?_ | refine Za ?_ _) | refine Zf ?_ NB238_251.out _)); exact BK238.out)) : gb238 ≠ gb252)); have n10_ := Zq ((by rw [hg]; exact Nat.ne_of_gt (blk_lt (g := gb238) (o := .cells #[.int .u64 a0_0, .int .u64 a0_1, .int .u64 a0_2, .int .u64 a0_3, .bool a0_4] 26 (0, 0)) (by (repeat (first | (with_reducible first | refine Zn ?_ _ | refine Zd ?_ | refine Za ?_ _) | refine Zf ?_ NB238_251.out _)); exact BK238.out)) : gb252 ≠ gb238)); have n11_ := Zq ((by rw [hg]; exact Nat.ne_of_lt (blk_lt (g := gb239) (o := .cells #[.int .u64 a1_0, .int .u64 a1_1, .int .u64 a1_2, .int .u64 a1_3, .bool a1_4] 26 (0, 0)) (by (repeat (first | (with_reducible first | refine Zn ?_ _ | refine Zd ?_ | refine Za ?_ _) | refine Zf ?_ NB239_251.out _)); exact BK239.out)) : gb239 ≠ gb252)); have n12_ := Zq ((by rw [hg]; exact Nat.ne_of_gt (blk_lt (g := gb239) (o := .cells #[.int .u64 a1_0, .int .u64 a1_1, .int .u64 a1_2, .int .u64 a1_3, .bool a1_4] 26 (0, 0)) (by (repeat (first | (with_reducible first | refine Zn ?_ _ | refine Zd ?_ | refine Za ?_ _) | refine Zf ?_ NB239_251.out _)); exact BK239.out)) : gb252 ≠ gb239)); have n13_ := Zq ((by rw [hg]; exact Nat.ne_of_lt (blk_lt (g := gb245) (o := .cells #[.int .u64 t241, .int .u64 t242, .int .u64 t243, .int .u64 t244] 24 (0, 0)) (by (repeat (first | (with_reducible first | refine Zn ?_ _ | refine Zd ?_ | refine Za ?_ _) | refine Zf ?_ NB245_251.out _)); exact BK245.out)) : gb245 ≠ gb252)); have n14_ := Zq ((by rw [hg]; exact Nat.ne_of_gt (blk_lt (g := gb245) (o := .cells #[.int .u64 t241, .int .u64 t242, .int .u64 t243, .int .u64 t244] 24 (0, 0)) (by (repeat (first | (with_reducible first | refine Zn ?_ _ | refine Zd ?_ | refine Za ?_ _) | refine Zf ?_ NB245_251.out _)); exact BK245.out)) : gb252 ≠ gb245)); have n15_ := Zq ((by rw [hg]; exact Nat.ne_of_lt (blk_lt (g := gb250) (o := .cells #[.int .u64 t246, .int .u64 t247, .int .u64 t248, .int .u64 t249] 24 (0, 0)) (by (repeat (first | (with_reducible first | refine Zn ?_ _ | refine Zd ?_ | refine Za ?_ _) | refine Zf ?_ NB250_251.out _)); exact BK250.out)) : gb250 ≠ gb252)); have n16_ := Zq ((by rw [hg]; exact Nat.ne_of_gt (blk_lt (g := gb250) (o := .cells #[.int .u64 t246, .int .u64 t247, .int .u64 t248, .int .u64 t249] 24 (0, 0)) (by (repeat (first | (with_reducible first | refine Zn ?_ _ | refine Zd ?_ | refine Za ?_ _) | refine Zf ?_ NB250_251.out _)); exact BK250.out)) : gb252 ≠ gb250)); have n17_ := Zq ((by rw [hg]; exact Nat.ne_of_lt (blk_lt (g := gb251) (o := .cells #[.int .u64 t241, .int .u64 t242, .int .u64 t243, .int .u64 t244] 29 (0, 0)) (by (with_reducible repeat (first | refine Zn ?_ _ | refine Zd ?_ | refine Za ?_ _)); refine blk_put (cs := #[.int .u64 t241, .int .u64 t242, .int .u64 t243, .int .u64 0]) ?_ 3 _ rfl; (with_reducible repeat (first | refine Zn ?_ _ | refine Zd ?_ | refine Za ?_ _)); refine blk_put (cs := #[.int .u64 t241, .int .u64 t242, .int .u64 0, .int .u64 0]) ?_ 2 _ rfl; (with_reducible repeat (first | refine Zn ?_ _ | refine Zd ?_ | refine Za ?_ _)); refine blk_put (cs := #[.int .u64 t241, .int .u64 0, .int .u64 0, .int .u64 0]) ?_ 1 _ rfl; (with_reducible repeat (first | refine Zn ?_ _ | refine Zd ?_ | refine Za ?_ _)); refine blk_put (cs := #[.int .u64 0, .int .u64 0, .int .u64 0, .int .u64 0]) ?_ 0 _ rfl; (with_reducible repeat (first | refine Zn ?_ _ | refine Zd ?_ | refine Za ?_ _)); exact BK251.out)) : gb251 ≠ gb252)); have n18_ := Zq ((by rw [hg]; exact Nat.ne_of_gt (blk_lt (g := gb251) (o := .cells #[.int .u64 t241, .int .u64 t242, .int .u64 t243, .int .u64 t244] 29 (0, 0)) (by (with_reducible repeat (first | refine Zn ?_ _ | refine Zd ?_ | refine Za ?_ _)); refine blk_put (cs := #[.int .u64 t241, .int .u64 t242, .int .u64 t243, .int .u64 0]) ?_ 3 _ rfl; (with_reducible repeat (first | refine Zn ?_ _ | refine Zd ?_ | refine Za ?_ _)); refine blk_put (cs := #[.int .u64 t241, .int .u64 t242, .int .u64 0, .int .u64 0]) ?_ 2 _ rfl; (with_reducible repeat (first | refine Zn ?_ _ | refine Zd ?_ | refine Za ?_ _)); refine blk_put (cs := #[.int .u64 t241, .int .u64 0, .int .u64 0, .int .u64 0]) ?_ 1 _ rfl; (with_reducible repeat (first | refine Zn ?_ _ | refine Zd ?_ | refine Za ?_ _)); refine blk_put (cs := #[.int .u64 0, .int .u64 0, .int .u64 0, .int .u64 0]) ?_ 0 _ rfl; (with_reducible repeat (first | refine Zn ?_ _ | refine Zd ?_ | refine Za ?_ _)); exact BK251.out)) : gb252 ≠ gb251)); clear BK238; clear BK239; clear BK245; clear BK250; clear BK251; clear HB; have BK238 := n0_; have BK239 := n1_; have BK245 := n2_; have BK250 := n3_; have BK251 := n4_; have HB := n5_; have BK252 := n6_; have GW252 := n7_; have GE252 := n8_; have NB238_252 := n9_; have NB252_238 := n10_; have NB239_252 := n11_; have NB252_239 := n12_; have NB245_252 := n13_; have NB252_245 := n14_; have NB250_252 := n15_; have NB252_250 := n16_; have NB251_252 := n17_; have NB252_251 := n18_; clear n0_ n1_ n2_ n3_ n4_ n5_ n6_ n7_ n8_ n9_ n10_ n11_ n12_ n13_ n14_ n15_ n16_ n17_ n18_; clear hb hbox hg; have hnb68 := NB252_238.out; have hnc68 := NB238_252.out; have hnb69 := NB252_239.out; have hnc69 := NB239_252.out; have hnb70 := NB252_245.out; have hnc70 := NB245_252.out; have hnb71 := NB252_250.out; have hnc71 := NB250_252.out; have hnb72 := NB252_251.out; have hnc72 := NB251_252.out; have hcz73_0 : w67.cell? ⟨gb252, 0, none⟩ = some (.int .u64 0) := (blk_cell BK252.out 0).trans rfl; have hcz73_1 : w67.cell? ⟨gb252, 1, none⟩ = some (.int .u64 0) := (blk_cell BK252.out 1).trans rfl; have hcz73_2 : w67.cell? ⟨gb252, 2, none⟩ = some (.int .u64 0) := (blk_cell BK252.out 2).trans rfl; have hcz73_3 : w67.cell? ⟨gb252, 3, none⟩ = some (.int .u64 0) := (blk_cell BK252.out 3).trans rfl; have hfz73_0 := blk_frozen BK252.out 0; have hfz73_1 := blk_frozen BK252.out 1; have hfz73_2 := blk_frozen BK252.out 2; have hfz73_3 := blk_frozen BK252.out 3))
      have n0_ : Aside0 (((((w67.setCell ⟨gb252, 0, none⟩ (.int .u64 t246)).setCell ⟨gb252, 1, none⟩ (.int .u64 t247)).setCell ⟨gb252, 2, none⟩ (.int .u64 t248)).setCell ⟨gb252, 3, none⟩ (.int .u64 t249)).heap[gb238]? = some (.cells #[.int .u64 a0_0, .int .u64 a0_1, .int .u64 a0_2, .int .u64 a0_3, .bool a0_4] 26 (0, 0))) := ⟨by (repeat (first | (with_reducible first | refine Zn ?_ _ | refine Zd ?_ | refine Za ?_ _) | refine Zf ?_ NB238_252.out _)); exact BK238.out⟩
      have n1_ : Aside0 (((((w67.setCell ⟨gb252, 0, none⟩ (.int .u64 t246)).setCell ⟨gb252, 1, none⟩ (.int .u64 t247)).setCell ⟨gb252, 2, none⟩ (.int .u64 t248)).setCell ⟨gb252, 3, none⟩ (.int .u64 t249)).heap[gb239]? = some (.cells #[.int .u64 a1_0, .int .u64 a1_1, .int .u64 a1_2, .int .u64 a1_3, .bool a1_4] 26 (0, 0))) := ⟨by (repeat (first | (with_reducible first | refine Zn ?_ _ | refine Zd ?_ | refine Za ?_ _) | refine Zf ?_ NB239_252.out _)); exact BK239.out⟩
      have n2_ : Aside0 (((((w67.setCell ⟨gb252, 0, none⟩ (.int .u64 t246)).setCell ⟨gb252, 1, none⟩ (.int .u64 t247)).setCell ⟨gb252, 2, none⟩ (.int .u64 t248)).setCell ⟨gb252, 3, none⟩ (.int .u64 t249)).heap[gb245]? = some (.cells #[.int .u64 t241, .int .u64 t242, .int .u64 t243, .int .u64 t244] 24 (0, 0))) := ⟨by (repeat (first | (with_reducible first | refine Zn ?_ _ | refine Zd ?_ | refine Za ?_ _) | refine Zf ?_ NB245_252.out _)); exact BK245.out⟩
      have n3_ : Aside0 (((((w67.setCell ⟨gb252, 0, none⟩ (.int .u64 t246)).setCell ⟨gb252, 1, none⟩ (.int .u64 t247)).setCell ⟨gb252, 2, none⟩ (.int .u64 t248)).setCell ⟨gb252, 3, none⟩ (.int .u64 t249)).heap[gb250]? = some (.cells #[.int .u64 t246, .int .u64 t247, .int .u64 t248, .int .u64 t249] 24 (0, 0))) := ⟨by (repeat (first | (with_reducible first | refine Zn ?_ _ | refine Zd ?_ | refine Za ?_ _) | refine Zf ?_ NB250_252.out _)); exact BK250.out⟩
      have n4_ : Aside0 (((((w67.setCell ⟨gb252, 0, none⟩ (.int .u64 t246)).setCell ⟨gb252, 1, none⟩ (.int .u64 t247)).setCell ⟨gb252, 2, none⟩ (.int .u64 t248)).setCell ⟨gb252, 3, none⟩ (.int .u64 t249)).heap[gb251]? = some (.cells #[.int .u64 t241, .int .u64 t242, .int .u64 t243, .int .u64 t244] 29 (0, 0))) := ⟨by (repeat (first | (with_reducible first | refine Zn ?_ _ | refine Zd ?_ | refine Za ?_ _) | refine Zf ?_ NB251_252.out _)); exact BK251.out⟩
      have n5_ : Aside0 (((((w67.setCell ⟨gb252, 0, none⟩ (.int .u64 t246)).setCell ⟨gb252, 1, none⟩ (.int .u64 t247)).setCell ⟨gb252, 2, none⟩ (.int .u64 t248)).setCell ⟨gb252, 3, none⟩ (.int .u64 t249)).heap[gb252]? = some (.cells #[.int .u64 t246, .int .u64 t247, .int .u64 t248, .int .u64 t249] 29 (0, 0))) := ⟨by (with_reducible repeat (first | refine Zn ?_ _ | refine Zd ?_ | refine Za ?_ _)); refine blk_put (cs := #[.int .u64 t246, .int .u64 t247, .int .u64 t248, .int .u64 0]) ?_ 3 _ rfl; (with_reducible repeat (first | refine Zn ?_ _ | refine Zd ?_ | refine Za ?_ _)); refine blk_put (cs := #[.int .u64 t246, .int .u64 t247, .int .u64 0, .int .u64 0]) ?_ 2 _ rfl; (with_reducible repeat (first | refine Zn ?_ _ | refine Zd ?_ | refine Za ?_ _)); refine blk_put (cs := #[.int .u64 t246, .int .u64 0, .int .u64 0, .int .u64 0]) ?_ 1 _ rfl; (with_reducible repeat (first | refine Zn ?_ _ | refine Zd ?_ | refine Za ?_ _)); refine blk_put (cs := #[.int .u64 0, .int .u64 0, .int .u64 0, .int .u64 0]) ?_ 0 _ rfl; (with_reducible repeat (first | refine Zn ?_ _ | refine Zd ?_ | refine Za ?_ _)); exact BK252.out⟩
      have n6_ : Aside0 (Below w.heap.size w ((((w67.setCell ⟨gb252, 0, none⟩ (.int .u64 t246)).setCell ⟨gb252, 1, none⟩ (.int .u64 t247)).setCell ⟨gb252, 2, none⟩ (.int .u64 t248)).setCell ⟨gb252, 3, none⟩ (.int .u64 t249))) := ⟨by repeat (first | (with_reducible first | exact HB.out | apply below_alloc | apply Zw | apply Ze | refine Zs ?_ GE238.out | refine Zs ?_ GE239.out | refine Zs ?_ GE245.out | refine Zs ?_ GE250.out | refine Zs ?_ GE251.out | refine Zs ?_ GE252.out) | exact HB.out)⟩
      (try clear BK238)
      (try clear BK239)
      (try clear BK245)
      (try clear BK250)
      (try clear BK251)
      (try clear BK252)
      (try clear HB)
      generalize ((((w67.setCell ⟨gb252, 0, none⟩ (.int .u64 t246)).setCell ⟨gb252, 1, none⟩ (.int .u64 t247)).setCell ⟨gb252, 2, none⟩ (.int .u64 t248)).setCell ⟨gb252, 3, none⟩ (.int .u64 t249)) = w74 at n0_ n1_ n2_ n3_ n4_ n5_ n6_ ⊢
      have BK238 := n0_
      have BK239 := n1_
      have BK245 := n2_
      have BK250 := n3_
      have BK251 := n4_
      have BK252 := n5_
      have HB := n6_
      clear n0_ n1_ n2_ n3_ n4_ n5_ n6_
      have n0_ := Zq (Zd BK238.out)
      have n1_ := Zq (Zd BK239.out)
      have n2_ := Zq (Zd BK245.out)
      have n3_ := Zq (Zd BK250.out)
      have n4_ := Zq (Zd BK251.out)
      have n5_ := Zq (Zd BK252.out)
      have n6_ := Zq (Ze HB.out)
      clear BK238
      clear BK239
      clear BK245
      clear BK250
      clear BK251
      clear BK252
      clear HB
      have BK238 := n0_
      have BK239 := n1_
      have BK245 := n2_
      have BK250 := n3_
      have BK251 := n4_
      have BK252 := n5_
      have HB := n6_
      clear n0_ n1_ n2_ n3_ n4_ n5_ n6_
      refine start_ (n := 8) (S := fun w' => w'.cell? ⟨gb245, 0, none⟩ = some (.int .u64 t241) ∧ w'.cell? ⟨gb245, 1, none⟩ = some (.int .u64 t242) ∧ w'.cell? ⟨gb245, 2, none⟩ = some (.int .u64 t243) ∧ w'.cell? ⟨gb245, 3, none⟩ = some (.int .u64 t244) ∧ w'.cell? ⟨gb250, 0, none⟩ = some (.int .u64 t246) ∧ w'.cell? ⟨gb250, 1, none⟩ = some (.int .u64 t247) ∧ w'.cell? ⟨gb250, 2, none⟩ = some (.int .u64 t248) ∧ w'.cell? ⟨gb250, 3, none⟩ = some (.int .u64 t249) ∧ w'.cell? ⟨gb251, 0, none⟩ = some (.int .u64 t241) ∧ w'.cell? ⟨gb251, 1, none⟩ = some (.int .u64 t242) ∧ w'.cell? ⟨gb251, 2, none⟩ = some (.int .u64 t243) ∧ w'.cell? ⟨gb251, 3, none⟩ = some (.int .u64 t244) ∧ w'.cell? ⟨gb252, 0, none⟩ = some (.int .u64 t246) ∧ w'.cell? ⟨gb252, 1, none⟩ = some (.int .u64 t247) ∧ w'.cell? ⟨gb252, 2, none⟩ = some (.int .u64 t248) ∧ w'.cell? ⟨gb252, 3, none⟩ = some (.int .u64 t249)) (ds := []) #[false, false, false, false, false, false, false, false] (by kernel_rfl) rfl rfl ⟨(blk_cell BK245.out 0).trans rfl, (blk_cell BK245.out 1).trans rfl, (blk_cell BK245.out 2).trans rfl, (blk_cell BK245.out 3).trans rfl, (blk_cell BK250.out 0).trans rfl, (blk_cell BK250.out 1).trans rfl, (blk_cell BK250.out 2).trans rfl, (blk_cell BK250.out 3).trans rfl, (blk_cell BK251.out 0).trans rfl, (blk_cell BK251.out 1).trans rfl, (blk_cell BK251.out 2).trans rfl, (blk_cell BK251.out 3).trans rfl, (blk_cell BK252.out 0).trans rfl, (blk_cell BK252.out 1).trans rfl, (blk_cell BK252.out 2).trans rfl, (blk_cell BK252.out 3).trans rfl⟩ (fun hHeld => ?_); refine with_tabW tenementlaw06_VecTells.tab10 tenementlaw06_VecTells.bits10 (fun HT_ HW_ => ?_)
      generalize w74.drew = w75 at BK238 BK239 BK245 BK250 BK251 BK252 HB hHeld ⊢
      refine take_ (i := 0) (N := some 32) (v := ?_) (a' := ?_) #[true, false, false, false, false, false, false, false] rfl rfl (take_ofW HT_.out HW_.out (by kernel_rfl)) (fun _ _ _ h => h) (Or.inl ⟨by rfl, ?_⟩) hHeld ?_ ?_
      rotate_left
      · rintro w' ⟨s0, s1, s2, s3, s4, s5, s6, s7, s8, s9, s10, s11, s12, s13, s14, s15⟩
        go_simp
        with_reducible rfl
      rotate_left
      · simp only [Act.put, List.setIfInBounds_toArray, List.set_cons_zero, List.set_cons_succ, i64_w, i32_w]
        rfl
      refine take_ (i := 1) (N := some 33) (v := ?_) (a' := ?_) #[true, true, false, false, false, false, false, false] rfl rfl (take_ofW HT_.out HW_.out (by kernel_rfl)) (fun _ _ _ h => h) (Or.inl ⟨by rfl, ?_⟩) hHeld ?_ ?_
      rotate_left
      · rintro w' ⟨s0, s1, s2, s3, s4, s5, s6, s7, s8, s9, s10, s11, s12, s13, s14, s15⟩
        go_simp
        with_reducible rfl
      rotate_left
      · simp only [Act.put, List.setIfInBounds_toArray, List.set_cons_zero, List.set_cons_succ, i64_w, i32_w]
        rfl
      refine take_ (i := 3) (N := some 35) (v := ?_) (a' := ?_) #[true, true, false, true, false, false, false, false] rfl rfl (take_ofW HT_.out HW_.out (by kernel_rfl)) (fun _ _ _ h => h) (Or.inl ⟨by rfl, ?_⟩) hHeld ?_ ?_
      rotate_left
      · rintro w' ⟨s0, s1, s2, s3, s4, s5, s6, s7, s8, s9, s10, s11, s12, s13, s14, s15⟩
        go_simp
        with_reducible rfl
      rotate_left
      · simp only [Act.put, List.setIfInBounds_toArray, List.set_cons_zero, List.set_cons_succ, i64_w, i32_w]
        rfl
      refine take_ (i := 4) (N := some 36) (v := ?_) (a' := ?_) #[true, true, false, true, true, false, false, false] rfl rfl (take_ofW HT_.out HW_.out (by kernel_rfl)) (fun _ _ _ h => h) (Or.inl ⟨by rfl, ?_⟩) hHeld ?_ ?_
      rotate_left
      · rintro w' ⟨s0, s1, s2, s3, s4, s5, s6, s7, s8, s9, s10, s11, s12, s13, s14, s15⟩
        go_simp
        with_reducible rfl
      rotate_left
      · simp only [Act.put, List.setIfInBounds_toArray, List.set_cons_zero, List.set_cons_succ, i64_w, i32_w]
        rfl
      refine one_ (i := 2) (N := some 34) #[true, true, true, true, true, false, false, false] rfl rfl (one_of HT_.out (by kernel_rfl)) (by decide) (fun K hK => ?_)
      refine goes_ Tryd.func12 (by kernel_rfl) rfl #[.agg #[.int .u64 t241, .int .u64 t242, .int .u64 t243, .int .u64 t244], .agg #[.int .u64 t246, .int .u64 t247, .int .u64 t248, .int .u64 t249]] (by rfl) rfl rfl (by (try simp only [List.map_toArray, List.map_cons, List.map_nil]); first | done | rfl | (simp only [List.length_drop, List.length_take]; rfl)) ?_
      with_reducible refine (vec_Join.calls t241 t242 t243 t244 t246 t247 t248 t249 t253 t254 t255 t256 _ A15.out).mono ?_
      rintro e w76 ⟨rfl, hb⟩
      refine ⟨_, rfl, ?_⟩
      have n0_ := Zq (Zb (g := gb238) (o := .cells #[.int .u64 a0_0, .int .u64 a0_1, .int .u64 a0_2, .int .u64 a0_3, .bool a0_4] 26 (0, 0)) (by (with_reducible repeat (first | refine Zn ?_ _ | refine Zd ?_ | refine Za ?_ _)); exact BK238.out) hb)
      have n1_ := Zq (Zb (g := gb239) (o := .cells #[.int .u64 a1_0, .int .u64 a1_1, .int .u64 a1_2, .int .u64 a1_3, .bool a1_4] 26 (0, 0)) (by (with_reducible repeat (first | refine Zn ?_ _ | refine Zd ?_ | refine Za ?_ _)); exact BK239.out) hb)
      have n2_ := Zq (Zb (g := gb245) (o := .cells #[.int .u64 t241, .int .u64 t242, .int .u64 t243, .int .u64 t244] 24 (0, 0)) (by (with_reducible repeat (first | refine Zn ?_ _ | refine Zd ?_ | refine Za ?_ _)); exact BK245.out) hb)
      have n3_ := Zq (Zb (g := gb250) (o := .cells #[.int .u64 t246, .int .u64 t247, .int .u64 t248, .int .u64 t249] 24 (0, 0)) (by (with_reducible repeat (first | refine Zn ?_ _ | refine Zd ?_ | refine Za ?_ _)); exact BK250.out) hb)
      have n4_ := Zq (Zb (g := gb251) (o := .cells #[.int .u64 t241, .int .u64 t242, .int .u64 t243, .int .u64 t244] 29 (0, 0)) (by (with_reducible repeat (first | refine Zn ?_ _ | refine Zd ?_ | refine Za ?_ _)); exact BK251.out) hb)
      have n5_ := Zq (Zb (g := gb252) (o := .cells #[.int .u64 t246, .int .u64 t247, .int .u64 t248, .int .u64 t249] 29 (0, 0)) (by (with_reducible repeat (first | refine Zn ?_ _ | refine Zd ?_ | refine Za ?_ _)); exact BK252.out) hb)
      have n6_ := Zq (below_step (by repeat (first | (with_reducible first | exact HB.out | apply below_alloc | apply Zw | apply Ze | refine Zs ?_ GE238.out | refine Zs ?_ GE239.out | refine Zs ?_ GE245.out | refine Zs ?_ GE250.out | refine Zs ?_ GE251.out | refine Zs ?_ GE252.out) | exact HB.out)) hb)
      clear BK238
      clear BK239
      clear BK245
      clear BK250
      clear BK251
      clear BK252
      clear HB
      have BK238 := n0_
      have BK239 := n1_
      have BK245 := n2_
      have BK250 := n3_
      have BK251 := n4_
      have BK252 := n5_
      have HB := n6_
      clear n0_ n1_ n2_ n3_ n4_ n5_ n6_
      (try clear hb)
      (try clear hb2)
      (try clear hk)
      (try clear hi)
      refine hK.out _ _ ⟨(blk_cell BK245.out 0).trans rfl, (blk_cell BK245.out 1).trans rfl, (blk_cell BK245.out 2).trans rfl, (blk_cell BK245.out 3).trans rfl, (blk_cell BK250.out 0).trans rfl, (blk_cell BK250.out 1).trans rfl, (blk_cell BK250.out 2).trans rfl, (blk_cell BK250.out 3).trans rfl, (blk_cell BK251.out 0).trans rfl, (blk_cell BK251.out 1).trans rfl, (blk_cell BK251.out 2).trans rfl, (blk_cell BK251.out 3).trans rfl, (blk_cell BK252.out 0).trans rfl, (blk_cell BK252.out 1).trans rfl, (blk_cell BK252.out 2).trans rfl, (blk_cell BK252.out 3).trans rfl⟩ (fun hHeld => ?_)
      clear hK K
      refine norm_ (a' := ?_) ?_ ?_
      rotate_left
      · show Act.put _ (some 34) _ = _
        simp only [Act.put, List.setIfInBounds_toArray, List.set_cons_zero, List.set_cons_succ, i64_w, i32_w]
        rfl
      refine one_ (i := 5) (N := some 37) #[true, true, true, true, true, true, false, false] rfl rfl (one_of HT_.out (by kernel_rfl)) (by decide) (fun K hK => ?_)
      refine goes_ Tryd.func13 (by kernel_rfl) rfl #[.agg #[.int .u64 t241, .int .u64 t242, .int .u64 t243, .int .u64 t244], .agg #[.int .u64 t246, .int .u64 t247, .int .u64 t248, .int .u64 t249]] (by rfl) rfl rfl (by (try simp only [List.map_toArray, List.map_cons, List.map_nil]); first | done | rfl | (simp only [List.length_drop, List.length_take]; rfl)) ?_
      with_reducible refine (tenementref06_Join.calls kj7 t241 t242 t243 t244 t246 t247 t248 t249 t257 t258 t259 t260 _ A16.out).mono ?_
      rintro e w77 ⟨rfl, hb⟩
      refine ⟨_, rfl, ?_⟩
      have n0_ := Zq (Zb (g := gb238) (o := .cells #[.int .u64 a0_0, .int .u64 a0_1, .int .u64 a0_2, .int .u64 a0_3, .bool a0_4] 26 (0, 0)) (by (with_reducible repeat (first | refine Zn ?_ _ | refine Zd ?_ | refine Za ?_ _)); exact BK238.out) hb)
      have n1_ := Zq (Zb (g := gb239) (o := .cells #[.int .u64 a1_0, .int .u64 a1_1, .int .u64 a1_2, .int .u64 a1_3, .bool a1_4] 26 (0, 0)) (by (with_reducible repeat (first | refine Zn ?_ _ | refine Zd ?_ | refine Za ?_ _)); exact BK239.out) hb)
      have n2_ := Zq (Zb (g := gb245) (o := .cells #[.int .u64 t241, .int .u64 t242, .int .u64 t243, .int .u64 t244] 24 (0, 0)) (by (with_reducible repeat (first | refine Zn ?_ _ | refine Zd ?_ | refine Za ?_ _)); exact BK245.out) hb)
      have n3_ := Zq (Zb (g := gb250) (o := .cells #[.int .u64 t246, .int .u64 t247, .int .u64 t248, .int .u64 t249] 24 (0, 0)) (by (with_reducible repeat (first | refine Zn ?_ _ | refine Zd ?_ | refine Za ?_ _)); exact BK250.out) hb)
      have n4_ := Zq (Zb (g := gb251) (o := .cells #[.int .u64 t241, .int .u64 t242, .int .u64 t243, .int .u64 t244] 29 (0, 0)) (by (with_reducible repeat (first | refine Zn ?_ _ | refine Zd ?_ | refine Za ?_ _)); exact BK251.out) hb)
      have n5_ := Zq (Zb (g := gb252) (o := .cells #[.int .u64 t246, .int .u64 t247, .int .u64 t248, .int .u64 t249] 29 (0, 0)) (by (with_reducible repeat (first | refine Zn ?_ _ | refine Zd ?_ | refine Za ?_ _)); exact BK252.out) hb)
      have n6_ := Zq (below_step (by repeat (first | (with_reducible first | exact HB.out | apply below_alloc | apply Zw | apply Ze | refine Zs ?_ GE238.out | refine Zs ?_ GE239.out | refine Zs ?_ GE245.out | refine Zs ?_ GE250.out | refine Zs ?_ GE251.out | refine Zs ?_ GE252.out) | exact HB.out)) hb)
      clear BK238
      clear BK239
      clear BK245
      clear BK250
      clear BK251
      clear BK252
      clear HB
      have BK238 := n0_
      have BK239 := n1_
      have BK245 := n2_
      have BK250 := n3_
      have BK251 := n4_
      have BK252 := n5_
      have HB := n6_
      clear n0_ n1_ n2_ n3_ n4_ n5_ n6_
      (try clear hb)
      (try clear hb2)
      (try clear hk)
      (try clear hi)
      refine hK.out _ _ ⟨(blk_cell BK245.out 0).trans rfl, (blk_cell BK245.out 1).trans rfl, (blk_cell BK245.out 2).trans rfl, (blk_cell BK245.out 3).trans rfl, (blk_cell BK250.out 0).trans rfl, (blk_cell BK250.out 1).trans rfl, (blk_cell BK250.out 2).trans rfl, (blk_cell BK250.out 3).trans rfl, (blk_cell BK251.out 0).trans rfl, (blk_cell BK251.out 1).trans rfl, (blk_cell BK251.out 2).trans rfl, (blk_cell BK251.out 3).trans rfl, (blk_cell BK252.out 0).trans rfl, (blk_cell BK252.out 1).trans rfl, (blk_cell BK252.out 2).trans rfl, (blk_cell BK252.out 3).trans rfl⟩ (fun hHeld => ?_)
      clear hK K
      refine norm_ (a' := ?_) ?_ ?_
      rotate_left
      · show Act.put _ (some 37) _ = _
        simp only [Act.put, List.setIfInBounds_toArray, List.set_cons_zero, List.set_cons_succ, i64_w, i32_w]
        rfl
      refine pure_ (i := 6) (N := some 38) (v := ?_) (a' := ?_) #[true, true, true, true, true, true, true, false] rfl rfl (any_of HT_.out (by kernel_rfl)) (fun _ _ _ h => h) (Or.inl ⟨by rfl, ?_⟩) ?_ ?_
      rotate_left
      · intro w'
        go_simp
        with_reducible rfl
      rotate_left
      · simp only [Act.put, List.setIfInBounds_toArray, List.set_cons_zero, List.set_cons_succ, i64_w, i32_w]
        rfl
      refine pure_ (i := 7) (N := some 16) (v := ?_) (a' := ?_) #[true, true, true, true, true, true, true, true] rfl rfl (any_of HT_.out (by kernel_rfl)) (fun _ _ _ h => h) (Or.inl ⟨by rfl, ?_⟩) ?_ ?_
      rotate_left
      · intro w'
        go_simp
        with_reducible rfl
      rotate_left
      · simp only [Act.put, List.setIfInBounds_toArray, List.set_cons_zero, List.set_cons_succ, i64_w, i32_w]
        rfl
      refine done_ (done_of HT_.out (by kernel_rfl)) ?_
      try go_wp2
      have n0_ := Zq (Zd BK238.out)
      have n1_ := Zq (Zd BK239.out)
      have n2_ := Zq (Zd BK245.out)
      have n3_ := Zq (Zd BK250.out)
      have n4_ := Zq (Zd BK251.out)
      have n5_ := Zq (Zd BK252.out)
      have n6_ := Zq (Ze HB.out)
      clear BK238
      clear BK239
      clear BK245
      clear BK250
      clear BK251
      clear BK252
      clear HB
      have BK238 := n0_
      have BK239 := n1_
      have BK245 := n2_
      have BK250 := n3_
      have BK251 := n4_
      have BK252 := n5_
      have HB := n6_
      clear n0_ n1_ n2_ n3_ n4_ n5_ n6_
      refine start_ (n := 8) (S := fun w' => w'.cell? ⟨gb245, 0, none⟩ = some (.int .u64 t241) ∧ w'.cell? ⟨gb245, 1, none⟩ = some (.int .u64 t242) ∧ w'.cell? ⟨gb245, 2, none⟩ = some (.int .u64 t243) ∧ w'.cell? ⟨gb245, 3, none⟩ = some (.int .u64 t244) ∧ w'.cell? ⟨gb250, 0, none⟩ = some (.int .u64 t246) ∧ w'.cell? ⟨gb250, 1, none⟩ = some (.int .u64 t247) ∧ w'.cell? ⟨gb250, 2, none⟩ = some (.int .u64 t248) ∧ w'.cell? ⟨gb250, 3, none⟩ = some (.int .u64 t249) ∧ w'.cell? ⟨gb251, 0, none⟩ = some (.int .u64 t241) ∧ w'.cell? ⟨gb251, 1, none⟩ = some (.int .u64 t242) ∧ w'.cell? ⟨gb251, 2, none⟩ = some (.int .u64 t243) ∧ w'.cell? ⟨gb251, 3, none⟩ = some (.int .u64 t244) ∧ w'.cell? ⟨gb252, 0, none⟩ = some (.int .u64 t246) ∧ w'.cell? ⟨gb252, 1, none⟩ = some (.int .u64 t247) ∧ w'.cell? ⟨gb252, 2, none⟩ = some (.int .u64 t248) ∧ w'.cell? ⟨gb252, 3, none⟩ = some (.int .u64 t249)) (ds := []) #[false, false, false, false, false, false, false, false] (by kernel_rfl) rfl rfl ⟨(blk_cell BK245.out 0).trans rfl, (blk_cell BK245.out 1).trans rfl, (blk_cell BK245.out 2).trans rfl, (blk_cell BK245.out 3).trans rfl, (blk_cell BK250.out 0).trans rfl, (blk_cell BK250.out 1).trans rfl, (blk_cell BK250.out 2).trans rfl, (blk_cell BK250.out 3).trans rfl, (blk_cell BK251.out 0).trans rfl, (blk_cell BK251.out 1).trans rfl, (blk_cell BK251.out 2).trans rfl, (blk_cell BK251.out 3).trans rfl, (blk_cell BK252.out 0).trans rfl, (blk_cell BK252.out 1).trans rfl, (blk_cell BK252.out 2).trans rfl, (blk_cell BK252.out 3).trans rfl⟩ (fun hHeld => ?_); refine with_tabW tenementlaw06_VecTells.tab11 tenementlaw06_VecTells.bits11 (fun HT_ HW_ => ?_)
      generalize w77.drew = w78 at BK238 BK239 BK245 BK250 BK251 BK252 HB hHeld ⊢
      refine take_ (i := 0) (N := some 39) (v := ?_) (a' := ?_) #[true, false, false, false, false, false, false, false] rfl rfl (take_ofW HT_.out HW_.out (by kernel_rfl)) (fun _ _ _ h => h) (Or.inl ⟨by rfl, ?_⟩) hHeld ?_ ?_
      rotate_left
      · rintro w' ⟨s0, s1, s2, s3, s4, s5, s6, s7, s8, s9, s10, s11, s12, s13, s14, s15⟩
        go_simp
        with_reducible rfl
      rotate_left
      · simp only [Act.put, List.setIfInBounds_toArray, List.set_cons_zero, List.set_cons_succ, i64_w, i32_w]
        rfl
      refine take_ (i := 1) (N := some 40) (v := ?_) (a' := ?_) #[true, true, false, false, false, false, false, false] rfl rfl (take_ofW HT_.out HW_.out (by kernel_rfl)) (fun _ _ _ h => h) (Or.inl ⟨by rfl, ?_⟩) hHeld ?_ ?_
      rotate_left
      · rintro w' ⟨s0, s1, s2, s3, s4, s5, s6, s7, s8, s9, s10, s11, s12, s13, s14, s15⟩
        go_simp
        with_reducible rfl
      rotate_left
      · simp only [Act.put, List.setIfInBounds_toArray, List.set_cons_zero, List.set_cons_succ, i64_w, i32_w]
        rfl
      refine take_ (i := 3) (N := some 42) (v := ?_) (a' := ?_) #[true, true, false, true, false, false, false, false] rfl rfl (take_ofW HT_.out HW_.out (by kernel_rfl)) (fun _ _ _ h => h) (Or.inl ⟨by rfl, ?_⟩) hHeld ?_ ?_
      rotate_left
      · rintro w' ⟨s0, s1, s2, s3, s4, s5, s6, s7, s8, s9, s10, s11, s12, s13, s14, s15⟩
        go_simp
        with_reducible rfl
      rotate_left
      · simp only [Act.put, List.setIfInBounds_toArray, List.set_cons_zero, List.set_cons_succ, i64_w, i32_w]
        rfl
      refine take_ (i := 4) (N := some 43) (v := ?_) (a' := ?_) #[true, true, false, true, true, false, false, false] rfl rfl (take_ofW HT_.out HW_.out (by kernel_rfl)) (fun _ _ _ h => h) (Or.inl ⟨by rfl, ?_⟩) hHeld ?_ ?_
      rotate_left
      · rintro w' ⟨s0, s1, s2, s3, s4, s5, s6, s7, s8, s9, s10, s11, s12, s13, s14, s15⟩
        go_simp
        with_reducible rfl
      rotate_left
      · simp only [Act.put, List.setIfInBounds_toArray, List.set_cons_zero, List.set_cons_succ, i64_w, i32_w]
        rfl
      refine one_ (i := 2) (N := some 41) #[true, true, true, true, true, false, false, false] rfl rfl (one_of HT_.out (by kernel_rfl)) (by decide) (fun K hK => ?_)
      refine goes_ Tryd.func14 (by kernel_rfl) rfl #[.agg #[.int .u64 t241, .int .u64 t242, .int .u64 t243, .int .u64 t244], .agg #[.int .u64 t246, .int .u64 t247, .int .u64 t248, .int .u64 t249]] (by rfl) rfl rfl (by (try simp only [List.map_toArray, List.map_cons, List.map_nil]); first | done | rfl | (simp only [List.length_drop, List.length_take]; rfl)) ?_
      with_reducible refine (vec_Meet.calls t241 t242 t243 t244 t246 t247 t248 t249 t261 t262 t263 t264 _ A17.out).mono ?_
      rintro e w79 ⟨rfl, hb⟩
      refine ⟨_, rfl, ?_⟩
      have n0_ := Zq (Zb (g := gb238) (o := .cells #[.int .u64 a0_0, .int .u64 a0_1, .int .u64 a0_2, .int .u64 a0_3, .bool a0_4] 26 (0, 0)) (by (with_reducible repeat (first | refine Zn ?_ _ | refine Zd ?_ | refine Za ?_ _)); exact BK238.out) hb)
      have n1_ := Zq (Zb (g := gb239) (o := .cells #[.int .u64 a1_0, .int .u64 a1_1, .int .u64 a1_2, .int .u64 a1_3, .bool a1_4] 26 (0, 0)) (by (with_reducible repeat (first | refine Zn ?_ _ | refine Zd ?_ | refine Za ?_ _)); exact BK239.out) hb)
      have n2_ := Zq (Zb (g := gb245) (o := .cells #[.int .u64 t241, .int .u64 t242, .int .u64 t243, .int .u64 t244] 24 (0, 0)) (by (with_reducible repeat (first | refine Zn ?_ _ | refine Zd ?_ | refine Za ?_ _)); exact BK245.out) hb)
      have n3_ := Zq (Zb (g := gb250) (o := .cells #[.int .u64 t246, .int .u64 t247, .int .u64 t248, .int .u64 t249] 24 (0, 0)) (by (with_reducible repeat (first | refine Zn ?_ _ | refine Zd ?_ | refine Za ?_ _)); exact BK250.out) hb)
      have n4_ := Zq (Zb (g := gb251) (o := .cells #[.int .u64 t241, .int .u64 t242, .int .u64 t243, .int .u64 t244] 29 (0, 0)) (by (with_reducible repeat (first | refine Zn ?_ _ | refine Zd ?_ | refine Za ?_ _)); exact BK251.out) hb)
      have n5_ := Zq (Zb (g := gb252) (o := .cells #[.int .u64 t246, .int .u64 t247, .int .u64 t248, .int .u64 t249] 29 (0, 0)) (by (with_reducible repeat (first | refine Zn ?_ _ | refine Zd ?_ | refine Za ?_ _)); exact BK252.out) hb)
      have n6_ := Zq (below_step (by repeat (first | (with_reducible first | exact HB.out | apply below_alloc | apply Zw | apply Ze | refine Zs ?_ GE238.out | refine Zs ?_ GE239.out | refine Zs ?_ GE245.out | refine Zs ?_ GE250.out | refine Zs ?_ GE251.out | refine Zs ?_ GE252.out) | exact HB.out)) hb)
      clear BK238
      clear BK239
      clear BK245
      clear BK250
      clear BK251
      clear BK252
      clear HB
      have BK238 := n0_
      have BK239 := n1_
      have BK245 := n2_
      have BK250 := n3_
      have BK251 := n4_
      have BK252 := n5_
      have HB := n6_
      clear n0_ n1_ n2_ n3_ n4_ n5_ n6_
      (try clear hb)
      (try clear hb2)
      (try clear hk)
      (try clear hi)
      refine hK.out _ _ ⟨(blk_cell BK245.out 0).trans rfl, (blk_cell BK245.out 1).trans rfl, (blk_cell BK245.out 2).trans rfl, (blk_cell BK245.out 3).trans rfl, (blk_cell BK250.out 0).trans rfl, (blk_cell BK250.out 1).trans rfl, (blk_cell BK250.out 2).trans rfl, (blk_cell BK250.out 3).trans rfl, (blk_cell BK251.out 0).trans rfl, (blk_cell BK251.out 1).trans rfl, (blk_cell BK251.out 2).trans rfl, (blk_cell BK251.out 3).trans rfl, (blk_cell BK252.out 0).trans rfl, (blk_cell BK252.out 1).trans rfl, (blk_cell BK252.out 2).trans rfl, (blk_cell BK252.out 3).trans rfl⟩ (fun hHeld => ?_)
      clear hK K
      refine norm_ (a' := ?_) ?_ ?_
      rotate_left
      · show Act.put _ (some 41) _ = _
        simp only [Act.put, List.setIfInBounds_toArray, List.set_cons_zero, List.set_cons_succ, i64_w, i32_w]
        rfl
      refine one_ (i := 5) (N := some 44) #[true, true, true, true, true, true, false, false] rfl rfl (one_of HT_.out (by kernel_rfl)) (by decide) (fun K hK => ?_)
      refine goes_ Tryd.func15 (by kernel_rfl) rfl #[.agg #[.int .u64 t241, .int .u64 t242, .int .u64 t243, .int .u64 t244], .agg #[.int .u64 t246, .int .u64 t247, .int .u64 t248, .int .u64 t249]] (by rfl) rfl rfl (by (try simp only [List.map_toArray, List.map_cons, List.map_nil]); first | done | rfl | (simp only [List.length_drop, List.length_take]; rfl)) ?_
      with_reducible refine (tenementref06_Meet.calls kj7 t241 t242 t243 t244 t246 t247 t248 t249 t265 t266 t267 t268 _ A18.out).mono ?_
      rintro e w80 ⟨rfl, hb⟩
      refine ⟨_, rfl, ?_⟩
      have n0_ := Zq (Zb (g := gb238) (o := .cells #[.int .u64 a0_0, .int .u64 a0_1, .int .u64 a0_2, .int .u64 a0_3, .bool a0_4] 26 (0, 0)) (by (with_reducible repeat (first | refine Zn ?_ _ | refine Zd ?_ | refine Za ?_ _)); exact BK238.out) hb)
      have n1_ := Zq (Zb (g := gb239) (o := .cells #[.int .u64 a1_0, .int .u64 a1_1, .int .u64 a1_2, .int .u64 a1_3, .bool a1_4] 26 (0, 0)) (by (with_reducible repeat (first | refine Zn ?_ _ | refine Zd ?_ | refine Za ?_ _)); exact BK239.out) hb)
      have n2_ := Zq (Zb (g := gb245) (o := .cells #[.int .u64 t241, .int .u64 t242, .int .u64 t243, .int .u64 t244] 24 (0, 0)) (by (with_reducible repeat (first | refine Zn ?_ _ | refine Zd ?_ | refine Za ?_ _)); exact BK245.out) hb)
      have n3_ := Zq (Zb (g := gb250) (o := .cells #[.int .u64 t246, .int .u64 t247, .int .u64 t248, .int .u64 t249] 24 (0, 0)) (by (with_reducible repeat (first | refine Zn ?_ _ | refine Zd ?_ | refine Za ?_ _)); exact BK250.out) hb)
      have n4_ := Zq (Zb (g := gb251) (o := .cells #[.int .u64 t241, .int .u64 t242, .int .u64 t243, .int .u64 t244] 29 (0, 0)) (by (with_reducible repeat (first | refine Zn ?_ _ | refine Zd ?_ | refine Za ?_ _)); exact BK251.out) hb)
      have n5_ := Zq (Zb (g := gb252) (o := .cells #[.int .u64 t246, .int .u64 t247, .int .u64 t248, .int .u64 t249] 29 (0, 0)) (by (with_reducible repeat (first | refine Zn ?_ _ | refine Zd ?_ | refine Za ?_ _)); exact BK252.out) hb)
      have n6_ := Zq (below_step (by repeat (first | (with_reducible first | exact HB.out | apply below_alloc | apply Zw | apply Ze | refine Zs ?_ GE238.out | refine Zs ?_ GE239.out | refine Zs ?_ GE245.out | refine Zs ?_ GE250.out | refine Zs ?_ GE251.out | refine Zs ?_ GE252.out) | exact HB.out)) hb)
      clear BK238
      clear BK239
      clear BK245
      clear BK250
      clear BK251
      clear BK252
      clear HB
      have BK238 := n0_
      have BK239 := n1_
      have BK245 := n2_
      have BK250 := n3_
      have BK251 := n4_
      have BK252 := n5_
      have HB := n6_
      clear n0_ n1_ n2_ n3_ n4_ n5_ n6_
      (try clear hb)
      (try clear hb2)
      (try clear hk)
      (try clear hi)
      refine hK.out _ _ ⟨(blk_cell BK245.out 0).trans rfl, (blk_cell BK245.out 1).trans rfl, (blk_cell BK245.out 2).trans rfl, (blk_cell BK245.out 3).trans rfl, (blk_cell BK250.out 0).trans rfl, (blk_cell BK250.out 1).trans rfl, (blk_cell BK250.out 2).trans rfl, (blk_cell BK250.out 3).trans rfl, (blk_cell BK251.out 0).trans rfl, (blk_cell BK251.out 1).trans rfl, (blk_cell BK251.out 2).trans rfl, (blk_cell BK251.out 3).trans rfl, (blk_cell BK252.out 0).trans rfl, (blk_cell BK252.out 1).trans rfl, (blk_cell BK252.out 2).trans rfl, (blk_cell BK252.out 3).trans rfl⟩ (fun hHeld => ?_)
      clear hK K
      refine norm_ (a' := ?_) ?_ ?_
      rotate_left
      · show Act.put _ (some 44) _ = _
        simp only [Act.put, List.setIfInBounds_toArray, List.set_cons_zero, List.set_cons_succ, i64_w, i32_w]
        rfl
      refine pure_ (i := 6) (N := some 45) (v := ?_) (a' := ?_) #[true, true, true, true, true, true, true, false] rfl rfl (any_of HT_.out (by kernel_rfl)) (fun _ _ _ h => h) (Or.inl ⟨by rfl, ?_⟩) ?_ ?_
      rotate_left
      · intro w'
        go_simp
        with_reducible rfl
      rotate_left
      · simp only [Act.put, List.setIfInBounds_toArray, List.set_cons_zero, List.set_cons_succ, i64_w, i32_w]
        rfl
      refine pure_ (i := 7) (N := some 17) (v := ?_) (a' := ?_) #[true, true, true, true, true, true, true, true] rfl rfl (any_of HT_.out (by kernel_rfl)) (fun _ _ _ h => h) (Or.inl ⟨by rfl, ?_⟩) ?_ ?_
      rotate_left
      · intro w'
        go_simp
        with_reducible rfl
      rotate_left
      · simp only [Act.put, List.setIfInBounds_toArray, List.set_cons_zero, List.set_cons_succ, i64_w, i32_w]
        rfl
      refine done_ (done_of HT_.out (by kernel_rfl)) ?_
      try go_wp2
      have n0_ := Zq (Zd BK238.out)
      have n1_ := Zq (Zd BK239.out)
      have n2_ := Zq (Zd BK245.out)
      have n3_ := Zq (Zd BK250.out)
      have n4_ := Zq (Zd BK251.out)
      have n5_ := Zq (Zd BK252.out)
      have n6_ := Zq (Ze HB.out)
      clear BK238
      clear BK239
      clear BK245
      clear BK250
      clear BK251
      clear BK252
      clear HB
      have BK238 := n0_
      have BK239 := n1_
      have BK245 := n2_
      have BK250 := n3_
      have BK251 := n4_
      have BK252 := n5_
      have HB := n6_
      clear n0_ n1_ n2_ n3_ n4_ n5_ n6_
      refine start_ (n := 10) (S := fun w' => w'.cell? ⟨gb245, 0, none⟩ = some (.int .u64 t241) ∧ w'.cell? ⟨gb245, 1, none⟩ = some (.int .u64 t242) ∧ w'.cell? ⟨gb245, 2, none⟩ = some (.int .u64 t243) ∧ w'.cell? ⟨gb245, 3, none⟩ = some (.int .u64 t244) ∧ w'.cell? ⟨gb251, 0, none⟩ = some (.int .u64 t241) ∧ w'.cell? ⟨gb251, 1, none⟩ = some (.int .u64 t242) ∧ w'.cell? ⟨gb251, 2, none⟩ = some (.int .u64 t243) ∧ w'.cell? ⟨gb251, 3, none⟩ = some (.int .u64 t244)) (ds := []) #[false, false, false, false, false, false, false, false, false, false] (by kernel_rfl) rfl rfl ⟨(blk_cell BK245.out 0).trans rfl, (blk_cell BK245.out 1).trans rfl, (blk_cell BK245.out 2).trans rfl, (blk_cell BK245.out 3).trans rfl, (blk_cell BK251.out 0).trans rfl, (blk_cell BK251.out 1).trans rfl, (blk_cell BK251.out 2).trans rfl, (blk_cell BK251.out 3).trans rfl⟩ (fun hHeld => ?_); refine with_tabW tenementlaw06_VecTells.tab12 tenementlaw06_VecTells.bits12 (fun HT_ HW_ => ?_)
      generalize w80.drew = w81 at BK238 BK239 BK245 BK250 BK251 BK252 HB hHeld ⊢
      refine pure_ (i := 1) (N := some 47) (v := ?_) (a' := ?_) #[false, true, false, false, false, false, false, false, false, false] rfl rfl (any_of HT_.out (by kernel_rfl)) (fun _ _ _ h => h) (Or.inl ⟨by rfl, ?_⟩) ?_ ?_
      rotate_left
      · intro w'
        go_simp
        with_reducible rfl
      rotate_left
      · simp only [Act.put, List.setIfInBounds_toArray, List.set_cons_zero, List.set_cons_succ, i64_w, i32_w]
        rfl
      refine pure_ (i := 2) (N := some 48) (v := ?_) (a' := ?_) #[false, true, true, false, false, false, false, false, false, false] rfl rfl (any_of HT_.out (by kernel_rfl)) (fun _ _ _ h => h) (Or.inl ⟨by rfl, ?_⟩) ?_ ?_
      rotate_left
      · intro w'
        go_simp
        with_reducible rfl
      rotate_left
      · simp only [Act.put, List.setIfInBounds_toArray, List.set_cons_zero, List.set_cons_succ, i64_w, i32_w]
        rfl
      refine pure_ (i := 5) (N := some 51) (v := ?_) (a' := ?_) #[false, true, true, false, false, true, false, false, false, false] rfl rfl (any_of HT_.out (by kernel_rfl)) (fun _ _ _ h => h) (Or.inl ⟨by rfl, ?_⟩) ?_ ?_
      rotate_left
      · intro w'
        go_simp
        with_reducible rfl
      rotate_left
      · simp only [Act.put, List.setIfInBounds_toArray, List.set_cons_zero, List.set_cons_succ, i64_w, i32_w]
        rfl
      refine pure_ (i := 6) (N := some 52) (v := ?_) (a' := ?_) #[false, true, true, false, false, true, true, false, false, false] rfl rfl (any_of HT_.out (by kernel_rfl)) (fun _ _ _ h => h) (Or.inl ⟨by rfl, ?_⟩) ?_ ?_
      rotate_left
      · intro w'
        go_simp
        with_reducible rfl
      rotate_left
      · simp only [Act.put, List.setIfInBounds_toArray, List.set_cons_zero, List.set_cons_succ, i64_w, i32_w]
        rfl
      refine take_ (i := 0) (N := some 46) (v := ?_) (a' := ?_) #[true, true, true, false, false, true, true, false, false, false] rfl rfl (take_ofW HT_.out HW_.out (by kernel_rfl)) (fun _ _ _ h => h) (Or.inl ⟨by rfl, ?_⟩) hHeld ?_ ?_
      rotate_left
      · rintro w' ⟨s0, s1, s2, s3, s4, s5, s6, s7⟩
        go_simp
        with_reducible rfl
      rotate_left
      · simp only [Act.put, List.setIfInBounds_toArray, List.set_cons_zero, List.set_cons_succ, i64_w, i32_w]
        rfl
      refine take_ (i := 4) (N := some 50) (v := ?_) (a' := ?_) #[true, true, true, false, true, true, true, false, false, false] rfl rfl (take_ofW HT_.out HW_.out (by kernel_rfl)) (fun _ _ _ h => h) (Or.inl ⟨by rfl, ?_⟩) hHeld ?_ ?_
      rotate_left
      · rintro w' ⟨s0, s1, s2, s3, s4, s5, s6, s7⟩
        go_simp
        with_reducible rfl
      rotate_left
      · simp only [Act.put, List.setIfInBounds_toArray, List.set_cons_zero, List.set_cons_succ, i64_w, i32_w]
        rfl
      refine one_ (i := 3) (N := some 49) #[true, true, true, true, true, true, true, false, false, false] rfl rfl (one_of HT_.out (by kernel_rfl)) (by decide) (fun K hK => ?_)
      refine goes_ Tryd.func16 (by kernel_rfl) rfl #[.agg #[.int .u64 t241, .int .u64 t242, .int .u64 t243, .int .u64 t244], .int .i64 x2_7, .int .u64 a3] (by rfl) rfl rfl (by (try simp only [List.map_toArray, List.map_cons, List.map_nil]); first | done | rfl | (simp only [List.length_drop, List.length_take]; rfl)) ?_
      with_reducible refine (vec_With.calls t241 t242 t243 t244 x2_7 a3 t269 t270 t271 t272 _ A19.out).mono ?_
      rintro e w82 ⟨rfl, hb⟩
      refine ⟨_, rfl, ?_⟩
      have n0_ := Zq (Zb (g := gb238) (o := .cells #[.int .u64 a0_0, .int .u64 a0_1, .int .u64 a0_2, .int .u64 a0_3, .bool a0_4] 26 (0, 0)) (by (with_reducible repeat (first | refine Zn ?_ _ | refine Zd ?_ | refine Za ?_ _)); exact BK238.out) hb)
      have n1_ := Zq (Zb (g := gb239) (o := .cells #[.int .u64 a1_0, .int .u64 a1_1, .int .u64 a1_2, .int .u64 a1_3, .bool a1_4] 26 (0, 0)) (by (with_reducible repeat (first | refine Zn ?_ _ | refine Zd ?_ | refine Za ?_ _)); exact BK239.out) hb)
      have n2_ := Zq (Zb (g := gb245) (o := .cells #[.int .u64 t241, .int .u64 t242, .int .u64 t243, .int .u64 t244] 24 (0, 0)) (by (with_reducible repeat (first | refine Zn ?_ _ | refine Zd ?_ | refine Za ?_ _)); exact BK245.out) hb)
      have n3_ := Zq (Zb (g := gb250) (o := .cells #[.int .u64 t246, .int .u64 t247, .int .u64 t248, .int .u64 t249] 24 (0, 0)) (by (with_reducible repeat (first | refine Zn ?_ _ | refine Zd ?_ | refine Za ?_ _)); exact BK250.out) hb)
      have n4_ := Zq (Zb (g := gb251) (o := .cells #[.int .u64 t241, .int .u64 t242, .int .u64 t243, .int .u64 t244] 29 (0, 0)) (by (with_reducible repeat (first | refine Zn ?_ _ | refine Zd ?_ | refine Za ?_ _)); exact BK251.out) hb)
      have n5_ := Zq (Zb (g := gb252) (o := .cells #[.int .u64 t246, .int .u64 t247, .int .u64 t248, .int .u64 t249] 29 (0, 0)) (by (with_reducible repeat (first | refine Zn ?_ _ | refine Zd ?_ | refine Za ?_ _)); exact BK252.out) hb)
      have n6_ := Zq (below_step (by repeat (first | (with_reducible first | exact HB.out | apply below_alloc | apply Zw | apply Ze | refine Zs ?_ GE238.out | refine Zs ?_ GE239.out | refine Zs ?_ GE245.out | refine Zs ?_ GE250.out | refine Zs ?_ GE251.out | refine Zs ?_ GE252.out) | exact HB.out)) hb)
      clear BK238
      clear BK239
      clear BK245
      clear BK250
      clear BK251
      clear BK252
      clear HB
      have BK238 := n0_
      have BK239 := n1_
      have BK245 := n2_
      have BK250 := n3_
      have BK251 := n4_
      have BK252 := n5_
      have HB := n6_
      clear n0_ n1_ n2_ n3_ n4_ n5_ n6_
      (try clear hb)
      (try clear hb2)
      (try clear hk)
      (try clear hi)
      refine hK.out _ _ ⟨(blk_cell BK245.out 0).trans rfl, (blk_cell BK245.out 1).trans rfl, (blk_cell BK245.out 2).trans rfl, (blk_cell BK245.out 3).trans rfl, (blk_cell BK251.out 0).trans rfl, (blk_cell BK251.out 1).trans rfl, (blk_cell BK251.out 2).trans rfl, (blk_cell BK251.out 3).trans rfl⟩ (fun hHeld => ?_)
      clear hK K
      refine norm_ (a' := ?_) ?_ ?_
      rotate_left
      · show Act.put _ (some 49) _ = _
        simp only [Act.put, List.setIfInBounds_toArray, List.set_cons_zero, List.set_cons_succ, i64_w, i32_w]
        rfl
      refine one_ (i := 7) (N := some 53) #[true, true, true, true, true, true, true, true, false, false] rfl rfl (one_of HT_.out (by kernel_rfl)) (by decide) (fun K hK => ?_)
      refine goes_ Tryd.func17 (by kernel_rfl) rfl #[.agg #[.int .u64 t241, .int .u64 t242, .int .u64 t243, .int .u64 t244], .int .i64 x2_7, .int .u64 a3] (by rfl) rfl rfl (by (try simp only [List.map_toArray, List.map_cons, List.map_nil]); first | done | rfl | (simp only [List.length_drop, List.length_take]; rfl)) ?_
      with_reducible refine (tenementref06_With.calls t241 t242 t243 t244 x2_7 a3 t273 t274 t275 t276 _ A20.out).mono ?_
      rintro e w83 ⟨rfl, hb⟩
      refine ⟨_, rfl, ?_⟩
      have n0_ := Zq (Zb (g := gb238) (o := .cells #[.int .u64 a0_0, .int .u64 a0_1, .int .u64 a0_2, .int .u64 a0_3, .bool a0_4] 26 (0, 0)) (by (with_reducible repeat (first | refine Zn ?_ _ | refine Zd ?_ | refine Za ?_ _)); exact BK238.out) hb)
      have n1_ := Zq (Zb (g := gb239) (o := .cells #[.int .u64 a1_0, .int .u64 a1_1, .int .u64 a1_2, .int .u64 a1_3, .bool a1_4] 26 (0, 0)) (by (with_reducible repeat (first | refine Zn ?_ _ | refine Zd ?_ | refine Za ?_ _)); exact BK239.out) hb)
      have n2_ := Zq (Zb (g := gb245) (o := .cells #[.int .u64 t241, .int .u64 t242, .int .u64 t243, .int .u64 t244] 24 (0, 0)) (by (with_reducible repeat (first | refine Zn ?_ _ | refine Zd ?_ | refine Za ?_ _)); exact BK245.out) hb)
      have n3_ := Zq (Zb (g := gb250) (o := .cells #[.int .u64 t246, .int .u64 t247, .int .u64 t248, .int .u64 t249] 24 (0, 0)) (by (with_reducible repeat (first | refine Zn ?_ _ | refine Zd ?_ | refine Za ?_ _)); exact BK250.out) hb)
      have n4_ := Zq (Zb (g := gb251) (o := .cells #[.int .u64 t241, .int .u64 t242, .int .u64 t243, .int .u64 t244] 29 (0, 0)) (by (with_reducible repeat (first | refine Zn ?_ _ | refine Zd ?_ | refine Za ?_ _)); exact BK251.out) hb)
      have n5_ := Zq (Zb (g := gb252) (o := .cells #[.int .u64 t246, .int .u64 t247, .int .u64 t248, .int .u64 t249] 29 (0, 0)) (by (with_reducible repeat (first | refine Zn ?_ _ | refine Zd ?_ | refine Za ?_ _)); exact BK252.out) hb)
      have n6_ := Zq (below_step (by repeat (first | (with_reducible first | exact HB.out | apply below_alloc | apply Zw | apply Ze | refine Zs ?_ GE238.out | refine Zs ?_ GE239.out | refine Zs ?_ GE245.out | refine Zs ?_ GE250.out | refine Zs ?_ GE251.out | refine Zs ?_ GE252.out) | exact HB.out)) hb)
      clear BK238
      clear BK239
      clear BK245
      clear BK250
      clear BK251
      clear BK252
      clear HB
      have BK238 := n0_
      have BK239 := n1_
      have BK245 := n2_
      have BK250 := n3_
      have BK251 := n4_
      have BK252 := n5_
      have HB := n6_
      clear n0_ n1_ n2_ n3_ n4_ n5_ n6_
      (try clear hb)
      (try clear hb2)
      (try clear hk)
      (try clear hi)
      refine hK.out _ _ ⟨(blk_cell BK245.out 0).trans rfl, (blk_cell BK245.out 1).trans rfl, (blk_cell BK245.out 2).trans rfl, (blk_cell BK245.out 3).trans rfl, (blk_cell BK251.out 0).trans rfl, (blk_cell BK251.out 1).trans rfl, (blk_cell BK251.out 2).trans rfl, (blk_cell BK251.out 3).trans rfl⟩ (fun hHeld => ?_)
      clear hK K
      refine norm_ (a' := ?_) ?_ ?_
      rotate_left
      · show Act.put _ (some 53) _ = _
        simp only [Act.put, List.setIfInBounds_toArray, List.set_cons_zero, List.set_cons_succ, i64_w, i32_w]
        rfl
      refine pure_ (i := 8) (N := some 54) (v := ?_) (a' := ?_) #[true, true, true, true, true, true, true, true, true, false] rfl rfl (any_of HT_.out (by kernel_rfl)) (fun _ _ _ h => h) (Or.inl ⟨by rfl, ?_⟩) ?_ ?_
      rotate_left
      · intro w'
        go_simp
        with_reducible rfl
      rotate_left
      · simp only [Act.put, List.setIfInBounds_toArray, List.set_cons_zero, List.set_cons_succ, i64_w, i32_w]
        rfl
      refine pure_ (i := 9) (N := some 18) (v := ?_) (a' := ?_) #[true, true, true, true, true, true, true, true, true, true] rfl rfl (any_of HT_.out (by kernel_rfl)) (fun _ _ _ h => h) (Or.inl ⟨by rfl, ?_⟩) ?_ ?_
      rotate_left
      · intro w'
        go_simp
        with_reducible rfl
      rotate_left
      · simp only [Act.put, List.setIfInBounds_toArray, List.set_cons_zero, List.set_cons_succ, i64_w, i32_w]
        rfl
      refine done_ (done_of HT_.out (by kernel_rfl)) ?_
      try go_wp2
      have n0_ := Zq (Zd BK238.out)
      have n1_ := Zq (Zd BK239.out)
      have n2_ := Zq (Zd BK245.out)
      have n3_ := Zq (Zd BK250.out)
      have n4_ := Zq (Zd BK251.out)
      have n5_ := Zq (Zd BK252.out)
      have n6_ := Zq (Ze HB.out)
      clear BK238
      clear BK239
      clear BK245
      clear BK250
      clear BK251
      clear BK252
      clear HB
      have BK238 := n0_
      have BK239 := n1_
      have BK245 := n2_
      have BK250 := n3_
      have BK251 := n4_
      have BK252 := n5_
      have HB := n6_
      clear n0_ n1_ n2_ n3_ n4_ n5_ n6_
      refine start_ (n := 12) (S := fun w' => w'.cell? ⟨gb245, 0, none⟩ = some (.int .u64 t241) ∧ w'.cell? ⟨gb245, 1, none⟩ = some (.int .u64 t242) ∧ w'.cell? ⟨gb245, 2, none⟩ = some (.int .u64 t243) ∧ w'.cell? ⟨gb245, 3, none⟩ = some (.int .u64 t244) ∧ w'.cell? ⟨gb250, 0, none⟩ = some (.int .u64 t246) ∧ w'.cell? ⟨gb250, 1, none⟩ = some (.int .u64 t247) ∧ w'.cell? ⟨gb250, 2, none⟩ = some (.int .u64 t248) ∧ w'.cell? ⟨gb250, 3, none⟩ = some (.int .u64 t249) ∧ w'.cell? ⟨gb251, 0, none⟩ = some (.int .u64 t241) ∧ w'.cell? ⟨gb251, 1, none⟩ = some (.int .u64 t242) ∧ w'.cell? ⟨gb251, 2, none⟩ = some (.int .u64 t243) ∧ w'.cell? ⟨gb251, 3, none⟩ = some (.int .u64 t244) ∧ w'.cell? ⟨gb252, 0, none⟩ = some (.int .u64 t246) ∧ w'.cell? ⟨gb252, 1, none⟩ = some (.int .u64 t247) ∧ w'.cell? ⟨gb252, 2, none⟩ = some (.int .u64 t248) ∧ w'.cell? ⟨gb252, 3, none⟩ = some (.int .u64 t249)) (ds := []) #[false, false, false, false, false, false, false, false, false, false, false, false] (by kernel_rfl) rfl rfl ⟨(blk_cell BK245.out 0).trans rfl, (blk_cell BK245.out 1).trans rfl, (blk_cell BK245.out 2).trans rfl, (blk_cell BK245.out 3).trans rfl, (blk_cell BK250.out 0).trans rfl, (blk_cell BK250.out 1).trans rfl, (blk_cell BK250.out 2).trans rfl, (blk_cell BK250.out 3).trans rfl, (blk_cell BK251.out 0).trans rfl, (blk_cell BK251.out 1).trans rfl, (blk_cell BK251.out 2).trans rfl, (blk_cell BK251.out 3).trans rfl, (blk_cell BK252.out 0).trans rfl, (blk_cell BK252.out 1).trans rfl, (blk_cell BK252.out 2).trans rfl, (blk_cell BK252.out 3).trans rfl⟩ (fun hHeld => ?_); refine with_tabW tenementlaw06_VecTells.tab13 tenementlaw06_VecTells.bits13 (fun HT_ HW_ => ?_)
      generalize w83.drew = w84 at BK238 BK239 BK245 BK250 BK251 BK252 HB hHeld ⊢
      refine take_ (i := 0) (N := some 55) (v := ?_) (a' := ?_) #[true, false, false, false, false, false, false, false, false, false, false, false] rfl rfl (take_ofW HT_.out HW_.out (by kernel_rfl)) (fun _ _ _ h => h) (Or.inl ⟨by rfl, ?_⟩) hHeld ?_ ?_
      rotate_left
      · rintro w' ⟨s0, s1, s2, s3, s4, s5, s6, s7, s8, s9, s10, s11, s12, s13, s14, s15⟩
        go_simp
        with_reducible rfl
      rotate_left
      · simp only [Act.put, List.setIfInBounds_toArray, List.set_cons_zero, List.set_cons_succ, i64_w, i32_w]
        rfl
      refine take_ (i := 1) (N := some 56) (v := ?_) (a' := ?_) #[true, true, false, false, false, false, false, false, false, false, false, false] rfl rfl (take_ofW HT_.out HW_.out (by kernel_rfl)) (fun _ _ _ h => h) (Or.inl ⟨by rfl, ?_⟩) hHeld ?_ ?_
      rotate_left
      · rintro w' ⟨s0, s1, s2, s3, s4, s5, s6, s7, s8, s9, s10, s11, s12, s13, s14, s15⟩
        go_simp
        with_reducible rfl
      rotate_left
      · simp only [Act.put, List.setIfInBounds_toArray, List.set_cons_zero, List.set_cons_succ, i64_w, i32_w]
        rfl
      refine take_ (i := 2) (N := some 57) (v := ?_) (a' := ?_) #[true, true, true, false, false, false, false, false, false, false, false, false] rfl rfl (take_ofW HT_.out HW_.out (by kernel_rfl)) (fun _ _ _ h => h) (Or.inl ⟨by rfl, ?_⟩) hHeld ?_ ?_
      rotate_left
      · rintro w' ⟨s0, s1, s2, s3, s4, s5, s6, s7, s8, s9, s10, s11, s12, s13, s14, s15⟩
        go_simp
        with_reducible rfl
      rotate_left
      · simp only [Act.put, List.setIfInBounds_toArray, List.set_cons_zero, List.set_cons_succ, i64_w, i32_w]
        rfl
      refine take_ (i := 5) (N := some 60) (v := ?_) (a' := ?_) #[true, true, true, false, false, true, false, false, false, false, false, false] rfl rfl (take_ofW HT_.out HW_.out (by kernel_rfl)) (fun _ _ _ h => h) (Or.inl ⟨by rfl, ?_⟩) hHeld ?_ ?_
      rotate_left
      · rintro w' ⟨s0, s1, s2, s3, s4, s5, s6, s7, s8, s9, s10, s11, s12, s13, s14, s15⟩
        go_simp
        with_reducible rfl
      rotate_left
      · simp only [Act.put, List.setIfInBounds_toArray, List.set_cons_zero, List.set_cons_succ, i64_w, i32_w]
        rfl
      refine take_ (i := 6) (N := some 61) (v := ?_) (a' := ?_) #[true, true, true, false, false, true, true, false, false, false, false, false] rfl rfl (take_ofW HT_.out HW_.out (by kernel_rfl)) (fun _ _ _ h => h) (Or.inl ⟨by rfl, ?_⟩) hHeld ?_ ?_
      rotate_left
      · rintro w' ⟨s0, s1, s2, s3, s4, s5, s6, s7, s8, s9, s10, s11, s12, s13, s14, s15⟩
        go_simp
        with_reducible rfl
      rotate_left
      · simp only [Act.put, List.setIfInBounds_toArray, List.set_cons_zero, List.set_cons_succ, i64_w, i32_w]
        rfl
      refine take_ (i := 7) (N := some 62) (v := ?_) (a' := ?_) #[true, true, true, false, false, true, true, true, false, false, false, false] rfl rfl (take_ofW HT_.out HW_.out (by kernel_rfl)) (fun _ _ _ h => h) (Or.inl ⟨by rfl, ?_⟩) hHeld ?_ ?_
      rotate_left
      · rintro w' ⟨s0, s1, s2, s3, s4, s5, s6, s7, s8, s9, s10, s11, s12, s13, s14, s15⟩
        go_simp
        with_reducible rfl
      rotate_left
      · simp only [Act.put, List.setIfInBounds_toArray, List.set_cons_zero, List.set_cons_succ, i64_w, i32_w]
        rfl
      refine join_ (σ := Value × Value) 3 #[true, true, true, true, true, true, true, true, true, false, false, false] (fun s_ => [(58, s_.1), (59, .agg #[.int .u64 t280, .int .u64 t281, .int .u64 t282, .int .u64 t283]), (63, s_.2)]) (fun s_ w' => (w'.cell? ⟨gb245, 0, none⟩ = some (.int .u64 t241) ∧ w'.cell? ⟨gb245, 1, none⟩ = some (.int .u64 t242) ∧ w'.cell? ⟨gb245, 2, none⟩ = some (.int .u64 t243) ∧ w'.cell? ⟨gb245, 3, none⟩ = some (.int .u64 t244) ∧ w'.cell? ⟨gb250, 0, none⟩ = some (.int .u64 t246) ∧ w'.cell? ⟨gb250, 1, none⟩ = some (.int .u64 t247) ∧ w'.cell? ⟨gb250, 2, none⟩ = some (.int .u64 t248) ∧ w'.cell? ⟨gb250, 3, none⟩ = some (.int .u64 t249) ∧ w'.cell? ⟨gb251, 0, none⟩ = some (.int .u64 t241) ∧ w'.cell? ⟨gb251, 1, none⟩ = some (.int .u64 t242) ∧ w'.cell? ⟨gb251, 2, none⟩ = some (.int .u64 t243) ∧ w'.cell? ⟨gb251, 3, none⟩ = some (.int .u64 t244) ∧ w'.cell? ⟨gb252, 0, none⟩ = some (.int .u64 t246) ∧ w'.cell? ⟨gb252, 1, none⟩ = some (.int .u64 t247) ∧ w'.cell? ⟨gb252, 2, none⟩ = some (.int .u64 t248) ∧ w'.cell? ⟨gb252, 3, none⟩ = some (.int .u64 t249)) ∧ (Kd.R k24 24 w' w.heap.size (fun k_ => k_ ≠ gb245 ∧ k_ ≠ gb250) s_.1 y277) ∧ (Kd.R k29 29 w' w.heap.size (fun k_ => k_ ≠ gb251 ∧ k_ ≠ gb252) s_.2 y284) ∧ (w'.heap[gb238]? = some (.cells #[.int .u64 a0_0, .int .u64 a0_1, .int .u64 a0_2, .int .u64 a0_3, .bool a0_4] 26 (0, 0))) ∧ (w'.heap[gb239]? = some (.cells #[.int .u64 a1_0, .int .u64 a1_1, .int .u64 a1_2, .int .u64 a1_3, .bool a1_4] 26 (0, 0))) ∧ (w'.heap[gb245]? = some (.cells #[.int .u64 t241, .int .u64 t242, .int .u64 t243, .int .u64 t244] 24 (0, 0))) ∧ (w'.heap[gb250]? = some (.cells #[.int .u64 t246, .int .u64 t247, .int .u64 t248, .int .u64 t249] 24 (0, 0))) ∧ (w'.heap[gb251]? = some (.cells #[.int .u64 t241, .int .u64 t242, .int .u64 t243, .int .u64 t244] 29 (0, 0))) ∧ (w'.heap[gb252]? = some (.cells #[.int .u64 t246, .int .u64 t247, .int .u64 t248, .int .u64 t249] 29 (0, 0))) ∧ (Below w.heap.size w w')) ?_ ?_
      rotate_left
      · intro hCont
        refine two_ (i := 3) (j := 8) (Ni := some 58) (Nj := some 63) #[true, true, true, true, false, true, true, true, false, false, false, false] #[true, true, true, false, false, true, true, true, true, false, false, false] rfl rfl rfl rfl (two_of HT_.out (by kernel_rfl)) (by decide) (by decide) (fun K hK => ?_) (fun K hK => ?_)
        · skip
          refine Kd.R_lit_step k24 _ 24 ?hg (N := 58) ?hd (xs := ([(⟨t241, t242, t243, t244⟩ : S24), (⟨t246, t247, t248, t249⟩ : S24), (⟨t241, t242, t243, t244⟩ : S24)] : List (S24))) (inner := [.int .u64 t241, .int .u64 t242, .int .u64 t243, .int .u64 t244, .int .u64 t246, .int .u64 t247, .int .u64 t248, .int .u64 t249, .int .u64 t241, .int .u64 t242, .int .u64 t243, .int .u64 t244]) (ok := fun _ => True) (okp := fun _ => True) ?hr ?hp (fun _ hk => hk) trivial (Below.refl _ _) (Nat.le_refl _) (by simp) ?_; (case hd => rfl); (case hg => rfl); (case hr => first | (go_simp; done) | (go_simp; rfl)); (case hp => exact (Reps.c4 (show Kd.M k24 _ _ _ (⟨t241, t242, t243, t244⟩ : S24) [.int .u64 t241, .int .u64 t242, .int .u64 t243, .int .u64 t244] from (k24_mkM _ _ _ (⟨t241, t242, t243, t244⟩ : S24) )) (Reps.c4 (show Kd.M k24 _ _ _ (⟨t246, t247, t248, t249⟩ : S24) [.int .u64 t246, .int .u64 t247, .int .u64 t248, .int .u64 t249] from (k24_mkM _ _ _ (⟨t246, t247, t248, t249⟩ : S24) )) (Reps.c4 (show Kd.M k24 _ _ _ (⟨t241, t242, t243, t244⟩ : S24) [.int .u64 t241, .int .u64 t242, .int .u64 t243, .int .u64 t244] from (k24_mkM _ _ _ (⟨t241, t242, t243, t244⟩ : S24) )) (Reps.none _ _)))))
          intro v278 w85 ho86 hb hg_ hnew_
          clear hg_ hnew_
          (first | rw [← Ny277.out] at ho86 | (simp only [Int.reduceToNat] at ho86; rw [← Ny277.out] at ho86))
          have n0_ := Zq (Kd.R_lower (Kd.R_newB (Kd.R_newB ho86 (g := gb245) (o := .cells #[.int .u64 t241, .int .u64 t242, .int .u64 t243, .int .u64 t244] 24 (0, 0)) (by (with_reducible repeat (first | refine Zn ?_ _ | refine Zd ?_ | refine Za ?_ _)); exact BK245.out)) (g := gb250) (o := .cells #[.int .u64 t246, .int .u64 t247, .int .u64 t248, .int .u64 t249] 24 (0, 0)) (by (with_reducible repeat (first | refine Zn ?_ _ | refine Zd ?_ | refine Za ?_ _)); exact BK250.out)) (below_size (by repeat (first | (with_reducible first | exact HB.out | apply below_alloc | apply Zw | apply Ze | refine Zs ?_ GE238.out | refine Zs ?_ GE239.out | refine Zs ?_ GE245.out | refine Zs ?_ GE250.out | refine Zs ?_ GE251.out | refine Zs ?_ GE252.out) | exact HB.out))))
          have n1_ := Zq (Zb (g := gb238) (o := .cells #[.int .u64 a0_0, .int .u64 a0_1, .int .u64 a0_2, .int .u64 a0_3, .bool a0_4] 26 (0, 0)) (by (with_reducible repeat (first | refine Zn ?_ _ | refine Zd ?_ | refine Za ?_ _)); exact BK238.out) hb)
          have n2_ := Zq (Zb (g := gb239) (o := .cells #[.int .u64 a1_0, .int .u64 a1_1, .int .u64 a1_2, .int .u64 a1_3, .bool a1_4] 26 (0, 0)) (by (with_reducible repeat (first | refine Zn ?_ _ | refine Zd ?_ | refine Za ?_ _)); exact BK239.out) hb)
          have n3_ := Zq (Zb (g := gb245) (o := .cells #[.int .u64 t241, .int .u64 t242, .int .u64 t243, .int .u64 t244] 24 (0, 0)) (by (with_reducible repeat (first | refine Zn ?_ _ | refine Zd ?_ | refine Za ?_ _)); exact BK245.out) hb)
          have n4_ := Zq (Zb (g := gb250) (o := .cells #[.int .u64 t246, .int .u64 t247, .int .u64 t248, .int .u64 t249] 24 (0, 0)) (by (with_reducible repeat (first | refine Zn ?_ _ | refine Zd ?_ | refine Za ?_ _)); exact BK250.out) hb)
          have n5_ := Zq (Zb (g := gb251) (o := .cells #[.int .u64 t241, .int .u64 t242, .int .u64 t243, .int .u64 t244] 29 (0, 0)) (by (with_reducible repeat (first | refine Zn ?_ _ | refine Zd ?_ | refine Za ?_ _)); exact BK251.out) hb)
          have n6_ := Zq (Zb (g := gb252) (o := .cells #[.int .u64 t246, .int .u64 t247, .int .u64 t248, .int .u64 t249] 29 (0, 0)) (by (with_reducible repeat (first | refine Zn ?_ _ | refine Zd ?_ | refine Za ?_ _)); exact BK252.out) hb)
          have n7_ := Zq (below_step (by repeat (first | (with_reducible first | exact HB.out | apply below_alloc | apply Zw | apply Ze | refine Zs ?_ GE238.out | refine Zs ?_ GE239.out | refine Zs ?_ GE245.out | refine Zs ?_ GE250.out | refine Zs ?_ GE251.out | refine Zs ?_ GE252.out) | exact HB.out)) hb)
          clear BK238
          clear BK239
          clear BK245
          clear BK250
          clear BK251
          clear BK252
          clear HB
          have HO279 := n0_
          have BK238 := n1_
          have BK239 := n2_
          have BK245 := n3_
          have BK250 := n4_
          have BK251 := n5_
          have BK252 := n6_
          have HB := n7_
          clear n0_ n1_ n2_ n3_ n4_ n5_ n6_ n7_
          clear hb ho86
          obtain ⟨Ao87, co87, eo87⟩ := Kd.R_slice HO279.out
          (first | subst eo87 | (injection eo87 with f1_ f2_ f3_; have f4_ := f1_.symm; have f5_ := f3_.symm; clear f1_ f2_ f3_; subst f4_; subst f5_))
          refine hK.out _ _ ⟨(blk_cell BK245.out 0).trans rfl, (blk_cell BK245.out 1).trans rfl, (blk_cell BK245.out 2).trans rfl, (blk_cell BK245.out 3).trans rfl, (blk_cell BK250.out 0).trans rfl, (blk_cell BK250.out 1).trans rfl, (blk_cell BK250.out 2).trans rfl, (blk_cell BK250.out 3).trans rfl, (blk_cell BK251.out 0).trans rfl, (blk_cell BK251.out 1).trans rfl, (blk_cell BK251.out 2).trans rfl, (blk_cell BK251.out 3).trans rfl, (blk_cell BK252.out 0).trans rfl, (blk_cell BK252.out 1).trans rfl, (blk_cell BK252.out 2).trans rfl, (blk_cell BK252.out 3).trans rfl⟩ (fun hHeld => ?_)
          clear hK K
          refine norm_ (a' := ?_) ?_ ?_
          rotate_left
          · show Act.put _ (some 58) _ = _
            simp only [Act.put, List.setIfInBounds_toArray, List.set_cons_zero, List.set_cons_succ, i64_w, i32_w]
            rfl
          refine two_ (i := 4) (j := 8) (Ni := some 59) (Nj := some 63) #[true, true, true, true, true, true, true, true, false, false, false, false] #[true, true, true, true, false, true, true, true, true, false, false, false] rfl rfl rfl rfl (two_of HT_.out (by kernel_rfl)) (by decide) (by decide) (fun K hK => ?_) (fun K hK => ?_)
          · skip
            refine goes_ Tryd.func18 (by kernel_rfl) rfl #[.slice Ao87 y277.length co87] (by rfl) rfl rfl (by (try simp only [List.map_toArray, List.map_cons, List.map_nil]); first | done | rfl | (simp only [List.length_drop, List.length_take]; rfl)) ?_
            with_reducible refine (vec_All.calls kj7 _ _ y277 t280 t281 t282 t283 _ ?side1 ?side2 A21.out).mono ?_
            (case side1 => repeat (first | exact (Kd.R_reads' HO279.out).2.2 | (with_reducible refine Kd.C_alloc ?_ _) | (with_reducible refine Kd.C_drewN ?_ _) | (with_reducible refine Kd.C_drew ?_)))
            (case side2 => exact (Kd.R_reads' HO279.out).2.1)
            rintro e w88 ⟨rfl, hb⟩
            refine ⟨_, rfl, ?_⟩
            have n0_ := Zq (Kd.R_below (by (with_reducible repeat (first | apply Kd.R_alloc | apply Kd.R_drewN | apply Kd.R_drew)); exact HO279.out) hb)
            have n1_ := Zq (Zb (g := gb238) (o := .cells #[.int .u64 a0_0, .int .u64 a0_1, .int .u64 a0_2, .int .u64 a0_3, .bool a0_4] 26 (0, 0)) (by (with_reducible repeat (first | refine Zn ?_ _ | refine Zd ?_ | refine Za ?_ _)); exact BK238.out) hb)
            have n2_ := Zq (Zb (g := gb239) (o := .cells #[.int .u64 a1_0, .int .u64 a1_1, .int .u64 a1_2, .int .u64 a1_3, .bool a1_4] 26 (0, 0)) (by (with_reducible repeat (first | refine Zn ?_ _ | refine Zd ?_ | refine Za ?_ _)); exact BK239.out) hb)
            have n3_ := Zq (Zb (g := gb245) (o := .cells #[.int .u64 t241, .int .u64 t242, .int .u64 t243, .int .u64 t244] 24 (0, 0)) (by (with_reducible repeat (first | refine Zn ?_ _ | refine Zd ?_ | refine Za ?_ _)); exact BK245.out) hb)
            have n4_ := Zq (Zb (g := gb250) (o := .cells #[.int .u64 t246, .int .u64 t247, .int .u64 t248, .int .u64 t249] 24 (0, 0)) (by (with_reducible repeat (first | refine Zn ?_ _ | refine Zd ?_ | refine Za ?_ _)); exact BK250.out) hb)
            have n5_ := Zq (Zb (g := gb251) (o := .cells #[.int .u64 t241, .int .u64 t242, .int .u64 t243, .int .u64 t244] 29 (0, 0)) (by (with_reducible repeat (first | refine Zn ?_ _ | refine Zd ?_ | refine Za ?_ _)); exact BK251.out) hb)
            have n6_ := Zq (Zb (g := gb252) (o := .cells #[.int .u64 t246, .int .u64 t247, .int .u64 t248, .int .u64 t249] 29 (0, 0)) (by (with_reducible repeat (first | refine Zn ?_ _ | refine Zd ?_ | refine Za ?_ _)); exact BK252.out) hb)
            have n7_ := Zq (below_step (by repeat (first | (with_reducible first | exact HB.out | apply below_alloc | apply Zw | apply Ze | refine Zs ?_ GE238.out | refine Zs ?_ GE239.out | refine Zs ?_ GE245.out | refine Zs ?_ GE250.out | refine Zs ?_ GE251.out | refine Zs ?_ GE252.out) | exact HB.out)) hb)
            clear HO279
            clear BK238
            clear BK239
            clear BK245
            clear BK250
            clear BK251
            clear BK252
            clear HB
            have HO279 := n0_
            have BK238 := n1_
            have BK239 := n2_
            have BK245 := n3_
            have BK250 := n4_
            have BK251 := n5_
            have BK252 := n6_
            have HB := n7_
            clear n0_ n1_ n2_ n3_ n4_ n5_ n6_ n7_
            (try clear hb)
            (try clear hb2)
            (try clear hk)
            (try clear hi)
            refine hK.out _ _ ⟨(blk_cell BK245.out 0).trans rfl, (blk_cell BK245.out 1).trans rfl, (blk_cell BK245.out 2).trans rfl, (blk_cell BK245.out 3).trans rfl, (blk_cell BK250.out 0).trans rfl, (blk_cell BK250.out 1).trans rfl, (blk_cell BK250.out 2).trans rfl, (blk_cell BK250.out 3).trans rfl, (blk_cell BK251.out 0).trans rfl, (blk_cell BK251.out 1).trans rfl, (blk_cell BK251.out 2).trans rfl, (blk_cell BK251.out 3).trans rfl, (blk_cell BK252.out 0).trans rfl, (blk_cell BK252.out 1).trans rfl, (blk_cell BK252.out 2).trans rfl, (blk_cell BK252.out 3).trans rfl⟩ (fun hHeld => ?_)
            clear hK K
            refine norm_ (a' := ?_) ?_ ?_
            rotate_left
            · show Act.put _ (some 59) _ = _
              simp only [Act.put, List.setIfInBounds_toArray, List.set_cons_zero, List.set_cons_succ, i64_w, i32_w]
              rfl
            refine one_ (i := 8) (N := some 63) #[true, true, true, true, true, true, true, true, true, false, false, false] rfl rfl (one_of HT_.out (by kernel_rfl)) (by decide) (fun K hK => ?_)
            refine Kd.R_lit_step k29 _ 29 ?hg (N := 63) ?hd (xs := ([(⟨t241, t242, t243, t244⟩ : S29), (⟨t246, t247, t248, t249⟩ : S29), (⟨t241, t242, t243, t244⟩ : S29)] : List (S29))) (inner := [.int .u64 t241, .int .u64 t242, .int .u64 t243, .int .u64 t244, .int .u64 t246, .int .u64 t247, .int .u64 t248, .int .u64 t249, .int .u64 t241, .int .u64 t242, .int .u64 t243, .int .u64 t244]) (ok := fun _ => True) (okp := fun _ => True) ?hr ?hp (fun _ hk => hk) trivial (Below.refl _ _) (Nat.le_refl _) (by simp) ?_; (case hd => rfl); (case hg => rfl); (case hr => first | (go_simp; done) | (go_simp; rfl)); (case hp => exact (Reps.c4 (show Kd.M k29 _ _ _ (⟨t241, t242, t243, t244⟩ : S29) [.int .u64 t241, .int .u64 t242, .int .u64 t243, .int .u64 t244] from (k29_mkM _ _ _ (⟨t241, t242, t243, t244⟩ : S29) )) (Reps.c4 (show Kd.M k29 _ _ _ (⟨t246, t247, t248, t249⟩ : S29) [.int .u64 t246, .int .u64 t247, .int .u64 t248, .int .u64 t249] from (k29_mkM _ _ _ (⟨t246, t247, t248, t249⟩ : S29) )) (Reps.c4 (show Kd.M k29 _ _ _ (⟨t241, t242, t243, t244⟩ : S29) [.int .u64 t241, .int .u64 t242, .int .u64 t243, .int .u64 t244] from (k29_mkM _ _ _ (⟨t241, t242, t243, t244⟩ : S29) )) (Reps.none _ _)))))
            intro v285 w89 ho90 hb hg_ hnew_
            clear hg_ hnew_
            (first | rw [← Ny284.out] at ho90 | (simp only [Int.reduceToNat] at ho90; rw [← Ny284.out] at ho90))
            have n0_ := Zq (Kd.R_below (by (with_reducible repeat (first | apply Kd.R_alloc | apply Kd.R_drewN | apply Kd.R_drew)); exact HO279.out) hb)
            have n1_ := Zq (Kd.R_lower (Kd.R_newB (Kd.R_newB ho90 (g := gb251) (o := .cells #[.int .u64 t241, .int .u64 t242, .int .u64 t243, .int .u64 t244] 29 (0, 0)) (by (with_reducible repeat (first | refine Zn ?_ _ | refine Zd ?_ | refine Za ?_ _)); exact BK251.out)) (g := gb252) (o := .cells #[.int .u64 t246, .int .u64 t247, .int .u64 t248, .int .u64 t249] 29 (0, 0)) (by (with_reducible repeat (first | refine Zn ?_ _ | refine Zd ?_ | refine Za ?_ _)); exact BK252.out)) (below_size (by repeat (first | (with_reducible first | exact HB.out | apply below_alloc | apply Zw | apply Ze | refine Zs ?_ GE238.out | refine Zs ?_ GE239.out | refine Zs ?_ GE245.out | refine Zs ?_ GE250.out | refine Zs ?_ GE251.out | refine Zs ?_ GE252.out) | exact HB.out))))
            have n2_ := Zq (Zb (g := gb238) (o := .cells #[.int .u64 a0_0, .int .u64 a0_1, .int .u64 a0_2, .int .u64 a0_3, .bool a0_4] 26 (0, 0)) (by (with_reducible repeat (first | refine Zn ?_ _ | refine Zd ?_ | refine Za ?_ _)); exact BK238.out) hb)
            have n3_ := Zq (Zb (g := gb239) (o := .cells #[.int .u64 a1_0, .int .u64 a1_1, .int .u64 a1_2, .int .u64 a1_3, .bool a1_4] 26 (0, 0)) (by (with_reducible repeat (first | refine Zn ?_ _ | refine Zd ?_ | refine Za ?_ _)); exact BK239.out) hb)
            have n4_ := Zq (Zb (g := gb245) (o := .cells #[.int .u64 t241, .int .u64 t242, .int .u64 t243, .int .u64 t244] 24 (0, 0)) (by (with_reducible repeat (first | refine Zn ?_ _ | refine Zd ?_ | refine Za ?_ _)); exact BK245.out) hb)
            have n5_ := Zq (Zb (g := gb250) (o := .cells #[.int .u64 t246, .int .u64 t247, .int .u64 t248, .int .u64 t249] 24 (0, 0)) (by (with_reducible repeat (first | refine Zn ?_ _ | refine Zd ?_ | refine Za ?_ _)); exact BK250.out) hb)
            have n6_ := Zq (Zb (g := gb251) (o := .cells #[.int .u64 t241, .int .u64 t242, .int .u64 t243, .int .u64 t244] 29 (0, 0)) (by (with_reducible repeat (first | refine Zn ?_ _ | refine Zd ?_ | refine Za ?_ _)); exact BK251.out) hb)
            have n7_ := Zq (Zb (g := gb252) (o := .cells #[.int .u64 t246, .int .u64 t247, .int .u64 t248, .int .u64 t249] 29 (0, 0)) (by (with_reducible repeat (first | refine Zn ?_ _ | refine Zd ?_ | refine Za ?_ _)); exact BK252.out) hb)
            have n8_ := Zq (below_step (by repeat (first | (with_reducible first | exact HB.out | apply below_alloc | apply Zw | apply Ze | refine Zs ?_ GE238.out | refine Zs ?_ GE239.out | refine Zs ?_ GE245.out | refine Zs ?_ GE250.out | refine Zs ?_ GE251.out | refine Zs ?_ GE252.out) | exact HB.out)) hb)
            clear HO279
            clear BK238
            clear BK239
            clear BK245
            clear BK250
            clear BK251
            clear BK252
            clear HB
            have HO279 := n0_
            have HO286 := n1_
            have BK238 := n2_
            have BK239 := n3_
            have BK245 := n4_
            have BK250 := n5_
            have BK251 := n6_
            have BK252 := n7_
            have HB := n8_
            clear n0_ n1_ n2_ n3_ n4_ n5_ n6_ n7_ n8_
            clear hb ho90
            refine hK.out _ _ ⟨(blk_cell BK245.out 0).trans rfl, (blk_cell BK245.out 1).trans rfl, (blk_cell BK245.out 2).trans rfl, (blk_cell BK245.out 3).trans rfl, (blk_cell BK250.out 0).trans rfl, (blk_cell BK250.out 1).trans rfl, (blk_cell BK250.out 2).trans rfl, (blk_cell BK250.out 3).trans rfl, (blk_cell BK251.out 0).trans rfl, (blk_cell BK251.out 1).trans rfl, (blk_cell BK251.out 2).trans rfl, (blk_cell BK251.out 3).trans rfl, (blk_cell BK252.out 0).trans rfl, (blk_cell BK252.out 1).trans rfl, (blk_cell BK252.out 2).trans rfl, (blk_cell BK252.out 3).trans rfl⟩ (fun hHeld => ?_)
            clear hK K
            refine norm_ (a' := ?_) ?_ ?_
            rotate_left
            · show Act.put _ (some 63) _ = _
              simp only [Act.put, List.setIfInBounds_toArray, List.set_cons_zero, List.set_cons_succ, i64_w, i32_w]
              rfl
            exact norm_ (by simp only [putAll, Act.put, List.setIfInBounds_toArray, List.set_cons_zero, List.set_cons_succ]) (hCont (.slice Ao87 y277.length co87, v285) _ ⟨hHeld, (by (with_reducible repeat (first | apply Kd.R_alloc | apply Kd.R_drewN | apply Kd.R_drew)); exact Kd.R_mono HO279.out (fun _ hk => ⟨hk.1.2, hk.2⟩)), (by (with_reducible repeat (first | apply Kd.R_alloc | apply Kd.R_drewN | apply Kd.R_drew)); exact Kd.R_mono HO286.out (fun _ hk => ⟨hk.1.2, hk.2⟩)), (by (with_reducible repeat (first | refine Zn ?_ _ | refine Zd ?_ | refine Za ?_ _)); exact BK238.out), (by (with_reducible repeat (first | refine Zn ?_ _ | refine Zd ?_ | refine Za ?_ _)); exact BK239.out), (by (with_reducible repeat (first | refine Zn ?_ _ | refine Zd ?_ | refine Za ?_ _)); exact BK245.out), (by (with_reducible repeat (first | refine Zn ?_ _ | refine Zd ?_ | refine Za ?_ _)); exact BK250.out), (by (with_reducible repeat (first | refine Zn ?_ _ | refine Zd ?_ | refine Za ?_ _)); exact BK251.out), (by (with_reducible repeat (first | refine Zn ?_ _ | refine Zd ?_ | refine Za ?_ _)); exact BK252.out), (by repeat (first | (with_reducible first | exact HB.out | apply below_alloc | apply Zw | apply Ze | refine Zs ?_ GE238.out | refine Zs ?_ GE239.out | refine Zs ?_ GE245.out | refine Zs ?_ GE250.out | refine Zs ?_ GE251.out | refine Zs ?_ GE252.out) | exact HB.out))⟩)
          · skip
            refine Kd.R_lit_step k29 _ 29 ?hg (N := 63) ?hd (xs := ([(⟨t241, t242, t243, t244⟩ : S29), (⟨t246, t247, t248, t249⟩ : S29), (⟨t241, t242, t243, t244⟩ : S29)] : List (S29))) (inner := [.int .u64 t241, .int .u64 t242, .int .u64 t243, .int .u64 t244, .int .u64 t246, .int .u64 t247, .int .u64 t248, .int .u64 t249, .int .u64 t241, .int .u64 t242, .int .u64 t243, .int .u64 t244]) (ok := fun _ => True) (okp := fun _ => True) ?hr ?hp (fun _ hk => hk) trivial (Below.refl _ _) (Nat.le_refl _) (by simp) ?_; (case hd => rfl); (case hg => rfl); (case hr => first | (go_simp; done) | (go_simp; rfl)); (case hp => exact (Reps.c4 (show Kd.M k29 _ _ _ (⟨t241, t242, t243, t244⟩ : S29) [.int .u64 t241, .int .u64 t242, .int .u64 t243, .int .u64 t244] from (k29_mkM _ _ _ (⟨t241, t242, t243, t244⟩ : S29) )) (Reps.c4 (show Kd.M k29 _ _ _ (⟨t246, t247, t248, t249⟩ : S29) [.int .u64 t246, .int .u64 t247, .int .u64 t248, .int .u64 t249] from (k29_mkM _ _ _ (⟨t246, t247, t248, t249⟩ : S29) )) (Reps.c4 (show Kd.M k29 _ _ _ (⟨t241, t242, t243, t244⟩ : S29) [.int .u64 t241, .int .u64 t242, .int .u64 t243, .int .u64 t244] from (k29_mkM _ _ _ (⟨t241, t242, t243, t244⟩ : S29) )) (Reps.none _ _)))))
            intro v285 w87 ho88 hb hg_ hnew_
            clear hg_ hnew_
            (first | rw [← Ny284.out] at ho88 | (simp only [Int.reduceToNat] at ho88; rw [← Ny284.out] at ho88))
            have n0_ := Zq (Kd.R_below (by (with_reducible repeat (first | apply Kd.R_alloc | apply Kd.R_drewN | apply Kd.R_drew)); exact HO279.out) hb)
            have n1_ := Zq (Kd.R_lower (Kd.R_newB (Kd.R_newB ho88 (g := gb251) (o := .cells #[.int .u64 t241, .int .u64 t242, .int .u64 t243, .int .u64 t244] 29 (0, 0)) (by (with_reducible repeat (first | refine Zn ?_ _ | refine Zd ?_ | refine Za ?_ _)); exact BK251.out)) (g := gb252) (o := .cells #[.int .u64 t246, .int .u64 t247, .int .u64 t248, .int .u64 t249] 29 (0, 0)) (by (with_reducible repeat (first | refine Zn ?_ _ | refine Zd ?_ | refine Za ?_ _)); exact BK252.out)) (below_size (by repeat (first | (with_reducible first | exact HB.out | apply below_alloc | apply Zw | apply Ze | refine Zs ?_ GE238.out | refine Zs ?_ GE239.out | refine Zs ?_ GE245.out | refine Zs ?_ GE250.out | refine Zs ?_ GE251.out | refine Zs ?_ GE252.out) | exact HB.out))))
            have n2_ := Zq (Zb (g := gb238) (o := .cells #[.int .u64 a0_0, .int .u64 a0_1, .int .u64 a0_2, .int .u64 a0_3, .bool a0_4] 26 (0, 0)) (by (with_reducible repeat (first | refine Zn ?_ _ | refine Zd ?_ | refine Za ?_ _)); exact BK238.out) hb)
            have n3_ := Zq (Zb (g := gb239) (o := .cells #[.int .u64 a1_0, .int .u64 a1_1, .int .u64 a1_2, .int .u64 a1_3, .bool a1_4] 26 (0, 0)) (by (with_reducible repeat (first | refine Zn ?_ _ | refine Zd ?_ | refine Za ?_ _)); exact BK239.out) hb)
            have n4_ := Zq (Zb (g := gb245) (o := .cells #[.int .u64 t241, .int .u64 t242, .int .u64 t243, .int .u64 t244] 24 (0, 0)) (by (with_reducible repeat (first | refine Zn ?_ _ | refine Zd ?_ | refine Za ?_ _)); exact BK245.out) hb)
            have n5_ := Zq (Zb (g := gb250) (o := .cells #[.int .u64 t246, .int .u64 t247, .int .u64 t248, .int .u64 t249] 24 (0, 0)) (by (with_reducible repeat (first | refine Zn ?_ _ | refine Zd ?_ | refine Za ?_ _)); exact BK250.out) hb)
            have n6_ := Zq (Zb (g := gb251) (o := .cells #[.int .u64 t241, .int .u64 t242, .int .u64 t243, .int .u64 t244] 29 (0, 0)) (by (with_reducible repeat (first | refine Zn ?_ _ | refine Zd ?_ | refine Za ?_ _)); exact BK251.out) hb)
            have n7_ := Zq (Zb (g := gb252) (o := .cells #[.int .u64 t246, .int .u64 t247, .int .u64 t248, .int .u64 t249] 29 (0, 0)) (by (with_reducible repeat (first | refine Zn ?_ _ | refine Zd ?_ | refine Za ?_ _)); exact BK252.out) hb)
            have n8_ := Zq (below_step (by repeat (first | (with_reducible first | exact HB.out | apply below_alloc | apply Zw | apply Ze | refine Zs ?_ GE238.out | refine Zs ?_ GE239.out | refine Zs ?_ GE245.out | refine Zs ?_ GE250.out | refine Zs ?_ GE251.out | refine Zs ?_ GE252.out) | exact HB.out)) hb)
            clear HO279
            clear BK238
            clear BK239
            clear BK245
            clear BK250
            clear BK251
            clear BK252
            clear HB
            have HO279 := n0_
            have HO286 := n1_
            have BK238 := n2_
            have BK239 := n3_
            have BK245 := n4_
            have BK250 := n5_
            have BK251 := n6_
            have BK252 := n7_
            have HB := n8_
            clear n0_ n1_ n2_ n3_ n4_ n5_ n6_ n7_ n8_
            clear hb ho88
            obtain ⟨Ao89, co89, eo89⟩ := Kd.R_slice HO279.out
            (first | subst eo89 | (injection eo89 with f1_ f2_ f3_; have f4_ := f1_.symm; have f5_ := f3_.symm; clear f1_ f2_ f3_; subst f4_; subst f5_))
            refine hK.out _ _ ⟨(blk_cell BK245.out 0).trans rfl, (blk_cell BK245.out 1).trans rfl, (blk_cell BK245.out 2).trans rfl, (blk_cell BK245.out 3).trans rfl, (blk_cell BK250.out 0).trans rfl, (blk_cell BK250.out 1).trans rfl, (blk_cell BK250.out 2).trans rfl, (blk_cell BK250.out 3).trans rfl, (blk_cell BK251.out 0).trans rfl, (blk_cell BK251.out 1).trans rfl, (blk_cell BK251.out 2).trans rfl, (blk_cell BK251.out 3).trans rfl, (blk_cell BK252.out 0).trans rfl, (blk_cell BK252.out 1).trans rfl, (blk_cell BK252.out 2).trans rfl, (blk_cell BK252.out 3).trans rfl⟩ (fun hHeld => ?_)
            clear hK K
            refine norm_ (a' := ?_) ?_ ?_
            rotate_left
            · show Act.put _ (some 63) _ = _
              simp only [Act.put, List.setIfInBounds_toArray, List.set_cons_zero, List.set_cons_succ, i64_w, i32_w]
              rfl
            refine one_ (i := 4) (N := some 59) #[true, true, true, true, true, true, true, true, true, false, false, false] rfl rfl (one_of HT_.out (by kernel_rfl)) (by decide) (fun K hK => ?_)
            refine goes_ Tryd.func18 (by kernel_rfl) rfl #[.slice Ao89 y277.length co89] (by rfl) rfl rfl (by (try simp only [List.map_toArray, List.map_cons, List.map_nil]); first | done | rfl | (simp only [List.length_drop, List.length_take]; rfl)) ?_
            with_reducible refine (vec_All.calls kj7 _ _ y277 t280 t281 t282 t283 _ ?side1 ?side2 A21.out).mono ?_
            (case side1 => repeat (first | exact (Kd.R_reads' HO279.out).2.2 | (with_reducible refine Kd.C_alloc ?_ _) | (with_reducible refine Kd.C_drewN ?_ _) | (with_reducible refine Kd.C_drew ?_)))
            (case side2 => exact (Kd.R_reads' HO279.out).2.1)
            rintro e w90 ⟨rfl, hb⟩
            refine ⟨_, rfl, ?_⟩
            have n0_ := Zq (Kd.R_below (by (with_reducible repeat (first | apply Kd.R_alloc | apply Kd.R_drewN | apply Kd.R_drew)); exact HO279.out) hb)
            have n1_ := Zq (Kd.R_below (by (with_reducible repeat (first | apply Kd.R_alloc | apply Kd.R_drewN | apply Kd.R_drew)); exact HO286.out) hb)
            have n2_ := Zq (Zb (g := gb238) (o := .cells #[.int .u64 a0_0, .int .u64 a0_1, .int .u64 a0_2, .int .u64 a0_3, .bool a0_4] 26 (0, 0)) (by (with_reducible repeat (first | refine Zn ?_ _ | refine Zd ?_ | refine Za ?_ _)); exact BK238.out) hb)
            have n3_ := Zq (Zb (g := gb239) (o := .cells #[.int .u64 a1_0, .int .u64 a1_1, .int .u64 a1_2, .int .u64 a1_3, .bool a1_4] 26 (0, 0)) (by (with_reducible repeat (first | refine Zn ?_ _ | refine Zd ?_ | refine Za ?_ _)); exact BK239.out) hb)
            have n4_ := Zq (Zb (g := gb245) (o := .cells #[.int .u64 t241, .int .u64 t242, .int .u64 t243, .int .u64 t244] 24 (0, 0)) (by (with_reducible repeat (first | refine Zn ?_ _ | refine Zd ?_ | refine Za ?_ _)); exact BK245.out) hb)
            have n5_ := Zq (Zb (g := gb250) (o := .cells #[.int .u64 t246, .int .u64 t247, .int .u64 t248, .int .u64 t249] 24 (0, 0)) (by (with_reducible repeat (first | refine Zn ?_ _ | refine Zd ?_ | refine Za ?_ _)); exact BK250.out) hb)
            have n6_ := Zq (Zb (g := gb251) (o := .cells #[.int .u64 t241, .int .u64 t242, .int .u64 t243, .int .u64 t244] 29 (0, 0)) (by (with_reducible repeat (first | refine Zn ?_ _ | refine Zd ?_ | refine Za ?_ _)); exact BK251.out) hb)
            have n7_ := Zq (Zb (g := gb252) (o := .cells #[.int .u64 t246, .int .u64 t247, .int .u64 t248, .int .u64 t249] 29 (0, 0)) (by (with_reducible repeat (first | refine Zn ?_ _ | refine Zd ?_ | refine Za ?_ _)); exact BK252.out) hb)
            have n8_ := Zq (below_step (by repeat (first | (with_reducible first | exact HB.out | apply below_alloc | apply Zw | apply Ze | refine Zs ?_ GE238.out | refine Zs ?_ GE239.out | refine Zs ?_ GE245.out | refine Zs ?_ GE250.out | refine Zs ?_ GE251.out | refine Zs ?_ GE252.out) | exact HB.out)) hb)
            clear HO279
            clear HO286
            clear BK238
            clear BK239
            clear BK245
            clear BK250
            clear BK251
            clear BK252
            clear HB
            have HO279 := n0_
            have HO286 := n1_
            have BK238 := n2_
            have BK239 := n3_
            have BK245 := n4_
            have BK250 := n5_
            have BK251 := n6_
            have BK252 := n7_
            have HB := n8_
            clear n0_ n1_ n2_ n3_ n4_ n5_ n6_ n7_ n8_
            (try clear hb)
            (try clear hb2)
            (try clear hk)
            (try clear hi)
            refine hK.out _ _ ⟨(blk_cell BK245.out 0).trans rfl, (blk_cell BK245.out 1).trans rfl, (blk_cell BK245.out 2).trans rfl, (blk_cell BK245.out 3).trans rfl, (blk_cell BK250.out 0).trans rfl, (blk_cell BK250.out 1).trans rfl, (blk_cell BK250.out 2).trans rfl, (blk_cell BK250.out 3).trans rfl, (blk_cell BK251.out 0).trans rfl, (blk_cell BK251.out 1).trans rfl, (blk_cell BK251.out 2).trans rfl, (blk_cell BK251.out 3).trans rfl, (blk_cell BK252.out 0).trans rfl, (blk_cell BK252.out 1).trans rfl, (blk_cell BK252.out 2).trans rfl, (blk_cell BK252.out 3).trans rfl⟩ (fun hHeld => ?_)
            clear hK K
            refine norm_ (a' := ?_) ?_ ?_
            rotate_left
            · show Act.put _ (some 59) _ = _
              simp only [Act.put, List.setIfInBounds_toArray, List.set_cons_zero, List.set_cons_succ, i64_w, i32_w]
              rfl
            exact norm_ (by simp only [putAll, Act.put, List.setIfInBounds_toArray, List.set_cons_zero, List.set_cons_succ]) (hCont (.slice Ao89 y277.length co89, v285) _ ⟨hHeld, (by (with_reducible repeat (first | apply Kd.R_alloc | apply Kd.R_drewN | apply Kd.R_drew)); exact Kd.R_mono HO279.out (fun _ hk => ⟨hk.1.2, hk.2⟩)), (by (with_reducible repeat (first | apply Kd.R_alloc | apply Kd.R_drewN | apply Kd.R_drew)); exact Kd.R_mono HO286.out (fun _ hk => ⟨hk.1.2, hk.2⟩)), (by (with_reducible repeat (first | refine Zn ?_ _ | refine Zd ?_ | refine Za ?_ _)); exact BK238.out), (by (with_reducible repeat (first | refine Zn ?_ _ | refine Zd ?_ | refine Za ?_ _)); exact BK239.out), (by (with_reducible repeat (first | refine Zn ?_ _ | refine Zd ?_ | refine Za ?_ _)); exact BK245.out), (by (with_reducible repeat (first | refine Zn ?_ _ | refine Zd ?_ | refine Za ?_ _)); exact BK250.out), (by (with_reducible repeat (first | refine Zn ?_ _ | refine Zd ?_ | refine Za ?_ _)); exact BK251.out), (by (with_reducible repeat (first | refine Zn ?_ _ | refine Zd ?_ | refine Za ?_ _)); exact BK252.out), (by repeat (first | (with_reducible first | exact HB.out | apply below_alloc | apply Zw | apply Ze | refine Zs ?_ GE238.out | refine Zs ?_ GE239.out | refine Zs ?_ GE245.out | refine Zs ?_ GE250.out | refine Zs ?_ GE251.out | refine Zs ?_ GE252.out) | exact HB.out))⟩)
        · skip
          refine Kd.R_lit_step k29 _ 29 ?hg (N := 63) ?hd (xs := ([(⟨t241, t242, t243, t244⟩ : S29), (⟨t246, t247, t248, t249⟩ : S29), (⟨t241, t242, t243, t244⟩ : S29)] : List (S29))) (inner := [.int .u64 t241, .int .u64 t242, .int .u64 t243, .int .u64 t244, .int .u64 t246, .int .u64 t247, .int .u64 t248, .int .u64 t249, .int .u64 t241, .int .u64 t242, .int .u64 t243, .int .u64 t244]) (ok := fun _ => True) (okp := fun _ => True) ?hr ?hp (fun _ hk => hk) trivial (Below.refl _ _) (Nat.le_refl _) (by simp) ?_; (case hd => rfl); (case hg => rfl); (case hr => first | (go_simp; done) | (go_simp; rfl)); (case hp => exact (Reps.c4 (show Kd.M k29 _ _ _ (⟨t241, t242, t243, t244⟩ : S29) [.int .u64 t241, .int .u64 t242, .int .u64 t243, .int .u64 t244] from (k29_mkM _ _ _ (⟨t241, t242, t243, t244⟩ : S29) )) (Reps.c4 (show Kd.M k29 _ _ _ (⟨t246, t247, t248, t249⟩ : S29) [.int .u64 t246, .int .u64 t247, .int .u64 t248, .int .u64 t249] from (k29_mkM _ _ _ (⟨t246, t247, t248, t249⟩ : S29) )) (Reps.c4 (show Kd.M k29 _ _ _ (⟨t241, t242, t243, t244⟩ : S29) [.int .u64 t241, .int .u64 t242, .int .u64 t243, .int .u64 t244] from (k29_mkM _ _ _ (⟨t241, t242, t243, t244⟩ : S29) )) (Reps.none _ _)))))
          intro v285 w85 ho86 hb hg_ hnew_
          clear hg_ hnew_
          (first | rw [← Ny284.out] at ho86 | (simp only [Int.reduceToNat] at ho86; rw [← Ny284.out] at ho86))
          have n0_ := Zq (Kd.R_lower (Kd.R_newB (Kd.R_newB ho86 (g := gb251) (o := .cells #[.int .u64 t241, .int .u64 t242, .int .u64 t243, .int .u64 t244] 29 (0, 0)) (by (with_reducible repeat (first | refine Zn ?_ _ | refine Zd ?_ | refine Za ?_ _)); exact BK251.out)) (g := gb252) (o := .cells #[.int .u64 t246, .int .u64 t247, .int .u64 t248, .int .u64 t249] 29 (0, 0)) (by (with_reducible repeat (first | refine Zn ?_ _ | refine Zd ?_ | refine Za ?_ _)); exact BK252.out)) (below_size (by repeat (first | (with_reducible first | exact HB.out | apply below_alloc | apply Zw | apply Ze | refine Zs ?_ GE238.out | refine Zs ?_ GE239.out | refine Zs ?_ GE245.out | refine Zs ?_ GE250.out | refine Zs ?_ GE251.out | refine Zs ?_ GE252.out) | exact HB.out))))
          have n1_ := Zq (Zb (g := gb238) (o := .cells #[.int .u64 a0_0, .int .u64 a0_1, .int .u64 a0_2, .int .u64 a0_3, .bool a0_4] 26 (0, 0)) (by (with_reducible repeat (first | refine Zn ?_ _ | refine Zd ?_ | refine Za ?_ _)); exact BK238.out) hb)
          have n2_ := Zq (Zb (g := gb239) (o := .cells #[.int .u64 a1_0, .int .u64 a1_1, .int .u64 a1_2, .int .u64 a1_3, .bool a1_4] 26 (0, 0)) (by (with_reducible repeat (first | refine Zn ?_ _ | refine Zd ?_ | refine Za ?_ _)); exact BK239.out) hb)
          have n3_ := Zq (Zb (g := gb245) (o := .cells #[.int .u64 t241, .int .u64 t242, .int .u64 t243, .int .u64 t244] 24 (0, 0)) (by (with_reducible repeat (first | refine Zn ?_ _ | refine Zd ?_ | refine Za ?_ _)); exact BK245.out) hb)
          have n4_ := Zq (Zb (g := gb250) (o := .cells #[.int .u64 t246, .int .u64 t247, .int .u64 t248, .int .u64 t249] 24 (0, 0)) (by (with_reducible repeat (first | refine Zn ?_ _ | refine Zd ?_ | refine Za ?_ _)); exact BK250.out) hb)
          have n5_ := Zq (Zb (g := gb251) (o := .cells #[.int .u64 t241, .int .u64 t242, .int .u64 t243, .int .u64 t244] 29 (0, 0)) (by (with_reducible repeat (first | refine Zn ?_ _ | refine Zd ?_ | refine Za ?_ _)); exact BK251.out) hb)
          have n6_ := Zq (Zb (g := gb252) (o := .cells #[.int .u64 t246, .int .u64 t247, .int .u64 t248, .int .u64 t249] 29 (0, 0)) (by (with_reducible repeat (first | refine Zn ?_ _ | refine Zd ?_ | refine Za ?_ _)); exact BK252.out) hb)
          have n7_ := Zq (below_step (by repeat (first | (with_reducible first | exact HB.out | apply below_alloc | apply Zw | apply Ze | refine Zs ?_ GE238.out | refine Zs ?_ GE239.out | refine Zs ?_ GE245.out | refine Zs ?_ GE250.out | refine Zs ?_ GE251.out | refine Zs ?_ GE252.out) | exact HB.out)) hb)
          clear BK238
          clear BK239
          clear BK245
          clear BK250
          clear BK251
          clear BK252
          clear HB
          have HO286 := n0_
          have BK238 := n1_
          have BK239 := n2_
          have BK245 := n3_
          have BK250 := n4_
          have BK251 := n5_
          have BK252 := n6_
          have HB := n7_
          clear n0_ n1_ n2_ n3_ n4_ n5_ n6_ n7_
          clear hb ho86
          refine hK.out _ _ ⟨(blk_cell BK245.out 0).trans rfl, (blk_cell BK245.out 1).trans rfl, (blk_cell BK245.out 2).trans rfl, (blk_cell BK245.out 3).trans rfl, (blk_cell BK250.out 0).trans rfl, (blk_cell BK250.out 1).trans rfl, (blk_cell BK250.out 2).trans rfl, (blk_cell BK250.out 3).trans rfl, (blk_cell BK251.out 0).trans rfl, (blk_cell BK251.out 1).trans rfl, (blk_cell BK251.out 2).trans rfl, (blk_cell BK251.out 3).trans rfl, (blk_cell BK252.out 0).trans rfl, (blk_cell BK252.out 1).trans rfl, (blk_cell BK252.out 2).trans rfl, (blk_cell BK252.out 3).trans rfl⟩ (fun hHeld => ?_)
          clear hK K
          refine norm_ (a' := ?_) ?_ ?_
          rotate_left
          · show Act.put _ (some 63) _ = _
            simp only [Act.put, List.setIfInBounds_toArray, List.set_cons_zero, List.set_cons_succ, i64_w, i32_w]
            rfl
          refine one_ (i := 3) (N := some 58) #[true, true, true, true, false, true, true, true, true, false, false, false] rfl rfl (one_of HT_.out (by kernel_rfl)) (by decide) (fun K hK => ?_)
          refine Kd.R_lit_step k24 _ 24 ?hg (N := 58) ?hd (xs := ([(⟨t241, t242, t243, t244⟩ : S24), (⟨t246, t247, t248, t249⟩ : S24), (⟨t241, t242, t243, t244⟩ : S24)] : List (S24))) (inner := [.int .u64 t241, .int .u64 t242, .int .u64 t243, .int .u64 t244, .int .u64 t246, .int .u64 t247, .int .u64 t248, .int .u64 t249, .int .u64 t241, .int .u64 t242, .int .u64 t243, .int .u64 t244]) (ok := fun _ => True) (okp := fun _ => True) ?hr ?hp (fun _ hk => hk) trivial (Below.refl _ _) (Nat.le_refl _) (by simp) ?_; (case hd => rfl); (case hg => rfl); (case hr => first | (go_simp; done) | (go_simp; rfl)); (case hp => exact (Reps.c4 (show Kd.M k24 _ _ _ (⟨t241, t242, t243, t244⟩ : S24) [.int .u64 t241, .int .u64 t242, .int .u64 t243, .int .u64 t244] from (k24_mkM _ _ _ (⟨t241, t242, t243, t244⟩ : S24) )) (Reps.c4 (show Kd.M k24 _ _ _ (⟨t246, t247, t248, t249⟩ : S24) [.int .u64 t246, .int .u64 t247, .int .u64 t248, .int .u64 t249] from (k24_mkM _ _ _ (⟨t246, t247, t248, t249⟩ : S24) )) (Reps.c4 (show Kd.M k24 _ _ _ (⟨t241, t242, t243, t244⟩ : S24) [.int .u64 t241, .int .u64 t242, .int .u64 t243, .int .u64 t244] from (k24_mkM _ _ _ (⟨t241, t242, t243, t244⟩ : S24) )) (Reps.none _ _)))))
          intro v278 w87 ho88 hb hg_ hnew_
          clear hg_ hnew_
          (first | rw [← Ny277.out] at ho88 | (simp only [Int.reduceToNat] at ho88; rw [← Ny277.out] at ho88))
          have n0_ := Zq (Kd.R_below (by (with_reducible repeat (first | apply Kd.R_alloc | apply Kd.R_drewN | apply Kd.R_drew)); exact HO286.out) hb)
          have n1_ := Zq (Kd.R_lower (Kd.R_newB (Kd.R_newB ho88 (g := gb245) (o := .cells #[.int .u64 t241, .int .u64 t242, .int .u64 t243, .int .u64 t244] 24 (0, 0)) (by (with_reducible repeat (first | refine Zn ?_ _ | refine Zd ?_ | refine Za ?_ _)); exact BK245.out)) (g := gb250) (o := .cells #[.int .u64 t246, .int .u64 t247, .int .u64 t248, .int .u64 t249] 24 (0, 0)) (by (with_reducible repeat (first | refine Zn ?_ _ | refine Zd ?_ | refine Za ?_ _)); exact BK250.out)) (below_size (by repeat (first | (with_reducible first | exact HB.out | apply below_alloc | apply Zw | apply Ze | refine Zs ?_ GE238.out | refine Zs ?_ GE239.out | refine Zs ?_ GE245.out | refine Zs ?_ GE250.out | refine Zs ?_ GE251.out | refine Zs ?_ GE252.out) | exact HB.out))))
          have n2_ := Zq (Zb (g := gb238) (o := .cells #[.int .u64 a0_0, .int .u64 a0_1, .int .u64 a0_2, .int .u64 a0_3, .bool a0_4] 26 (0, 0)) (by (with_reducible repeat (first | refine Zn ?_ _ | refine Zd ?_ | refine Za ?_ _)); exact BK238.out) hb)
          have n3_ := Zq (Zb (g := gb239) (o := .cells #[.int .u64 a1_0, .int .u64 a1_1, .int .u64 a1_2, .int .u64 a1_3, .bool a1_4] 26 (0, 0)) (by (with_reducible repeat (first | refine Zn ?_ _ | refine Zd ?_ | refine Za ?_ _)); exact BK239.out) hb)
          have n4_ := Zq (Zb (g := gb245) (o := .cells #[.int .u64 t241, .int .u64 t242, .int .u64 t243, .int .u64 t244] 24 (0, 0)) (by (with_reducible repeat (first | refine Zn ?_ _ | refine Zd ?_ | refine Za ?_ _)); exact BK245.out) hb)
          have n5_ := Zq (Zb (g := gb250) (o := .cells #[.int .u64 t246, .int .u64 t247, .int .u64 t248, .int .u64 t249] 24 (0, 0)) (by (with_reducible repeat (first | refine Zn ?_ _ | refine Zd ?_ | refine Za ?_ _)); exact BK250.out) hb)
          have n6_ := Zq (Zb (g := gb251) (o := .cells #[.int .u64 t241, .int .u64 t242, .int .u64 t243, .int .u64 t244] 29 (0, 0)) (by (with_reducible repeat (first | refine Zn ?_ _ | refine Zd ?_ | refine Za ?_ _)); exact BK251.out) hb)
          have n7_ := Zq (Zb (g := gb252) (o := .cells #[.int .u64 t246, .int .u64 t247, .int .u64 t248, .int .u64 t249] 29 (0, 0)) (by (with_reducible repeat (first | refine Zn ?_ _ | refine Zd ?_ | refine Za ?_ _)); exact BK252.out) hb)
          have n8_ := Zq (below_step (by repeat (first | (with_reducible first | exact HB.out | apply below_alloc | apply Zw | apply Ze | refine Zs ?_ GE238.out | refine Zs ?_ GE239.out | refine Zs ?_ GE245.out | refine Zs ?_ GE250.out | refine Zs ?_ GE251.out | refine Zs ?_ GE252.out) | exact HB.out)) hb)
          clear HO286
          clear BK238
          clear BK239
          clear BK245
          clear BK250
          clear BK251
          clear BK252
          clear HB
          have HO286 := n0_
          have HO279 := n1_
          have BK238 := n2_
          have BK239 := n3_
          have BK245 := n4_
          have BK250 := n5_
          have BK251 := n6_
          have BK252 := n7_
          have HB := n8_
          clear n0_ n1_ n2_ n3_ n4_ n5_ n6_ n7_ n8_
          clear hb ho88
          obtain ⟨Ao89, co89, eo89⟩ := Kd.R_slice HO279.out
          (first | subst eo89 | (injection eo89 with f1_ f2_ f3_; have f4_ := f1_.symm; have f5_ := f3_.symm; clear f1_ f2_ f3_; subst f4_; subst f5_))
          refine hK.out _ _ ⟨(blk_cell BK245.out 0).trans rfl, (blk_cell BK245.out 1).trans rfl, (blk_cell BK245.out 2).trans rfl, (blk_cell BK245.out 3).trans rfl, (blk_cell BK250.out 0).trans rfl, (blk_cell BK250.out 1).trans rfl, (blk_cell BK250.out 2).trans rfl, (blk_cell BK250.out 3).trans rfl, (blk_cell BK251.out 0).trans rfl, (blk_cell BK251.out 1).trans rfl, (blk_cell BK251.out 2).trans rfl, (blk_cell BK251.out 3).trans rfl, (blk_cell BK252.out 0).trans rfl, (blk_cell BK252.out 1).trans rfl, (blk_cell BK252.out 2).trans rfl, (blk_cell BK252.out 3).trans rfl⟩ (fun hHeld => ?_)
          clear hK K
          refine norm_ (a' := ?_) ?_ ?_
          rotate_left
          · show Act.put _ (some 58) _ = _
            simp only [Act.put, List.setIfInBounds_toArray, List.set_cons_zero, List.set_cons_succ, i64_w, i32_w]
            rfl
          refine one_ (i := 4) (N := some 59) #[true, true, true, true, true, true, true, true, true, false, false, false] rfl rfl (one_of HT_.out (by kernel_rfl)) (by decide) (fun K hK => ?_)
          refine goes_ Tryd.func18 (by kernel_rfl) rfl #[.slice Ao89 y277.length co89] (by rfl) rfl rfl (by (try simp only [List.map_toArray, List.map_cons, List.map_nil]); first | done | rfl | (simp only [List.length_drop, List.length_take]; rfl)) ?_
          with_reducible refine (vec_All.calls kj7 _ _ y277 t280 t281 t282 t283 _ ?side1 ?side2 A21.out).mono ?_
          (case side1 => repeat (first | exact (Kd.R_reads' HO279.out).2.2 | (with_reducible refine Kd.C_alloc ?_ _) | (with_reducible refine Kd.C_drewN ?_ _) | (with_reducible refine Kd.C_drew ?_)))
          (case side2 => exact (Kd.R_reads' HO279.out).2.1)
          rintro e w90 ⟨rfl, hb⟩
          refine ⟨_, rfl, ?_⟩
          have n0_ := Zq (Kd.R_below (by (with_reducible repeat (first | apply Kd.R_alloc | apply Kd.R_drewN | apply Kd.R_drew)); exact HO286.out) hb)
          have n1_ := Zq (Kd.R_below (by (with_reducible repeat (first | apply Kd.R_alloc | apply Kd.R_drewN | apply Kd.R_drew)); exact HO279.out) hb)
          have n2_ := Zq (Zb (g := gb238) (o := .cells #[.int .u64 a0_0, .int .u64 a0_1, .int .u64 a0_2, .int .u64 a0_3, .bool a0_4] 26 (0, 0)) (by (with_reducible repeat (first | refine Zn ?_ _ | refine Zd ?_ | refine Za ?_ _)); exact BK238.out) hb)
          have n3_ := Zq (Zb (g := gb239) (o := .cells #[.int .u64 a1_0, .int .u64 a1_1, .int .u64 a1_2, .int .u64 a1_3, .bool a1_4] 26 (0, 0)) (by (with_reducible repeat (first | refine Zn ?_ _ | refine Zd ?_ | refine Za ?_ _)); exact BK239.out) hb)
          have n4_ := Zq (Zb (g := gb245) (o := .cells #[.int .u64 t241, .int .u64 t242, .int .u64 t243, .int .u64 t244] 24 (0, 0)) (by (with_reducible repeat (first | refine Zn ?_ _ | refine Zd ?_ | refine Za ?_ _)); exact BK245.out) hb)
          have n5_ := Zq (Zb (g := gb250) (o := .cells #[.int .u64 t246, .int .u64 t247, .int .u64 t248, .int .u64 t249] 24 (0, 0)) (by (with_reducible repeat (first | refine Zn ?_ _ | refine Zd ?_ | refine Za ?_ _)); exact BK250.out) hb)
          have n6_ := Zq (Zb (g := gb251) (o := .cells #[.int .u64 t241, .int .u64 t242, .int .u64 t243, .int .u64 t244] 29 (0, 0)) (by (with_reducible repeat (first | refine Zn ?_ _ | refine Zd ?_ | refine Za ?_ _)); exact BK251.out) hb)
          have n7_ := Zq (Zb (g := gb252) (o := .cells #[.int .u64 t246, .int .u64 t247, .int .u64 t248, .int .u64 t249] 29 (0, 0)) (by (with_reducible repeat (first | refine Zn ?_ _ | refine Zd ?_ | refine Za ?_ _)); exact BK252.out) hb)
          have n8_ := Zq (below_step (by repeat (first | (with_reducible first | exact HB.out | apply below_alloc | apply Zw | apply Ze | refine Zs ?_ GE238.out | refine Zs ?_ GE239.out | refine Zs ?_ GE245.out | refine Zs ?_ GE250.out | refine Zs ?_ GE251.out | refine Zs ?_ GE252.out) | exact HB.out)) hb)
          clear HO286
          clear HO279
          clear BK238
          clear BK239
          clear BK245
          clear BK250
          clear BK251
          clear BK252
          clear HB
          have HO286 := n0_
          have HO279 := n1_
          have BK238 := n2_
          have BK239 := n3_
          have BK245 := n4_
          have BK250 := n5_
          have BK251 := n6_
          have BK252 := n7_
          have HB := n8_
          clear n0_ n1_ n2_ n3_ n4_ n5_ n6_ n7_ n8_
          (try clear hb)
          (try clear hb2)
          (try clear hk)
          (try clear hi)
          refine hK.out _ _ ⟨(blk_cell BK245.out 0).trans rfl, (blk_cell BK245.out 1).trans rfl, (blk_cell BK245.out 2).trans rfl, (blk_cell BK245.out 3).trans rfl, (blk_cell BK250.out 0).trans rfl, (blk_cell BK250.out 1).trans rfl, (blk_cell BK250.out 2).trans rfl, (blk_cell BK250.out 3).trans rfl, (blk_cell BK251.out 0).trans rfl, (blk_cell BK251.out 1).trans rfl, (blk_cell BK251.out 2).trans rfl, (blk_cell BK251.out 3).trans rfl, (blk_cell BK252.out 0).trans rfl, (blk_cell BK252.out 1).trans rfl, (blk_cell BK252.out 2).trans rfl, (blk_cell BK252.out 3).trans rfl⟩ (fun hHeld => ?_)
          clear hK K
          refine norm_ (a' := ?_) ?_ ?_
          rotate_left
          · show Act.put _ (some 59) _ = _
            simp only [Act.put, List.setIfInBounds_toArray, List.set_cons_zero, List.set_cons_succ, i64_w, i32_w]
            rfl
          exact norm_ (by simp only [putAll, Act.put, List.setIfInBounds_toArray, List.set_cons_zero, List.set_cons_succ]) (hCont (.slice Ao89 y277.length co89, v285) _ ⟨hHeld, (by (with_reducible repeat (first | apply Kd.R_alloc | apply Kd.R_drewN | apply Kd.R_drew)); exact Kd.R_mono HO279.out (fun _ hk => ⟨hk.1.2, hk.2⟩)), (by (with_reducible repeat (first | apply Kd.R_alloc | apply Kd.R_drewN | apply Kd.R_drew)); exact Kd.R_mono HO286.out (fun _ hk => ⟨hk.1.2, hk.2⟩)), (by (with_reducible repeat (first | refine Zn ?_ _ | refine Zd ?_ | refine Za ?_ _)); exact BK238.out), (by (with_reducible repeat (first | refine Zn ?_ _ | refine Zd ?_ | refine Za ?_ _)); exact BK239.out), (by (with_reducible repeat (first | refine Zn ?_ _ | refine Zd ?_ | refine Za ?_ _)); exact BK245.out), (by (with_reducible repeat (first | refine Zn ?_ _ | refine Zd ?_ | refine Za ?_ _)); exact BK250.out), (by (with_reducible repeat (first | refine Zn ?_ _ | refine Zd ?_ | refine Za ?_ _)); exact BK251.out), (by (with_reducible repeat (first | refine Zn ?_ _ | refine Zd ?_ | refine Za ?_ _)); exact BK252.out), (by repeat (first | (with_reducible first | exact HB.out | apply below_alloc | apply Zw | apply Ze | refine Zs ?_ GE238.out | refine Zs ?_ GE239.out | refine Zs ?_ GE245.out | refine Zs ?_ GE250.out | refine Zs ?_ GE251.out | refine Zs ?_ GE252.out) | exact HB.out))⟩)
      rintro ⟨v278, v285⟩ w91 ⟨hS_, h0_, h1_, h2_, h3_, h4_, h5_, h6_, h7_, h8_⟩
      have n0_ : Aside0 (Kd.R k24 24 w91 w.heap.size (fun k_ => k_ ≠ gb245 ∧ k_ ≠ gb250) v278 y277) := ⟨h0_⟩
      have n1_ : Aside0 (Kd.R k29 29 w91 w.heap.size (fun k_ => k_ ≠ gb251 ∧ k_ ≠ gb252) v285 y284) := ⟨h1_⟩
      have n2_ : Aside0 (w91.heap[gb238]? = some (.cells #[.int .u64 a0_0, .int .u64 a0_1, .int .u64 a0_2, .int .u64 a0_3, .bool a0_4] 26 (0, 0))) := ⟨h2_⟩
      have n3_ : Aside0 (w91.heap[gb239]? = some (.cells #[.int .u64 a1_0, .int .u64 a1_1, .int .u64 a1_2, .int .u64 a1_3, .bool a1_4] 26 (0, 0))) := ⟨h3_⟩
      have n4_ : Aside0 (w91.heap[gb245]? = some (.cells #[.int .u64 t241, .int .u64 t242, .int .u64 t243, .int .u64 t244] 24 (0, 0))) := ⟨h4_⟩
      have n5_ : Aside0 (w91.heap[gb250]? = some (.cells #[.int .u64 t246, .int .u64 t247, .int .u64 t248, .int .u64 t249] 24 (0, 0))) := ⟨h5_⟩
      have n6_ : Aside0 (w91.heap[gb251]? = some (.cells #[.int .u64 t241, .int .u64 t242, .int .u64 t243, .int .u64 t244] 29 (0, 0))) := ⟨h6_⟩
      have n7_ : Aside0 (w91.heap[gb252]? = some (.cells #[.int .u64 t246, .int .u64 t247, .int .u64 t248, .int .u64 t249] 29 (0, 0))) := ⟨h7_⟩
      have n8_ : Aside0 (Below w.heap.size w w91) := ⟨h8_⟩
      clear BK238
      clear BK239
      clear BK245
      clear BK250
      clear BK251
      clear BK252
      clear HB
      clear h0_ h1_ h2_ h3_ h4_ h5_ h6_ h7_ h8_
      have HO279 := n0_
      have HO286 := n1_
      have BK238 := n2_
      have BK239 := n3_
      have BK245 := n4_
      have BK250 := n5_
      have BK251 := n6_
      have BK252 := n7_
      have HB := n8_
      clear n0_ n1_ n2_ n3_ n4_ n5_ n6_ n7_ n8_
      have hHeld : w91.cell? ⟨gb245, 0, none⟩ = some (.int .u64 t241) ∧ w91.cell? ⟨gb245, 1, none⟩ = some (.int .u64 t242) ∧ w91.cell? ⟨gb245, 2, none⟩ = some (.int .u64 t243) ∧ w91.cell? ⟨gb245, 3, none⟩ = some (.int .u64 t244) ∧ w91.cell? ⟨gb250, 0, none⟩ = some (.int .u64 t246) ∧ w91.cell? ⟨gb250, 1, none⟩ = some (.int .u64 t247) ∧ w91.cell? ⟨gb250, 2, none⟩ = some (.int .u64 t248) ∧ w91.cell? ⟨gb250, 3, none⟩ = some (.int .u64 t249) ∧ w91.cell? ⟨gb251, 0, none⟩ = some (.int .u64 t241) ∧ w91.cell? ⟨gb251, 1, none⟩ = some (.int .u64 t242) ∧ w91.cell? ⟨gb251, 2, none⟩ = some (.int .u64 t243) ∧ w91.cell? ⟨gb251, 3, none⟩ = some (.int .u64 t244) ∧ w91.cell? ⟨gb252, 0, none⟩ = some (.int .u64 t246) ∧ w91.cell? ⟨gb252, 1, none⟩ = some (.int .u64 t247) ∧ w91.cell? ⟨gb252, 2, none⟩ = some (.int .u64 t248) ∧ w91.cell? ⟨gb252, 3, none⟩ = some (.int .u64 t249) := hS_
      obtain ⟨Ao92, co92, eo92⟩ := Kd.R_slice HO286.out
      (first | subst eo92 | (injection eo92 with f1_ f2_ f3_; have f4_ := f1_.symm; have f5_ := f3_.symm; clear f1_ f2_ f3_; subst f4_; subst f5_))
      refine norm_ (a' := ?_) ?_ ?_
      rotate_left
      · simp only [putAll, Act.put, List.setIfInBounds_toArray, List.set_cons_zero, List.set_cons_succ]
        rfl
      refine one_ (i := 9) (N := some 64) #[true, true, true, true, true, true, true, true, true, true, false, false] rfl rfl (one_of HT_.out (by kernel_rfl)) (by decide) (fun K hK => ?_)
      refine goes_ Tryd.func19 (by kernel_rfl) rfl #[.slice Ao92 y284.length co92] (by rfl) rfl rfl (by (try simp only [List.map_toArray, List.map_cons, List.map_nil]); first | done | rfl | (simp only [List.length_drop, List.length_take]; rfl)) ?_
      with_reducible refine (tenementref06_All.calls kj7 _ _ y284 t287 t288 t289 t290 _ ?side1 ?side2 A22.out).mono ?_
      (case side1 => repeat (first | exact (Kd.R_reads' HO286.out).2.2 | (with_reducible refine Kd.C_alloc ?_ _) | (with_reducible refine Kd.C_drewN ?_ _) | (with_reducible refine Kd.C_drew ?_)))
      (case side2 => exact (Kd.R_reads' HO286.out).2.1)
      rintro e w93 ⟨rfl, hb⟩
      refine ⟨_, rfl, ?_⟩
      have n0_ := Zq (Kd.R_below (by (with_reducible repeat (first | apply Kd.R_alloc | apply Kd.R_drewN | apply Kd.R_drew)); exact HO279.out) hb)
      have n1_ := Zq (Kd.R_below (by (with_reducible repeat (first | apply Kd.R_alloc | apply Kd.R_drewN | apply Kd.R_drew)); exact HO286.out) hb)
      have n2_ := Zq (Zb (g := gb238) (o := .cells #[.int .u64 a0_0, .int .u64 a0_1, .int .u64 a0_2, .int .u64 a0_3, .bool a0_4] 26 (0, 0)) (by (with_reducible repeat (first | refine Zn ?_ _ | refine Zd ?_ | refine Za ?_ _)); exact BK238.out) hb)
      have n3_ := Zq (Zb (g := gb239) (o := .cells #[.int .u64 a1_0, .int .u64 a1_1, .int .u64 a1_2, .int .u64 a1_3, .bool a1_4] 26 (0, 0)) (by (with_reducible repeat (first | refine Zn ?_ _ | refine Zd ?_ | refine Za ?_ _)); exact BK239.out) hb)
      have n4_ := Zq (Zb (g := gb245) (o := .cells #[.int .u64 t241, .int .u64 t242, .int .u64 t243, .int .u64 t244] 24 (0, 0)) (by (with_reducible repeat (first | refine Zn ?_ _ | refine Zd ?_ | refine Za ?_ _)); exact BK245.out) hb)
      have n5_ := Zq (Zb (g := gb250) (o := .cells #[.int .u64 t246, .int .u64 t247, .int .u64 t248, .int .u64 t249] 24 (0, 0)) (by (with_reducible repeat (first | refine Zn ?_ _ | refine Zd ?_ | refine Za ?_ _)); exact BK250.out) hb)
      have n6_ := Zq (Zb (g := gb251) (o := .cells #[.int .u64 t241, .int .u64 t242, .int .u64 t243, .int .u64 t244] 29 (0, 0)) (by (with_reducible repeat (first | refine Zn ?_ _ | refine Zd ?_ | refine Za ?_ _)); exact BK251.out) hb)
      have n7_ := Zq (Zb (g := gb252) (o := .cells #[.int .u64 t246, .int .u64 t247, .int .u64 t248, .int .u64 t249] 29 (0, 0)) (by (with_reducible repeat (first | refine Zn ?_ _ | refine Zd ?_ | refine Za ?_ _)); exact BK252.out) hb)
      have n8_ := Zq (below_step (by repeat (first | (with_reducible first | exact HB.out | apply below_alloc | apply Zw | apply Ze | refine Zs ?_ GE238.out | refine Zs ?_ GE239.out | refine Zs ?_ GE245.out | refine Zs ?_ GE250.out | refine Zs ?_ GE251.out | refine Zs ?_ GE252.out) | exact HB.out)) hb)
      clear HO279
      clear HO286
      clear BK238
      clear BK239
      clear BK245
      clear BK250
      clear BK251
      clear BK252
      clear HB
      have HO279 := n0_
      have HO286 := n1_
      have BK238 := n2_
      have BK239 := n3_
      have BK245 := n4_
      have BK250 := n5_
      have BK251 := n6_
      have BK252 := n7_
      have HB := n8_
      clear n0_ n1_ n2_ n3_ n4_ n5_ n6_ n7_ n8_
      (try clear hb)
      (try clear hb2)
      (try clear hk)
      (try clear hi)
      refine hK.out _ _ ⟨(blk_cell BK245.out 0).trans rfl, (blk_cell BK245.out 1).trans rfl, (blk_cell BK245.out 2).trans rfl, (blk_cell BK245.out 3).trans rfl, (blk_cell BK250.out 0).trans rfl, (blk_cell BK250.out 1).trans rfl, (blk_cell BK250.out 2).trans rfl, (blk_cell BK250.out 3).trans rfl, (blk_cell BK251.out 0).trans rfl, (blk_cell BK251.out 1).trans rfl, (blk_cell BK251.out 2).trans rfl, (blk_cell BK251.out 3).trans rfl, (blk_cell BK252.out 0).trans rfl, (blk_cell BK252.out 1).trans rfl, (blk_cell BK252.out 2).trans rfl, (blk_cell BK252.out 3).trans rfl⟩ (fun hHeld => ?_)
      clear hK K
      refine norm_ (a' := ?_) ?_ ?_
      rotate_left
      · show Act.put _ (some 64) _ = _
        simp only [Act.put, List.setIfInBounds_toArray, List.set_cons_zero, List.set_cons_succ, i64_w, i32_w]
        rfl
      refine pure_ (i := 10) (N := some 65) (v := ?_) (a' := ?_) #[true, true, true, true, true, true, true, true, true, true, true, false] rfl rfl (any_of HT_.out (by kernel_rfl)) (fun _ _ _ h => h) (Or.inl ⟨by rfl, ?_⟩) ?_ ?_
      rotate_left
      · intro w'
        go_simp
        with_reducible rfl
      rotate_left
      · simp only [Act.put, List.setIfInBounds_toArray, List.set_cons_zero, List.set_cons_succ, i64_w, i32_w]
        rfl
      refine pure_ (i := 11) (N := some 19) (v := ?_) (a' := ?_) #[true, true, true, true, true, true, true, true, true, true, true, true] rfl rfl (any_of HT_.out (by kernel_rfl)) (fun _ _ _ h => h) (Or.inl ⟨by rfl, ?_⟩) ?_ ?_
      rotate_left
      · intro w'
        go_simp
        with_reducible rfl
      rotate_left
      · simp only [Act.put, List.setIfInBounds_toArray, List.set_cons_zero, List.set_cons_succ, i64_w, i32_w]
        rfl
      refine done_ (done_of HT_.out (by kernel_rfl)) ?_
      try go_wp2
      have n0_ := Zq (Kd.R_drew HO279.out)
      have n1_ := Zq (Kd.R_drew HO286.out)
      have n2_ := Zq (Zd BK238.out)
      have n3_ := Zq (Zd BK239.out)
      have n4_ := Zq (Zd BK245.out)
      have n5_ := Zq (Zd BK250.out)
      have n6_ := Zq (Zd BK251.out)
      have n7_ := Zq (Zd BK252.out)
      have n8_ := Zq (Ze HB.out)
      clear HO279
      clear HO286
      clear BK238
      clear BK239
      clear BK245
      clear BK250
      clear BK251
      clear BK252
      clear HB
      have HO279 := n0_
      have HO286 := n1_
      have BK238 := n2_
      have BK239 := n3_
      have BK245 := n4_
      have BK250 := n5_
      have BK251 := n6_
      have BK252 := n7_
      have HB := n8_
      clear n0_ n1_ n2_ n3_ n4_ n5_ n6_ n7_ n8_
      refine start_ (n := 60) (S := fun w' => w'.cell? ⟨gb245, 0, none⟩ = some (.int .u64 t241) ∧ w'.cell? ⟨gb245, 1, none⟩ = some (.int .u64 t242) ∧ w'.cell? ⟨gb245, 2, none⟩ = some (.int .u64 t243) ∧ w'.cell? ⟨gb245, 3, none⟩ = some (.int .u64 t244) ∧ w'.cell? ⟨gb251, 0, none⟩ = some (.int .u64 t241) ∧ w'.cell? ⟨gb251, 1, none⟩ = some (.int .u64 t242) ∧ w'.cell? ⟨gb251, 2, none⟩ = some (.int .u64 t243) ∧ w'.cell? ⟨gb251, 3, none⟩ = some (.int .u64 t244) ∧ w'.cell? ⟨gb250, 0, none⟩ = some (.int .u64 t246) ∧ w'.cell? ⟨gb250, 1, none⟩ = some (.int .u64 t247) ∧ w'.cell? ⟨gb250, 2, none⟩ = some (.int .u64 t248) ∧ w'.cell? ⟨gb250, 3, none⟩ = some (.int .u64 t249) ∧ w'.cell? ⟨gb252, 0, none⟩ = some (.int .u64 t246) ∧ w'.cell? ⟨gb252, 1, none⟩ = some (.int .u64 t247) ∧ w'.cell? ⟨gb252, 2, none⟩ = some (.int .u64 t248) ∧ w'.cell? ⟨gb252, 3, none⟩ = some (.int .u64 t249)) (ds := []) #[false, false, false, false, false, false, false, false, false, false, false, false, false, false, false, false, false, false, false, false, false, false, false, false, false, false, false, false, false, false, false, false, false, false, false, false, false, false, false, false, false, false, false, false, false, false, false, false, false, false, false, false, false, false, false, false, false, false, false, false] (by kernel_rfl) rfl rfl ⟨(blk_cell BK245.out 0).trans rfl, (blk_cell BK245.out 1).trans rfl, (blk_cell BK245.out 2).trans rfl, (blk_cell BK245.out 3).trans rfl, (blk_cell BK251.out 0).trans rfl, (blk_cell BK251.out 1).trans rfl, (blk_cell BK251.out 2).trans rfl, (blk_cell BK251.out 3).trans rfl, (blk_cell BK250.out 0).trans rfl, (blk_cell BK250.out 1).trans rfl, (blk_cell BK250.out 2).trans rfl, (blk_cell BK250.out 3).trans rfl, (blk_cell BK252.out 0).trans rfl, (blk_cell BK252.out 1).trans rfl, (blk_cell BK252.out 2).trans rfl, (blk_cell BK252.out 3).trans rfl⟩ (fun hHeld => ?_); refine with_tabW tenementlaw06_VecTells.tab14 tenementlaw06_VecTells.bits14 (fun HT_ HW_ => ?_)
      generalize w93.drew = w94 at HO279 HO286 BK238 BK239 BK245 BK250 BK251 BK252 HB hHeld ⊢
      refine pure_ (i := 0) (N := some 66) (v := ?_) (a' := ?_) #[true, false, false, false, false, false, false, false, false, false, false, false, false, false, false, false, false, false, false, false, false, false, false, false, false, false, false, false, false, false, false, false, false, false, false, false, false, false, false, false, false, false, false, false, false, false, false, false, false, false, false, false, false, false, false, false, false, false, false, false] rfl rfl (any_of HT_.out (by kernel_rfl)) (fun _ _ _ h => h) (Or.inl ⟨by rfl, ?_⟩) ?_ ?_
      rotate_left
      · intro w'
        go_simp
        with_reducible rfl
      rotate_left
      · simp only [Act.put, List.setIfInBounds_toArray, List.set_cons_zero, List.set_cons_succ, i64_w, i32_w]
        rfl
      refine pure_ (i := 1) (N := some 67) (v := ?_) (a' := ?_) #[true, true, false, false, false, false, false, false, false, false, false, false, false, false, false, false, false, false, false, false, false, false, false, false, false, false, false, false, false, false, false, false, false, false, false, false, false, false, false, false, false, false, false, false, false, false, false, false, false, false, false, false, false, false, false, false, false, false, false, false] rfl rfl (any_of HT_.out (by kernel_rfl)) (fun _ _ _ h => h) (Or.inl ⟨by rfl, ?_⟩) ?_ ?_
      rotate_left
      · intro w'
        go_simp
        with_reducible rfl
      rotate_left
      · simp only [Act.put, List.setIfInBounds_toArray, List.set_cons_zero, List.set_cons_succ, i64_w, i32_w]
        rfl
      refine pure_ (i := 2) (N := some 68) (v := ?_) (a' := ?_) #[true, true, true, false, false, false, false, false, false, false, false, false, false, false, false, false, false, false, false, false, false, false, false, false, false, false, false, false, false, false, false, false, false, false, false, false, false, false, false, false, false, false, false, false, false, false, false, false, false, false, false, false, false, false, false, false, false, false, false, false] rfl rfl (any_of HT_.out (by kernel_rfl)) (fun _ _ _ h => h) (Or.inl ⟨by rfl, ?_⟩) ?_ ?_
      rotate_left
      · intro w'
        go_simp
        with_reducible rfl
      rotate_left
      · simp only [Act.put, List.setIfInBounds_toArray, List.set_cons_zero, List.set_cons_succ, i64_w, i32_w]
        rfl
      refine pure_ (i := 3) (N := some 69) (v := ?_) (a' := ?_) #[true, true, true, true, false, false, false, false, false, false, false, false, false, false, false, false, false, false, false, false, false, false, false, false, false, false, false, false, false, false, false, false, false, false, false, false, false, false, false, false, false, false, false, false, false, false, false, false, false, false, false, false, false, false, false, false, false, false, false, false] rfl rfl (any_of HT_.out (by kernel_rfl)) (fun _ _ _ h => h) (Or.inl ⟨by rfl, ?_⟩) ?_ ?_
      rotate_left
      · intro w'
        go_simp
        with_reducible rfl
      rotate_left
      · simp only [Act.put, List.setIfInBounds_toArray, List.set_cons_zero, List.set_cons_succ, i64_w, i32_w]
        rfl
      refine pure_ (i := 4) (N := some 70) (v := ?_) (a' := ?_) #[true, true, true, true, true, false, false, false, false, false, false, false, false, false, false, false, false, false, false, false, false, false, false, false, false, false, false, false, false, false, false, false, false, false, false, false, false, false, false, false, false, false, false, false, false, false, false, false, false, false, false, false, false, false, false, false, false, false, false, false] rfl rfl (any_of HT_.out (by kernel_rfl)) (fun _ _ _ h => h) (Or.inl ⟨by rfl, ?_⟩) ?_ ?_
      rotate_left
      · intro w'
        go_simp
        with_reducible rfl
      rotate_left
      · simp only [Act.put, List.setIfInBounds_toArray, List.set_cons_zero, List.set_cons_succ, i64_w, i32_w]
        rfl
      refine pure_ (i := 5) (N := some 71) (v := ?_) (a' := ?_) #[true, true, true, true, true, true, false, false, false, false, false, false, false, false, false, false, false, false, false, false, false, false, false, false, false, false, false, false, false, false, false, false, false, false, false, false, false, false, false, false, false, false, false, false, false, false, false, false, false, false, false, false, false, false, false, false, false, false, false, false] rfl rfl (any_of HT_.out (by kernel_rfl)) (fun _ _ _ h => h) (Or.inl ⟨by rfl, ?_⟩) ?_ ?_
      rotate_left
      · intro w'
        go_simp
        with_reducible rfl
      rotate_left
      · simp only [Act.put, List.setIfInBounds_toArray, List.set_cons_zero, List.set_cons_succ, i64_w, i32_w]
        rfl
      refine pure_ (i := 6) (N := some 72) (v := ?_) (a' := ?_) #[true, true, true, true, true, true, true, false, false, false, false, false, false, false, false, false, false, false, false, false, false, false, false, false, false, false, false, false, false, false, false, false, false, false, false, false, false, false, false, false, false, false, false, false, false, false, false, false, false, false, false, false, false, false, false, false, false, false, false, false] rfl rfl (any_of HT_.out (by kernel_rfl)) (fun _ _ _ h => h) (Or.inl ⟨by rfl, ?_⟩) ?_ ?_
      rotate_left
      · intro w'
        go_simp
        with_reducible rfl
      rotate_left
      · simp only [Act.put, List.setIfInBounds_toArray, List.set_cons_zero, List.set_cons_succ, i64_w, i32_w]
        rfl
      refine pure_ (i := 7) (N := some 73) (v := ?_) (a' := ?_) #[true, true, true, true, true, true, true, true, false, false, false, false, false, false, false, false, false, false, false, false, false, false, false, false, false, false, false, false, false, false, false, false, false, false, false, false, false, false, false, false, false, false, false, false, false, false, false, false, false, false, false, false, false, false, false, false, false, false, false, false] rfl rfl (any_of HT_.out (by kernel_rfl)) (fun _ _ _ h => h) (Or.inl ⟨by rfl, ?_⟩) ?_ ?_
      rotate_left
      · intro w'
        go_simp
        with_reducible rfl
      rotate_left
      · simp only [Act.put, List.setIfInBounds_toArray, List.set_cons_zero, List.set_cons_succ, i64_w, i32_w]
        rfl
      refine pure_ (i := 8) (N := some 74) (v := ?_) (a' := ?_) #[true, true, true, true, true, true, true, true, true, false, false, false, false, false, false, false, false, false, false, false, false, false, false, false, false, false, false, false, false, false, false, false, false, false, false, false, false, false, false, false, false, false, false, false, false, false, false, false, false, false, false, false, false, false, false, false, false, false, false, false] rfl rfl (any_of HT_.out (by kernel_rfl)) (fun _ _ _ h => h) (Or.inl ⟨by rfl, ?_⟩) ?_ ?_
      rotate_left
      · intro w'
        go_simp
        with_reducible rfl
      rotate_left
      · simp only [Act.put, List.setIfInBounds_toArray, List.set_cons_zero, List.set_cons_succ, i64_w, i32_w]
        rfl
      refine pure_ (i := 9) (N := some 75) (v := ?_) (a' := ?_) #[true, true, true, true, true, true, true, true, true, true, false, false, false, false, false, false, false, false, false, false, false, false, false, false, false, false, false, false, false, false, false, false, false, false, false, false, false, false, false, false, false, false, false, false, false, false, false, false, false, false, false, false, false, false, false, false, false, false, false, false] rfl rfl (any_of HT_.out (by kernel_rfl)) (fun _ _ _ h => h) (Or.inl ⟨by rfl, ?_⟩) ?_ ?_
      rotate_left
      · intro w'
        go_simp
        with_reducible rfl
      rotate_left
      · simp only [Act.put, List.setIfInBounds_toArray, List.set_cons_zero, List.set_cons_succ, i64_w, i32_w]
        rfl
      refine pure_ (i := 10) (N := some 76) (v := ?_) (a' := ?_) #[true, true, true, true, true, true, true, true, true, true, true, false, false, false, false, false, false, false, false, false, false, false, false, false, false, false, false, false, false, false, false, false, false, false, false, false, false, false, false, false, false, false, false, false, false, false, false, false, false, false, false, false, false, false, false, false, false, false, false, false] rfl rfl (any_of HT_.out (by kernel_rfl)) (fun _ _ _ h => h) (Or.inl ⟨by rfl, ?_⟩) ?_ ?_
      rotate_left
      · intro w'
        go_simp
        with_reducible rfl
      rotate_left
      · simp only [Act.put, List.setIfInBounds_toArray, List.set_cons_zero, List.set_cons_succ, i64_w, i32_w]
        rfl
      refine pure_ (i := 11) (N := some 77) (v := ?_) (a' := ?_) #[true, true, true, true, true, true, true, true, true, true, true, true, false, false, false, false, false, false, false, false, false, false, false, false, false, false, false, false, false, false, false, false, false, false, false, false, false, false, false, false, false, false, false, false, false, false, false, false, false, false, false, false, false, false, false, false, false, false, false, false] rfl rfl (any_of HT_.out (by kernel_rfl)) (fun _ _ _ h => h) (Or.inl ⟨by rfl, ?_⟩) ?_ ?_
      rotate_left
      · intro w'
        go_simp
        with_reducible rfl
      rotate_left
      · simp only [Act.put, List.setIfInBounds_toArray, List.set_cons_zero, List.set_cons_succ, i64_w, i32_w]
        rfl
      refine pure_ (i := 12) (N := some 78) (v := ?_) (a' := ?_) #[true, true, true, true, true, true, true, true, true, true, true, true, true, false, false, false, false, false, false, false, false, false, false, false, false, false, false, false, false, false, false, false, false, false, false, false, false, false, false, false, false, false, false, false, false, false, false, false, false, false, false, false, false, false, false, false, false, false, false, false] rfl rfl (any_of HT_.out (by kernel_rfl)) (fun _ _ _ h => h) (Or.inl ⟨by rfl, ?_⟩) ?_ ?_
      rotate_left
      · intro w'
        go_simp
        with_reducible rfl
      rotate_left
      · simp only [Act.put, List.setIfInBounds_toArray, List.set_cons_zero, List.set_cons_succ, i64_w, i32_w]
        rfl
      refine pure_ (i := 13) (N := some 79) (v := ?_) (a' := ?_) #[true, true, true, true, true, true, true, true, true, true, true, true, true, true, false, false, false, false, false, false, false, false, false, false, false, false, false, false, false, false, false, false, false, false, false, false, false, false, false, false, false, false, false, false, false, false, false, false, false, false, false, false, false, false, false, false, false, false, false, false] rfl rfl (any_of HT_.out (by kernel_rfl)) (fun _ _ _ h => h) (Or.inl ⟨by rfl, ?_⟩) ?_ ?_
      rotate_left
      · intro w'
        go_simp
        with_reducible rfl
      rotate_left
      · simp only [Act.put, List.setIfInBounds_toArray, List.set_cons_zero, List.set_cons_succ, i64_w, i32_w]
        rfl
      refine take_ (i := 14) (N := some 80) (v := ?_) (a' := ?_) #[true, true, true, true, true, true, true, true, true, true, true, true, true, true, true, false, false, false, false, false, false, false, false, false, false, false, false, false, false, false, false, false, false, false, false, false, false, false, false, false, false, false, false, false, false, false, false, false, false, false, false, false, false, false, false, false, false, false, false, false] rfl rfl (take_ofW HT_.out HW_.out (by kernel_rfl)) (fun _ _ _ h => h) (Or.inl ⟨by rfl, ?_⟩) hHeld ?_ ?_
      rotate_left
      · rintro w' ⟨s0, s1, s2, s3, s4, s5, s6, s7, s8, s9, s10, s11, s12, s13, s14, s15⟩
        go_simp
        with_reducible rfl
      rotate_left
      · simp only [Act.put, List.setIfInBounds_toArray, List.set_cons_zero, List.set_cons_succ, i64_w, i32_w]
        rfl
      refine take_ (i := 16) (N := some 82) (v := ?_) (a' := ?_) #[true, true, true, true, true, true, true, true, true, true, true, true, true, true, true, false, true, false, false, false, false, false, false, false, false, false, false, false, false, false, false, false, false, false, false, false, false, false, false, false, false, false, false, false, false, false, false, false, false, false, false, false, false, false, false, false, false, false, false, false] rfl rfl (take_ofW HT_.out HW_.out (by kernel_rfl)) (fun _ _ _ h => h) (Or.inl ⟨by rfl, ?_⟩) hHeld ?_ ?_
      rotate_left
      · rintro w' ⟨s0, s1, s2, s3, s4, s5, s6, s7, s8, s9, s10, s11, s12, s13, s14, s15⟩
        go_simp
        with_reducible rfl
      rotate_left
      · simp only [Act.put, List.setIfInBounds_toArray, List.set_cons_zero, List.set_cons_succ, i64_w, i32_w]
        rfl
      refine one_ (i := 15) (N := some 81) #[true, true, true, true, true, true, true, true, true, true, true, true, true, true, true, true, true, false, false, false, false, false, false, false, false, false, false, false, false, false, false, false, false, false, false, false, false, false, false, false, false, false, false, false, false, false, false, false, false, false, false, false, false, false, false, false, false, false, false, false] rfl rfl (one_of HT_.out (by kernel_rfl)) (by decide) (fun K hK => ?_)
      refine goes_ Tryd.func20 (by kernel_rfl) rfl #[.agg #[.int .u64 t241, .int .u64 t242, .int .u64 t243, .int .u64 t244]] (by rfl) rfl rfl (by (try simp only [List.map_toArray, List.map_cons, List.map_nil]); first | done | rfl | (simp only [List.length_drop, List.length_take]; rfl)) ?_
      with_reducible refine (vec_Right.calls t241 t242 t243 t244 t291 _ A27.out).mono ?_
      rintro e w95 ⟨rfl, hb⟩
      refine ⟨_, rfl, ?_⟩
      have n0_ := Zq (Kd.R_below (by (with_reducible repeat (first | apply Kd.R_alloc | apply Kd.R_drewN | apply Kd.R_drew)); exact HO279.out) hb)
      have n1_ := Zq (Kd.R_below (by (with_reducible repeat (first | apply Kd.R_alloc | apply Kd.R_drewN | apply Kd.R_drew)); exact HO286.out) hb)
      have n2_ := Zq (Zb (g := gb238) (o := .cells #[.int .u64 a0_0, .int .u64 a0_1, .int .u64 a0_2, .int .u64 a0_3, .bool a0_4] 26 (0, 0)) (by (with_reducible repeat (first | refine Zn ?_ _ | refine Zd ?_ | refine Za ?_ _)); exact BK238.out) hb)
      have n3_ := Zq (Zb (g := gb239) (o := .cells #[.int .u64 a1_0, .int .u64 a1_1, .int .u64 a1_2, .int .u64 a1_3, .bool a1_4] 26 (0, 0)) (by (with_reducible repeat (first | refine Zn ?_ _ | refine Zd ?_ | refine Za ?_ _)); exact BK239.out) hb)
      have n4_ := Zq (Zb (g := gb245) (o := .cells #[.int .u64 t241, .int .u64 t242, .int .u64 t243, .int .u64 t244] 24 (0, 0)) (by (with_reducible repeat (first | refine Zn ?_ _ | refine Zd ?_ | refine Za ?_ _)); exact BK245.out) hb)
      have n5_ := Zq (Zb (g := gb250) (o := .cells #[.int .u64 t246, .int .u64 t247, .int .u64 t248, .int .u64 t249] 24 (0, 0)) (by (with_reducible repeat (first | refine Zn ?_ _ | refine Zd ?_ | refine Za ?_ _)); exact BK250.out) hb)
      have n6_ := Zq (Zb (g := gb251) (o := .cells #[.int .u64 t241, .int .u64 t242, .int .u64 t243, .int .u64 t244] 29 (0, 0)) (by (with_reducible repeat (first | refine Zn ?_ _ | refine Zd ?_ | refine Za ?_ _)); exact BK251.out) hb)
      have n7_ := Zq (Zb (g := gb252) (o := .cells #[.int .u64 t246, .int .u64 t247, .int .u64 t248, .int .u64 t249] 29 (0, 0)) (by (with_reducible repeat (first | refine Zn ?_ _ | refine Zd ?_ | refine Za ?_ _)); exact BK252.out) hb)
      have n8_ := Zq (below_step (by repeat (first | (with_reducible first | exact HB.out | apply below_alloc | apply Zw | apply Ze | refine Zs ?_ GE238.out | refine Zs ?_ GE239.out | refine Zs ?_ GE245.out | refine Zs ?_ GE250.out | refine Zs ?_ GE251.out | refine Zs ?_ GE252.out) | exact HB.out)) hb)
      clear HO279
      clear HO286
      clear BK238
      clear BK239
      clear BK245
      clear BK250
      clear BK251
      clear BK252
      clear HB
      have HO279 := n0_
      have HO286 := n1_
      have BK238 := n2_
      have BK239 := n3_
      have BK245 := n4_
      have BK250 := n5_
      have BK251 := n6_
      have BK252 := n7_
      have HB := n8_
      clear n0_ n1_ n2_ n3_ n4_ n5_ n6_ n7_ n8_
      (try clear hb)
      (try clear hb2)
      (try clear hk)
      (try clear hi)
      refine hK.out _ _ ⟨(blk_cell BK245.out 0).trans rfl, (blk_cell BK245.out 1).trans rfl, (blk_cell BK245.out 2).trans rfl, (blk_cell BK245.out 3).trans rfl, (blk_cell BK251.out 0).trans rfl, (blk_cell BK251.out 1).trans rfl, (blk_cell BK251.out 2).trans rfl, (blk_cell BK251.out 3).trans rfl, (blk_cell BK250.out 0).trans rfl, (blk_cell BK250.out 1).trans rfl, (blk_cell BK250.out 2).trans rfl, (blk_cell BK250.out 3).trans rfl, (blk_cell BK252.out 0).trans rfl, (blk_cell BK252.out 1).trans rfl, (blk_cell BK252.out 2).trans rfl, (blk_cell BK252.out 3).trans rfl⟩ (fun hHeld => ?_)
      clear hK K
      refine norm_ (a' := ?_) ?_ ?_
      rotate_left
      · show Act.put _ (some 81) _ = _
        simp only [Act.put, List.setIfInBounds_toArray, List.set_cons_zero, List.set_cons_succ, i64_w, i32_w]
        rfl
      refine one_ (i := 17) (N := some 83) #[true, true, true, true, true, true, true, true, true, true, true, true, true, true, true, true, true, true, false, false, false, false, false, false, false, false, false, false, false, false, false, false, false, false, false, false, false, false, false, false, false, false, false, false, false, false, false, false, false, false, false, false, false, false, false, false, false, false, false, false] rfl rfl (one_of HT_.out (by kernel_rfl)) (by decide) (fun K hK => ?_)
      refine goes_ Tryd.func21 (by kernel_rfl) rfl #[.agg #[.int .u64 t241, .int .u64 t242, .int .u64 t243, .int .u64 t244]] (by rfl) rfl rfl (by (try simp only [List.map_toArray, List.map_cons, List.map_nil]); first | done | rfl | (simp only [List.length_drop, List.length_take]; rfl)) ?_
      with_reducible refine (tenementref06_Right.calls kj7 t241 t242 t243 t244 t291 _ A28.out).mono ?_
      rintro e w96 ⟨rfl, hb⟩
      refine ⟨_, rfl, ?_⟩
      have n0_ := Zq (Kd.R_below (by (with_reducible repeat (first | apply Kd.R_alloc | apply Kd.R_drewN | apply Kd.R_drew)); exact HO279.out) hb)
      have n1_ := Zq (Kd.R_below (by (with_reducible repeat (first | apply Kd.R_alloc | apply Kd.R_drewN | apply Kd.R_drew)); exact HO286.out) hb)
      have n2_ := Zq (Zb (g := gb238) (o := .cells #[.int .u64 a0_0, .int .u64 a0_1, .int .u64 a0_2, .int .u64 a0_3, .bool a0_4] 26 (0, 0)) (by (with_reducible repeat (first | refine Zn ?_ _ | refine Zd ?_ | refine Za ?_ _)); exact BK238.out) hb)
      have n3_ := Zq (Zb (g := gb239) (o := .cells #[.int .u64 a1_0, .int .u64 a1_1, .int .u64 a1_2, .int .u64 a1_3, .bool a1_4] 26 (0, 0)) (by (with_reducible repeat (first | refine Zn ?_ _ | refine Zd ?_ | refine Za ?_ _)); exact BK239.out) hb)
      have n4_ := Zq (Zb (g := gb245) (o := .cells #[.int .u64 t241, .int .u64 t242, .int .u64 t243, .int .u64 t244] 24 (0, 0)) (by (with_reducible repeat (first | refine Zn ?_ _ | refine Zd ?_ | refine Za ?_ _)); exact BK245.out) hb)
      have n5_ := Zq (Zb (g := gb250) (o := .cells #[.int .u64 t246, .int .u64 t247, .int .u64 t248, .int .u64 t249] 24 (0, 0)) (by (with_reducible repeat (first | refine Zn ?_ _ | refine Zd ?_ | refine Za ?_ _)); exact BK250.out) hb)
      have n6_ := Zq (Zb (g := gb251) (o := .cells #[.int .u64 t241, .int .u64 t242, .int .u64 t243, .int .u64 t244] 29 (0, 0)) (by (with_reducible repeat (first | refine Zn ?_ _ | refine Zd ?_ | refine Za ?_ _)); exact BK251.out) hb)
      have n7_ := Zq (Zb (g := gb252) (o := .cells #[.int .u64 t246, .int .u64 t247, .int .u64 t248, .int .u64 t249] 29 (0, 0)) (by (with_reducible repeat (first | refine Zn ?_ _ | refine Zd ?_ | refine Za ?_ _)); exact BK252.out) hb)
      have n8_ := Zq (below_step (by repeat (first | (with_reducible first | exact HB.out | apply below_alloc | apply Zw | apply Ze | refine Zs ?_ GE238.out | refine Zs ?_ GE239.out | refine Zs ?_ GE245.out | refine Zs ?_ GE250.out | refine Zs ?_ GE251.out | refine Zs ?_ GE252.out) | exact HB.out)) hb)
      clear HO279
      clear HO286
      clear BK238
      clear BK239
      clear BK245
      clear BK250
      clear BK251
      clear BK252
      clear HB
      have HO279 := n0_
      have HO286 := n1_
      have BK238 := n2_
      have BK239 := n3_
      have BK245 := n4_
      have BK250 := n5_
      have BK251 := n6_
      have BK252 := n7_
      have HB := n8_
      clear n0_ n1_ n2_ n3_ n4_ n5_ n6_ n7_ n8_
      (try clear hb)
      (try clear hb2)
      (try clear hk)
      (try clear hi)
      refine hK.out _ _ ⟨(blk_cell BK245.out 0).trans rfl, (blk_cell BK245.out 1).trans rfl, (blk_cell BK245.out 2).trans rfl, (blk_cell BK245.out 3).trans rfl, (blk_cell BK251.out 0).trans rfl, (blk_cell BK251.out 1).trans rfl, (blk_cell BK251.out 2).trans rfl, (blk_cell BK251.out 3).trans rfl, (blk_cell BK250.out 0).trans rfl, (blk_cell BK250.out 1).trans rfl, (blk_cell BK250.out 2).trans rfl, (blk_cell BK250.out 3).trans rfl, (blk_cell BK252.out 0).trans rfl, (blk_cell BK252.out 1).trans rfl, (blk_cell BK252.out 2).trans rfl, (blk_cell BK252.out 3).trans rfl⟩ (fun hHeld => ?_)
      clear hK K
      refine norm_ (a' := ?_) ?_ ?_
      rotate_left
      · show Act.put _ (some 83) _ = _
        simp only [Act.put, List.setIfInBounds_toArray, List.set_cons_zero, List.set_cons_succ, i64_w, i32_w]
        rfl
      refine pure_ (i := 18) (N := some 84) (v := ?_) (a' := ?_) #[true, true, true, true, true, true, true, true, true, true, true, true, true, true, true, true, true, true, true, false, false, false, false, false, false, false, false, false, false, false, false, false, false, false, false, false, false, false, false, false, false, false, false, false, false, false, false, false, false, false, false, false, false, false, false, false, false, false, false, false] rfl rfl (any_of HT_.out (by kernel_rfl)) (fun _ _ _ h => h) (Or.inl ⟨by rfl, ?_⟩) ?_ ?_
      rotate_left
      · intro w'
        go_simp
        with_reducible rfl
      rotate_left
      · simp only [Act.put, List.setIfInBounds_toArray, List.set_cons_zero, List.set_cons_succ, i64_w, i32_w]
        rfl
      refine pure_ (i := 19) (N := some 85) (v := ?_) (a' := ?_) #[true, true, true, true, true, true, true, true, true, true, true, true, true, true, true, true, true, true, true, true, false, false, false, false, false, false, false, false, false, false, false, false, false, false, false, false, false, false, false, false, false, false, false, false, false, false, false, false, false, false, false, false, false, false, false, false, false, false, false, false] rfl rfl (any_of HT_.out (by kernel_rfl)) (fun _ _ _ h => h) (Or.inl ⟨by rfl, ?_⟩) ?_ ?_
      rotate_left
      · intro w'
        go_simp
        with_reducible rfl
      rotate_left
      · simp only [Act.put, List.setIfInBounds_toArray, List.set_cons_zero, List.set_cons_succ, i64_w, i32_w]
        rfl
      refine pure_ (i := 20) (N := some 86) (v := ?_) (a' := ?_) #[true, true, true, true, true, true, true, true, true, true, true, true, true, true, true, true, true, true, true, true, true, false, false, false, false, false, false, false, false, false, false, false, false, false, false, false, false, false, false, false, false, false, false, false, false, false, false, false, false, false, false, false, false, false, false, false, false, false, false, false] rfl rfl (any_of HT_.out (by kernel_rfl)) (fun _ _ _ h => h) (Or.inl ⟨by rfl, ?_⟩) ?_ ?_
      rotate_left
      · intro w'
        go_simp
        with_reducible rfl
      rotate_left
      · simp only [Act.put, List.setIfInBounds_toArray, List.set_cons_zero, List.set_cons_succ, i64_w, i32_w]
        rfl
      refine take_ (i := 21) (N := some 87) (v := ?_) (a' := ?_) #[true, true, true, true, true, true, true, true, true, true, true, true, true, true, true, true, true, true, true, true, true, true, false, false, false, false, false, false, false, false, false, false, false, false, false, false, false, false, false, false, false, false, false, false, false, false, false, false, false, false, false, false, false, false, false, false, false, false, false, false] rfl rfl (take_ofW HT_.out HW_.out (by kernel_rfl)) (fun _ _ _ h => h) (Or.inl ⟨by rfl, ?_⟩) hHeld ?_ ?_
      rotate_left
      · rintro w' ⟨s0, s1, s2, s3, s4, s5, s6, s7, s8, s9, s10, s11, s12, s13, s14, s15⟩
        go_simp
        with_reducible rfl
      rotate_left
      · simp only [Act.put, List.setIfInBounds_toArray, List.set_cons_zero, List.set_cons_succ, i64_w, i32_w]
        rfl
      refine take_ (i := 22) (N := some 88) (v := ?_) (a' := ?_) #[true, true, true, true, true, true, true, true, true, true, true, true, true, true, true, true, true, true, true, true, true, true, true, false, false, false, false, false, false, false, false, false, false, false, false, false, false, false, false, false, false, false, false, false, false, false, false, false, false, false, false, false, false, false, false, false, false, false, false, false] rfl rfl (take_ofW HT_.out HW_.out (by kernel_rfl)) (fun _ _ _ h => h) (Or.inl ⟨by rfl, ?_⟩) hHeld ?_ ?_
      rotate_left
      · rintro w' ⟨s0, s1, s2, s3, s4, s5, s6, s7, s8, s9, s10, s11, s12, s13, s14, s15⟩
        go_simp
        with_reducible rfl
      rotate_left
      · simp only [Act.put, List.setIfInBounds_toArray, List.set_cons_zero, List.set_cons_succ, i64_w, i32_w]
        rfl
      refine take_ (i := 24) (N := some 90) (v := ?_) (a' := ?_) #[true, true, true, true, true, true, true, true, true, true, true, true, true, true, true, true, true, true, true, true, true, true, true, false, true, false, false, false, false, false, false, false, false, false, false, false, false, false, false, false, false, false, false, false, false, false, false, false, false, false, false, false, false, false, false, false, false, false, false, false] rfl rfl (take_ofW HT_.out HW_.out (by kernel_rfl)) (fun _ _ _ h => h) (Or.inl ⟨by rfl, ?_⟩) hHeld ?_ ?_
      rotate_left
      · rintro w' ⟨s0, s1, s2, s3, s4, s5, s6, s7, s8, s9, s10, s11, s12, s13, s14, s15⟩
        go_simp
        with_reducible rfl
      rotate_left
      · simp only [Act.put, List.setIfInBounds_toArray, List.set_cons_zero, List.set_cons_succ, i64_w, i32_w]
        rfl
      refine take_ (i := 25) (N := some 91) (v := ?_) (a' := ?_) #[true, true, true, true, true, true, true, true, true, true, true, true, true, true, true, true, true, true, true, true, true, true, true, false, true, true, false, false, false, false, false, false, false, false, false, false, false, false, false, false, false, false, false, false, false, false, false, false, false, false, false, false, false, false, false, false, false, false, false, false] rfl rfl (take_ofW HT_.out HW_.out (by kernel_rfl)) (fun _ _ _ h => h) (Or.inl ⟨by rfl, ?_⟩) hHeld ?_ ?_
      rotate_left
      · rintro w' ⟨s0, s1, s2, s3, s4, s5, s6, s7, s8, s9, s10, s11, s12, s13, s14, s15⟩
        go_simp
        with_reducible rfl
      rotate_left
      · simp only [Act.put, List.setIfInBounds_toArray, List.set_cons_zero, List.set_cons_succ, i64_w, i32_w]
        rfl
      refine one_ (i := 23) (N := some 89) #[true, true, true, true, true, true, true, true, true, true, true, true, true, true, true, true, true, true, true, true, true, true, true, true, true, true, false, false, false, false, false, false, false, false, false, false, false, false, false, false, false, false, false, false, false, false, false, false, false, false, false, false, false, false, false, false, false, false, false, false] rfl rfl (one_of HT_.out (by kernel_rfl)) (by decide) (fun K hK => ?_)
      refine goes_ Tryd.func22 (by kernel_rfl) rfl #[.agg #[.int .u64 t241, .int .u64 t242, .int .u64 t243, .int .u64 t244], .agg #[.int .u64 t246, .int .u64 t247, .int .u64 t248, .int .u64 t249]] (by rfl) rfl rfl (by (try simp only [List.map_toArray, List.map_cons, List.map_nil]); first | done | rfl | (simp only [List.length_drop, List.length_take]; rfl)) ?_
      with_reducible refine (vec_Leq.calls t241 t242 t243 t244 t246 t247 t248 t249 t293 _ A30.out).mono ?_
      rintro e w97 ⟨rfl, hb⟩
      refine ⟨_, rfl, ?_⟩
      have n0_ := Zq (Kd.R_below (by (with_reducible repeat (first | apply Kd.R_alloc | apply Kd.R_drewN | apply Kd.R_drew)); exact HO279.out) hb)
      have n1_ := Zq (Kd.R_below (by (with_reducible repeat (first | apply Kd.R_alloc | apply Kd.R_drewN | apply Kd.R_drew)); exact HO286.out) hb)
      have n2_ := Zq (Zb (g := gb238) (o := .cells #[.int .u64 a0_0, .int .u64 a0_1, .int .u64 a0_2, .int .u64 a0_3, .bool a0_4] 26 (0, 0)) (by (with_reducible repeat (first | refine Zn ?_ _ | refine Zd ?_ | refine Za ?_ _)); exact BK238.out) hb)
      have n3_ := Zq (Zb (g := gb239) (o := .cells #[.int .u64 a1_0, .int .u64 a1_1, .int .u64 a1_2, .int .u64 a1_3, .bool a1_4] 26 (0, 0)) (by (with_reducible repeat (first | refine Zn ?_ _ | refine Zd ?_ | refine Za ?_ _)); exact BK239.out) hb)
      have n4_ := Zq (Zb (g := gb245) (o := .cells #[.int .u64 t241, .int .u64 t242, .int .u64 t243, .int .u64 t244] 24 (0, 0)) (by (with_reducible repeat (first | refine Zn ?_ _ | refine Zd ?_ | refine Za ?_ _)); exact BK245.out) hb)
      have n5_ := Zq (Zb (g := gb250) (o := .cells #[.int .u64 t246, .int .u64 t247, .int .u64 t248, .int .u64 t249] 24 (0, 0)) (by (with_reducible repeat (first | refine Zn ?_ _ | refine Zd ?_ | refine Za ?_ _)); exact BK250.out) hb)
      have n6_ := Zq (Zb (g := gb251) (o := .cells #[.int .u64 t241, .int .u64 t242, .int .u64 t243, .int .u64 t244] 29 (0, 0)) (by (with_reducible repeat (first | refine Zn ?_ _ | refine Zd ?_ | refine Za ?_ _)); exact BK251.out) hb)
      have n7_ := Zq (Zb (g := gb252) (o := .cells #[.int .u64 t246, .int .u64 t247, .int .u64 t248, .int .u64 t249] 29 (0, 0)) (by (with_reducible repeat (first | refine Zn ?_ _ | refine Zd ?_ | refine Za ?_ _)); exact BK252.out) hb)
      have n8_ := Zq (below_step (by repeat (first | (with_reducible first | exact HB.out | apply below_alloc | apply Zw | apply Ze | refine Zs ?_ GE238.out | refine Zs ?_ GE239.out | refine Zs ?_ GE245.out | refine Zs ?_ GE250.out | refine Zs ?_ GE251.out | refine Zs ?_ GE252.out) | exact HB.out)) hb)
      clear HO279
      clear HO286
      clear BK238
      clear BK239
      clear BK245
      clear BK250
      clear BK251
      clear BK252
      clear HB
      have HO279 := n0_
      have HO286 := n1_
      have BK238 := n2_
      have BK239 := n3_
      have BK245 := n4_
      have BK250 := n5_
      have BK251 := n6_
      have BK252 := n7_
      have HB := n8_
      clear n0_ n1_ n2_ n3_ n4_ n5_ n6_ n7_ n8_
      (try clear hb)
      (try clear hb2)
      (try clear hk)
      (try clear hi)
      refine hK.out _ _ ⟨(blk_cell BK245.out 0).trans rfl, (blk_cell BK245.out 1).trans rfl, (blk_cell BK245.out 2).trans rfl, (blk_cell BK245.out 3).trans rfl, (blk_cell BK251.out 0).trans rfl, (blk_cell BK251.out 1).trans rfl, (blk_cell BK251.out 2).trans rfl, (blk_cell BK251.out 3).trans rfl, (blk_cell BK250.out 0).trans rfl, (blk_cell BK250.out 1).trans rfl, (blk_cell BK250.out 2).trans rfl, (blk_cell BK250.out 3).trans rfl, (blk_cell BK252.out 0).trans rfl, (blk_cell BK252.out 1).trans rfl, (blk_cell BK252.out 2).trans rfl, (blk_cell BK252.out 3).trans rfl⟩ (fun hHeld => ?_)
      clear hK K
      refine norm_ (a' := ?_) ?_ ?_
      rotate_left
      · show Act.put _ (some 89) _ = _
        simp only [Act.put, List.setIfInBounds_toArray, List.set_cons_zero, List.set_cons_succ, i64_w, i32_w]
        rfl
      refine one_ (i := 26) (N := some 92) #[true, true, true, true, true, true, true, true, true, true, true, true, true, true, true, true, true, true, true, true, true, true, true, true, true, true, true, false, false, false, false, false, false, false, false, false, false, false, false, false, false, false, false, false, false, false, false, false, false, false, false, false, false, false, false, false, false, false, false, false] rfl rfl (one_of HT_.out (by kernel_rfl)) (by decide) (fun K hK => ?_)
      refine goes_ Tryd.func23 (by kernel_rfl) rfl #[.agg #[.int .u64 t241, .int .u64 t242, .int .u64 t243, .int .u64 t244], .agg #[.int .u64 t246, .int .u64 t247, .int .u64 t248, .int .u64 t249]] (by rfl) rfl rfl (by (try simp only [List.map_toArray, List.map_cons, List.map_nil]); first | done | rfl | (simp only [List.length_drop, List.length_take]; rfl)) ?_
      with_reducible refine (tenementref06_Leq.calls kj7 t241 t242 t243 t244 t246 t247 t248 t249 t293 _ A31.out).mono ?_
      rintro e w98 ⟨rfl, hb⟩
      refine ⟨_, rfl, ?_⟩
      have n0_ := Zq (Kd.R_below (by (with_reducible repeat (first | apply Kd.R_alloc | apply Kd.R_drewN | apply Kd.R_drew)); exact HO279.out) hb)
      have n1_ := Zq (Kd.R_below (by (with_reducible repeat (first | apply Kd.R_alloc | apply Kd.R_drewN | apply Kd.R_drew)); exact HO286.out) hb)
      have n2_ := Zq (Zb (g := gb238) (o := .cells #[.int .u64 a0_0, .int .u64 a0_1, .int .u64 a0_2, .int .u64 a0_3, .bool a0_4] 26 (0, 0)) (by (with_reducible repeat (first | refine Zn ?_ _ | refine Zd ?_ | refine Za ?_ _)); exact BK238.out) hb)
      have n3_ := Zq (Zb (g := gb239) (o := .cells #[.int .u64 a1_0, .int .u64 a1_1, .int .u64 a1_2, .int .u64 a1_3, .bool a1_4] 26 (0, 0)) (by (with_reducible repeat (first | refine Zn ?_ _ | refine Zd ?_ | refine Za ?_ _)); exact BK239.out) hb)
      have n4_ := Zq (Zb (g := gb245) (o := .cells #[.int .u64 t241, .int .u64 t242, .int .u64 t243, .int .u64 t244] 24 (0, 0)) (by (with_reducible repeat (first | refine Zn ?_ _ | refine Zd ?_ | refine Za ?_ _)); exact BK245.out) hb)
      have n5_ := Zq (Zb (g := gb250) (o := .cells #[.int .u64 t246, .int .u64 t247, .int .u64 t248, .int .u64 t249] 24 (0, 0)) (by (with_reducible repeat (first | refine Zn ?_ _ | refine Zd ?_ | refine Za ?_ _)); exact BK250.out) hb)
      have n6_ := Zq (Zb (g := gb251) (o := .cells #[.int .u64 t241, .int .u64 t242, .int .u64 t243, .int .u64 t244] 29 (0, 0)) (by (with_reducible repeat (first | refine Zn ?_ _ | refine Zd ?_ | refine Za ?_ _)); exact BK251.out) hb)
      have n7_ := Zq (Zb (g := gb252) (o := .cells #[.int .u64 t246, .int .u64 t247, .int .u64 t248, .int .u64 t249] 29 (0, 0)) (by (with_reducible repeat (first | refine Zn ?_ _ | refine Zd ?_ | refine Za ?_ _)); exact BK252.out) hb)
      have n8_ := Zq (below_step (by repeat (first | (with_reducible first | exact HB.out | apply below_alloc | apply Zw | apply Ze | refine Zs ?_ GE238.out | refine Zs ?_ GE239.out | refine Zs ?_ GE245.out | refine Zs ?_ GE250.out | refine Zs ?_ GE251.out | refine Zs ?_ GE252.out) | exact HB.out)) hb)
      clear HO279
      clear HO286
      clear BK238
      clear BK239
      clear BK245
      clear BK250
      clear BK251
      clear BK252
      clear HB
      have HO279 := n0_
      have HO286 := n1_
      have BK238 := n2_
      have BK239 := n3_
      have BK245 := n4_
      have BK250 := n5_
      have BK251 := n6_
      have BK252 := n7_
      have HB := n8_
      clear n0_ n1_ n2_ n3_ n4_ n5_ n6_ n7_ n8_
      (try clear hb)
      (try clear hb2)
      (try clear hk)
      (try clear hi)
      refine hK.out _ _ ⟨(blk_cell BK245.out 0).trans rfl, (blk_cell BK245.out 1).trans rfl, (blk_cell BK245.out 2).trans rfl, (blk_cell BK245.out 3).trans rfl, (blk_cell BK251.out 0).trans rfl, (blk_cell BK251.out 1).trans rfl, (blk_cell BK251.out 2).trans rfl, (blk_cell BK251.out 3).trans rfl, (blk_cell BK250.out 0).trans rfl, (blk_cell BK250.out 1).trans rfl, (blk_cell BK250.out 2).trans rfl, (blk_cell BK250.out 3).trans rfl, (blk_cell BK252.out 0).trans rfl, (blk_cell BK252.out 1).trans rfl, (blk_cell BK252.out 2).trans rfl, (blk_cell BK252.out 3).trans rfl⟩ (fun hHeld => ?_)
      clear hK K
      refine norm_ (a' := ?_) ?_ ?_
      rotate_left
      · show Act.put _ (some 92) _ = _
        simp only [Act.put, List.setIfInBounds_toArray, List.set_cons_zero, List.set_cons_succ, i64_w, i32_w]
        rfl
      refine pure_ (i := 27) (N := some 93) (v := ?_) (a' := ?_) #[true, true, true, true, true, true, true, true, true, true, true, true, true, true, true, true, true, true, true, true, true, true, true, true, true, true, true, true, false, false, false, false, false, false, false, false, false, false, false, false, false, false, false, false, false, false, false, false, false, false, false, false, false, false, false, false, false, false, false, false] rfl rfl (any_of HT_.out (by kernel_rfl)) (fun _ _ _ h => h) (Or.inl ⟨by rfl, ?_⟩) ?_ ?_
      rotate_left
      · intro w'
        go_simp
        with_reducible rfl
      rotate_left
      · simp only [Act.put, List.setIfInBounds_toArray, List.set_cons_zero, List.set_cons_succ, i64_w, i32_w]
        rfl
      refine pure_ (i := 28) (N := some 94) (v := ?_) (a' := ?_) #[true, true, true, true, true, true, true, true, true, true, true, true, true, true, true, true, true, true, true, true, true, true, true, true, true, true, true, true, true, false, false, false, false, false, false, false, false, false, false, false, false, false, false, false, false, false, false, false, false, false, false, false, false, false, false, false, false, false, false, false] rfl rfl (any_of HT_.out (by kernel_rfl)) (fun _ _ _ h => h) (Or.inl ⟨by rfl, ?_⟩) ?_ ?_
      rotate_left
      · intro w'
        go_simp
        with_reducible rfl
      rotate_left
      · simp only [Act.put, List.setIfInBounds_toArray, List.set_cons_zero, List.set_cons_succ, i64_w, i32_w]
        rfl
      refine pure_ (i := 29) (N := some 95) (v := ?_) (a' := ?_) #[true, true, true, true, true, true, true, true, true, true, true, true, true, true, true, true, true, true, true, true, true, true, true, true, true, true, true, true, true, true, false, false, false, false, false, false, false, false, false, false, false, false, false, false, false, false, false, false, false, false, false, false, false, false, false, false, false, false, false, false] rfl rfl (any_of HT_.out (by kernel_rfl)) (fun _ _ _ h => h) (Or.inl ⟨by rfl, ?_⟩) ?_ ?_
      rotate_left
      · intro w'
        go_simp
        with_reducible rfl
      rotate_left
      · simp only [Act.put, List.setIfInBounds_toArray, List.set_cons_zero, List.set_cons_succ, i64_w, i32_w]
        rfl
      refine pure_ (i := 31) (N := some 97) (v := ?_) (a' := ?_) #[true, true, true, true, true, true, true, true, true, true, true, true, true, true, true, true, true, true, true, true, true, true, true, true, true, true, true, true, true, true, false, true, false, false, false, false, false, false, false, false, false, false, false, false, false, false, false, false, false, false, false, false, false, false, false, false, false, false, false, false] rfl rfl (any_of HT_.out (by kernel_rfl)) (fun _ _ _ h => h) (Or.inl ⟨by rfl, ?_⟩) ?_ ?_
      rotate_left
      · intro w'
        go_simp
        with_reducible rfl
      rotate_left
      · simp only [Act.put, List.setIfInBounds_toArray, List.set_cons_zero, List.set_cons_succ, i64_w, i32_w]
        rfl
      refine pure_ (i := 34) (N := some 100) (v := ?_) (a' := ?_) #[true, true, true, true, true, true, true, true, true, true, true, true, true, true, true, true, true, true, true, true, true, true, true, true, true, true, true, true, true, true, false, true, false, false, true, false, false, false, false, false, false, false, false, false, false, false, false, false, false, false, false, false, false, false, false, false, false, false, false, false] rfl rfl (any_of HT_.out (by kernel_rfl)) (fun _ _ _ h => h) (Or.inl ⟨by rfl, ?_⟩) ?_ ?_
      rotate_left
      · intro w'
        go_simp
        with_reducible rfl
      rotate_left
      · simp only [Act.put, List.setIfInBounds_toArray, List.set_cons_zero, List.set_cons_succ, i64_w, i32_w]
        rfl
      refine take_ (i := 30) (N := some 96) (v := ?_) (a' := ?_) #[true, true, true, true, true, true, true, true, true, true, true, true, true, true, true, true, true, true, true, true, true, true, true, true, true, true, true, true, true, true, true, true, false, false, true, false, false, false, false, false, false, false, false, false, false, false, false, false, false, false, false, false, false, false, false, false, false, false, false, false] rfl rfl (take_ofW HT_.out HW_.out (by kernel_rfl)) (fun _ _ _ h => h) (Or.inl ⟨by rfl, ?_⟩) hHeld ?_ ?_
      rotate_left
      · rintro w' ⟨s0, s1, s2, s3, s4, s5, s6, s7, s8, s9, s10, s11, s12, s13, s14, s15⟩
        go_simp
        with_reducible rfl
      rotate_left
      · simp only [Act.put, List.setIfInBounds_toArray, List.set_cons_zero, List.set_cons_succ, i64_w, i32_w]
        rfl
      refine take_ (i := 33) (N := some 99) (v := ?_) (a' := ?_) #[true, true, true, true, true, true, true, true, true, true, true, true, true, true, true, true, true, true, true, true, true, true, true, true, true, true, true, true, true, true, true, true, false, true, true, false, false, false, false, false, false, false, false, false, false, false, false, false, false, false, false, false, false, false, false, false, false, false, false, false] rfl rfl (take_ofW HT_.out HW_.out (by kernel_rfl)) (fun _ _ _ h => h) (Or.inl ⟨by rfl, ?_⟩) hHeld ?_ ?_
      rotate_left
      · rintro w' ⟨s0, s1, s2, s3, s4, s5, s6, s7, s8, s9, s10, s11, s12, s13, s14, s15⟩
        go_simp
        with_reducible rfl
      rotate_left
      · simp only [Act.put, List.setIfInBounds_toArray, List.set_cons_zero, List.set_cons_succ, i64_w, i32_w]
        rfl
      refine one_ (i := 32) (N := some 98) #[true, true, true, true, true, true, true, true, true, true, true, true, true, true, true, true, true, true, true, true, true, true, true, true, true, true, true, true, true, true, true, true, true, true, true, false, false, false, false, false, false, false, false, false, false, false, false, false, false, false, false, false, false, false, false, false, false, false, false, false] rfl rfl (one_of HT_.out (by kernel_rfl)) (by decide) (fun K hK => ?_)
      refine goes_ Tryd.func24 (by kernel_rfl) rfl #[.agg #[.int .u64 t241, .int .u64 t242, .int .u64 t243, .int .u64 t244], .int .i64 x2_7] (by rfl) rfl rfl (by (try simp only [List.map_toArray, List.map_cons, List.map_nil]); first | done | rfl | (simp only [List.length_drop, List.length_take]; rfl)) ?_
      with_reducible refine (vec_At.calls t241 t242 t243 t244 x2_7 t295 _ A33.out).mono ?_
      rintro e w99 ⟨rfl, hb⟩
      refine ⟨_, rfl, ?_⟩
      have n0_ := Zq (Kd.R_below (by (with_reducible repeat (first | apply Kd.R_alloc | apply Kd.R_drewN | apply Kd.R_drew)); exact HO279.out) hb)
      have n1_ := Zq (Kd.R_below (by (with_reducible repeat (first | apply Kd.R_alloc | apply Kd.R_drewN | apply Kd.R_drew)); exact HO286.out) hb)
      have n2_ := Zq (Zb (g := gb238) (o := .cells #[.int .u64 a0_0, .int .u64 a0_1, .int .u64 a0_2, .int .u64 a0_3, .bool a0_4] 26 (0, 0)) (by (with_reducible repeat (first | refine Zn ?_ _ | refine Zd ?_ | refine Za ?_ _)); exact BK238.out) hb)
      have n3_ := Zq (Zb (g := gb239) (o := .cells #[.int .u64 a1_0, .int .u64 a1_1, .int .u64 a1_2, .int .u64 a1_3, .bool a1_4] 26 (0, 0)) (by (with_reducible repeat (first | refine Zn ?_ _ | refine Zd ?_ | refine Za ?_ _)); exact BK239.out) hb)
      have n4_ := Zq (Zb (g := gb245) (o := .cells #[.int .u64 t241, .int .u64 t242, .int .u64 t243, .int .u64 t244] 24 (0, 0)) (by (with_reducible repeat (first | refine Zn ?_ _ | refine Zd ?_ | refine Za ?_ _)); exact BK245.out) hb)
      have n5_ := Zq (Zb (g := gb250) (o := .cells #[.int .u64 t246, .int .u64 t247, .int .u64 t248, .int .u64 t249] 24 (0, 0)) (by (with_reducible repeat (first | refine Zn ?_ _ | refine Zd ?_ | refine Za ?_ _)); exact BK250.out) hb)
      have n6_ := Zq (Zb (g := gb251) (o := .cells #[.int .u64 t241, .int .u64 t242, .int .u64 t243, .int .u64 t244] 29 (0, 0)) (by (with_reducible repeat (first | refine Zn ?_ _ | refine Zd ?_ | refine Za ?_ _)); exact BK251.out) hb)
      have n7_ := Zq (Zb (g := gb252) (o := .cells #[.int .u64 t246, .int .u64 t247, .int .u64 t248, .int .u64 t249] 29 (0, 0)) (by (with_reducible repeat (first | refine Zn ?_ _ | refine Zd ?_ | refine Za ?_ _)); exact BK252.out) hb)
      have n8_ := Zq (below_step (by repeat (first | (with_reducible first | exact HB.out | apply below_alloc | apply Zw | apply Ze | refine Zs ?_ GE238.out | refine Zs ?_ GE239.out | refine Zs ?_ GE245.out | refine Zs ?_ GE250.out | refine Zs ?_ GE251.out | refine Zs ?_ GE252.out) | exact HB.out)) hb)
      clear HO279
      clear HO286
      clear BK238
      clear BK239
      clear BK245
      clear BK250
      clear BK251
      clear BK252
      clear HB
      have HO279 := n0_
      have HO286 := n1_
      have BK238 := n2_
      have BK239 := n3_
      have BK245 := n4_
      have BK250 := n5_
      have BK251 := n6_
      have BK252 := n7_
      have HB := n8_
      clear n0_ n1_ n2_ n3_ n4_ n5_ n6_ n7_ n8_
      (try clear hb)
      (try clear hb2)
      (try clear hk)
      (try clear hi)
      refine hK.out _ _ ⟨(blk_cell BK245.out 0).trans rfl, (blk_cell BK245.out 1).trans rfl, (blk_cell BK245.out 2).trans rfl, (blk_cell BK245.out 3).trans rfl, (blk_cell BK251.out 0).trans rfl, (blk_cell BK251.out 1).trans rfl, (blk_cell BK251.out 2).trans rfl, (blk_cell BK251.out 3).trans rfl, (blk_cell BK250.out 0).trans rfl, (blk_cell BK250.out 1).trans rfl, (blk_cell BK250.out 2).trans rfl, (blk_cell BK250.out 3).trans rfl, (blk_cell BK252.out 0).trans rfl, (blk_cell BK252.out 1).trans rfl, (blk_cell BK252.out 2).trans rfl, (blk_cell BK252.out 3).trans rfl⟩ (fun hHeld => ?_)
      clear hK K
      refine norm_ (a' := ?_) ?_ ?_
      rotate_left
      · show Act.put _ (some 98) _ = _
        simp only [Act.put, List.setIfInBounds_toArray, List.set_cons_zero, List.set_cons_succ, i64_w, i32_w]
        rfl
      refine one_ (i := 35) (N := some 101) #[true, true, true, true, true, true, true, true, true, true, true, true, true, true, true, true, true, true, true, true, true, true, true, true, true, true, true, true, true, true, true, true, true, true, true, true, false, false, false, false, false, false, false, false, false, false, false, false, false, false, false, false, false, false, false, false, false, false, false, false] rfl rfl (one_of HT_.out (by kernel_rfl)) (by decide) (fun K hK => ?_)
      refine goes_ Tryd.func25 (by kernel_rfl) rfl #[.agg #[.int .u64 t241, .int .u64 t242, .int .u64 t243, .int .u64 t244], .int .i64 x2_7] (by rfl) rfl rfl (by (try simp only [List.map_toArray, List.map_cons, List.map_nil]); first | done | rfl | (simp only [List.length_drop, List.length_take]; rfl)) ?_
      with_reducible refine (tenementref06_At.calls t241 t242 t243 t244 x2_7 t296 _ A34.out).mono ?_
      rintro e w100 ⟨rfl, hb⟩
      refine ⟨_, rfl, ?_⟩
      have n0_ := Zq (Kd.R_below (by (with_reducible repeat (first | apply Kd.R_alloc | apply Kd.R_drewN | apply Kd.R_drew)); exact HO279.out) hb)
      have n1_ := Zq (Kd.R_below (by (with_reducible repeat (first | apply Kd.R_alloc | apply Kd.R_drewN | apply Kd.R_drew)); exact HO286.out) hb)
      have n2_ := Zq (Zb (g := gb238) (o := .cells #[.int .u64 a0_0, .int .u64 a0_1, .int .u64 a0_2, .int .u64 a0_3, .bool a0_4] 26 (0, 0)) (by (with_reducible repeat (first | refine Zn ?_ _ | refine Zd ?_ | refine Za ?_ _)); exact BK238.out) hb)
      have n3_ := Zq (Zb (g := gb239) (o := .cells #[.int .u64 a1_0, .int .u64 a1_1, .int .u64 a1_2, .int .u64 a1_3, .bool a1_4] 26 (0, 0)) (by (with_reducible repeat (first | refine Zn ?_ _ | refine Zd ?_ | refine Za ?_ _)); exact BK239.out) hb)
      have n4_ := Zq (Zb (g := gb245) (o := .cells #[.int .u64 t241, .int .u64 t242, .int .u64 t243, .int .u64 t244] 24 (0, 0)) (by (with_reducible repeat (first | refine Zn ?_ _ | refine Zd ?_ | refine Za ?_ _)); exact BK245.out) hb)
      have n5_ := Zq (Zb (g := gb250) (o := .cells #[.int .u64 t246, .int .u64 t247, .int .u64 t248, .int .u64 t249] 24 (0, 0)) (by (with_reducible repeat (first | refine Zn ?_ _ | refine Zd ?_ | refine Za ?_ _)); exact BK250.out) hb)
      have n6_ := Zq (Zb (g := gb251) (o := .cells #[.int .u64 t241, .int .u64 t242, .int .u64 t243, .int .u64 t244] 29 (0, 0)) (by (with_reducible repeat (first | refine Zn ?_ _ | refine Zd ?_ | refine Za ?_ _)); exact BK251.out) hb)
      have n7_ := Zq (Zb (g := gb252) (o := .cells #[.int .u64 t246, .int .u64 t247, .int .u64 t248, .int .u64 t249] 29 (0, 0)) (by (with_reducible repeat (first | refine Zn ?_ _ | refine Zd ?_ | refine Za ?_ _)); exact BK252.out) hb)
      have n8_ := Zq (below_step (by repeat (first | (with_reducible first | exact HB.out | apply below_alloc | apply Zw | apply Ze | refine Zs ?_ GE238.out | refine Zs ?_ GE239.out | refine Zs ?_ GE245.out | refine Zs ?_ GE250.out | refine Zs ?_ GE251.out | refine Zs ?_ GE252.out) | exact HB.out)) hb)
      clear HO279
      clear HO286
      clear BK238
      clear BK239
      clear BK245
      clear BK250
      clear BK251
      clear BK252
      clear HB
      have HO279 := n0_
      have HO286 := n1_
      have BK238 := n2_
      have BK239 := n3_
      have BK245 := n4_
      have BK250 := n5_
      have BK251 := n6_
      have BK252 := n7_
      have HB := n8_
      clear n0_ n1_ n2_ n3_ n4_ n5_ n6_ n7_ n8_
      (try clear hb)
      (try clear hb2)
      (try clear hk)
      (try clear hi)
      refine hK.out _ _ ⟨(blk_cell BK245.out 0).trans rfl, (blk_cell BK245.out 1).trans rfl, (blk_cell BK245.out 2).trans rfl, (blk_cell BK245.out 3).trans rfl, (blk_cell BK251.out 0).trans rfl, (blk_cell BK251.out 1).trans rfl, (blk_cell BK251.out 2).trans rfl, (blk_cell BK251.out 3).trans rfl, (blk_cell BK250.out 0).trans rfl, (blk_cell BK250.out 1).trans rfl, (blk_cell BK250.out 2).trans rfl, (blk_cell BK250.out 3).trans rfl, (blk_cell BK252.out 0).trans rfl, (blk_cell BK252.out 1).trans rfl, (blk_cell BK252.out 2).trans rfl, (blk_cell BK252.out 3).trans rfl⟩ (fun hHeld => ?_)
      clear hK K
      refine norm_ (a' := ?_) ?_ ?_
      rotate_left
      · show Act.put _ (some 101) _ = _
        simp only [Act.put, List.setIfInBounds_toArray, List.set_cons_zero, List.set_cons_succ, i64_w, i32_w]
        rfl
      refine pure_ (i := 36) (N := some 102) (v := ?_) (a' := ?_) #[true, true, true, true, true, true, true, true, true, true, true, true, true, true, true, true, true, true, true, true, true, true, true, true, true, true, true, true, true, true, true, true, true, true, true, true, true, false, false, false, false, false, false, false, false, false, false, false, false, false, false, false, false, false, false, false, false, false, false, false] rfl rfl (any_of HT_.out (by kernel_rfl)) (fun _ _ _ h => h) (Or.inl ⟨by rfl, ?_⟩) ?_ ?_
      rotate_left
      · intro w'
        go_simp
        with_reducible rfl
      rotate_left
      · simp only [Act.put, List.setIfInBounds_toArray, List.set_cons_zero, List.set_cons_succ, i64_w, i32_w]
        rfl
      refine pure_ (i := 37) (N := some 103) (v := ?_) (a' := ?_) #[true, true, true, true, true, true, true, true, true, true, true, true, true, true, true, true, true, true, true, true, true, true, true, true, true, true, true, true, true, true, true, true, true, true, true, true, true, true, false, false, false, false, false, false, false, false, false, false, false, false, false, false, false, false, false, false, false, false, false, false] rfl rfl (any_of HT_.out (by kernel_rfl)) (fun _ _ _ h => h) (Or.inl ⟨by rfl, ?_⟩) ?_ ?_
      rotate_left
      · intro w'
        go_simp
        with_reducible rfl
      rotate_left
      · simp only [Act.put, List.setIfInBounds_toArray, List.set_cons_zero, List.set_cons_succ, i64_w, i32_w]
        rfl
      refine pure_ (i := 38) (N := some 104) (v := ?_) (a' := ?_) #[true, true, true, true, true, true, true, true, true, true, true, true, true, true, true, true, true, true, true, true, true, true, true, true, true, true, true, true, true, true, true, true, true, true, true, true, true, true, true, false, false, false, false, false, false, false, false, false, false, false, false, false, false, false, false, false, false, false, false, false] rfl rfl (any_of HT_.out (by kernel_rfl)) (fun _ _ _ h => h) (Or.inl ⟨by rfl, ?_⟩) ?_ ?_
      rotate_left
      · intro w'
        go_simp
        with_reducible rfl
      rotate_left
      · simp only [Act.put, List.setIfInBounds_toArray, List.set_cons_zero, List.set_cons_succ, i64_w, i32_w]
        rfl
      refine take_ (i := 39) (N := some 105) (v := ?_) (a' := ?_) #[true, true, true, true, true, true, true, true, true, true, true, true, true, true, true, true, true, true, true, true, true, true, true, true, true, true, true, true, true, true, true, true, true, true, true, true, true, true, true, true, false, false, false, false, false, false, false, false, false, false, false, false, false, false, false, false, false, false, false, false] rfl rfl (take_ofW HT_.out HW_.out (by kernel_rfl)) (fun _ _ _ h => h) (Or.inl ⟨by rfl, ?_⟩) hHeld ?_ ?_
      rotate_left
      · rintro w' ⟨s0, s1, s2, s3, s4, s5, s6, s7, s8, s9, s10, s11, s12, s13, s14, s15⟩
        go_simp
        with_reducible rfl
      rotate_left
      · simp only [Act.put, List.setIfInBounds_toArray, List.set_cons_zero, List.set_cons_succ, i64_w, i32_w]
        rfl
      refine take_ (i := 41) (N := some 107) (v := ?_) (a' := ?_) #[true, true, true, true, true, true, true, true, true, true, true, true, true, true, true, true, true, true, true, true, true, true, true, true, true, true, true, true, true, true, true, true, true, true, true, true, true, true, true, true, false, true, false, false, false, false, false, false, false, false, false, false, false, false, false, false, false, false, false, false] rfl rfl (take_ofW HT_.out HW_.out (by kernel_rfl)) (fun _ _ _ h => h) (Or.inl ⟨by rfl, ?_⟩) hHeld ?_ ?_
      rotate_left
      · rintro w' ⟨s0, s1, s2, s3, s4, s5, s6, s7, s8, s9, s10, s11, s12, s13, s14, s15⟩
        go_simp
        with_reducible rfl
      rotate_left
      · simp only [Act.put, List.setIfInBounds_toArray, List.set_cons_zero, List.set_cons_succ, i64_w, i32_w]
        rfl
      refine one_ (i := 40) (N := some 106) #[true, true, true, true, true, true, true, true, true, true, true, true, true, true, true, true, true, true, true, true, true, true, true, true, true, true, true, true, true, true, true, true, true, true, true, true, true, true, true, true, true, true, false, false, false, false, false, false, false, false, false, false, false, false, false, false, false, false, false, false] rfl rfl (one_of HT_.out (by kernel_rfl)) (by decide) (fun K hK => ?_)
      refine goes_ Tryd.func26 (by kernel_rfl) rfl #[.agg #[.int .u64 t241, .int .u64 t242, .int .u64 t243, .int .u64 t244]] (by rfl) rfl rfl (by (try simp only [List.map_toArray, List.map_cons, List.map_nil]); first | done | rfl | (simp only [List.length_drop, List.length_take]; rfl)) ?_
      with_reducible refine (vec_Sum.calls t241 t242 t243 t244 t297 _ A36.out).mono ?_
      rintro e w101 ⟨rfl, hb⟩
      refine ⟨_, rfl, ?_⟩
      have n0_ := Zq (Kd.R_below (by (with_reducible repeat (first | apply Kd.R_alloc | apply Kd.R_drewN | apply Kd.R_drew)); exact HO279.out) hb)
      have n1_ := Zq (Kd.R_below (by (with_reducible repeat (first | apply Kd.R_alloc | apply Kd.R_drewN | apply Kd.R_drew)); exact HO286.out) hb)
      have n2_ := Zq (Zb (g := gb238) (o := .cells #[.int .u64 a0_0, .int .u64 a0_1, .int .u64 a0_2, .int .u64 a0_3, .bool a0_4] 26 (0, 0)) (by (with_reducible repeat (first | refine Zn ?_ _ | refine Zd ?_ | refine Za ?_ _)); exact BK238.out) hb)
      have n3_ := Zq (Zb (g := gb239) (o := .cells #[.int .u64 a1_0, .int .u64 a1_1, .int .u64 a1_2, .int .u64 a1_3, .bool a1_4] 26 (0, 0)) (by (with_reducible repeat (first | refine Zn ?_ _ | refine Zd ?_ | refine Za ?_ _)); exact BK239.out) hb)
      have n4_ := Zq (Zb (g := gb245) (o := .cells #[.int .u64 t241, .int .u64 t242, .int .u64 t243, .int .u64 t244] 24 (0, 0)) (by (with_reducible repeat (first | refine Zn ?_ _ | refine Zd ?_ | refine Za ?_ _)); exact BK245.out) hb)
      have n5_ := Zq (Zb (g := gb250) (o := .cells #[.int .u64 t246, .int .u64 t247, .int .u64 t248, .int .u64 t249] 24 (0, 0)) (by (with_reducible repeat (first | refine Zn ?_ _ | refine Zd ?_ | refine Za ?_ _)); exact BK250.out) hb)
      have n6_ := Zq (Zb (g := gb251) (o := .cells #[.int .u64 t241, .int .u64 t242, .int .u64 t243, .int .u64 t244] 29 (0, 0)) (by (with_reducible repeat (first | refine Zn ?_ _ | refine Zd ?_ | refine Za ?_ _)); exact BK251.out) hb)
      have n7_ := Zq (Zb (g := gb252) (o := .cells #[.int .u64 t246, .int .u64 t247, .int .u64 t248, .int .u64 t249] 29 (0, 0)) (by (with_reducible repeat (first | refine Zn ?_ _ | refine Zd ?_ | refine Za ?_ _)); exact BK252.out) hb)
      have n8_ := Zq (below_step (by repeat (first | (with_reducible first | exact HB.out | apply below_alloc | apply Zw | apply Ze | refine Zs ?_ GE238.out | refine Zs ?_ GE239.out | refine Zs ?_ GE245.out | refine Zs ?_ GE250.out | refine Zs ?_ GE251.out | refine Zs ?_ GE252.out) | exact HB.out)) hb)
      clear HO279
      clear HO286
      clear BK238
      clear BK239
      clear BK245
      clear BK250
      clear BK251
      clear BK252
      clear HB
      have HO279 := n0_
      have HO286 := n1_
      have BK238 := n2_
      have BK239 := n3_
      have BK245 := n4_
      have BK250 := n5_
      have BK251 := n6_
      have BK252 := n7_
      have HB := n8_
      clear n0_ n1_ n2_ n3_ n4_ n5_ n6_ n7_ n8_
      (try clear hb)
      (try clear hb2)
      (try clear hk)
      (try clear hi)
      refine hK.out _ _ ⟨(blk_cell BK245.out 0).trans rfl, (blk_cell BK245.out 1).trans rfl, (blk_cell BK245.out 2).trans rfl, (blk_cell BK245.out 3).trans rfl, (blk_cell BK251.out 0).trans rfl, (blk_cell BK251.out 1).trans rfl, (blk_cell BK251.out 2).trans rfl, (blk_cell BK251.out 3).trans rfl, (blk_cell BK250.out 0).trans rfl, (blk_cell BK250.out 1).trans rfl, (blk_cell BK250.out 2).trans rfl, (blk_cell BK250.out 3).trans rfl, (blk_cell BK252.out 0).trans rfl, (blk_cell BK252.out 1).trans rfl, (blk_cell BK252.out 2).trans rfl, (blk_cell BK252.out 3).trans rfl⟩ (fun hHeld => ?_)
      clear hK K
      refine norm_ (a' := ?_) ?_ ?_
      rotate_left
      · show Act.put _ (some 106) _ = _
        simp only [Act.put, List.setIfInBounds_toArray, List.set_cons_zero, List.set_cons_succ, i64_w, i32_w]
        rfl
      refine one_ (i := 42) (N := some 108) #[true, true, true, true, true, true, true, true, true, true, true, true, true, true, true, true, true, true, true, true, true, true, true, true, true, true, true, true, true, true, true, true, true, true, true, true, true, true, true, true, true, true, true, false, false, false, false, false, false, false, false, false, false, false, false, false, false, false, false, false] rfl rfl (one_of HT_.out (by kernel_rfl)) (by decide) (fun K hK => ?_)
      refine goes_ Tryd.func27 (by kernel_rfl) rfl #[.agg #[.int .u64 t241, .int .u64 t242, .int .u64 t243, .int .u64 t244]] (by rfl) rfl rfl (by (try simp only [List.map_toArray, List.map_cons, List.map_nil]); first | done | rfl | (simp only [List.length_drop, List.length_take]; rfl)) ?_
      with_reducible refine (tenementref06_Sum.calls t241 t242 t243 t244 t298 _ A37.out).mono ?_
      rintro e w102 ⟨rfl, hb⟩
      refine ⟨_, rfl, ?_⟩
      have n0_ := Zq (Kd.R_below (by (with_reducible repeat (first | apply Kd.R_alloc | apply Kd.R_drewN | apply Kd.R_drew)); exact HO279.out) hb)
      have n1_ := Zq (Kd.R_below (by (with_reducible repeat (first | apply Kd.R_alloc | apply Kd.R_drewN | apply Kd.R_drew)); exact HO286.out) hb)
      have n2_ := Zq (Zb (g := gb238) (o := .cells #[.int .u64 a0_0, .int .u64 a0_1, .int .u64 a0_2, .int .u64 a0_3, .bool a0_4] 26 (0, 0)) (by (with_reducible repeat (first | refine Zn ?_ _ | refine Zd ?_ | refine Za ?_ _)); exact BK238.out) hb)
      have n3_ := Zq (Zb (g := gb239) (o := .cells #[.int .u64 a1_0, .int .u64 a1_1, .int .u64 a1_2, .int .u64 a1_3, .bool a1_4] 26 (0, 0)) (by (with_reducible repeat (first | refine Zn ?_ _ | refine Zd ?_ | refine Za ?_ _)); exact BK239.out) hb)
      have n4_ := Zq (Zb (g := gb245) (o := .cells #[.int .u64 t241, .int .u64 t242, .int .u64 t243, .int .u64 t244] 24 (0, 0)) (by (with_reducible repeat (first | refine Zn ?_ _ | refine Zd ?_ | refine Za ?_ _)); exact BK245.out) hb)
      have n5_ := Zq (Zb (g := gb250) (o := .cells #[.int .u64 t246, .int .u64 t247, .int .u64 t248, .int .u64 t249] 24 (0, 0)) (by (with_reducible repeat (first | refine Zn ?_ _ | refine Zd ?_ | refine Za ?_ _)); exact BK250.out) hb)
      have n6_ := Zq (Zb (g := gb251) (o := .cells #[.int .u64 t241, .int .u64 t242, .int .u64 t243, .int .u64 t244] 29 (0, 0)) (by (with_reducible repeat (first | refine Zn ?_ _ | refine Zd ?_ | refine Za ?_ _)); exact BK251.out) hb)
      have n7_ := Zq (Zb (g := gb252) (o := .cells #[.int .u64 t246, .int .u64 t247, .int .u64 t248, .int .u64 t249] 29 (0, 0)) (by (with_reducible repeat (first | refine Zn ?_ _ | refine Zd ?_ | refine Za ?_ _)); exact BK252.out) hb)
      have n8_ := Zq (below_step (by repeat (first | (with_reducible first | exact HB.out | apply below_alloc | apply Zw | apply Ze | refine Zs ?_ GE238.out | refine Zs ?_ GE239.out | refine Zs ?_ GE245.out | refine Zs ?_ GE250.out | refine Zs ?_ GE251.out | refine Zs ?_ GE252.out) | exact HB.out)) hb)
      clear HO279
      clear HO286
      clear BK238
      clear BK239
      clear BK245
      clear BK250
      clear BK251
      clear BK252
      clear HB
      have HO279 := n0_
      have HO286 := n1_
      have BK238 := n2_
      have BK239 := n3_
      have BK245 := n4_
      have BK250 := n5_
      have BK251 := n6_
      have BK252 := n7_
      have HB := n8_
      clear n0_ n1_ n2_ n3_ n4_ n5_ n6_ n7_ n8_
      (try clear hb)
      (try clear hb2)
      (try clear hk)
      (try clear hi)
      refine hK.out _ _ ⟨(blk_cell BK245.out 0).trans rfl, (blk_cell BK245.out 1).trans rfl, (blk_cell BK245.out 2).trans rfl, (blk_cell BK245.out 3).trans rfl, (blk_cell BK251.out 0).trans rfl, (blk_cell BK251.out 1).trans rfl, (blk_cell BK251.out 2).trans rfl, (blk_cell BK251.out 3).trans rfl, (blk_cell BK250.out 0).trans rfl, (blk_cell BK250.out 1).trans rfl, (blk_cell BK250.out 2).trans rfl, (blk_cell BK250.out 3).trans rfl, (blk_cell BK252.out 0).trans rfl, (blk_cell BK252.out 1).trans rfl, (blk_cell BK252.out 2).trans rfl, (blk_cell BK252.out 3).trans rfl⟩ (fun hHeld => ?_)
      clear hK K
      refine norm_ (a' := ?_) ?_ ?_
      rotate_left
      · show Act.put _ (some 108) _ = _
        simp only [Act.put, List.setIfInBounds_toArray, List.set_cons_zero, List.set_cons_succ, i64_w, i32_w]
        rfl
      refine pure_ (i := 43) (N := some 109) (v := ?_) (a' := ?_) #[true, true, true, true, true, true, true, true, true, true, true, true, true, true, true, true, true, true, true, true, true, true, true, true, true, true, true, true, true, true, true, true, true, true, true, true, true, true, true, true, true, true, true, true, false, false, false, false, false, false, false, false, false, false, false, false, false, false, false, false] rfl rfl (any_of HT_.out (by kernel_rfl)) (fun _ _ _ h => h) (Or.inl ⟨by rfl, ?_⟩) ?_ ?_
      rotate_left
      · intro w'
        go_simp
        with_reducible rfl
      rotate_left
      · simp only [Act.put, List.setIfInBounds_toArray, List.set_cons_zero, List.set_cons_succ, i64_w, i32_w]
        rfl
      refine pure_ (i := 44) (N := some 110) (v := ?_) (a' := ?_) #[true, true, true, true, true, true, true, true, true, true, true, true, true, true, true, true, true, true, true, true, true, true, true, true, true, true, true, true, true, true, true, true, true, true, true, true, true, true, true, true, true, true, true, true, true, false, false, false, false, false, false, false, false, false, false, false, false, false, false, false] rfl rfl (any_of HT_.out (by kernel_rfl)) (fun _ _ _ h => h) (Or.inl ⟨by rfl, ?_⟩) ?_ ?_
      rotate_left
      · intro w'
        go_simp
        with_reducible rfl
      rotate_left
      · simp only [Act.put, List.setIfInBounds_toArray, List.set_cons_zero, List.set_cons_succ, i64_w, i32_w]
        rfl
      refine pure_ (i := 45) (N := some 111) (v := ?_) (a' := ?_) #[true, true, true, true, true, true, true, true, true, true, true, true, true, true, true, true, true, true, true, true, true, true, true, true, true, true, true, true, true, true, true, true, true, true, true, true, true, true, true, true, true, true, true, true, true, true, false, false, false, false, false, false, false, false, false, false, false, false, false, false] rfl rfl (any_of HT_.out (by kernel_rfl)) (fun _ _ _ h => h) (Or.inl ⟨by rfl, ?_⟩) ?_ ?_
      rotate_left
      · intro w'
        go_simp
        with_reducible rfl
      rotate_left
      · simp only [Act.put, List.setIfInBounds_toArray, List.set_cons_zero, List.set_cons_succ, i64_w, i32_w]
        rfl
      refine take_ (i := 46) (N := some 112) (v := ?_) (a' := ?_) #[true, true, true, true, true, true, true, true, true, true, true, true, true, true, true, true, true, true, true, true, true, true, true, true, true, true, true, true, true, true, true, true, true, true, true, true, true, true, true, true, true, true, true, true, true, true, true, false, false, false, false, false, false, false, false, false, false, false, false, false] rfl rfl (take_ofW HT_.out HW_.out (by kernel_rfl)) (fun _ _ _ h => h) (Or.inl ⟨by rfl, ?_⟩) hHeld ?_ ?_
      rotate_left
      · rintro w' ⟨s0, s1, s2, s3, s4, s5, s6, s7, s8, s9, s10, s11, s12, s13, s14, s15⟩
        go_simp
        with_reducible rfl
      rotate_left
      · simp only [Act.put, List.setIfInBounds_toArray, List.set_cons_zero, List.set_cons_succ, i64_w, i32_w]
        rfl
      refine take_ (i := 48) (N := some 114) (v := ?_) (a' := ?_) #[true, true, true, true, true, true, true, true, true, true, true, true, true, true, true, true, true, true, true, true, true, true, true, true, true, true, true, true, true, true, true, true, true, true, true, true, true, true, true, true, true, true, true, true, true, true, true, false, true, false, false, false, false, false, false, false, false, false, false, false] rfl rfl (take_ofW HT_.out HW_.out (by kernel_rfl)) (fun _ _ _ h => h) (Or.inl ⟨by rfl, ?_⟩) hHeld ?_ ?_
      rotate_left
      · rintro w' ⟨s0, s1, s2, s3, s4, s5, s6, s7, s8, s9, s10, s11, s12, s13, s14, s15⟩
        go_simp
        with_reducible rfl
      rotate_left
      · simp only [Act.put, List.setIfInBounds_toArray, List.set_cons_zero, List.set_cons_succ, i64_w, i32_w]
        rfl
      refine one_ (i := 47) (N := some 113) #[true, true, true, true, true, true, true, true, true, true, true, true, true, true, true, true, true, true, true, true, true, true, true, true, true, true, true, true, true, true, true, true, true, true, true, true, true, true, true, true, true, true, true, true, true, true, true, true, true, false, false, false, false, false, false, false, false, false, false, false] rfl rfl (one_of HT_.out (by kernel_rfl)) (by decide) (fun K hK => ?_)
      refine goes_ Tryd.func28 (by kernel_rfl) rfl #[.agg #[.int .u64 t241, .int .u64 t242, .int .u64 t243, .int .u64 t244]] (by rfl) rfl rfl (by (try simp only [List.map_toArray, List.map_cons, List.map_nil]); first | done | rfl | (simp only [List.length_drop, List.length_take]; rfl)) ?_
      with_reducible refine (vec_Put.calls kj7 t241 t242 t243 t244 t299 _ A39.out).mono ?_
      rintro e w103 ⟨rfl, hb⟩
      refine ⟨_, rfl, ?_⟩
      have n0_ := Zq (Kd.R_below (by (with_reducible repeat (first | apply Kd.R_alloc | apply Kd.R_drewN | apply Kd.R_drew)); exact HO279.out) hb)
      have n1_ := Zq (Kd.R_below (by (with_reducible repeat (first | apply Kd.R_alloc | apply Kd.R_drewN | apply Kd.R_drew)); exact HO286.out) hb)
      have n2_ := Zq (Zb (g := gb238) (o := .cells #[.int .u64 a0_0, .int .u64 a0_1, .int .u64 a0_2, .int .u64 a0_3, .bool a0_4] 26 (0, 0)) (by (with_reducible repeat (first | refine Zn ?_ _ | refine Zd ?_ | refine Za ?_ _)); exact BK238.out) hb)
      have n3_ := Zq (Zb (g := gb239) (o := .cells #[.int .u64 a1_0, .int .u64 a1_1, .int .u64 a1_2, .int .u64 a1_3, .bool a1_4] 26 (0, 0)) (by (with_reducible repeat (first | refine Zn ?_ _ | refine Zd ?_ | refine Za ?_ _)); exact BK239.out) hb)
      have n4_ := Zq (Zb (g := gb245) (o := .cells #[.int .u64 t241, .int .u64 t242, .int .u64 t243, .int .u64 t244] 24 (0, 0)) (by (with_reducible repeat (first | refine Zn ?_ _ | refine Zd ?_ | refine Za ?_ _)); exact BK245.out) hb)
      have n5_ := Zq (Zb (g := gb250) (o := .cells #[.int .u64 t246, .int .u64 t247, .int .u64 t248, .int .u64 t249] 24 (0, 0)) (by (with_reducible repeat (first | refine Zn ?_ _ | refine Zd ?_ | refine Za ?_ _)); exact BK250.out) hb)
      have n6_ := Zq (Zb (g := gb251) (o := .cells #[.int .u64 t241, .int .u64 t242, .int .u64 t243, .int .u64 t244] 29 (0, 0)) (by (with_reducible repeat (first | refine Zn ?_ _ | refine Zd ?_ | refine Za ?_ _)); exact BK251.out) hb)
      have n7_ := Zq (Zb (g := gb252) (o := .cells #[.int .u64 t246, .int .u64 t247, .int .u64 t248, .int .u64 t249] 29 (0, 0)) (by (with_reducible repeat (first | refine Zn ?_ _ | refine Zd ?_ | refine Za ?_ _)); exact BK252.out) hb)
      have n8_ := Zq (below_step (by repeat (first | (with_reducible first | exact HB.out | apply below_alloc | apply Zw | apply Ze | refine Zs ?_ GE238.out | refine Zs ?_ GE239.out | refine Zs ?_ GE245.out | refine Zs ?_ GE250.out | refine Zs ?_ GE251.out | refine Zs ?_ GE252.out) | exact HB.out)) hb)
      clear HO279
      clear HO286
      clear BK238
      clear BK239
      clear BK245
      clear BK250
      clear BK251
      clear BK252
      clear HB
      have HO279 := n0_
      have HO286 := n1_
      have BK238 := n2_
      have BK239 := n3_
      have BK245 := n4_
      have BK250 := n5_
      have BK251 := n6_
      have BK252 := n7_
      have HB := n8_
      clear n0_ n1_ n2_ n3_ n4_ n5_ n6_ n7_ n8_
      (try clear hb)
      (try clear hb2)
      (try clear hk)
      (try clear hi)
      refine hK.out _ _ ⟨(blk_cell BK245.out 0).trans rfl, (blk_cell BK245.out 1).trans rfl, (blk_cell BK245.out 2).trans rfl, (blk_cell BK245.out 3).trans rfl, (blk_cell BK251.out 0).trans rfl, (blk_cell BK251.out 1).trans rfl, (blk_cell BK251.out 2).trans rfl, (blk_cell BK251.out 3).trans rfl, (blk_cell BK250.out 0).trans rfl, (blk_cell BK250.out 1).trans rfl, (blk_cell BK250.out 2).trans rfl, (blk_cell BK250.out 3).trans rfl, (blk_cell BK252.out 0).trans rfl, (blk_cell BK252.out 1).trans rfl, (blk_cell BK252.out 2).trans rfl, (blk_cell BK252.out 3).trans rfl⟩ (fun hHeld => ?_)
      clear hK K
      refine norm_ (a' := ?_) ?_ ?_
      rotate_left
      · show Act.put _ (some 113) _ = _
        simp only [Act.put, List.setIfInBounds_toArray, List.set_cons_zero, List.set_cons_succ, i64_w, i32_w]
        rfl
      refine one_ (i := 49) (N := some 115) #[true, true, true, true, true, true, true, true, true, true, true, true, true, true, true, true, true, true, true, true, true, true, true, true, true, true, true, true, true, true, true, true, true, true, true, true, true, true, true, true, true, true, true, true, true, true, true, true, true, true, false, false, false, false, false, false, false, false, false, false] rfl rfl (one_of HT_.out (by kernel_rfl)) (by decide) (fun K hK => ?_)
      refine goes_ Tryd.func29 (by kernel_rfl) rfl #[.agg #[.int .u64 t241, .int .u64 t242, .int .u64 t243, .int .u64 t244]] (by rfl) rfl rfl (by (try simp only [List.map_toArray, List.map_cons, List.map_nil]); first | done | rfl | (simp only [List.length_drop, List.length_take]; rfl)) ?_
      with_reducible refine (tenementref06_Put.calls kj7 t241 t242 t243 t244 t300 _ A40.out).mono ?_
      rintro e w104 ⟨rfl, hb⟩
      refine ⟨_, rfl, ?_⟩
      have n0_ := Zq (Kd.R_below (by (with_reducible repeat (first | apply Kd.R_alloc | apply Kd.R_drewN | apply Kd.R_drew)); exact HO279.out) hb)
      have n1_ := Zq (Kd.R_below (by (with_reducible repeat (first | apply Kd.R_alloc | apply Kd.R_drewN | apply Kd.R_drew)); exact HO286.out) hb)
      have n2_ := Zq (Zb (g := gb238) (o := .cells #[.int .u64 a0_0, .int .u64 a0_1, .int .u64 a0_2, .int .u64 a0_3, .bool a0_4] 26 (0, 0)) (by (with_reducible repeat (first | refine Zn ?_ _ | refine Zd ?_ | refine Za ?_ _)); exact BK238.out) hb)
      have n3_ := Zq (Zb (g := gb239) (o := .cells #[.int .u64 a1_0, .int .u64 a1_1, .int .u64 a1_2, .int .u64 a1_3, .bool a1_4] 26 (0, 0)) (by (with_reducible repeat (first | refine Zn ?_ _ | refine Zd ?_ | refine Za ?_ _)); exact BK239.out) hb)
      have n4_ := Zq (Zb (g := gb245) (o := .cells #[.int .u64 t241, .int .u64 t242, .int .u64 t243, .int .u64 t244] 24 (0, 0)) (by (with_reducible repeat (first | refine Zn ?_ _ | refine Zd ?_ | refine Za ?_ _)); exact BK245.out) hb)
      have n5_ := Zq (Zb (g := gb250) (o := .cells #[.int .u64 t246, .int .u64 t247, .int .u64 t248, .int .u64 t249] 24 (0, 0)) (by (with_reducible repeat (first | refine Zn ?_ _ | refine Zd ?_ | refine Za ?_ _)); exact BK250.out) hb)
      have n6_ := Zq (Zb (g := gb251) (o := .cells #[.int .u64 t241, .int .u64 t242, .int .u64 t243, .int .u64 t244] 29 (0, 0)) (by (with_reducible repeat (first | refine Zn ?_ _ | refine Zd ?_ | refine Za ?_ _)); exact BK251.out) hb)
      have n7_ := Zq (Zb (g := gb252) (o := .cells #[.int .u64 t246, .int .u64 t247, .int .u64 t248, .int .u64 t249] 29 (0, 0)) (by (with_reducible repeat (first | refine Zn ?_ _ | refine Zd ?_ | refine Za ?_ _)); exact BK252.out) hb)
      have n8_ := Zq (below_step (by repeat (first | (with_reducible first | exact HB.out | apply below_alloc | apply Zw | apply Ze | refine Zs ?_ GE238.out | refine Zs ?_ GE239.out | refine Zs ?_ GE245.out | refine Zs ?_ GE250.out | refine Zs ?_ GE251.out | refine Zs ?_ GE252.out) | exact HB.out)) hb)
      clear HO279
      clear HO286
      clear BK238
      clear BK239
      clear BK245
      clear BK250
      clear BK251
      clear BK252
      clear HB
      have HO279 := n0_
      have HO286 := n1_
      have BK238 := n2_
      have BK239 := n3_
      have BK245 := n4_
      have BK250 := n5_
      have BK251 := n6_
      have BK252 := n7_
      have HB := n8_
      clear n0_ n1_ n2_ n3_ n4_ n5_ n6_ n7_ n8_
      (try clear hb)
      (try clear hb2)
      (try clear hk)
      (try clear hi)
      refine hK.out _ _ ⟨(blk_cell BK245.out 0).trans rfl, (blk_cell BK245.out 1).trans rfl, (blk_cell BK245.out 2).trans rfl, (blk_cell BK245.out 3).trans rfl, (blk_cell BK251.out 0).trans rfl, (blk_cell BK251.out 1).trans rfl, (blk_cell BK251.out 2).trans rfl, (blk_cell BK251.out 3).trans rfl, (blk_cell BK250.out 0).trans rfl, (blk_cell BK250.out 1).trans rfl, (blk_cell BK250.out 2).trans rfl, (blk_cell BK250.out 3).trans rfl, (blk_cell BK252.out 0).trans rfl, (blk_cell BK252.out 1).trans rfl, (blk_cell BK252.out 2).trans rfl, (blk_cell BK252.out 3).trans rfl⟩ (fun hHeld => ?_)
      clear hK K
      refine norm_ (a' := ?_) ?_ ?_
      rotate_left
      · show Act.put _ (some 115) _ = _
        simp only [Act.put, List.setIfInBounds_toArray, List.set_cons_zero, List.set_cons_succ, i64_w, i32_w]
        rfl
      refine pure_ (i := 50) (N := some 116) (v := ?_) (a' := ?_) #[true, true, true, true, true, true, true, true, true, true, true, true, true, true, true, true, true, true, true, true, true, true, true, true, true, true, true, true, true, true, true, true, true, true, true, true, true, true, true, true, true, true, true, true, true, true, true, true, true, true, true, false, false, false, false, false, false, false, false, false] rfl rfl (any_of HT_.out (by kernel_rfl)) (fun _ _ _ h => h) (Or.inl ⟨by rfl, ?_⟩) ?_ ?_
      rotate_left
      · intro w'
        go_simp
        with_reducible rfl
      rotate_left
      · simp only [Act.put, List.setIfInBounds_toArray, List.set_cons_zero, List.set_cons_succ, i64_w, i32_w]
        rfl
      refine pure_ (i := 51) (N := some 117) (v := ?_) (a' := ?_) #[true, true, true, true, true, true, true, true, true, true, true, true, true, true, true, true, true, true, true, true, true, true, true, true, true, true, true, true, true, true, true, true, true, true, true, true, true, true, true, true, true, true, true, true, true, true, true, true, true, true, true, true, false, false, false, false, false, false, false, false] rfl rfl (any_of HT_.out (by kernel_rfl)) (fun _ _ _ h => h) (Or.inl ⟨by rfl, ?_⟩) ?_ ?_
      rotate_left
      · intro w'
        go_simp
        with_reducible rfl
      rotate_left
      · simp only [Act.put, List.setIfInBounds_toArray, List.set_cons_zero, List.set_cons_succ, i64_w, i32_w]
        rfl
      refine pure_ (i := 52) (N := some 118) (v := ?_) (a' := ?_) #[true, true, true, true, true, true, true, true, true, true, true, true, true, true, true, true, true, true, true, true, true, true, true, true, true, true, true, true, true, true, true, true, true, true, true, true, true, true, true, true, true, true, true, true, true, true, true, true, true, true, true, true, true, false, false, false, false, false, false, false] rfl rfl (any_of HT_.out (by kernel_rfl)) (fun _ _ _ h => h) (Or.inl ⟨by rfl, ?_⟩) ?_ ?_
      rotate_left
      · intro w'
        go_simp
        with_reducible rfl
      rotate_left
      · simp only [Act.put, List.setIfInBounds_toArray, List.set_cons_zero, List.set_cons_succ, i64_w, i32_w]
        rfl
      refine take_ (i := 53) (N := some 119) (v := ?_) (a' := ?_) #[true, true, true, true, true, true, true, true, true, true, true, true, true, true, true, true, true, true, true, true, true, true, true, true, true, true, true, true, true, true, true, true, true, true, true, true, true, true, true, true, true, true, true, true, true, true, true, true, true, true, true, true, true, true, false, false, false, false, false, false] rfl rfl (take_ofW HT_.out HW_.out (by kernel_rfl)) (fun _ _ _ h => h) (Or.inl ⟨by rfl, ?_⟩) hHeld ?_ ?_
      rotate_left
      · rintro w' ⟨s0, s1, s2, s3, s4, s5, s6, s7, s8, s9, s10, s11, s12, s13, s14, s15⟩
        go_simp
        with_reducible rfl
      rotate_left
      · simp only [Act.put, List.setIfInBounds_toArray, List.set_cons_zero, List.set_cons_succ, i64_w, i32_w]
        rfl
      refine take_ (i := 55) (N := some 121) (v := ?_) (a' := ?_) #[true, true, true, true, true, true, true, true, true, true, true, true, true, true, true, true, true, true, true, true, true, true, true, true, true, true, true, true, true, true, true, true, true, true, true, true, true, true, true, true, true, true, true, true, true, true, true, true, true, true, true, true, true, true, false, true, false, false, false, false] rfl rfl (take_ofW HT_.out HW_.out (by kernel_rfl)) (fun _ _ _ h => h) (Or.inl ⟨by rfl, ?_⟩) hHeld ?_ ?_
      rotate_left
      · rintro w' ⟨s0, s1, s2, s3, s4, s5, s6, s7, s8, s9, s10, s11, s12, s13, s14, s15⟩
        go_simp
        with_reducible rfl
      rotate_left
      · simp only [Act.put, List.setIfInBounds_toArray, List.set_cons_zero, List.set_cons_succ, i64_w, i32_w]
        rfl
      refine one_ (i := 54) (N := some 120) #[true, true, true, true, true, true, true, true, true, true, true, true, true, true, true, true, true, true, true, true, true, true, true, true, true, true, true, true, true, true, true, true, true, true, true, true, true, true, true, true, true, true, true, true, true, true, true, true, true, true, true, true, true, true, true, true, false, false, false, false] rfl rfl (one_of HT_.out (by kernel_rfl)) (by decide) (fun K hK => ?_)
      refine goes_ Tryd.func30 (by kernel_rfl) rfl #[.agg #[.int .u64 t241, .int .u64 t242, .int .u64 t243, .int .u64 t244]] (by rfl) rfl rfl (by (try simp only [List.map_toArray, List.map_cons, List.map_nil]); first | done | rfl | (simp only [List.length_drop, List.length_take]; rfl)) ?_
      refine (BigText.callsT w HT _ (by repeat (first | (with_reducible first | exact HB.out | apply below_alloc | apply Zw | apply Ze | refine Zs ?_ GE238.out | refine Zs ?_ GE239.out | refine Zs ?_ GE245.out | refine Zs ?_ GE250.out | refine Zs ?_ GE251.out | refine Zs ?_ GE252.out) | exact HB.out)) t241 t242 t243 t244 t301 A42.out).mono ?_
      rintro e w105 ⟨rfl, hb⟩
      refine ⟨_, rfl, ?_⟩
      have n0_ := Zq (Kd.R_below (by (with_reducible repeat (first | apply Kd.R_alloc | apply Kd.R_drewN | apply Kd.R_drew)); exact HO279.out) hb)
      have n1_ := Zq (Kd.R_below (by (with_reducible repeat (first | apply Kd.R_alloc | apply Kd.R_drewN | apply Kd.R_drew)); exact HO286.out) hb)
      have n2_ := Zq (Zb (g := gb238) (o := .cells #[.int .u64 a0_0, .int .u64 a0_1, .int .u64 a0_2, .int .u64 a0_3, .bool a0_4] 26 (0, 0)) (by (with_reducible repeat (first | refine Zn ?_ _ | refine Zd ?_ | refine Za ?_ _)); exact BK238.out) hb)
      have n3_ := Zq (Zb (g := gb239) (o := .cells #[.int .u64 a1_0, .int .u64 a1_1, .int .u64 a1_2, .int .u64 a1_3, .bool a1_4] 26 (0, 0)) (by (with_reducible repeat (first | refine Zn ?_ _ | refine Zd ?_ | refine Za ?_ _)); exact BK239.out) hb)
      have n4_ := Zq (Zb (g := gb245) (o := .cells #[.int .u64 t241, .int .u64 t242, .int .u64 t243, .int .u64 t244] 24 (0, 0)) (by (with_reducible repeat (first | refine Zn ?_ _ | refine Zd ?_ | refine Za ?_ _)); exact BK245.out) hb)
      have n5_ := Zq (Zb (g := gb250) (o := .cells #[.int .u64 t246, .int .u64 t247, .int .u64 t248, .int .u64 t249] 24 (0, 0)) (by (with_reducible repeat (first | refine Zn ?_ _ | refine Zd ?_ | refine Za ?_ _)); exact BK250.out) hb)
      have n6_ := Zq (Zb (g := gb251) (o := .cells #[.int .u64 t241, .int .u64 t242, .int .u64 t243, .int .u64 t244] 29 (0, 0)) (by (with_reducible repeat (first | refine Zn ?_ _ | refine Zd ?_ | refine Za ?_ _)); exact BK251.out) hb)
      have n7_ := Zq (Zb (g := gb252) (o := .cells #[.int .u64 t246, .int .u64 t247, .int .u64 t248, .int .u64 t249] 29 (0, 0)) (by (with_reducible repeat (first | refine Zn ?_ _ | refine Zd ?_ | refine Za ?_ _)); exact BK252.out) hb)
      have n8_ := Zq (below_step (by repeat (first | (with_reducible first | exact HB.out | apply below_alloc | apply Zw | apply Ze | refine Zs ?_ GE238.out | refine Zs ?_ GE239.out | refine Zs ?_ GE245.out | refine Zs ?_ GE250.out | refine Zs ?_ GE251.out | refine Zs ?_ GE252.out) | exact HB.out)) hb)
      clear HO279
      clear HO286
      clear BK238
      clear BK239
      clear BK245
      clear BK250
      clear BK251
      clear BK252
      clear HB
      have HO279 := n0_
      have HO286 := n1_
      have BK238 := n2_
      have BK239 := n3_
      have BK245 := n4_
      have BK250 := n5_
      have BK251 := n6_
      have BK252 := n7_
      have HB := n8_
      clear n0_ n1_ n2_ n3_ n4_ n5_ n6_ n7_ n8_
      (try clear hb)
      (try clear hb2)
      (try clear hk)
      (try clear hi)
      refine hK.out _ _ ⟨(blk_cell BK245.out 0).trans rfl, (blk_cell BK245.out 1).trans rfl, (blk_cell BK245.out 2).trans rfl, (blk_cell BK245.out 3).trans rfl, (blk_cell BK251.out 0).trans rfl, (blk_cell BK251.out 1).trans rfl, (blk_cell BK251.out 2).trans rfl, (blk_cell BK251.out 3).trans rfl, (blk_cell BK250.out 0).trans rfl, (blk_cell BK250.out 1).trans rfl, (blk_cell BK250.out 2).trans rfl, (blk_cell BK250.out 3).trans rfl, (blk_cell BK252.out 0).trans rfl, (blk_cell BK252.out 1).trans rfl, (blk_cell BK252.out 2).trans rfl, (blk_cell BK252.out 3).trans rfl⟩ (fun hHeld => ?_)
      clear hK K
      refine norm_ (a' := ?_) ?_ ?_
      rotate_left
      · show Act.put _ (some 120) _ = _
        simp only [Act.put, List.setIfInBounds_toArray, List.set_cons_zero, List.set_cons_succ, i64_w, i32_w]
        rfl
      refine one_ (i := 56) (N := some 122) #[true, true, true, true, true, true, true, true, true, true, true, true, true, true, true, true, true, true, true, true, true, true, true, true, true, true, true, true, true, true, true, true, true, true, true, true, true, true, true, true, true, true, true, true, true, true, true, true, true, true, true, true, true, true, true, true, true, false, false, false] rfl rfl (one_of HT_.out (by kernel_rfl)) (by decide) (fun K hK => ?_)
      refine goes_ Tryd.func31 (by kernel_rfl) rfl #[.agg #[.int .u64 t241, .int .u64 t242, .int .u64 t243, .int .u64 t244]] (by rfl) rfl rfl (by (try simp only [List.map_toArray, List.map_cons, List.map_nil]); first | done | rfl | (simp only [List.length_drop, List.length_take]; rfl)) ?_
      with_reducible refine (tenementref06_Text.calls kj7 t241 t242 t243 t244 t302 _ A43.out).mono ?_
      rintro e w106 ⟨rfl, hb⟩
      refine ⟨_, rfl, ?_⟩
      have n0_ := Zq (Kd.R_below (by (with_reducible repeat (first | apply Kd.R_alloc | apply Kd.R_drewN | apply Kd.R_drew)); exact HO279.out) hb)
      have n1_ := Zq (Kd.R_below (by (with_reducible repeat (first | apply Kd.R_alloc | apply Kd.R_drewN | apply Kd.R_drew)); exact HO286.out) hb)
      have n2_ := Zq (Zb (g := gb238) (o := .cells #[.int .u64 a0_0, .int .u64 a0_1, .int .u64 a0_2, .int .u64 a0_3, .bool a0_4] 26 (0, 0)) (by (with_reducible repeat (first | refine Zn ?_ _ | refine Zd ?_ | refine Za ?_ _)); exact BK238.out) hb)
      have n3_ := Zq (Zb (g := gb239) (o := .cells #[.int .u64 a1_0, .int .u64 a1_1, .int .u64 a1_2, .int .u64 a1_3, .bool a1_4] 26 (0, 0)) (by (with_reducible repeat (first | refine Zn ?_ _ | refine Zd ?_ | refine Za ?_ _)); exact BK239.out) hb)
      have n4_ := Zq (Zb (g := gb245) (o := .cells #[.int .u64 t241, .int .u64 t242, .int .u64 t243, .int .u64 t244] 24 (0, 0)) (by (with_reducible repeat (first | refine Zn ?_ _ | refine Zd ?_ | refine Za ?_ _)); exact BK245.out) hb)
      have n5_ := Zq (Zb (g := gb250) (o := .cells #[.int .u64 t246, .int .u64 t247, .int .u64 t248, .int .u64 t249] 24 (0, 0)) (by (with_reducible repeat (first | refine Zn ?_ _ | refine Zd ?_ | refine Za ?_ _)); exact BK250.out) hb)
      have n6_ := Zq (Zb (g := gb251) (o := .cells #[.int .u64 t241, .int .u64 t242, .int .u64 t243, .int .u64 t244] 29 (0, 0)) (by (with_reducible repeat (first | refine Zn ?_ _ | refine Zd ?_ | refine Za ?_ _)); exact BK251.out) hb)
      have n7_ := Zq (Zb (g := gb252) (o := .cells #[.int .u64 t246, .int .u64 t247, .int .u64 t248, .int .u64 t249] 29 (0, 0)) (by (with_reducible repeat (first | refine Zn ?_ _ | refine Zd ?_ | refine Za ?_ _)); exact BK252.out) hb)
      have n8_ := Zq (below_step (by repeat (first | (with_reducible first | exact HB.out | apply below_alloc | apply Zw | apply Ze | refine Zs ?_ GE238.out | refine Zs ?_ GE239.out | refine Zs ?_ GE245.out | refine Zs ?_ GE250.out | refine Zs ?_ GE251.out | refine Zs ?_ GE252.out) | exact HB.out)) hb)
      clear HO279
      clear HO286
      clear BK238
      clear BK239
      clear BK245
      clear BK250
      clear BK251
      clear BK252
      clear HB
      have HO279 := n0_
      have HO286 := n1_
      have BK238 := n2_
      have BK239 := n3_
      have BK245 := n4_
      have BK250 := n5_
      have BK251 := n6_
      have BK252 := n7_
      have HB := n8_
      clear n0_ n1_ n2_ n3_ n4_ n5_ n6_ n7_ n8_
      (try clear hb)
      (try clear hb2)
      (try clear hk)
      (try clear hi)
      refine hK.out _ _ ⟨(blk_cell BK245.out 0).trans rfl, (blk_cell BK245.out 1).trans rfl, (blk_cell BK245.out 2).trans rfl, (blk_cell BK245.out 3).trans rfl, (blk_cell BK251.out 0).trans rfl, (blk_cell BK251.out 1).trans rfl, (blk_cell BK251.out 2).trans rfl, (blk_cell BK251.out 3).trans rfl, (blk_cell BK250.out 0).trans rfl, (blk_cell BK250.out 1).trans rfl, (blk_cell BK250.out 2).trans rfl, (blk_cell BK250.out 3).trans rfl, (blk_cell BK252.out 0).trans rfl, (blk_cell BK252.out 1).trans rfl, (blk_cell BK252.out 2).trans rfl, (blk_cell BK252.out 3).trans rfl⟩ (fun hHeld => ?_)
      clear hK K
      refine norm_ (a' := ?_) ?_ ?_
      rotate_left
      · show Act.put _ (some 122) _ = _
        simp only [Act.put, List.setIfInBounds_toArray, List.set_cons_zero, List.set_cons_succ, i64_w, i32_w]
        rfl
      refine pure_ (i := 57) (N := some 123) (v := ?_) (a' := ?_) #[true, true, true, true, true, true, true, true, true, true, true, true, true, true, true, true, true, true, true, true, true, true, true, true, true, true, true, true, true, true, true, true, true, true, true, true, true, true, true, true, true, true, true, true, true, true, true, true, true, true, true, true, true, true, true, true, true, true, false, false] rfl rfl (any_of HT_.out (by kernel_rfl)) (fun _ _ _ h => h) (Or.inl ⟨by rfl, ?_⟩) ?_ ?_
      rotate_left
      · intro w'
        go_simp
        with_reducible rfl
      rotate_left
      · simp only [Act.put, List.setIfInBounds_toArray, List.set_cons_zero, List.set_cons_succ, i64_w, i32_w]
        rfl
      refine pure_ (i := 58) (N := some 124) (v := ?_) (a' := ?_) #[true, true, true, true, true, true, true, true, true, true, true, true, true, true, true, true, true, true, true, true, true, true, true, true, true, true, true, true, true, true, true, true, true, true, true, true, true, true, true, true, true, true, true, true, true, true, true, true, true, true, true, true, true, true, true, true, true, true, true, false] rfl rfl (any_of HT_.out (by kernel_rfl)) (fun _ _ _ h => h) (Or.inl ⟨by rfl, ?_⟩) ?_ ?_
      rotate_left
      · intro w'
        go_simp
        with_reducible rfl
      rotate_left
      · simp only [Act.put, List.setIfInBounds_toArray, List.set_cons_zero, List.set_cons_succ, i64_w, i32_w]
        rfl
      refine pure_ (i := 59) (N := some 10) (v := ?_) (a' := ?_) #[true, true, true, true, true, true, true, true, true, true, true, true, true, true, true, true, true, true, true, true, true, true, true, true, true, true, true, true, true, true, true, true, true, true, true, true, true, true, true, true, true, true, true, true, true, true, true, true, true, true, true, true, true, true, true, true, true, true, true, true] rfl rfl (any_of HT_.out (by kernel_rfl)) (fun _ _ _ h => h) (Or.inl ⟨by rfl, ?_⟩) ?_ ?_
      rotate_left
      · intro w'
        go_simp
        with_reducible rfl
      rotate_left
      · simp only [Act.put, List.setIfInBounds_toArray, List.set_cons_zero, List.set_cons_succ, i64_w, i32_w]
        rfl
      refine done_ (done_of HT_.out (by kernel_rfl)) ?_
      try go_wp2
      go_ret
      exact ⟨by first | rfl | (simp [errW_none, errW_some] <;> rfl) | (simp [*, errW_none, errW_some] <;> rfl), by repeat (first | (with_reducible first | exact HB.out | apply below_alloc | apply Zw | apply Ze | refine Zs ?_ GE238.out | refine Zs ?_ GE239.out | refine Zs ?_ GE245.out | refine Zs ?_ GE250.out | refine Zs ?_ GE251.out | refine Zs ?_ GE252.out) | exact HB.out)⟩

end Go.Proofs.YtakhahfegialfaaDoor.Q
