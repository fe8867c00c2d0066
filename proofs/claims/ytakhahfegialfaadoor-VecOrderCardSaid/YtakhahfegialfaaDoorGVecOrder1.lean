import Derived.Test.YtakhahfegialfaaDoorQx0
import Derived.Test.YtakhahfegialfaaDoorGVecOrder0
import Derived.Test.YtakhahfegialfaaDoorWAMore
import Derived.Deep.Slices
import Derived.OpenShut
import Derived.SizedLaws
import Derived.ChangeArms
import Derived.WideShapes
import Derived.ChangeShapes
import Derived.KernelRfl
import Derived.Laws.BitsAllLaws
namespace Go.Proofs.YtakhahfegialfaaDoor.Q
open Go.RowKit Go.Proofs.YtakhahfegialfaaDoorW.PrintWords Go.Proofs.YtakhahfegialfaaDoorW.PrintLast Go.Proofs.YtakhahfegialfaaDoorW.PrintMore
attribute [local go_sem] max2_int min2_int max_two min_two max_three min_three max_four min_four   -- for this text's walks alone
set_option linter.unusedVariables false
set_option linter.unusedSimpArgs false
/-! ### vec_Get: function 33 -/
-- FOREIGN: an array filled place by place by a reader that is turned
def vec_Get.f (k : Nat) (a0_0 : ByteArray) (a0_1 : Bool) : Option (Int × Int × Int × Int × ByteArray × Bool) :=
  (pack_Reader_Vary.f k a0_0 a0_1).bind fun r0 => (pack_Reader_Vary.f k r0.2.1 r0.2.2).bind fun r1 => (pack_Reader_Vary.f k r1.2.1 r1.2.2).bind fun r2 => (pack_Reader_Vary.f k r2.2.1 r2.2.2).bind fun r3 =>
    if r3.2.2 = true then some (0, 0, 0, 0, (⟨#[]⟩ : ByteArray), true) else (vec_Right.f r0.1 r1.1 r2.1 r3.1).bind fun t => if t = true then some (r0.1, r1.1, r2.1, r3.1, r3.2.1, false) else some (0, 0, 0, 0, (⟨#[]⟩ : ByteArray), true)
theorem vec_Get.mono : ∀ a0 a1 k, LeO (vec_Get.f k a0 a1) (vec_Get.f (k + 1) a0 a1) := by
  intro a0 a1 k
  unfold vec_Get.f
  repeat' first
      | exact pack_Reader_Vary.mono _ _ _
      | exact LeO.refl _
      | exact LeO.none _
      | refine LeO.ite ?_ ?_
      | refine LeO.bind ?_ (fun _ => ?_)
theorem vec_Get.boxes3 (w : World) (xs ys zs : Array Value) (t1 t2 t3 : TypeId) (W : World) (h : ((w.alloc (.cells xs t1)).alloc (.cells ys t2)).alloc (.cells zs t3) = W) :
    W.heap[w.heap.size]? = some (.cells xs t1 (0,0)) ∧ W.heap[w.heap.size+1]? = some (.cells ys t2 (0,0)) ∧ W.heap[w.heap.size+1+1]? = some (.cells zs t3 (0,0)) ∧ Below w.heap.size w W := by
  subst h
  have s1 : (w.alloc (.cells xs t1)).heap.size = w.heap.size + 1 := by simp [World.alloc, -World.alloc_eq]
  have s2 : ((w.alloc (.cells xs t1)).alloc (.cells ys t2)).heap.size = w.heap.size + 1 + 1 := by simp [World.alloc, -World.alloc_eq]
  refine ⟨blk_alloc (blk_alloc (blk_new _ _) _) _, ?_, ?_, below_alloc (below_alloc (below_alloc (Below.refl _ _) _) _) _⟩
  · rw [← s1]; exact blk_alloc (blk_new _ _) _
  · rw [← s2]; exact blk_new _ _
set_option maxHeartbeats 8000000 in
set_option maxRecDepth 100000 in
theorem vec_Get.calls (k : Nat) (a0_0 : ByteArray) (a0_1 : Bool) (r1 r2 r3 r4 : Int) (r5 : ByteArray) (r6 : Bool) (w : World) (h : vec_Get.f k a0_0 a0_1 = some (r1, r2, r3, r4, r5, r6)) :
    Calls Tryd.prog 33 #[.agg #[.string a0_0, .bool a0_1]] w fun e w' => e = .returned (.tuple #[.agg #[.int .u64 r1, .int .u64 r2, .int .u64 r3, .int .u64 r4], .agg #[.string r5, .bool r6]]) ∧ Below w.heap.size w w' := by
  unfold vec_Get.f at h
  obtain ⟨⟨n0, s1, b1⟩, A0, h⟩ := Option.bind_eq_some_iff.1 h
  obtain ⟨⟨n1, s2, b2⟩, A1, h⟩ := Option.bind_eq_some_iff.1 h
  obtain ⟨⟨n2, s3, b3⟩, A2, h⟩ := Option.bind_eq_some_iff.1 h
  obtain ⟨⟨n3, s4, b4⟩, A3, h⟩ := Option.bind_eq_some_iff.1 h
  replace A0 := Aside0.mk A0
  replace A1 := Aside0.mk A1
  replace A2 := Aside0.mk A2
  replace A3 := Aside0.mk A3
  simp only at h
  have HH := Aside0.mk h
  clear h
  have hu := Tryd.underlying24
  have hu2 := Tryd.underlying22
  have hu3 := Tryd.underlying51
  go_enter Tryd.func33, Tryd.ntmps33
  go_wp2
  generalize hW : (((w.alloc (Obj.cells #[.string a0_0, .bool a0_1] 51)).alloc (Obj.cells _ 24)).alloc (Obj.cells _ 51)) = W0
  obtain ⟨hA, hB, hC, HB⟩ := vec_Get.boxes3 _ _ _ _ _ _ _ _ hW
  replace HB := Aside0.mk HB
  clear hW
  obtain ⟨B0, hB0⟩ : ∃ B0, B0 = w.heap.size := ⟨_, rfl⟩
  obtain ⟨B1, hB1⟩ : ∃ B1, B1 = w.heap.size + 1 := ⟨_, rfl⟩
  obtain ⟨B2, hB2⟩ : ∃ B2, B2 = w.heap.size + 1 + 1 := ⟨_, rfl⟩
  rw [← hB2, ← hB1, ← hB0]
  rw [← hB0] at hA
  rw [← hB1] at hB
  rw [← hB2] at hC
  have g01 : B0 ≠ B1 := by omega
  have g02 : B0 ≠ B2 := by omega
  have g12 : B1 ≠ B2 := by omega
  have GA := Aside0.mk (show w.heap.size ≤ B0 by omega)
  have GB := Aside0.mk (show w.heap.size ≤ B1 by omega)
  have GC := Aside0.mk (show w.heap.size ≤ B2 by omega)
  clear hB0 hB1 hB2
  replace hA := Aside0.mk hA
  replace hB := Aside0.mk hB
  replace hC := Aside0.mk hC
  refine wp_loop_rounds 5 ?_
  rw [rounds_succ]
  have ca0 := (blk_cell hA.out 0).trans rfl
  have ca1 := (blk_cell hA.out 1).trans rfl
  go_wp2_with (go_at_call 44; refine (pack_Reader_Vary.calls k a0_0 a0_1 n0 s1 b1 _ A0.out).mono ?_; rintro e w1 ⟨rfl, hb⟩; clear ca0 ca1; have hA1 := Aside0.mk (blk_below hA.out hb); have hB1 := Aside0.mk (blk_below hB.out hb); have hC1 := Aside0.mk (blk_below hC.out hb); have HB1 := Aside0.mk (below_step HB.out hb); clear hA hB hC HB; clear hb; have fa0 := blk_frozen hA1.out 0; have fa1 := blk_frozen hA1.out 1; have ca0 := (blk_cell hA1.out 0).trans rfl; have ca1 := (blk_cell hA1.out 1).trans rfl; have fb := blk_frozen hB1.out 0; have cb := (blk_cell hB1.out 0).trans rfl)
  clear ca0 ca1 cb fa0 fa1 fb
  have hA := Aside0.mk (blk_put (blk_put (blk_far hA1.out (p := ⟨B1, 0, none⟩) g01 (.int .u64 n0)) 0 (.string s1) rfl) 1 (.bool b1) (cs' := #[.string s1, .bool b1]) rfl)
  have hB := Aside0.mk (blk_far (blk_far (blk_put hB1.out 0 (.int .u64 n0) (cs' := #[.int .u64 n0, .int .u64 0, .int .u64 0, .int .u64 0]) rfl) (p := ⟨B0, 0, none⟩) (Ne.symm g01) (.string s1)) (p := ⟨B0, 1, none⟩) (Ne.symm g01) (.bool b1))
  have hC := Aside0.mk (blk_far (blk_far (blk_far hC1.out (p := ⟨B1, 0, none⟩) (Ne.symm g12) (.int .u64 n0)) (p := ⟨B0, 0, none⟩) (Ne.symm g02) (.string s1)) (p := ⟨B0, 1, none⟩) (Ne.symm g02) (.bool b1))
  have HB := Aside0.mk (below_set (j := 1) (v := .bool b1) (below_set (j := 0) (v := .string s1) (below_set (j := 0) (v := .int .u64 n0) HB1.out GB.out) GA.out) GA.out)
  clear hA1 hB1 hC1 HB1
  generalize ((w1.setCell ⟨B1, 0, none⟩ (.int .u64 n0)).setCell ⟨B0, 0, none⟩ (.string s1)).setCell ⟨B0, 1, none⟩ (.bool b1) = W1 at *
  clear w1 W0
  rw [rounds_succ]
  have ca0 := (blk_cell hA.out 0).trans rfl
  have ca1 := (blk_cell hA.out 1).trans rfl
  go_wp2_with (go_at_call 44; refine (pack_Reader_Vary.calls k s1 b1 n1 s2 b2 _ A1.out).mono ?_; rintro e w1 ⟨rfl, hb⟩; clear ca0 ca1; have hA1 := Aside0.mk (blk_below hA.out hb); have hB1 := Aside0.mk (blk_below hB.out hb); have hC1 := Aside0.mk (blk_below hC.out hb); have HB1 := Aside0.mk (below_step HB.out hb); clear hA hB hC HB; clear hb; have fa0 := blk_frozen hA1.out 0; have fa1 := blk_frozen hA1.out 1; have ca0 := (blk_cell hA1.out 0).trans rfl; have ca1 := (blk_cell hA1.out 1).trans rfl; have fb := blk_frozen hB1.out 1; have cb := (blk_cell hB1.out 1).trans rfl)
  clear ca0 ca1 cb fa0 fa1 fb
  have hA := Aside0.mk (blk_put (blk_put (blk_far hA1.out (p := ⟨B1, 1, none⟩) g01 (.int .u64 n1)) 0 (.string s2) rfl) 1 (.bool b2) (cs' := #[.string s2, .bool b2]) rfl)
  have hB := Aside0.mk (blk_far (blk_far (blk_put hB1.out 1 (.int .u64 n1) (cs' := #[.int .u64 n0, .int .u64 n1, .int .u64 0, .int .u64 0]) rfl) (p := ⟨B0, 0, none⟩) (Ne.symm g01) (.string s2)) (p := ⟨B0, 1, none⟩) (Ne.symm g01) (.bool b2))
  have hC := Aside0.mk (blk_far (blk_far (blk_far hC1.out (p := ⟨B1, 1, none⟩) (Ne.symm g12) (.int .u64 n1)) (p := ⟨B0, 0, none⟩) (Ne.symm g02) (.string s2)) (p := ⟨B0, 1, none⟩) (Ne.symm g02) (.bool b2))
  have HB := Aside0.mk (below_set (j := 1) (v := .bool b2) (below_set (j := 0) (v := .string s2) (below_set (j := 1) (v := .int .u64 n1) HB1.out GB.out) GA.out) GA.out)
  clear hA1 hB1 hC1 HB1
  generalize ((w1.setCell ⟨B1, 1, none⟩ (.int .u64 n1)).setCell ⟨B0, 0, none⟩ (.string s2)).setCell ⟨B0, 1, none⟩ (.bool b2) = W2 at *
  clear w1 W1
  rw [rounds_succ]
  have ca0 := (blk_cell hA.out 0).trans rfl
  have ca1 := (blk_cell hA.out 1).trans rfl
  go_wp2_with (go_at_call 44; refine (pack_Reader_Vary.calls k s2 b2 n2 s3 b3 _ A2.out).mono ?_; rintro e w1 ⟨rfl, hb⟩; clear ca0 ca1; have hA1 := Aside0.mk (blk_below hA.out hb); have hB1 := Aside0.mk (blk_below hB.out hb); have hC1 := Aside0.mk (blk_below hC.out hb); have HB1 := Aside0.mk (below_step HB.out hb); clear hA hB hC HB; clear hb; have fa0 := blk_frozen hA1.out 0; have fa1 := blk_frozen hA1.out 1; have ca0 := (blk_cell hA1.out 0).trans rfl; have ca1 := (blk_cell hA1.out 1).trans rfl; have fb := blk_frozen hB1.out 2; have cb := (blk_cell hB1.out 2).trans rfl)
  clear ca0 ca1 cb fa0 fa1 fb
  have hA := Aside0.mk (blk_put (blk_put (blk_far hA1.out (p := ⟨B1, 2, none⟩) g01 (.int .u64 n2)) 0 (.string s3) rfl) 1 (.bool b3) (cs' := #[.string s3, .bool b3]) rfl)
  have hB := Aside0.mk (blk_far (blk_far (blk_put hB1.out 2 (.int .u64 n2) (cs' := #[.int .u64 n0, .int .u64 n1, .int .u64 n2, .int .u64 0]) rfl) (p := ⟨B0, 0, none⟩) (Ne.symm g01) (.string s3)) (p := ⟨B0, 1, none⟩) (Ne.symm g01) (.bool b3))
  have hC := Aside0.mk (blk_far (blk_far (blk_far hC1.out (p := ⟨B1, 2, none⟩) (Ne.symm g12) (.int .u64 n2)) (p := ⟨B0, 0, none⟩) (Ne.symm g02) (.string s3)) (p := ⟨B0, 1, none⟩) (Ne.symm g02) (.bool b3))
  have HB := Aside0.mk (below_set (j := 1) (v := .bool b3) (below_set (j := 0) (v := .string s3) (below_set (j := 2) (v := .int .u64 n2) HB1.out GB.out) GA.out) GA.out)
  clear hA1 hB1 hC1 HB1
  generalize ((w1.setCell ⟨B1, 2, none⟩ (.int .u64 n2)).setCell ⟨B0, 0, none⟩ (.string s3)).setCell ⟨B0, 1, none⟩ (.bool b3) = W3 at *
  clear w1 W2
  rw [rounds_succ]
  have ca0 := (blk_cell hA.out 0).trans rfl
  have ca1 := (blk_cell hA.out 1).trans rfl
  go_wp2_with (go_at_call 44; refine (pack_Reader_Vary.calls k s3 b3 n3 s4 b4 _ A3.out).mono ?_; rintro e w1 ⟨rfl, hb⟩; clear ca0 ca1; have hA1 := Aside0.mk (blk_below hA.out hb); have hB1 := Aside0.mk (blk_below hB.out hb); have hC1 := Aside0.mk (blk_below hC.out hb); have HB1 := Aside0.mk (below_step HB.out hb); clear hA hB hC HB; clear hb; have fa0 := blk_frozen hA1.out 0; have fa1 := blk_frozen hA1.out 1; have ca0 := (blk_cell hA1.out 0).trans rfl; have ca1 := (blk_cell hA1.out 1).trans rfl; have fb := blk_frozen hB1.out 3; have cb := (blk_cell hB1.out 3).trans rfl)
  clear ca0 ca1 cb fa0 fa1 fb
  have hA := Aside0.mk (blk_put (blk_put (blk_far hA1.out (p := ⟨B1, 3, none⟩) g01 (.int .u64 n3)) 0 (.string s4) rfl) 1 (.bool b4) (cs' := #[.string s4, .bool b4]) rfl)
  have hB := Aside0.mk (blk_far (blk_far (blk_put hB1.out 3 (.int .u64 n3) (cs' := #[.int .u64 n0, .int .u64 n1, .int .u64 n2, .int .u64 n3]) rfl) (p := ⟨B0, 0, none⟩) (Ne.symm g01) (.string s4)) (p := ⟨B0, 1, none⟩) (Ne.symm g01) (.bool b4))
  have hC := Aside0.mk (blk_far (blk_far (blk_far hC1.out (p := ⟨B1, 3, none⟩) (Ne.symm g12) (.int .u64 n3)) (p := ⟨B0, 0, none⟩) (Ne.symm g02) (.string s4)) (p := ⟨B0, 1, none⟩) (Ne.symm g02) (.bool b4))
  have HB := Aside0.mk (below_set (j := 1) (v := .bool b4) (below_set (j := 0) (v := .string s4) (below_set (j := 3) (v := .int .u64 n3) HB1.out GB.out) GA.out) GA.out)
  clear hA1 hB1 hC1 HB1
  generalize ((w1.setCell ⟨B1, 3, none⟩ (.int .u64 n3)).setCell ⟨B0, 0, none⟩ (.string s4)).setCell ⟨B0, 1, none⟩ (.bool b4) = W4 at *
  clear w1 W3
  rw [rounds_succ]
  have fb0 := blk_frozen hB.out 0
  have fb1 := blk_frozen hB.out 1
  have fb2 := blk_frozen hB.out 2
  have fb3 := blk_frozen hB.out 3
  have cb0 := (blk_cell hB.out 0).trans rfl
  have cb1 := (blk_cell hB.out 1).trans rfl
  have cb2 := (blk_cell hB.out 2).trans rfl
  have cb3 := (blk_cell hB.out 3).trans rfl
  have fc0 := blk_frozen hC.out 0
  have fc1 := blk_frozen hC.out 1
  have cc0 := (blk_cell hC.out 0).trans rfl
  have cc1 := (blk_cell hC.out 1).trans rfl
  have ca0 := (blk_cell hA.out 0).trans rfl
  have ca1 := (blk_cell hA.out 1).trans rfl
  cases b4 with
  | true =>
    have h := HH.out
    rw [if_pos rfl] at h
    simp only [Option.some.injEq, Prod.mk.injEq] at h
    obtain ⟨rfl, rfl, rfl, rfl, rfl, rfl⟩ := h
    clear HH
    go_wp2
    clear fb0 fb1 fb2 fb3 cb0 cb1 cb2 cb3 fc0 fc1 cc0 cc1 ca0 ca1
    have hB1 := Aside0.mk (blk_far (blk_far (blk_put (blk_put (blk_put (blk_put hB.out 0 (.int .u64 0) rfl) 1 (.int .u64 0) rfl) 2 (.int .u64 0) rfl) 3 (.int .u64 0) (cs' := #[.int .u64 0, .int .u64 0, .int .u64 0, .int .u64 0]) rfl) (p := ⟨B2, 0, none⟩) g12 (.string (⟨#[]⟩ : ByteArray))) (p := ⟨B2, 1, none⟩) g12 (.bool true))
    have hC1 := Aside0.mk (blk_put (blk_put (blk_far (blk_far (blk_far (blk_far hC.out (p := ⟨B1, 0, none⟩) (Ne.symm g12) (.int .u64 0)) (p := ⟨B1, 1, none⟩) (Ne.symm g12) (.int .u64 0)) (p := ⟨B1, 2, none⟩) (Ne.symm g12) (.int .u64 0)) (p := ⟨B1, 3, none⟩) (Ne.symm g12) (.int .u64 0)) 0 (.string (⟨#[]⟩ : ByteArray)) rfl) 1 (.bool true) (cs' := #[.string (⟨#[]⟩ : ByteArray), .bool true]) rfl)
    have HB1 := Aside0.mk (below_set (j := 1) (v := .bool true) (below_set (j := 0) (v := .string (⟨#[]⟩ : ByteArray)) (below_set (j := 3) (v := .int .u64 0) (below_set (j := 2) (v := .int .u64 0) (below_set (j := 1) (v := .int .u64 0) (below_set (j := 0) (v := .int .u64 0) HB.out GB.out) GB.out) GB.out) GB.out) GC.out) GC.out)
    clear hA hB hC HB
    generalize ((((((W4.setCell ⟨B1, 0, none⟩ (.int .u64 0)).setCell ⟨B1, 1, none⟩ (.int .u64 0)).setCell ⟨B1, 2, none⟩ (.int .u64 0)).setCell ⟨B1, 3, none⟩ (.int .u64 0)).setCell ⟨B2, 0, none⟩ (.string (⟨#[]⟩ : ByteArray))).setCell ⟨B2, 1, none⟩ (.bool true)) = W9 at *
    have d0 := (blk_cell hB1.out 0).trans rfl
    have d1 := (blk_cell hB1.out 1).trans rfl
    have d2 := (blk_cell hB1.out 2).trans rfl
    have d3 := (blk_cell hB1.out 3).trans rfl
    have d4 := (blk_cell hC1.out 0).trans rfl
    have d5 := (blk_cell hC1.out 1).trans rfl
    refine bodyPost_ret (v := .tuple #[.agg #[.int .u64 0, .int .u64 0, .int .u64 0, .int .u64 0], .agg #[.string (⟨#[]⟩ : ByteArray), .bool true]]) (by simp [results, Tryd.results33, go_sem, hu, hu2, hu3, d0, d1, d2, d3, d4, d5]) rfl ⟨rfl, HB1.out⟩
  | false =>
    have h := HH.out
    rw [if_neg (by simp)] at h
    obtain ⟨t, A4, h⟩ := Option.bind_eq_some_iff.1 h
    replace A4 := Aside0.mk A4
    clear HH
    cases t with
    | false =>
      rw [if_neg (by simp)] at h
      simp only [Option.some.injEq, Prod.mk.injEq] at h
      obtain ⟨rfl, rfl, rfl, rfl, rfl, rfl⟩ := h
      go_wp2_with (go_at_call 20; refine (vec_Right.calls n0 n1 n2 n3 false _ A4.out).mono ?_; rintro e w1 ⟨rfl, hb⟩; clear fb0 fb1 fb2 fb3 cb0 cb1 cb2 cb3 fc0 fc1 cc0 cc1 ca0 ca1; have hA1 := Aside0.mk (blk_below hA.out hb); have hB1 := Aside0.mk (blk_below hB.out hb); have hC1 := Aside0.mk (blk_below hC.out hb); have HB1 := Aside0.mk (below_step HB.out hb); clear hA hB hC HB; clear hb; have hA := hA1; have hB := hB1; have hC := hC1; have HB := HB1; clear hA1 hB1 hC1 HB1; have fb0 := blk_frozen hB.out 0; have fb1 := blk_frozen hB.out 1; have fb2 := blk_frozen hB.out 2; have fb3 := blk_frozen hB.out 3; have cb0 := (blk_cell hB.out 0).trans rfl; have cb1 := (blk_cell hB.out 1).trans rfl; have cb2 := (blk_cell hB.out 2).trans rfl; have cb3 := (blk_cell hB.out 3).trans rfl; have fc0 := blk_frozen hC.out 0; have fc1 := blk_frozen hC.out 1; have cc0 := (blk_cell hC.out 0).trans rfl; have cc1 := (blk_cell hC.out 1).trans rfl; have ca0 := (blk_cell hA.out 0).trans rfl; have ca1 := (blk_cell hA.out 1).trans rfl)
      clear fb0 fb1 fb2 fb3 cb0 cb1 cb2 cb3 fc0 fc1 cc0 cc1 ca0 ca1
      have hB1 := Aside0.mk (blk_far (blk_far (blk_put (blk_put (blk_put (blk_put hB.out 0 (.int .u64 0) rfl) 1 (.int .u64 0) rfl) 2 (.int .u64 0) rfl) 3 (.int .u64 0) (cs' := #[.int .u64 0, .int .u64 0, .int .u64 0, .int .u64 0]) rfl) (p := ⟨B2, 0, none⟩) g12 (.string (⟨#[]⟩ : ByteArray))) (p := ⟨B2, 1, none⟩) g12 (.bool true))
      have hC1 := Aside0.mk (blk_put (blk_put (blk_far (blk_far (blk_far (blk_far hC.out (p := ⟨B1, 0, none⟩) (Ne.symm g12) (.int .u64 0)) (p := ⟨B1, 1, none⟩) (Ne.symm g12) (.int .u64 0)) (p := ⟨B1, 2, none⟩) (Ne.symm g12) (.int .u64 0)) (p := ⟨B1, 3, none⟩) (Ne.symm g12) (.int .u64 0)) 0 (.string (⟨#[]⟩ : ByteArray)) rfl) 1 (.bool true) (cs' := #[.string (⟨#[]⟩ : ByteArray), .bool true]) rfl)
      have HB1 := Aside0.mk (below_set (j := 1) (v := .bool true) (below_set (j := 0) (v := .string (⟨#[]⟩ : ByteArray)) (below_set (j := 3) (v := .int .u64 0) (below_set (j := 2) (v := .int .u64 0) (below_set (j := 1) (v := .int .u64 0) (below_set (j := 0) (v := .int .u64 0) HB.out GB.out) GB.out) GB.out) GB.out) GC.out) GC.out)
      clear hA hB hC HB
      generalize ((((((w1.setCell ⟨B1, 0, none⟩ (.int .u64 0)).setCell ⟨B1, 1, none⟩ (.int .u64 0)).setCell ⟨B1, 2, none⟩ (.int .u64 0)).setCell ⟨B1, 3, none⟩ (.int .u64 0)).setCell ⟨B2, 0, none⟩ (.string (⟨#[]⟩ : ByteArray))).setCell ⟨B2, 1, none⟩ (.bool true)) = W9 at *
      have d0 := (blk_cell hB1.out 0).trans rfl
      have d1 := (blk_cell hB1.out 1).trans rfl
      have d2 := (blk_cell hB1.out 2).trans rfl
      have d3 := (blk_cell hB1.out 3).trans rfl
      have d4 := (blk_cell hC1.out 0).trans rfl
      have d5 := (blk_cell hC1.out 1).trans rfl
      refine bodyPost_ret (v := .tuple #[.agg #[.int .u64 0, .int .u64 0, .int .u64 0, .int .u64 0], .agg #[.string (⟨#[]⟩ : ByteArray), .bool true]]) (by simp [results, Tryd.results33, go_sem, hu, hu2, hu3, d0, d1, d2, d3, d4, d5]) rfl ⟨rfl, HB1.out⟩
    | true =>
      rw [if_pos rfl] at h
      simp only [Option.some.injEq, Prod.mk.injEq] at h
      obtain ⟨rfl, rfl, rfl, rfl, rfl, rfl⟩ := h
      go_wp2_with (go_at_call 20; refine (vec_Right.calls n0 n1 n2 n3 true _ A4.out).mono ?_; rintro e w1 ⟨rfl, hb⟩; clear fb0 fb1 fb2 fb3 cb0 cb1 cb2 cb3 fc0 fc1 cc0 cc1 ca0 ca1; have hA1 := Aside0.mk (blk_below hA.out hb); have hB1 := Aside0.mk (blk_below hB.out hb); have hC1 := Aside0.mk (blk_below hC.out hb); have HB1 := Aside0.mk (below_step HB.out hb); clear hA hB hC HB; clear hb; have hA := hA1; have hB := hB1; have hC := hC1; have HB := HB1; clear hA1 hB1 hC1 HB1; have fb0 := blk_frozen hB.out 0; have fb1 := blk_frozen hB.out 1; have fb2 := blk_frozen hB.out 2; have fb3 := blk_frozen hB.out 3; have cb0 := (blk_cell hB.out 0).trans rfl; have cb1 := (blk_cell hB.out 1).trans rfl; have cb2 := (blk_cell hB.out 2).trans rfl; have cb3 := (blk_cell hB.out 3).trans rfl; have fc0 := blk_frozen hC.out 0; have fc1 := blk_frozen hC.out 1; have cc0 := (blk_cell hC.out 0).trans rfl; have cc1 := (blk_cell hC.out 1).trans rfl; have ca0 := (blk_cell hA.out 0).trans rfl; have ca1 := (blk_cell hA.out 1).trans rfl)
      go_region
      go_wp2
      clear fb0 fb1 fb2 fb3 cb0 cb1 cb2 cb3 fc0 fc1 cc0 cc1 ca0 ca1
      have hB1 := Aside0.mk (blk_drew (blk_far (blk_far (blk_put (blk_put (blk_put (blk_put hB.out 0 (.int .u64 n0) rfl) 1 (.int .u64 n1) rfl) 2 (.int .u64 n2) rfl) 3 (.int .u64 n3) (cs' := #[.int .u64 n0, .int .u64 n1, .int .u64 n2, .int .u64 n3]) rfl) (p := ⟨B2, 0, none⟩) g12 (.string s4)) (p := ⟨B2, 1, none⟩) g12 (.bool false)))
      have hC1 := Aside0.mk (blk_drew (blk_put (blk_put (blk_far (blk_far (blk_far (blk_far hC.out (p := ⟨B1, 0, none⟩) (Ne.symm g12) (.int .u64 n0)) (p := ⟨B1, 1, none⟩) (Ne.symm g12) (.int .u64 n1)) (p := ⟨B1, 2, none⟩) (Ne.symm g12) (.int .u64 n2)) (p := ⟨B1, 3, none⟩) (Ne.symm g12) (.int .u64 n3)) 0 (.string s4) rfl) 1 (.bool false) (cs' := #[.string s4, .bool false]) rfl))
      have HB1 := Aside0.mk (below_drew1 (below_set (j := 1) (v := .bool false) (below_set (j := 0) (v := .string s4) (below_set (j := 3) (v := .int .u64 n3) (below_set (j := 2) (v := .int .u64 n2) (below_set (j := 1) (v := .int .u64 n1) (below_set (j := 0) (v := .int .u64 n0) HB.out GB.out) GB.out) GB.out) GB.out) GC.out) GC.out))
      clear hA hB hC HB
      generalize ((((((w1.setCell ⟨B1, 0, none⟩ (.int .u64 n0)).setCell ⟨B1, 1, none⟩ (.int .u64 n1)).setCell ⟨B1, 2, none⟩ (.int .u64 n2)).setCell ⟨B1, 3, none⟩ (.int .u64 n3)).setCell ⟨B2, 0, none⟩ (.string s4)).setCell ⟨B2, 1, none⟩ (.bool false)).drew = W9 at *
      have d0 := (blk_cell hB1.out 0).trans rfl
      have d1 := (blk_cell hB1.out 1).trans rfl
      have d2 := (blk_cell hB1.out 2).trans rfl
      have d3 := (blk_cell hB1.out 3).trans rfl
      have d4 := (blk_cell hC1.out 0).trans rfl
      have d5 := (blk_cell hC1.out 1).trans rfl
      refine bodyPost_ret (v := .tuple #[.agg #[.int .u64 n0, .int .u64 n1, .int .u64 n2, .int .u64 n3], .agg #[.string s4, .bool false]]) (by simp [results, Tryd.results33, go_sem, hu, hu2, hu3, d0, d1, d2, d3, d4, d5]) rfl ⟨rfl, HB1.out⟩
attribute [local go_sem] ixA24_0 ixA24_1 ixA24_2 ixA24_3   -- for this text's walks alone
attribute [local go_sem high] eqA24
/-! ### tenementlaw06_examples: function 10 -/
def tenementlaw06_examples.f (k : Nat)  : Option (Bool) := (vec_Put.f k 2 1 0 7).bind fun t160 => (if t160.size + 1 ≤ 9223372036854775807 then ((vec_Get.f k (t160 ++ (⟨#[120]⟩ : ByteArray)) false).bind fun bt161 => ((vec_Join.f 1 2 0 0 2 1 0 7).bind fun bt169 => (if (bt169.1 == 2 && (bt169.2.1 == 2 && (bt169.2.2.1 == 0 && (bt169.2.2.2 == 7)))) = true then ((vec_Meet.f 1 2 0 0 2 1 0 7).bind fun bt173 => (if (bt173.1 == 1 && (bt173.2.1 == 1 && (bt173.2.2.1 == 0 && (bt173.2.2.2 == 0)))) = true then ((vec_Leq.f 1 2 0 0 2 1 0 7).bind fun t177 => (if t177 = true then (none) else ((vec_Join.f 1 2 0 0 2 1 0 7).bind fun bt178 => ((vec_Leq.f 1 2 0 0 bt178.1 bt178.2.1 bt178.2.2.1 bt178.2.2.2).bind fun t182 => (if t182 = true then ((vec_At.f 2 1 0 7 4).bind fun t183 => (if t183 = 7 then ((vec_At.f 2 1 0 7 5).bind fun t184 => (if t184 = 0 then ((vec_With.f 1 2 0 0 2 9).bind fun bt185 => (if bt185.2.1 = 9 then ((vec_Sum.f 2 1 0 7).bind fun t189 => (if t189 = 10 then (if (bt161.1 == 2 && (bt161.2.1 == 1 && (bt161.2.2.1 == 0 && (bt161.2.2.2.1 == 7)))) = true then (if bt161.2.2.2.2.1.toList = ([120] : List UInt8) then ((vec_Text.f 1 2 0 0).bind fun t190 => (if t190.toList = ([49, 44, 50, 44, 48, 44, 48] : List UInt8) then ((vec_All.f k ([] : List (S24))).bind fun bt191 => (if (bt191.1 == 0 && (bt191.2.1 == 0 && (bt191.2.2.1 == 0 && (bt191.2.2.2 == 0)))) = true then ((vec_Right.f 1 2 0 0).bind fun t195 => (if t195 = true then (some true) else (none))) else (none))) else (none))) else (none)) else (none)) else (none))) else (none))) else (none))) else (none))) else (none)))))) else (none))) else (none)))) else (none))
theorem tenementlaw06_examples.mono : ∀ k, LeO (tenementlaw06_examples.f k ) (tenementlaw06_examples.f (k + 1) ) := by
  intro  k
  unfold tenementlaw06_examples.f
  repeat' first
      | (with_reducible exact vec_All.mono _ _)
      | (with_reducible exact vec_Get.mono _ _ _)
      | (with_reducible exact vec_Put.mono _ _ _ _ _)
      | (with_reducible exact LeO.refl _)
      | (with_reducible exact LeO.none _)
      | (with_reducible refine LeO.ite ?_ ?_)
      | (with_reducible refine LeO.bind ?_ (fun _ => ?_))
      | exact vec_All.mono _ _
      | exact vec_Get.mono _ _ _
      | exact vec_Put.mono _ _ _ _ _
      | exact LeO.none _
      | refine LeO.ite ?_ ?_
      | refine LeO.bind ?_ (fun _ => ?_)
def tenementlaw06_examples.T5 : Bool × List (List Nat × List Nat) := (true, [([], []), ([], []), ([0, 1], [0, 1]), ([], []), ([2, 3], [2, 3]), ([4, 2], [4]), ([5], [5]), ([5], [5]), ([6, 7, 5, 5], [5, 6, 7]), ([5], [5]), ([8, 9, 5], [5, 8, 9]), ([5, 10], [5, 10]), ([11, 8], [11]), ([12], [12]), ([12], [12]), ([13, 14, 12, 12], [12, 13, 14]), ([15, 12], [12, 15]), ([12, 16], [12, 16]), ([17, 15], [17]), ([18], [18]), ([18], [18]), ([18], [18]), ([20, 21, 18, 18], [18, 20, 21]), ([19, 22, 22, 18], [18, 19, 22]), ([18, 23], [18, 23]), ([24, 23], [24]), ([25], [25]), ([26, 25, 25], [25, 26]), ([27, 25], [25, 27]), ([25, 28], [25, 28]), ([29, 27], [29]), ([30], [30]), ([31, 30, 30], [30, 31]), ([32, 30], [30, 32]), ([30, 33], [30, 33]), ([34, 32], [34]), ([35], [35]), ([36, 35, 35], [35, 36]), ([37, 35], [35, 37]), ([38, 35], [35, 38]), ([35, 39], [35, 39]), ([40, 37], [40]), ([41], [41]), ([42, 41, 41], [41, 42]), ([43, 41], [41, 43]), ([41, 44], [41, 44]), ([45, 43], [45]), ([46], [46]), ([46], [46]), ([47, 48, 46], [46, 47, 48]), ([46, 49], [46, 49]), ([50, 46], [50]), ([51], [51]), ([52, 51], [51, 52]), ([53, 51], [51, 53]), ([51, 54], [51, 54]), ([55, 51], [55]), ([56], [56]), ([57, 56, 56], [56, 57]), ([58, 56], [56, 58]), ([56, 59], [56, 59]), ([60, 58], [60]), ([61, 61], [61]), ([61], [61]), ([62, 63, 61], [61, 62, 63]), ([61, 64], [61, 64]), ([65, 62], [65]), ([66], [66]), ([67, 66, 66], [66, 67]), ([66, 68], [66, 68]), ([69, 68, 0, 1, 2, 3, 4, 5, 6, 7, 8, 9, 10, 11, 12, 13, 14, 15, 16, 17, 18, 19, 20, 21, 22, 23, 24, 25, 26, 27, 28, 29, 30, 31, 32, 33, 34, 35, 36, 37, 38, 39, 40, 41, 42, 43, 44, 45, 46, 47, 48, 49, 50, 51, 52, 53, 54, 55, 56, 57, 58, 59, 60, 61, 62, 63, 64, 65, 66, 67, 68, 69], [69])])
def tenementlaw06_examples.B5 : List Nat := [0, 0, 3, 0, 15, 31, 63, 63, 255, 63, 1023, 2047, 4095, 8191, 8191, 32767, 65535, 131071, 262143, 524287, 524287, 524287, 3670015, 8388607, 16777215, 33554431, 67108863, 134217727, 268435455, 536870911, 1073741823, 2147483647, 4294967295, 8589934591, 17179869183, 34359738367, 68719476735, 137438953471, 274877906943, 549755813887, 1099511627775, 2199023255551, 4398046511103, 8796093022207, 17592186044415, 35184372088831, 70368744177663, 140737488355327, 140737488355327, 562949953421311, 1125899906842623, 2251799813685247, 4503599627370495, 9007199254740991, 18014398509481983, 36028797018963967, 72057594037927935, 144115188075855871, 288230376151711743, 576460752303423487, 1152921504606846975, 2305843009213693951, 4611686018427387903, 4611686018427387903, 18446744073709551615, 36893488147419103231, 73786976294838206463, 147573952589676412927, 295147905179352825855, 590295810358705651711, 1180591620717411303423]
theorem tenementlaw06_examples.tab5 : rtab .any (opsOf Tryd.f10 5) = tenementlaw06_examples.T5 := by kernel_rfl
theorem tenementlaw06_examples.bits5 : waitsOk tenementlaw06_examples.T5.2 tenementlaw06_examples.B5 = true := by kernel_rfl
set_option maxHeartbeats 8000000 in
set_option maxRecDepth 100000 in
theorem tenementlaw06_examples.calls (k : Nat)  (r : Bool) (w : World) (h : tenementlaw06_examples.f k  = some r) :
    Calls Tryd.prog 10 #[] w fun e w' => e = .returned (.bool r) ∧ Below w.heap.size w w' := by
  have hu24 := Tryd.underlying24
  have hu51 := Tryd.underlying51
  have HB := Aside0.mk (Below.refl w.heap.size w)
  have H : ((vec_Put.f k 2 1 0 7).bind fun t160 => (if t160.size + 1 ≤ 9223372036854775807 then ((vec_Get.f k (t160 ++ (⟨#[120]⟩ : ByteArray)) false).bind fun bt161 => ((vec_Join.f 1 2 0 0 2 1 0 7).bind fun bt169 => (if (bt169.1 == 2 && (bt169.2.1 == 2 && (bt169.2.2.1 == 0 && (bt169.2.2.2 == 7)))) = true then ((vec_Meet.f 1 2 0 0 2 1 0 7).bind fun bt173 => (if (bt173.1 == 1 && (bt173.2.1 == 1 && (bt173.2.2.1 == 0 && (bt173.2.2.2 == 0)))) = true then ((vec_Leq.f 1 2 0 0 2 1 0 7).bind fun t177 => (if t177 = true then (none) else ((vec_Join.f 1 2 0 0 2 1 0 7).bind fun bt178 => ((vec_Leq.f 1 2 0 0 bt178.1 bt178.2.1 bt178.2.2.1 bt178.2.2.2).bind fun t182 => (if t182 = true then ((vec_At.f 2 1 0 7 4).bind fun t183 => (if t183 = 7 then ((vec_At.f 2 1 0 7 5).bind fun t184 => (if t184 = 0 then ((vec_With.f 1 2 0 0 2 9).bind fun bt185 => (if bt185.2.1 = 9 then ((vec_Sum.f 2 1 0 7).bind fun t189 => (if t189 = 10 then (if (bt161.1 == 2 && (bt161.2.1 == 1 && (bt161.2.2.1 == 0 && (bt161.2.2.2.1 == 7)))) = true then (if bt161.2.2.2.2.1.toList = ([120] : List UInt8) then ((vec_Text.f 1 2 0 0).bind fun t190 => (if t190.toList = ([49, 44, 50, 44, 48, 44, 48] : List UInt8) then ((vec_All.f k ([] : List (S24))).bind fun bt191 => (if (bt191.1 == 0 && (bt191.2.1 == 0 && (bt191.2.2.1 == 0 && (bt191.2.2.2 == 0)))) = true then ((vec_Right.f 1 2 0 0).bind fun t195 => (if t195 = true then (some true) else (none))) else (none))) else (none))) else (none)) else (none)) else (none))) else (none))) else (none))) else (none))) else (none)))))) else (none))) else (none)))) else (none))) = some r := h
  clear h
  replace H := Option.bind_eq_some_iff.mp H
  obtain ⟨t160, A10, H⟩ := H
  replace H : (if t160.size + 1 ≤ 9223372036854775807 then ((vec_Get.f k (t160 ++ (⟨#[120]⟩ : ByteArray)) false).bind fun bt161 => ((vec_Join.f 1 2 0 0 2 1 0 7).bind fun bt169 => (if (bt169.1 == 2 && (bt169.2.1 == 2 && (bt169.2.2.1 == 0 && (bt169.2.2.2 == 7)))) = true then ((vec_Meet.f 1 2 0 0 2 1 0 7).bind fun bt173 => (if (bt173.1 == 1 && (bt173.2.1 == 1 && (bt173.2.2.1 == 0 && (bt173.2.2.2 == 0)))) = true then ((vec_Leq.f 1 2 0 0 2 1 0 7).bind fun t177 => (if t177 = true then (none) else ((vec_Join.f 1 2 0 0 2 1 0 7).bind fun bt178 => ((vec_Leq.f 1 2 0 0 bt178.1 bt178.2.1 bt178.2.2.1 bt178.2.2.2).bind fun t182 => (if t182 = true then ((vec_At.f 2 1 0 7 4).bind fun t183 => (if t183 = 7 then ((vec_At.f 2 1 0 7 5).bind fun t184 => (if t184 = 0 then ((vec_With.f 1 2 0 0 2 9).bind fun bt185 => (if bt185.2.1 = 9 then ((vec_Sum.f 2 1 0 7).bind fun t189 => (if t189 = 10 then (if (bt161.1 == 2 && (bt161.2.1 == 1 && (bt161.2.2.1 == 0 && (bt161.2.2.2.1 == 7)))) = true then (if bt161.2.2.2.2.1.toList = ([120] : List UInt8) then ((vec_Text.f 1 2 0 0).bind fun t190 => (if t190.toList = ([49, 44, 50, 44, 48, 44, 48] : List UInt8) then ((vec_All.f k ([] : List (S24))).bind fun bt191 => (if (bt191.1 == 0 && (bt191.2.1 == 0 && (bt191.2.2.1 == 0 && (bt191.2.2.2 == 0)))) = true then ((vec_Right.f 1 2 0 0).bind fun t195 => (if t195 = true then (some true) else (none))) else (none))) else (none))) else (none)) else (none)) else (none))) else (none))) else (none))) else (none))) else (none)))))) else (none))) else (none)))) else (none)) = some r := H
  have A1 := Aside0.mk A10
  clear A10
  by_cases c2 : t160.size + 1 ≤ 9223372036854775807
  rotate_left
  · rw [if_neg c2] at H
    exact absurd H (by simp)
  rw [if_pos c2] at H
  have c2b0 := eq_true c2
  have c2b1 : decide (t160.size + 1 ≤ 9223372036854775807) = true := decide_eq_true c2
  try have c2b2 : (9223372036854775807 < t160.size + 1) = False := eq_false (Nat.not_lt.2 c2)
  replace H := Option.bind_eq_some_iff.mp H
  obtain ⟨⟨t161, t162, t163, t164, t165, t166⟩, A30, H⟩ := H
  replace H : ((vec_Join.f 1 2 0 0 2 1 0 7).bind fun bt169 => (if (bt169.1 == 2 && (bt169.2.1 == 2 && (bt169.2.2.1 == 0 && (bt169.2.2.2 == 7)))) = true then ((vec_Meet.f 1 2 0 0 2 1 0 7).bind fun bt173 => (if (bt173.1 == 1 && (bt173.2.1 == 1 && (bt173.2.2.1 == 0 && (bt173.2.2.2 == 0)))) = true then ((vec_Leq.f 1 2 0 0 2 1 0 7).bind fun t177 => (if t177 = true then (none) else ((vec_Join.f 1 2 0 0 2 1 0 7).bind fun bt178 => ((vec_Leq.f 1 2 0 0 bt178.1 bt178.2.1 bt178.2.2.1 bt178.2.2.2).bind fun t182 => (if t182 = true then ((vec_At.f 2 1 0 7 4).bind fun t183 => (if t183 = 7 then ((vec_At.f 2 1 0 7 5).bind fun t184 => (if t184 = 0 then ((vec_With.f 1 2 0 0 2 9).bind fun bt185 => (if bt185.2.1 = 9 then ((vec_Sum.f 2 1 0 7).bind fun t189 => (if t189 = 10 then (if (t161 == 2 && (t162 == 1 && (t163 == 0 && (t164 == 7)))) = true then (if t165.toList = ([120] : List UInt8) then ((vec_Text.f 1 2 0 0).bind fun t190 => (if t190.toList = ([49, 44, 50, 44, 48, 44, 48] : List UInt8) then ((vec_All.f k ([] : List (S24))).bind fun bt191 => (if (bt191.1 == 0 && (bt191.2.1 == 0 && (bt191.2.2.1 == 0 && (bt191.2.2.2 == 0)))) = true then ((vec_Right.f 1 2 0 0).bind fun t195 => (if t195 = true then (some true) else (none))) else (none))) else (none))) else (none)) else (none)) else (none))) else (none))) else (none))) else (none))) else (none)))))) else (none))) else (none))) = some r := H
  have A3 := Aside0.mk A30
  clear A30
  replace H := Option.bind_eq_some_iff.mp H
  obtain ⟨⟨t169, t170, t171, t172⟩, A40, H⟩ := H
  replace H : (if (t169 == 2 && (t170 == 2 && (t171 == 0 && (t172 == 7)))) = true then ((vec_Meet.f 1 2 0 0 2 1 0 7).bind fun bt173 => (if (bt173.1 == 1 && (bt173.2.1 == 1 && (bt173.2.2.1 == 0 && (bt173.2.2.2 == 0)))) = true then ((vec_Leq.f 1 2 0 0 2 1 0 7).bind fun t177 => (if t177 = true then (none) else ((vec_Join.f 1 2 0 0 2 1 0 7).bind fun bt178 => ((vec_Leq.f 1 2 0 0 bt178.1 bt178.2.1 bt178.2.2.1 bt178.2.2.2).bind fun t182 => (if t182 = true then ((vec_At.f 2 1 0 7 4).bind fun t183 => (if t183 = 7 then ((vec_At.f 2 1 0 7 5).bind fun t184 => (if t184 = 0 then ((vec_With.f 1 2 0 0 2 9).bind fun bt185 => (if bt185.2.1 = 9 then ((vec_Sum.f 2 1 0 7).bind fun t189 => (if t189 = 10 then (if (t161 == 2 && (t162 == 1 && (t163 == 0 && (t164 == 7)))) = true then (if t165.toList = ([120] : List UInt8) then ((vec_Text.f 1 2 0 0).bind fun t190 => (if t190.toList = ([49, 44, 50, 44, 48, 44, 48] : List UInt8) then ((vec_All.f k ([] : List (S24))).bind fun bt191 => (if (bt191.1 == 0 && (bt191.2.1 == 0 && (bt191.2.2.1 == 0 && (bt191.2.2.2 == 0)))) = true then ((vec_Right.f 1 2 0 0).bind fun t195 => (if t195 = true then (some true) else (none))) else (none))) else (none))) else (none)) else (none)) else (none))) else (none))) else (none))) else (none))) else (none)))))) else (none))) else (none)) = some r := H
  have A4 := Aside0.mk A40
  clear A40
  by_cases c5 : (t169 == 2 && (t170 == 2 && (t171 == 0 && (t172 == 7)))) = true
  rotate_left
  · rw [if_neg c5] at H
    exact absurd H (by simp)
  rw [if_pos c5] at H
  have c5b0 : (t169 == 2 && (t170 == 2 && (t171 == 0 && (t172 == 7)))) = true := c5
  (try (have c5b1 : decide (t169 = 2 && (t170 == 2 && (t171 == 0 && (t172 == 7)))) = true := by simpa using c5))
  (try (have c5b2 : (t169 == 2 && (t170 == 2 && (t171 == 0 && (t172 == 7)))) = true := by simpa using c5))
  clear c5
  replace H := Option.bind_eq_some_iff.mp H
  obtain ⟨⟨t173, t174, t175, t176⟩, A60, H⟩ := H
  replace H : (if (t173 == 1 && (t174 == 1 && (t175 == 0 && (t176 == 0)))) = true then ((vec_Leq.f 1 2 0 0 2 1 0 7).bind fun t177 => (if t177 = true then (none) else ((vec_Join.f 1 2 0 0 2 1 0 7).bind fun bt178 => ((vec_Leq.f 1 2 0 0 bt178.1 bt178.2.1 bt178.2.2.1 bt178.2.2.2).bind fun t182 => (if t182 = true then ((vec_At.f 2 1 0 7 4).bind fun t183 => (if t183 = 7 then ((vec_At.f 2 1 0 7 5).bind fun t184 => (if t184 = 0 then ((vec_With.f 1 2 0 0 2 9).bind fun bt185 => (if bt185.2.1 = 9 then ((vec_Sum.f 2 1 0 7).bind fun t189 => (if t189 = 10 then (if (t161 == 2 && (t162 == 1 && (t163 == 0 && (t164 == 7)))) = true then (if t165.toList = ([120] : List UInt8) then ((vec_Text.f 1 2 0 0).bind fun t190 => (if t190.toList = ([49, 44, 50, 44, 48, 44, 48] : List UInt8) then ((vec_All.f k ([] : List (S24))).bind fun bt191 => (if (bt191.1 == 0 && (bt191.2.1 == 0 && (bt191.2.2.1 == 0 && (bt191.2.2.2 == 0)))) = true then ((vec_Right.f 1 2 0 0).bind fun t195 => (if t195 = true then (some true) else (none))) else (none))) else (none))) else (none)) else (none)) else (none))) else (none))) else (none))) else (none))) else (none)))))) else (none)) = some r := H
  have A6 := Aside0.mk A60
  clear A60
  by_cases c7 : (t173 == 1 && (t174 == 1 && (t175 == 0 && (t176 == 0)))) = true
  rotate_left
  · rw [if_neg c7] at H
    exact absurd H (by simp)
  rw [if_pos c7] at H
  have c7b0 : (t173 == 1 && (t174 == 1 && (t175 == 0 && (t176 == 0)))) = true := c7
  (try (have c7b1 : decide (t173 = 1 && (t174 == 1 && (t175 == 0 && (t176 == 0)))) = true := by simpa using c7))
  (try (have c7b2 : (t173 == 1 && (t174 == 1 && (t175 == 0 && (t176 == 0)))) = true := by simpa using c7))
  clear c7
  replace H := Option.bind_eq_some_iff.mp H
  obtain ⟨t177, A80, H⟩ := H
  replace H : (if t177 = true then (none) else ((vec_Join.f 1 2 0 0 2 1 0 7).bind fun bt178 => ((vec_Leq.f 1 2 0 0 bt178.1 bt178.2.1 bt178.2.2.1 bt178.2.2.2).bind fun t182 => (if t182 = true then ((vec_At.f 2 1 0 7 4).bind fun t183 => (if t183 = 7 then ((vec_At.f 2 1 0 7 5).bind fun t184 => (if t184 = 0 then ((vec_With.f 1 2 0 0 2 9).bind fun bt185 => (if bt185.2.1 = 9 then ((vec_Sum.f 2 1 0 7).bind fun t189 => (if t189 = 10 then (if (t161 == 2 && (t162 == 1 && (t163 == 0 && (t164 == 7)))) = true then (if t165.toList = ([120] : List UInt8) then ((vec_Text.f 1 2 0 0).bind fun t190 => (if t190.toList = ([49, 44, 50, 44, 48, 44, 48] : List UInt8) then ((vec_All.f k ([] : List (S24))).bind fun bt191 => (if (bt191.1 == 0 && (bt191.2.1 == 0 && (bt191.2.2.1 == 0 && (bt191.2.2.2 == 0)))) = true then ((vec_Right.f 1 2 0 0).bind fun t195 => (if t195 = true then (some true) else (none))) else (none))) else (none))) else (none)) else (none)) else (none))) else (none))) else (none))) else (none))) else (none))))) = some r := H
  have A8 := Aside0.mk A80
  clear A80
  by_cases c9 : t177 = true
  · subst c9
    have H1 : (none) = some r := by rw [if_pos rfl] at H; exact H
    clear H
    have H := H1
    clear H1
    exact absurd H (by simp)
  replace c9 := Bool.eq_false_iff.mpr c9
  subst c9
  have H1 : ((vec_Join.f 1 2 0 0 2 1 0 7).bind fun bt178 => ((vec_Leq.f 1 2 0 0 bt178.1 bt178.2.1 bt178.2.2.1 bt178.2.2.2).bind fun t182 => (if t182 = true then ((vec_At.f 2 1 0 7 4).bind fun t183 => (if t183 = 7 then ((vec_At.f 2 1 0 7 5).bind fun t184 => (if t184 = 0 then ((vec_With.f 1 2 0 0 2 9).bind fun bt185 => (if bt185.2.1 = 9 then ((vec_Sum.f 2 1 0 7).bind fun t189 => (if t189 = 10 then (if (t161 == 2 && (t162 == 1 && (t163 == 0 && (t164 == 7)))) = true then (if t165.toList = ([120] : List UInt8) then ((vec_Text.f 1 2 0 0).bind fun t190 => (if t190.toList = ([49, 44, 50, 44, 48, 44, 48] : List UInt8) then ((vec_All.f k ([] : List (S24))).bind fun bt191 => (if (bt191.1 == 0 && (bt191.2.1 == 0 && (bt191.2.2.1 == 0 && (bt191.2.2.2 == 0)))) = true then ((vec_Right.f 1 2 0 0).bind fun t195 => (if t195 = true then (some true) else (none))) else (none))) else (none))) else (none)) else (none)) else (none))) else (none))) else (none))) else (none))) else (none)))) = some r := by rw [if_neg (show ¬ (false = true) by decide)] at H; exact H
  clear H
  have H := H1
  clear H1
  replace H := Option.bind_eq_some_iff.mp H
  obtain ⟨⟨t178, t179, t180, t181⟩, A100, H⟩ := H
  replace H : ((vec_Leq.f 1 2 0 0 t178 t179 t180 t181).bind fun t182 => (if t182 = true then ((vec_At.f 2 1 0 7 4).bind fun t183 => (if t183 = 7 then ((vec_At.f 2 1 0 7 5).bind fun t184 => (if t184 = 0 then ((vec_With.f 1 2 0 0 2 9).bind fun bt185 => (if bt185.2.1 = 9 then ((vec_Sum.f 2 1 0 7).bind fun t189 => (if t189 = 10 then (if (t161 == 2 && (t162 == 1 && (t163 == 0 && (t164 == 7)))) = true then (if t165.toList = ([120] : List UInt8) then ((vec_Text.f 1 2 0 0).bind fun t190 => (if t190.toList = ([49, 44, 50, 44, 48, 44, 48] : List UInt8) then ((vec_All.f k ([] : List (S24))).bind fun bt191 => (if (bt191.1 == 0 && (bt191.2.1 == 0 && (bt191.2.2.1 == 0 && (bt191.2.2.2 == 0)))) = true then ((vec_Right.f 1 2 0 0).bind fun t195 => (if t195 = true then (some true) else (none))) else (none))) else (none))) else (none)) else (none)) else (none))) else (none))) else (none))) else (none))) else (none))) = some r := H
  have A10 := Aside0.mk A100
  clear A100
  replace H := Option.bind_eq_some_iff.mp H
  obtain ⟨t182, A110, H⟩ := H
  replace H : (if t182 = true then ((vec_At.f 2 1 0 7 4).bind fun t183 => (if t183 = 7 then ((vec_At.f 2 1 0 7 5).bind fun t184 => (if t184 = 0 then ((vec_With.f 1 2 0 0 2 9).bind fun bt185 => (if bt185.2.1 = 9 then ((vec_Sum.f 2 1 0 7).bind fun t189 => (if t189 = 10 then (if (t161 == 2 && (t162 == 1 && (t163 == 0 && (t164 == 7)))) = true then (if t165.toList = ([120] : List UInt8) then ((vec_Text.f 1 2 0 0).bind fun t190 => (if t190.toList = ([49, 44, 50, 44, 48, 44, 48] : List UInt8) then ((vec_All.f k ([] : List (S24))).bind fun bt191 => (if (bt191.1 == 0 && (bt191.2.1 == 0 && (bt191.2.2.1 == 0 && (bt191.2.2.2 == 0)))) = true then ((vec_Right.f 1 2 0 0).bind fun t195 => (if t195 = true then (some true) else (none))) else (none))) else (none))) else (none)) else (none)) else (none))) else (none))) else (none))) else (none))) else (none)) = some r := H
  have A11 := Aside0.mk A110
  clear A110
  by_cases c12 : t182 = true
  rotate_left
  · replace c12 := Bool.eq_false_iff.mpr c12
    subst c12
    have H1 : (none) = some r := by rw [if_neg (show ¬ (false = true) by decide)] at H; exact H
    clear H
    have H := H1
    clear H1
    exact absurd H (by simp)
  subst c12
  have H1 : ((vec_At.f 2 1 0 7 4).bind fun t183 => (if t183 = 7 then ((vec_At.f 2 1 0 7 5).bind fun t184 => (if t184 = 0 then ((vec_With.f 1 2 0 0 2 9).bind fun bt185 => (if bt185.2.1 = 9 then ((vec_Sum.f 2 1 0 7).bind fun t189 => (if t189 = 10 then (if (t161 == 2 && (t162 == 1 && (t163 == 0 && (t164 == 7)))) = true then (if t165.toList = ([120] : List UInt8) then ((vec_Text.f 1 2 0 0).bind fun t190 => (if t190.toList = ([49, 44, 50, 44, 48, 44, 48] : List UInt8) then ((vec_All.f k ([] : List (S24))).bind fun bt191 => (if (bt191.1 == 0 && (bt191.2.1 == 0 && (bt191.2.2.1 == 0 && (bt191.2.2.2 == 0)))) = true then ((vec_Right.f 1 2 0 0).bind fun t195 => (if t195 = true then (some true) else (none))) else (none))) else (none))) else (none)) else (none)) else (none))) else (none))) else (none))) else (none))) = some r := by rw [if_pos rfl] at H; exact H
  clear H
  have H := H1
  clear H1
  replace H := Option.bind_eq_some_iff.mp H
  obtain ⟨t183, A130, H⟩ := H
  replace H : (if t183 = 7 then ((vec_At.f 2 1 0 7 5).bind fun t184 => (if t184 = 0 then ((vec_With.f 1 2 0 0 2 9).bind fun bt185 => (if bt185.2.1 = 9 then ((vec_Sum.f 2 1 0 7).bind fun t189 => (if t189 = 10 then (if (t161 == 2 && (t162 == 1 && (t163 == 0 && (t164 == 7)))) = true then (if t165.toList = ([120] : List UInt8) then ((vec_Text.f 1 2 0 0).bind fun t190 => (if t190.toList = ([49, 44, 50, 44, 48, 44, 48] : List UInt8) then ((vec_All.f k ([] : List (S24))).bind fun bt191 => (if (bt191.1 == 0 && (bt191.2.1 == 0 && (bt191.2.2.1 == 0 && (bt191.2.2.2 == 0)))) = true then ((vec_Right.f 1 2 0 0).bind fun t195 => (if t195 = true then (some true) else (none))) else (none))) else (none))) else (none)) else (none)) else (none))) else (none))) else (none))) else (none)) = some r := H
  have A13 := Aside0.mk A130
  clear A130
  by_cases c14 : t183 = 7
  rotate_left
  · rw [if_neg c14] at H
    exact absurd H (by simp)
  rw [if_pos c14] at H
  have c14b0 : (t183 == 7) = true := beq_iff_eq.mpr c14
  have c14b1 : (t183 != 7) = false := bne_eq_false_iff_eq.mpr c14
  clear c14
  replace H := Option.bind_eq_some_iff.mp H
  obtain ⟨t184, A150, H⟩ := H
  replace H : (if t184 = 0 then ((vec_With.f 1 2 0 0 2 9).bind fun bt185 => (if bt185.2.1 = 9 then ((vec_Sum.f 2 1 0 7).bind fun t189 => (if t189 = 10 then (if (t161 == 2 && (t162 == 1 && (t163 == 0 && (t164 == 7)))) = true then (if t165.toList = ([120] : List UInt8) then ((vec_Text.f 1 2 0 0).bind fun t190 => (if t190.toList = ([49, 44, 50, 44, 48, 44, 48] : List UInt8) then ((vec_All.f k ([] : List (S24))).bind fun bt191 => (if (bt191.1 == 0 && (bt191.2.1 == 0 && (bt191.2.2.1 == 0 && (bt191.2.2.2 == 0)))) = true then ((vec_Right.f 1 2 0 0).bind fun t195 => (if t195 = true then (some true) else (none))) else (none))) else (none))) else (none)) else (none)) else (none))) else (none))) else (none)) = some r := H
  have A15 := Aside0.mk A150
  clear A150
  by_cases c16 : t184 = 0
  rotate_left
  · rw [if_neg c16] at H
    exact absurd H (by simp)
  rw [if_pos c16] at H
  have c16b0 : (t184 == 0) = true := beq_iff_eq.mpr c16
  have c16b1 : (t184 != 0) = false := bne_eq_false_iff_eq.mpr c16
  clear c16
  replace H := Option.bind_eq_some_iff.mp H
  obtain ⟨⟨t185, t186, t187, t188⟩, A170, H⟩ := H
  replace H : (if t186 = 9 then ((vec_Sum.f 2 1 0 7).bind fun t189 => (if t189 = 10 then (if (t161 == 2 && (t162 == 1 && (t163 == 0 && (t164 == 7)))) = true then (if t165.toList = ([120] : List UInt8) then ((vec_Text.f 1 2 0 0).bind fun t190 => (if t190.toList = ([49, 44, 50, 44, 48, 44, 48] : List UInt8) then ((vec_All.f k ([] : List (S24))).bind fun bt191 => (if (bt191.1 == 0 && (bt191.2.1 == 0 && (bt191.2.2.1 == 0 && (bt191.2.2.2 == 0)))) = true then ((vec_Right.f 1 2 0 0).bind fun t195 => (if t195 = true then (some true) else (none))) else (none))) else (none))) else (none)) else (none)) else (none))) else (none)) = some r := H
  have A17 := Aside0.mk A170
  clear A170
  by_cases c18 : t186 = 9
  rotate_left
  · rw [if_neg c18] at H
    exact absurd H (by simp)
  rw [if_pos c18] at H
  have c18b0 : (t186 == 9) = true := beq_iff_eq.mpr c18
  have c18b1 : (t186 != 9) = false := bne_eq_false_iff_eq.mpr c18
  clear c18
  replace H := Option.bind_eq_some_iff.mp H
  obtain ⟨t189, A190, H⟩ := H
  replace H : (if t189 = 10 then (if (t161 == 2 && (t162 == 1 && (t163 == 0 && (t164 == 7)))) = true then (if t165.toList = ([120] : List UInt8) then ((vec_Text.f 1 2 0 0).bind fun t190 => (if t190.toList = ([49, 44, 50, 44, 48, 44, 48] : List UInt8) then ((vec_All.f k ([] : List (S24))).bind fun bt191 => (if (bt191.1 == 0 && (bt191.2.1 == 0 && (bt191.2.2.1 == 0 && (bt191.2.2.2 == 0)))) = true then ((vec_Right.f 1 2 0 0).bind fun t195 => (if t195 = true then (some true) else (none))) else (none))) else (none))) else (none)) else (none)) else (none)) = some r := H
  have A19 := Aside0.mk A190
  clear A190
  by_cases c20 : t189 = 10
  rotate_left
  · rw [if_neg c20] at H
    exact absurd H (by simp)
  rw [if_pos c20] at H
  have c20b0 : (t189 == 10) = true := beq_iff_eq.mpr c20
  have c20b1 : (t189 != 10) = false := bne_eq_false_iff_eq.mpr c20
  clear c20
  by_cases c21 : (t161 == 2 && (t162 == 1 && (t163 == 0 && (t164 == 7)))) = true
  rotate_left
  · rw [if_neg c21] at H
    exact absurd H (by simp)
  rw [if_pos c21] at H
  have c21b0 : (t161 == 2 && (t162 == 1 && (t163 == 0 && (t164 == 7)))) = true := c21
  (try (have c21b1 : decide (t161 = 2 && (t162 == 1 && (t163 == 0 && (t164 == 7)))) = true := by simpa using c21))
  (try (have c21b2 : (t161 == 2 && (t162 == 1 && (t163 == 0 && (t164 == 7)))) = true := by simpa using c21))
  clear c21
  by_cases c22 : t165.toList = ([120] : List UInt8)
  rotate_left
  · rw [if_neg c22] at H
    exact absurd H (by simp)
  rw [if_pos c22] at H
  have c22b0 : (t165.toList == ([120] : List UInt8)) = true := beq_iff_eq.mpr c22
  have c22b1 : (t165.toList != ([120] : List UInt8)) = false := bne_eq_false_iff_eq.mpr c22
  clear c22
  replace H := Option.bind_eq_some_iff.mp H
  obtain ⟨t190, A230, H⟩ := H
  replace H : (if t190.toList = ([49, 44, 50, 44, 48, 44, 48] : List UInt8) then ((vec_All.f k ([] : List (S24))).bind fun bt191 => (if (bt191.1 == 0 && (bt191.2.1 == 0 && (bt191.2.2.1 == 0 && (bt191.2.2.2 == 0)))) = true then ((vec_Right.f 1 2 0 0).bind fun t195 => (if t195 = true then (some true) else (none))) else (none))) else (none)) = some r := H
  have A23 := Aside0.mk A230
  clear A230
  by_cases c24 : t190.toList = ([49, 44, 50, 44, 48, 44, 48] : List UInt8)
  rotate_left
  · rw [if_neg c24] at H
    exact absurd H (by simp)
  rw [if_pos c24] at H
  have c24b0 : (t190.toList == ([49, 44, 50, 44, 48, 44, 48] : List UInt8)) = true := beq_iff_eq.mpr c24
  have c24b1 : (t190.toList != ([49, 44, 50, 44, 48, 44, 48] : List UInt8)) = false := bne_eq_false_iff_eq.mpr c24
  clear c24
  replace H := Option.bind_eq_some_iff.mp H
  obtain ⟨⟨t191, t192, t193, t194⟩, A250, H⟩ := H
  replace H : (if (t191 == 0 && (t192 == 0 && (t193 == 0 && (t194 == 0)))) = true then ((vec_Right.f 1 2 0 0).bind fun t195 => (if t195 = true then (some true) else (none))) else (none)) = some r := H
  have A25 := Aside0.mk A250
  clear A250
  by_cases c26 : (t191 == 0 && (t192 == 0 && (t193 == 0 && (t194 == 0)))) = true
  rotate_left
  · rw [if_neg c26] at H
    exact absurd H (by simp)
  rw [if_pos c26] at H
  have c26b0 : (t191 == 0 && (t192 == 0 && (t193 == 0 && (t194 == 0)))) = true := c26
  (try (have c26b1 : decide (t191 = 0 && (t192 == 0 && (t193 == 0 && (t194 == 0)))) = true := by simpa using c26))
  (try (have c26b2 : (t191 == 0 && (t192 == 0 && (t193 == 0 && (t194 == 0)))) = true := by simpa using c26))
  clear c26
  replace H := Option.bind_eq_some_iff.mp H
  obtain ⟨t195, A270, H⟩ := H
  replace H : (if t195 = true then (some true) else (none)) = some r := H
  have A27 := Aside0.mk A270
  clear A270
  by_cases c28 : t195 = true
  rotate_left
  · replace c28 := Bool.eq_false_iff.mpr c28
    subst c28
    have H1 : (none) = some r := by rw [if_neg (show ¬ (false = true) by decide)] at H; exact H
    clear H
    have H := H1
    clear H1
    exact absurd H (by simp)
  subst c28
  have H1 : (some true) = some r := by rw [if_pos rfl] at H; exact H
  clear H
  have H := H1
  clear H1
  obtain rfl := Option.some.inj H
  go_enter Tryd.func10, Tryd.ntmps10
  try go_wp2_with (first | ((with_reducible refine gate_dst (N := 1) rfl ?_); refine Ka_ 1 #[.int .u64 0, .int .u64 0, .int .u64 0, .int .u64 0] 24 ?_; intro gb158 hg w29 hbox hb; have BK158 := Aside0.mk (hbox); have GW158 := Kw_ HB hg; have GE158 := GW158; replace HB := Ks_ HB hb; clear hb hbox hg; obtain ⟨hcz30_0, hcz30_1, hcz30_2, hcz30_3, hfz30_0, hfz30_1, hfz30_2, hfz30_3⟩ := Ke4_ BK158.out) | ((with_reducible refine gate_dst (N := 2) rfl ?_); refine Ka_ 2 #[.int .u64 0, .int .u64 0, .int .u64 0, .int .u64 0] 24 ?_; intro gb159 hg w31 hbox hb; have BK159 := Aside0.mk (hbox); have GW159 := Kx_ HB GE158 hg; have GE159 := GW159; have NB158_159 := Aside0.mk ((by rw [hg]; exact Nat.ne_of_lt (blk_lt (g := gb158) (o := .cells #[.int .u64 1, .int .u64 2, .int .u64 0, .int .u64 0] 24 (0, 0)) (by refine Kv_ ?_; refine blk_put (cs := #[.int .u64 1, .int .u64 2, .int .u64 0, .int .u64 0]) ?_ 3 _ rfl; refine Kv_ ?_; refine blk_put (cs := #[.int .u64 1, .int .u64 2, .int .u64 0, .int .u64 0]) ?_ 2 _ rfl; refine Kv_ ?_; refine blk_put (cs := #[.int .u64 1, .int .u64 0, .int .u64 0, .int .u64 0]) ?_ 1 _ rfl; refine Kv_ ?_; refine blk_put (cs := #[.int .u64 0, .int .u64 0, .int .u64 0, .int .u64 0]) ?_ 0 _ rfl; exact Kq_ BK158)) : gb158 ≠ gb159)); have NB159_158 := Aside0.mk ((by rw [hg]; exact Nat.ne_of_gt (blk_lt (g := gb158) (o := .cells #[.int .u64 1, .int .u64 2, .int .u64 0, .int .u64 0] 24 (0, 0)) (by refine Kv_ ?_; refine blk_put (cs := #[.int .u64 1, .int .u64 2, .int .u64 0, .int .u64 0]) ?_ 3 _ rfl; refine Kv_ ?_; refine blk_put (cs := #[.int .u64 1, .int .u64 2, .int .u64 0, .int .u64 0]) ?_ 2 _ rfl; refine Kv_ ?_; refine blk_put (cs := #[.int .u64 1, .int .u64 0, .int .u64 0, .int .u64 0]) ?_ 1 _ rfl; refine Kv_ ?_; refine blk_put (cs := #[.int .u64 0, .int .u64 0, .int .u64 0, .int .u64 0]) ?_ 0 _ rfl; exact Kq_ BK158)) : gb159 ≠ gb158)); replace BK158 := Aside0.mk (blk_below (g := gb158) (o := .cells #[.int .u64 1, .int .u64 2, .int .u64 0, .int .u64 0] 24 (0, 0)) (by refine Kv_ ?_; refine blk_put (cs := #[.int .u64 1, .int .u64 2, .int .u64 0, .int .u64 0]) ?_ 3 _ rfl; refine Kv_ ?_; refine blk_put (cs := #[.int .u64 1, .int .u64 2, .int .u64 0, .int .u64 0]) ?_ 2 _ rfl; refine Kv_ ?_; refine blk_put (cs := #[.int .u64 1, .int .u64 0, .int .u64 0, .int .u64 0]) ?_ 1 _ rfl; refine Kv_ ?_; refine blk_put (cs := #[.int .u64 0, .int .u64 0, .int .u64 0, .int .u64 0]) ?_ 0 _ rfl; exact Kq_ BK158) hb); replace HB := Kt_ HB GE158 hb; clear hb hbox hg; have hnb32 := NB159_158.out; have hnc32 := NB158_159.out; obtain ⟨hcz33_0, hcz33_1, hcz33_2, hcz33_3, hfz33_0, hfz33_1, hfz33_2, hfz33_3⟩ := Ke4_ BK159.out) | ((with_reducible refine gate_callee (f := 28) rfl ?_); refine Kg_ (some 9) rfl rfl Tryd.func28 (by kernel_rfl) rfl #[.agg #[.int .u64 2, .int .u64 1, .int .u64 0, .int .u64 7]] rfl ?_; (with_reducible refine (vec_Put.calls k 2 1 0 7 t160 _ A1.out).mono ?_); rintro e w34 ⟨rfl, hb⟩; refine ⟨_, rfl, ?_⟩; replace BK158 := Kf_ BK158 NB158_159 hb; replace BK159 := Aside0.mk (blk_below (g := gb159) (o := .cells #[.int .u64 2, .int .u64 1, .int .u64 0, .int .u64 7] 24 (0, 0)) (by refine Kv_ ?_; refine blk_put (cs := #[.int .u64 2, .int .u64 1, .int .u64 0, .int .u64 0]) ?_ 3 _ rfl; refine Kv_ ?_; refine blk_put (cs := #[.int .u64 2, .int .u64 1, .int .u64 0, .int .u64 0]) ?_ 2 _ rfl; refine Kv_ ?_; refine blk_put (cs := #[.int .u64 2, .int .u64 0, .int .u64 0, .int .u64 0]) ?_ 1 _ rfl; refine Kv_ ?_; refine blk_put (cs := #[.int .u64 0, .int .u64 0, .int .u64 0, .int .u64 0]) ?_ 0 _ rfl; exact Kq_ BK159) hb); replace HB := Kt_ HB GE159 hb; (try clear hb); (try clear hb2); (try clear hk); (try clear hi)) | ((with_reducible refine gate_callee (f := 33) rfl ?_); refine Kg_ (some 14) rfl rfl Tryd.func33 (by kernel_rfl) rfl #[.agg #[.string (t160 ++ (⟨#[120]⟩ : ByteArray)), .bool false]] rfl ?_; (with_reducible refine (vec_Get.calls k (t160 ++ (⟨#[120]⟩ : ByteArray)) false t161 t162 t163 t164 t165 t166 _ A3.out).mono ?_); rintro e w35 ⟨rfl, hb⟩; refine ⟨_, rfl, ?_⟩; replace BK158 := Kb_ BK158 hb; replace BK159 := Kb_ BK159 hb; replace HB := Ks_ HB hb; (try clear hb); (try clear hb2); (try clear hk); (try clear hi)) | ((with_reducible refine gate_dst (N := 4) rfl ?_); refine Ka_ 4 #[.int .u64 0, .int .u64 0, .int .u64 0, .int .u64 0] 24 ?_; intro gb167 hg w36 hbox hb; have BK167 := Aside0.mk (hbox); have GW167 := Kw_ HB hg; have GE167 := GW167; have NB158_167 := Kl_ BK158 hg; have NB167_158 := Kr_ BK158 hg; have NB159_167 := Kl_ BK159 hg; have NB167_159 := Kr_ BK159 hg; replace BK158 := Kb_ BK158 hb; replace BK159 := Kb_ BK159 hb; replace HB := Ks_ HB hb; clear hb hbox hg) | ((with_reducible refine gate_dst (N := 5) rfl ?_); refine Ka_ 5 #[.string (⟨#[]⟩ : ByteArray), .bool false] 51 ?_; intro gb168 hg w37 hbox hb; have BK168 := Aside0.mk (hbox); have GW168 := Kw_ HB hg; have GE168 := GW168; have NB158_168 := Kl_ BK158 hg; have NB168_158 := Kr_ BK158 hg; have NB159_168 := Kl_ BK159 hg; have NB168_159 := Kr_ BK159 hg; have NB167_168 := Kl_ BK167 hg; have NB168_167 := Kr_ BK167 hg; replace BK158 := Kb_ BK158 hb; replace BK159 := Kb_ BK159 hb; replace BK167 := Kb_ BK167 hb; replace HB := Ks_ HB hb; clear hb hbox hg; have hnb38 := NB167_158.out; have hnc38 := NB158_167.out; have hnb39 := NB167_159.out; have hnc39 := NB159_167.out; have hnb40 := NB167_168.out; have hnc40 := NB168_167.out; obtain ⟨hcz41_0, hcz41_1, hcz41_2, hcz41_3, hfz41_0, hfz41_1, hfz41_2, hfz41_3⟩ := Ke4_ BK167.out; have hnb42 := NB168_158.out; have hnc42 := NB158_168.out; have hnb43 := NB168_159.out; have hnc43 := NB159_168.out; obtain ⟨hcz44_0, hcz44_1, hfz44_0, hfz44_1⟩ := Ke2_ BK168.out))
  have n0_ : Aside0 (((((((w37.setCell ⟨gb167, 0, none⟩ (.int .u64 t161)).setCell ⟨gb167, 1, none⟩ (.int .u64 t162)).setCell ⟨gb167, 2, none⟩ (.int .u64 t163)).setCell ⟨gb167, 3, none⟩ (.int .u64 t164)).setCell ⟨gb168, 0, none⟩ (.string t165)).setCell ⟨gb168, 1, none⟩ (.bool t166)).heap[gb158]? = some (.cells #[.int .u64 1, .int .u64 2, .int .u64 0, .int .u64 0] 24 (0, 0))) := ⟨by exact K2b_ BK158 NB158_168 NB158_167⟩
  have n1_ : Aside0 (((((((w37.setCell ⟨gb167, 0, none⟩ (.int .u64 t161)).setCell ⟨gb167, 1, none⟩ (.int .u64 t162)).setCell ⟨gb167, 2, none⟩ (.int .u64 t163)).setCell ⟨gb167, 3, none⟩ (.int .u64 t164)).setCell ⟨gb168, 0, none⟩ (.string t165)).setCell ⟨gb168, 1, none⟩ (.bool t166)).heap[gb159]? = some (.cells #[.int .u64 2, .int .u64 1, .int .u64 0, .int .u64 7] 24 (0, 0))) := ⟨by exact K2b_ BK159 NB159_168 NB159_167⟩
  have n2_ : Aside0 (((((((w37.setCell ⟨gb167, 0, none⟩ (.int .u64 t161)).setCell ⟨gb167, 1, none⟩ (.int .u64 t162)).setCell ⟨gb167, 2, none⟩ (.int .u64 t163)).setCell ⟨gb167, 3, none⟩ (.int .u64 t164)).setCell ⟨gb168, 0, none⟩ (.string t165)).setCell ⟨gb168, 1, none⟩ (.bool t166)).heap[gb167]? = some (.cells #[.int .u64 t161, .int .u64 t162, .int .u64 t163, .int .u64 t164] 24 (0, 0))) := ⟨by (repeat (first | (with_reducible first | refine blk_drewN ?_ _ | refine blk_drew ?_ | refine blk_alloc ?_ _) | refine blk_far ?_ NB167_168.out _)); refine blk_put (cs := #[.int .u64 t161, .int .u64 t162, .int .u64 t163, .int .u64 0]) ?_ 3 _ rfl; refine Kv_ ?_; refine blk_put (cs := #[.int .u64 t161, .int .u64 t162, .int .u64 0, .int .u64 0]) ?_ 2 _ rfl; refine Kv_ ?_; refine blk_put (cs := #[.int .u64 t161, .int .u64 0, .int .u64 0, .int .u64 0]) ?_ 1 _ rfl; refine Kv_ ?_; refine blk_put (cs := #[.int .u64 0, .int .u64 0, .int .u64 0, .int .u64 0]) ?_ 0 _ rfl; exact Kq_ BK167⟩
  have n3_ : Aside0 (((((((w37.setCell ⟨gb167, 0, none⟩ (.int .u64 t161)).setCell ⟨gb167, 1, none⟩ (.int .u64 t162)).setCell ⟨gb167, 2, none⟩ (.int .u64 t163)).setCell ⟨gb167, 3, none⟩ (.int .u64 t164)).setCell ⟨gb168, 0, none⟩ (.string t165)).setCell ⟨gb168, 1, none⟩ (.bool t166)).heap[gb168]? = some (.cells #[.string t165, .bool t166] 51 (0, 0))) := ⟨by refine Kv_ ?_; refine blk_put (cs := #[.string t165, .bool false]) ?_ 1 _ rfl; refine Kv_ ?_; refine blk_put (cs := #[.string (⟨#[]⟩ : ByteArray), .bool false]) ?_ 0 _ rfl; exact K1b_ BK168 NB168_167⟩
  have n4_ : Aside0 (Below w.heap.size w ((((((w37.setCell ⟨gb167, 0, none⟩ (.int .u64 t161)).setCell ⟨gb167, 1, none⟩ (.int .u64 t162)).setCell ⟨gb167, 2, none⟩ (.int .u64 t163)).setCell ⟨gb167, 3, none⟩ (.int .u64 t164)).setCell ⟨gb168, 0, none⟩ (.string t165)).setCell ⟨gb168, 1, none⟩ (.bool t166))) := ⟨K4a_ HB GE158 GE159 GE167 GE168⟩
  (try clear BK158)
  (try clear BK159)
  (try clear BK167)
  (try clear BK168)
  (try clear HB)
  generalize ((((((w37.setCell ⟨gb167, 0, none⟩ (.int .u64 t161)).setCell ⟨gb167, 1, none⟩ (.int .u64 t162)).setCell ⟨gb167, 2, none⟩ (.int .u64 t163)).setCell ⟨gb167, 3, none⟩ (.int .u64 t164)).setCell ⟨gb168, 0, none⟩ (.string t165)).setCell ⟨gb168, 1, none⟩ (.bool t166)) = w45 at n0_ n1_ n2_ n3_ n4_ ⊢
  have BK158 := n0_
  have BK159 := n1_
  have BK167 := n2_
  have BK168 := n3_
  have HB := n4_
  clear n0_ n1_ n2_ n3_ n4_
  replace BK158 := Kd_ BK158
  replace BK159 := Kd_ BK159
  replace BK167 := Kd_ BK167
  replace BK168 := Kd_ BK168
  replace HB := Aside0.mk (below_drew1 HB.out)
  refine start_ (n := 71) (S := fun w' => w'.cell? ⟨gb158, 0, none⟩ = some (.int .u64 1) ∧ w'.cell? ⟨gb158, 1, none⟩ = some (.int .u64 2) ∧ w'.cell? ⟨gb158, 2, none⟩ = some (.int .u64 0) ∧ w'.cell? ⟨gb158, 3, none⟩ = some (.int .u64 0) ∧ w'.cell? ⟨gb159, 0, none⟩ = some (.int .u64 2) ∧ w'.cell? ⟨gb159, 1, none⟩ = some (.int .u64 1) ∧ w'.cell? ⟨gb159, 2, none⟩ = some (.int .u64 0) ∧ w'.cell? ⟨gb159, 3, none⟩ = some (.int .u64 7) ∧ w'.cell? ⟨gb167, 0, none⟩ = some (.int .u64 t161) ∧ w'.cell? ⟨gb167, 1, none⟩ = some (.int .u64 t162) ∧ w'.cell? ⟨gb167, 2, none⟩ = some (.int .u64 t163) ∧ w'.cell? ⟨gb167, 3, none⟩ = some (.int .u64 t164) ∧ w'.cell? ⟨gb168, 0, none⟩ = some (.string t165) ∧ w'.cell? ⟨gb168, 1, none⟩ = some (.bool t166)) (ds := []) #[false, false, false, false, false, false, false, false, false, false, false, false, false, false, false, false, false, false, false, false, false, false, false, false, false, false, false, false, false, false, false, false, false, false, false, false, false, false, false, false, false, false, false, false, false, false, false, false, false, false, false, false, false, false, false, false, false, false, false, false, false, false, false, false, false, false, false, false, false, false, false] (by kernel_rfl) rfl rfl ⟨Km_ BK158 0, Km_ BK158 1, Km_ BK158 2, Km_ BK158 3, Km_ BK159 0, Km_ BK159 1, Km_ BK159 2, Km_ BK159 3, Km_ BK167 0, Km_ BK167 1, Km_ BK167 2, Km_ BK167 3, Km_ BK168 0, Km_ BK168 1⟩ (fun hHeld => ?_); refine with_tabW tenementlaw06_examples.tab5 tenementlaw06_examples.bits5 (fun HT_ HW_ => ?_)
  generalize w45.drew = w46 at BK158 BK159 BK167 BK168 HB hHeld ⊢
  refine Kp_ 3 20 (Bz 71 8) (any_of HT_.out (by kernel_rfl)) ?_
  refine Ko_ 0 17 (Bz 71 9) (take_ofW HT_.out HW_.out (by kernel_rfl)) hHeld ?_
  refine Ko_ 1 18 (Bz 71 11) (take_ofW HT_.out HW_.out (by kernel_rfl)) hHeld ?_
  refine one_ (i := 2) (N := some 19) (Bz 71 15) rfl rfl (one_of HT_.out (by kernel_rfl)) (by decide) (fun K hK => ?_)
  refine goes_ Tryd.func12 (by kernel_rfl) rfl #[.agg #[.int .u64 1, .int .u64 2, .int .u64 0, .int .u64 0], .agg #[.int .u64 2, .int .u64 1, .int .u64 0, .int .u64 7]] (by rfl) rfl rfl (by (try simp only [List.map_toArray, List.map_cons, List.map_nil]); first | done | rfl | (simp only [List.length_drop, List.length_take]; rfl)) ?_
  with_reducible refine (vec_Join.calls 1 2 0 0 2 1 0 7 t169 t170 t171 t172 _ A4.out).mono ?_
  rintro e w47 ⟨rfl, hb⟩
  refine ⟨_, rfl, ?_⟩
  replace BK158 := Kb_ BK158 hb
  replace BK159 := Kb_ BK159 hb
  replace BK167 := Kb_ BK167 hb
  replace BK168 := Kb_ BK168 hb
  replace HB := Ks_ HB hb
  (try clear hb)
  (try clear hb2)
  (try clear hk)
  (try clear hi)
  refine hK.out _ _ ⟨Km_ BK158 0, Km_ BK158 1, Km_ BK158 2, Km_ BK158 3, Km_ BK159 0, Km_ BK159 1, Km_ BK159 2, Km_ BK159 3, Km_ BK167 0, Km_ BK167 1, Km_ BK167 2, Km_ BK167 3, Km_ BK168 0, Km_ BK168 1⟩ (fun hHeld => ?_)
  clear hK K
  refine Kn_ 19 ?_
  refine Kp_ 4 21 (Bz 71 31) (any_of HT_.out (by kernel_rfl)) ?_
  refine Kp_ 5 22 (Bz 71 63) (any_of HT_.out (by kernel_rfl)) ?_
  refine Kp_ 9 26 (Bz 71 575) (any_of HT_.out (by kernel_rfl)) ?_
  refine Ko_ 6 23 (Bz 71 639) (take_ofW HT_.out HW_.out (by kernel_rfl)) hHeld ?_
  refine Ko_ 7 24 (Bz 71 767) (take_ofW HT_.out HW_.out (by kernel_rfl)) hHeld ?_
  refine one_ (i := 8) (N := some 25) (Bz 71 1023) rfl rfl (one_of HT_.out (by kernel_rfl)) (by decide) (fun K hK => ?_)
  refine goes_ Tryd.func14 (by kernel_rfl) rfl #[.agg #[.int .u64 1, .int .u64 2, .int .u64 0, .int .u64 0], .agg #[.int .u64 2, .int .u64 1, .int .u64 0, .int .u64 7]] (by rfl) rfl rfl (by (try simp only [List.map_toArray, List.map_cons, List.map_nil]); first | done | rfl | (simp only [List.length_drop, List.length_take]; rfl)) ?_
  with_reducible refine (vec_Meet.calls 1 2 0 0 2 1 0 7 t173 t174 t175 t176 _ A6.out).mono ?_
  rintro e w48 ⟨rfl, hb⟩
  refine ⟨_, rfl, ?_⟩
  replace BK158 := Kb_ BK158 hb
  replace BK159 := Kb_ BK159 hb
  replace BK167 := Kb_ BK167 hb
  replace BK168 := Kb_ BK168 hb
  replace HB := Ks_ HB hb
  (try clear hb)
  (try clear hb2)
  (try clear hk)
  (try clear hi)
  refine hK.out _ _ ⟨Km_ BK158 0, Km_ BK158 1, Km_ BK158 2, Km_ BK158 3, Km_ BK159 0, Km_ BK159 1, Km_ BK159 2, Km_ BK159 3, Km_ BK167 0, Km_ BK167 1, Km_ BK167 2, Km_ BK167 3, Km_ BK168 0, Km_ BK168 1⟩ (fun hHeld => ?_)
  clear hK K
  refine Kn_ 25 ?_
  refine Kp_ 10 27 (Bz 71 2047) (any_of HT_.out (by kernel_rfl)) ?_
  refine Kp_ 11 28 (Bz 71 4095) (any_of HT_.out (by kernel_rfl)) ?_
  refine Kp_ 12 29 (Bz 71 8191) (any_of HT_.out (by kernel_rfl)) ?_
  refine Ko_ 13 30 (Bz 71 16383) (take_ofW HT_.out HW_.out (by kernel_rfl)) hHeld ?_
  refine Ko_ 14 31 (Bz 71 32767) (take_ofW HT_.out HW_.out (by kernel_rfl)) hHeld ?_
  refine one_ (i := 15) (N := some 32) (Bz 71 65535) rfl rfl (one_of HT_.out (by kernel_rfl)) (by decide) (fun K hK => ?_)
  refine goes_ Tryd.func22 (by kernel_rfl) rfl #[.agg #[.int .u64 1, .int .u64 2, .int .u64 0, .int .u64 0], .agg #[.int .u64 2, .int .u64 1, .int .u64 0, .int .u64 7]] (by rfl) rfl rfl (by (try simp only [List.map_toArray, List.map_cons, List.map_nil]); first | done | rfl | (simp only [List.length_drop, List.length_take]; rfl)) ?_
  with_reducible refine (vec_Leq.calls 1 2 0 0 2 1 0 7 false _ A8.out).mono ?_
  rintro e w49 ⟨rfl, hb⟩
  refine ⟨_, rfl, ?_⟩
  replace BK158 := Kb_ BK158 hb
  replace BK159 := Kb_ BK159 hb
  replace BK167 := Kb_ BK167 hb
  replace BK168 := Kb_ BK168 hb
  replace HB := Ks_ HB hb
  (try clear hb)
  (try clear hb2)
  (try clear hk)
  (try clear hi)
  refine hK.out _ _ ⟨Km_ BK158 0, Km_ BK158 1, Km_ BK158 2, Km_ BK158 3, Km_ BK159 0, Km_ BK159 1, Km_ BK159 2, Km_ BK159 3, Km_ BK167 0, Km_ BK167 1, Km_ BK167 2, Km_ BK167 3, Km_ BK168 0, Km_ BK168 1⟩ (fun hHeld => ?_)
  clear hK K
  refine Kn_ 32 ?_
  refine Kp_ 16 33 (Bz 71 131071) (any_of HT_.out (by kernel_rfl)) ?_
  refine Kp_ 17 34 (Bz 71 262143) (any_of HT_.out (by kernel_rfl)) ?_
  refine Kp_ 18 35 (Bz 71 524287) (any_of HT_.out (by kernel_rfl)) ?_
  refine Ko_ 19 36 (Bz 71 1048575) (take_ofW HT_.out HW_.out (by kernel_rfl)) hHeld ?_
  refine Ko_ 20 37 (Bz 71 2097151) (take_ofW HT_.out HW_.out (by kernel_rfl)) hHeld ?_
  refine Ko_ 21 38 (Bz 71 4194303) (take_ofW HT_.out HW_.out (by kernel_rfl)) hHeld ?_
  refine one_ (i := 22) (N := some 39) (Bz 71 8388607) rfl rfl (one_of HT_.out (by kernel_rfl)) (by decide) (fun K hK => ?_)
  refine goes_ Tryd.func12 (by kernel_rfl) rfl #[.agg #[.int .u64 1, .int .u64 2, .int .u64 0, .int .u64 0], .agg #[.int .u64 2, .int .u64 1, .int .u64 0, .int .u64 7]] (by rfl) rfl rfl (by (try simp only [List.map_toArray, List.map_cons, List.map_nil]); first | done | rfl | (simp only [List.length_drop, List.length_take]; rfl)) ?_
  with_reducible refine (vec_Join.calls 1 2 0 0 2 1 0 7 t178 t179 t180 t181 _ A10.out).mono ?_
  rintro e w50 ⟨rfl, hb⟩
  refine ⟨_, rfl, ?_⟩
  replace BK158 := Kb_ BK158 hb
  replace BK159 := Kb_ BK159 hb
  replace BK167 := Kb_ BK167 hb
  replace BK168 := Kb_ BK168 hb
  replace HB := Ks_ HB hb
  (try clear hb)
  (try clear hb2)
  (try clear hk)
  (try clear hi)
  refine hK.out _ _ ⟨Km_ BK158 0, Km_ BK158 1, Km_ BK158 2, Km_ BK158 3, Km_ BK159 0, Km_ BK159 1, Km_ BK159 2, Km_ BK159 3, Km_ BK167 0, Km_ BK167 1, Km_ BK167 2, Km_ BK167 3, Km_ BK168 0, Km_ BK168 1⟩ (fun hHeld => ?_)
  clear hK K
  refine Kn_ 39 ?_
  refine one_ (i := 23) (N := some 40) (Bz 71 16777215) rfl rfl (one_of HT_.out (by kernel_rfl)) (by decide) (fun K hK => ?_)
  refine goes_ Tryd.func22 (by kernel_rfl) rfl #[.agg #[.int .u64 1, .int .u64 2, .int .u64 0, .int .u64 0], .agg #[.int .u64 t178, .int .u64 t179, .int .u64 t180, .int .u64 t181]] (by rfl) rfl rfl (by (try simp only [List.map_toArray, List.map_cons, List.map_nil]); first | done | rfl | (simp only [List.length_drop, List.length_take]; rfl)) ?_
  with_reducible refine (vec_Leq.calls 1 2 0 0 t178 t179 t180 t181 true _ A11.out).mono ?_
  rintro e w51 ⟨rfl, hb⟩
  refine ⟨_, rfl, ?_⟩
  replace BK158 := Kb_ BK158 hb
  replace BK159 := Kb_ BK159 hb
  replace BK167 := Kb_ BK167 hb
  replace BK168 := Kb_ BK168 hb
  replace HB := Ks_ HB hb
  (try clear hb)
  (try clear hb2)
  (try clear hk)
  (try clear hi)
  refine hK.out _ _ ⟨Km_ BK158 0, Km_ BK158 1, Km_ BK158 2, Km_ BK158 3, Km_ BK159 0, Km_ BK159 1, Km_ BK159 2, Km_ BK159 3, Km_ BK167 0, Km_ BK167 1, Km_ BK167 2, Km_ BK167 3, Km_ BK168 0, Km_ BK168 1⟩ (fun hHeld => ?_)
  clear hK K
  refine Kn_ 40 ?_
  refine Kp_ 24 41 (Bz 71 33554431) (any_of HT_.out (by kernel_rfl)) ?_
  refine Kp_ 25 42 (Bz 71 67108863) (any_of HT_.out (by kernel_rfl)) ?_
  refine Ko_ 26 43 (Bz 71 134217727) (take_ofW HT_.out HW_.out (by kernel_rfl)) hHeld ?_
  refine one_ (i := 27) (N := some 44) (Bz 71 268435455) rfl rfl (one_of HT_.out (by kernel_rfl)) (by decide) (fun K hK => ?_)
  refine goes_ Tryd.func24 (by kernel_rfl) rfl #[.agg #[.int .u64 2, .int .u64 1, .int .u64 0, .int .u64 7], .int .i64 4] (by rfl) rfl rfl (by (try simp only [List.map_toArray, List.map_cons, List.map_nil]); first | done | rfl | (simp only [List.length_drop, List.length_take]; rfl)) ?_
  with_reducible refine (vec_At.calls 2 1 0 7 4 t183 _ A13.out).mono ?_
  rintro e w52 ⟨rfl, hb⟩
  refine ⟨_, rfl, ?_⟩
  replace BK158 := Kb_ BK158 hb
  replace BK159 := Kb_ BK159 hb
  replace BK167 := Kb_ BK167 hb
  replace BK168 := Kb_ BK168 hb
  replace HB := Ks_ HB hb
  (try clear hb)
  (try clear hb2)
  (try clear hk)
  (try clear hi)
  refine hK.out _ _ ⟨Km_ BK158 0, Km_ BK158 1, Km_ BK158 2, Km_ BK158 3, Km_ BK159 0, Km_ BK159 1, Km_ BK159 2, Km_ BK159 3, Km_ BK167 0, Km_ BK167 1, Km_ BK167 2, Km_ BK167 3, Km_ BK168 0, Km_ BK168 1⟩ (fun hHeld => ?_)
  clear hK K
  refine Kn_ 44 ?_
  refine Kp_ 28 45 (Bz 71 536870911) (any_of HT_.out (by kernel_rfl)) ?_
  refine Kp_ 29 46 (Bz 71 1073741823) (any_of HT_.out (by kernel_rfl)) ?_
  refine Kp_ 30 47 (Bz 71 2147483647) (any_of HT_.out (by kernel_rfl)) ?_
  refine Ko_ 31 48 (Bz 71 4294967295) (take_ofW HT_.out HW_.out (by kernel_rfl)) hHeld ?_
  refine one_ (i := 32) (N := some 49) (Bz 71 8589934591) rfl rfl (one_of HT_.out (by kernel_rfl)) (by decide) (fun K hK => ?_)
  refine goes_ Tryd.func24 (by kernel_rfl) rfl #[.agg #[.int .u64 2, .int .u64 1, .int .u64 0, .int .u64 7], .int .i64 5] (by rfl) rfl rfl (by (try simp only [List.map_toArray, List.map_cons, List.map_nil]); first | done | rfl | (simp only [List.length_drop, List.length_take]; rfl)) ?_
  with_reducible refine (vec_At.calls 2 1 0 7 5 t184 _ A15.out).mono ?_
  rintro e w53 ⟨rfl, hb⟩
  refine ⟨_, rfl, ?_⟩
  replace BK158 := Kb_ BK158 hb
  replace BK159 := Kb_ BK159 hb
  replace BK167 := Kb_ BK167 hb
  replace BK168 := Kb_ BK168 hb
  replace HB := Ks_ HB hb
  (try clear hb)
  (try clear hb2)
  (try clear hk)
  (try clear hi)
  refine hK.out _ _ ⟨Km_ BK158 0, Km_ BK158 1, Km_ BK158 2, Km_ BK158 3, Km_ BK159 0, Km_ BK159 1, Km_ BK159 2, Km_ BK159 3, Km_ BK167 0, Km_ BK167 1, Km_ BK167 2, Km_ BK167 3, Km_ BK168 0, Km_ BK168 1⟩ (fun hHeld => ?_)
  clear hK K
  refine Kn_ 49 ?_
  refine Kp_ 33 50 (Bz 71 17179869183) (any_of HT_.out (by kernel_rfl)) ?_
  refine Kp_ 34 51 (Bz 71 34359738367) (any_of HT_.out (by kernel_rfl)) ?_
  refine Kp_ 35 52 (Bz 71 68719476735) (any_of HT_.out (by kernel_rfl)) ?_
  refine Ko_ 36 53 (Bz 71 137438953471) (take_ofW HT_.out HW_.out (by kernel_rfl)) hHeld ?_
  refine one_ (i := 37) (N := some 54) (Bz 71 274877906943) rfl rfl (one_of HT_.out (by kernel_rfl)) (by decide) (fun K hK => ?_)
  refine goes_ Tryd.func16 (by kernel_rfl) rfl #[.agg #[.int .u64 1, .int .u64 2, .int .u64 0, .int .u64 0], .int .i64 2, .int .u64 9] (by rfl) rfl rfl (by (try simp only [List.map_toArray, List.map_cons, List.map_nil]); first | done | rfl | (simp only [List.length_drop, List.length_take]; rfl)) ?_
  with_reducible refine (vec_With.calls 1 2 0 0 2 9 t185 t186 t187 t188 _ A17.out).mono ?_
  rintro e w54 ⟨rfl, hb⟩
  refine ⟨_, rfl, ?_⟩
  replace BK158 := Kb_ BK158 hb
  replace BK159 := Kb_ BK159 hb
  replace BK167 := Kb_ BK167 hb
  replace BK168 := Kb_ BK168 hb
  replace HB := Ks_ HB hb
  (try clear hb)
  (try clear hb2)
  (try clear hk)
  (try clear hi)
  refine hK.out _ _ ⟨Km_ BK158 0, Km_ BK158 1, Km_ BK158 2, Km_ BK158 3, Km_ BK159 0, Km_ BK159 1, Km_ BK159 2, Km_ BK159 3, Km_ BK167 0, Km_ BK167 1, Km_ BK167 2, Km_ BK167 3, Km_ BK168 0, Km_ BK168 1⟩ (fun hHeld => ?_)
  clear hK K
  refine Kn_ 54 ?_
  refine Ko_ 38 55 (Bz 71 549755813887) (take_ofW HT_.out HW_.out (by kernel_rfl)) hHeld ?_
  refine Kp_ 39 56 (Bz 71 1099511627775) (any_of HT_.out (by kernel_rfl)) ?_
  refine Kp_ 40 57 (Bz 71 2199023255551) (any_of HT_.out (by kernel_rfl)) ?_
  refine Kp_ 41 58 (Bz 71 4398046511103) (any_of HT_.out (by kernel_rfl)) ?_
  refine Ko_ 42 59 (Bz 71 8796093022207) (take_ofW HT_.out HW_.out (by kernel_rfl)) hHeld ?_
  refine one_ (i := 43) (N := some 60) (Bz 71 17592186044415) rfl rfl (one_of HT_.out (by kernel_rfl)) (by decide) (fun K hK => ?_)
  refine goes_ Tryd.func26 (by kernel_rfl) rfl #[.agg #[.int .u64 2, .int .u64 1, .int .u64 0, .int .u64 7]] (by rfl) rfl rfl (by (try simp only [List.map_toArray, List.map_cons, List.map_nil]); first | done | rfl | (simp only [List.length_drop, List.length_take]; rfl)) ?_
  with_reducible refine (vec_Sum.calls 2 1 0 7 t189 _ A19.out).mono ?_
  rintro e w55 ⟨rfl, hb⟩
  refine ⟨_, rfl, ?_⟩
  replace BK158 := Kb_ BK158 hb
  replace BK159 := Kb_ BK159 hb
  replace BK167 := Kb_ BK167 hb
  replace BK168 := Kb_ BK168 hb
  replace HB := Ks_ HB hb
  (try clear hb)
  (try clear hb2)
  (try clear hk)
  (try clear hi)
  refine hK.out _ _ ⟨Km_ BK158 0, Km_ BK158 1, Km_ BK158 2, Km_ BK158 3, Km_ BK159 0, Km_ BK159 1, Km_ BK159 2, Km_ BK159 3, Km_ BK167 0, Km_ BK167 1, Km_ BK167 2, Km_ BK167 3, Km_ BK168 0, Km_ BK168 1⟩ (fun hHeld => ?_)
  clear hK K
  refine Kn_ 60 ?_
  refine Kp_ 44 61 (Bz 71 35184372088831) (any_of HT_.out (by kernel_rfl)) ?_
  refine Kp_ 45 62 (Bz 71 70368744177663) (any_of HT_.out (by kernel_rfl)) ?_
  refine Kp_ 46 63 (Bz 71 140737488355327) (any_of HT_.out (by kernel_rfl)) ?_
  refine Ko_ 47 64 (Bz 71 281474976710655) (take_ofW HT_.out HW_.out (by kernel_rfl)) hHeld ?_
  refine Ko_ 48 65 (Bz 71 562949953421311) (take_ofW HT_.out HW_.out (by kernel_rfl)) hHeld ?_
  refine Kp_ 49 66 (Bz 71 1125899906842623) (any_of HT_.out (by kernel_rfl)) ?_
  refine Kp_ 50 67 (Bz 71 2251799813685247) (any_of HT_.out (by kernel_rfl)) ?_
  refine Kp_ 51 68 (Bz 71 4503599627370495) (any_of HT_.out (by kernel_rfl)) ?_
  refine Kp_ 52 69 (Bz 71 9007199254740991) (any_of HT_.out (by kernel_rfl)) ?_
  refine Ko_ 53 70 (Bz 71 18014398509481983) (take_ofW HT_.out HW_.out (by kernel_rfl)) hHeld ?_
  refine Kp_ 54 71 (Bz 71 36028797018963967) (any_of HT_.out (by kernel_rfl)) ?_
  refine Kp_ 55 72 (Bz 71 72057594037927935) (any_of HT_.out (by kernel_rfl)) ?_
  refine Kp_ 56 73 (Bz 71 144115188075855871) (any_of HT_.out (by kernel_rfl)) ?_
  refine Ko_ 57 74 (Bz 71 288230376151711743) (take_ofW HT_.out HW_.out (by kernel_rfl)) hHeld ?_
  refine one_ (i := 58) (N := some 75) (Bz 71 576460752303423487) rfl rfl (one_of HT_.out (by kernel_rfl)) (by decide) (fun K hK => ?_)
  refine goes_ Tryd.func30 (by kernel_rfl) rfl #[.agg #[.int .u64 1, .int .u64 2, .int .u64 0, .int .u64 0]] (by rfl) rfl rfl (by (try simp only [List.map_toArray, List.map_cons, List.map_nil]); first | done | rfl | (simp only [List.length_drop, List.length_take]; rfl)) ?_
  with_reducible refine (vec_Text.calls 1 2 0 0 t190 _ A23.out).mono ?_
  rintro e w56 ⟨rfl, hb⟩
  refine ⟨_, rfl, ?_⟩
  replace BK158 := Kb_ BK158 hb
  replace BK159 := Kb_ BK159 hb
  replace BK167 := Kb_ BK167 hb
  replace BK168 := Kb_ BK168 hb
  replace HB := Ks_ HB hb
  (try clear hb)
  (try clear hb2)
  (try clear hk)
  (try clear hi)
  refine hK.out _ _ ⟨Km_ BK158 0, Km_ BK158 1, Km_ BK158 2, Km_ BK158 3, Km_ BK159 0, Km_ BK159 1, Km_ BK159 2, Km_ BK159 3, Km_ BK167 0, Km_ BK167 1, Km_ BK167 2, Km_ BK167 3, Km_ BK168 0, Km_ BK168 1⟩ (fun hHeld => ?_)
  clear hK K
  refine Kn_ 75 ?_
  refine Kp_ 59 76 (Bz 71 1152921504606846975) (any_of HT_.out (by kernel_rfl)) ?_
  refine Kp_ 60 77 (Bz 71 2305843009213693951) (any_of HT_.out (by kernel_rfl)) ?_
  refine Kp_ 61 78 (Bz 71 4611686018427387903) (any_of HT_.out (by kernel_rfl)) ?_
  refine Kp_ 63 80 (Bz 71 13835058055282163711) (any_of HT_.out (by kernel_rfl)) ?_
  refine one_ (i := 62) (N := some 79) (Bz 71 18446744073709551615) rfl rfl (one_of HT_.out (by kernel_rfl)) (by decide) (fun K hK => ?_)
  refine goes_ Tryd.func18 (by kernel_rfl) rfl #[.slice none 0 0] (by rfl) rfl rfl (by (try simp only [List.map_toArray, List.map_cons, List.map_nil]); first | done | rfl | (simp only [List.length_drop, List.length_take]; rfl)) ?_
  refine (vec_All.calls k _ _ ([] : List (S24)) t191 t192 t193 t194 _ ?side1 ?side2 A25.out).mono ?_
  (case side1 => exact Kd.C_nil _ _)
  (case side2 => exact Nat.le_refl _)
  rintro e w57 ⟨rfl, hb⟩
  refine ⟨_, rfl, ?_⟩
  replace BK158 := Kb_ BK158 hb
  replace BK159 := Kb_ BK159 hb
  replace BK167 := Kb_ BK167 hb
  replace BK168 := Kb_ BK168 hb
  replace HB := Ks_ HB hb
  (try clear hb)
  (try clear hb2)
  (try clear hk)
  (try clear hi)
  refine hK.out _ _ ⟨Km_ BK158 0, Km_ BK158 1, Km_ BK158 2, Km_ BK158 3, Km_ BK159 0, Km_ BK159 1, Km_ BK159 2, Km_ BK159 3, Km_ BK167 0, Km_ BK167 1, Km_ BK167 2, Km_ BK167 3, Km_ BK168 0, Km_ BK168 1⟩ (fun hHeld => ?_)
  clear hK K
  refine Kn_ 79 ?_
  refine Kp_ 64 81 (Bz 71 36893488147419103231) (any_of HT_.out (by kernel_rfl)) ?_
  refine Kp_ 65 82 (Bz 71 73786976294838206463) (any_of HT_.out (by kernel_rfl)) ?_
  refine Kp_ 66 83 (Bz 71 147573952589676412927) (any_of HT_.out (by kernel_rfl)) ?_
  refine Ko_ 67 84 (Bz 71 295147905179352825855) (take_ofW HT_.out HW_.out (by kernel_rfl)) hHeld ?_
  refine one_ (i := 68) (N := some 85) (Bz 71 590295810358705651711) rfl rfl (one_of HT_.out (by kernel_rfl)) (by decide) (fun K hK => ?_)
  refine goes_ Tryd.func20 (by kernel_rfl) rfl #[.agg #[.int .u64 1, .int .u64 2, .int .u64 0, .int .u64 0]] (by rfl) rfl rfl (by (try simp only [List.map_toArray, List.map_cons, List.map_nil]); first | done | rfl | (simp only [List.length_drop, List.length_take]; rfl)) ?_
  with_reducible refine (vec_Right.calls 1 2 0 0 true _ A27.out).mono ?_
  rintro e w58 ⟨rfl, hb⟩
  refine ⟨_, rfl, ?_⟩
  replace BK158 := Kb_ BK158 hb
  replace BK159 := Kb_ BK159 hb
  replace BK167 := Kb_ BK167 hb
  replace BK168 := Kb_ BK168 hb
  replace HB := Ks_ HB hb
  (try clear hb)
  (try clear hb2)
  (try clear hk)
  (try clear hi)
  refine hK.out _ _ ⟨Km_ BK158 0, Km_ BK158 1, Km_ BK158 2, Km_ BK158 3, Km_ BK159 0, Km_ BK159 1, Km_ BK159 2, Km_ BK159 3, Km_ BK167 0, Km_ BK167 1, Km_ BK167 2, Km_ BK167 3, Km_ BK168 0, Km_ BK168 1⟩ (fun hHeld => ?_)
  clear hK K
  refine Kn_ 85 ?_
  refine Kp_ 69 86 (Bz 71 1180591620717411303423) (any_of HT_.out (by kernel_rfl)) ?_
  refine Kp_ 70 0 (Bz 71 2361183241434822606847) (any_of HT_.out (by kernel_rfl)) ?_
  refine done_ (done_of HT_.out (by kernel_rfl)) ?_
  try go_wp2
  go_ret
  exact ⟨Kh_, K4a_ HB GE158 GE159 GE167 GE168⟩
/-! ### tenementlaw06_Vector_vector: function 11 -/
def tenementlaw06_Vector_vector.l0 : Nat → Int → Int → Int → Int → Int → Bool → Option (Int × Int × Int × Int)
  | 0, _, _, _, _, _, _ => none
  | k + 1, x3, x197000, x197001, x197002, x197003, x197004 => if x3 < 4 then (if x3 = 0 then (tenementlaw06_Vector_vector.l0 k (wrap64 (x3 + 1)) (Int.tmod x197000 4) x197001 x197002 x197003 x197004) else (if x3 = 1 then (tenementlaw06_Vector_vector.l0 k (wrap64 (x3 + 1)) x197000 (Int.tmod x197001 4) x197002 x197003 x197004) else (if x3 = 2 then (tenementlaw06_Vector_vector.l0 k (wrap64 (x3 + 1)) x197000 x197001 (Int.tmod x197002 4) x197003 x197004) else (if x3 = 3 then (tenementlaw06_Vector_vector.l0 k (wrap64 (x3 + 1)) x197000 x197001 x197002 (Int.tmod x197003 4) x197004) else (none))))) else (some (x197000, x197001, x197002, x197003))
def tenementlaw06_Vector_vector.f (k : Nat) (a0_0 : Int) (a0_1 : Int) (a0_2 : Int) (a0_3 : Int) (a0_4 : Bool) : Option (Int × Int × Int × Int) := if a0_4 = true then (tenementlaw06_Vector_vector.l0 k 0 a0_0 a0_1 a0_2 a0_3 a0_4) else (some (a0_0, a0_1, a0_2, a0_3))
theorem tenementlaw06_Vector_vector.mono_l : ∀ k, (∀ y0 y1 y2 y3 y4 y5, LeO (tenementlaw06_Vector_vector.l0 k y0 y1 y2 y3 y4 y5) (tenementlaw06_Vector_vector.l0 (k + 1) y0 y1 y2 y3 y4 y5))
  | 0 => fun _ _ _ _ _ _ r h => by simp [tenementlaw06_Vector_vector.l0] at h
  | k + 1 => by
    have ih0 := tenementlaw06_Vector_vector.mono_l k
    · intro y0 y1 y2 y3 y4 y5
      unfold tenementlaw06_Vector_vector.l0
      repeat' first
      | (with_reducible exact ih0 _ _ _ _ _ _)
      | (with_reducible exact LeO.refl _)
      | (with_reducible exact LeO.none _)
      | (with_reducible refine LeO.ite ?_ ?_)
      | (with_reducible refine LeO.bind ?_ (fun _ => ?_))
      | exact ih0 _ _ _ _ _ _
      | exact LeO.none _
      | refine LeO.ite ?_ ?_
      | refine LeO.bind ?_ (fun _ => ?_)
theorem tenementlaw06_Vector_vector.mono : ∀ a0 a1 a2 a3 a4 k, LeO (tenementlaw06_Vector_vector.f k a0 a1 a2 a3 a4) (tenementlaw06_Vector_vector.f (k + 1) a0 a1 a2 a3 a4) := by
  intro a0 a1 a2 a3 a4 k
  have ih0 := tenementlaw06_Vector_vector.mono_l k
  unfold tenementlaw06_Vector_vector.f
  repeat' first
      | (with_reducible exact ih0 _ _ _ _ _ _)
      | (with_reducible exact LeO.refl _)
      | (with_reducible exact LeO.none _)
      | (with_reducible refine LeO.ite ?_ ?_)
      | (with_reducible refine LeO.bind ?_ (fun _ => ?_))
      | exact ih0 _ _ _ _ _ _
      | exact LeO.none _
      | refine LeO.ite ?_ ?_
      | refine LeO.bind ?_ (fun _ => ?_)
set_option maxHeartbeats 8000000 in
set_option maxRecDepth 100000 in
theorem tenementlaw06_Vector_vector.calls (k : Nat) (a0_0 : Int) (a0_1 : Int) (a0_2 : Int) (a0_3 : Int) (a0_4 : Bool) (r1 : Int) (r2 : Int) (r3 : Int) (r4 : Int) (w : World) (h : tenementlaw06_Vector_vector.f k a0_0 a0_1 a0_2 a0_3 a0_4 = some (r1, r2, r3, r4)) :
    Calls Tryd.prog 11 #[.agg #[.int .u64 a0_0, .int .u64 a0_1, .int .u64 a0_2, .int .u64 a0_3, .bool a0_4]] w fun e w' => e = .returned (.agg #[.int .u64 r1, .int .u64 r2, .int .u64 r3, .int .u64 r4]) ∧ Below w.heap.size w w' := by
  have hu26 := Tryd.underlying26
  have hu24 := Tryd.underlying24
  have HB := Aside0.mk (Below.refl w.heap.size w)
  have H : (if a0_4 = true then (tenementlaw06_Vector_vector.l0 k 0 a0_0 a0_1 a0_2 a0_3 a0_4) else (some (a0_0, a0_1, a0_2, a0_3))) = some (r1, r2, r3, r4) := h
  clear h
  by_cases c2 : a0_4 = true
  rotate_left
  · replace c2 := Bool.eq_false_iff.mpr c2
    subst c2
    have H1 : (some (a0_0, a0_1, a0_2, a0_3)) = some (r1, r2, r3, r4) := by rw [if_neg (show ¬ (false = true) by decide)] at H; exact H
    clear H
    have H := H1
    clear H1
    simp only [Option.some.injEq, Prod.mk.injEq] at H
    obtain ⟨rfl, rfl, rfl, rfl⟩ := H
    go_enter Tryd.func11, Tryd.ntmps11
    go_wp2_with (first | ((with_reducible refine gate_dst (N := 1) rfl ?_); refine Ka_ 1 #[.int .u64 a0_0, .int .u64 a0_1, .int .u64 a0_2, .int .u64 a0_3, .bool false] 26 ?_; intro gb196 hg w23 hbox hb; have BK196 := Aside0.mk (hbox); have GW196 := Kw_ HB hg; have GE196 := GW196; replace HB := Ks_ HB hb; clear hb hbox hg) | ((with_reducible refine gate_dst (N := 2) rfl ?_); refine Ka_ 2 #[.int .u64 0, .int .u64 0, .int .u64 0, .int .u64 0] 24 ?_; intro gb197 hg w24 hbox hb; have BK197 := Aside0.mk (hbox); have GW197 := Kw_ HB hg; have GE197 := GW197; have NB196_197 := Kl_ BK196 hg; have NB197_196 := Kr_ BK196 hg; replace BK196 := Kb_ BK196 hb; replace HB := Ks_ HB hb; clear hb hbox hg; have hnb25 := NB196_197.out; have hnc25 := NB197_196.out; obtain ⟨hcz26_0, hcz26_1, hcz26_2, hcz26_3, hcz26_4, hfz26_0, hfz26_1, hfz26_2, hfz26_3, hfz26_4⟩ := Ke5_ BK196.out; obtain ⟨hcz27_0, hcz27_1, hcz27_2, hcz27_3, hfz27_0, hfz27_1, hfz27_2, hfz27_3⟩ := Ke4_ BK197.out))
    refine bodyPost_ret (results_cell_row rfl _ _ gb197 24 #[.int .u64 a0_0, .int .u64 a0_1, .int .u64 a0_2, .int .u64 a0_3] (0, 0) _ rfl (by refine Kv_ ?_; refine blk_put (cs := #[.int .u64 a0_0, .int .u64 a0_1, .int .u64 a0_2, .int .u64 0]) ?_ 3 _ rfl; refine Kv_ ?_; refine blk_put (cs := #[.int .u64 a0_0, .int .u64 a0_1, .int .u64 0, .int .u64 0]) ?_ 2 _ rfl; refine Kv_ ?_; refine blk_put (cs := #[.int .u64 a0_0, .int .u64 0, .int .u64 0, .int .u64 0]) ?_ 1 _ rfl; refine Kv_ ?_; refine blk_put (cs := #[.int .u64 0, .int .u64 0, .int .u64 0, .int .u64 0]) ?_ 0 _ rfl; exact Kq_ BK197) Tryd.underlying24 rfl (by kernel_rfl)) rfl ?_
    exact ⟨Kh_, K2a_ HB GE196 GE197⟩
  subst c2
  have H1 : (tenementlaw06_Vector_vector.l0 k 0 a0_0 a0_1 a0_2 a0_3 true) = some (r1, r2, r3, r4) := by rw [if_pos rfl] at H; exact H
  clear H
  have H := H1
  clear H1
  have H' := Aside0.mk H
  clear H
  go_enter Tryd.func11, Tryd.ntmps11
  go_wp2_with (first | ((with_reducible refine gate_dst (N := 1) rfl ?_); refine Ka_ 1 #[.int .u64 a0_0, .int .u64 a0_1, .int .u64 a0_2, .int .u64 a0_3, .bool true] 26 ?_; intro gb196 hg w3 hbox hb; have BK196 := Aside0.mk (hbox); have GW196 := Kw_ HB hg; have GE196 := GW196; replace HB := Ks_ HB hb; clear hb hbox hg) | ((with_reducible refine gate_dst (N := 2) rfl ?_); refine Ka_ 2 #[.int .u64 0, .int .u64 0, .int .u64 0, .int .u64 0] 24 ?_; intro gb197 hg w4 hbox hb; have BK197 := Aside0.mk (hbox); have GW197 := Kw_ HB hg; have GE197 := GW197; have NB196_197 := Kl_ BK196 hg; have NB197_196 := Kr_ BK196 hg; replace BK196 := Kb_ BK196 hb; replace HB := Ks_ HB hb; clear hb hbox hg; have hnb5 := NB196_197.out; have hnc5 := NB197_196.out; obtain ⟨hcz6_0, hcz6_1, hcz6_2, hcz6_3, hcz6_4, hfz6_0, hfz6_1, hfz6_2, hfz6_3, hfz6_4⟩ := Ke5_ BK196.out))
  go_loopg [3] k (fun kq v3 w' => ∃ (x3_1 : Int) (x197000_1 : Int) (x197001_1 : Int) (x197002_1 : Int) (x197003_1 : Int), v3 = .int .i64 x3_1 ∧ Aside0 (tenementlaw06_Vector_vector.l0 kq x3_1 x197000_1 x197001_1 x197002_1 x197003_1 true = some (r1, r2, r3, r4)) ∧ Aside0 (kq ≤ k) ∧ Aside0 (w'.heap[gb196]? = some (.cells #[.int .u64 x197000_1, .int .u64 x197001_1, .int .u64 x197002_1, .int .u64 x197003_1, .bool true] 26 (0, 0))) ∧ Aside0 (w'.heap[gb197]? = some (.cells #[.int .u64 0, .int .u64 0, .int .u64 0, .int .u64 0] 24 (0, 0))) ∧ Aside0 (Below w.heap.size w w'))
  case atStart => exact ⟨(0), (a0_0), (a0_1), (a0_2), (a0_3), (by first | rfl | (simp; done) | (simp [*]; done)), H', ⟨Nat.le_refl _⟩, ⟨by exact Kq_ BK196⟩, ⟨by exact Kq_ BK197⟩, ⟨K2a_ HB GE196 GE197⟩⟩
  case round =>
    clear H'
    try clear c1
    try clear c2
    try clear p2
    try clear c5
    try clear hcz6_0
    try clear hcz6_1
    try clear hcz6_2
    try clear hcz6_3
    try clear hcz6_4
    try clear hfz6_0
    try clear hfz6_1
    try clear hfz6_2
    try clear hfz6_3
    try clear hfz6_4
    obtain ⟨x3_1, x197000_1, x197001_1, x197002_1, x197003_1, rfl, HA, HK1, BK196, BK197, HB⟩ := hrel
    cases gk with
    | zero => exact absurd HA.out (by simp [tenementlaw06_Vector_vector.l0])
    | succ k1 =>
      have H := HA.out
      clear HA
      simp only [tenementlaw06_Vector_vector.l0] at H
      by_cases c7 : x3_1 < 4
      rotate_left
      · rw [if_neg c7] at H
        have c7b0 : decide (x3_1 < 4) = false := decide_eq_false c7
        clear c7
        simp only [Option.some.injEq, Prod.mk.injEq] at H
        obtain ⟨rfl, rfl, rfl, rfl⟩ := H
        have hnb20 := NB196_197.out
        have hnc20 := NB197_196.out
        obtain ⟨hcz21_0, hcz21_1, hcz21_2, hcz21_3, hcz21_4, hfz21_0, hfz21_1, hfz21_2, hfz21_3, hfz21_4⟩ := Ke5_ BK196.out
        obtain ⟨hcz22_0, hcz22_1, hcz22_2, hcz22_3, hfz22_0, hfz22_1, hfz22_2, hfz22_3⟩ := Ke4_ BK197.out
        go_wp2
        refine bodyPost_ret (results_cell_row rfl _ _ gb197 24 #[.int .u64 x197000_1, .int .u64 x197001_1, .int .u64 x197002_1, .int .u64 x197003_1] (0, 0) _ rfl (by refine Kv_ ?_; refine blk_put (cs := #[.int .u64 x197000_1, .int .u64 x197001_1, .int .u64 x197002_1, .int .u64 0]) ?_ 3 _ rfl; refine Kv_ ?_; refine blk_put (cs := #[.int .u64 x197000_1, .int .u64 x197001_1, .int .u64 0, .int .u64 0]) ?_ 2 _ rfl; refine Kv_ ?_; refine blk_put (cs := #[.int .u64 x197000_1, .int .u64 0, .int .u64 0, .int .u64 0]) ?_ 1 _ rfl; refine Kv_ ?_; refine blk_put (cs := #[.int .u64 0, .int .u64 0, .int .u64 0, .int .u64 0]) ?_ 0 _ rfl; exact Kq_ BK197) Tryd.underlying24 rfl (by kernel_rfl)) rfl ?_
        exact ⟨Kh_, K2a_ HB GE196 GE197⟩
      rw [if_pos c7] at H
      have c7b0 : decide (x3_1 < 4) = true := decide_eq_true c7
      clear c7
      by_cases c8 : x3_1 = 0
      · subst c8
        have H1 : (tenementlaw06_Vector_vector.l0 k1 1 (Int.tmod x197000_1 4) x197001_1 x197002_1 x197003_1 true) = some (r1, r2, r3, r4) := by rw [if_pos rfl] at H; (try simp only [show wrap64 ((0 : Int) + 1) = 1 from by first | rfl | decide | (unfold wrap64; omega), show wrap64 ((0 : Int) - 1) = -1 from by first | rfl | decide | (unfold wrap64; omega)] at H); exact H
        clear H
        have H := H1
        clear H1
        have H' := Aside0.mk H
        clear H
        have hnb9 := NB196_197.out
        have hnc9 := NB197_196.out
        obtain ⟨hcz10_0, hcz10_1, hcz10_2, hcz10_3, hcz10_4, hfz10_0, hfz10_1, hfz10_2, hfz10_3, hfz10_4⟩ := Ke5_ BK196.out
        go_wp2
        go_roundg k1
        case measure => have := HK1.out; omega
        case rel => exact ⟨(1), (Int.tmod x197000_1 4), (x197001_1), (x197002_1), (x197003_1), (by first | rfl | (simp; done) | (simp [*]; done)), H', ⟨by have := HK1.out; omega⟩, ⟨by refine Kv_ ?_; refine blk_put (cs := #[.int .u64 x197000_1, .int .u64 x197001_1, .int .u64 x197002_1, .int .u64 x197003_1, .bool true]) ?_ 0 _ rfl; exact Kq_ BK196⟩, ⟨by exact K1b_ BK197 NB197_196⟩, ⟨K2a_ HB GE196 GE197⟩⟩
      rw [if_neg c8] at H
      by_cases c11 : x3_1 = 1
      · subst c11
        have H1 : (tenementlaw06_Vector_vector.l0 k1 2 x197000_1 (Int.tmod x197001_1 4) x197002_1 x197003_1 true) = some (r1, r2, r3, r4) := by rw [if_pos rfl] at H; (try simp only [show wrap64 ((1 : Int) + 1) = 2 from by first | rfl | decide | (unfold wrap64; omega), show wrap64 ((1 : Int) - 1) = 0 from by first | rfl | decide | (unfold wrap64; omega)] at H); exact H
        clear H
        have H := H1
        clear H1
        have H' := Aside0.mk H
        clear H
        have hnb12 := NB196_197.out
        have hnc12 := NB197_196.out
        obtain ⟨hcz13_0, hcz13_1, hcz13_2, hcz13_3, hcz13_4, hfz13_0, hfz13_1, hfz13_2, hfz13_3, hfz13_4⟩ := Ke5_ BK196.out
        go_wp2
        go_roundg k1
        case measure => have := HK1.out; omega
        case rel => exact ⟨(2), (x197000_1), (Int.tmod x197001_1 4), (x197002_1), (x197003_1), (by first | rfl | (simp; done) | (simp [*]; done)), H', ⟨by have := HK1.out; omega⟩, ⟨by refine Kv_ ?_; refine blk_put (cs := #[.int .u64 x197000_1, .int .u64 x197001_1, .int .u64 x197002_1, .int .u64 x197003_1, .bool true]) ?_ 1 _ rfl; exact Kq_ BK196⟩, ⟨by exact K1b_ BK197 NB197_196⟩, ⟨K2a_ HB GE196 GE197⟩⟩
      rw [if_neg c11] at H
      by_cases c14 : x3_1 = 2
      · subst c14
        have H1 : (tenementlaw06_Vector_vector.l0 k1 3 x197000_1 x197001_1 (Int.tmod x197002_1 4) x197003_1 true) = some (r1, r2, r3, r4) := by rw [if_pos rfl] at H; (try simp only [show wrap64 ((2 : Int) + 1) = 3 from by first | rfl | decide | (unfold wrap64; omega), show wrap64 ((2 : Int) - 1) = 1 from by first | rfl | decide | (unfold wrap64; omega)] at H); exact H
        clear H
        have H := H1
        clear H1
        have H' := Aside0.mk H
        clear H
        have hnb15 := NB196_197.out
        have hnc15 := NB197_196.out
        obtain ⟨hcz16_0, hcz16_1, hcz16_2, hcz16_3, hcz16_4, hfz16_0, hfz16_1, hfz16_2, hfz16_3, hfz16_4⟩ := Ke5_ BK196.out
        go_wp2
        go_roundg k1
        case measure => have := HK1.out; omega
        case rel => exact ⟨(3), (x197000_1), (x197001_1), (Int.tmod x197002_1 4), (x197003_1), (by first | rfl | (simp; done) | (simp [*]; done)), H', ⟨by have := HK1.out; omega⟩, ⟨by refine Kv_ ?_; refine blk_put (cs := #[.int .u64 x197000_1, .int .u64 x197001_1, .int .u64 x197002_1, .int .u64 x197003_1, .bool true]) ?_ 2 _ rfl; exact Kq_ BK196⟩, ⟨by exact K1b_ BK197 NB197_196⟩, ⟨K2a_ HB GE196 GE197⟩⟩
      rw [if_neg c14] at H
      by_cases c17 : x3_1 = 3
      rotate_left
      · rw [if_neg c17] at H
        exact absurd H (by simp)
      subst c17
      have H1 : (tenementlaw06_Vector_vector.l0 k1 4 x197000_1 x197001_1 x197002_1 (Int.tmod x197003_1 4) true) = some (r1, r2, r3, r4) := by rw [if_pos rfl] at H; (try simp only [show wrap64 ((3 : Int) + 1) = 4 from by first | rfl | decide | (unfold wrap64; omega), show wrap64 ((3 : Int) - 1) = 2 from by first | rfl | decide | (unfold wrap64; omega)] at H); exact H
      clear H
      have H := H1
      clear H1
      have H' := Aside0.mk H
      clear H
      have hnb18 := NB196_197.out
      have hnc18 := NB197_196.out
      obtain ⟨hcz19_0, hcz19_1, hcz19_2, hcz19_3, hcz19_4, hfz19_0, hfz19_1, hfz19_2, hfz19_3, hfz19_4⟩ := Ke5_ BK196.out
      go_wp2
      go_roundg k1
      case measure => have := HK1.out; omega
      case rel => exact ⟨(4), (x197000_1), (x197001_1), (x197002_1), (Int.tmod x197003_1 4), (by first | rfl | (simp; done) | (simp [*]; done)), H', ⟨by have := HK1.out; omega⟩, ⟨by refine Kv_ ?_; refine blk_put (cs := #[.int .u64 x197000_1, .int .u64 x197001_1, .int .u64 x197002_1, .int .u64 x197003_1, .bool true]) ?_ 3 _ rfl; exact Kq_ BK196⟩, ⟨by exact K1b_ BK197 NB197_196⟩, ⟨K2a_ HB GE196 GE197⟩⟩
end Go.Proofs.YtakhahfegialfaaDoor.Q

/- What an argument of a law reads as: the kinds of the printed words, opened out of the form's reading, whatever the type: numbers, bools, texts, slices, structs, arrays. No program here. -/
set_option linter.unusedVariables false
set_option linter.unusedSimpArgs false
namespace Go.Proofs.YtakhahfegialfaaDoor.Open
open Go Go.RowKit Go.Deep Go.WideShapes Go.ChangeShapes Go.Proofs.YtakhahfegialfaaDoorW.PrintWords Go.Proofs.YtakhahfegialfaaDoorW.PrintLast Go.Proofs.YtakhahfegialfaaDoorW.PrintMore

structure To (P : Program) (t : TypeId) {α : Type} (K : Kd α) (wf : α → Prop) : Prop where
  sz : P.cellsOf t = K.sz
  go : ∀ {H : Type} (enc : TypeId × Value → H) (w : World) (fuel : Nat) (cs : List Value) (d : DataW H) (ps : List MemPlace),
    DataW.trod enc P w 0 (fun _ => true) true fuel t cs = some (d, ps) → (DataW.weights P t d).all (· ≤ reachBytes) = true → ∃ x : α, K.K w x cs ∧ wf x

theorem int {P : Program} {t : TypeId} {k : IntKind} (ht : P.underlying t = some (.int k)) (hs : P.cellsOf t = 1) : To P t (Kd.int k) (fun n => (Lit.int k n).wf = true) := by
  refine ⟨hs, fun enc w fuel cs d ps h _ => ?_⟩
  obtain ⟨n, rfl, _, hw⟩ := DataW.trod_int ht h
  exact ⟨n, rfl, hw⟩
theorem bool {P : Program} {t : TypeId} (ht : P.underlying t = some .bool) (hs : P.cellsOf t = 1) : To P t Kd.bool (fun _ => True) := by
  refine ⟨hs, fun enc w fuel cs d ps h _ => ?_⟩
  obtain ⟨b, rfl, _⟩ := DataW.trod_bool ht h
  exact ⟨b, rfl, trivial⟩
theorem string {P : Program} {t : TypeId} (ht : P.underlying t = some .string) (hs : P.cellsOf t = 1) : To P t Kd.string (fun s => s.size ≤ 140737488351232) := by
  refine ⟨hs, fun enc w fuel cs d ps h hw => ?_⟩
  obtain ⟨s, rfl, hx, _⟩ := DataW.trod_string ht h
  obtain ⟨rfl, _⟩ := Prod.mk.inj hx
  refine ⟨s, rfl, ?_⟩
  simp only [DataW.weights, List.all_cons, List.all_nil, Bool.and_true, reachBytes, Array.length_toList] at hw
  exact of_decide_eq_true hw
theorem weightsAll_mem {H : Type} {P : Program} {e : TypeId} : ∀ {l : List (DataW H)} {d : DataW H}, d ∈ l → (DataW.weightsAll P e l).all (· ≤ reachBytes) = true → (DataW.weights P e d).all (· ≤ reachBytes) = true
  | [], _, h, _ => by cases h
  | a :: l, d, h, hw => by
    simp only [DataW.weightsAll, List.all_append, Bool.and_eq_true] at hw
    rcases List.mem_cons.1 h with rfl | h
    · exact hw.1
    · exact weightsAll_mem h hw.2
theorem add_add (a : Addr) (i j : Nat) : (a.add i).add j = a.add (i + j) := by
  unfold Addr.add
  by_cases h1 : i = 0 <;> by_cases h2 : j = 0 <;> simp [h1, h2, Nat.add_assoc]
theorem slice {P : Program} {t e : TypeId} {α : Type} {K : Kd α} {wf : α → Prop} {B : Nat} (ht : P.underlying t = some (.slice e)) (hs : P.cellsOf t = 1) (hB : P.bytesOf e = B) (he : To P e K wf) :
    To P t (Kd.slice e K) (fun l => (∀ x ∈ l, wf x) ∧ l.length * B ≤ 140737488351232) := by
  refine ⟨hs, fun {H} enc w fuel cs d ps h hw => ?_⟩
  rcases open_slice ht h with ⟨rfl, _⟩ | ⟨a, len, cap, m, n, D, Pl, rfl, _, hl, hm, hmc, hx, hel⟩
  · exact ⟨[], ⟨none, 0, rfl, Nat.le_refl _, rfl, by simp, fun h => absurd h (by simp)⟩, by simp, by simp⟩
  · obtain ⟨rfl, _⟩ := Prod.mk.inj hx
    simp only [if_true] at hmc
    subst hmc
    have hw1 := hw
    simp only [DataW.weights, ht, List.all_cons, List.all_append, Bool.and_eq_true, decide_eq_true_eq, List.length_map, List.length_range, hB, reachBytes] at hw1
    have hchoose : ∀ i, i < len → ∃ x : α, (∃ cs', w.cells? 0 (a.add (i * P.cellsOf e)) (P.cellsOf e) = some cs' ∧ K.K w x cs') ∧ wf x := by
      intro i hi
      obtain ⟨cs', h1, h2⟩ := hel i (by omega)
      obtain ⟨x, hx1, hx2⟩ := he.go enc w n cs' (D i) (Pl i) h2 (weightsAll_mem (List.mem_map.2 ⟨i, by simpa using hi, rfl⟩) hw1.2.1)
      exact ⟨x, ⟨cs', h1, hx1⟩, hx2⟩
    have hall : ∀ k, k ≤ len → ∃ l : List α, l.length = k ∧ ∀ i x, l[i]? = some x → (∃ cs', w.cells? 0 (a.add (i * P.cellsOf e)) (P.cellsOf e) = some cs' ∧ K.K w x cs') ∧ wf x := by
      intro k
      induction k with
      | zero => intro _; exact ⟨[], rfl, fun i x h => by simp at h⟩
      | succ k ih =>
        intro hk
        obtain ⟨l, h1, h2⟩ := ih (by omega)
        obtain ⟨x, hx⟩ := hchoose k (by omega)
        refine ⟨l ++ [x], by simp [h1], fun i y hy => ?_⟩
        by_cases hi : i < l.length
        · exact h2 i y (by rwa [List.getElem?_append_left hi] at hy)
        · rw [List.getElem?_append_right (by omega)] at hy
          have : i = l.length := by
            have := (List.getElem?_eq_some_iff.1 hy).1
            simp at this; omega
          subst this
          simp at hy
          subst hy
          rw [h1]; exact hx
    obtain ⟨l, h1, h2⟩ := hall len (Nat.le_refl _)
    refine ⟨l, ⟨some a, m, by rw [h1], by omega, rfl, by unfold maxLen at hm; omega, fun _ => ⟨a, rfl, fun j p hj => ?_⟩⟩, ?_, ?_⟩
    · obtain ⟨⟨cs', g1, g2⟩, _⟩ := h2 j p hj
      obtain ⟨_, g3, g4⟩ := World.cells?_some g1
      refine ⟨cs', by rw [g3, he.sz], g2, fun i u hu => ?_⟩
      have hi : i < P.cellsOf e := by
        have := (List.getElem?_eq_some_iff.1 hu).1
        omega
      rw [← hu, ← g4 i hi, add_add, he.sz]
    · intro x hx
      obtain ⟨i, hi, rfl⟩ := List.getElem_of_mem hx
      exact (h2 i _ (List.getElem?_eq_getElem hi)).2
    · rw [h1]
      refine Nat.le_trans (Nat.mul_le_mul_right _ ?_) (of_decide_eq_true hw1.1)
      omega

/-! ### structs, arrays -/
structure Fs (P : Program) (o : Nat) (fs : List (TypeId × Nat)) {α : Type} (K : Kd α) (wf : α → Prop) : Prop where
  go : ∀ {H : Type} (enc : TypeId × Value → H) (w : World) (n : Nat) (cs : List Value) (xs : List (DataW H × List MemPlace)), cs.length = o + K.sz → xs.length = fs.length →
    (∀ (i : Nat) (f : TypeId × Nat), fs[i]? = some f → DataW.trod enc P w 0 (fun _ => true) true n f.1 ((cs.drop f.2).take (P.cellsOf f.1)) = xs[i]?) →
    (DataW.weightsEach P (fs.map (·.1)) (xs.map (·.1))).all (· ≤ reachBytes) = true → ∃ x : α, K.K w x (cs.drop o) ∧ wf x
theorem one {P : Program} {o : Nat} {t : TypeId} {α : Type} {K : Kd α} {wf : α → Prop} (h : To P t K wf) : Fs P o [(t, o)] K wf := by
  refine ⟨fun enc w n cs xs hl hx hr hw => ?_⟩
  match xs, hx with
  | [x], _ =>
    have h0 := hr 0 _ rfl
    simp only [List.getElem?_cons_zero] at h0
    rw [h.sz, List.take_of_length_le (by simp; omega)] at h0
    simp only [List.map_cons, List.map_nil, DataW.weightsEach, List.append_nil] at hw
    exact h.go enc w n _ x.1 x.2 h0 hw
theorem cons {P : Program} {o : Nat} {t : TypeId} {fs : List (TypeId × Nat)} {α β : Type} {K : Kd α} {wf : α → Prop} {L : Kd β} {wg : β → Prop} (h : To P t K wf) (hs : Fs P (o + K.sz) fs L wg) :
    Fs P o ((t, o) :: fs) (Kd.pair K L) (fun x => wf x.1 ∧ wg x.2) := by
  refine ⟨fun {H} enc w n cs xs hl hx hr hw => ?_⟩
  have hsz : (Kd.pair K L).sz = K.sz + L.sz := rfl
  match xs, hx with
  | x :: xs, hx =>
    have h0 := hr 0 _ rfl
    simp only [List.getElem?_cons_zero] at h0
    rw [h.sz] at h0
    simp only [List.map_cons, DataW.weightsEach, List.all_append, Bool.and_eq_true] at hw
    obtain ⟨a, ha, hwa⟩ := h.go enc w n _ x.1 x.2 h0 hw.1
    obtain ⟨b, hb, hwb⟩ := hs.go enc w n cs xs (by omega) (by simpa using hx) (fun i f hf => by have := hr (i + 1) f (by simpa using hf); simpa using this) hw.2
    refine ⟨(a, b), ⟨_, _, ?_, ha, hb⟩, hwa, hwb⟩
    rw [← List.drop_drop, List.take_append_drop]
theorem struct {P : Program} {t : TypeId} {fs : Array Field} {gs : List (TypeId × Nat)} {α : Type} {K : Kd α} {wf : α → Prop} (ht : P.underlying t = some (.struct fs)) (hg : fs.toList.map (fun f => (f.type, f.offset)) = gs) (hs : P.cellsOf t = K.sz) (h : Fs P 0 gs K wf) : To P t K wf := by
  refine ⟨hs, fun {H} enc w fuel cs d ps hr hw => ?_⟩
  obtain ⟨xs, n, _, hx, hl, hxl, hel⟩ := DataW.trod_struct ht hr
  obtain ⟨rfl, _⟩ := Prod.mk.inj hx
  have := h.go enc w n cs xs (by omega) (by rw [← hg]; simpa using hxl) (fun i f hf => ?_) ?_
  · simpa using this
  · rw [← hg] at hf
    simp only [List.getElem?_map, Option.map_eq_some_iff] at hf
    obtain ⟨g, hg1, rfl⟩ := hf
    exact hel i g (by simpa using hg1)
  · rw [← hg]
    simp only [DataW.weights, ht] at hw
    simpa [List.map_map, Function.comp_def] using hw
theorem weightsAll_each {H : Type} (P : Program) (e : TypeId) : ∀ (l : List (DataW H)) (ts : List TypeId), ts.length = l.length → (∀ t ∈ ts, t = e) → DataW.weightsEach P ts l = DataW.weightsAll P e l
  | [], [], _, _ => rfl
  | [], _ :: _, h, _ => by simp at h
  | _ :: _, [], h, _ => by simp at h
  | d :: l, t :: ts, h, ht => by
    simp only [DataW.weightsEach, DataW.weightsAll]
    rw [ht t (by simp), weightsAll_each P e l ts (by simpa using h) (fun x hx => ht x (by simp [hx]))]
theorem array {P : Program} {t e : TypeId} {n s : Nat} {α : Type} {K : Kd α} {wf : α → Prop} (ht : P.underlying t = some (.array n e)) (he : P.cellsOf e = s) (hs : P.cellsOf t = K.sz) (h : Fs P 0 ((List.range n).map fun i => (e, i * s)) K wf) : To P t K wf := by
  refine ⟨hs, fun {H} enc w fuel cs d ps hr hw => ?_⟩
  obtain ⟨xs, m, _, hx, hl, hxl, hel⟩ := DataW.trod_array ht hr
  obtain ⟨rfl, _⟩ := Prod.mk.inj hx
  have := h.go enc w m cs xs (by omega) (by simpa using hxl) (fun i f hf => ?_) ?_
  · simpa using this
  · simp only [List.getElem?_map, Option.map_eq_some_iff] at hf
    obtain ⟨g, hg1, rfl⟩ := hf
    have hi : i < n := by have := (List.getElem?_eq_some_iff.1 hg1).1; simpa using this
    have hgi : g = i := by
      have := (List.getElem?_eq_some_iff.1 hg1).2
      simpa using this.symm
    subst hgi
    have := hel g hi
    rw [he] at this ⊢
    exact this
  · simp only [DataW.weights, ht] at hw
    rw [weightsAll_each P e _ _ (by simp [hxl]) (by simp)]
    exact hw
theorem iso {P : Program} {t : TypeId} {α β : Type} {K : Kd α} {wf : α → Prop} (f : β → α) (g : α → β) (hfg : ∀ a, f (g a) = a) (h : To P t K wf) : To P t (Kd.iso K f) (fun b => wf (f b)) := by
  refine ⟨h.sz, fun {H} enc w fuel cs d ps hr hw => ?_⟩
  obtain ⟨x, h1, h2⟩ := h.go enc w fuel cs d ps hr hw
  refine ⟨g x, ?_, ?_⟩
  · show K.K w (f (g x)) cs
    rw [hfg]; exact h1
  · rw [hfg]; exact h2
theorem imp {P : Program} {t : TypeId} {α : Type} {K : Kd α} {wf wf' : α → Prop} (h : To P t K wf) (hi : ∀ x, wf x → wf' x) : To P t K wf' :=
  ⟨h.sz, fun enc w fuel cs d ps hr hw => by
    obtain ⟨x, h1, h2⟩ := h.go enc w fuel cs d ps hr hw
    exact ⟨x, h1, hi x h2⟩⟩
/-- At a parameter. -/
theorem at_param {P : Program} {t : TypeId} {α : Type} {K : Kd α} {wf : α → Prop} (h : To P t K wf) {H : Type} {enc : TypeId × Value → H} {w : World} {v : Value} {d : DataW H} {ps : List MemPlace} {ts : List TypeId} {ds : List (DataW H)} {j : Nat}
    (hsz : (DataW.weightsEach P ts ds).all (· ≤ reachBytes) = true) (ht : ts[j]? = some t) (hd : ds[j]? = some d) (hr : DataW.Trod enc P w 0 (fun _ => true) true t v d ps) : ∃ x : α, K.K w x v.cells.toList ∧ wf x := by
  obtain ⟨fuel, hf⟩ := hr
  refine h.go enc w fuel _ d ps hf ?_
  rw [List.all_eq_true]
  intro x hx
  exact List.all_eq_true.1 hsz x (DataW.weights_mem_each ht hd x hx)
theorem okWide_array {P : Program} {w : World} {r : Reach} {base : Nat} {t : TypeId} {v : Value} {n : Nat} {e : TypeId} (ht : P.underlying t = some (.array n e)) (h : Value.okWide P w r base t v) : ∃ cs, v = .agg cs := by
  simp only [Value.okWide, ht] at h
  obtain ⟨cs, h1, _⟩ := h
  exact ⟨cs, h1⟩
end Go.Proofs.YtakhahfegialfaaDoor.Open

set_option linter.unusedVariables false
namespace Go.Proofs.YtakhahfegialfaaDoor.Q
open Go.RowKit Go.Proofs.YtakhahfegialfaaDoor.Q Go.Proofs.YtakhahfegialfaaDoorW.PrintWords Go.Proofs.YtakhahfegialfaaDoorW.PrintLast Go.Proofs.YtakhahfegialfaaDoorW.PrintMore
open Go.Proofs.YtakhahfegialfaaDoor
def wf24 (x : S24) : Prop := ((Lit.int .u64 x.f0).wf = true) ∧ ((Lit.int .u64 x.f1).wf = true) ∧ ((Lit.int .u64 x.f2).wf = true) ∧ ((Lit.int .u64 x.f3).wf = true)
theorem to24 : Open.To Tryd.prog 24 k24 wf24 := Open.imp (Open.iso (fun x : S24 => (x.f0, (x.f1, (x.f2, x.f3)))) (fun y => (⟨y.1, y.2.1, y.2.2.1, y.2.2.2⟩ : S24)) (fun _ => rfl) (Open.array (n := 4) (e := 22) (s := 1) Tryd.underlying24 (by kernel_rfl) (by kernel_rfl) (show Open.Fs Tryd.prog 0 [(22, 0), (22, 1), (22, 2), (22, 3)] _ _ from (Open.cons (Open.int Tryd.underlying22 (by kernel_rfl)) (Open.cons (Open.int Tryd.underlying22 (by kernel_rfl)) (Open.cons (Open.int Tryd.underlying22 (by kernel_rfl)) (Open.one (Open.int Tryd.underlying22 (by kernel_rfl))))))))) (fun _ h => h)
def wf26 (x : S26) : Prop := (wf24 x.f0) ∧ (True)
theorem to26 : Open.To Tryd.prog 26 k26 wf26 := Open.imp (Open.iso (fun x : S26 => (x.f0, x.f1)) (fun y => (⟨y.1, y.2⟩ : S26)) (fun _ => rfl) (Open.struct Tryd.underlying26 (by rfl) (by kernel_rfl) (show Open.Fs Tryd.prog 0 [(24, 0), (4, 4)] _ _ from (Open.cons to24 (Open.one (Open.bool Tryd.underlying4 (by kernel_rfl))))))) (fun _ h => h)
end Go.Proofs.YtakhahfegialfaaDoor.Q

/- Texts as lists of bytes; wraps that do nothing. -/
set_option linter.unusedVariables false
set_option linter.unusedSimpArgs false
namespace Go.Proofs.YtakhahfegialfaaDoor.Pure
open Go.RowKit Go.Proofs.YtakhahfegialfaaDoorW.PrintWords Go.Proofs.YtakhahfegialfaaDoorW.PrintLast Go.Proofs.YtakhahfegialfaaDoorW.PrintMore

/-! ### texts as lists of bytes -/
def bl (s : ByteArray) : List Nat := s.data.toList.map UInt8.toNat
theorem bl_length (s : ByteArray) : (bl s).length = s.size := by unfold bl; rw [List.length_map, Array.length_toList]; rfl
theorem bl_lt (s : ByteArray) : ∀ b ∈ bl s, b < 256 := by
  intro b hb
  obtain ⟨u, _, rfl⟩ := List.mem_map.1 hb
  exact u.toNat_lt
theorem map_toNat_inj : ∀ {l m : List UInt8}, l.map UInt8.toNat = m.map UInt8.toNat → l = m
  | [], [], _ => rfl
  | [], _ :: _, h => by simp at h
  | _ :: _, [], h => by simp at h
  | a :: l, b :: m, h => by
    simp only [List.map_cons, List.cons.injEq] at h
    rw [UInt8.toNat_inj.1 h.1, map_toNat_inj h.2]
theorem ba_ext {s t : ByteArray} (h : s.data.toList = t.data.toList) : s = t := by
  cases s; cases t
  simp only [ByteArray.mk.injEq]
  exact Array.toList_inj.1 h
theorem bl_inj {s t : ByteArray} (h : bl s = bl t) : s = t := ba_ext (map_toNat_inj h)
theorem bl_append (s t : ByteArray) : bl (s ++ t) = bl s ++ bl t := by
  unfold bl; rw [← List.map_append, ByteArray.data_append]; simp
theorem bl_extract (s : ByteArray) (a b : Nat) : bl (s.extract a b) = ((bl s).take b).drop a := by
  unfold bl
  rw [← List.map_take, ← List.map_drop]
  congr 1
  simp [ByteArray.data_extract, Array.toList_extract, List.extract_eq_take_drop, List.drop_take]
theorem bl_take (s : ByteArray) (n : Nat) : bl (s.extract 0 n) = (bl s).take n := by rw [bl_extract, List.drop_zero]
theorem bl_drop (s : ByteArray) (n : Nat) : bl (s.extract n s.size) = (bl s).drop n := by rw [bl_extract, ← bl_length, List.take_length]
theorem toList_data (s : ByteArray) : s.toList = s.data.toList := by
  exact ByteArray.toList_eq s
theorem toList_iff {s t : ByteArray} : s.toList = t.toList ↔ s = t := by
  rw [toList_data, toList_data]; exact ⟨ba_ext, fun h => by rw [h]⟩
def NL (l : List Nat) : List Int := l.map fun n : Nat => (n : Int)
theorem bl_str (l : List Nat) (h : ∀ b ∈ l, b < 256) : bl (strOfNums (NL l)) = l := by
  unfold bl strOfNums NL
  simp only [List.map_map]
  conv => rhs; rw [← List.map_id l]
  apply List.map_congr_left
  intro b hb
  have := h b hb
  simp [UInt8.toNat_ofNat_of_lt', this]
theorem bl_empty : bl (⟨#[]⟩ : ByteArray) = [] := rfl
theorem bl_nil {s : ByteArray} : bl s = [] ↔ s = ⟨#[]⟩ := ⟨fun h => bl_inj (by rw [h]; rfl), fun h => by rw [h]; rfl⟩
theorem bt_bl (s : ByteArray) (i : Nat) (h : i < s.size) : ∃ b, (bl s)[i]? = some b ∧ bt s i = (b : Int) ∧ b < 256 := by
  have hl : i < (bl s).length := by rw [bl_length]; exact h
  refine ⟨(bl s)[i], List.getElem?_eq_getElem hl, ?_, bl_lt s _ (List.getElem_mem hl)⟩
  unfold bt
  rw [dif_pos (by simpa using h)]
  simp [bl, ByteArray.getElem_eq_getElem_data]
theorem wrap_u64 {x : Int} (h0 : 0 ≤ x) (h1 : x < 18446744073709551616) : IntKind.u64.wrap x = x := by
  simp only [IntKind.wrap_u64]; omega
theorem wrap64_id {x : Int} (h0 : -9223372036854775808 ≤ x) (h1 : x ≤ 9223372036854775807) : wrap64 x = x := by
  unfold wrap64; omega
end Go.Proofs.YtakhahfegialfaaDoor.Pure
