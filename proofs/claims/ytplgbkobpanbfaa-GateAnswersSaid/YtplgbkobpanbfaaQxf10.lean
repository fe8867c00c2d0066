-- Written by this session's own driver (wip/hybrid.py) of the kit's printer; contracts marked FOREIGN are by hand.
import Derived.Test.YtplgbkobpanbfaaQx0
namespace Go.Proofs.Ytplgbkobpanbfaa.Q
open Go.RowKit Go.Proofs.YtplgbkobpanbfaaW.PrintWords Go.Proofs.YtplgbkobpanbfaaW.PrintLast
set_option linter.unusedVariables false
set_option linter.unusedSimpArgs false

/-! ### tenementlaw19_Asked_request: function 10 -/
-- FOREIGN: a record's eight parts are changed, one by one
def tenementlaw19_Asked_request.f (a0_0 : ByteArray) (a0_1 : Int) (a0_2 : Int) (a0_3 : Int) (a0_4 : Int) (a0_5 : ByteArray) (a0_6 : ByteArray) (a0_7 : ByteArray) (a0_8 : Bool) : Option (ByteArray × Int × Int × Int × Int × ByteArray × ByteArray × ByteArray) := if a0_8 = true then (if a0_0.size ≤ 9223372036854775807 ∧ a0_5.size ≤ 9223372036854775807 ∧ a0_6.size ≤ 9223372036854775807 ∧ a0_7.size ≤ 9223372036854775807 then some (a0_0.extract 0 (min a0_0.size 128), wrap64 (Int.tmod (IntKind.u64.wrap a0_1) 256), wrap64 (Int.tmod (IntKind.u64.wrap a0_2) 256), wrap64 (Int.tmod (IntKind.u64.wrap a0_3) 256), wrap64 (Int.tmod (IntKind.u64.wrap a0_4) 256), a0_5.extract 0 (min a0_5.size 64), a0_6.extract 0 (min a0_6.size 64), a0_7.extract 0 (min a0_7.size 64)) else none) else some (a0_0, a0_1, a0_2, a0_3, a0_4, a0_5, a0_6, a0_7)
theorem tenementlaw19_Asked_request.mn_ (n m : Nat) : mn (n : Int) (m : Int) = ((min n m : Nat) : Int) := by unfold mn; split <;> omega
theorem tenementlaw19_Asked_request.boxes3 (w : World) (xs ys zs : Array Value) (t1 t2 t3 : TypeId) (W : World) (h : ((w.alloc (.cells xs t1)).alloc (.cells ys t2)).alloc (.cells zs t3) = W) :
    W.heap[w.heap.size]? = some (.cells xs t1 (0,0)) ∧ W.heap[w.heap.size+1]? = some (.cells ys t2 (0,0)) ∧ W.heap[w.heap.size+1+1]? = some (.cells zs t3 (0,0)) ∧ Below w.heap.size w W := by
  subst h
  have s1 : (w.alloc (.cells xs t1)).heap.size = w.heap.size + 1 := by simp [World.alloc, -World.alloc_eq]
  have s2 : ((w.alloc (.cells xs t1)).alloc (.cells ys t2)).heap.size = w.heap.size + 1 + 1 := by simp [World.alloc, -World.alloc_eq]
  refine ⟨blk_alloc (blk_alloc (blk_new _ _) _) _, ?_, ?_, below_alloc (below_alloc (below_alloc (Below.refl _ _) _) _) _⟩
  · rw [← s1]; exact blk_alloc (blk_new _ _) _
  · rw [← s2]; exact blk_new _ _
set_option maxHeartbeats 8000000 in
set_option maxRecDepth 100000 in
theorem tenementlaw19_Asked_request.calls (a0_0 : ByteArray) (a0_1 : Int) (a0_2 : Int) (a0_3 : Int) (a0_4 : Int) (a0_5 : ByteArray) (a0_6 : ByteArray) (a0_7 : ByteArray) (a0_8 : Bool) (r1 : ByteArray) (r2 : Int) (r3 : Int) (r4 : Int) (r5 : Int) (r6 : ByteArray) (r7 : ByteArray) (r8 : ByteArray) (w : World) (h : tenementlaw19_Asked_request.f a0_0 a0_1 a0_2 a0_3 a0_4 a0_5 a0_6 a0_7 a0_8 = some (r1, r2, r3, r4, r5, r6, r7, r8)) :
    Calls Try.prog 10 #[.agg #[.string a0_0, .int .i64 a0_1, .int .i64 a0_2, .int .i64 a0_3, .int .i64 a0_4, .string a0_5, .string a0_6, .string a0_7, .bool a0_8]] w fun e w' => e = .returned (.agg #[.string r1, .int .i64 r2, .int .i64 r3, .int .i64 r4, .int .i64 r5, .string r6, .string r7, .string r8]) ∧ Below w.heap.size w w' := by
  unfold tenementlaw19_Asked_request.f at h
  have hu := Try.underlying23
  cases a0_8 with
  | false =>
    rw [if_neg (by simp)] at h
    simp only [Option.some.injEq, Prod.mk.injEq] at h
    obtain ⟨rfl, rfl, rfl, rfl, rfl, rfl, rfl, rfl⟩ := h
    go_enter Try.func10, Try.ntmps10
    go_wp2
    generalize hW : (((w.alloc (Obj.cells #[.string a0_0, .int .i64 a0_1, .int .i64 a0_2, .int .i64 a0_3, .int .i64 a0_4, .string a0_5, .string a0_6, .string a0_7, .bool false] 25)).alloc (Obj.cells #[.string a0_0, .int .i64 a0_1, .int .i64 a0_2, .int .i64 a0_3, .int .i64 a0_4, .string a0_5, .string a0_6, .string a0_7] 23)).alloc (Obj.cells #[.string a0_0, .int .i64 a0_1, .int .i64 a0_2, .int .i64 a0_3, .int .i64 a0_4, .string a0_5, .string a0_6, .string a0_7] 23)) = W0
    obtain ⟨hA, hR, hQ, HB⟩ := tenementlaw19_Asked_request.boxes3 _ _ _ _ _ _ _ _ hW
    clear hW
    obtain ⟨B0, hB0⟩ : ∃ B0, B0 = w.heap.size := ⟨_, rfl⟩
    obtain ⟨B1, hB1⟩ : ∃ B1, B1 = w.heap.size + 1 := ⟨_, rfl⟩
    obtain ⟨B2, hB2⟩ : ∃ B2, B2 = w.heap.size + 1 + 1 := ⟨_, rfl⟩
    rw [← hB2, ← hB1, ← hB0]
    rw [← hB0] at hA
    rw [← hB1] at hR
    rw [← hB2] at hQ
    have gAR : B0 ≠ B1 := by omega
    have gAQ : B0 ≠ B2 := by omega
    have gRQ : B1 ≠ B2 := by omega
    have GA := Aside0.mk (show w.heap.size ≤ B0 by omega)
    have GR := Aside0.mk (show w.heap.size ≤ B1 by omega)
    have GQ := Aside0.mk (show w.heap.size ≤ B2 by omega)
    clear hB1 hB2
    replace hB0 := Aside0.mk hB0
    replace HB := Aside0.mk HB
    replace hA := Aside0.mk hA
    replace hR := Aside0.mk hR
    replace hQ := Aside0.mk hQ
    have d0 := (blk_cell hR.out 0).trans rfl
    have d1 := (blk_cell hR.out 1).trans rfl
    have d2 := (blk_cell hR.out 2).trans rfl
    have d3 := (blk_cell hR.out 3).trans rfl
    have d4 := (blk_cell hR.out 4).trans rfl
    have d5 := (blk_cell hR.out 5).trans rfl
    have d6 := (blk_cell hR.out 6).trans rfl
    have d7 := (blk_cell hR.out 7).trans rfl
    refine bodyPost_ret (v := .agg #[.string a0_0, .int .i64 a0_1, .int .i64 a0_2, .int .i64 a0_3, .int .i64 a0_4, .string a0_5, .string a0_6, .string a0_7]) (by simp [results, Try.results10, go_sem, hu, d0, d1, d2, d3, d4, d5, d6, d7]) rfl ⟨rfl, by first | exact HB.out | (rw [hB0.out]; exact HB.out)⟩
  | true =>
    rw [if_pos rfl] at h
    by_cases hz : a0_0.size ≤ 9223372036854775807 ∧ a0_5.size ≤ 9223372036854775807 ∧ a0_6.size ≤ 9223372036854775807 ∧ a0_7.size ≤ 9223372036854775807
    · rw [if_pos hz] at h
      simp only [Option.some.injEq, Prod.mk.injEq] at h
      obtain ⟨rfl, rfl, rfl, rfl, rfl, rfl, rfl, rfl⟩ := h
      obtain ⟨z0, z5, z6, z7⟩ := hz
      go_enter Try.func10, Try.ntmps10
      go_upto_region 3 with fail
      rename_i K3 hK3
      replace hK3 := Aside0.mk hK3
      generalize hW : (((w.alloc (Obj.cells #[.string a0_0, .int .i64 a0_1, .int .i64 a0_2, .int .i64 a0_3, .int .i64 a0_4, .string a0_5, .string a0_6, .string a0_7, .bool true] 25)).alloc (Obj.cells #[.string (⟨#[]⟩ : ByteArray), .int .i64 0, .int .i64 0, .int .i64 0, .int .i64 0, .string (⟨#[]⟩ : ByteArray), .string (⟨#[]⟩ : ByteArray), .string (⟨#[]⟩ : ByteArray)] 23)).alloc (Obj.cells #[.string a0_0, .int .i64 a0_1, .int .i64 a0_2, .int .i64 a0_3, .int .i64 a0_4, .string a0_5, .string a0_6, .string a0_7] 23)) = W0
      obtain ⟨hA, hR, hQ, HB⟩ := tenementlaw19_Asked_request.boxes3 _ _ _ _ _ _ _ _ hW
      clear hW
      obtain ⟨B0, hB0⟩ : ∃ B0, B0 = w.heap.size := ⟨_, rfl⟩
      obtain ⟨B1, hB1⟩ : ∃ B1, B1 = w.heap.size + 1 := ⟨_, rfl⟩
      obtain ⟨B2, hB2⟩ : ∃ B2, B2 = w.heap.size + 1 + 1 := ⟨_, rfl⟩
      rw [← hB2, ← hB1, ← hB0]
      rw [← hB0] at hA
      rw [← hB1] at hR
      rw [← hB2] at hQ
      have gAR : B0 ≠ B1 := by omega
      have gAQ : B0 ≠ B2 := by omega
      have gRQ : B1 ≠ B2 := by omega
      have GA := Aside0.mk (show w.heap.size ≤ B0 by omega)
      have GR := Aside0.mk (show w.heap.size ≤ B1 by omega)
      have GQ := Aside0.mk (show w.heap.size ≤ B2 by omega)
      clear hB1 hB2
      replace hB0 := Aside0.mk hB0
      replace HB := Aside0.mk HB
      replace hA := Aside0.mk hA
      replace hR := Aside0.mk hR
      replace hQ := Aside0.mk hQ
      have fQ1 := blk_frozen hQ.out 1
      have cQ1 := (blk_cell hQ.out 1).trans rfl
      go_wp2
      clear fQ1 cQ1
      have hA1 := Aside0.mk (blk_far hA.out (p := ⟨B2, 1, none⟩) gAQ (.int .i64 (wrap64 (Int.tmod (IntKind.u64.wrap a0_1) 256))))
      have hR1 := Aside0.mk (blk_far hR.out (p := ⟨B2, 1, none⟩) gRQ (.int .i64 (wrap64 (Int.tmod (IntKind.u64.wrap a0_1) 256))))
      have hQ1 := Aside0.mk (blk_put hQ.out 1 (.int .i64 (wrap64 (Int.tmod (IntKind.u64.wrap a0_1) 256))) (cs' := #[.string a0_0, .int .i64 (wrap64 (Int.tmod (IntKind.u64.wrap a0_1) 256)), .int .i64 a0_2, .int .i64 a0_3, .int .i64 a0_4, .string a0_5, .string a0_6, .string a0_7]) rfl)
      have HB1 := Aside0.mk (below_set (j := 1) (v := .int .i64 (wrap64 (Int.tmod (IntKind.u64.wrap a0_1) 256))) HB.out GQ.out)
      clear HB hA hR hQ
      generalize hW_ : (W0.setCell ⟨B2, 1, none⟩ (.int .i64 (wrap64 (Int.tmod (IntKind.u64.wrap a0_1) 256)))) = W1 at *
      clear hW_
      have hA := hA1
      have hR := hR1
      have hQ := hQ1
      have HB := HB1
      clear HB1 hA1 hR1 hQ1
      refine hK3.out _ _ ?_
      clear hK3 K3
      refine wp_seq_k (fun K4 hK4 => ?_)
      replace hK4 := Aside0.mk hK4
      have fQ2 := blk_frozen hQ.out 2
      have cQ2 := (blk_cell hQ.out 2).trans rfl
      go_wp2
      clear fQ2 cQ2
      have hA1 := Aside0.mk (blk_far hA.out (p := ⟨B2, 2, none⟩) gAQ (.int .i64 (wrap64 (Int.tmod (IntKind.u64.wrap a0_2) 256))))
      have hR1 := Aside0.mk (blk_far hR.out (p := ⟨B2, 2, none⟩) gRQ (.int .i64 (wrap64 (Int.tmod (IntKind.u64.wrap a0_2) 256))))
      have hQ1 := Aside0.mk (blk_put hQ.out 2 (.int .i64 (wrap64 (Int.tmod (IntKind.u64.wrap a0_2) 256))) (cs' := #[.string a0_0, .int .i64 (wrap64 (Int.tmod (IntKind.u64.wrap a0_1) 256)), .int .i64 (wrap64 (Int.tmod (IntKind.u64.wrap a0_2) 256)), .int .i64 a0_3, .int .i64 a0_4, .string a0_5, .string a0_6, .string a0_7]) rfl)
      have HB1 := Aside0.mk (below_set (j := 2) (v := .int .i64 (wrap64 (Int.tmod (IntKind.u64.wrap a0_2) 256))) HB.out GQ.out)
      clear HB hA hR hQ
      generalize hW_ : (W1.setCell ⟨B2, 2, none⟩ (.int .i64 (wrap64 (Int.tmod (IntKind.u64.wrap a0_2) 256)))) = W2 at *
      clear hW_
      have hA := hA1
      have hR := hR1
      have hQ := hQ1
      have HB := HB1
      clear HB1 hA1 hR1 hQ1
      refine hK4.out _ _ ?_
      clear hK4 K4
      refine wp_seq_k (fun K5 hK5 => ?_)
      replace hK5 := Aside0.mk hK5
      have fQ3 := blk_frozen hQ.out 3
      have cQ3 := (blk_cell hQ.out 3).trans rfl
      go_wp2
      clear fQ3 cQ3
      have hA1 := Aside0.mk (blk_far hA.out (p := ⟨B2, 3, none⟩) gAQ (.int .i64 (wrap64 (Int.tmod (IntKind.u64.wrap a0_3) 256))))
      have hR1 := Aside0.mk (blk_far hR.out (p := ⟨B2, 3, none⟩) gRQ (.int .i64 (wrap64 (Int.tmod (IntKind.u64.wrap a0_3) 256))))
      have hQ1 := Aside0.mk (blk_put hQ.out 3 (.int .i64 (wrap64 (Int.tmod (IntKind.u64.wrap a0_3) 256))) (cs' := #[.string a0_0, .int .i64 (wrap64 (Int.tmod (IntKind.u64.wrap a0_1) 256)), .int .i64 (wrap64 (Int.tmod (IntKind.u64.wrap a0_2) 256)), .int .i64 (wrap64 (Int.tmod (IntKind.u64.wrap a0_3) 256)), .int .i64 a0_4, .string a0_5, .string a0_6, .string a0_7]) rfl)
      have HB1 := Aside0.mk (below_set (j := 3) (v := .int .i64 (wrap64 (Int.tmod (IntKind.u64.wrap a0_3) 256))) HB.out GQ.out)
      clear HB hA hR hQ
      generalize hW_ : (W2.setCell ⟨B2, 3, none⟩ (.int .i64 (wrap64 (Int.tmod (IntKind.u64.wrap a0_3) 256)))) = W3 at *
      clear hW_
      have hA := hA1
      have hR := hR1
      have hQ := hQ1
      have HB := HB1
      clear HB1 hA1 hR1 hQ1
      refine hK5.out _ _ ?_
      clear hK5 K5
      refine wp_seq_k (fun K6 hK6 => ?_)
      replace hK6 := Aside0.mk hK6
      have fQ4 := blk_frozen hQ.out 4
      have cQ4 := (blk_cell hQ.out 4).trans rfl
      go_wp2
      clear fQ4 cQ4
      have hA1 := Aside0.mk (blk_far hA.out (p := ⟨B2, 4, none⟩) gAQ (.int .i64 (wrap64 (Int.tmod (IntKind.u64.wrap a0_4) 256))))
      have hR1 := Aside0.mk (blk_far hR.out (p := ⟨B2, 4, none⟩) gRQ (.int .i64 (wrap64 (Int.tmod (IntKind.u64.wrap a0_4) 256))))
      have hQ1 := Aside0.mk (blk_put hQ.out 4 (.int .i64 (wrap64 (Int.tmod (IntKind.u64.wrap a0_4) 256))) (cs' := #[.string a0_0, .int .i64 (wrap64 (Int.tmod (IntKind.u64.wrap a0_1) 256)), .int .i64 (wrap64 (Int.tmod (IntKind.u64.wrap a0_2) 256)), .int .i64 (wrap64 (Int.tmod (IntKind.u64.wrap a0_3) 256)), .int .i64 (wrap64 (Int.tmod (IntKind.u64.wrap a0_4) 256)), .string a0_5, .string a0_6, .string a0_7]) rfl)
      have HB1 := Aside0.mk (below_set (j := 4) (v := .int .i64 (wrap64 (Int.tmod (IntKind.u64.wrap a0_4) 256))) HB.out GQ.out)
      clear HB hA hR hQ
      generalize hW_ : (W3.setCell ⟨B2, 4, none⟩ (.int .i64 (wrap64 (Int.tmod (IntKind.u64.wrap a0_4) 256)))) = W4 at *
      clear hW_
      have hA := hA1
      have hR := hR1
      have hQ := hQ1
      have HB := HB1
      clear HB1 hA1 hR1 hQ1
      refine hK6.out _ _ ?_
      clear hK6 K6
      refine wp_seq_k (fun K7 hK7 => ?_)
      replace hK7 := Aside0.mk hK7
      have fQ0 := blk_frozen hQ.out 0
      have cQ0 := (blk_cell hQ.out 0).trans rfl
      obtain ⟨m0, hm0⟩ : ∃ m, m = min a0_0.size 128 := ⟨_, rfl⟩
      have e0 : (if (128 : Int) < (a0_0.size : Int) then (128 : Int) else (a0_0.size : Int)) = (m0 : Int) := by rw [hm0]; split <;> omega
      have l0 : m0 ≤ a0_0.size := by omega
      have k0 : (m0 : Int) ≤ (a0_0.size : Int) := by omega
      have j0 : 0 ≤ (m0 : Int) := by omega
      go_wp2
      clear e0 k0 j0 l0
      clear fQ0 cQ0
      have hA1 := Aside0.mk (blk_far hA.out (p := ⟨B2, 0, none⟩) gAQ (.string (a0_0.extract 0 (min a0_0.size 128))))
      have hR1 := Aside0.mk (blk_far hR.out (p := ⟨B2, 0, none⟩) gRQ (.string (a0_0.extract 0 (min a0_0.size 128))))
      have hQ1 := Aside0.mk (blk_put hQ.out 0 (.string (a0_0.extract 0 (min a0_0.size 128))) (cs' := #[.string (a0_0.extract 0 (min a0_0.size 128)), .int .i64 (wrap64 (Int.tmod (IntKind.u64.wrap a0_1) 256)), .int .i64 (wrap64 (Int.tmod (IntKind.u64.wrap a0_2) 256)), .int .i64 (wrap64 (Int.tmod (IntKind.u64.wrap a0_3) 256)), .int .i64 (wrap64 (Int.tmod (IntKind.u64.wrap a0_4) 256)), .string a0_5, .string a0_6, .string a0_7]) rfl)
      have HB1 := Aside0.mk (below_set (j := 0) (v := .string (a0_0.extract 0 (min a0_0.size 128))) HB.out GQ.out)
      clear HB hA hR hQ
      generalize hW_ : (W4.setCell ⟨B2, 0, none⟩ (.string (a0_0.extract 0 (min a0_0.size 128)))) = W5 at *
      clear hW_
      have hA := hA1
      have hR := hR1
      have hQ := hQ1
      have HB := HB1
      clear HB1 hA1 hR1 hQ1
      refine hK7.out _ _ ?_
      clear hK7 K7
      refine wp_seq_k (fun K8 hK8 => ?_)
      replace hK8 := Aside0.mk hK8
      have fQ5 := blk_frozen hQ.out 5
      have cQ5 := (blk_cell hQ.out 5).trans rfl
      obtain ⟨m5, hm5⟩ : ∃ m, m = min a0_5.size 64 := ⟨_, rfl⟩
      have e5 : (if (64 : Int) < (a0_5.size : Int) then (64 : Int) else (a0_5.size : Int)) = (m5 : Int) := by rw [hm5]; split <;> omega
      have l5 : m5 ≤ a0_5.size := by omega
      have k5 : (m5 : Int) ≤ (a0_5.size : Int) := by omega
      have j5 : 0 ≤ (m5 : Int) := by omega
      go_wp2
      clear e5 k5 j5 l5
      clear fQ5 cQ5
      have hA1 := Aside0.mk (blk_far hA.out (p := ⟨B2, 5, none⟩) gAQ (.string (a0_5.extract 0 (min a0_5.size 64))))
      have hR1 := Aside0.mk (blk_far hR.out (p := ⟨B2, 5, none⟩) gRQ (.string (a0_5.extract 0 (min a0_5.size 64))))
      have hQ1 := Aside0.mk (blk_put hQ.out 5 (.string (a0_5.extract 0 (min a0_5.size 64))) (cs' := #[.string (a0_0.extract 0 (min a0_0.size 128)), .int .i64 (wrap64 (Int.tmod (IntKind.u64.wrap a0_1) 256)), .int .i64 (wrap64 (Int.tmod (IntKind.u64.wrap a0_2) 256)), .int .i64 (wrap64 (Int.tmod (IntKind.u64.wrap a0_3) 256)), .int .i64 (wrap64 (Int.tmod (IntKind.u64.wrap a0_4) 256)), .string (a0_5.extract 0 (min a0_5.size 64)), .string a0_6, .string a0_7]) rfl)
      have HB1 := Aside0.mk (below_set (j := 5) (v := .string (a0_5.extract 0 (min a0_5.size 64))) HB.out GQ.out)
      clear HB hA hR hQ
      generalize hW_ : (W5.setCell ⟨B2, 5, none⟩ (.string (a0_5.extract 0 (min a0_5.size 64)))) = W6 at *
      clear hW_
      have hA := hA1
      have hR := hR1
      have hQ := hQ1
      have HB := HB1
      clear HB1 hA1 hR1 hQ1
      refine hK8.out _ _ ?_
      clear hK8 K8
      refine wp_seq_k (fun K9 hK9 => ?_)
      replace hK9 := Aside0.mk hK9
      have fQ6 := blk_frozen hQ.out 6
      have cQ6 := (blk_cell hQ.out 6).trans rfl
      obtain ⟨m6, hm6⟩ : ∃ m, m = min a0_6.size 64 := ⟨_, rfl⟩
      have e6 : (if (64 : Int) < (a0_6.size : Int) then (64 : Int) else (a0_6.size : Int)) = (m6 : Int) := by rw [hm6]; split <;> omega
      have l6 : m6 ≤ a0_6.size := by omega
      have k6 : (m6 : Int) ≤ (a0_6.size : Int) := by omega
      have j6 : 0 ≤ (m6 : Int) := by omega
      go_wp2
      clear e6 k6 j6 l6
      clear fQ6 cQ6
      have hA1 := Aside0.mk (blk_far hA.out (p := ⟨B2, 6, none⟩) gAQ (.string (a0_6.extract 0 (min a0_6.size 64))))
      have hR1 := Aside0.mk (blk_far hR.out (p := ⟨B2, 6, none⟩) gRQ (.string (a0_6.extract 0 (min a0_6.size 64))))
      have hQ1 := Aside0.mk (blk_put hQ.out 6 (.string (a0_6.extract 0 (min a0_6.size 64))) (cs' := #[.string (a0_0.extract 0 (min a0_0.size 128)), .int .i64 (wrap64 (Int.tmod (IntKind.u64.wrap a0_1) 256)), .int .i64 (wrap64 (Int.tmod (IntKind.u64.wrap a0_2) 256)), .int .i64 (wrap64 (Int.tmod (IntKind.u64.wrap a0_3) 256)), .int .i64 (wrap64 (Int.tmod (IntKind.u64.wrap a0_4) 256)), .string (a0_5.extract 0 (min a0_5.size 64)), .string (a0_6.extract 0 (min a0_6.size 64)), .string a0_7]) rfl)
      have HB1 := Aside0.mk (below_set (j := 6) (v := .string (a0_6.extract 0 (min a0_6.size 64))) HB.out GQ.out)
      clear HB hA hR hQ
      generalize hW_ : (W6.setCell ⟨B2, 6, none⟩ (.string (a0_6.extract 0 (min a0_6.size 64)))) = W7 at *
      clear hW_
      have hA := hA1
      have hR := hR1
      have hQ := hQ1
      have HB := HB1
      clear HB1 hA1 hR1 hQ1
      refine hK9.out _ _ ?_
      clear hK9 K9
      have fQ0 := blk_frozen hQ.out 0
      have cQ0 := (blk_cell hQ.out 0).trans rfl
      have fQ1 := blk_frozen hQ.out 1
      have cQ1 := (blk_cell hQ.out 1).trans rfl
      have fQ2 := blk_frozen hQ.out 2
      have cQ2 := (blk_cell hQ.out 2).trans rfl
      have fQ3 := blk_frozen hQ.out 3
      have cQ3 := (blk_cell hQ.out 3).trans rfl
      have fQ4 := blk_frozen hQ.out 4
      have cQ4 := (blk_cell hQ.out 4).trans rfl
      have fQ5 := blk_frozen hQ.out 5
      have cQ5 := (blk_cell hQ.out 5).trans rfl
      have fQ6 := blk_frozen hQ.out 6
      have cQ6 := (blk_cell hQ.out 6).trans rfl
      have fQ7 := blk_frozen hQ.out 7
      have cQ7 := (blk_cell hQ.out 7).trans rfl
      have fR0 := blk_frozen hR.out 0
      have cR0 := (blk_cell hR.out 0).trans rfl
      have fR1 := blk_frozen hR.out 1
      have cR1 := (blk_cell hR.out 1).trans rfl
      have fR2 := blk_frozen hR.out 2
      have cR2 := (blk_cell hR.out 2).trans rfl
      have fR3 := blk_frozen hR.out 3
      have cR3 := (blk_cell hR.out 3).trans rfl
      have fR4 := blk_frozen hR.out 4
      have cR4 := (blk_cell hR.out 4).trans rfl
      have fR5 := blk_frozen hR.out 5
      have cR5 := (blk_cell hR.out 5).trans rfl
      have fR6 := blk_frozen hR.out 6
      have cR6 := (blk_cell hR.out 6).trans rfl
      have fR7 := blk_frozen hR.out 7
      have cR7 := (blk_cell hR.out 7).trans rfl
      obtain ⟨m7, hm7⟩ : ∃ m, m = min a0_7.size 64 := ⟨_, rfl⟩
      have e7 : (if (64 : Int) < (a0_7.size : Int) then (64 : Int) else (a0_7.size : Int)) = (m7 : Int) := by rw [hm7]; split <;> omega
      have l7 : m7 ≤ a0_7.size := by omega
      have k7 : (m7 : Int) ≤ (a0_7.size : Int) := by omega
      have j7 : 0 ≤ (m7 : Int) := by omega
      go_wp2
      clear e7 k7 j7 l7
      clear fQ0 cQ0 fQ1 cQ1 fQ2 cQ2 fQ3 cQ3 fQ4 cQ4 fQ5 cQ5 fQ6 cQ6 fQ7 cQ7 fR0 cR0 fR1 cR1 fR2 cR2 fR3 cR3 fR4 cR4 fR5 cR5 fR6 cR6 fR7 cR7
      have hA1 := Aside0.mk (blk_far (blk_far (blk_far (blk_far (blk_far (blk_far (blk_far (blk_far (blk_far hA.out (p := ⟨B2, 7, none⟩) gAQ (.string (a0_7.extract 0 (min a0_7.size 64)))) (p := ⟨B1, 0, none⟩) gAR (.string (a0_0.extract 0 (min a0_0.size 128)))) (p := ⟨B1, 1, none⟩) gAR (.int .i64 (wrap64 (Int.tmod (IntKind.u64.wrap a0_1) 256)))) (p := ⟨B1, 2, none⟩) gAR (.int .i64 (wrap64 (Int.tmod (IntKind.u64.wrap a0_2) 256)))) (p := ⟨B1, 3, none⟩) gAR (.int .i64 (wrap64 (Int.tmod (IntKind.u64.wrap a0_3) 256)))) (p := ⟨B1, 4, none⟩) gAR (.int .i64 (wrap64 (Int.tmod (IntKind.u64.wrap a0_4) 256)))) (p := ⟨B1, 5, none⟩) gAR (.string (a0_5.extract 0 (min a0_5.size 64)))) (p := ⟨B1, 6, none⟩) gAR (.string (a0_6.extract 0 (min a0_6.size 64)))) (p := ⟨B1, 7, none⟩) gAR (.string (a0_7.extract 0 (min a0_7.size 64))))
      have hR1 := Aside0.mk (blk_put (blk_put (blk_put (blk_put (blk_put (blk_put (blk_put (blk_put (blk_far hR.out (p := ⟨B2, 7, none⟩) gRQ (.string (a0_7.extract 0 (min a0_7.size 64)))) 0 (.string (a0_0.extract 0 (min a0_0.size 128))) (cs' := #[.string (a0_0.extract 0 (min a0_0.size 128)), .int .i64 0, .int .i64 0, .int .i64 0, .int .i64 0, .string (⟨#[]⟩ : ByteArray), .string (⟨#[]⟩ : ByteArray), .string (⟨#[]⟩ : ByteArray)]) rfl) 1 (.int .i64 (wrap64 (Int.tmod (IntKind.u64.wrap a0_1) 256))) (cs' := #[.string (a0_0.extract 0 (min a0_0.size 128)), .int .i64 (wrap64 (Int.tmod (IntKind.u64.wrap a0_1) 256)), .int .i64 0, .int .i64 0, .int .i64 0, .string (⟨#[]⟩ : ByteArray), .string (⟨#[]⟩ : ByteArray), .string (⟨#[]⟩ : ByteArray)]) rfl) 2 (.int .i64 (wrap64 (Int.tmod (IntKind.u64.wrap a0_2) 256))) (cs' := #[.string (a0_0.extract 0 (min a0_0.size 128)), .int .i64 (wrap64 (Int.tmod (IntKind.u64.wrap a0_1) 256)), .int .i64 (wrap64 (Int.tmod (IntKind.u64.wrap a0_2) 256)), .int .i64 0, .int .i64 0, .string (⟨#[]⟩ : ByteArray), .string (⟨#[]⟩ : ByteArray), .string (⟨#[]⟩ : ByteArray)]) rfl) 3 (.int .i64 (wrap64 (Int.tmod (IntKind.u64.wrap a0_3) 256))) (cs' := #[.string (a0_0.extract 0 (min a0_0.size 128)), .int .i64 (wrap64 (Int.tmod (IntKind.u64.wrap a0_1) 256)), .int .i64 (wrap64 (Int.tmod (IntKind.u64.wrap a0_2) 256)), .int .i64 (wrap64 (Int.tmod (IntKind.u64.wrap a0_3) 256)), .int .i64 0, .string (⟨#[]⟩ : ByteArray), .string (⟨#[]⟩ : ByteArray), .string (⟨#[]⟩ : ByteArray)]) rfl) 4 (.int .i64 (wrap64 (Int.tmod (IntKind.u64.wrap a0_4) 256))) (cs' := #[.string (a0_0.extract 0 (min a0_0.size 128)), .int .i64 (wrap64 (Int.tmod (IntKind.u64.wrap a0_1) 256)), .int .i64 (wrap64 (Int.tmod (IntKind.u64.wrap a0_2) 256)), .int .i64 (wrap64 (Int.tmod (IntKind.u64.wrap a0_3) 256)), .int .i64 (wrap64 (Int.tmod (IntKind.u64.wrap a0_4) 256)), .string (⟨#[]⟩ : ByteArray), .string (⟨#[]⟩ : ByteArray), .string (⟨#[]⟩ : ByteArray)]) rfl) 5 (.string (a0_5.extract 0 (min a0_5.size 64))) (cs' := #[.string (a0_0.extract 0 (min a0_0.size 128)), .int .i64 (wrap64 (Int.tmod (IntKind.u64.wrap a0_1) 256)), .int .i64 (wrap64 (Int.tmod (IntKind.u64.wrap a0_2) 256)), .int .i64 (wrap64 (Int.tmod (IntKind.u64.wrap a0_3) 256)), .int .i64 (wrap64 (Int.tmod (IntKind.u64.wrap a0_4) 256)), .string (a0_5.extract 0 (min a0_5.size 64)), .string (⟨#[]⟩ : ByteArray), .string (⟨#[]⟩ : ByteArray)]) rfl) 6 (.string (a0_6.extract 0 (min a0_6.size 64))) (cs' := #[.string (a0_0.extract 0 (min a0_0.size 128)), .int .i64 (wrap64 (Int.tmod (IntKind.u64.wrap a0_1) 256)), .int .i64 (wrap64 (Int.tmod (IntKind.u64.wrap a0_2) 256)), .int .i64 (wrap64 (Int.tmod (IntKind.u64.wrap a0_3) 256)), .int .i64 (wrap64 (Int.tmod (IntKind.u64.wrap a0_4) 256)), .string (a0_5.extract 0 (min a0_5.size 64)), .string (a0_6.extract 0 (min a0_6.size 64)), .string (⟨#[]⟩ : ByteArray)]) rfl) 7 (.string (a0_7.extract 0 (min a0_7.size 64))) (cs' := #[.string (a0_0.extract 0 (min a0_0.size 128)), .int .i64 (wrap64 (Int.tmod (IntKind.u64.wrap a0_1) 256)), .int .i64 (wrap64 (Int.tmod (IntKind.u64.wrap a0_2) 256)), .int .i64 (wrap64 (Int.tmod (IntKind.u64.wrap a0_3) 256)), .int .i64 (wrap64 (Int.tmod (IntKind.u64.wrap a0_4) 256)), .string (a0_5.extract 0 (min a0_5.size 64)), .string (a0_6.extract 0 (min a0_6.size 64)), .string (a0_7.extract 0 (min a0_7.size 64))]) rfl)
      have hQ1 := Aside0.mk (blk_far (blk_far (blk_far (blk_far (blk_far (blk_far (blk_far (blk_far (blk_put hQ.out 7 (.string (a0_7.extract 0 (min a0_7.size 64))) (cs' := #[.string (a0_0.extract 0 (min a0_0.size 128)), .int .i64 (wrap64 (Int.tmod (IntKind.u64.wrap a0_1) 256)), .int .i64 (wrap64 (Int.tmod (IntKind.u64.wrap a0_2) 256)), .int .i64 (wrap64 (Int.tmod (IntKind.u64.wrap a0_3) 256)), .int .i64 (wrap64 (Int.tmod (IntKind.u64.wrap a0_4) 256)), .string (a0_5.extract 0 (min a0_5.size 64)), .string (a0_6.extract 0 (min a0_6.size 64)), .string (a0_7.extract 0 (min a0_7.size 64))]) rfl) (p := ⟨B1, 0, none⟩) (Ne.symm gRQ) (.string (a0_0.extract 0 (min a0_0.size 128)))) (p := ⟨B1, 1, none⟩) (Ne.symm gRQ) (.int .i64 (wrap64 (Int.tmod (IntKind.u64.wrap a0_1) 256)))) (p := ⟨B1, 2, none⟩) (Ne.symm gRQ) (.int .i64 (wrap64 (Int.tmod (IntKind.u64.wrap a0_2) 256)))) (p := ⟨B1, 3, none⟩) (Ne.symm gRQ) (.int .i64 (wrap64 (Int.tmod (IntKind.u64.wrap a0_3) 256)))) (p := ⟨B1, 4, none⟩) (Ne.symm gRQ) (.int .i64 (wrap64 (Int.tmod (IntKind.u64.wrap a0_4) 256)))) (p := ⟨B1, 5, none⟩) (Ne.symm gRQ) (.string (a0_5.extract 0 (min a0_5.size 64)))) (p := ⟨B1, 6, none⟩) (Ne.symm gRQ) (.string (a0_6.extract 0 (min a0_6.size 64)))) (p := ⟨B1, 7, none⟩) (Ne.symm gRQ) (.string (a0_7.extract 0 (min a0_7.size 64))))
      have HB1 := Aside0.mk (below_set (j := 7) (v := .string (a0_7.extract 0 (min a0_7.size 64))) (below_set (j := 6) (v := .string (a0_6.extract 0 (min a0_6.size 64))) (below_set (j := 5) (v := .string (a0_5.extract 0 (min a0_5.size 64))) (below_set (j := 4) (v := .int .i64 (wrap64 (Int.tmod (IntKind.u64.wrap a0_4) 256))) (below_set (j := 3) (v := .int .i64 (wrap64 (Int.tmod (IntKind.u64.wrap a0_3) 256))) (below_set (j := 2) (v := .int .i64 (wrap64 (Int.tmod (IntKind.u64.wrap a0_2) 256))) (below_set (j := 1) (v := .int .i64 (wrap64 (Int.tmod (IntKind.u64.wrap a0_1) 256))) (below_set (j := 0) (v := .string (a0_0.extract 0 (min a0_0.size 128))) (below_set (j := 7) (v := .string (a0_7.extract 0 (min a0_7.size 64))) HB.out GQ.out) GR.out) GR.out) GR.out) GR.out) GR.out) GR.out) GR.out) GR.out)
      clear HB hA hR hQ
      generalize hW_ : (((((((((W7.setCell ⟨B2, 7, none⟩ (.string (a0_7.extract 0 (min a0_7.size 64)))).setCell ⟨B1, 0, none⟩ (.string (a0_0.extract 0 (min a0_0.size 128)))).setCell ⟨B1, 1, none⟩ (.int .i64 (wrap64 (Int.tmod (IntKind.u64.wrap a0_1) 256)))).setCell ⟨B1, 2, none⟩ (.int .i64 (wrap64 (Int.tmod (IntKind.u64.wrap a0_2) 256)))).setCell ⟨B1, 3, none⟩ (.int .i64 (wrap64 (Int.tmod (IntKind.u64.wrap a0_3) 256)))).setCell ⟨B1, 4, none⟩ (.int .i64 (wrap64 (Int.tmod (IntKind.u64.wrap a0_4) 256)))).setCell ⟨B1, 5, none⟩ (.string (a0_5.extract 0 (min a0_5.size 64)))).setCell ⟨B1, 6, none⟩ (.string (a0_6.extract 0 (min a0_6.size 64)))).setCell ⟨B1, 7, none⟩ (.string (a0_7.extract 0 (min a0_7.size 64)))) = W99 at *
      clear hW_
      have hA := hA1
      have hR := hR1
      have hQ := hQ1
      have HB := HB1
      clear HB1 hA1 hR1 hQ1
      have d0 := (blk_cell hR.out 0).trans rfl
      have d1 := (blk_cell hR.out 1).trans rfl
      have d2 := (blk_cell hR.out 2).trans rfl
      have d3 := (blk_cell hR.out 3).trans rfl
      have d4 := (blk_cell hR.out 4).trans rfl
      have d5 := (blk_cell hR.out 5).trans rfl
      have d6 := (blk_cell hR.out 6).trans rfl
      have d7 := (blk_cell hR.out 7).trans rfl
      refine bodyPost_ret (v := .agg #[.string (a0_0.extract 0 (min a0_0.size 128)), .int .i64 (wrap64 (Int.tmod (IntKind.u64.wrap a0_1) 256)), .int .i64 (wrap64 (Int.tmod (IntKind.u64.wrap a0_2) 256)), .int .i64 (wrap64 (Int.tmod (IntKind.u64.wrap a0_3) 256)), .int .i64 (wrap64 (Int.tmod (IntKind.u64.wrap a0_4) 256)), .string (a0_5.extract 0 (min a0_5.size 64)), .string (a0_6.extract 0 (min a0_6.size 64)), .string (a0_7.extract 0 (min a0_7.size 64))]) (by simp [results, Try.results10, go_sem, hu, d0, d1, d2, d3, d4, d5, d6, d7]) rfl ⟨rfl, by first | exact HB.out | (rw [hB0.out]; exact HB.out)⟩
    · rw [if_neg hz] at h
      exact absurd h (by simp)


end Go.Proofs.Ytplgbkobpanbfaa.Q
