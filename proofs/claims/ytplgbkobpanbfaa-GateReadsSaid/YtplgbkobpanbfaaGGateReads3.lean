import Derived.Test.YtplgbkobpanbfaaQx0
-- Written by this session's own driver (wip/hybrid.py) of the kit's printer; contracts marked FOREIGN are by hand.
namespace Go.Proofs.Ytplgbkobpanbfaa.Q
open Go.RowKit Go.Proofs.YtplgbkobpanbfaaW.PrintWords Go.Proofs.YtplgbkobpanbfaaW.PrintLast Go.Proofs.YtplgbkobpanbfaaW.PrintMore
attribute [local go_sem] max2_int min2_int max_two min_two max_three min_three max_four min_four   -- for this text's walks alone
set_option linter.unusedVariables false
set_option linter.unusedSimpArgs false

/-! ### tenementlaw19_Asked_request: function 10 -/
-- FOREIGN: a record's eight parts are changed, one by one
def tenementlaw19_Asked_request.f (a0_0 : ByteArray) (a0_1 : Int) (a0_2 : Int) (a0_3 : Int) (a0_4 : Int) (a0_5 : ByteArray) (a0_6 : ByteArray) (a0_7 : ByteArray) (a0_8 : Bool) : Option (ByteArray × Int × Int × Int × Int × ByteArray × ByteArray × ByteArray) := if a0_8 = true then (if a0_0.size ≤ 9223372036854775807 ∧ a0_5.size ≤ 9223372036854775807 ∧ a0_6.size ≤ 9223372036854775807 ∧ a0_7.size ≤ 9223372036854775807 then some (a0_0.extract 0 (min a0_0.size 128), wrap64 (Int.tmod (IntKind.u64.wrap a0_1) 256), wrap64 (Int.tmod (IntKind.u64.wrap a0_2) 256), wrap64 (Int.tmod (IntKind.u64.wrap a0_3) 256), wrap64 (Int.tmod (IntKind.u64.wrap a0_4) 256), a0_5.extract 0 (min a0_5.size 64), a0_6.extract 0 (min a0_6.size 64), a0_7.extract 0 (min a0_7.size 64)) else none) else some (a0_0, a0_1, a0_2, a0_3, a0_4, a0_5, a0_6, a0_7)
theorem tenementlaw19_Asked_request.mn_ (n m : Nat) : mn (n : Int) (m : Int) = ((min n m : Nat) : Int) := by unfold mn; split <;> omega
theorem tenementlaw19_Asked_request.boxes3 (w : World) (xs ys zs : Array Value) (t1 t2 t3 : TypeId) (W : World) (h : ((w.alloc (.cells xs t1)).alloc (.cells ys t2)).alloc (.cells zs t3) = W) :
    W.heap[w.heap.size]? = some (.cells xs t1 (0,0)) ∧ W.heap[w.heap.size+1]? = some (.cells ys t2 (0,0)) ∧ W.heap[w.heap.size+1+1]? = some (.cells zs t3 (0,0)) ∧ Below w.heap.size w W := by
  subst h
  have s1 : (w.alloc (.cells xs t1)).heap.size = w.heap.size + 1 := by simp [World.alloc, -World.alloc_eq]
  have s2 : ((w.alloc (.cells xs t1)).alloc (.cells ys t2)).heap.size = w.heap.size + 1 + 1 := by simp [World.alloc, -World.alloc_eq]
  refine ⟨blk_alloc (blk_alloc (blk_new _ _) _) _, ?_, ?_, below_alloc (below_alloc (below_alloc (Below.refl _ _) _) _) _⟩
  · rw [← s1]; exact blk_alloc (blk_new _ _) _
  · rw [← s2]; exact blk_new _ _
set_option maxHeartbeats 8000000 in
set_option maxRecDepth 100000 in
theorem tenementlaw19_Asked_request.calls (a0_0 : ByteArray) (a0_1 : Int) (a0_2 : Int) (a0_3 : Int) (a0_4 : Int) (a0_5 : ByteArray) (a0_6 : ByteArray) (a0_7 : ByteArray) (a0_8 : Bool) (r1 : ByteArray) (r2 : Int) (r3 : Int) (r4 : Int) (r5 : Int) (r6 : ByteArray) (r7 : ByteArray) (r8 : ByteArray) (w : World) (h : tenementlaw19_Asked_request.f a0_0 a0_1 a0_2 a0_3 a0_4 a0_5 a0_6 a0_7 a0_8 = some (r1, r2, r3, r4, r5, r6, r7, r8)) :
    Calls Try.prog 10 #[.agg #[.string a0_0, .int .i64 a0_1, .int .i64 a0_2, .int .i64 a0_3, .int .i64 a0_4, .string a0_5, .string a0_6, .string a0_7, .bool a0_8]] w fun e w' => e = .returned (.agg #[.string r1, .int .i64 r2, .int .i64 r3, .int .i64 r4, .int .i64 r5, .string r6, .string r7, .string r8]) ∧ Below w.heap.size w w' := by
  unfold tenementlaw19_Asked_request.f at h
  have hu := Try.underlying23
  cases a0_8 with
  | false =>
    rw [if_neg (by simp)] at h
    simp only [Option.some.injEq, Prod.mk.injEq] at h
    obtain ⟨rfl, rfl, rfl, rfl, rfl, rfl, rfl, rfl⟩ := h
    go_enter Try.func10, Try.ntmps10
    go_wp2
    generalize hW : (((w.alloc (Obj.cells #[.string a0_0, .int .i64 a0_1, .int .i64 a0_2, .int .i64 a0_3, .int .i64 a0_4, .string a0_5, .string a0_6, .string a0_7, .bool false] 25)).alloc (Obj.cells #[.string a0_0, .int .i64 a0_1, .int .i64 a0_2, .int .i64 a0_3, .int .i64 a0_4, .string a0_5, .string a0_6, .string a0_7] 23)).alloc (Obj.cells #[.string a0_0, .int .i64 a0_1, .int .i64 a0_2, .int .i64 a0_3, .int .i64 a0_4, .string a0_5, .string a0_6, .string a0_7] 23)) = W0
    obtain ⟨hA, hR, hQ, HB⟩ := tenementlaw19_Asked_request.boxes3 _ _ _ _ _ _ _ _ hW
    clear hW
    obtain ⟨B0, hB0⟩ : ∃ B0, B0 = w.heap.size := ⟨_, rfl⟩
    obtain ⟨B1, hB1⟩ : ∃ B1, B1 = w.heap.size + 1 := ⟨_, rfl⟩
    obtain ⟨B2, hB2⟩ : ∃ B2, B2 = w.heap.size + 1 + 1 := ⟨_, rfl⟩
    rw [← hB2, ← hB1, ← hB0]
    rw [← hB0] at hA
    rw [← hB1] at hR
    rw [← hB2] at hQ
    have gAR : B0 ≠ B1 := by omega
    have gAQ : B0 ≠ B2 := by omega
    have gRQ : B1 ≠ B2 := by omega
    have GA := Aside0.mk (show w.heap.size ≤ B0 by omega)
    have GR := Aside0.mk (show w.heap.size ≤ B1 by omega)
    have GQ := Aside0.mk (show w.heap.size ≤ B2 by omega)
    clear hB1 hB2
    replace hB0 := Aside0.mk hB0
    replace HB := Aside0.mk HB
    replace hA := Aside0.mk hA
    replace hR := Aside0.mk hR
    replace hQ := Aside0.mk hQ
    have d0 := (blk_cell hR.out 0).trans rfl
    have d1 := (blk_cell hR.out 1).trans rfl
    have d2 := (blk_cell hR.out 2).trans rfl
    have d3 := (blk_cell hR.out 3).trans rfl
    have d4 := (blk_cell hR.out 4).trans rfl
    have d5 := (blk_cell hR.out 5).trans rfl
    have d6 := (blk_cell hR.out 6).trans rfl
    have d7 := (blk_cell hR.out 7).trans rfl
    refine bodyPost_ret (v := .agg #[.string a0_0, .int .i64 a0_1, .int .i64 a0_2, .int .i64 a0_3, .int .i64 a0_4, .string a0_5, .string a0_6, .string a0_7]) (by simp [results, Try.results10, go_sem, hu, d0, d1, d2, d3, d4, d5, d6, d7]) rfl ⟨rfl, by first | exact HB.out | (rw [hB0.out]; exact HB.out)⟩
  | true =>
    rw [if_pos rfl] at h
    by_cases hz : a0_0.size ≤ 9223372036854775807 ∧ a0_5.size ≤ 9223372036854775807 ∧ a0_6.size ≤ 9223372036854775807 ∧ a0_7.size ≤ 9223372036854775807
    · rw [if_pos hz] at h
      simp only [Option.some.injEq, Prod.mk.injEq] at h
      obtain ⟨rfl, rfl, rfl, rfl, rfl, rfl, rfl, rfl⟩ := h
      obtain ⟨z0, z5, z6, z7⟩ := hz
      go_enter Try.func10, Try.ntmps10
      go_upto_region 3 with fail
      rename_i K3 hK3
      replace hK3 := Aside0.mk hK3
      generalize hW : (((w.alloc (Obj.cells #[.string a0_0, .int .i64 a0_1, .int .i64 a0_2, .int .i64 a0_3, .int .i64 a0_4, .string a0_5, .string a0_6, .string a0_7, .bool true] 25)).alloc (Obj.cells #[.string (⟨#[]⟩ : ByteArray), .int .i64 0, .int .i64 0, .int .i64 0, .int .i64 0, .string (⟨#[]⟩ : ByteArray), .string (⟨#[]⟩ : ByteArray), .string (⟨#[]⟩ : ByteArray)] 23)).alloc (Obj.cells #[.string a0_0, .int .i64 a0_1, .int .i64 a0_2, .int .i64 a0_3, .int .i64 a0_4, .string a0_5, .string a0_6, .string a0_7] 23)) = W0
      obtain ⟨hA, hR, hQ, HB⟩ := tenementlaw19_Asked_request.boxes3 _ _ _ _ _ _ _ _ hW
      clear hW
      obtain ⟨B0, hB0⟩ : ∃ B0, B0 = w.heap.size := ⟨_, rfl⟩
      obtain ⟨B1, hB1⟩ : ∃ B1, B1 = w.heap.size + 1 := ⟨_, rfl⟩
      obtain ⟨B2, hB2⟩ : ∃ B2, B2 = w.heap.size + 1 + 1 := ⟨_, rfl⟩
      rw [← hB2, ← hB1, ← hB0]
      rw [← hB0] at hA
      rw [← hB1] at hR
      rw [← hB2] at hQ
      have gAR : B0 ≠ B1 := by omega
      have gAQ : B0 ≠ B2 := by omega
      have gRQ : B1 ≠ B2 := by omega
      have GA := Aside0.mk (show w.heap.size ≤ B0 by omega)
      have GR := Aside0.mk (show w.heap.size ≤ B1 by omega)
      have GQ := Aside0.mk (show w.heap.size ≤ B2 by omega)
      clear hB1 hB2
      replace hB0 := Aside0.mk hB0
      replace HB := Aside0.mk HB
      replace hA := Aside0.mk hA
      replace hR := Aside0.mk hR
      replace hQ := Aside0.mk hQ
      have fQ1 := blk_frozen hQ.out 1
      have cQ1 := (blk_cell hQ.out 1).trans rfl
      go_wp2
      clear fQ1 cQ1
      have hA1 := Aside0.mk (blk_far hA.out (p := ⟨B2, 1, none⟩) gAQ (.int .i64 (wrap64 (Int.tmod (IntKind.u64.wrap a0_1) 256))))
      have hR1 := Aside0.mk (blk_far hR.out (p := ⟨B2, 1, none⟩) gRQ (.int .i64 (wrap64 (Int.tmod (IntKind.u64.wrap a0_1) 256))))
      have hQ1 := Aside0.mk (blk_put hQ.out 1 (.int .i64 (wrap64 (Int.tmod (IntKind.u64.wrap a0_1) 256))) (cs' := #[.string a0_0, .int .i64 (wrap64 (Int.tmod (IntKind.u64.wrap a0_1) 256)), .int .i64 a0_2, .int .i64 a0_3, .int .i64 a0_4, .string a0_5, .string a0_6, .string a0_7]) rfl)
      have HB1 := Aside0.mk (below_set (j := 1) (v := .int .i64 (wrap64 (Int.tmod (IntKind.u64.wrap a0_1) 256))) HB.out GQ.out)
      clear HB hA hR hQ
      generalize hW_ : (W0.setCell ⟨B2, 1, none⟩ (.int .i64 (wrap64 (Int.tmod (IntKind.u64.wrap a0_1) 256)))) = W1 at *
      clear hW_
      have hA := hA1
      have hR := hR1
      have hQ := hQ1
      have HB := HB1
      clear HB1 hA1 hR1 hQ1
      refine hK3.out _ _ ?_
      clear hK3 K3
      refine wp_seq_k (fun K4 hK4 => ?_)
      replace hK4 := Aside0.mk hK4
      have fQ2 := blk_frozen hQ.out 2
      have cQ2 := (blk_cell hQ.out 2).trans rfl
      go_wp2
      clear fQ2 cQ2
      have hA1 := Aside0.mk (blk_far hA.out (p := ⟨B2, 2, none⟩) gAQ (.int .i64 (wrap64 (Int.tmod (IntKind.u64.wrap a0_2) 256))))
      have hR1 := Aside0.mk (blk_far hR.out (p := ⟨B2, 2, none⟩) gRQ (.int .i64 (wrap64 (Int.tmod (IntKind.u64.wrap a0_2) 256))))
      have hQ1 := Aside0.mk (blk_put hQ.out 2 (.int .i64 (wrap64 (Int.tmod (IntKind.u64.wrap a0_2) 256))) (cs' := #[.string a0_0, .int .i64 (wrap64 (Int.tmod (IntKind.u64.wrap a0_1) 256)), .int .i64 (wrap64 (Int.tmod (IntKind.u64.wrap a0_2) 256)), .int .i64 a0_3, .int .i64 a0_4, .string a0_5, .string a0_6, .string a0_7]) rfl)
      have HB1 := Aside0.mk (below_set (j := 2) (v := .int .i64 (wrap64 (Int.tmod (IntKind.u64.wrap a0_2) 256))) HB.out GQ.out)
      clear HB hA hR hQ
      generalize hW_ : (W1.setCell ⟨B2, 2, none⟩ (.int .i64 (wrap64 (Int.tmod (IntKind.u64.wrap a0_2) 256)))) = W2 at *
      clear hW_
      have hA := hA1
      have hR := hR1
      have hQ := hQ1
      have HB := HB1
      clear HB1 hA1 hR1 hQ1
      refine hK4.out _ _ ?_
      clear hK4 K4
      refine wp_seq_k (fun K5 hK5 => ?_)
      replace hK5 := Aside0.mk hK5
      have fQ3 := blk_frozen hQ.out 3
      have cQ3 := (blk_cell hQ.out 3).trans rfl
      go_wp2
      clear fQ3 cQ3
      have hA1 := Aside0.mk (blk_far hA.out (p := ⟨B2, 3, none⟩) gAQ (.int .i64 (wrap64 (Int.tmod (IntKind.u64.wrap a0_3) 256))))
      have hR1 := Aside0.mk (blk_far hR.out (p := ⟨B2, 3, none⟩) gRQ (.int .i64 (wrap64 (Int.tmod (IntKind.u64.wrap a0_3) 256))))
      have hQ1 := Aside0.mk (blk_put hQ.out 3 (.int .i64 (wrap64 (Int.tmod (IntKind.u64.wrap a0_3) 256))) (cs' := #[.string a0_0, .int .i64 (wrap64 (Int.tmod (IntKind.u64.wrap a0_1) 256)), .int .i64 (wrap64 (Int.tmod (IntKind.u64.wrap a0_2) 256)), .int .i64 (wrap64 (Int.tmod (IntKind.u64.wrap a0_3) 256)), .int .i64 a0_4, .string a0_5, .string a0_6, .string a0_7]) rfl)
      have HB1 := Aside0.mk (below_set (j := 3) (v := .int .i64 (wrap64 (Int.tmod (IntKind.u64.wrap a0_3) 256))) HB.out GQ.out)
      clear HB hA hR hQ
      generalize hW_ : (W2.setCell ⟨B2, 3, none⟩ (.int .i64 (wrap64 (Int.tmod (IntKind.u64.wrap a0_3) 256)))) = W3 at *
      clear hW_
      have hA := hA1
      have hR := hR1
      have hQ := hQ1
      have HB := HB1
      clear HB1 hA1 hR1 hQ1
      refine hK5.out _ _ ?_
      clear hK5 K5
      refine wp_seq_k (fun K6 hK6 => ?_)
      replace hK6 := Aside0.mk hK6
      have fQ4 := blk_frozen hQ.out 4
      have cQ4 := (blk_cell hQ.out 4).trans rfl
      go_wp2
      clear fQ4 cQ4
      have hA1 := Aside0.mk (blk_far hA.out (p := ⟨B2, 4, none⟩) gAQ (.int .i64 (wrap64 (Int.tmod (IntKind.u64.wrap a0_4) 256))))
      have hR1 := Aside0.mk (blk_far hR.out (p := ⟨B2, 4, none⟩) gRQ (.int .i64 (wrap64 (Int.tmod (IntKind.u64.wrap a0_4) 256))))
      have hQ1 := Aside0.mk (blk_put hQ.out 4 (.int .i64 (wrap64 (Int.tmod (IntKind.u64.wrap a0_4) 256))) (cs' := #[.string a0_0, .int .i64 (wrap64 (Int.tmod (IntKind.u64.wrap a0_1) 256)), .int .i64 (wrap64 (Int.tmod (IntKind.u64.wrap a0_2) 256)), .int .i64 (wrap64 (Int.tmod (IntKind.u64.wrap a0_3) 256)), .int .i64 (wrap64 (Int.tmod (IntKind.u64.wrap a0_4) 256)), .string a0_5, .string a0_6, .string a0_7]) rfl)
      have HB1 := Aside0.mk (below_set (j := 4) (v := .int .i64 (wrap64 (Int.tmod (IntKind.u64.wrap a0_4) 256))) HB.out GQ.out)
      clear HB hA hR hQ
      generalize hW_ : (W3.setCell ⟨B2, 4, none⟩ (.int .i64 (wrap64 (Int.tmod (IntKind.u64.wrap a0_4) 256)))) = W4 at *
      clear hW_
      have hA := hA1
      have hR := hR1
      have hQ := hQ1
      have HB := HB1
      clear HB1 hA1 hR1 hQ1
      refine hK6.out _ _ ?_
      clear hK6 K6
      refine wp_seq_k (fun K7 hK7 => ?_)
      replace hK7 := Aside0.mk hK7
      have fQ0 := blk_frozen hQ.out 0
      have cQ0 := (blk_cell hQ.out 0).trans rfl
      obtain ⟨m0, hm0⟩ : ∃ m, m = min a0_0.size 128 := ⟨_, rfl⟩
      have e0 : (if (128 : Int) < (a0_0.size : Int) then (128 : Int) else (a0_0.size : Int)) = (m0 : Int) := by rw [hm0]; split <;> omega
      have l0 : m0 ≤ a0_0.size := by omega
      have k0 : (m0 : Int) ≤ (a0_0.size : Int) := by omega
      have j0 : 0 ≤ (m0 : Int) := by omega
      go_wp2
      clear e0 k0 j0 l0
      clear fQ0 cQ0
      have hA1 := Aside0.mk (blk_far hA.out (p := ⟨B2, 0, none⟩) gAQ (.string (a0_0.extract 0 (min a0_0.size 128))))
      have hR1 := Aside0.mk (blk_far hR.out (p := ⟨B2, 0, none⟩) gRQ (.string (a0_0.extract 0 (min a0_0.size 128))))
      have hQ1 := Aside0.mk (blk_put hQ.out 0 (.string (a0_0.extract 0 (min a0_0.size 128))) (cs' := #[.string (a0_0.extract 0 (min a0_0.size 128)), .int .i64 (wrap64 (Int.tmod (IntKind.u64.wrap a0_1) 256)), .int .i64 (wrap64 (Int.tmod (IntKind.u64.wrap a0_2) 256)), .int .i64 (wrap64 (Int.tmod (IntKind.u64.wrap a0_3) 256)), .int .i64 (wrap64 (Int.tmod (IntKind.u64.wrap a0_4) 256)), .string a0_5, .string a0_6, .string a0_7]) rfl)
      have HB1 := Aside0.mk (below_set (j := 0) (v := .string (a0_0.extract 0 (min a0_0.size 128))) HB.out GQ.out)
      clear HB hA hR hQ
      generalize hW_ : (W4.setCell ⟨B2, 0, none⟩ (.string (a0_0.extract 0 (min a0_0.size 128)))) = W5 at *
      clear hW_
      have hA := hA1
      have hR := hR1
      have hQ := hQ1
      have HB := HB1
      clear HB1 hA1 hR1 hQ1
      refine hK7.out _ _ ?_
      clear hK7 K7
      refine wp_seq_k (fun K8 hK8 => ?_)
      replace hK8 := Aside0.mk hK8
      have fQ5 := blk_frozen hQ.out 5
      have cQ5 := (blk_cell hQ.out 5).trans rfl
      obtain ⟨m5, hm5⟩ : ∃ m, m = min a0_5.size 64 := ⟨_, rfl⟩
      have e5 : (if (64 : Int) < (a0_5.size : Int) then (64 : Int) else (a0_5.size : Int)) = (m5 : Int) := by rw [hm5]; split <;> omega
      have l5 : m5 ≤ a0_5.size := by omega
      have k5 : (m5 : Int) ≤ (a0_5.size : Int) := by omega
      have j5 : 0 ≤ (m5 : Int) := by omega
      go_wp2
      clear e5 k5 j5 l5
      clear fQ5 cQ5
      have hA1 := Aside0.mk (blk_far hA.out (p := ⟨B2, 5, none⟩) gAQ (.string (a0_5.extract 0 (min a0_5.size 64))))
      have hR1 := Aside0.mk (blk_far hR.out (p := ⟨B2, 5, none⟩) gRQ (.string (a0_5.extract 0 (min a0_5.size 64))))
      have hQ1 := Aside0.mk (blk_put hQ.out 5 (.string (a0_5.extract 0 (min a0_5.size 64))) (cs' := #[.string (a0_0.extract 0 (min a0_0.size 128)), .int .i64 (wrap64 (Int.tmod (IntKind.u64.wrap a0_1) 256)), .int .i64 (wrap64 (Int.tmod (IntKind.u64.wrap a0_2) 256)), .int .i64 (wrap64 (Int.tmod (IntKind.u64.wrap a0_3) 256)), .int .i64 (wrap64 (Int.tmod (IntKind.u64.wrap a0_4) 256)), .string (a0_5.extract 0 (min a0_5.size 64)), .string a0_6, .string a0_7]) rfl)
      have HB1 := Aside0.mk (below_set (j := 5) (v := .string (a0_5.extract 0 (min a0_5.size 64))) HB.out GQ.out)
      clear HB hA hR hQ
      generalize hW_ : (W5.setCell ⟨B2, 5, none⟩ (.string (a0_5.extract 0 (min a0_5.size 64)))) = W6 at *
      clear hW_
      have hA := hA1
      have hR := hR1
      have hQ := hQ1
      have HB := HB1
      clear HB1 hA1 hR1 hQ1
      refine hK8.out _ _ ?_
      clear hK8 K8
      refine wp_seq_k (fun K9 hK9 => ?_)
      replace hK9 := Aside0.mk hK9
      have fQ6 := blk_frozen hQ.out 6
      have cQ6 := (blk_cell hQ.out 6).trans rfl
      obtain ⟨m6, hm6⟩ : ∃ m, m = min a0_6.size 64 := ⟨_, rfl⟩
      have e6 : (if (64 : Int) < (a0_6.size : Int) then (64 : Int) else (a0_6.size : Int)) = (m6 : Int) := by rw [hm6]; split <;> omega
      have l6 : m6 ≤ a0_6.size := by omega
      have k6 : (m6 : Int) ≤ (a0_6.size : Int) := by omega
      have j6 : 0 ≤ (m6 : Int) := by omega
      go_wp2
      clear e6 k6 j6 l6
      clear fQ6 cQ6
      have hA1 := Aside0.mk (blk_far hA.out (p := ⟨B2, 6, none⟩) gAQ (.string (a0_6.extract 0 (min a0_6.size 64))))
      have hR1 := Aside0.mk (blk_far hR.out (p := ⟨B2, 6, none⟩) gRQ (.string (a0_6.extract 0 (min a0_6.size 64))))
      have hQ1 := Aside0.mk (blk_put hQ.out 6 (.string (a0_6.extract 0 (min a0_6.size 64))) (cs' := #[.string (a0_0.extract 0 (min a0_0.size 128)), .int .i64 (wrap64 (Int.tmod (IntKind.u64.wrap a0_1) 256)), .int .i64 (wrap64 (Int.tmod (IntKind.u64.wrap a0_2) 256)), .int .i64 (wrap64 (Int.tmod (IntKind.u64.wrap a0_3) 256)), .int .i64 (wrap64 (Int.tmod (IntKind.u64.wrap a0_4) 256)), .string (a0_5.extract 0 (min a0_5.size 64)), .string (a0_6.extract 0 (min a0_6.size 64)), .string a0_7]) rfl)
      have HB1 := Aside0.mk (below_set (j := 6) (v := .string (a0_6.extract 0 (min a0_6.size 64))) HB.out GQ.out)
      clear HB hA hR hQ
      generalize hW_ : (W6.setCell ⟨B2, 6, none⟩ (.string (a0_6.extract 0 (min a0_6.size 64)))) = W7 at *
      clear hW_
      have hA := hA1
      have hR := hR1
      have hQ := hQ1
      have HB := HB1
      clear HB1 hA1 hR1 hQ1
      refine hK9.out _ _ ?_
      clear hK9 K9
      have fQ0 := blk_frozen hQ.out 0
      have cQ0 := (blk_cell hQ.out 0).trans rfl
      have fQ1 := blk_frozen hQ.out 1
      have cQ1 := (blk_cell hQ.out 1).trans rfl
      have fQ2 := blk_frozen hQ.out 2
      have cQ2 := (blk_cell hQ.out 2).trans rfl
      have fQ3 := blk_frozen hQ.out 3
      have cQ3 := (blk_cell hQ.out 3).trans rfl
      have fQ4 := blk_frozen hQ.out 4
      have cQ4 := (blk_cell hQ.out 4).trans rfl
      have fQ5 := blk_frozen hQ.out 5
      have cQ5 := (blk_cell hQ.out 5).trans rfl
      have fQ6 := blk_frozen hQ.out 6
      have cQ6 := (blk_cell hQ.out 6).trans rfl
      have fQ7 := blk_frozen hQ.out 7
      have cQ7 := (blk_cell hQ.out 7).trans rfl
      have fR0 := blk_frozen hR.out 0
      have cR0 := (blk_cell hR.out 0).trans rfl
      have fR1 := blk_frozen hR.out 1
      have cR1 := (blk_cell hR.out 1).trans rfl
      have fR2 := blk_frozen hR.out 2
      have cR2 := (blk_cell hR.out 2).trans rfl
      have fR3 := blk_frozen hR.out 3
      have cR3 := (blk_cell hR.out 3).trans rfl
      have fR4 := blk_frozen hR.out 4
      have cR4 := (blk_cell hR.out 4).trans rfl
      have fR5 := blk_frozen hR.out 5
      have cR5 := (blk_cell hR.out 5).trans rfl
      have fR6 := blk_frozen hR.out 6
      have cR6 := (blk_cell hR.out 6).trans rfl
      have fR7 := blk_frozen hR.out 7
      have cR7 := (blk_cell hR.out 7).trans rfl
      obtain ⟨m7, hm7⟩ : ∃ m, m = min a0_7.size 64 := ⟨_, rfl⟩
      have e7 : (if (64 : Int) < (a0_7.size : Int) then (64 : Int) else (a0_7.size : Int)) = (m7 : Int) := by rw [hm7]; split <;> omega
      have l7 : m7 ≤ a0_7.size := by omega
      have k7 : (m7 : Int) ≤ (a0_7.size : Int) := by omega
      have j7 : 0 ≤ (m7 : Int) := by omega
      go_wp2
      clear e7 k7 j7 l7
      clear fQ0 cQ0 fQ1 cQ1 fQ2 cQ2 fQ3 cQ3 fQ4 cQ4 fQ5 cQ5 fQ6 cQ6 fQ7 cQ7 fR0 cR0 fR1 cR1 fR2 cR2 fR3 cR3 fR4 cR4 fR5 cR5 fR6 cR6 fR7 cR7
      have hA1 := Aside0.mk (blk_far (blk_far (blk_far (blk_far (blk_far (blk_far (blk_far (blk_far (blk_far hA.out (p := ⟨B2, 7, none⟩) gAQ (.string (a0_7.extract 0 (min a0_7.size 64)))) (p := ⟨B1, 0, none⟩) gAR (.string (a0_0.extract 0 (min a0_0.size 128)))) (p := ⟨B1, 1, none⟩) gAR (.int .i64 (wrap64 (Int.tmod (IntKind.u64.wrap a0_1) 256)))) (p := ⟨B1, 2, none⟩) gAR (.int .i64 (wrap64 (Int.tmod (IntKind.u64.wrap a0_2) 256)))) (p := ⟨B1, 3, none⟩) gAR (.int .i64 (wrap64 (Int.tmod (IntKind.u64.wrap a0_3) 256)))) (p := ⟨B1, 4, none⟩) gAR (.int .i64 (wrap64 (Int.tmod (IntKind.u64.wrap a0_4) 256)))) (p := ⟨B1, 5, none⟩) gAR (.string (a0_5.extract 0 (min a0_5.size 64)))) (p := ⟨B1, 6, none⟩) gAR (.string (a0_6.extract 0 (min a0_6.size 64)))) (p := ⟨B1, 7, none⟩) gAR (.string (a0_7.extract 0 (min a0_7.size 64))))
      have hR1 := Aside0.mk (blk_put (blk_put (blk_put (blk_put (blk_put (blk_put (blk_put (blk_put (blk_far hR.out (p := ⟨B2, 7, none⟩) gRQ (.string (a0_7.extract 0 (min a0_7.size 64)))) 0 (.string (a0_0.extract 0 (min a0_0.size 128))) (cs' := #[.string (a0_0.extract 0 (min a0_0.size 128)), .int .i64 0, .int .i64 0, .int .i64 0, .int .i64 0, .string (⟨#[]⟩ : ByteArray), .string (⟨#[]⟩ : ByteArray), .string (⟨#[]⟩ : ByteArray)]) rfl) 1 (.int .i64 (wrap64 (Int.tmod (IntKind.u64.wrap a0_1) 256))) (cs' := #[.string (a0_0.extract 0 (min a0_0.size 128)), .int .i64 (wrap64 (Int.tmod (IntKind.u64.wrap a0_1) 256)), .int .i64 0, .int .i64 0, .int .i64 0, .string (⟨#[]⟩ : ByteArray), .string (⟨#[]⟩ : ByteArray), .string (⟨#[]⟩ : ByteArray)]) rfl) 2 (.int .i64 (wrap64 (Int.tmod (IntKind.u64.wrap a0_2) 256))) (cs' := #[.string (a0_0.extract 0 (min a0_0.size 128)), .int .i64 (wrap64 (Int.tmod (IntKind.u64.wrap a0_1) 256)), .int .i64 (wrap64 (Int.tmod (IntKind.u64.wrap a0_2) 256)), .int .i64 0, .int .i64 0, .string (⟨#[]⟩ : ByteArray), .string (⟨#[]⟩ : ByteArray), .string (⟨#[]⟩ : ByteArray)]) rfl) 3 (.int .i64 (wrap64 (Int.tmod (IntKind.u64.wrap a0_3) 256))) (cs' := #[.string (a0_0.extract 0 (min a0_0.size 128)), .int .i64 (wrap64 (Int.tmod (IntKind.u64.wrap a0_1) 256)), .int .i64 (wrap64 (Int.tmod (IntKind.u64.wrap a0_2) 256)), .int .i64 (wrap64 (Int.tmod (IntKind.u64.wrap a0_3) 256)), .int .i64 0, .string (⟨#[]⟩ : ByteArray), .string (⟨#[]⟩ : ByteArray), .string (⟨#[]⟩ : ByteArray)]) rfl) 4 (.int .i64 (wrap64 (Int.tmod (IntKind.u64.wrap a0_4) 256))) (cs' := #[.string (a0_0.extract 0 (min a0_0.size 128)), .int .i64 (wrap64 (Int.tmod (IntKind.u64.wrap a0_1) 256)), .int .i64 (wrap64 (Int.tmod (IntKind.u64.wrap a0_2) 256)), .int .i64 (wrap64 (Int.tmod (IntKind.u64.wrap a0_3) 256)), .int .i64 (wrap64 (Int.tmod (IntKind.u64.wrap a0_4) 256)), .string (⟨#[]⟩ : ByteArray), .string (⟨#[]⟩ : ByteArray), .string (⟨#[]⟩ : ByteArray)]) rfl) 5 (.string (a0_5.extract 0 (min a0_5.size 64))) (cs' := #[.string (a0_0.extract 0 (min a0_0.size 128)), .int .i64 (wrap64 (Int.tmod (IntKind.u64.wrap a0_1) 256)), .int .i64 (wrap64 (Int.tmod (IntKind.u64.wrap a0_2) 256)), .int .i64 (wrap64 (Int.tmod (IntKind.u64.wrap a0_3) 256)), .int .i64 (wrap64 (Int.tmod (IntKind.u64.wrap a0_4) 256)), .string (a0_5.extract 0 (min a0_5.size 64)), .string (⟨#[]⟩ : ByteArray), .string (⟨#[]⟩ : ByteArray)]) rfl) 6 (.string (a0_6.extract 0 (min a0_6.size 64))) (cs' := #[.string (a0_0.extract 0 (min a0_0.size 128)), .int .i64 (wrap64 (Int.tmod (IntKind.u64.wrap a0_1) 256)), .int .i64 (wrap64 (Int.tmod (IntKind.u64.wrap a0_2) 256)), .int .i64 (wrap64 (Int.tmod (IntKind.u64.wrap a0_3) 256)), .int .i64 (wrap64 (Int.tmod (IntKind.u64.wrap a0_4) 256)), .string (a0_5.extract 0 (min a0_5.size 64)), .string (a0_6.extract 0 (min a0_6.size 64)), .string (⟨#[]⟩ : ByteArray)]) rfl) 7 (.string (a0_7.extract 0 (min a0_7.size 64))) (cs' := #[.string (a0_0.extract 0 (min a0_0.size 128)), .int .i64 (wrap64 (Int.tmod (IntKind.u64.wrap a0_1) 256)), .int .i64 (wrap64 (Int.tmod (IntKind.u64.wrap a0_2) 256)), .int .i64 (wrap64 (Int.tmod (IntKind.u64.wrap a0_3) 256)), .int .i64 (wrap64 (Int.tmod (IntKind.u64.wrap a0_4) 256)), .string (a0_5.extract 0 (min a0_5.size 64)), .string (a0_6.extract 0 (min a0_6.size 64)), .string (a0_7.extract 0 (min a0_7.size 64))]) rfl)
      have hQ1 := Aside0.mk (blk_far (blk_far (blk_far (blk_far (blk_far (blk_far (blk_far (blk_far (blk_put hQ.out 7 (.string (a0_7.extract 0 (min a0_7.size 64))) (cs' := #[.string (a0_0.extract 0 (min a0_0.size 128)), .int .i64 (wrap64 (Int.tmod (IntKind.u64.wrap a0_1) 256)), .int .i64 (wrap64 (Int.tmod (IntKind.u64.wrap a0_2) 256)), .int .i64 (wrap64 (Int.tmod (IntKind.u64.wrap a0_3) 256)), .int .i64 (wrap64 (Int.tmod (IntKind.u64.wrap a0_4) 256)), .string (a0_5.extract 0 (min a0_5.size 64)), .string (a0_6.extract 0 (min a0_6.size 64)), .string (a0_7.extract 0 (min a0_7.size 64))]) rfl) (p := ⟨B1, 0, none⟩) (Ne.symm gRQ) (.string (a0_0.extract 0 (min a0_0.size 128)))) (p := ⟨B1, 1, none⟩) (Ne.symm gRQ) (.int .i64 (wrap64 (Int.tmod (IntKind.u64.wrap a0_1) 256)))) (p := ⟨B1, 2, none⟩) (Ne.symm gRQ) (.int .i64 (wrap64 (Int.tmod (IntKind.u64.wrap a0_2) 256)))) (p := ⟨B1, 3, none⟩) (Ne.symm gRQ) (.int .i64 (wrap64 (Int.tmod (IntKind.u64.wrap a0_3) 256)))) (p := ⟨B1, 4, none⟩) (Ne.symm gRQ) (.int .i64 (wrap64 (Int.tmod (IntKind.u64.wrap a0_4) 256)))) (p := ⟨B1, 5, none⟩) (Ne.symm gRQ) (.string (a0_5.extract 0 (min a0_5.size 64)))) (p := ⟨B1, 6, none⟩) (Ne.symm gRQ) (.string (a0_6.extract 0 (min a0_6.size 64)))) (p := ⟨B1, 7, none⟩) (Ne.symm gRQ) (.string (a0_7.extract 0 (min a0_7.size 64))))
      have HB1 := Aside0.mk (below_set (j := 7) (v := .string (a0_7.extract 0 (min a0_7.size 64))) (below_set (j := 6) (v := .string (a0_6.extract 0 (min a0_6.size 64))) (below_set (j := 5) (v := .string (a0_5.extract 0 (min a0_5.size 64))) (below_set (j := 4) (v := .int .i64 (wrap64 (Int.tmod (IntKind.u64.wrap a0_4) 256))) (below_set (j := 3) (v := .int .i64 (wrap64 (Int.tmod (IntKind.u64.wrap a0_3) 256))) (below_set (j := 2) (v := .int .i64 (wrap64 (Int.tmod (IntKind.u64.wrap a0_2) 256))) (below_set (j := 1) (v := .int .i64 (wrap64 (Int.tmod (IntKind.u64.wrap a0_1) 256))) (below_set (j := 0) (v := .string (a0_0.extract 0 (min a0_0.size 128))) (below_set (j := 7) (v := .string (a0_7.extract 0 (min a0_7.size 64))) HB.out GQ.out) GR.out) GR.out) GR.out) GR.out) GR.out) GR.out) GR.out) GR.out)
      clear HB hA hR hQ
      generalize hW_ : (((((((((W7.setCell ⟨B2, 7, none⟩ (.string (a0_7.extract 0 (min a0_7.size 64)))).setCell ⟨B1, 0, none⟩ (.string (a0_0.extract 0 (min a0_0.size 128)))).setCell ⟨B1, 1, none⟩ (.int .i64 (wrap64 (Int.tmod (IntKind.u64.wrap a0_1) 256)))).setCell ⟨B1, 2, none⟩ (.int .i64 (wrap64 (Int.tmod (IntKind.u64.wrap a0_2) 256)))).setCell ⟨B1, 3, none⟩ (.int .i64 (wrap64 (Int.tmod (IntKind.u64.wrap a0_3) 256)))).setCell ⟨B1, 4, none⟩ (.int .i64 (wrap64 (Int.tmod (IntKind.u64.wrap a0_4) 256)))).setCell ⟨B1, 5, none⟩ (.string (a0_5.extract 0 (min a0_5.size 64)))).setCell ⟨B1, 6, none⟩ (.string (a0_6.extract 0 (min a0_6.size 64)))).setCell ⟨B1, 7, none⟩ (.string (a0_7.extract 0 (min a0_7.size 64)))) = W99 at *
      clear hW_
      have hA := hA1
      have hR := hR1
      have hQ := hQ1
      have HB := HB1
      clear HB1 hA1 hR1 hQ1
      have d0 := (blk_cell hR.out 0).trans rfl
      have d1 := (blk_cell hR.out 1).trans rfl
      have d2 := (blk_cell hR.out 2).trans rfl
      have d3 := (blk_cell hR.out 3).trans rfl
      have d4 := (blk_cell hR.out 4).trans rfl
      have d5 := (blk_cell hR.out 5).trans rfl
      have d6 := (blk_cell hR.out 6).trans rfl
      have d7 := (blk_cell hR.out 7).trans rfl
      refine bodyPost_ret (v := .agg #[.string (a0_0.extract 0 (min a0_0.size 128)), .int .i64 (wrap64 (Int.tmod (IntKind.u64.wrap a0_1) 256)), .int .i64 (wrap64 (Int.tmod (IntKind.u64.wrap a0_2) 256)), .int .i64 (wrap64 (Int.tmod (IntKind.u64.wrap a0_3) 256)), .int .i64 (wrap64 (Int.tmod (IntKind.u64.wrap a0_4) 256)), .string (a0_5.extract 0 (min a0_5.size 64)), .string (a0_6.extract 0 (min a0_6.size 64)), .string (a0_7.extract 0 (min a0_7.size 64))]) (by simp [results, Try.results10, go_sem, hu, d0, d1, d2, d3, d4, d5, d6, d7]) rfl ⟨rfl, by first | exact HB.out | (rw [hB0.out]; exact HB.out)⟩
    · rw [if_neg hz] at h
      exact absurd h (by simp)


end Go.Proofs.Ytplgbkobpanbfaa.Q

-- Written by this session's own driver (wip/hybrid.py) of the kit's printer; contracts marked FOREIGN are by hand.
namespace Go.Proofs.Ytplgbkobpanbfaa.Q
open Go.RowKit Go.Proofs.YtplgbkobpanbfaaW.PrintWords Go.Proofs.YtplgbkobpanbfaaW.PrintLast Go.Proofs.YtplgbkobpanbfaaW.PrintMore
attribute [local go_sem] max2_int min2_int max_two min_two max_three min_three max_four min_four   -- for this text's walks alone
set_option linter.unusedVariables false
set_option linter.unusedSimpArgs false

/-! ### tenementref19_small: function 33 -/
def tenementref19_small.f (a0 : Int) : Option (Bool) := if a0 ≥ 0 then (some (decide (a0 ≤ 255))) else (some false)
set_option maxHeartbeats 8000000 in
set_option maxRecDepth 100000 in
theorem tenementref19_small.calls (a0 : Int) (r : Bool) (w : World) (h : tenementref19_small.f a0 = some r) :
    Calls Try.prog 33 #[.int .i64 a0] w fun e w' => e = .returned (.bool r) ∧ Drawn0 w w' := by
  have H : (if a0 ≥ 0 then (some (decide (a0 ≤ 255))) else (some false)) = some r := h
  clear h
  by_cases c2 : a0 ≥ 0
  · rw [if_pos c2] at H
    have c2b0 : decide (0 ≤ a0) = true := decide_eq_true c2
    clear c2
    obtain rfl := Option.some.inj H
    go_enter Try.func33, Try.ntmps33
    go_wp2
    go_ret
    exact ⟨by first | rfl | (simp; done) | (simp [*]; done), by repeat (first | exact Drawn0.refl _ | apply Drawn0.step)⟩
  rw [if_neg c2] at H
  have c2b0 : decide (0 ≤ a0) = false := decide_eq_false c2
  clear c2
  obtain rfl := Option.some.inj H
  go_enter Try.func33, Try.ntmps33
  go_wp2
  go_ret
  exact ⟨by first | rfl | (simp; done) | (simp [*]; done), by repeat (first | exact Drawn0.refl _ | apply Drawn0.step)⟩

end Go.Proofs.Ytplgbkobpanbfaa.Q

-- Written by this session's own driver (wip/hybrid.py) of the kit's printer; contracts marked FOREIGN are by hand.
namespace Go.Proofs.Ytplgbkobpanbfaa.Q
open Go.RowKit Go.Proofs.YtplgbkobpanbfaaW.PrintWords Go.Proofs.YtplgbkobpanbfaaW.PrintLast Go.Proofs.YtplgbkobpanbfaaW.PrintMore
attribute [local go_sem] max2_int min2_int max_two min_two max_three min_three max_four min_four   -- for this text's walks alone
set_option linter.unusedVariables false
set_option linter.unusedSimpArgs false

/-! ### tenementref19_Right: function 16 -/
def tenementref19_Right.f (a0_0 : ByteArray) (a0_1 : Int) (a0_2 : Int) (a0_3 : Int) (a0_4 : Int) (a0_5 : ByteArray) (a0_6 : ByteArray) (a0_7 : ByteArray) : Option (Bool) := if (a0_0.size : Int) ≤ 128 then ((tenementref19_small.f a0_1).bind fun t211 => (if t211 = true then ((tenementref19_small.f a0_2).bind fun t212 => (if t212 = true then ((tenementref19_small.f a0_3).bind fun t213 => (if t213 = true then ((tenementref19_small.f a0_4).bind fun t214 => (if t214 = true then (if (a0_5.size : Int) ≤ 64 then (if (a0_6.size : Int) ≤ 64 then (some (decide ((a0_7.size : Int) ≤ 64))) else (some false)) else (some false)) else (some false))) else (some false))) else (some false))) else (some false))) else (some false)
set_option maxHeartbeats 8000000 in
set_option maxRecDepth 100000 in
theorem tenementref19_Right.calls (a0_0 : ByteArray) (a0_1 : Int) (a0_2 : Int) (a0_3 : Int) (a0_4 : Int) (a0_5 : ByteArray) (a0_6 : ByteArray) (a0_7 : ByteArray) (r : Bool) (w : World) (h : tenementref19_Right.f a0_0 a0_1 a0_2 a0_3 a0_4 a0_5 a0_6 a0_7 = some r) :
    Calls Try.prog 16 #[.agg #[.string a0_0, .int .i64 a0_1, .int .i64 a0_2, .int .i64 a0_3, .int .i64 a0_4, .string a0_5, .string a0_6, .string a0_7]] w fun e w' => e = .returned (.bool r) ∧ Below w.heap.size w w' := by
  have hu36 := Try.underlying36
  have HB := Aside0.mk (Below.refl w.heap.size w)
  have H : (if (a0_0.size : Int) ≤ 128 then ((tenementref19_small.f a0_1).bind fun t211 => (if t211 = true then ((tenementref19_small.f a0_2).bind fun t212 => (if t212 = true then ((tenementref19_small.f a0_3).bind fun t213 => (if t213 = true then ((tenementref19_small.f a0_4).bind fun t214 => (if t214 = true then (if (a0_5.size : Int) ≤ 64 then (if (a0_6.size : Int) ≤ 64 then (some (decide ((a0_7.size : Int) ≤ 64))) else (some false)) else (some false)) else (some false))) else (some false))) else (some false))) else (some false))) else (some false)) = some r := h
  clear h
  by_cases c2 : (a0_0.size : Int) ≤ 128
  rotate_left
  · rw [if_neg c2] at H
    have c2b0 : decide ((a0_0.size : Int) ≤ 128) = false := decide_eq_false c2
    have c2b1 : decide (a0_0.size ≤ 128) = false := decide_eq_false (by omega)
    clear c2
    obtain rfl := Option.some.inj H
    go_enter Try.func16, Try.ntmps16
    go_wp2_with (first | ((with_reducible refine gate_dst (N := 1) rfl ?_); refine box_event ?hg (N := 1) ?hd (cs := #[.string a0_0, .int .i64 a0_1, .int .i64 a0_2, .int .i64 a0_3, .int .i64 a0_4, .string a0_5, .string a0_6, .string a0_7]) (t := 36) ?hr ?_; (case hd => rfl); (case hg => rfl); (case hr => first | (go_simp; done) | (go_simp; rfl)); intro gb210 hg w27 hbox hb; have BK210 := Aside0.mk (hbox); have GW210 := Kw_ HB hg; have GE210 := GW210; replace HB := Ks_ HB hb; clear hb hbox hg; obtain ⟨hcz28_0, hcz28_1, hcz28_2, hcz28_3, hcz28_4, hcz28_5, hcz28_6, hcz28_7, hfz28_0, hfz28_1, hfz28_2, hfz28_3, hfz28_4, hfz28_5, hfz28_6, hfz28_7⟩ := Ke8_ BK210.out))
    go_ret
    exact ⟨by first | rfl | (simp [errW_none, errW_some] <;> rfl) | (simp [*, errW_none, errW_some] <;> rfl), Kz_ HB GE210⟩
  rw [if_pos c2] at H
  have c2b0 : decide ((a0_0.size : Int) ≤ 128) = true := decide_eq_true c2
  have c2b1 : decide (a0_0.size ≤ 128) = true := decide_eq_true (by omega)
  clear c2
  replace H := Option.bind_eq_some_iff.mp H
  obtain ⟨t211, A30, H⟩ := H
  replace H : (if t211 = true then ((tenementref19_small.f a0_2).bind fun t212 => (if t212 = true then ((tenementref19_small.f a0_3).bind fun t213 => (if t213 = true then ((tenementref19_small.f a0_4).bind fun t214 => (if t214 = true then (if (a0_5.size : Int) ≤ 64 then (if (a0_6.size : Int) ≤ 64 then (some (decide ((a0_7.size : Int) ≤ 64))) else (some false)) else (some false)) else (some false))) else (some false))) else (some false))) else (some false)) = some r := H
  have A3 := Aside0.mk A30
  clear A30
  by_cases c4 : t211 = true
  rotate_left
  · replace c4 := Bool.eq_false_iff.mpr c4
    subst c4
    have H1 : (some false) = some r := by rw [if_neg (show ¬ (false = true) by decide)] at H; exact H
    clear H
    have H := H1
    clear H1
    obtain rfl := Option.some.inj H
    go_enter Try.func16, Try.ntmps16
    go_wp2_with (first | ((with_reducible refine gate_dst (N := 1) rfl ?_); refine box_event ?hg (N := 1) ?hd (cs := #[.string a0_0, .int .i64 a0_1, .int .i64 a0_2, .int .i64 a0_3, .int .i64 a0_4, .string a0_5, .string a0_6, .string a0_7]) (t := 36) ?hr ?_; (case hd => rfl); (case hg => rfl); (case hr => first | (go_simp; done) | (go_simp; rfl)); intro gb210 hg w25 hbox hb; have BK210 := Aside0.mk (hbox); have GW210 := Kw_ HB hg; have GE210 := GW210; replace HB := Ks_ HB hb; clear hb hbox hg; obtain ⟨hcz26_0, hcz26_1, hcz26_2, hcz26_3, hcz26_4, hcz26_5, hcz26_6, hcz26_7, hfz26_0, hfz26_1, hfz26_2, hfz26_3, hfz26_4, hfz26_5, hfz26_6, hfz26_7⟩ := Ke8_ BK210.out) | (go_at_call 33; (with_reducible refine (tenementref19_small.calls a0_1 false _ A3.out).mono ?_); rintro e w' ⟨rfl, ⟨nd, rfl⟩⟩))
    go_ret
    exact ⟨by first | rfl | (simp [errW_none, errW_some] <;> rfl) | (simp [*, errW_none, errW_some] <;> rfl), Kz_ HB GE210⟩
  subst c4
  have H1 : ((tenementref19_small.f a0_2).bind fun t212 => (if t212 = true then ((tenementref19_small.f a0_3).bind fun t213 => (if t213 = true then ((tenementref19_small.f a0_4).bind fun t214 => (if t214 = true then (if (a0_5.size : Int) ≤ 64 then (if (a0_6.size : Int) ≤ 64 then (some (decide ((a0_7.size : Int) ≤ 64))) else (some false)) else (some false)) else (some false))) else (some false))) else (some false))) = some r := by rw [if_pos rfl] at H; exact H
  clear H
  have H := H1
  clear H1
  replace H := Option.bind_eq_some_iff.mp H
  obtain ⟨t212, A50, H⟩ := H
  replace H : (if t212 = true then ((tenementref19_small.f a0_3).bind fun t213 => (if t213 = true then ((tenementref19_small.f a0_4).bind fun t214 => (if t214 = true then (if (a0_5.size : Int) ≤ 64 then (if (a0_6.size : Int) ≤ 64 then (some (decide ((a0_7.size : Int) ≤ 64))) else (some false)) else (some false)) else (some false))) else (some false))) else (some false)) = some r := H
  have A5 := Aside0.mk A50
  clear A50
  by_cases c6 : t212 = true
  rotate_left
  · replace c6 := Bool.eq_false_iff.mpr c6
    subst c6
    have H1 : (some false) = some r := by rw [if_neg (show ¬ (false = true) by decide)] at H; exact H
    clear H
    have H := H1
    clear H1
    obtain rfl := Option.some.inj H
    go_enter Try.func16, Try.ntmps16
    go_wp2_with (first | ((with_reducible refine gate_dst (N := 1) rfl ?_); refine box_event ?hg (N := 1) ?hd (cs := #[.string a0_0, .int .i64 a0_1, .int .i64 a0_2, .int .i64 a0_3, .int .i64 a0_4, .string a0_5, .string a0_6, .string a0_7]) (t := 36) ?hr ?_; (case hd => rfl); (case hg => rfl); (case hr => first | (go_simp; done) | (go_simp; rfl)); intro gb210 hg w23 hbox hb; have BK210 := Aside0.mk (hbox); have GW210 := Kw_ HB hg; have GE210 := GW210; replace HB := Ks_ HB hb; clear hb hbox hg; obtain ⟨hcz24_0, hcz24_1, hcz24_2, hcz24_3, hcz24_4, hcz24_5, hcz24_6, hcz24_7, hfz24_0, hfz24_1, hfz24_2, hfz24_3, hfz24_4, hfz24_5, hfz24_6, hfz24_7⟩ := Ke8_ BK210.out) | (go_at_call 33; (with_reducible refine (tenementref19_small.calls a0_1 true _ A3.out).mono ?_); rintro e w' ⟨rfl, ⟨nd, rfl⟩⟩) | (go_at_call 33; (with_reducible refine (tenementref19_small.calls a0_2 false _ A5.out).mono ?_); rintro e w' ⟨rfl, ⟨nd, rfl⟩⟩))
    go_ret
    exact ⟨by first | rfl | (simp [errW_none, errW_some] <;> rfl) | (simp [*, errW_none, errW_some] <;> rfl), Kz_ HB GE210⟩
  subst c6
  have H1 : ((tenementref19_small.f a0_3).bind fun t213 => (if t213 = true then ((tenementref19_small.f a0_4).bind fun t214 => (if t214 = true then (if (a0_5.size : Int) ≤ 64 then (if (a0_6.size : Int) ≤ 64 then (some (decide ((a0_7.size : Int) ≤ 64))) else (some false)) else (some false)) else (some false))) else (some false))) = some r := by rw [if_pos rfl] at H; exact H
  clear H
  have H := H1
  clear H1
  replace H := Option.bind_eq_some_iff.mp H
  obtain ⟨t213, A70, H⟩ := H
  replace H : (if t213 = true then ((tenementref19_small.f a0_4).bind fun t214 => (if t214 = true then (if (a0_5.size : Int) ≤ 64 then (if (a0_6.size : Int) ≤ 64 then (some (decide ((a0_7.size : Int) ≤ 64))) else (some false)) else (some false)) else (some false))) else (some false)) = some r := H
  have A7 := Aside0.mk A70
  clear A70
  by_cases c8 : t213 = true
  rotate_left
  · replace c8 := Bool.eq_false_iff.mpr c8
    subst c8
    have H1 : (some false) = some r := by rw [if_neg (show ¬ (false = true) by decide)] at H; exact H
    clear H
    have H := H1
    clear H1
    obtain rfl := Option.some.inj H
    go_enter Try.func16, Try.ntmps16
    go_wp2_with (first | ((with_reducible refine gate_dst (N := 1) rfl ?_); refine box_event ?hg (N := 1) ?hd (cs := #[.string a0_0, .int .i64 a0_1, .int .i64 a0_2, .int .i64 a0_3, .int .i64 a0_4, .string a0_5, .string a0_6, .string a0_7]) (t := 36) ?hr ?_; (case hd => rfl); (case hg => rfl); (case hr => first | (go_simp; done) | (go_simp; rfl)); intro gb210 hg w21 hbox hb; have BK210 := Aside0.mk (hbox); have GW210 := Kw_ HB hg; have GE210 := GW210; replace HB := Ks_ HB hb; clear hb hbox hg; obtain ⟨hcz22_0, hcz22_1, hcz22_2, hcz22_3, hcz22_4, hcz22_5, hcz22_6, hcz22_7, hfz22_0, hfz22_1, hfz22_2, hfz22_3, hfz22_4, hfz22_5, hfz22_6, hfz22_7⟩ := Ke8_ BK210.out) | (go_at_call 33; (with_reducible refine (tenementref19_small.calls a0_1 true _ A3.out).mono ?_); rintro e w' ⟨rfl, ⟨nd, rfl⟩⟩) | (go_at_call 33; (with_reducible refine (tenementref19_small.calls a0_2 true _ A5.out).mono ?_); rintro e w' ⟨rfl, ⟨nd, rfl⟩⟩) | (go_at_call 33; (with_reducible refine (tenementref19_small.calls a0_3 false _ A7.out).mono ?_); rintro e w' ⟨rfl, ⟨nd, rfl⟩⟩))
    go_ret
    exact ⟨by first | rfl | (simp [errW_none, errW_some] <;> rfl) | (simp [*, errW_none, errW_some] <;> rfl), Kz_ HB GE210⟩
  subst c8
  have H1 : ((tenementref19_small.f a0_4).bind fun t214 => (if t214 = true then (if (a0_5.size : Int) ≤ 64 then (if (a0_6.size : Int) ≤ 64 then (some (decide ((a0_7.size : Int) ≤ 64))) else (some false)) else (some false)) else (some false))) = some r := by rw [if_pos rfl] at H; exact H
  clear H
  have H := H1
  clear H1
  replace H := Option.bind_eq_some_iff.mp H
  obtain ⟨t214, A90, H⟩ := H
  replace H : (if t214 = true then (if (a0_5.size : Int) ≤ 64 then (if (a0_6.size : Int) ≤ 64 then (some (decide ((a0_7.size : Int) ≤ 64))) else (some false)) else (some false)) else (some false)) = some r := H
  have A9 := Aside0.mk A90
  clear A90
  by_cases c10 : t214 = true
  rotate_left
  · replace c10 := Bool.eq_false_iff.mpr c10
    subst c10
    have H1 : (some false) = some r := by rw [if_neg (show ¬ (false = true) by decide)] at H; exact H
    clear H
    have H := H1
    clear H1
    obtain rfl := Option.some.inj H
    go_enter Try.func16, Try.ntmps16
    go_wp2_with (first | ((with_reducible refine gate_dst (N := 1) rfl ?_); refine box_event ?hg (N := 1) ?hd (cs := #[.string a0_0, .int .i64 a0_1, .int .i64 a0_2, .int .i64 a0_3, .int .i64 a0_4, .string a0_5, .string a0_6, .string a0_7]) (t := 36) ?hr ?_; (case hd => rfl); (case hg => rfl); (case hr => first | (go_simp; done) | (go_simp; rfl)); intro gb210 hg w19 hbox hb; have BK210 := Aside0.mk (hbox); have GW210 := Kw_ HB hg; have GE210 := GW210; replace HB := Ks_ HB hb; clear hb hbox hg; obtain ⟨hcz20_0, hcz20_1, hcz20_2, hcz20_3, hcz20_4, hcz20_5, hcz20_6, hcz20_7, hfz20_0, hfz20_1, hfz20_2, hfz20_3, hfz20_4, hfz20_5, hfz20_6, hfz20_7⟩ := Ke8_ BK210.out) | (go_at_call 33; (with_reducible refine (tenementref19_small.calls a0_1 true _ A3.out).mono ?_); rintro e w' ⟨rfl, ⟨nd, rfl⟩⟩) | (go_at_call 33; (with_reducible refine (tenementref19_small.calls a0_2 true _ A5.out).mono ?_); rintro e w' ⟨rfl, ⟨nd, rfl⟩⟩) | (go_at_call 33; (with_reducible refine (tenementref19_small.calls a0_3 true _ A7.out).mono ?_); rintro e w' ⟨rfl, ⟨nd, rfl⟩⟩) | (go_at_call 33; (with_reducible refine (tenementref19_small.calls a0_4 false _ A9.out).mono ?_); rintro e w' ⟨rfl, ⟨nd, rfl⟩⟩))
    go_ret
    exact ⟨by first | rfl | (simp [errW_none, errW_some] <;> rfl) | (simp [*, errW_none, errW_some] <;> rfl), Kz_ HB GE210⟩
  subst c10
  have H1 : (if (a0_5.size : Int) ≤ 64 then (if (a0_6.size : Int) ≤ 64 then (some (decide ((a0_7.size : Int) ≤ 64))) else (some false)) else (some false)) = some r := by rw [if_pos rfl] at H; exact H
  clear H
  have H := H1
  clear H1
  by_cases c11 : (a0_5.size : Int) ≤ 64
  rotate_left
  · rw [if_neg c11] at H
    have c11b0 : decide ((a0_5.size : Int) ≤ 64) = false := decide_eq_false c11
    have c11b1 : decide (a0_5.size ≤ 64) = false := decide_eq_false (by omega)
    clear c11
    obtain rfl := Option.some.inj H
    go_enter Try.func16, Try.ntmps16
    go_wp2_with (first | ((with_reducible refine gate_dst (N := 1) rfl ?_); refine box_event ?hg (N := 1) ?hd (cs := #[.string a0_0, .int .i64 a0_1, .int .i64 a0_2, .int .i64 a0_3, .int .i64 a0_4, .string a0_5, .string a0_6, .string a0_7]) (t := 36) ?hr ?_; (case hd => rfl); (case hg => rfl); (case hr => first | (go_simp; done) | (go_simp; rfl)); intro gb210 hg w17 hbox hb; have BK210 := Aside0.mk (hbox); have GW210 := Kw_ HB hg; have GE210 := GW210; replace HB := Ks_ HB hb; clear hb hbox hg; obtain ⟨hcz18_0, hcz18_1, hcz18_2, hcz18_3, hcz18_4, hcz18_5, hcz18_6, hcz18_7, hfz18_0, hfz18_1, hfz18_2, hfz18_3, hfz18_4, hfz18_5, hfz18_6, hfz18_7⟩ := Ke8_ BK210.out) | (go_at_call 33; (with_reducible refine (tenementref19_small.calls a0_1 true _ A3.out).mono ?_); rintro e w' ⟨rfl, ⟨nd, rfl⟩⟩) | (go_at_call 33; (with_reducible refine (tenementref19_small.calls a0_2 true _ A5.out).mono ?_); rintro e w' ⟨rfl, ⟨nd, rfl⟩⟩) | (go_at_call 33; (with_reducible refine (tenementref19_small.calls a0_3 true _ A7.out).mono ?_); rintro e w' ⟨rfl, ⟨nd, rfl⟩⟩) | (go_at_call 33; (with_reducible refine (tenementref19_small.calls a0_4 true _ A9.out).mono ?_); rintro e w' ⟨rfl, ⟨nd, rfl⟩⟩))
    go_ret
    exact ⟨by first | rfl | (simp [errW_none, errW_some] <;> rfl) | (simp [*, errW_none, errW_some] <;> rfl), Kz_ HB GE210⟩
  rw [if_pos c11] at H
  have c11b0 : decide ((a0_5.size : Int) ≤ 64) = true := decide_eq_true c11
  have c11b1 : decide (a0_5.size ≤ 64) = true := decide_eq_true (by omega)
  clear c11
  by_cases c12 : (a0_6.size : Int) ≤ 64
  · rw [if_pos c12] at H
    have c12b0 : decide ((a0_6.size : Int) ≤ 64) = true := decide_eq_true c12
    have c12b1 : decide (a0_6.size ≤ 64) = true := decide_eq_true (by omega)
    clear c12
    obtain rfl := Option.some.inj H
    go_enter Try.func16, Try.ntmps16
    go_wp2_with (first | ((with_reducible refine gate_dst (N := 1) rfl ?_); refine box_event ?hg (N := 1) ?hd (cs := #[.string a0_0, .int .i64 a0_1, .int .i64 a0_2, .int .i64 a0_3, .int .i64 a0_4, .string a0_5, .string a0_6, .string a0_7]) (t := 36) ?hr ?_; (case hd => rfl); (case hg => rfl); (case hr => first | (go_simp; done) | (go_simp; rfl)); intro gb210 hg w13 hbox hb; have BK210 := Aside0.mk (hbox); have GW210 := Kw_ HB hg; have GE210 := GW210; replace HB := Ks_ HB hb; clear hb hbox hg; obtain ⟨hcz14_0, hcz14_1, hcz14_2, hcz14_3, hcz14_4, hcz14_5, hcz14_6, hcz14_7, hfz14_0, hfz14_1, hfz14_2, hfz14_3, hfz14_4, hfz14_5, hfz14_6, hfz14_7⟩ := Ke8_ BK210.out) | (go_at_call 33; (with_reducible refine (tenementref19_small.calls a0_1 true _ A3.out).mono ?_); rintro e w' ⟨rfl, ⟨nd, rfl⟩⟩) | (go_at_call 33; (with_reducible refine (tenementref19_small.calls a0_2 true _ A5.out).mono ?_); rintro e w' ⟨rfl, ⟨nd, rfl⟩⟩) | (go_at_call 33; (with_reducible refine (tenementref19_small.calls a0_3 true _ A7.out).mono ?_); rintro e w' ⟨rfl, ⟨nd, rfl⟩⟩) | (go_at_call 33; (with_reducible refine (tenementref19_small.calls a0_4 true _ A9.out).mono ?_); rintro e w' ⟨rfl, ⟨nd, rfl⟩⟩))
    go_ret
    exact ⟨by first | rfl | (simp [errW_none, errW_some] <;> rfl) | (simp [*, errW_none, errW_some] <;> rfl), Kz_ HB GE210⟩
  rw [if_neg c12] at H
  have c12b0 : decide ((a0_6.size : Int) ≤ 64) = false := decide_eq_false c12
  have c12b1 : decide (a0_6.size ≤ 64) = false := decide_eq_false (by omega)
  clear c12
  obtain rfl := Option.some.inj H
  go_enter Try.func16, Try.ntmps16
  go_wp2_with (first | ((with_reducible refine gate_dst (N := 1) rfl ?_); refine box_event ?hg (N := 1) ?hd (cs := #[.string a0_0, .int .i64 a0_1, .int .i64 a0_2, .int .i64 a0_3, .int .i64 a0_4, .string a0_5, .string a0_6, .string a0_7]) (t := 36) ?hr ?_; (case hd => rfl); (case hg => rfl); (case hr => first | (go_simp; done) | (go_simp; rfl)); intro gb210 hg w15 hbox hb; have BK210 := Aside0.mk (hbox); have GW210 := Kw_ HB hg; have GE210 := GW210; replace HB := Ks_ HB hb; clear hb hbox hg; obtain ⟨hcz16_0, hcz16_1, hcz16_2, hcz16_3, hcz16_4, hcz16_5, hcz16_6, hcz16_7, hfz16_0, hfz16_1, hfz16_2, hfz16_3, hfz16_4, hfz16_5, hfz16_6, hfz16_7⟩ := Ke8_ BK210.out) | (go_at_call 33; (with_reducible refine (tenementref19_small.calls a0_1 true _ A3.out).mono ?_); rintro e w' ⟨rfl, ⟨nd, rfl⟩⟩) | (go_at_call 33; (with_reducible refine (tenementref19_small.calls a0_2 true _ A5.out).mono ?_); rintro e w' ⟨rfl, ⟨nd, rfl⟩⟩) | (go_at_call 33; (with_reducible refine (tenementref19_small.calls a0_3 true _ A7.out).mono ?_); rintro e w' ⟨rfl, ⟨nd, rfl⟩⟩) | (go_at_call 33; (with_reducible refine (tenementref19_small.calls a0_4 true _ A9.out).mono ?_); rintro e w' ⟨rfl, ⟨nd, rfl⟩⟩))
  go_ret
  exact ⟨by first | rfl | (simp [errW_none, errW_some] <;> rfl) | (simp [*, errW_none, errW_some] <;> rfl), Kz_ HB GE210⟩

end Go.Proofs.Ytplgbkobpanbfaa.Q

-- Written by this session's own driver (wip/hybrid.py) of the kit's printer; contracts marked FOREIGN are by hand.
namespace Go.Proofs.Ytplgbkobpanbfaa.Q
open Go.RowKit Go.Proofs.YtplgbkobpanbfaaW.PrintWords Go.Proofs.YtplgbkobpanbfaaW.PrintLast Go.Proofs.YtplgbkobpanbfaaW.PrintMore
attribute [local go_sem] max2_int min2_int max_two min_two max_three min_three max_four min_four   -- for this text's walks alone
set_option linter.unusedVariables false
set_option linter.unusedSimpArgs false

/-! ### tenementref02_Vary: function 46 -/
def tenementref02_Vary.l0 : Nat → Int → List Int → Option (ByteArray)
  | 0, _, _ => none
  | k + 1, x0, x3 => if x0 ≥ 128 then (if x3.length < 140737488355328 then (tenementref02_Vary.l0 k (IntKind.u64.wrap (Int.tdiv x0 128)) (x3 ++ [(IntKind.u64.wrap ((Int.tmod x0 128) + 128)) % 256])) else (none)) else (if x3.length < 140737488355328 then (some (strOfNums (x3 ++ [(x0) % 256]))) else (none))
def tenementref02_Vary.f (k : Nat) (a0 : Int) : Option (ByteArray) := tenementref02_Vary.l0 k a0 ([] : List Int)
theorem tenementref02_Vary.mono_l : ∀ k, (∀ y0 y1, LeO (tenementref02_Vary.l0 k y0 y1) (tenementref02_Vary.l0 (k + 1) y0 y1))
  | 0 => fun _ _ r h => by simp [tenementref02_Vary.l0] at h
  | k + 1 => by
    have ih0 := tenementref02_Vary.mono_l k
    · intro y0 y1
      unfold tenementref02_Vary.l0
      repeat' first
      | (with_reducible exact ih0 _ _)
      | (with_reducible exact LeO.refl _)
      | (with_reducible exact LeO.none _)
      | (with_reducible refine LeO.ite ?_ ?_)
      | (with_reducible refine LeO.bind ?_ (fun _ => ?_))
      | exact ih0 _ _
      | exact LeO.none _
      | refine LeO.ite ?_ ?_
      | refine LeO.bind ?_ (fun _ => ?_)
theorem tenementref02_Vary.mono : ∀ a0 k, LeO (tenementref02_Vary.f k a0) (tenementref02_Vary.f (k + 1) a0) := by
  intro a0 k
  have ih0 := tenementref02_Vary.mono_l k
  unfold tenementref02_Vary.f
  repeat' first
      | (with_reducible exact ih0 _ _)
      | (with_reducible exact LeO.refl _)
      | (with_reducible exact LeO.none _)
      | (with_reducible refine LeO.ite ?_ ?_)
      | (with_reducible refine LeO.bind ?_ (fun _ => ?_))
      | exact ih0 _ _
      | exact LeO.none _
      | refine LeO.ite ?_ ?_
      | refine LeO.bind ?_ (fun _ => ?_)
set_option maxHeartbeats 8000000 in
set_option maxRecDepth 100000 in
theorem tenementref02_Vary.calls (k : Nat) (a0 : Int) (r : ByteArray) (w : World) (h : tenementref02_Vary.f k a0 = some r) :
    Calls Try.prog 46 #[.int .u64 a0] w fun e w' => e = .returned (.string r) ∧ Below w.heap.size w w' := by
  have HB := Aside0.mk (Below.refl w.heap.size w)
  have H : (tenementref02_Vary.l0 k a0 ([] : List Int)) = some r := h
  clear h
  have H' := Aside0.mk H
  clear H
  go_enter Try.func46, Try.ntmps46
  go_wp2
  go_loopg [0, 3] k (fun kq v0 v3 w' => ∃ (x0_1 : Int) (x3_1 : List Int), v0 = .int .u64 x0_1 ∧ Aside0 (tenementref02_Vary.l0 kq x0_1 x3_1 = some r) ∧ Aside0 (kq ≤ k) ∧ Aside0 (Kd.R (Kd.int .u8) 5 w' w.heap.size (fun _ => True) v3 x3_1) ∧ Aside0 (Below w.heap.size w w'))
  case atStart => exact ⟨(a0), (([] : List Int)), (by first | rfl | (simp; done) | (simp [*]; done)), H', ⟨Nat.le_refl _⟩, ⟨by first | exact Kd.R_nil _ _ _ _ _ | exact Kd.N_nil _ _ _ _ _ | exact Kd.V_nil _ _ _ _ _ | exact Kd.Q_nil _ _ _ _ _ | exact Kd.S_nil _ _ _ _ _⟩, ⟨Ky_ HB⟩⟩
  case round =>
    clear H'
    obtain ⟨x0_1, x3_1, rfl, HA, HK1, HO_3, HB⟩ := hrel
    cases gk with
    | zero => exact absurd HA.out (by simp [tenementref02_Vary.l0])
    | succ k1 =>
      have H := HA.out
      clear HA
      simp only [tenementref02_Vary.l0] at H
      by_cases c2 : x0_1 ≥ 128
      rotate_left
      · rw [if_neg c2] at H
        have c2b0 : decide (128 ≤ x0_1) = false := decide_eq_false c2
        clear c2
        by_cases c5 : x3_1.length < 140737488355328
        rotate_left
        · rw [if_neg c5] at H
          exact absurd H (by simp)
        rw [if_pos c5] at H
        have LMc5 := Aside0.mk c5
        clear c5
        obtain ⟨y218, hy218⟩ : ∃ y_ : List Int, y_ = (x3_1 ++ [(x0_1) % 256]) := ⟨_, rfl⟩
        replace H : (some (strOfNums y218)) = some r := by first | (rw [hy218]; with_reducible exact H) | (have H2_ := (Option.bind_some _ _).symm.trans H; rw [hy218]; with_reducible exact H2_) | (have H2_ := (Option.bind_some _ _).symm.trans H; with_reducible exact H2_) | with_reducible exact H | (rw [hy218]; exact H) | exact H
        have Ny218 := Aside0.mk hy218
        clear hy218
        obtain rfl := Option.some.inj H
        go_wp2_with (first | ((with_reducible refine gate_builtin (b := .append) (xs := #[.tmp 15, .tmp 18]) rfl ?_); at_builtin; refine Kd.R_append (Kd.int .u8) (w0 := w) w.heap.size rfl (.tmp 15) (.tmp 18) 66 5 (.int .u8 0) 1 rfl Try.underlying66 info5 rfl (by decide) (by omega) u3 x3_1 ((x0_1) % 256) [.int .u8 ((x0_1) % 256)] (fun _ => True) (fun _ => False) rfl rfl ?aP (fun _ hk => hk.elim) ?aF ?aO ?aB ?aS ?aL ?_; (case aP => exact rfl); (case aB => exact (Ky_ HB)); (case aF => exact (fun _ _ => trivial)); (case aO => exact (by (with_reducible repeat (first | apply Kd.R_alloc | apply Kd.R_drewN | apply Kd.R_drew)); exact HO_3.out)); (case aS => exact (below_size (Ky_ HB))); (case aL => have := LMc5.out; omega); intro v219 w6 ho hb hg hat; rw [← Ny218.out] at ho; have HO220 := Aside0.mk (ho); replace HB := Aside0.mk (hb); clear HO_3; clear ho hb hg hat; have hcv7 := own_string (P := Try.prog) Try.underlying66 Try.underlying5 Try.underlying9 (Kd.own_of_R HO220.out)))
        go_ret
        exact ⟨by first | rfl | (simp [errW_none, errW_some] <;> rfl) | (simp [*, errW_none, errW_some] <;> rfl), Ky_ HB⟩
      rw [if_pos c2] at H
      have c2b0 : decide (128 ≤ x0_1) = true := decide_eq_true c2
      clear c2
      by_cases c3 : x3_1.length < 140737488355328
      rotate_left
      · rw [if_neg c3] at H
        exact absurd H (by simp)
      rw [if_pos c3] at H
      have LMc3 := Aside0.mk c3
      clear c3
      obtain ⟨y215, hy215⟩ : ∃ y_ : List Int, y_ = (x3_1 ++ [(IntKind.u64.wrap ((Int.tmod x0_1 128) + 128)) % 256]) := ⟨_, rfl⟩
      replace H : (tenementref02_Vary.l0 k1 (IntKind.u64.wrap (Int.tdiv x0_1 128)) y215) = some r := by first | (rw [hy215]; with_reducible exact H) | (have H2_ := (Option.bind_some _ _).symm.trans H; rw [hy215]; with_reducible exact H2_) | (have H2_ := (Option.bind_some _ _).symm.trans H; with_reducible exact H2_) | with_reducible exact H | (rw [hy215]; exact H) | exact H
      have Ny215 := Aside0.mk hy215
      clear hy215
      have H' := Aside0.mk H
      clear H
      go_wp2_with (first | ((with_reducible refine gate_builtin (b := .append) (xs := #[.tmp 6, .tmp 11]) rfl ?_); at_builtin; refine Kd.R_append (Kd.int .u8) (w0 := w) w.heap.size rfl (.tmp 6) (.tmp 11) 66 5 (.int .u8 0) 1 rfl Try.underlying66 info5 rfl (by decide) (by omega) u3 x3_1 ((IntKind.u64.wrap ((Int.tmod x0_1 128) + 128)) % 256) [.int .u8 ((IntKind.u64.wrap ((Int.tmod x0_1 128) + 128)) % 256)] (fun _ => True) (fun _ => False) rfl rfl ?aP (fun _ hk => hk.elim) ?aF ?aO ?aB ?aS ?aL ?_; (case aP => exact rfl); (case aB => exact (Ky_ HB)); (case aF => exact (fun _ _ => trivial)); (case aO => exact (by (with_reducible repeat (first | apply Kd.R_alloc | apply Kd.R_drewN | apply Kd.R_drew)); exact HO_3.out)); (case aS => exact (below_size (Ky_ HB))); (case aL => have := LMc3.out; omega); intro v216 w4 ho hb hg hat; rw [← Ny215.out] at ho; have HO217 := Aside0.mk (ho); replace HB := Aside0.mk (hb); clear HO_3; clear ho hb hg hat))
      go_roundg k1
      case measure => have := HK1.out; omega
      case rel => exact ⟨(IntKind.u64.wrap (Int.tdiv x0_1 128)), (y215), (by first | rfl | (simp; done) | (simp [*]; done)), H', ⟨by have := HK1.out; omega⟩, ⟨by (with_reducible repeat (first | apply Kd.R_alloc | apply Kd.R_drewN | apply Kd.R_drew)); exact HO217.out⟩, ⟨Ky_ HB⟩⟩

end Go.Proofs.Ytplgbkobpanbfaa.Q

-- Written by this session's own driver (wip/hybrid.py) of the kit's printer; contracts marked FOREIGN are by hand.
namespace Go.Proofs.Ytplgbkobpanbfaa.Q
open Go.RowKit Go.Proofs.YtplgbkobpanbfaaW.PrintWords Go.Proofs.YtplgbkobpanbfaaW.PrintLast Go.Proofs.YtplgbkobpanbfaaW.PrintMore
attribute [local go_sem] max2_int min2_int max_two min_two max_three min_three max_four min_four   -- for this text's walks alone
set_option linter.unusedVariables false
set_option linter.unusedSimpArgs false

/-! ### tenementref02_Text: function 28 -/
def tenementref02_Text.f (k : Nat) (a0 : ByteArray) : Option (ByteArray) := if a0.size ≤ 9223372036854775807 then ((tenementref02_Vary.f k (a0.size : Int)).bind fun t221 => (if t221.size + a0.size ≤ 9223372036854775807 then (some (t221 ++ a0)) else (none))) else (none)
theorem tenementref02_Text.mono : ∀ a0 k, LeO (tenementref02_Text.f k a0) (tenementref02_Text.f (k + 1) a0) := by
  intro a0 k
  unfold tenementref02_Text.f
  repeat' first
      | (with_reducible exact tenementref02_Vary.mono _ _)
      | (with_reducible exact LeO.refl _)
      | (with_reducible exact LeO.none _)
      | (with_reducible refine LeO.ite ?_ ?_)
      | (with_reducible refine LeO.bind ?_ (fun _ => ?_))
      | exact tenementref02_Vary.mono _ _
      | exact LeO.none _
      | refine LeO.ite ?_ ?_
      | refine LeO.bind ?_ (fun _ => ?_)
set_option maxHeartbeats 8000000 in
set_option maxRecDepth 100000 in
theorem tenementref02_Text.calls (k : Nat) (a0 : ByteArray) (r : ByteArray) (w : World) (h : tenementref02_Text.f k a0 = some r) :
    Calls Try.prog 28 #[.string a0] w fun e w' => e = .returned (.string r) ∧ Below w.heap.size w w' := by
  have HB := Aside0.mk (Below.refl w.heap.size w)
  have H : (if a0.size ≤ 9223372036854775807 then ((tenementref02_Vary.f k (a0.size : Int)).bind fun t221 => (if t221.size + a0.size ≤ 9223372036854775807 then (some (t221 ++ a0)) else (none))) else (none)) = some r := h
  (try (have Hs_ := H; simp only [ByteArray.size_append, Int.natCast_add] at Hs_))
  clear h
  by_cases c2 : a0.size ≤ 9223372036854775807
  rotate_left
  · rw [if_neg c2] at H
    exact absurd H (by simp)
  rw [if_pos c2] at H
  have c2b0 := eq_true c2
  have c2b1 : decide (a0.size ≤ 9223372036854775807) = true := decide_eq_true c2
  try have c2b2 : (9223372036854775807 < a0.size) = False := eq_false (Nat.not_lt.2 c2)
  replace H := Option.bind_eq_some_iff.mp H
  obtain ⟨t221, A30, H⟩ := H
  replace H : (if t221.size + a0.size ≤ 9223372036854775807 then (some (t221 ++ a0)) else (none)) = some r := H
  have A3 := Aside0.mk A30
  clear A30
  by_cases c4 : t221.size + a0.size ≤ 9223372036854775807
  rotate_left
  · rw [if_neg c4] at H
    exact absurd H (by simp)
  rw [if_pos c4] at H
  have c4b0 := eq_true c4
  have c4b1 : decide (t221.size + a0.size ≤ 9223372036854775807) = true := decide_eq_true c4
  try have c4b2 : (9223372036854775807 < t221.size + a0.size) = False := eq_false (Nat.not_lt.2 c4)
  obtain rfl := Option.some.inj H
  go_enter Try.func28, Try.ntmps28
  go_wp2_with (first | ((with_reducible refine gate_callee (f := 46) rfl ?_); refine goesL_ (some 6) rfl rfl Try.func46 (by kernel_rfl) rfl #[.int .u64 (a0.size : Int)] rfl (by (try simp only [List.map_toArray, List.map_cons, List.map_nil]); first | done | rfl | (simp only [List.length_drop, List.length_take]; rfl)) ?_; (with_reducible refine (tenementref02_Vary.calls k (a0.size : Int) t221 _ A3.out).mono ?_); rintro e w5 ⟨rfl, hb⟩; refine ⟨_, rfl, ?_⟩; replace HB := Ks_ HB hb; (try clear hb); (try clear hb2); (try clear hk); (try clear hi)))
  go_ret
  exact ⟨by first | rfl | (simp [errW_none, errW_some] <;> rfl) | (simp [*, errW_none, errW_some] <;> rfl), Ky_ HB⟩

end Go.Proofs.Ytplgbkobpanbfaa.Q

-- Written by this session's own driver (wip/hybrid.py) of the kit's printer; contracts marked FOREIGN are by hand.
namespace Go.Proofs.Ytplgbkobpanbfaa.Q
open Go.RowKit Go.Proofs.YtplgbkobpanbfaaW.PrintWords Go.Proofs.YtplgbkobpanbfaaW.PrintLast Go.Proofs.YtplgbkobpanbfaaW.PrintMore
attribute [local go_sem] max2_int min2_int max_two min_two max_three min_three max_four min_four   -- for this text's walks alone
set_option linter.unusedVariables false
set_option linter.unusedSimpArgs false

/-! ### tenementlaw19_refRequest: function 13 -/
def tenementlaw19_refRequest.f (a0_0 : ByteArray) (a0_1 : Int) (a0_2 : Int) (a0_3 : Int) (a0_4 : Int) (a0_5 : ByteArray) (a0_6 : ByteArray) (a0_7 : ByteArray) : Option (ByteArray × Int × Int × Int × Int × ByteArray × ByteArray × ByteArray) := some (a0_0, a0_1, a0_2, a0_3, a0_4, a0_5, a0_6, a0_7)
set_option maxHeartbeats 8000000 in
set_option maxRecDepth 100000 in
theorem tenementlaw19_refRequest.calls (a0_0 : ByteArray) (a0_1 : Int) (a0_2 : Int) (a0_3 : Int) (a0_4 : Int) (a0_5 : ByteArray) (a0_6 : ByteArray) (a0_7 : ByteArray) (r1 : ByteArray) (r2 : Int) (r3 : Int) (r4 : Int) (r5 : Int) (r6 : ByteArray) (r7 : ByteArray) (r8 : ByteArray) (w : World) (h : tenementlaw19_refRequest.f a0_0 a0_1 a0_2 a0_3 a0_4 a0_5 a0_6 a0_7 = some (r1, r2, r3, r4, r5, r6, r7, r8)) :
    Calls Try.prog 13 #[.agg #[.string a0_0, .int .i64 a0_1, .int .i64 a0_2, .int .i64 a0_3, .int .i64 a0_4, .string a0_5, .string a0_6, .string a0_7]] w fun e w' => e = .returned (.agg #[.string r1, .int .i64 r2, .int .i64 r3, .int .i64 r4, .int .i64 r5, .string r6, .string r7, .string r8]) ∧ Below w.heap.size w w' := by
  have hu23 := Try.underlying23
  have hu36 := Try.underlying36
  have HB := Aside0.mk (Below.refl w.heap.size w)
  have H : (some (a0_0, a0_1, a0_2, a0_3, a0_4, a0_5, a0_6, a0_7)) = some (r1, r2, r3, r4, r5, r6, r7, r8) := h
  clear h
  simp only [Option.some.injEq, Prod.mk.injEq] at H
  obtain ⟨rfl, rfl, rfl, rfl, rfl, rfl, rfl, rfl⟩ := H
  go_enter Try.func13, Try.ntmps13
  go_wp2_with (first | ((with_reducible refine gate_dst (N := 1) rfl ?_); refine box_event ?hg (N := 1) ?hd (cs := #[.string a0_0, .int .i64 a0_1, .int .i64 a0_2, .int .i64 a0_3, .int .i64 a0_4, .string a0_5, .string a0_6, .string a0_7]) (t := 23) ?hr ?_; (case hd => rfl); (case hg => rfl); (case hr => first | (go_simp; done) | (go_simp; rfl)); intro gb231 hg w2 hbox hb; have BK231 := Aside0.mk (hbox); have GW231 := Kw_ HB hg; have GE231 := GW231; replace HB := Ks_ HB hb; clear hb hbox hg) | ((with_reducible refine gate_dst (N := 2) rfl ?_); refine box_event ?hg (N := 2) ?hd (cs := #[.string (⟨#[]⟩ : ByteArray), .int .i64 0, .int .i64 0, .int .i64 0, .int .i64 0, .string (⟨#[]⟩ : ByteArray), .string (⟨#[]⟩ : ByteArray), .string (⟨#[]⟩ : ByteArray)]) (t := 36) ?hr ?_; (case hd => rfl); (case hg => rfl); (case hr => first | (go_simp; done) | (go_simp; rfl)); intro gb232 hg w3 hbox hb; have BK232 := Aside0.mk (hbox); have GW232 := Kw_ HB hg; have GE232 := GW232; have NB231_232 := Kl_ BK231 hg; have NB232_231 := Kr_ BK231 hg; replace BK231 := Kb_ BK231 hb; replace HB := Ks_ HB hb; clear hb hbox hg; have hnb4 := NB231_232.out; have hnc4 := NB232_231.out; obtain ⟨hcz5_0, hcz5_1, hcz5_2, hcz5_3, hcz5_4, hcz5_5, hcz5_6, hcz5_7, hfz5_0, hfz5_1, hfz5_2, hfz5_3, hfz5_4, hfz5_5, hfz5_6, hfz5_7⟩ := Ke8_ BK231.out; obtain ⟨hcz6_0, hcz6_1, hcz6_2, hcz6_3, hcz6_4, hcz6_5, hcz6_6, hcz6_7, hfz6_0, hfz6_1, hfz6_2, hfz6_3, hfz6_4, hfz6_5, hfz6_6, hfz6_7⟩ := Ke8_ BK232.out))
  refine bodyPost_ret (results_cell_row rfl _ _ gb232 36 #[.string a0_0, .int .i64 a0_1, .int .i64 a0_2, .int .i64 a0_3, .int .i64 a0_4, .string a0_5, .string a0_6, .string a0_7] (0, 0) _ rfl (by (with_reducible repeat (first | refine blk_drewN ?_ _ | refine blk_drew ?_ | refine blk_alloc ?_ _)); refine blk_put (cs := #[.string a0_0, .int .i64 a0_1, .int .i64 a0_2, .int .i64 a0_3, .int .i64 a0_4, .string a0_5, .string a0_6, .string (⟨#[]⟩ : ByteArray)]) ?_ 7 _ rfl; (with_reducible repeat (first | refine blk_drewN ?_ _ | refine blk_drew ?_ | refine blk_alloc ?_ _)); refine blk_put (cs := #[.string a0_0, .int .i64 a0_1, .int .i64 a0_2, .int .i64 a0_3, .int .i64 a0_4, .string a0_5, .string (⟨#[]⟩ : ByteArray), .string (⟨#[]⟩ : ByteArray)]) ?_ 6 _ rfl; (with_reducible repeat (first | refine blk_drewN ?_ _ | refine blk_drew ?_ | refine blk_alloc ?_ _)); refine blk_put (cs := #[.string a0_0, .int .i64 a0_1, .int .i64 a0_2, .int .i64 a0_3, .int .i64 a0_4, .string (⟨#[]⟩ : ByteArray), .string (⟨#[]⟩ : ByteArray), .string (⟨#[]⟩ : ByteArray)]) ?_ 5 _ rfl; (with_reducible repeat (first | refine blk_drewN ?_ _ | refine blk_drew ?_ | refine blk_alloc ?_ _)); refine blk_put (cs := #[.string a0_0, .int .i64 a0_1, .int .i64 a0_2, .int .i64 a0_3, .int .i64 0, .string (⟨#[]⟩ : ByteArray), .string (⟨#[]⟩ : ByteArray), .string (⟨#[]⟩ : ByteArray)]) ?_ 4 _ rfl; (with_reducible repeat (first | refine blk_drewN ?_ _ | refine blk_drew ?_ | refine blk_alloc ?_ _)); refine blk_put (cs := #[.string a0_0, .int .i64 a0_1, .int .i64 a0_2, .int .i64 0, .int .i64 0, .string (⟨#[]⟩ : ByteArray), .string (⟨#[]⟩ : ByteArray), .string (⟨#[]⟩ : ByteArray)]) ?_ 3 _ rfl; (with_reducible repeat (first | refine blk_drewN ?_ _ | refine blk_drew ?_ | refine blk_alloc ?_ _)); refine blk_put (cs := #[.string a0_0, .int .i64 a0_1, .int .i64 0, .int .i64 0, .int .i64 0, .string (⟨#[]⟩ : ByteArray), .string (⟨#[]⟩ : ByteArray), .string (⟨#[]⟩ : ByteArray)]) ?_ 2 _ rfl; (with_reducible repeat (first | refine blk_drewN ?_ _ | refine blk_drew ?_ | refine blk_alloc ?_ _)); refine blk_put (cs := #[.string a0_0, .int .i64 0, .int .i64 0, .int .i64 0, .int .i64 0, .string (⟨#[]⟩ : ByteArray), .string (⟨#[]⟩ : ByteArray), .string (⟨#[]⟩ : ByteArray)]) ?_ 1 _ rfl; (with_reducible repeat (first | refine blk_drewN ?_ _ | refine blk_drew ?_ | refine blk_alloc ?_ _)); refine blk_put (cs := #[.string (⟨#[]⟩ : ByteArray), .int .i64 0, .int .i64 0, .int .i64 0, .int .i64 0, .string (⟨#[]⟩ : ByteArray), .string (⟨#[]⟩ : ByteArray), .string (⟨#[]⟩ : ByteArray)]) ?_ 0 _ rfl; (with_reducible repeat (first | refine blk_drewN ?_ _ | refine blk_drew ?_ | refine blk_alloc ?_ _)); exact BK232.out) Try.underlying36 rfl (by kernel_rfl)) rfl ?_
  exact ⟨by first | rfl | (simp [errW_none, errW_some] <;> rfl) | (simp [*, errW_none, errW_some] <;> rfl), by repeat (first | (with_reducible first | exact HB.out | apply below_alloc | apply pw_below_drewN | apply below_drew1 | refine below_set ?_ GE231.out | refine below_set ?_ GE232.out) | exact HB.out)⟩

end Go.Proofs.Ytplgbkobpanbfaa.Q

-- Written by this session's own driver (wip/hybrid.py) of the kit's printer; contracts marked FOREIGN are by hand.
namespace Go.Proofs.Ytplgbkobpanbfaa.Q
open Go.RowKit Go.Proofs.YtplgbkobpanbfaaW.PrintWords Go.Proofs.YtplgbkobpanbfaaW.PrintLast Go.Proofs.YtplgbkobpanbfaaW.PrintMore
attribute [local go_sem] max2_int min2_int max_two min_two max_three min_three max_four min_four   -- for this text's walks alone
set_option linter.unusedVariables false
set_option linter.unusedSimpArgs false

/-! ### tenementlaw19_Vector_vector: function 14 -/
def tenementlaw19_Vector_vector.l0 : Nat → Int → Int → Int → Int → Int → Bool → Option (Int × Int × Int × Int)
  | 0, _, _, _, _, _, _ => none
  | k + 1, x3, x234000, x234001, x234002, x234003, x234004 => if x3 < 4 then (if x3 = 0 then (tenementlaw19_Vector_vector.l0 k (wrap64 (x3 + 1)) (Int.tmod x234000 4) x234001 x234002 x234003 x234004) else (if x3 = 1 then (tenementlaw19_Vector_vector.l0 k (wrap64 (x3 + 1)) x234000 (Int.tmod x234001 4) x234002 x234003 x234004) else (if x3 = 2 then (tenementlaw19_Vector_vector.l0 k (wrap64 (x3 + 1)) x234000 x234001 (Int.tmod x234002 4) x234003 x234004) else (if x3 = 3 then (tenementlaw19_Vector_vector.l0 k (wrap64 (x3 + 1)) x234000 x234001 x234002 (Int.tmod x234003 4) x234004) else (none))))) else (some (x234000, x234001, x234002, x234003))
def tenementlaw19_Vector_vector.f (k : Nat) (a0_0 : Int) (a0_1 : Int) (a0_2 : Int) (a0_3 : Int) (a0_4 : Bool) : Option (Int × Int × Int × Int) := if a0_4 = true then (tenementlaw19_Vector_vector.l0 k 0 a0_0 a0_1 a0_2 a0_3 a0_4) else (some (a0_0, a0_1, a0_2, a0_3))
theorem tenementlaw19_Vector_vector.mono_l : ∀ k, (∀ y0 y1 y2 y3 y4 y5, LeO (tenementlaw19_Vector_vector.l0 k y0 y1 y2 y3 y4 y5) (tenementlaw19_Vector_vector.l0 (k + 1) y0 y1 y2 y3 y4 y5))
  | 0 => fun _ _ _ _ _ _ r h => by simp [tenementlaw19_Vector_vector.l0] at h
  | k + 1 => by
    have ih0 := tenementlaw19_Vector_vector.mono_l k
    · intro y0 y1 y2 y3 y4 y5
      unfold tenementlaw19_Vector_vector.l0
      repeat' first
      | (with_reducible exact ih0 _ _ _ _ _ _)
      | (with_reducible exact LeO.refl _)
      | (with_reducible exact LeO.none _)
      | (with_reducible refine LeO.ite ?_ ?_)
      | (with_reducible refine LeO.bind ?_ (fun _ => ?_))
      | exact ih0 _ _ _ _ _ _
      | exact LeO.none _
      | refine LeO.ite ?_ ?_
      | refine LeO.bind ?_ (fun _ => ?_)
theorem tenementlaw19_Vector_vector.mono : ∀ a0 a1 a2 a3 a4 k, LeO (tenementlaw19_Vector_vector.f k a0 a1 a2 a3 a4) (tenementlaw19_Vector_vector.f (k + 1) a0 a1 a2 a3 a4) := by
  intro a0 a1 a2 a3 a4 k
  have ih0 := tenementlaw19_Vector_vector.mono_l k
  unfold tenementlaw19_Vector_vector.f
  repeat' first
      | (with_reducible exact ih0 _ _ _ _ _ _)
      | (with_reducible exact LeO.refl _)
      | (with_reducible exact LeO.none _)
      | (with_reducible refine LeO.ite ?_ ?_)
      | (with_reducible refine LeO.bind ?_ (fun _ => ?_))
      | exact ih0 _ _ _ _ _ _
      | exact LeO.none _
      | refine LeO.ite ?_ ?_
      | refine LeO.bind ?_ (fun _ => ?_)
set_option maxHeartbeats 8000000 in
set_option maxRecDepth 100000 in
theorem tenementlaw19_Vector_vector.calls (k : Nat) (a0_0 : Int) (a0_1 : Int) (a0_2 : Int) (a0_3 : Int) (a0_4 : Bool) (r1 : Int) (r2 : Int) (r3 : Int) (r4 : Int) (w : World) (h : tenementlaw19_Vector_vector.f k a0_0 a0_1 a0_2 a0_3 a0_4 = some (r1, r2, r3, r4)) :
    Calls Try.prog 14 #[.agg #[.int .u64 a0_0, .int .u64 a0_1, .int .u64 a0_2, .int .u64 a0_3, .bool a0_4]] w fun e w' => e = .returned (.agg #[.int .u64 r1, .int .u64 r2, .int .u64 r3, .int .u64 r4]) ∧ Below w.heap.size w w' := by
  have hu30 := Try.underlying30
  have hu28 := Try.underlying28
  have HB := Aside0.mk (Below.refl w.heap.size w)
  have H : (if a0_4 = true then (tenementlaw19_Vector_vector.l0 k 0 a0_0 a0_1 a0_2 a0_3 a0_4) else (some (a0_0, a0_1, a0_2, a0_3))) = some (r1, r2, r3, r4) := h
  clear h
  by_cases c2 : a0_4 = true
  rotate_left
  · replace c2 := Bool.eq_false_iff.mpr c2
    subst c2
    have H1 : (some (a0_0, a0_1, a0_2, a0_3)) = some (r1, r2, r3, r4) := by rw [if_neg (show ¬ (false = true) by decide)] at H; exact H
    clear H
    have H := H1
    clear H1
    simp only [Option.some.injEq, Prod.mk.injEq] at H
    obtain ⟨rfl, rfl, rfl, rfl⟩ := H
    go_enter Try.func14, Try.ntmps14
    go_wp2_with (first | ((with_reducible refine gate_dst (N := 1) rfl ?_); refine box_event ?hg (N := 1) ?hd (cs := #[.int .u64 a0_0, .int .u64 a0_1, .int .u64 a0_2, .int .u64 a0_3, .bool false]) (t := 30) ?hr ?_; (case hd => rfl); (case hg => rfl); (case hr => first | (go_simp; done) | (go_simp; rfl)); intro gb233 hg w23 hbox hb; have BK233 := Aside0.mk (hbox); have GW233 := Kw_ HB hg; have GE233 := GW233; replace HB := Ks_ HB hb; clear hb hbox hg) | ((with_reducible refine gate_dst (N := 2) rfl ?_); refine box_event ?hg (N := 2) ?hd (cs := #[.int .u64 0, .int .u64 0, .int .u64 0, .int .u64 0]) (t := 28) ?hr ?_; (case hd => rfl); (case hg => rfl); (case hr => first | (go_simp; done) | (go_simp; rfl)); intro gb234 hg w24 hbox hb; have BK234 := Aside0.mk (hbox); have GW234 := Kw_ HB hg; have GE234 := GW234; have NB233_234 := Kl_ BK233 hg; have NB234_233 := Kr_ BK233 hg; replace BK233 := Kb_ BK233 hb; replace HB := Ks_ HB hb; clear hb hbox hg; have hnb25 := NB233_234.out; have hnc25 := NB234_233.out; obtain ⟨hcz26_0, hcz26_1, hcz26_2, hcz26_3, hcz26_4, hfz26_0, hfz26_1, hfz26_2, hfz26_3, hfz26_4⟩ := Ke5_ BK233.out; obtain ⟨hcz27_0, hcz27_1, hcz27_2, hcz27_3, hfz27_0, hfz27_1, hfz27_2, hfz27_3⟩ := Ke4_ BK234.out))
    refine bodyPost_ret (results_cell_row rfl _ _ gb234 28 #[.int .u64 a0_0, .int .u64 a0_1, .int .u64 a0_2, .int .u64 a0_3] (0, 0) _ rfl (by (with_reducible repeat (first | refine blk_drewN ?_ _ | refine blk_drew ?_ | refine blk_alloc ?_ _)); refine blk_put (cs := #[.int .u64 a0_0, .int .u64 a0_1, .int .u64 a0_2, .int .u64 0]) ?_ 3 _ rfl; (with_reducible repeat (first | refine blk_drewN ?_ _ | refine blk_drew ?_ | refine blk_alloc ?_ _)); refine blk_put (cs := #[.int .u64 a0_0, .int .u64 a0_1, .int .u64 0, .int .u64 0]) ?_ 2 _ rfl; (with_reducible repeat (first | refine blk_drewN ?_ _ | refine blk_drew ?_ | refine blk_alloc ?_ _)); refine blk_put (cs := #[.int .u64 a0_0, .int .u64 0, .int .u64 0, .int .u64 0]) ?_ 1 _ rfl; (with_reducible repeat (first | refine blk_drewN ?_ _ | refine blk_drew ?_ | refine blk_alloc ?_ _)); refine blk_put (cs := #[.int .u64 0, .int .u64 0, .int .u64 0, .int .u64 0]) ?_ 0 _ rfl; (with_reducible repeat (first | refine blk_drewN ?_ _ | refine blk_drew ?_ | refine blk_alloc ?_ _)); exact BK234.out) Try.underlying28 rfl (by kernel_rfl)) rfl ?_
    exact ⟨by first | rfl | (simp [errW_none, errW_some] <;> rfl) | (simp [*, errW_none, errW_some] <;> rfl), by repeat (first | (with_reducible first | exact HB.out | apply below_alloc | apply pw_below_drewN | apply below_drew1 | refine below_set ?_ GE233.out | refine below_set ?_ GE234.out) | exact HB.out)⟩
  subst c2
  have H1 : (tenementlaw19_Vector_vector.l0 k 0 a0_0 a0_1 a0_2 a0_3 true) = some (r1, r2, r3, r4) := by rw [if_pos rfl] at H; exact H
  clear H
  have H := H1
  clear H1
  have H' := Aside0.mk H
  clear H
  go_enter Try.func14, Try.ntmps14
  go_wp2_with (first | ((with_reducible refine gate_dst (N := 1) rfl ?_); refine box_event ?hg (N := 1) ?hd (cs := #[.int .u64 a0_0, .int .u64 a0_1, .int .u64 a0_2, .int .u64 a0_3, .bool true]) (t := 30) ?hr ?_; (case hd => rfl); (case hg => rfl); (case hr => first | (go_simp; done) | (go_simp; rfl)); intro gb233 hg w3 hbox hb; have BK233 := Aside0.mk (hbox); have GW233 := Kw_ HB hg; have GE233 := GW233; replace HB := Ks_ HB hb; clear hb hbox hg) | ((with_reducible refine gate_dst (N := 2) rfl ?_); refine box_event ?hg (N := 2) ?hd (cs := #[.int .u64 0, .int .u64 0, .int .u64 0, .int .u64 0]) (t := 28) ?hr ?_; (case hd => rfl); (case hg => rfl); (case hr => first | (go_simp; done) | (go_simp; rfl)); intro gb234 hg w4 hbox hb; have BK234 := Aside0.mk (hbox); have GW234 := Kw_ HB hg; have GE234 := GW234; have NB233_234 := Kl_ BK233 hg; have NB234_233 := Kr_ BK233 hg; replace BK233 := Kb_ BK233 hb; replace HB := Ks_ HB hb; clear hb hbox hg; have hnb5 := NB233_234.out; have hnc5 := NB234_233.out; obtain ⟨hcz6_0, hcz6_1, hcz6_2, hcz6_3, hcz6_4, hfz6_0, hfz6_1, hfz6_2, hfz6_3, hfz6_4⟩ := Ke5_ BK233.out))
  go_loopg [3] k (fun kq v3 w' => ∃ (x3_1 : Int) (x234000_1 : Int) (x234001_1 : Int) (x234002_1 : Int) (x234003_1 : Int), v3 = .int .i64 x3_1 ∧ Aside0 (tenementlaw19_Vector_vector.l0 kq x3_1 x234000_1 x234001_1 x234002_1 x234003_1 true = some (r1, r2, r3, r4)) ∧ Aside0 (kq ≤ k) ∧ Aside0 (w'.heap[gb233]? = some (.cells #[.int .u64 x234000_1, .int .u64 x234001_1, .int .u64 x234002_1, .int .u64 x234003_1, .bool true] 30 (0, 0))) ∧ Aside0 (w'.heap[gb234]? = some (.cells #[.int .u64 0, .int .u64 0, .int .u64 0, .int .u64 0] 28 (0, 0))) ∧ Aside0 (Below w.heap.size w w'))
  case atStart => exact ⟨(0), (a0_0), (a0_1), (a0_2), (a0_3), (by first | rfl | (simp; done) | (simp [*]; done)), H', ⟨Nat.le_refl _⟩, ⟨by (with_reducible repeat (first | refine blk_drewN ?_ _ | refine blk_drew ?_ | refine blk_alloc ?_ _)); exact BK233.out⟩, ⟨by (with_reducible repeat (first | refine blk_drewN ?_ _ | refine blk_drew ?_ | refine blk_alloc ?_ _)); exact BK234.out⟩, ⟨by repeat (first | (with_reducible first | exact HB.out | apply below_alloc | apply pw_below_drewN | apply below_drew1 | refine below_set ?_ GE233.out | refine below_set ?_ GE234.out) | exact HB.out)⟩⟩
  case round =>
    clear H'
    try clear c1
    try clear c2
    try clear p2
    try clear c5
    try clear hcz6_0
    try clear hcz6_1
    try clear hcz6_2
    try clear hcz6_3
    try clear hcz6_4
    try clear hfz6_0
    try clear hfz6_1
    try clear hfz6_2
    try clear hfz6_3
    try clear hfz6_4
    obtain ⟨x3_1, x234000_1, x234001_1, x234002_1, x234003_1, rfl, HA, HK1, BK233, BK234, HB⟩ := hrel
    cases gk with
    | zero => exact absurd HA.out (by simp [tenementlaw19_Vector_vector.l0])
    | succ k1 =>
      have H := HA.out
      clear HA
      simp only [tenementlaw19_Vector_vector.l0] at H
      by_cases c7 : x3_1 < 4
      rotate_left
      · rw [if_neg c7] at H
        have c7b0 : decide (x3_1 < 4) = false := decide_eq_false c7
        clear c7
        simp only [Option.some.injEq, Prod.mk.injEq] at H
        obtain ⟨rfl, rfl, rfl, rfl⟩ := H
        have hnb20 := NB233_234.out
        have hnc20 := NB234_233.out
        have hcz21_0 : wr.cell? ⟨gb233, 0, none⟩ = some (.int .u64 x234000_1) := (blk_cell BK233.out 0).trans rfl
        have hcz21_1 : wr.cell? ⟨gb233, 1, none⟩ = some (.int .u64 x234001_1) := (blk_cell BK233.out 1).trans rfl
        have hcz21_2 : wr.cell? ⟨gb233, 2, none⟩ = some (.int .u64 x234002_1) := (blk_cell BK233.out 2).trans rfl
        have hcz21_3 : wr.cell? ⟨gb233, 3, none⟩ = some (.int .u64 x234003_1) := (blk_cell BK233.out 3).trans rfl
        have hcz21_4 : wr.cell? ⟨gb233, 4, none⟩ = some (.bool true) := (blk_cell BK233.out 4).trans rfl
        have hfz21_0 := blk_frozen BK233.out 0
        have hfz21_1 := blk_frozen BK233.out 1
        have hfz21_2 := blk_frozen BK233.out 2
        have hfz21_3 := blk_frozen BK233.out 3
        have hfz21_4 := blk_frozen BK233.out 4
        have hcz22_0 : wr.cell? ⟨gb234, 0, none⟩ = some (.int .u64 0) := (blk_cell BK234.out 0).trans rfl
        have hcz22_1 : wr.cell? ⟨gb234, 1, none⟩ = some (.int .u64 0) := (blk_cell BK234.out 1).trans rfl
        have hcz22_2 : wr.cell? ⟨gb234, 2, none⟩ = some (.int .u64 0) := (blk_cell BK234.out 2).trans rfl
        have hcz22_3 : wr.cell? ⟨gb234, 3, none⟩ = some (.int .u64 0) := (blk_cell BK234.out 3).trans rfl
        have hfz22_0 := blk_frozen BK234.out 0
        have hfz22_1 := blk_frozen BK234.out 1
        have hfz22_2 := blk_frozen BK234.out 2
        have hfz22_3 := blk_frozen BK234.out 3
        go_wp2
        refine bodyPost_ret (results_cell_row rfl _ _ gb234 28 #[.int .u64 x234000_1, .int .u64 x234001_1, .int .u64 x234002_1, .int .u64 x234003_1] (0, 0) _ rfl (by (with_reducible repeat (first | refine blk_drewN ?_ _ | refine blk_drew ?_ | refine blk_alloc ?_ _)); refine blk_put (cs := #[.int .u64 x234000_1, .int .u64 x234001_1, .int .u64 x234002_1, .int .u64 0]) ?_ 3 _ rfl; (with_reducible repeat (first | refine blk_drewN ?_ _ | refine blk_drew ?_ | refine blk_alloc ?_ _)); refine blk_put (cs := #[.int .u64 x234000_1, .int .u64 x234001_1, .int .u64 0, .int .u64 0]) ?_ 2 _ rfl; (with_reducible repeat (first | refine blk_drewN ?_ _ | refine blk_drew ?_ | refine blk_alloc ?_ _)); refine blk_put (cs := #[.int .u64 x234000_1, .int .u64 0, .int .u64 0, .int .u64 0]) ?_ 1 _ rfl; (with_reducible repeat (first | refine blk_drewN ?_ _ | refine blk_drew ?_ | refine blk_alloc ?_ _)); refine blk_put (cs := #[.int .u64 0, .int .u64 0, .int .u64 0, .int .u64 0]) ?_ 0 _ rfl; (with_reducible repeat (first | refine blk_drewN ?_ _ | refine blk_drew ?_ | refine blk_alloc ?_ _)); exact BK234.out) Try.underlying28 rfl (by kernel_rfl)) rfl ?_
        exact ⟨by first | rfl | (simp [errW_none, errW_some] <;> rfl) | (simp [*, errW_none, errW_some] <;> rfl), by repeat (first | (with_reducible first | exact HB.out | apply below_alloc | apply pw_below_drewN | apply below_drew1 | refine below_set ?_ GE233.out | refine below_set ?_ GE234.out) | exact HB.out)⟩
      rw [if_pos c7] at H
      have c7b0 : decide (x3_1 < 4) = true := decide_eq_true c7
      clear c7
      by_cases c8 : x3_1 = 0
      · subst c8
        have H1 : (tenementlaw19_Vector_vector.l0 k1 1 (Int.tmod x234000_1 4) x234001_1 x234002_1 x234003_1 true) = some (r1, r2, r3, r4) := by rw [if_pos rfl] at H; (try simp only [show wrap64 ((0 : Int) + 1) = 1 from by first | rfl | decide | (unfold wrap64; omega), show wrap64 ((0 : Int) - 1) = -1 from by first | rfl | decide | (unfold wrap64; omega)] at H); exact H
        clear H
        have H := H1
        clear H1
        have H' := Aside0.mk H
        clear H
        have hnb9 := NB233_234.out
        have hnc9 := NB234_233.out
        have hcz10_0 : wr.cell? ⟨gb233, 0, none⟩ = some (.int .u64 x234000_1) := (blk_cell BK233.out 0).trans rfl
        have hcz10_1 : wr.cell? ⟨gb233, 1, none⟩ = some (.int .u64 x234001_1) := (blk_cell BK233.out 1).trans rfl
        have hcz10_2 : wr.cell? ⟨gb233, 2, none⟩ = some (.int .u64 x234002_1) := (blk_cell BK233.out 2).trans rfl
        have hcz10_3 : wr.cell? ⟨gb233, 3, none⟩ = some (.int .u64 x234003_1) := (blk_cell BK233.out 3).trans rfl
        have hcz10_4 : wr.cell? ⟨gb233, 4, none⟩ = some (.bool true) := (blk_cell BK233.out 4).trans rfl
        have hfz10_0 := blk_frozen BK233.out 0
        have hfz10_1 := blk_frozen BK233.out 1
        have hfz10_2 := blk_frozen BK233.out 2
        have hfz10_3 := blk_frozen BK233.out 3
        have hfz10_4 := blk_frozen BK233.out 4
        go_wp2
        go_roundg k1
        case measure => have := HK1.out; omega
        case rel => exact ⟨(1), (Int.tmod x234000_1 4), (x234001_1), (x234002_1), (x234003_1), (by first | rfl | (simp; done) | (simp [*]; done)), H', ⟨by have := HK1.out; omega⟩, ⟨by (with_reducible repeat (first | refine blk_drewN ?_ _ | refine blk_drew ?_ | refine blk_alloc ?_ _)); refine blk_put (cs := #[.int .u64 x234000_1, .int .u64 x234001_1, .int .u64 x234002_1, .int .u64 x234003_1, .bool true]) ?_ 0 _ rfl; (with_reducible repeat (first | refine blk_drewN ?_ _ | refine blk_drew ?_ | refine blk_alloc ?_ _)); exact BK233.out⟩, ⟨by (repeat (first | (with_reducible first | refine blk_drewN ?_ _ | refine blk_drew ?_ | refine blk_alloc ?_ _) | refine blk_far ?_ NB234_233.out _)); exact BK234.out⟩, ⟨by repeat (first | (with_reducible first | exact HB.out | apply below_alloc | apply pw_below_drewN | apply below_drew1 | refine below_set ?_ GE233.out | refine below_set ?_ GE234.out) | exact HB.out)⟩⟩
      rw [if_neg c8] at H
      by_cases c11 : x3_1 = 1
      · subst c11
        have H1 : (tenementlaw19_Vector_vector.l0 k1 2 x234000_1 (Int.tmod x234001_1 4) x234002_1 x234003_1 true) = some (r1, r2, r3, r4) := by rw [if_pos rfl] at H; (try simp only [show wrap64 ((1 : Int) + 1) = 2 from by first | rfl | decide | (unfold wrap64; omega), show wrap64 ((1 : Int) - 1) = 0 from by first | rfl | decide | (unfold wrap64; omega)] at H); exact H
        clear H
        have H := H1
        clear H1
        have H' := Aside0.mk H
        clear H
        have hnb12 := NB233_234.out
        have hnc12 := NB234_233.out
        have hcz13_0 : wr.cell? ⟨gb233, 0, none⟩ = some (.int .u64 x234000_1) := (blk_cell BK233.out 0).trans rfl
        have hcz13_1 : wr.cell? ⟨gb233, 1, none⟩ = some (.int .u64 x234001_1) := (blk_cell BK233.out 1).trans rfl
        have hcz13_2 : wr.cell? ⟨gb233, 2, none⟩ = some (.int .u64 x234002_1) := (blk_cell BK233.out 2).trans rfl
        have hcz13_3 : wr.cell? ⟨gb233, 3, none⟩ = some (.int .u64 x234003_1) := (blk_cell BK233.out 3).trans rfl
        have hcz13_4 : wr.cell? ⟨gb233, 4, none⟩ = some (.bool true) := (blk_cell BK233.out 4).trans rfl
        have hfz13_0 := blk_frozen BK233.out 0
        have hfz13_1 := blk_frozen BK233.out 1
        have hfz13_2 := blk_frozen BK233.out 2
        have hfz13_3 := blk_frozen BK233.out 3
        have hfz13_4 := blk_frozen BK233.out 4
        go_wp2
        go_roundg k1
        case measure => have := HK1.out; omega
        case rel => exact ⟨(2), (x234000_1), (Int.tmod x234001_1 4), (x234002_1), (x234003_1), (by first | rfl | (simp; done) | (simp [*]; done)), H', ⟨by have := HK1.out; omega⟩, ⟨by (with_reducible repeat (first | refine blk_drewN ?_ _ | refine blk_drew ?_ | refine blk_alloc ?_ _)); refine blk_put (cs := #[.int .u64 x234000_1, .int .u64 x234001_1, .int .u64 x234002_1, .int .u64 x234003_1, .bool true]) ?_ 1 _ rfl; (with_reducible repeat (first | refine blk_drewN ?_ _ | refine blk_drew ?_ | refine blk_alloc ?_ _)); exact BK233.out⟩, ⟨by (repeat (first | (with_reducible first | refine blk_drewN ?_ _ | refine blk_drew ?_ | refine blk_alloc ?_ _) | refine blk_far ?_ NB234_233.out _)); exact BK234.out⟩, ⟨by repeat (first | (with_reducible first | exact HB.out | apply below_alloc | apply pw_below_drewN | apply below_drew1 | refine below_set ?_ GE233.out | refine below_set ?_ GE234.out) | exact HB.out)⟩⟩
      rw [if_neg c11] at H
      by_cases c14 : x3_1 = 2
      · subst c14
        have H1 : (tenementlaw19_Vector_vector.l0 k1 3 x234000_1 x234001_1 (Int.tmod x234002_1 4) x234003_1 true) = some (r1, r2, r3, r4) := by rw [if_pos rfl] at H; (try simp only [show wrap64 ((2 : Int) + 1) = 3 from by first | rfl | decide | (unfold wrap64; omega), show wrap64 ((2 : Int) - 1) = 1 from by first | rfl | decide | (unfold wrap64; omega)] at H); exact H
        clear H
        have H := H1
        clear H1
        have H' := Aside0.mk H
        clear H
        have hnb15 := NB233_234.out
        have hnc15 := NB234_233.out
        have hcz16_0 : wr.cell? ⟨gb233, 0, none⟩ = some (.int .u64 x234000_1) := (blk_cell BK233.out 0).trans rfl
        have hcz16_1 : wr.cell? ⟨gb233, 1, none⟩ = some (.int .u64 x234001_1) := (blk_cell BK233.out 1).trans rfl
        have hcz16_2 : wr.cell? ⟨gb233, 2, none⟩ = some (.int .u64 x234002_1) := (blk_cell BK233.out 2).trans rfl
        have hcz16_3 : wr.cell? ⟨gb233, 3, none⟩ = some (.int .u64 x234003_1) := (blk_cell BK233.out 3).trans rfl
        have hcz16_4 : wr.cell? ⟨gb233, 4, none⟩ = some (.bool true) := (blk_cell BK233.out 4).trans rfl
        have hfz16_0 := blk_frozen BK233.out 0
        have hfz16_1 := blk_frozen BK233.out 1
        have hfz16_2 := blk_frozen BK233.out 2
        have hfz16_3 := blk_frozen BK233.out 3
        have hfz16_4 := blk_frozen BK233.out 4
        go_wp2
        go_roundg k1
        case measure => have := HK1.out; omega
        case rel => exact ⟨(3), (x234000_1), (x234001_1), (Int.tmod x234002_1 4), (x234003_1), (by first | rfl | (simp; done) | (simp [*]; done)), H', ⟨by have := HK1.out; omega⟩, ⟨by (with_reducible repeat (first | refine blk_drewN ?_ _ | refine blk_drew ?_ | refine blk_alloc ?_ _)); refine blk_put (cs := #[.int .u64 x234000_1, .int .u64 x234001_1, .int .u64 x234002_1, .int .u64 x234003_1, .bool true]) ?_ 2 _ rfl; (with_reducible repeat (first | refine blk_drewN ?_ _ | refine blk_drew ?_ | refine blk_alloc ?_ _)); exact BK233.out⟩, ⟨by (repeat (first | (with_reducible first | refine blk_drewN ?_ _ | refine blk_drew ?_ | refine blk_alloc ?_ _) | refine blk_far ?_ NB234_233.out _)); exact BK234.out⟩, ⟨by repeat (first | (with_reducible first | exact HB.out | apply below_alloc | apply pw_below_drewN | apply below_drew1 | refine below_set ?_ GE233.out | refine below_set ?_ GE234.out) | exact HB.out)⟩⟩
      rw [if_neg c14] at H
      by_cases c17 : x3_1 = 3
      rotate_left
      · rw [if_neg c17] at H
        exact absurd H (by simp)
      subst c17
      have H1 : (tenementlaw19_Vector_vector.l0 k1 4 x234000_1 x234001_1 x234002_1 (Int.tmod x234003_1 4) true) = some (r1, r2, r3, r4) := by rw [if_pos rfl] at H; (try simp only [show wrap64 ((3 : Int) + 1) = 4 from by first | rfl | decide | (unfold wrap64; omega), show wrap64 ((3 : Int) - 1) = 2 from by first | rfl | decide | (unfold wrap64; omega)] at H); exact H
      clear H
      have H := H1
      clear H1
      have H' := Aside0.mk H
      clear H
      have hnb18 := NB233_234.out
      have hnc18 := NB234_233.out
      have hcz19_0 : wr.cell? ⟨gb233, 0, none⟩ = some (.int .u64 x234000_1) := (blk_cell BK233.out 0).trans rfl
      have hcz19_1 : wr.cell? ⟨gb233, 1, none⟩ = some (.int .u64 x234001_1) := (blk_cell BK233.out 1).trans rfl
      have hcz19_2 : wr.cell? ⟨gb233, 2, none⟩ = some (.int .u64 x234002_1) := (blk_cell BK233.out 2).trans rfl
      have hcz19_3 : wr.cell? ⟨gb233, 3, none⟩ = some (.int .u64 x234003_1) := (blk_cell BK233.out 3).trans rfl
      have hcz19_4 : wr.cell? ⟨gb233, 4, none⟩ = some (.bool true) := (blk_cell BK233.out 4).trans rfl
      have hfz19_0 := blk_frozen BK233.out 0
      have hfz19_1 := blk_frozen BK233.out 1
      have hfz19_2 := blk_frozen BK233.out 2
      have hfz19_3 := blk_frozen BK233.out 3
      have hfz19_4 := blk_frozen BK233.out 4
      go_wp2
      go_roundg k1
      case measure => have := HK1.out; omega
      case rel => exact ⟨(4), (x234000_1), (x234001_1), (x234002_1), (Int.tmod x234003_1 4), (by first | rfl | (simp; done) | (simp [*]; done)), H', ⟨by have := HK1.out; omega⟩, ⟨by (with_reducible repeat (first | refine blk_drewN ?_ _ | refine blk_drew ?_ | refine blk_alloc ?_ _)); refine blk_put (cs := #[.int .u64 x234000_1, .int .u64 x234001_1, .int .u64 x234002_1, .int .u64 x234003_1, .bool true]) ?_ 3 _ rfl; (with_reducible repeat (first | refine blk_drewN ?_ _ | refine blk_drew ?_ | refine blk_alloc ?_ _)); exact BK233.out⟩, ⟨by (repeat (first | (with_reducible first | refine blk_drewN ?_ _ | refine blk_drew ?_ | refine blk_alloc ?_ _) | refine blk_far ?_ NB234_233.out _)); exact BK234.out⟩, ⟨by repeat (first | (with_reducible first | exact HB.out | apply below_alloc | apply pw_below_drewN | apply below_drew1 | refine below_set ?_ GE233.out | refine below_set ?_ GE234.out) | exact HB.out)⟩⟩

end Go.Proofs.Ytplgbkobpanbfaa.Q

-- Written by this session's own driver (wip/hybrid.py) of the kit's printer; contracts marked FOREIGN are by hand.
namespace Go.Proofs.Ytplgbkobpanbfaa.Q
open Go.RowKit Go.Proofs.YtplgbkobpanbfaaW.PrintWords Go.Proofs.YtplgbkobpanbfaaW.PrintLast Go.Proofs.YtplgbkobpanbfaaW.PrintMore
attribute [local go_sem] max2_int min2_int max_two min_two max_three min_three max_four min_four   -- for this text's walks alone
set_option linter.unusedVariables false
set_option linter.unusedSimpArgs false

/-! ### tenementref06_Put: function 35 -/
def tenementref06_Put.f (k : Nat) (a0_0 : Int) (a0_1 : Int) (a0_2 : Int) (a0_3 : Int) : Option (ByteArray) := (tenementref02_Vary.f k a0_0).bind fun t236 => ((tenementref02_Vary.f k a0_1).bind fun t237 => (if t236.size + t237.size ≤ 9223372036854775807 then ((tenementref02_Vary.f k a0_2).bind fun t238 => (if (t236 ++ t237).size + t238.size ≤ 9223372036854775807 then ((tenementref02_Vary.f k a0_3).bind fun t239 => (if ((t236 ++ t237) ++ t238).size + t239.size ≤ 9223372036854775807 then (some (((t236 ++ t237) ++ t238) ++ t239)) else (none))) else (none))) else (none)))
theorem tenementref06_Put.mono : ∀ a0 a1 a2 a3 k, LeO (tenementref06_Put.f k a0 a1 a2 a3) (tenementref06_Put.f (k + 1) a0 a1 a2 a3) := by
  intro a0 a1 a2 a3 k
  unfold tenementref06_Put.f
  repeat' first
      | (with_reducible exact tenementref02_Vary.mono _ _)
      | (with_reducible exact LeO.refl _)
      | (with_reducible exact LeO.none _)
      | (with_reducible refine LeO.ite ?_ ?_)
      | (with_reducible refine LeO.bind ?_ (fun _ => ?_))
      | exact tenementref02_Vary.mono _ _
      | exact LeO.none _
      | refine LeO.ite ?_ ?_
      | refine LeO.bind ?_ (fun _ => ?_)
def tenementref06_Put.T1 : Bool × List (List Nat × List Nat) := (true, [([], []), ([0], [0]), ([1], [1]), ([], []), ([3], [3]), ([4, 2], [4]), ([2, 5], [2, 5]), ([], []), ([7], [7]), ([8, 5], [8]), ([6, 9], [6, 9]), ([], []), ([11], [11]), ([12, 9], [12]), ([10, 13], [10, 13]), ([14, 13, 0, 1, 2, 3, 4, 5, 6, 7, 8, 9, 10, 11, 12, 13, 14], [14])])
def tenementref06_Put.B1 : List Nat := [0, 1, 3, 0, 8, 31, 63, 0, 128, 447, 1023, 0, 2048, 7103, 16383, 32767]
theorem tenementref06_Put.tab1 : rtab .any (opsOf Try.f35 1) = tenementref06_Put.T1 := by kernel_rfl
theorem tenementref06_Put.bits1 : waitsOk tenementref06_Put.T1.2 tenementref06_Put.B1 = true := by kernel_rfl
set_option maxHeartbeats 8000000 in
set_option maxRecDepth 100000 in
theorem tenementref06_Put.calls (k : Nat) (a0_0 : Int) (a0_1 : Int) (a0_2 : Int) (a0_3 : Int) (r : ByteArray) (w : World) (h : tenementref06_Put.f k a0_0 a0_1 a0_2 a0_3 = some r) :
    Calls Try.prog 35 #[.agg #[.int .u64 a0_0, .int .u64 a0_1, .int .u64 a0_2, .int .u64 a0_3]] w fun e w' => e = .returned (.string r) ∧ Below w.heap.size w w' := by
  have hu46 := Try.underlying46
  have HB := Aside0.mk (Below.refl w.heap.size w)
  have H : ((tenementref02_Vary.f k a0_0).bind fun t236 => ((tenementref02_Vary.f k a0_1).bind fun t237 => (if t236.size + t237.size ≤ 9223372036854775807 then ((tenementref02_Vary.f k a0_2).bind fun t238 => (if (t236 ++ t237).size + t238.size ≤ 9223372036854775807 then ((tenementref02_Vary.f k a0_3).bind fun t239 => (if ((t236 ++ t237) ++ t238).size + t239.size ≤ 9223372036854775807 then (some (((t236 ++ t237) ++ t238) ++ t239)) else (none))) else (none))) else (none)))) = some r := h
  (try (have Hs_ := H; simp only [ByteArray.size_append, Int.natCast_add] at Hs_))
  clear h
  replace H := Option.bind_eq_some_iff.mp H
  obtain ⟨t236, A20, H⟩ := H
  replace H : ((tenementref02_Vary.f k a0_1).bind fun t237 => (if t236.size + t237.size ≤ 9223372036854775807 then ((tenementref02_Vary.f k a0_2).bind fun t238 => (if (t236 ++ t237).size + t238.size ≤ 9223372036854775807 then ((tenementref02_Vary.f k a0_3).bind fun t239 => (if ((t236 ++ t237) ++ t238).size + t239.size ≤ 9223372036854775807 then (some (((t236 ++ t237) ++ t238) ++ t239)) else (none))) else (none))) else (none))) = some r := H
  have A2 := Aside0.mk A20
  clear A20
  replace H := Option.bind_eq_some_iff.mp H
  obtain ⟨t237, A30, H⟩ := H
  replace H : (if t236.size + t237.size ≤ 9223372036854775807 then ((tenementref02_Vary.f k a0_2).bind fun t238 => (if (t236 ++ t237).size + t238.size ≤ 9223372036854775807 then ((tenementref02_Vary.f k a0_3).bind fun t239 => (if ((t236 ++ t237) ++ t238).size + t239.size ≤ 9223372036854775807 then (some (((t236 ++ t237) ++ t238) ++ t239)) else (none))) else (none))) else (none)) = some r := H
  have A3 := Aside0.mk A30
  clear A30
  by_cases c4 : t236.size + t237.size ≤ 9223372036854775807
  rotate_left
  · rw [if_neg c4] at H
    exact absurd H (by simp)
  rw [if_pos c4] at H
  have c4b0 := eq_true c4
  have c4b1 : decide (t236.size + t237.size ≤ 9223372036854775807) = true := decide_eq_true c4
  try have c4b2 : (9223372036854775807 < t236.size + t237.size) = False := eq_false (Nat.not_lt.2 c4)
  replace H := Option.bind_eq_some_iff.mp H
  obtain ⟨t238, A50, H⟩ := H
  replace H : (if (t236 ++ t237).size + t238.size ≤ 9223372036854775807 then ((tenementref02_Vary.f k a0_3).bind fun t239 => (if ((t236 ++ t237) ++ t238).size + t239.size ≤ 9223372036854775807 then (some (((t236 ++ t237) ++ t238) ++ t239)) else (none))) else (none)) = some r := H
  have A5 := Aside0.mk A50
  clear A50
  by_cases c6 : (t236 ++ t237).size + t238.size ≤ 9223372036854775807
  rotate_left
  · rw [if_neg c6] at H
    exact absurd H (by simp)
  rw [if_pos c6] at H
  have c6b0 := eq_true c6
  (try (have c6b0s_ := c6b0; simp only [ByteArray.size_append, Int.natCast_add] at c6b0s_))
  have c6b1 : decide ((t236 ++ t237).size + t238.size ≤ 9223372036854775807) = true := decide_eq_true c6
  (try (have c6b1s_ := c6b1; simp only [ByteArray.size_append, Int.natCast_add] at c6b1s_))
  try have c6b2 : (9223372036854775807 < (t236 ++ t237).size + t238.size) = False := eq_false (Nat.not_lt.2 c6)
  (try (have c6b2s_ := c6b2; simp only [ByteArray.size_append, Int.natCast_add] at c6b2s_))
  replace H := Option.bind_eq_some_iff.mp H
  obtain ⟨t239, A70, H⟩ := H
  replace H : (if ((t236 ++ t237) ++ t238).size + t239.size ≤ 9223372036854775807 then (some (((t236 ++ t237) ++ t238) ++ t239)) else (none)) = some r := H
  have A7 := Aside0.mk A70
  clear A70
  by_cases c8 : ((t236 ++ t237) ++ t238).size + t239.size ≤ 9223372036854775807
  rotate_left
  · rw [if_neg c8] at H
    exact absurd H (by simp)
  rw [if_pos c8] at H
  have c8b0 := eq_true c8
  (try (have c8b0s_ := c8b0; simp only [ByteArray.size_append, Int.natCast_add] at c8b0s_))
  have c8b1 : decide (((t236 ++ t237) ++ t238).size + t239.size ≤ 9223372036854775807) = true := decide_eq_true c8
  (try (have c8b1s_ := c8b1; simp only [ByteArray.size_append, Int.natCast_add] at c8b1s_))
  try have c8b2 : (9223372036854775807 < ((t236 ++ t237) ++ t238).size + t239.size) = False := eq_false (Nat.not_lt.2 c8)
  (try (have c8b2s_ := c8b2; simp only [ByteArray.size_append, Int.natCast_add] at c8b2s_))
  obtain rfl := Option.some.inj H
  go_enter Try.func35, Try.ntmps35
  try go_wp2_with (first | ((with_reducible refine gate_dst (N := 1) rfl ?_); refine box_event ?hg (N := 1) ?hd (cs := #[.int .u64 a0_0, .int .u64 a0_1, .int .u64 a0_2, .int .u64 a0_3]) (t := 46) ?hr ?_; (case hd => rfl); (case hg => rfl); (case hr => first | (go_simp; done) | (go_simp; rfl)); intro gb235 hg w9 hbox hb; have BK235 := Aside0.mk (hbox); have GW235 := Kw_ HB hg; have GE235 := GW235; replace HB := Ks_ HB hb; clear hb hbox hg))
  replace BK235 := Kd_ BK235
  replace HB := Aside0.mk (below_drew1 HB.out)
  refine start_ (n := 16) (S := fun w' => w'.cell? ⟨gb235, 0, none⟩ = some (.int .u64 a0_0) ∧ w'.cell? ⟨gb235, 1, none⟩ = some (.int .u64 a0_1) ∧ w'.cell? ⟨gb235, 2, none⟩ = some (.int .u64 a0_2) ∧ w'.cell? ⟨gb235, 3, none⟩ = some (.int .u64 a0_3)) (ds := []) #[false, false, false, false, false, false, false, false, false, false, false, false, false, false, false, false] (by kernel_rfl) rfl rfl (Kc4_ BK235.out) (fun hHeld => ?_); refine with_tabW tenementref06_Put.tab1 tenementref06_Put.bits1 (fun HT_ HW_ => ?_)
  generalize w9.drew = w10 at BK235 HB hHeld ⊢
  refine pure_ (i := 0) (N := some 3) (v := ?_) (a' := ?_) #[true, false, false, false, false, false, false, false, false, false, false, false, false, false, false, false] rfl rfl (any_of HT_.out (by kernel_rfl)) (fun _ _ _ h => h) (Or.inl ⟨by rfl, ?_⟩) ?_ ?_
  rotate_left
  · intro w'
    go_simp
    with_reducible rfl
  rotate_left
  · simp only [Act.put, List.setIfInBounds_toArray, List.set_cons_zero, List.set_cons_succ, i64_w, i32_w]
    rfl
  refine pure_ (i := 3) (N := some 6) (v := ?_) (a' := ?_) #[true, false, false, true, false, false, false, false, false, false, false, false, false, false, false, false] rfl rfl (any_of HT_.out (by kernel_rfl)) (fun _ _ _ h => h) (Or.inl ⟨by rfl, ?_⟩) ?_ ?_
  rotate_left
  · intro w'
    go_simp
    with_reducible rfl
  rotate_left
  · simp only [Act.put, List.setIfInBounds_toArray, List.set_cons_zero, List.set_cons_succ, i64_w, i32_w]
    rfl
  refine pure_ (i := 7) (N := some 10) (v := ?_) (a' := ?_) #[true, false, false, true, false, false, false, true, false, false, false, false, false, false, false, false] rfl rfl (any_of HT_.out (by kernel_rfl)) (fun _ _ _ h => h) (Or.inl ⟨by rfl, ?_⟩) ?_ ?_
  rotate_left
  · intro w'
    go_simp
    with_reducible rfl
  rotate_left
  · simp only [Act.put, List.setIfInBounds_toArray, List.set_cons_zero, List.set_cons_succ, i64_w, i32_w]
    rfl
  refine pure_ (i := 11) (N := some 14) (v := ?_) (a' := ?_) #[true, false, false, true, false, false, false, true, false, false, false, true, false, false, false, false] rfl rfl (any_of HT_.out (by kernel_rfl)) (fun _ _ _ h => h) (Or.inl ⟨by rfl, ?_⟩) ?_ ?_
  rotate_left
  · intro w'
    go_simp
    with_reducible rfl
  rotate_left
  · simp only [Act.put, List.setIfInBounds_toArray, List.set_cons_zero, List.set_cons_succ, i64_w, i32_w]
    rfl
  refine take_ (i := 1) (N := some 4) (v := ?_) (a' := ?_) #[true, true, false, true, false, false, false, true, false, false, false, true, false, false, false, false] rfl rfl (take_ofW HT_.out HW_.out (by kernel_rfl)) (fun _ _ _ h => h) (Or.inl ⟨by rfl, ?_⟩) hHeld ?_ ?_
  rotate_left
  · rintro w' ⟨s0, s1, s2, s3⟩
    go_simp
    with_reducible rfl
  rotate_left
  · simp only [Act.put, List.setIfInBounds_toArray, List.set_cons_zero, List.set_cons_succ, i64_w, i32_w]
    rfl
  refine take_ (i := 4) (N := some 7) (v := ?_) (a' := ?_) #[true, true, false, true, true, false, false, true, false, false, false, true, false, false, false, false] rfl rfl (take_ofW HT_.out HW_.out (by kernel_rfl)) (fun _ _ _ h => h) (Or.inl ⟨by rfl, ?_⟩) hHeld ?_ ?_
  rotate_left
  · rintro w' ⟨s0, s1, s2, s3⟩
    go_simp
    with_reducible rfl
  rotate_left
  · simp only [Act.put, List.setIfInBounds_toArray, List.set_cons_zero, List.set_cons_succ, i64_w, i32_w]
    rfl
  refine take_ (i := 8) (N := some 11) (v := ?_) (a' := ?_) #[true, true, false, true, true, false, false, true, true, false, false, true, false, false, false, false] rfl rfl (take_ofW HT_.out HW_.out (by kernel_rfl)) (fun _ _ _ h => h) (Or.inl ⟨by rfl, ?_⟩) hHeld ?_ ?_
  rotate_left
  · rintro w' ⟨s0, s1, s2, s3⟩
    go_simp
    with_reducible rfl
  rotate_left
  · simp only [Act.put, List.setIfInBounds_toArray, List.set_cons_zero, List.set_cons_succ, i64_w, i32_w]
    rfl
  refine take_ (i := 12) (N := some 15) (v := ?_) (a' := ?_) #[true, true, false, true, true, false, false, true, true, false, false, true, true, false, false, false] rfl rfl (take_ofW HT_.out HW_.out (by kernel_rfl)) (fun _ _ _ h => h) (Or.inl ⟨by rfl, ?_⟩) hHeld ?_ ?_
  rotate_left
  · rintro w' ⟨s0, s1, s2, s3⟩
    go_simp
    with_reducible rfl
  rotate_left
  · simp only [Act.put, List.setIfInBounds_toArray, List.set_cons_zero, List.set_cons_succ, i64_w, i32_w]
    rfl
  refine one_ (i := 2) (N := some 5) #[true, true, true, true, true, false, false, true, true, false, false, true, true, false, false, false] rfl rfl (one_of HT_.out (by kernel_rfl)) (by decide) (fun K hK => ?_)
  refine goes_ Try.func46 (by kernel_rfl) rfl #[.int .u64 a0_0] (by rfl) rfl rfl (by (try simp only [List.map_toArray, List.map_cons, List.map_nil]); first | done | rfl | (simp only [List.length_drop, List.length_take]; rfl)) ?_
  with_reducible refine (tenementref02_Vary.calls k a0_0 t236 _ A2.out).mono ?_
  rintro e w11 ⟨rfl, hb⟩
  refine ⟨_, rfl, ?_⟩
  replace BK235 := Kb_ BK235 hb
  replace HB := Ks_ HB hb
  (try clear hb)
  (try clear hb2)
  (try clear hk)
  (try clear hi)
  refine hK.out _ _ (Kc4_ BK235.out) (fun hHeld => ?_)
  clear hK K
  refine norm_ (a' := ?_) ?_ ?_
  rotate_left
  · show Act.put _ (some 5) _ = _
    simp only [Act.put, List.setIfInBounds_toArray, List.set_cons_zero, List.set_cons_succ, i64_w, i32_w]
    rfl
  refine one_ (i := 5) (N := some 8) #[true, true, true, true, true, true, false, true, true, false, false, true, true, false, false, false] rfl rfl (one_of HT_.out (by kernel_rfl)) (by decide) (fun K hK => ?_)
  refine goes_ Try.func46 (by kernel_rfl) rfl #[.int .u64 a0_1] (by rfl) rfl rfl (by (try simp only [List.map_toArray, List.map_cons, List.map_nil]); first | done | rfl | (simp only [List.length_drop, List.length_take]; rfl)) ?_
  with_reducible refine (tenementref02_Vary.calls k a0_1 t237 _ A3.out).mono ?_
  rintro e w12 ⟨rfl, hb⟩
  refine ⟨_, rfl, ?_⟩
  replace BK235 := Kb_ BK235 hb
  replace HB := Ks_ HB hb
  (try clear hb)
  (try clear hb2)
  (try clear hk)
  (try clear hi)
  refine hK.out _ _ (Kc4_ BK235.out) (fun hHeld => ?_)
  clear hK K
  refine norm_ (a' := ?_) ?_ ?_
  rotate_left
  · show Act.put _ (some 8) _ = _
    simp only [Act.put, List.setIfInBounds_toArray, List.set_cons_zero, List.set_cons_succ, i64_w, i32_w]
    rfl
  refine pure_ (i := 6) (N := some 9) (v := ?_) (a' := ?_) #[true, true, true, true, true, true, true, true, true, false, false, true, true, false, false, false] rfl rfl (any_of HT_.out (by kernel_rfl)) (fun _ _ _ h => h) (Or.inl ⟨by rfl, ?_⟩) ?_ ?_
  rotate_left
  · intro w'
    go_simp
    with_reducible rfl
  rotate_left
  · simp only [Act.put, List.setIfInBounds_toArray, List.set_cons_zero, List.set_cons_succ, i64_w, i32_w]
    rfl
  refine one_ (i := 9) (N := some 12) #[true, true, true, true, true, true, true, true, true, true, false, true, true, false, false, false] rfl rfl (one_of HT_.out (by kernel_rfl)) (by decide) (fun K hK => ?_)
  refine goes_ Try.func46 (by kernel_rfl) rfl #[.int .u64 a0_2] (by rfl) rfl rfl (by (try simp only [List.map_toArray, List.map_cons, List.map_nil]); first | done | rfl | (simp only [List.length_drop, List.length_take]; rfl)) ?_
  with_reducible refine (tenementref02_Vary.calls k a0_2 t238 _ A5.out).mono ?_
  rintro e w13 ⟨rfl, hb⟩
  refine ⟨_, rfl, ?_⟩
  replace BK235 := Kb_ BK235 hb
  replace HB := Ks_ HB hb
  (try clear hb)
  (try clear hb2)
  (try clear hk)
  (try clear hi)
  refine hK.out _ _ (Kc4_ BK235.out) (fun hHeld => ?_)
  clear hK K
  refine norm_ (a' := ?_) ?_ ?_
  rotate_left
  · show Act.put _ (some 12) _ = _
    simp only [Act.put, List.setIfInBounds_toArray, List.set_cons_zero, List.set_cons_succ, i64_w, i32_w]
    rfl
  refine pure_ (i := 10) (N := some 13) (v := ?_) (a' := ?_) #[true, true, true, true, true, true, true, true, true, true, true, true, true, false, false, false] rfl rfl (any_of HT_.out (by kernel_rfl)) (fun _ _ _ h => h) (Or.inl ⟨by rfl, ?_⟩) ?_ ?_
  rotate_left
  · intro w'
    go_simp
    with_reducible rfl
  rotate_left
  · simp only [Act.put, List.setIfInBounds_toArray, List.set_cons_zero, List.set_cons_succ, i64_w, i32_w]
    rfl
  refine one_ (i := 13) (N := some 16) #[true, true, true, true, true, true, true, true, true, true, true, true, true, true, false, false] rfl rfl (one_of HT_.out (by kernel_rfl)) (by decide) (fun K hK => ?_)
  refine goes_ Try.func46 (by kernel_rfl) rfl #[.int .u64 a0_3] (by rfl) rfl rfl (by (try simp only [List.map_toArray, List.map_cons, List.map_nil]); first | done | rfl | (simp only [List.length_drop, List.length_take]; rfl)) ?_
  with_reducible refine (tenementref02_Vary.calls k a0_3 t239 _ A7.out).mono ?_
  rintro e w14 ⟨rfl, hb⟩
  refine ⟨_, rfl, ?_⟩
  replace BK235 := Kb_ BK235 hb
  replace HB := Ks_ HB hb
  (try clear hb)
  (try clear hb2)
  (try clear hk)
  (try clear hi)
  refine hK.out _ _ (Kc4_ BK235.out) (fun hHeld => ?_)
  clear hK K
  refine norm_ (a' := ?_) ?_ ?_
  rotate_left
  · show Act.put _ (some 16) _ = _
    simp only [Act.put, List.setIfInBounds_toArray, List.set_cons_zero, List.set_cons_succ, i64_w, i32_w]
    rfl
  refine pure_ (i := 14) (N := some 17) (v := ?_) (a' := ?_) #[true, true, true, true, true, true, true, true, true, true, true, true, true, true, true, false] rfl rfl (any_of HT_.out (by kernel_rfl)) (fun _ _ _ h => h) (Or.inl ⟨by rfl, ?_⟩) ?_ ?_
  rotate_left
  · intro w'
    go_simp
    with_reducible rfl
  rotate_left
  · simp only [Act.put, List.setIfInBounds_toArray, List.set_cons_zero, List.set_cons_succ, i64_w, i32_w]
    rfl
  refine pure_ (i := 15) (N := some 2) (v := ?_) (a' := ?_) #[true, true, true, true, true, true, true, true, true, true, true, true, true, true, true, true] rfl rfl (any_of HT_.out (by kernel_rfl)) (fun _ _ _ h => h) (Or.inl ⟨by rfl, ?_⟩) ?_ ?_
  rotate_left
  · intro w'
    go_simp
    with_reducible rfl
  rotate_left
  · simp only [Act.put, List.setIfInBounds_toArray, List.set_cons_zero, List.set_cons_succ, i64_w, i32_w]
    rfl
  refine done_ (done_of HT_.out (by kernel_rfl)) ?_
  try go_wp2
  go_ret
  exact ⟨by first | rfl | (simp [errW_none, errW_some] <;> rfl) | (simp [*, errW_none, errW_some] <;> rfl), Kz_ HB GE235⟩

end Go.Proofs.Ytplgbkobpanbfaa.Q

-- Written by this session's own driver (wip/hybrid.py) of the kit's printer; contracts marked FOREIGN are by hand.
namespace Go.Proofs.Ytplgbkobpanbfaa.Q
open Go.RowKit Go.Proofs.YtplgbkobpanbfaaW.PrintWords Go.Proofs.YtplgbkobpanbfaaW.PrintLast Go.Proofs.YtplgbkobpanbfaaW.PrintMore
attribute [local go_sem] max2_int min2_int max_two min_two max_three min_three max_four min_four   -- for this text's walks alone
set_option linter.unusedVariables false
set_option linter.unusedSimpArgs false

/-! ### tenementlaw19_refResponse: function 19 -/
def tenementlaw19_refResponse.f (a0_0 : Int) (a0_1 : ByteArray) (a0_2 : Bool) (a0_3 : Int) (a0_4 : Int) (a0_5 : Int) (a0_6 : Int) : Option (Int × ByteArray × Bool × Int × Int × Int × Int) := some (a0_0, a0_1, a0_2, a0_3, a0_4, a0_5, a0_6)
set_option maxHeartbeats 8000000 in
set_option maxRecDepth 100000 in
theorem tenementlaw19_refResponse.calls (a0_0 : Int) (a0_1 : ByteArray) (a0_2 : Bool) (a0_3 : Int) (a0_4 : Int) (a0_5 : Int) (a0_6 : Int) (r1 : Int) (r2 : ByteArray) (r3 : Bool) (r4 : Int) (r5 : Int) (r6 : Int) (r7 : Int) (w : World) (h : tenementlaw19_refResponse.f a0_0 a0_1 a0_2 a0_3 a0_4 a0_5 a0_6 = some (r1, r2, r3, r4, r5, r6, r7)) :
    Calls Try.prog 19 #[.agg #[.int .i64 a0_0, .string a0_1, .bool a0_2, .int .u64 a0_3, .int .u64 a0_4, .int .u64 a0_5, .int .u64 a0_6]] w fun e w' => e = .returned (.agg #[.int .i64 r1, .string r2, .bool r3, .int .u64 r4, .int .u64 r5, .int .u64 r6, .int .u64 r7]) ∧ Below w.heap.size w w' := by
  have hu41 := Try.underlying41
  have hu48 := Try.underlying48
  have hu28 := Try.underlying28
  have HB := Aside0.mk (Below.refl w.heap.size w)
  have H : (some (a0_0, a0_1, a0_2, a0_3, a0_4, a0_5, a0_6)) = some (r1, r2, r3, r4, r5, r6, r7) := h
  clear h
  simp only [Option.some.injEq, Prod.mk.injEq] at H
  obtain ⟨rfl, rfl, rfl, rfl, rfl, rfl, rfl⟩ := H
  go_enter Try.func19, Try.ntmps19
  go_wp2_with (first | ((with_reducible refine gate_dst (N := 1) rfl ?_); refine box_event ?hg (N := 1) ?hd (cs := #[.int .i64 a0_0, .string a0_1, .bool a0_2, .int .u64 a0_3, .int .u64 a0_4, .int .u64 a0_5, .int .u64 a0_6]) (t := 41) ?hr ?_; (case hd => rfl); (case hg => rfl); (case hr => first | (go_simp; done) | (go_simp; rfl)); intro gb251 hg w2 hbox hb; have BK251 := Aside0.mk (hbox); have GW251 := Kw_ HB hg; have GE251 := GW251; replace HB := Ks_ HB hb; clear hb hbox hg) | ((with_reducible refine gate_dst (N := 2) rfl ?_); refine box_event ?hg (N := 2) ?hd (cs := #[.int .i64 0, .string (⟨#[]⟩ : ByteArray), .bool false, .int .u64 0, .int .u64 0, .int .u64 0, .int .u64 0]) (t := 48) ?hr ?_; (case hd => rfl); (case hg => rfl); (case hr => first | (go_simp; done) | (go_simp; rfl)); intro gb252 hg w3 hbox hb; have BK252 := Aside0.mk (hbox); have GW252 := Kw_ HB hg; have GE252 := GW252; have NB251_252 := Kl_ BK251 hg; have NB252_251 := Kr_ BK251 hg; replace BK251 := Kb_ BK251 hb; replace HB := Ks_ HB hb; clear hb hbox hg; have hnb4 := NB251_252.out; have hnc4 := NB252_251.out; obtain ⟨hcz5_0, hcz5_1, hcz5_2, hcz5_3, hcz5_4, hcz5_5, hcz5_6, hfz5_0, hfz5_1, hfz5_2, hfz5_3, hfz5_4, hfz5_5, hfz5_6⟩ := Ke7_ BK251.out; obtain ⟨hcz6_0, hcz6_1, hcz6_2, hcz6_3, hcz6_4, hcz6_5, hcz6_6, hfz6_0, hfz6_1, hfz6_2, hfz6_3, hfz6_4, hfz6_5, hfz6_6⟩ := Ke7_ BK252.out))
  refine bodyPost_ret (results_cell_row rfl _ _ gb252 48 #[.int .i64 a0_0, .string a0_1, .bool a0_2, .int .u64 a0_3, .int .u64 a0_4, .int .u64 a0_5, .int .u64 a0_6] (0, 0) _ rfl (by (with_reducible repeat (first | refine blk_drewN ?_ _ | refine blk_drew ?_ | refine blk_alloc ?_ _)); refine blk_put (cs := #[.int .i64 a0_0, .string a0_1, .bool a0_2, .int .u64 a0_3, .int .u64 a0_4, .int .u64 a0_5, .int .u64 0]) ?_ 6 _ rfl; (with_reducible repeat (first | refine blk_drewN ?_ _ | refine blk_drew ?_ | refine blk_alloc ?_ _)); refine blk_put (cs := #[.int .i64 a0_0, .string a0_1, .bool a0_2, .int .u64 a0_3, .int .u64 a0_4, .int .u64 0, .int .u64 0]) ?_ 5 _ rfl; (with_reducible repeat (first | refine blk_drewN ?_ _ | refine blk_drew ?_ | refine blk_alloc ?_ _)); refine blk_put (cs := #[.int .i64 a0_0, .string a0_1, .bool a0_2, .int .u64 a0_3, .int .u64 0, .int .u64 0, .int .u64 0]) ?_ 4 _ rfl; (with_reducible repeat (first | refine blk_drewN ?_ _ | refine blk_drew ?_ | refine blk_alloc ?_ _)); refine blk_put (cs := #[.int .i64 a0_0, .string a0_1, .bool a0_2, .int .u64 0, .int .u64 0, .int .u64 0, .int .u64 0]) ?_ 3 _ rfl; (with_reducible repeat (first | refine blk_drewN ?_ _ | refine blk_drew ?_ | refine blk_alloc ?_ _)); refine blk_put (cs := #[.int .i64 a0_0, .string a0_1, .bool false, .int .u64 0, .int .u64 0, .int .u64 0, .int .u64 0]) ?_ 2 _ rfl; (with_reducible repeat (first | refine blk_drewN ?_ _ | refine blk_drew ?_ | refine blk_alloc ?_ _)); refine blk_put (cs := #[.int .i64 a0_0, .string (⟨#[]⟩ : ByteArray), .bool false, .int .u64 0, .int .u64 0, .int .u64 0, .int .u64 0]) ?_ 1 _ rfl; (with_reducible repeat (first | refine blk_drewN ?_ _ | refine blk_drew ?_ | refine blk_alloc ?_ _)); refine blk_put (cs := #[.int .i64 0, .string (⟨#[]⟩ : ByteArray), .bool false, .int .u64 0, .int .u64 0, .int .u64 0, .int .u64 0]) ?_ 0 _ rfl; (with_reducible repeat (first | refine blk_drewN ?_ _ | refine blk_drew ?_ | refine blk_alloc ?_ _)); exact BK252.out) Try.underlying48 rfl (by kernel_rfl)) rfl ?_
  exact ⟨by first | rfl | (simp [errW_none, errW_some] <;> rfl) | (simp [*, errW_none, errW_some] <;> rfl), by repeat (first | (with_reducible first | exact HB.out | apply below_alloc | apply pw_below_drewN | apply below_drew1 | refine below_set ?_ GE251.out | refine below_set ?_ GE252.out) | exact HB.out)⟩

end Go.Proofs.Ytplgbkobpanbfaa.Q
