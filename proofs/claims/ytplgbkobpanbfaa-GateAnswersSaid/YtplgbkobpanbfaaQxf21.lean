-- Written by this session's own driver (wip/hybrid.py) of the kit's printer; contracts marked FOREIGN are by hand.
import Derived.Test.YtplgbkobpanbfaaQx0
import Derived.Test.YtplgbkobpanbfaaQxf36
import Derived.Test.YtplgbkobpanbfaaQxf37
import Derived.Test.YtplgbkobpanbfaaQxf38
namespace Go.Proofs.Ytplgbkobpanbfaa.Q
open Go.RowKit Go.Proofs.YtplgbkobpanbfaaW.PrintWords Go.Proofs.YtplgbkobpanbfaaW.PrintLast
set_option linter.unusedVariables false
set_option linter.unusedSimpArgs false

/-! ### gate_Get: function 21 -/
-- FOREIGN: rows of pointers to a record's fields
def gate_Get.f (k : Nat) (a0 : ByteArray) : Option (ByteArray × Int × Int × Int × Int × ByteArray × ByteArray × ByteArray × Int) :=
  (pack_Reader_Text.f k a0 false 128).bind fun t0 => (pack_Reader_Number.f t0.2.1 t0.2.2 1).bind fun t1 => (pack_Reader_Number.f t1.2.1 t1.2.2 1).bind fun t2 => (pack_Reader_Number.f t2.2.1 t2.2.2 1).bind fun t3 => (pack_Reader_Number.f t3.2.1 t3.2.2 1).bind fun t4 =>
  (pack_Reader_Text.f k t4.2.1 t4.2.2 64).bind fun t5 => (pack_Reader_Text.f k t5.2.1 t5.2.2 64).bind fun t6 => (pack_Reader_Text.f k t6.2.1 t6.2.2 64).bind fun t7 => (pack_Reader_Done.f t7.2.1 t7.2.2).bind fun d =>
    if d = true then some (t0.1, wrap64 t1.1, wrap64 t2.1, wrap64 t3.1, wrap64 t4.1, t5.1, t6.1, t7.1, 0) else some ((⟨#[]⟩ : ByteArray), 0, 0, 0, 0, (⟨#[]⟩ : ByteArray), (⟨#[]⟩ : ByteArray), (⟨#[]⟩ : ByteArray), 2)
theorem gate_Get.mono : ∀ a0 k, LeO (gate_Get.f k a0) (gate_Get.f (k + 1) a0) := by
  intro a0 k
  unfold gate_Get.f
  repeat' first
      | exact pack_Reader_Text.mono _ _ _ _
      | exact LeO.refl _
      | exact LeO.none _
      | refine LeO.ite ?_ ?_
      | refine LeO.bind ?_ (fun _ => ?_)
theorem gate_Get.boxes2 (w : World) (xs ys : Array Value) (t1 t2 : TypeId) (W : World) (h : (w.alloc (.cells xs t1)).alloc (.cells ys t2) = W) :
    W.heap[w.heap.size]? = some (.cells xs t1 (0,0)) ∧ W.heap[w.heap.size+1]? = some (.cells ys t2 (0,0)) ∧ Below w.heap.size w W := by
  subst h
  have s1 : (w.alloc (.cells xs t1)).heap.size = w.heap.size + 1 := by simp [World.alloc, -World.alloc_eq]
  refine ⟨blk_alloc (blk_new _ _) _, ?_, below_alloc (below_alloc (Below.refl _ _) _) _⟩
  rw [← s1]; exact blk_new _ _
set_option maxHeartbeats 16000000 in
set_option maxRecDepth 100000 in
theorem gate_Get.calls (k : Nat) (a0 : ByteArray) (r1 : ByteArray) (r2 r3 r4 r5 : Int) (r6 r7 r8 : ByteArray) (r9 : Int) (w : World) (h : gate_Get.f k a0 = some (r1, r2, r3, r4, r5, r6, r7, r8, r9)) :
    Calls Try.prog 21 #[.string a0] w fun e w' => e = .returned (.tuple #[.agg #[.string r1, .int .i64 r2, .int .i64 r3, .int .i64 r4, .int .i64 r5, .string r6, .string r7, .string r8], .int .i64 r9]) ∧ Below w.heap.size w w' := by
  unfold gate_Get.f at h
  obtain ⟨⟨v0, s0, b0⟩, A0, h⟩ := Option.bind_eq_some_iff.1 h
  obtain ⟨⟨v1, s1, b1⟩, A1, h⟩ := Option.bind_eq_some_iff.1 h
  obtain ⟨⟨v2, s2, b2⟩, A2, h⟩ := Option.bind_eq_some_iff.1 h
  obtain ⟨⟨v3, s3, b3⟩, A3, h⟩ := Option.bind_eq_some_iff.1 h
  obtain ⟨⟨v4, s4, b4⟩, A4, h⟩ := Option.bind_eq_some_iff.1 h
  obtain ⟨⟨v5, s5, b5⟩, A5, h⟩ := Option.bind_eq_some_iff.1 h
  obtain ⟨⟨v6, s6, b6⟩, A6, h⟩ := Option.bind_eq_some_iff.1 h
  obtain ⟨⟨v7, s7, b7⟩, A7, h⟩ := Option.bind_eq_some_iff.1 h
  obtain ⟨d, A8, h⟩ := Option.bind_eq_some_iff.1 h
  replace A0 := Aside0.mk A0
  replace A1 := Aside0.mk A1
  replace A2 := Aside0.mk A2
  replace A3 := Aside0.mk A3
  replace A4 := Aside0.mk A4
  replace A5 := Aside0.mk A5
  replace A6 := Aside0.mk A6
  replace A7 := Aside0.mk A7
  replace A8 := Aside0.mk A8
  simp only at h
  have HH := Aside0.mk h
  clear h
  have hu := Try.underlying23
  have hu3 := Try.underlying81
  go_enter Try.func21, Try.ntmps21
  obtain ⟨hQ0, hR0, HB0⟩ := gate_Get.boxes2 w #[.string (⟨#[]⟩ : ByteArray), .int .i64 0, .int .i64 0, .int .i64 0, .int .i64 0, .string (⟨#[]⟩ : ByteArray), .string (⟨#[]⟩ : ByteArray), .string (⟨#[]⟩ : ByteArray)] #[.string (⟨#[]⟩ : ByteArray), .bool false] 23 81 _ rfl
  have HQ0 := Aside0.mk hQ0
  have HR0 := Aside0.mk hR0
  have HBB0 := Aside0.mk HB0
  clear hQ0 hR0 HB0
  go_wp2_with (go_at_call 36; refine (pack_Reader_Text.calls k a0 false 128 v0 s0 b0 _ A0.out).mono ?_; rintro e w1 ⟨rfl, hb⟩; have hQ := Aside0.mk (blk_below HQ0.out hb); have hR := Aside0.mk (blk_below HR0.out hb); have HB := Aside0.mk (below_step HBB0.out hb); clear hb; have fQ0 := blk_frozen hQ.out 0; have cQ0 := (blk_cell hQ.out 0).trans rfl; have fQ1 := blk_frozen hQ.out 1; have cQ1 := (blk_cell hQ.out 1).trans rfl; have fQ2 := blk_frozen hQ.out 2; have cQ2 := (blk_cell hQ.out 2).trans rfl; have fQ3 := blk_frozen hQ.out 3; have cQ3 := (blk_cell hQ.out 3).trans rfl; have fQ4 := blk_frozen hQ.out 4; have cQ4 := (blk_cell hQ.out 4).trans rfl; have fQ5 := blk_frozen hQ.out 5; have cQ5 := (blk_cell hQ.out 5).trans rfl; have fQ6 := blk_frozen hQ.out 6; have cQ6 := (blk_cell hQ.out 6).trans rfl; have fQ7 := blk_frozen hQ.out 7; have cQ7 := (blk_cell hQ.out 7).trans rfl; have fR0 := blk_frozen hR.out 0; have cR0 := (blk_cell hR.out 0).trans rfl; have fR1 := blk_frozen hR.out 1; have cR1 := (blk_cell hR.out 1).trans rfl)
  obtain ⟨B0, hB0⟩ : ∃ B0, B0 = w.heap.size := ⟨_, rfl⟩
  obtain ⟨B1, hB1⟩ : ∃ B1, B1 = w.heap.size + 1 := ⟨_, rfl⟩
  clear fQ0 cQ0 fQ1 cQ1 fQ2 cQ2 fQ3 cQ3 fQ4 cQ4 fQ5 cQ5 fQ6 cQ6 fQ7 cQ7 fR0 cR0 fR1 cR1
  clear HQ0 HR0 HBB0
  replace hQ := hQ.out
  replace hR := hR.out
  rw [← hB1, ← hB0]
  rw [← hB0] at hQ
  rw [← hB1] at hR
  replace hQ := Aside0.mk hQ
  replace hR := Aside0.mk hR
  have gQR : B0 ≠ B1 := by omega
  have GQ := Aside0.mk (show w.heap.size ≤ B0 by omega)
  have GR := Aside0.mk (show w.heap.size ≤ B1 by omega)
  clear hB0 hB1
  have hlQ := blk_lt hQ.out
  have hlR := blk_lt hR.out
  have hQ1 := Aside0.mk (blk_alloc (blk_far (blk_far (blk_put hQ.out 0 (.string v0) (cs' := #[.string v0, .int .i64 0, .int .i64 0, .int .i64 0, .int .i64 0, .string (⟨#[]⟩ : ByteArray), .string (⟨#[]⟩ : ByteArray), .string (⟨#[]⟩ : ByteArray)]) rfl) (p := ⟨B1, 0, none⟩) gQR (.string s0)) (p := ⟨B1, 1, none⟩) gQR (.bool b0)) (.cells #[.pointer (some ⟨B0, 1, none⟩), .pointer (some ⟨B0, 2, none⟩), .pointer (some ⟨B0, 3, none⟩), .pointer (some ⟨B0, 4, none⟩)] 84))
  have hR1 := Aside0.mk (blk_alloc (blk_put (blk_put (blk_far hR.out (p := ⟨B0, 0, none⟩) (Ne.symm gQR) (.string v0)) 0 (.string s0) (cs' := #[.string s0, .bool false]) rfl) 1 (.bool b0) (cs' := #[.string s0, .bool b0]) rfl) (.cells #[.pointer (some ⟨B0, 1, none⟩), .pointer (some ⟨B0, 2, none⟩), .pointer (some ⟨B0, 3, none⟩), .pointer (some ⟨B0, 4, none⟩)] 84))
  have HB1 := Aside0.mk (below_alloc (below_set (j := 1) (v := .bool b0) (below_set (j := 0) (v := .string s0) (below_set (j := 0) (v := .string v0) HB.out GQ.out) GR.out) GR.out) (.cells #[.pointer (some ⟨B0, 1, none⟩), .pointer (some ⟨B0, 2, none⟩), .pointer (some ⟨B0, 3, none⟩), .pointer (some ⟨B0, 4, none⟩)] 84))
  have hz_ : (((w1.setCell ⟨B0, 0, none⟩ (.string v0)).setCell ⟨B1, 0, none⟩ (.string s0)).setCell ⟨B1, 1, none⟩ (.bool b0)).heap.size = w1.heap.size := by simp
  have hP1 := blk_new (((w1.setCell ⟨B0, 0, none⟩ (.string v0)).setCell ⟨B1, 0, none⟩ (.string s0)).setCell ⟨B1, 1, none⟩ (.bool b0)) (.cells #[.pointer (some ⟨B0, 1, none⟩), .pointer (some ⟨B0, 2, none⟩), .pointer (some ⟨B0, 3, none⟩), .pointer (some ⟨B0, 4, none⟩)] 84)
  rw [hz_] at hP1
  clear hz_
  have gz_ := HB.out.size
  obtain ⟨B2, hB_⟩ : ∃ B, B = w1.heap.size := ⟨_, rfl⟩
  rw [← hB_] at hP1
  rw [← hB_]
  have hP1 := Aside0.mk hP1
  have gQP : B0 ≠ B2 := by omega
  have gRP : B1 ≠ B2 := by omega
  have GP := Aside0.mk (show w.heap.size ≤ B2 by omega)
  clear hB_ gz_ hlQ hlR
  clear HB hQ hR
  generalize hW_ : (((w1.setCell ⟨B0, 0, none⟩ (.string v0)).setCell ⟨B1, 0, none⟩ (.string s0)).setCell ⟨B1, 1, none⟩ (.bool b0)).alloc (.cells #[.pointer (some ⟨B0, 1, none⟩), .pointer (some ⟨B0, 2, none⟩), .pointer (some ⟨B0, 3, none⟩), .pointer (some ⟨B0, 4, none⟩)] 84) = W0 at *
  clear hW_
  have hQ := hQ1
  have hR := hR1
  have hP := hP1
  have HB := HB1
  clear HB1 hQ1 hR1 hP1
  refine wp_loop_rounds 5 ?_
  rw [rounds_succ]
  have fQ0 := blk_frozen hQ.out 0
  have cQ0 := (blk_cell hQ.out 0).trans rfl
  have fQ1 := blk_frozen hQ.out 1
  have cQ1 := (blk_cell hQ.out 1).trans rfl
  have fQ2 := blk_frozen hQ.out 2
  have cQ2 := (blk_cell hQ.out 2).trans rfl
  have fQ3 := blk_frozen hQ.out 3
  have cQ3 := (blk_cell hQ.out 3).trans rfl
  have fQ4 := blk_frozen hQ.out 4
  have cQ4 := (blk_cell hQ.out 4).trans rfl
  have fQ5 := blk_frozen hQ.out 5
  have cQ5 := (blk_cell hQ.out 5).trans rfl
  have fQ6 := blk_frozen hQ.out 6
  have cQ6 := (blk_cell hQ.out 6).trans rfl
  have fQ7 := blk_frozen hQ.out 7
  have cQ7 := (blk_cell hQ.out 7).trans rfl
  have fR0 := blk_frozen hR.out 0
  have cR0 := (blk_cell hR.out 0).trans rfl
  have fR1 := blk_frozen hR.out 1
  have cR1 := (blk_cell hR.out 1).trans rfl
  have fP0 := blk_frozen hP.out 0
  have cP0 := (blk_cell hP.out 0).trans rfl
  have fP1 := blk_frozen hP.out 1
  have cP1 := (blk_cell hP.out 1).trans rfl
  have fP2 := blk_frozen hP.out 2
  have cP2 := (blk_cell hP.out 2).trans rfl
  have fP3 := blk_frozen hP.out 3
  have cP3 := (blk_cell hP.out 3).trans rfl
  go_wp2_with (go_at_call 37; refine (pack_Reader_Number.calls s0 b0 1 v1 s1 b1 _ A1.out).mono ?_; rintro e w2 ⟨rfl, hb⟩; clear fQ0 cQ0 fQ1 cQ1 fQ2 cQ2 fQ3 cQ3 fQ4 cQ4 fQ5 cQ5 fQ6 cQ6 fQ7 cQ7 fR0 cR0 fR1 cR1 fP0 cP0 fP1 cP1 fP2 cP2 fP3 cP3; have hQ1 := Aside0.mk (blk_below hQ.out hb); have hR1 := Aside0.mk (blk_below hR.out hb); have hP1 := Aside0.mk (blk_below hP.out hb); have HB1 := Aside0.mk (below_step HB.out hb); clear hb; clear HB hQ hR hP; have hQ := hQ1; have hR := hR1; have hP := hP1; have HB := HB1; clear HB1 hQ1 hR1 hP1; have fQ0 := blk_frozen hQ.out 0; have cQ0 := (blk_cell hQ.out 0).trans rfl; have fQ1 := blk_frozen hQ.out 1; have cQ1 := (blk_cell hQ.out 1).trans rfl; have fQ2 := blk_frozen hQ.out 2; have cQ2 := (blk_cell hQ.out 2).trans rfl; have fQ3 := blk_frozen hQ.out 3; have cQ3 := (blk_cell hQ.out 3).trans rfl; have fQ4 := blk_frozen hQ.out 4; have cQ4 := (blk_cell hQ.out 4).trans rfl; have fQ5 := blk_frozen hQ.out 5; have cQ5 := (blk_cell hQ.out 5).trans rfl; have fQ6 := blk_frozen hQ.out 6; have cQ6 := (blk_cell hQ.out 6).trans rfl; have fQ7 := blk_frozen hQ.out 7; have cQ7 := (blk_cell hQ.out 7).trans rfl; have fR0 := blk_frozen hR.out 0; have cR0 := (blk_cell hR.out 0).trans rfl; have fR1 := blk_frozen hR.out 1; have cR1 := (blk_cell hR.out 1).trans rfl; have fP0 := blk_frozen hP.out 0; have cP0 := (blk_cell hP.out 0).trans rfl; have fP1 := blk_frozen hP.out 1; have cP1 := (blk_cell hP.out 1).trans rfl; have fP2 := blk_frozen hP.out 2; have cP2 := (blk_cell hP.out 2).trans rfl; have fP3 := blk_frozen hP.out 3; have cP3 := (blk_cell hP.out 3).trans rfl)
  clear fQ0 cQ0 fQ1 cQ1 fQ2 cQ2 fQ3 cQ3 fQ4 cQ4 fQ5 cQ5 fQ6 cQ6 fQ7 cQ7 fR0 cR0 fR1 cR1 fP0 cP0 fP1 cP1 fP2 cP2 fP3 cP3
  have hQ1 := Aside0.mk (blk_put (blk_far (blk_far hQ.out (p := ⟨B1, 0, none⟩) gQR (.string s1)) (p := ⟨B1, 1, none⟩) gQR (.bool b1)) 1 (.int .i64 (wrap64 v1)) (cs' := #[.string v0, .int .i64 (wrap64 v1), .int .i64 0, .int .i64 0, .int .i64 0, .string (⟨#[]⟩ : ByteArray), .string (⟨#[]⟩ : ByteArray), .string (⟨#[]⟩ : ByteArray)]) rfl)
  have hR1 := Aside0.mk (blk_far (blk_put (blk_put hR.out 0 (.string s1) (cs' := #[.string s1, .bool b0]) rfl) 1 (.bool b1) (cs' := #[.string s1, .bool b1]) rfl) (p := ⟨B0, 1, none⟩) (Ne.symm gQR) (.int .i64 (wrap64 v1)))
  have hP1 := Aside0.mk (blk_far (blk_far (blk_far hP.out (p := ⟨B1, 0, none⟩) (Ne.symm gRP) (.string s1)) (p := ⟨B1, 1, none⟩) (Ne.symm gRP) (.bool b1)) (p := ⟨B0, 1, none⟩) (Ne.symm gQP) (.int .i64 (wrap64 v1)))
  have HB1 := Aside0.mk (below_set (j := 1) (v := .int .i64 (wrap64 v1)) (below_set (j := 1) (v := .bool b1) (below_set (j := 0) (v := .string s1) HB.out GR.out) GR.out) GQ.out)
  clear HB hQ hR hP
  generalize hW_ : (((w2.setCell ⟨B1, 0, none⟩ (.string s1)).setCell ⟨B1, 1, none⟩ (.bool b1)).setCell ⟨B0, 1, none⟩ (.int .i64 (wrap64 v1))) = W1 at *
  clear hW_
  have hQ := hQ1
  have hR := hR1
  have hP := hP1
  have HB := HB1
  clear HB1 hQ1 hR1 hP1
  rw [rounds_succ]
  have fQ0 := blk_frozen hQ.out 0
  have cQ0 := (blk_cell hQ.out 0).trans rfl
  have fQ1 := blk_frozen hQ.out 1
  have cQ1 := (blk_cell hQ.out 1).trans rfl
  have fQ2 := blk_frozen hQ.out 2
  have cQ2 := (blk_cell hQ.out 2).trans rfl
  have fQ3 := blk_frozen hQ.out 3
  have cQ3 := (blk_cell hQ.out 3).trans rfl
  have fQ4 := blk_frozen hQ.out 4
  have cQ4 := (blk_cell hQ.out 4).trans rfl
  have fQ5 := blk_frozen hQ.out 5
  have cQ5 := (blk_cell hQ.out 5).trans rfl
  have fQ6 := blk_frozen hQ.out 6
  have cQ6 := (blk_cell hQ.out 6).trans rfl
  have fQ7 := blk_frozen hQ.out 7
  have cQ7 := (blk_cell hQ.out 7).trans rfl
  have fR0 := blk_frozen hR.out 0
  have cR0 := (blk_cell hR.out 0).trans rfl
  have fR1 := blk_frozen hR.out 1
  have cR1 := (blk_cell hR.out 1).trans rfl
  have fP0 := blk_frozen hP.out 0
  have cP0 := (blk_cell hP.out 0).trans rfl
  have fP1 := blk_frozen hP.out 1
  have cP1 := (blk_cell hP.out 1).trans rfl
  have fP2 := blk_frozen hP.out 2
  have cP2 := (blk_cell hP.out 2).trans rfl
  have fP3 := blk_frozen hP.out 3
  have cP3 := (blk_cell hP.out 3).trans rfl
  go_wp2_with (go_at_call 37; refine (pack_Reader_Number.calls s1 b1 1 v2 s2 b2 _ A2.out).mono ?_; rintro e w3 ⟨rfl, hb⟩; clear fQ0 cQ0 fQ1 cQ1 fQ2 cQ2 fQ3 cQ3 fQ4 cQ4 fQ5 cQ5 fQ6 cQ6 fQ7 cQ7 fR0 cR0 fR1 cR1 fP0 cP0 fP1 cP1 fP2 cP2 fP3 cP3; have hQ1 := Aside0.mk (blk_below hQ.out hb); have hR1 := Aside0.mk (blk_below hR.out hb); have hP1 := Aside0.mk (blk_below hP.out hb); have HB1 := Aside0.mk (below_step HB.out hb); clear hb; clear HB hQ hR hP; have hQ := hQ1; have hR := hR1; have hP := hP1; have HB := HB1; clear HB1 hQ1 hR1 hP1; have fQ0 := blk_frozen hQ.out 0; have cQ0 := (blk_cell hQ.out 0).trans rfl; have fQ1 := blk_frozen hQ.out 1; have cQ1 := (blk_cell hQ.out 1).trans rfl; have fQ2 := blk_frozen hQ.out 2; have cQ2 := (blk_cell hQ.out 2).trans rfl; have fQ3 := blk_frozen hQ.out 3; have cQ3 := (blk_cell hQ.out 3).trans rfl; have fQ4 := blk_frozen hQ.out 4; have cQ4 := (blk_cell hQ.out 4).trans rfl; have fQ5 := blk_frozen hQ.out 5; have cQ5 := (blk_cell hQ.out 5).trans rfl; have fQ6 := blk_frozen hQ.out 6; have cQ6 := (blk_cell hQ.out 6).trans rfl; have fQ7 := blk_frozen hQ.out 7; have cQ7 := (blk_cell hQ.out 7).trans rfl; have fR0 := blk_frozen hR.out 0; have cR0 := (blk_cell hR.out 0).trans rfl; have fR1 := blk_frozen hR.out 1; have cR1 := (blk_cell hR.out 1).trans rfl; have fP0 := blk_frozen hP.out 0; have cP0 := (blk_cell hP.out 0).trans rfl; have fP1 := blk_frozen hP.out 1; have cP1 := (blk_cell hP.out 1).trans rfl; have fP2 := blk_frozen hP.out 2; have cP2 := (blk_cell hP.out 2).trans rfl; have fP3 := blk_frozen hP.out 3; have cP3 := (blk_cell hP.out 3).trans rfl)
  clear fQ0 cQ0 fQ1 cQ1 fQ2 cQ2 fQ3 cQ3 fQ4 cQ4 fQ5 cQ5 fQ6 cQ6 fQ7 cQ7 fR0 cR0 fR1 cR1 fP0 cP0 fP1 cP1 fP2 cP2 fP3 cP3
  have hQ1 := Aside0.mk (blk_put (blk_far (blk_far hQ.out (p := ⟨B1, 0, none⟩) gQR (.string s2)) (p := ⟨B1, 1, none⟩) gQR (.bool b2)) 2 (.int .i64 (wrap64 v2)) (cs' := #[.string v0, .int .i64 (wrap64 v1), .int .i64 (wrap64 v2), .int .i64 0, .int .i64 0, .string (⟨#[]⟩ : ByteArray), .string (⟨#[]⟩ : ByteArray), .string (⟨#[]⟩ : ByteArray)]) rfl)
  have hR1 := Aside0.mk (blk_far (blk_put (blk_put hR.out 0 (.string s2) (cs' := #[.string s2, .bool b1]) rfl) 1 (.bool b2) (cs' := #[.string s2, .bool b2]) rfl) (p := ⟨B0, 2, none⟩) (Ne.symm gQR) (.int .i64 (wrap64 v2)))
  have hP1 := Aside0.mk (blk_far (blk_far (blk_far hP.out (p := ⟨B1, 0, none⟩) (Ne.symm gRP) (.string s2)) (p := ⟨B1, 1, none⟩) (Ne.symm gRP) (.bool b2)) (p := ⟨B0, 2, none⟩) (Ne.symm gQP) (.int .i64 (wrap64 v2)))
  have HB1 := Aside0.mk (below_set (j := 2) (v := .int .i64 (wrap64 v2)) (below_set (j := 1) (v := .bool b2) (below_set (j := 0) (v := .string s2) HB.out GR.out) GR.out) GQ.out)
  clear HB hQ hR hP
  generalize hW_ : (((w3.setCell ⟨B1, 0, none⟩ (.string s2)).setCell ⟨B1, 1, none⟩ (.bool b2)).setCell ⟨B0, 2, none⟩ (.int .i64 (wrap64 v2))) = W2 at *
  clear hW_
  have hQ := hQ1
  have hR := hR1
  have hP := hP1
  have HB := HB1
  clear HB1 hQ1 hR1 hP1
  rw [rounds_succ]
  have fQ0 := blk_frozen hQ.out 0
  have cQ0 := (blk_cell hQ.out 0).trans rfl
  have fQ1 := blk_frozen hQ.out 1
  have cQ1 := (blk_cell hQ.out 1).trans rfl
  have fQ2 := blk_frozen hQ.out 2
  have cQ2 := (blk_cell hQ.out 2).trans rfl
  have fQ3 := blk_frozen hQ.out 3
  have cQ3 := (blk_cell hQ.out 3).trans rfl
  have fQ4 := blk_frozen hQ.out 4
  have cQ4 := (blk_cell hQ.out 4).trans rfl
  have fQ5 := blk_frozen hQ.out 5
  have cQ5 := (blk_cell hQ.out 5).trans rfl
  have fQ6 := blk_frozen hQ.out 6
  have cQ6 := (blk_cell hQ.out 6).trans rfl
  have fQ7 := blk_frozen hQ.out 7
  have cQ7 := (blk_cell hQ.out 7).trans rfl
  have fR0 := blk_frozen hR.out 0
  have cR0 := (blk_cell hR.out 0).trans rfl
  have fR1 := blk_frozen hR.out 1
  have cR1 := (blk_cell hR.out 1).trans rfl
  have fP0 := blk_frozen hP.out 0
  have cP0 := (blk_cell hP.out 0).trans rfl
  have fP1 := blk_frozen hP.out 1
  have cP1 := (blk_cell hP.out 1).trans rfl
  have fP2 := blk_frozen hP.out 2
  have cP2 := (blk_cell hP.out 2).trans rfl
  have fP3 := blk_frozen hP.out 3
  have cP3 := (blk_cell hP.out 3).trans rfl
  go_wp2_with (go_at_call 37; refine (pack_Reader_Number.calls s2 b2 1 v3 s3 b3 _ A3.out).mono ?_; rintro e w4 ⟨rfl, hb⟩; clear fQ0 cQ0 fQ1 cQ1 fQ2 cQ2 fQ3 cQ3 fQ4 cQ4 fQ5 cQ5 fQ6 cQ6 fQ7 cQ7 fR0 cR0 fR1 cR1 fP0 cP0 fP1 cP1 fP2 cP2 fP3 cP3; have hQ1 := Aside0.mk (blk_below hQ.out hb); have hR1 := Aside0.mk (blk_below hR.out hb); have hP1 := Aside0.mk (blk_below hP.out hb); have HB1 := Aside0.mk (below_step HB.out hb); clear hb; clear HB hQ hR hP; have hQ := hQ1; have hR := hR1; have hP := hP1; have HB := HB1; clear HB1 hQ1 hR1 hP1; have fQ0 := blk_frozen hQ.out 0; have cQ0 := (blk_cell hQ.out 0).trans rfl; have fQ1 := blk_frozen hQ.out 1; have cQ1 := (blk_cell hQ.out 1).trans rfl; have fQ2 := blk_frozen hQ.out 2; have cQ2 := (blk_cell hQ.out 2).trans rfl; have fQ3 := blk_frozen hQ.out 3; have cQ3 := (blk_cell hQ.out 3).trans rfl; have fQ4 := blk_frozen hQ.out 4; have cQ4 := (blk_cell hQ.out 4).trans rfl; have fQ5 := blk_frozen hQ.out 5; have cQ5 := (blk_cell hQ.out 5).trans rfl; have fQ6 := blk_frozen hQ.out 6; have cQ6 := (blk_cell hQ.out 6).trans rfl; have fQ7 := blk_frozen hQ.out 7; have cQ7 := (blk_cell hQ.out 7).trans rfl; have fR0 := blk_frozen hR.out 0; have cR0 := (blk_cell hR.out 0).trans rfl; have fR1 := blk_frozen hR.out 1; have cR1 := (blk_cell hR.out 1).trans rfl; have fP0 := blk_frozen hP.out 0; have cP0 := (blk_cell hP.out 0).trans rfl; have fP1 := blk_frozen hP.out 1; have cP1 := (blk_cell hP.out 1).trans rfl; have fP2 := blk_frozen hP.out 2; have cP2 := (blk_cell hP.out 2).trans rfl; have fP3 := blk_frozen hP.out 3; have cP3 := (blk_cell hP.out 3).trans rfl)
  clear fQ0 cQ0 fQ1 cQ1 fQ2 cQ2 fQ3 cQ3 fQ4 cQ4 fQ5 cQ5 fQ6 cQ6 fQ7 cQ7 fR0 cR0 fR1 cR1 fP0 cP0 fP1 cP1 fP2 cP2 fP3 cP3
  have hQ1 := Aside0.mk (blk_put (blk_far (blk_far hQ.out (p := ⟨B1, 0, none⟩) gQR (.string s3)) (p := ⟨B1, 1, none⟩) gQR (.bool b3)) 3 (.int .i64 (wrap64 v3)) (cs' := #[.string v0, .int .i64 (wrap64 v1), .int .i64 (wrap64 v2), .int .i64 (wrap64 v3), .int .i64 0, .string (⟨#[]⟩ : ByteArray), .string (⟨#[]⟩ : ByteArray), .string (⟨#[]⟩ : ByteArray)]) rfl)
  have hR1 := Aside0.mk (blk_far (blk_put (blk_put hR.out 0 (.string s3) (cs' := #[.string s3, .bool b2]) rfl) 1 (.bool b3) (cs' := #[.string s3, .bool b3]) rfl) (p := ⟨B0, 3, none⟩) (Ne.symm gQR) (.int .i64 (wrap64 v3)))
  have hP1 := Aside0.mk (blk_far (blk_far (blk_far hP.out (p := ⟨B1, 0, none⟩) (Ne.symm gRP) (.string s3)) (p := ⟨B1, 1, none⟩) (Ne.symm gRP) (.bool b3)) (p := ⟨B0, 3, none⟩) (Ne.symm gQP) (.int .i64 (wrap64 v3)))
  have HB1 := Aside0.mk (below_set (j := 3) (v := .int .i64 (wrap64 v3)) (below_set (j := 1) (v := .bool b3) (below_set (j := 0) (v := .string s3) HB.out GR.out) GR.out) GQ.out)
  clear HB hQ hR hP
  generalize hW_ : (((w4.setCell ⟨B1, 0, none⟩ (.string s3)).setCell ⟨B1, 1, none⟩ (.bool b3)).setCell ⟨B0, 3, none⟩ (.int .i64 (wrap64 v3))) = W3 at *
  clear hW_
  have hQ := hQ1
  have hR := hR1
  have hP := hP1
  have HB := HB1
  clear HB1 hQ1 hR1 hP1
  rw [rounds_succ]
  have fQ0 := blk_frozen hQ.out 0
  have cQ0 := (blk_cell hQ.out 0).trans rfl
  have fQ1 := blk_frozen hQ.out 1
  have cQ1 := (blk_cell hQ.out 1).trans rfl
  have fQ2 := blk_frozen hQ.out 2
  have cQ2 := (blk_cell hQ.out 2).trans rfl
  have fQ3 := blk_frozen hQ.out 3
  have cQ3 := (blk_cell hQ.out 3).trans rfl
  have fQ4 := blk_frozen hQ.out 4
  have cQ4 := (blk_cell hQ.out 4).trans rfl
  have fQ5 := blk_frozen hQ.out 5
  have cQ5 := (blk_cell hQ.out 5).trans rfl
  have fQ6 := blk_frozen hQ.out 6
  have cQ6 := (blk_cell hQ.out 6).trans rfl
  have fQ7 := blk_frozen hQ.out 7
  have cQ7 := (blk_cell hQ.out 7).trans rfl
  have fR0 := blk_frozen hR.out 0
  have cR0 := (blk_cell hR.out 0).trans rfl
  have fR1 := blk_frozen hR.out 1
  have cR1 := (blk_cell hR.out 1).trans rfl
  have fP0 := blk_frozen hP.out 0
  have cP0 := (blk_cell hP.out 0).trans rfl
  have fP1 := blk_frozen hP.out 1
  have cP1 := (blk_cell hP.out 1).trans rfl
  have fP2 := blk_frozen hP.out 2
  have cP2 := (blk_cell hP.out 2).trans rfl
  have fP3 := blk_frozen hP.out 3
  have cP3 := (blk_cell hP.out 3).trans rfl
  go_wp2_with (go_at_call 37; refine (pack_Reader_Number.calls s3 b3 1 v4 s4 b4 _ A4.out).mono ?_; rintro e w5 ⟨rfl, hb⟩; clear fQ0 cQ0 fQ1 cQ1 fQ2 cQ2 fQ3 cQ3 fQ4 cQ4 fQ5 cQ5 fQ6 cQ6 fQ7 cQ7 fR0 cR0 fR1 cR1 fP0 cP0 fP1 cP1 fP2 cP2 fP3 cP3; have hQ1 := Aside0.mk (blk_below hQ.out hb); have hR1 := Aside0.mk (blk_below hR.out hb); have hP1 := Aside0.mk (blk_below hP.out hb); have HB1 := Aside0.mk (below_step HB.out hb); clear hb; clear HB hQ hR hP; have hQ := hQ1; have hR := hR1; have hP := hP1; have HB := HB1; clear HB1 hQ1 hR1 hP1; have fQ0 := blk_frozen hQ.out 0; have cQ0 := (blk_cell hQ.out 0).trans rfl; have fQ1 := blk_frozen hQ.out 1; have cQ1 := (blk_cell hQ.out 1).trans rfl; have fQ2 := blk_frozen hQ.out 2; have cQ2 := (blk_cell hQ.out 2).trans rfl; have fQ3 := blk_frozen hQ.out 3; have cQ3 := (blk_cell hQ.out 3).trans rfl; have fQ4 := blk_frozen hQ.out 4; have cQ4 := (blk_cell hQ.out 4).trans rfl; have fQ5 := blk_frozen hQ.out 5; have cQ5 := (blk_cell hQ.out 5).trans rfl; have fQ6 := blk_frozen hQ.out 6; have cQ6 := (blk_cell hQ.out 6).trans rfl; have fQ7 := blk_frozen hQ.out 7; have cQ7 := (blk_cell hQ.out 7).trans rfl; have fR0 := blk_frozen hR.out 0; have cR0 := (blk_cell hR.out 0).trans rfl; have fR1 := blk_frozen hR.out 1; have cR1 := (blk_cell hR.out 1).trans rfl; have fP0 := blk_frozen hP.out 0; have cP0 := (blk_cell hP.out 0).trans rfl; have fP1 := blk_frozen hP.out 1; have cP1 := (blk_cell hP.out 1).trans rfl; have fP2 := blk_frozen hP.out 2; have cP2 := (blk_cell hP.out 2).trans rfl; have fP3 := blk_frozen hP.out 3; have cP3 := (blk_cell hP.out 3).trans rfl)
  clear fQ0 cQ0 fQ1 cQ1 fQ2 cQ2 fQ3 cQ3 fQ4 cQ4 fQ5 cQ5 fQ6 cQ6 fQ7 cQ7 fR0 cR0 fR1 cR1 fP0 cP0 fP1 cP1 fP2 cP2 fP3 cP3
  have hQ1 := Aside0.mk (blk_put (blk_far (blk_far hQ.out (p := ⟨B1, 0, none⟩) gQR (.string s4)) (p := ⟨B1, 1, none⟩) gQR (.bool b4)) 4 (.int .i64 (wrap64 v4)) (cs' := #[.string v0, .int .i64 (wrap64 v1), .int .i64 (wrap64 v2), .int .i64 (wrap64 v3), .int .i64 (wrap64 v4), .string (⟨#[]⟩ : ByteArray), .string (⟨#[]⟩ : ByteArray), .string (⟨#[]⟩ : ByteArray)]) rfl)
  have hR1 := Aside0.mk (blk_far (blk_put (blk_put hR.out 0 (.string s4) (cs' := #[.string s4, .bool b3]) rfl) 1 (.bool b4) (cs' := #[.string s4, .bool b4]) rfl) (p := ⟨B0, 4, none⟩) (Ne.symm gQR) (.int .i64 (wrap64 v4)))
  have hP1 := Aside0.mk (blk_far (blk_far (blk_far hP.out (p := ⟨B1, 0, none⟩) (Ne.symm gRP) (.string s4)) (p := ⟨B1, 1, none⟩) (Ne.symm gRP) (.bool b4)) (p := ⟨B0, 4, none⟩) (Ne.symm gQP) (.int .i64 (wrap64 v4)))
  have HB1 := Aside0.mk (below_set (j := 4) (v := .int .i64 (wrap64 v4)) (below_set (j := 1) (v := .bool b4) (below_set (j := 0) (v := .string s4) HB.out GR.out) GR.out) GQ.out)
  clear HB hQ hR hP
  generalize hW_ : (((w5.setCell ⟨B1, 0, none⟩ (.string s4)).setCell ⟨B1, 1, none⟩ (.bool b4)).setCell ⟨B0, 4, none⟩ (.int .i64 (wrap64 v4))) = W4 at *
  clear hW_
  have hQ := hQ1
  have hR := hR1
  have hP := hP1
  have HB := HB1
  clear HB1 hQ1 hR1 hP1
  rw [rounds_succ]
  go_wp2
  have hlQ := blk_lt hQ.out
  have hlR := blk_lt hR.out
  have hlP := blk_lt hP.out
  have hQ1 := Aside0.mk (blk_alloc hQ.out (.cells #[.pointer (some ⟨B0, 5, none⟩), .pointer (some ⟨B0, 6, none⟩), .pointer (some ⟨B0, 7, none⟩)] 88))
  have hR1 := Aside0.mk (blk_alloc hR.out (.cells #[.pointer (some ⟨B0, 5, none⟩), .pointer (some ⟨B0, 6, none⟩), .pointer (some ⟨B0, 7, none⟩)] 88))
  have hP1 := Aside0.mk (blk_alloc hP.out (.cells #[.pointer (some ⟨B0, 5, none⟩), .pointer (some ⟨B0, 6, none⟩), .pointer (some ⟨B0, 7, none⟩)] 88))
  have HB1 := Aside0.mk (below_alloc HB.out (.cells #[.pointer (some ⟨B0, 5, none⟩), .pointer (some ⟨B0, 6, none⟩), .pointer (some ⟨B0, 7, none⟩)] 88))
  have hS1 := blk_new W4 (.cells #[.pointer (some ⟨B0, 5, none⟩), .pointer (some ⟨B0, 6, none⟩), .pointer (some ⟨B0, 7, none⟩)] 88)
  have gz_ := HB.out.size
  obtain ⟨B3, hB_⟩ : ∃ B, B = W4.heap.size := ⟨_, rfl⟩
  rw [← hB_] at hS1
  rw [← hB_]
  have hS1 := Aside0.mk hS1
  have gQS : B0 ≠ B3 := by omega
  have gRS : B1 ≠ B3 := by omega
  have gPS : B2 ≠ B3 := by omega
  have GS := Aside0.mk (show w.heap.size ≤ B3 by omega)
  clear hB_ gz_ hlQ hlR hlP
  clear HB hQ hR hP
  generalize hW_ : W4.alloc (.cells #[.pointer (some ⟨B0, 5, none⟩), .pointer (some ⟨B0, 6, none⟩), .pointer (some ⟨B0, 7, none⟩)] 88) = W5 at *
  clear hW_
  have hQ := hQ1
  have hR := hR1
  have hP := hP1
  have hS := hS1
  have HB := HB1
  clear HB1 hQ1 hR1 hP1 hS1
  refine wp_loop_rounds 4 ?_
  rw [rounds_succ]
  have fQ0 := blk_frozen hQ.out 0
  have cQ0 := (blk_cell hQ.out 0).trans rfl
  have fQ1 := blk_frozen hQ.out 1
  have cQ1 := (blk_cell hQ.out 1).trans rfl
  have fQ2 := blk_frozen hQ.out 2
  have cQ2 := (blk_cell hQ.out 2).trans rfl
  have fQ3 := blk_frozen hQ.out 3
  have cQ3 := (blk_cell hQ.out 3).trans rfl
  have fQ4 := blk_frozen hQ.out 4
  have cQ4 := (blk_cell hQ.out 4).trans rfl
  have fQ5 := blk_frozen hQ.out 5
  have cQ5 := (blk_cell hQ.out 5).trans rfl
  have fQ6 := blk_frozen hQ.out 6
  have cQ6 := (blk_cell hQ.out 6).trans rfl
  have fQ7 := blk_frozen hQ.out 7
  have cQ7 := (blk_cell hQ.out 7).trans rfl
  have fR0 := blk_frozen hR.out 0
  have cR0 := (blk_cell hR.out 0).trans rfl
  have fR1 := blk_frozen hR.out 1
  have cR1 := (blk_cell hR.out 1).trans rfl
  have fP0 := blk_frozen hP.out 0
  have cP0 := (blk_cell hP.out 0).trans rfl
  have fP1 := blk_frozen hP.out 1
  have cP1 := (blk_cell hP.out 1).trans rfl
  have fP2 := blk_frozen hP.out 2
  have cP2 := (blk_cell hP.out 2).trans rfl
  have fP3 := blk_frozen hP.out 3
  have cP3 := (blk_cell hP.out 3).trans rfl
  have fS0 := blk_frozen hS.out 0
  have cS0 := (blk_cell hS.out 0).trans rfl
  have fS1 := blk_frozen hS.out 1
  have cS1 := (blk_cell hS.out 1).trans rfl
  have fS2 := blk_frozen hS.out 2
  have cS2 := (blk_cell hS.out 2).trans rfl
  go_wp2_with (go_at_call 36; refine (pack_Reader_Text.calls k s4 b4 64 v5 s5 b5 _ A5.out).mono ?_; rintro e w6 ⟨rfl, hb⟩; clear fQ0 cQ0 fQ1 cQ1 fQ2 cQ2 fQ3 cQ3 fQ4 cQ4 fQ5 cQ5 fQ6 cQ6 fQ7 cQ7 fR0 cR0 fR1 cR1 fP0 cP0 fP1 cP1 fP2 cP2 fP3 cP3 fS0 cS0 fS1 cS1 fS2 cS2; have hQ1 := Aside0.mk (blk_below hQ.out hb); have hR1 := Aside0.mk (blk_below hR.out hb); have hP1 := Aside0.mk (blk_below hP.out hb); have hS1 := Aside0.mk (blk_below hS.out hb); have HB1 := Aside0.mk (below_step HB.out hb); clear hb; clear HB hQ hR hP hS; have hQ := hQ1; have hR := hR1; have hP := hP1; have hS := hS1; have HB := HB1; clear HB1 hQ1 hR1 hP1 hS1; have fQ0 := blk_frozen hQ.out 0; have cQ0 := (blk_cell hQ.out 0).trans rfl; have fQ1 := blk_frozen hQ.out 1; have cQ1 := (blk_cell hQ.out 1).trans rfl; have fQ2 := blk_frozen hQ.out 2; have cQ2 := (blk_cell hQ.out 2).trans rfl; have fQ3 := blk_frozen hQ.out 3; have cQ3 := (blk_cell hQ.out 3).trans rfl; have fQ4 := blk_frozen hQ.out 4; have cQ4 := (blk_cell hQ.out 4).trans rfl; have fQ5 := blk_frozen hQ.out 5; have cQ5 := (blk_cell hQ.out 5).trans rfl; have fQ6 := blk_frozen hQ.out 6; have cQ6 := (blk_cell hQ.out 6).trans rfl; have fQ7 := blk_frozen hQ.out 7; have cQ7 := (blk_cell hQ.out 7).trans rfl; have fR0 := blk_frozen hR.out 0; have cR0 := (blk_cell hR.out 0).trans rfl; have fR1 := blk_frozen hR.out 1; have cR1 := (blk_cell hR.out 1).trans rfl; have fP0 := blk_frozen hP.out 0; have cP0 := (blk_cell hP.out 0).trans rfl; have fP1 := blk_frozen hP.out 1; have cP1 := (blk_cell hP.out 1).trans rfl; have fP2 := blk_frozen hP.out 2; have cP2 := (blk_cell hP.out 2).trans rfl; have fP3 := blk_frozen hP.out 3; have cP3 := (blk_cell hP.out 3).trans rfl; have fS0 := blk_frozen hS.out 0; have cS0 := (blk_cell hS.out 0).trans rfl; have fS1 := blk_frozen hS.out 1; have cS1 := (blk_cell hS.out 1).trans rfl; have fS2 := blk_frozen hS.out 2; have cS2 := (blk_cell hS.out 2).trans rfl)
  clear fQ0 cQ0 fQ1 cQ1 fQ2 cQ2 fQ3 cQ3 fQ4 cQ4 fQ5 cQ5 fQ6 cQ6 fQ7 cQ7 fR0 cR0 fR1 cR1 fP0 cP0 fP1 cP1 fP2 cP2 fP3 cP3 fS0 cS0 fS1 cS1 fS2 cS2
  have hQ1 := Aside0.mk (blk_far (blk_far (blk_put hQ.out 5 (.string v5) (cs' := #[.string v0, .int .i64 (wrap64 v1), .int .i64 (wrap64 v2), .int .i64 (wrap64 v3), .int .i64 (wrap64 v4), .string v5, .string (⟨#[]⟩ : ByteArray), .string (⟨#[]⟩ : ByteArray)]) rfl) (p := ⟨B1, 0, none⟩) gQR (.string s5)) (p := ⟨B1, 1, none⟩) gQR (.bool b5))
  have hR1 := Aside0.mk (blk_put (blk_put (blk_far hR.out (p := ⟨B0, 5, none⟩) (Ne.symm gQR) (.string v5)) 0 (.string s5) (cs' := #[.string s5, .bool b4]) rfl) 1 (.bool b5) (cs' := #[.string s5, .bool b5]) rfl)
  have hP1 := Aside0.mk (blk_far (blk_far (blk_far hP.out (p := ⟨B0, 5, none⟩) (Ne.symm gQP) (.string v5)) (p := ⟨B1, 0, none⟩) (Ne.symm gRP) (.string s5)) (p := ⟨B1, 1, none⟩) (Ne.symm gRP) (.bool b5))
  have hS1 := Aside0.mk (blk_far (blk_far (blk_far hS.out (p := ⟨B0, 5, none⟩) (Ne.symm gQS) (.string v5)) (p := ⟨B1, 0, none⟩) (Ne.symm gRS) (.string s5)) (p := ⟨B1, 1, none⟩) (Ne.symm gRS) (.bool b5))
  have HB1 := Aside0.mk (below_set (j := 1) (v := .bool b5) (below_set (j := 0) (v := .string s5) (below_set (j := 5) (v := .string v5) HB.out GQ.out) GR.out) GR.out)
  clear HB hQ hR hP hS
  generalize hW_ : (((w6.setCell ⟨B0, 5, none⟩ (.string v5)).setCell ⟨B1, 0, none⟩ (.string s5)).setCell ⟨B1, 1, none⟩ (.bool b5)) = W6 at *
  clear hW_
  have hQ := hQ1
  have hR := hR1
  have hP := hP1
  have hS := hS1
  have HB := HB1
  clear HB1 hQ1 hR1 hP1 hS1
  rw [rounds_succ]
  have fQ0 := blk_frozen hQ.out 0
  have cQ0 := (blk_cell hQ.out 0).trans rfl
  have fQ1 := blk_frozen hQ.out 1
  have cQ1 := (blk_cell hQ.out 1).trans rfl
  have fQ2 := blk_frozen hQ.out 2
  have cQ2 := (blk_cell hQ.out 2).trans rfl
  have fQ3 := blk_frozen hQ.out 3
  have cQ3 := (blk_cell hQ.out 3).trans rfl
  have fQ4 := blk_frozen hQ.out 4
  have cQ4 := (blk_cell hQ.out 4).trans rfl
  have fQ5 := blk_frozen hQ.out 5
  have cQ5 := (blk_cell hQ.out 5).trans rfl
  have fQ6 := blk_frozen hQ.out 6
  have cQ6 := (blk_cell hQ.out 6).trans rfl
  have fQ7 := blk_frozen hQ.out 7
  have cQ7 := (blk_cell hQ.out 7).trans rfl
  have fR0 := blk_frozen hR.out 0
  have cR0 := (blk_cell hR.out 0).trans rfl
  have fR1 := blk_frozen hR.out 1
  have cR1 := (blk_cell hR.out 1).trans rfl
  have fP0 := blk_frozen hP.out 0
  have cP0 := (blk_cell hP.out 0).trans rfl
  have fP1 := blk_frozen hP.out 1
  have cP1 := (blk_cell hP.out 1).trans rfl
  have fP2 := blk_frozen hP.out 2
  have cP2 := (blk_cell hP.out 2).trans rfl
  have fP3 := blk_frozen hP.out 3
  have cP3 := (blk_cell hP.out 3).trans rfl
  have fS0 := blk_frozen hS.out 0
  have cS0 := (blk_cell hS.out 0).trans rfl
  have fS1 := blk_frozen hS.out 1
  have cS1 := (blk_cell hS.out 1).trans rfl
  have fS2 := blk_frozen hS.out 2
  have cS2 := (blk_cell hS.out 2).trans rfl
  go_wp2_with (go_at_call 36; refine (pack_Reader_Text.calls k s5 b5 64 v6 s6 b6 _ A6.out).mono ?_; rintro e w7 ⟨rfl, hb⟩; clear fQ0 cQ0 fQ1 cQ1 fQ2 cQ2 fQ3 cQ3 fQ4 cQ4 fQ5 cQ5 fQ6 cQ6 fQ7 cQ7 fR0 cR0 fR1 cR1 fP0 cP0 fP1 cP1 fP2 cP2 fP3 cP3 fS0 cS0 fS1 cS1 fS2 cS2; have hQ1 := Aside0.mk (blk_below hQ.out hb); have hR1 := Aside0.mk (blk_below hR.out hb); have hP1 := Aside0.mk (blk_below hP.out hb); have hS1 := Aside0.mk (blk_below hS.out hb); have HB1 := Aside0.mk (below_step HB.out hb); clear hb; clear HB hQ hR hP hS; have hQ := hQ1; have hR := hR1; have hP := hP1; have hS := hS1; have HB := HB1; clear HB1 hQ1 hR1 hP1 hS1; have fQ0 := blk_frozen hQ.out 0; have cQ0 := (blk_cell hQ.out 0).trans rfl; have fQ1 := blk_frozen hQ.out 1; have cQ1 := (blk_cell hQ.out 1).trans rfl; have fQ2 := blk_frozen hQ.out 2; have cQ2 := (blk_cell hQ.out 2).trans rfl; have fQ3 := blk_frozen hQ.out 3; have cQ3 := (blk_cell hQ.out 3).trans rfl; have fQ4 := blk_frozen hQ.out 4; have cQ4 := (blk_cell hQ.out 4).trans rfl; have fQ5 := blk_frozen hQ.out 5; have cQ5 := (blk_cell hQ.out 5).trans rfl; have fQ6 := blk_frozen hQ.out 6; have cQ6 := (blk_cell hQ.out 6).trans rfl; have fQ7 := blk_frozen hQ.out 7; have cQ7 := (blk_cell hQ.out 7).trans rfl; have fR0 := blk_frozen hR.out 0; have cR0 := (blk_cell hR.out 0).trans rfl; have fR1 := blk_frozen hR.out 1; have cR1 := (blk_cell hR.out 1).trans rfl; have fP0 := blk_frozen hP.out 0; have cP0 := (blk_cell hP.out 0).trans rfl; have fP1 := blk_frozen hP.out 1; have cP1 := (blk_cell hP.out 1).trans rfl; have fP2 := blk_frozen hP.out 2; have cP2 := (blk_cell hP.out 2).trans rfl; have fP3 := blk_frozen hP.out 3; have cP3 := (blk_cell hP.out 3).trans rfl; have fS0 := blk_frozen hS.out 0; have cS0 := (blk_cell hS.out 0).trans rfl; have fS1 := blk_frozen hS.out 1; have cS1 := (blk_cell hS.out 1).trans rfl; have fS2 := blk_frozen hS.out 2; have cS2 := (blk_cell hS.out 2).trans rfl)
  clear fQ0 cQ0 fQ1 cQ1 fQ2 cQ2 fQ3 cQ3 fQ4 cQ4 fQ5 cQ5 fQ6 cQ6 fQ7 cQ7 fR0 cR0 fR1 cR1 fP0 cP0 fP1 cP1 fP2 cP2 fP3 cP3 fS0 cS0 fS1 cS1 fS2 cS2
  have hQ1 := Aside0.mk (blk_far (blk_far (blk_put hQ.out 6 (.string v6) (cs' := #[.string v0, .int .i64 (wrap64 v1), .int .i64 (wrap64 v2), .int .i64 (wrap64 v3), .int .i64 (wrap64 v4), .string v5, .string v6, .string (⟨#[]⟩ : ByteArray)]) rfl) (p := ⟨B1, 0, none⟩) gQR (.string s6)) (p := ⟨B1, 1, none⟩) gQR (.bool b6))
  have hR1 := Aside0.mk (blk_put (blk_put (blk_far hR.out (p := ⟨B0, 6, none⟩) (Ne.symm gQR) (.string v6)) 0 (.string s6) (cs' := #[.string s6, .bool b5]) rfl) 1 (.bool b6) (cs' := #[.string s6, .bool b6]) rfl)
  have hP1 := Aside0.mk (blk_far (blk_far (blk_far hP.out (p := ⟨B0, 6, none⟩) (Ne.symm gQP) (.string v6)) (p := ⟨B1, 0, none⟩) (Ne.symm gRP) (.string s6)) (p := ⟨B1, 1, none⟩) (Ne.symm gRP) (.bool b6))
  have hS1 := Aside0.mk (blk_far (blk_far (blk_far hS.out (p := ⟨B0, 6, none⟩) (Ne.symm gQS) (.string v6)) (p := ⟨B1, 0, none⟩) (Ne.symm gRS) (.string s6)) (p := ⟨B1, 1, none⟩) (Ne.symm gRS) (.bool b6))
  have HB1 := Aside0.mk (below_set (j := 1) (v := .bool b6) (below_set (j := 0) (v := .string s6) (below_set (j := 6) (v := .string v6) HB.out GQ.out) GR.out) GR.out)
  clear HB hQ hR hP hS
  generalize hW_ : (((w7.setCell ⟨B0, 6, none⟩ (.string v6)).setCell ⟨B1, 0, none⟩ (.string s6)).setCell ⟨B1, 1, none⟩ (.bool b6)) = W7 at *
  clear hW_
  have hQ := hQ1
  have hR := hR1
  have hP := hP1
  have hS := hS1
  have HB := HB1
  clear HB1 hQ1 hR1 hP1 hS1
  rw [rounds_succ]
  have fQ0 := blk_frozen hQ.out 0
  have cQ0 := (blk_cell hQ.out 0).trans rfl
  have fQ1 := blk_frozen hQ.out 1
  have cQ1 := (blk_cell hQ.out 1).trans rfl
  have fQ2 := blk_frozen hQ.out 2
  have cQ2 := (blk_cell hQ.out 2).trans rfl
  have fQ3 := blk_frozen hQ.out 3
  have cQ3 := (blk_cell hQ.out 3).trans rfl
  have fQ4 := blk_frozen hQ.out 4
  have cQ4 := (blk_cell hQ.out 4).trans rfl
  have fQ5 := blk_frozen hQ.out 5
  have cQ5 := (blk_cell hQ.out 5).trans rfl
  have fQ6 := blk_frozen hQ.out 6
  have cQ6 := (blk_cell hQ.out 6).trans rfl
  have fQ7 := blk_frozen hQ.out 7
  have cQ7 := (blk_cell hQ.out 7).trans rfl
  have fR0 := blk_frozen hR.out 0
  have cR0 := (blk_cell hR.out 0).trans rfl
  have fR1 := blk_frozen hR.out 1
  have cR1 := (blk_cell hR.out 1).trans rfl
  have fP0 := blk_frozen hP.out 0
  have cP0 := (blk_cell hP.out 0).trans rfl
  have fP1 := blk_frozen hP.out 1
  have cP1 := (blk_cell hP.out 1).trans rfl
  have fP2 := blk_frozen hP.out 2
  have cP2 := (blk_cell hP.out 2).trans rfl
  have fP3 := blk_frozen hP.out 3
  have cP3 := (blk_cell hP.out 3).trans rfl
  have fS0 := blk_frozen hS.out 0
  have cS0 := (blk_cell hS.out 0).trans rfl
  have fS1 := blk_frozen hS.out 1
  have cS1 := (blk_cell hS.out 1).trans rfl
  have fS2 := blk_frozen hS.out 2
  have cS2 := (blk_cell hS.out 2).trans rfl
  go_wp2_with (go_at_call 36; refine (pack_Reader_Text.calls k s6 b6 64 v7 s7 b7 _ A7.out).mono ?_; rintro e w8 ⟨rfl, hb⟩; clear fQ0 cQ0 fQ1 cQ1 fQ2 cQ2 fQ3 cQ3 fQ4 cQ4 fQ5 cQ5 fQ6 cQ6 fQ7 cQ7 fR0 cR0 fR1 cR1 fP0 cP0 fP1 cP1 fP2 cP2 fP3 cP3 fS0 cS0 fS1 cS1 fS2 cS2; have hQ1 := Aside0.mk (blk_below hQ.out hb); have hR1 := Aside0.mk (blk_below hR.out hb); have hP1 := Aside0.mk (blk_below hP.out hb); have hS1 := Aside0.mk (blk_below hS.out hb); have HB1 := Aside0.mk (below_step HB.out hb); clear hb; clear HB hQ hR hP hS; have hQ := hQ1; have hR := hR1; have hP := hP1; have hS := hS1; have HB := HB1; clear HB1 hQ1 hR1 hP1 hS1; have fQ0 := blk_frozen hQ.out 0; have cQ0 := (blk_cell hQ.out 0).trans rfl; have fQ1 := blk_frozen hQ.out 1; have cQ1 := (blk_cell hQ.out 1).trans rfl; have fQ2 := blk_frozen hQ.out 2; have cQ2 := (blk_cell hQ.out 2).trans rfl; have fQ3 := blk_frozen hQ.out 3; have cQ3 := (blk_cell hQ.out 3).trans rfl; have fQ4 := blk_frozen hQ.out 4; have cQ4 := (blk_cell hQ.out 4).trans rfl; have fQ5 := blk_frozen hQ.out 5; have cQ5 := (blk_cell hQ.out 5).trans rfl; have fQ6 := blk_frozen hQ.out 6; have cQ6 := (blk_cell hQ.out 6).trans rfl; have fQ7 := blk_frozen hQ.out 7; have cQ7 := (blk_cell hQ.out 7).trans rfl; have fR0 := blk_frozen hR.out 0; have cR0 := (blk_cell hR.out 0).trans rfl; have fR1 := blk_frozen hR.out 1; have cR1 := (blk_cell hR.out 1).trans rfl; have fP0 := blk_frozen hP.out 0; have cP0 := (blk_cell hP.out 0).trans rfl; have fP1 := blk_frozen hP.out 1; have cP1 := (blk_cell hP.out 1).trans rfl; have fP2 := blk_frozen hP.out 2; have cP2 := (blk_cell hP.out 2).trans rfl; have fP3 := blk_frozen hP.out 3; have cP3 := (blk_cell hP.out 3).trans rfl; have fS0 := blk_frozen hS.out 0; have cS0 := (blk_cell hS.out 0).trans rfl; have fS1 := blk_frozen hS.out 1; have cS1 := (blk_cell hS.out 1).trans rfl; have fS2 := blk_frozen hS.out 2; have cS2 := (blk_cell hS.out 2).trans rfl)
  clear fQ0 cQ0 fQ1 cQ1 fQ2 cQ2 fQ3 cQ3 fQ4 cQ4 fQ5 cQ5 fQ6 cQ6 fQ7 cQ7 fR0 cR0 fR1 cR1 fP0 cP0 fP1 cP1 fP2 cP2 fP3 cP3 fS0 cS0 fS1 cS1 fS2 cS2
  have hQ1 := Aside0.mk (blk_far (blk_far (blk_put hQ.out 7 (.string v7) (cs' := #[.string v0, .int .i64 (wrap64 v1), .int .i64 (wrap64 v2), .int .i64 (wrap64 v3), .int .i64 (wrap64 v4), .string v5, .string v6, .string v7]) rfl) (p := ⟨B1, 0, none⟩) gQR (.string s7)) (p := ⟨B1, 1, none⟩) gQR (.bool b7))
  have hR1 := Aside0.mk (blk_put (blk_put (blk_far hR.out (p := ⟨B0, 7, none⟩) (Ne.symm gQR) (.string v7)) 0 (.string s7) (cs' := #[.string s7, .bool b6]) rfl) 1 (.bool b7) (cs' := #[.string s7, .bool b7]) rfl)
  have hP1 := Aside0.mk (blk_far (blk_far (blk_far hP.out (p := ⟨B0, 7, none⟩) (Ne.symm gQP) (.string v7)) (p := ⟨B1, 0, none⟩) (Ne.symm gRP) (.string s7)) (p := ⟨B1, 1, none⟩) (Ne.symm gRP) (.bool b7))
  have hS1 := Aside0.mk (blk_far (blk_far (blk_far hS.out (p := ⟨B0, 7, none⟩) (Ne.symm gQS) (.string v7)) (p := ⟨B1, 0, none⟩) (Ne.symm gRS) (.string s7)) (p := ⟨B1, 1, none⟩) (Ne.symm gRS) (.bool b7))
  have HB1 := Aside0.mk (below_set (j := 1) (v := .bool b7) (below_set (j := 0) (v := .string s7) (below_set (j := 7) (v := .string v7) HB.out GQ.out) GR.out) GR.out)
  clear HB hQ hR hP hS
  generalize hW_ : (((w8.setCell ⟨B0, 7, none⟩ (.string v7)).setCell ⟨B1, 0, none⟩ (.string s7)).setCell ⟨B1, 1, none⟩ (.bool b7)) = W8 at *
  clear hW_
  have hQ := hQ1
  have hR := hR1
  have hP := hP1
  have hS := hS1
  have HB := HB1
  clear HB1 hQ1 hR1 hP1 hS1
  rw [rounds_succ]
  have fQ0 := blk_frozen hQ.out 0
  have cQ0 := (blk_cell hQ.out 0).trans rfl
  have fQ1 := blk_frozen hQ.out 1
  have cQ1 := (blk_cell hQ.out 1).trans rfl
  have fQ2 := blk_frozen hQ.out 2
  have cQ2 := (blk_cell hQ.out 2).trans rfl
  have fQ3 := blk_frozen hQ.out 3
  have cQ3 := (blk_cell hQ.out 3).trans rfl
  have fQ4 := blk_frozen hQ.out 4
  have cQ4 := (blk_cell hQ.out 4).trans rfl
  have fQ5 := blk_frozen hQ.out 5
  have cQ5 := (blk_cell hQ.out 5).trans rfl
  have fQ6 := blk_frozen hQ.out 6
  have cQ6 := (blk_cell hQ.out 6).trans rfl
  have fQ7 := blk_frozen hQ.out 7
  have cQ7 := (blk_cell hQ.out 7).trans rfl
  have fR0 := blk_frozen hR.out 0
  have cR0 := (blk_cell hR.out 0).trans rfl
  have fR1 := blk_frozen hR.out 1
  have cR1 := (blk_cell hR.out 1).trans rfl
  have fP0 := blk_frozen hP.out 0
  have cP0 := (blk_cell hP.out 0).trans rfl
  have fP1 := blk_frozen hP.out 1
  have cP1 := (blk_cell hP.out 1).trans rfl
  have fP2 := blk_frozen hP.out 2
  have cP2 := (blk_cell hP.out 2).trans rfl
  have fP3 := blk_frozen hP.out 3
  have cP3 := (blk_cell hP.out 3).trans rfl
  have fS0 := blk_frozen hS.out 0
  have cS0 := (blk_cell hS.out 0).trans rfl
  have fS1 := blk_frozen hS.out 1
  have cS1 := (blk_cell hS.out 1).trans rfl
  have fS2 := blk_frozen hS.out 2
  have cS2 := (blk_cell hS.out 2).trans rfl
  cases d with
  | true =>
    have h := HH.out
    rw [if_pos rfl] at h
    simp only [Option.some.injEq, Prod.mk.injEq] at h
    obtain ⟨rfl, rfl, rfl, rfl, rfl, rfl, rfl, rfl, rfl⟩ := h
    clear HH
    go_wp2_with (go_at_call 38; refine (pack_Reader_Done.calls s7 b7 true _ A8.out).mono ?_; rintro e w9 ⟨rfl, hb⟩; clear fQ0 cQ0 fQ1 cQ1 fQ2 cQ2 fQ3 cQ3 fQ4 cQ4 fQ5 cQ5 fQ6 cQ6 fQ7 cQ7 fR0 cR0 fR1 cR1 fP0 cP0 fP1 cP1 fP2 cP2 fP3 cP3 fS0 cS0 fS1 cS1 fS2 cS2; have hQ1 := Aside0.mk (blk_below hQ.out hb); have hR1 := Aside0.mk (blk_below hR.out hb); have hP1 := Aside0.mk (blk_below hP.out hb); have hS1 := Aside0.mk (blk_below hS.out hb); have HB1 := Aside0.mk (below_step HB.out hb); clear hb; clear HB hQ hR hP hS; have hQ := hQ1; have hR := hR1; have hP := hP1; have hS := hS1; have HB := HB1; clear HB1 hQ1 hR1 hP1 hS1; have fQ0 := blk_frozen hQ.out 0; have cQ0 := (blk_cell hQ.out 0).trans rfl; have fQ1 := blk_frozen hQ.out 1; have cQ1 := (blk_cell hQ.out 1).trans rfl; have fQ2 := blk_frozen hQ.out 2; have cQ2 := (blk_cell hQ.out 2).trans rfl; have fQ3 := blk_frozen hQ.out 3; have cQ3 := (blk_cell hQ.out 3).trans rfl; have fQ4 := blk_frozen hQ.out 4; have cQ4 := (blk_cell hQ.out 4).trans rfl; have fQ5 := blk_frozen hQ.out 5; have cQ5 := (blk_cell hQ.out 5).trans rfl; have fQ6 := blk_frozen hQ.out 6; have cQ6 := (blk_cell hQ.out 6).trans rfl; have fQ7 := blk_frozen hQ.out 7; have cQ7 := (blk_cell hQ.out 7).trans rfl; have fR0 := blk_frozen hR.out 0; have cR0 := (blk_cell hR.out 0).trans rfl; have fR1 := blk_frozen hR.out 1; have cR1 := (blk_cell hR.out 1).trans rfl; have fP0 := blk_frozen hP.out 0; have cP0 := (blk_cell hP.out 0).trans rfl; have fP1 := blk_frozen hP.out 1; have cP1 := (blk_cell hP.out 1).trans rfl; have fP2 := blk_frozen hP.out 2; have cP2 := (blk_cell hP.out 2).trans rfl; have fP3 := blk_frozen hP.out 3; have cP3 := (blk_cell hP.out 3).trans rfl; have fS0 := blk_frozen hS.out 0; have cS0 := (blk_cell hS.out 0).trans rfl; have fS1 := blk_frozen hS.out 1; have cS1 := (blk_cell hS.out 1).trans rfl; have fS2 := blk_frozen hS.out 2; have cS2 := (blk_cell hS.out 2).trans rfl)
    clear fQ0 cQ0 fQ1 cQ1 fQ2 cQ2 fQ3 cQ3 fQ4 cQ4 fQ5 cQ5 fQ6 cQ6 fQ7 cQ7 fR0 cR0 fR1 cR1 fP0 cP0 fP1 cP1 fP2 cP2 fP3 cP3 fS0 cS0 fS1 cS1 fS2 cS2
    have hQ1 := Aside0.mk (blk_put (blk_put (blk_put (blk_put (blk_put (blk_put (blk_put (blk_put hQ.out 0 (.string v0) (cs' := #[.string v0, .int .i64 (wrap64 v1), .int .i64 (wrap64 v2), .int .i64 (wrap64 v3), .int .i64 (wrap64 v4), .string v5, .string v6, .string v7]) rfl) 1 (.int .i64 (wrap64 v1)) (cs' := #[.string v0, .int .i64 (wrap64 v1), .int .i64 (wrap64 v2), .int .i64 (wrap64 v3), .int .i64 (wrap64 v4), .string v5, .string v6, .string v7]) rfl) 2 (.int .i64 (wrap64 v2)) (cs' := #[.string v0, .int .i64 (wrap64 v1), .int .i64 (wrap64 v2), .int .i64 (wrap64 v3), .int .i64 (wrap64 v4), .string v5, .string v6, .string v7]) rfl) 3 (.int .i64 (wrap64 v3)) (cs' := #[.string v0, .int .i64 (wrap64 v1), .int .i64 (wrap64 v2), .int .i64 (wrap64 v3), .int .i64 (wrap64 v4), .string v5, .string v6, .string v7]) rfl) 4 (.int .i64 (wrap64 v4)) (cs' := #[.string v0, .int .i64 (wrap64 v1), .int .i64 (wrap64 v2), .int .i64 (wrap64 v3), .int .i64 (wrap64 v4), .string v5, .string v6, .string v7]) rfl) 5 (.string v5) (cs' := #[.string v0, .int .i64 (wrap64 v1), .int .i64 (wrap64 v2), .int .i64 (wrap64 v3), .int .i64 (wrap64 v4), .string v5, .string v6, .string v7]) rfl) 6 (.string v6) (cs' := #[.string v0, .int .i64 (wrap64 v1), .int .i64 (wrap64 v2), .int .i64 (wrap64 v3), .int .i64 (wrap64 v4), .string v5, .string v6, .string v7]) rfl) 7 (.string v7) (cs' := #[.string v0, .int .i64 (wrap64 v1), .int .i64 (wrap64 v2), .int .i64 (wrap64 v3), .int .i64 (wrap64 v4), .string v5, .string v6, .string v7]) rfl)
    have hR1 := Aside0.mk (blk_far (blk_far (blk_far (blk_far (blk_far (blk_far (blk_far (blk_far hR.out (p := ⟨B0, 0, none⟩) (Ne.symm gQR) (.string v0)) (p := ⟨B0, 1, none⟩) (Ne.symm gQR) (.int .i64 (wrap64 v1))) (p := ⟨B0, 2, none⟩) (Ne.symm gQR) (.int .i64 (wrap64 v2))) (p := ⟨B0, 3, none⟩) (Ne.symm gQR) (.int .i64 (wrap64 v3))) (p := ⟨B0, 4, none⟩) (Ne.symm gQR) (.int .i64 (wrap64 v4))) (p := ⟨B0, 5, none⟩) (Ne.symm gQR) (.string v5)) (p := ⟨B0, 6, none⟩) (Ne.symm gQR) (.string v6)) (p := ⟨B0, 7, none⟩) (Ne.symm gQR) (.string v7))
    have hP1 := Aside0.mk (blk_far (blk_far (blk_far (blk_far (blk_far (blk_far (blk_far (blk_far hP.out (p := ⟨B0, 0, none⟩) (Ne.symm gQP) (.string v0)) (p := ⟨B0, 1, none⟩) (Ne.symm gQP) (.int .i64 (wrap64 v1))) (p := ⟨B0, 2, none⟩) (Ne.symm gQP) (.int .i64 (wrap64 v2))) (p := ⟨B0, 3, none⟩) (Ne.symm gQP) (.int .i64 (wrap64 v3))) (p := ⟨B0, 4, none⟩) (Ne.symm gQP) (.int .i64 (wrap64 v4))) (p := ⟨B0, 5, none⟩) (Ne.symm gQP) (.string v5)) (p := ⟨B0, 6, none⟩) (Ne.symm gQP) (.string v6)) (p := ⟨B0, 7, none⟩) (Ne.symm gQP) (.string v7))
    have hS1 := Aside0.mk (blk_far (blk_far (blk_far (blk_far (blk_far (blk_far (blk_far (blk_far hS.out (p := ⟨B0, 0, none⟩) (Ne.symm gQS) (.string v0)) (p := ⟨B0, 1, none⟩) (Ne.symm gQS) (.int .i64 (wrap64 v1))) (p := ⟨B0, 2, none⟩) (Ne.symm gQS) (.int .i64 (wrap64 v2))) (p := ⟨B0, 3, none⟩) (Ne.symm gQS) (.int .i64 (wrap64 v3))) (p := ⟨B0, 4, none⟩) (Ne.symm gQS) (.int .i64 (wrap64 v4))) (p := ⟨B0, 5, none⟩) (Ne.symm gQS) (.string v5)) (p := ⟨B0, 6, none⟩) (Ne.symm gQS) (.string v6)) (p := ⟨B0, 7, none⟩) (Ne.symm gQS) (.string v7))
    have HB1 := Aside0.mk (below_set (j := 7) (v := .string v7) (below_set (j := 6) (v := .string v6) (below_set (j := 5) (v := .string v5) (below_set (j := 4) (v := .int .i64 (wrap64 v4)) (below_set (j := 3) (v := .int .i64 (wrap64 v3)) (below_set (j := 2) (v := .int .i64 (wrap64 v2)) (below_set (j := 1) (v := .int .i64 (wrap64 v1)) (below_set (j := 0) (v := .string v0) HB.out GQ.out) GQ.out) GQ.out) GQ.out) GQ.out) GQ.out) GQ.out) GQ.out)
    clear HB hQ hR hP hS
    generalize hW_ : ((((((((w9.setCell ⟨B0, 0, none⟩ (.string v0)).setCell ⟨B0, 1, none⟩ (.int .i64 (wrap64 v1))).setCell ⟨B0, 2, none⟩ (.int .i64 (wrap64 v2))).setCell ⟨B0, 3, none⟩ (.int .i64 (wrap64 v3))).setCell ⟨B0, 4, none⟩ (.int .i64 (wrap64 v4))).setCell ⟨B0, 5, none⟩ (.string v5)).setCell ⟨B0, 6, none⟩ (.string v6)).setCell ⟨B0, 7, none⟩ (.string v7)) = W9 at *
    clear hW_
    have hQ := hQ1
    have hR := hR1
    have hP := hP1
    have hS := hS1
    have HB := HB1
    clear HB1 hQ1 hR1 hP1 hS1
    have d0 := (blk_cell hQ.out 0).trans rfl
    have d1 := (blk_cell hQ.out 1).trans rfl
    have d2 := (blk_cell hQ.out 2).trans rfl
    have d3 := (blk_cell hQ.out 3).trans rfl
    have d4 := (blk_cell hQ.out 4).trans rfl
    have d5 := (blk_cell hQ.out 5).trans rfl
    have d6 := (blk_cell hQ.out 6).trans rfl
    have d7 := (blk_cell hQ.out 7).trans rfl
    refine bodyPost_ret (v := .tuple #[.agg #[.string v0, .int .i64 (wrap64 v1), .int .i64 (wrap64 v2), .int .i64 (wrap64 v3), .int .i64 (wrap64 v4), .string v5, .string v6, .string v7], .int .i64 0]) (by simp [results, Try.results21, go_sem, hu, d0, d1, d2, d3, d4, d5, d6, d7]) rfl ⟨rfl, HB.out⟩
  | false =>
    have h := HH.out
    rw [if_neg (by simp)] at h
    simp only [Option.some.injEq, Prod.mk.injEq] at h
    obtain ⟨rfl, rfl, rfl, rfl, rfl, rfl, rfl, rfl, rfl⟩ := h
    clear HH
    go_wp2_with (go_at_call 38; refine (pack_Reader_Done.calls s7 b7 false _ A8.out).mono ?_; rintro e w9 ⟨rfl, hb⟩; clear fQ0 cQ0 fQ1 cQ1 fQ2 cQ2 fQ3 cQ3 fQ4 cQ4 fQ5 cQ5 fQ6 cQ6 fQ7 cQ7 fR0 cR0 fR1 cR1 fP0 cP0 fP1 cP1 fP2 cP2 fP3 cP3 fS0 cS0 fS1 cS1 fS2 cS2; have hQ1 := Aside0.mk (blk_below hQ.out hb); have hR1 := Aside0.mk (blk_below hR.out hb); have hP1 := Aside0.mk (blk_below hP.out hb); have hS1 := Aside0.mk (blk_below hS.out hb); have HB1 := Aside0.mk (below_step HB.out hb); clear hb; clear HB hQ hR hP hS; have hQ := hQ1; have hR := hR1; have hP := hP1; have hS := hS1; have HB := HB1; clear HB1 hQ1 hR1 hP1 hS1; have fQ0 := blk_frozen hQ.out 0; have cQ0 := (blk_cell hQ.out 0).trans rfl; have fQ1 := blk_frozen hQ.out 1; have cQ1 := (blk_cell hQ.out 1).trans rfl; have fQ2 := blk_frozen hQ.out 2; have cQ2 := (blk_cell hQ.out 2).trans rfl; have fQ3 := blk_frozen hQ.out 3; have cQ3 := (blk_cell hQ.out 3).trans rfl; have fQ4 := blk_frozen hQ.out 4; have cQ4 := (blk_cell hQ.out 4).trans rfl; have fQ5 := blk_frozen hQ.out 5; have cQ5 := (blk_cell hQ.out 5).trans rfl; have fQ6 := blk_frozen hQ.out 6; have cQ6 := (blk_cell hQ.out 6).trans rfl; have fQ7 := blk_frozen hQ.out 7; have cQ7 := (blk_cell hQ.out 7).trans rfl; have fR0 := blk_frozen hR.out 0; have cR0 := (blk_cell hR.out 0).trans rfl; have fR1 := blk_frozen hR.out 1; have cR1 := (blk_cell hR.out 1).trans rfl; have fP0 := blk_frozen hP.out 0; have cP0 := (blk_cell hP.out 0).trans rfl; have fP1 := blk_frozen hP.out 1; have cP1 := (blk_cell hP.out 1).trans rfl; have fP2 := blk_frozen hP.out 2; have cP2 := (blk_cell hP.out 2).trans rfl; have fP3 := blk_frozen hP.out 3; have cP3 := (blk_cell hP.out 3).trans rfl; have fS0 := blk_frozen hS.out 0; have cS0 := (blk_cell hS.out 0).trans rfl; have fS1 := blk_frozen hS.out 1; have cS1 := (blk_cell hS.out 1).trans rfl; have fS2 := blk_frozen hS.out 2; have cS2 := (blk_cell hS.out 2).trans rfl)
    clear fQ0 cQ0 fQ1 cQ1 fQ2 cQ2 fQ3 cQ3 fQ4 cQ4 fQ5 cQ5 fQ6 cQ6 fQ7 cQ7 fR0 cR0 fR1 cR1 fP0 cP0 fP1 cP1 fP2 cP2 fP3 cP3 fS0 cS0 fS1 cS1 fS2 cS2
    have hQ1 := Aside0.mk (blk_put (blk_put (blk_put (blk_put (blk_put (blk_put (blk_put (blk_put hQ.out 0 (.string (⟨#[]⟩ : ByteArray)) (cs' := #[.string (⟨#[]⟩ : ByteArray), .int .i64 (wrap64 v1), .int .i64 (wrap64 v2), .int .i64 (wrap64 v3), .int .i64 (wrap64 v4), .string v5, .string v6, .string v7]) rfl) 1 (.int .i64 0) (cs' := #[.string (⟨#[]⟩ : ByteArray), .int .i64 0, .int .i64 (wrap64 v2), .int .i64 (wrap64 v3), .int .i64 (wrap64 v4), .string v5, .string v6, .string v7]) rfl) 2 (.int .i64 0) (cs' := #[.string (⟨#[]⟩ : ByteArray), .int .i64 0, .int .i64 0, .int .i64 (wrap64 v3), .int .i64 (wrap64 v4), .string v5, .string v6, .string v7]) rfl) 3 (.int .i64 0) (cs' := #[.string (⟨#[]⟩ : ByteArray), .int .i64 0, .int .i64 0, .int .i64 0, .int .i64 (wrap64 v4), .string v5, .string v6, .string v7]) rfl) 4 (.int .i64 0) (cs' := #[.string (⟨#[]⟩ : ByteArray), .int .i64 0, .int .i64 0, .int .i64 0, .int .i64 0, .string v5, .string v6, .string v7]) rfl) 5 (.string (⟨#[]⟩ : ByteArray)) (cs' := #[.string (⟨#[]⟩ : ByteArray), .int .i64 0, .int .i64 0, .int .i64 0, .int .i64 0, .string (⟨#[]⟩ : ByteArray), .string v6, .string v7]) rfl) 6 (.string (⟨#[]⟩ : ByteArray)) (cs' := #[.string (⟨#[]⟩ : ByteArray), .int .i64 0, .int .i64 0, .int .i64 0, .int .i64 0, .string (⟨#[]⟩ : ByteArray), .string (⟨#[]⟩ : ByteArray), .string v7]) rfl) 7 (.string (⟨#[]⟩ : ByteArray)) (cs' := #[.string (⟨#[]⟩ : ByteArray), .int .i64 0, .int .i64 0, .int .i64 0, .int .i64 0, .string (⟨#[]⟩ : ByteArray), .string (⟨#[]⟩ : ByteArray), .string (⟨#[]⟩ : ByteArray)]) rfl)
    have hR1 := Aside0.mk (blk_far (blk_far (blk_far (blk_far (blk_far (blk_far (blk_far (blk_far hR.out (p := ⟨B0, 0, none⟩) (Ne.symm gQR) (.string (⟨#[]⟩ : ByteArray))) (p := ⟨B0, 1, none⟩) (Ne.symm gQR) (.int .i64 0)) (p := ⟨B0, 2, none⟩) (Ne.symm gQR) (.int .i64 0)) (p := ⟨B0, 3, none⟩) (Ne.symm gQR) (.int .i64 0)) (p := ⟨B0, 4, none⟩) (Ne.symm gQR) (.int .i64 0)) (p := ⟨B0, 5, none⟩) (Ne.symm gQR) (.string (⟨#[]⟩ : ByteArray))) (p := ⟨B0, 6, none⟩) (Ne.symm gQR) (.string (⟨#[]⟩ : ByteArray))) (p := ⟨B0, 7, none⟩) (Ne.symm gQR) (.string (⟨#[]⟩ : ByteArray)))
    have hP1 := Aside0.mk (blk_far (blk_far (blk_far (blk_far (blk_far (blk_far (blk_far (blk_far hP.out (p := ⟨B0, 0, none⟩) (Ne.symm gQP) (.string (⟨#[]⟩ : ByteArray))) (p := ⟨B0, 1, none⟩) (Ne.symm gQP) (.int .i64 0)) (p := ⟨B0, 2, none⟩) (Ne.symm gQP) (.int .i64 0)) (p := ⟨B0, 3, none⟩) (Ne.symm gQP) (.int .i64 0)) (p := ⟨B0, 4, none⟩) (Ne.symm gQP) (.int .i64 0)) (p := ⟨B0, 5, none⟩) (Ne.symm gQP) (.string (⟨#[]⟩ : ByteArray))) (p := ⟨B0, 6, none⟩) (Ne.symm gQP) (.string (⟨#[]⟩ : ByteArray))) (p := ⟨B0, 7, none⟩) (Ne.symm gQP) (.string (⟨#[]⟩ : ByteArray)))
    have hS1 := Aside0.mk (blk_far (blk_far (blk_far (blk_far (blk_far (blk_far (blk_far (blk_far hS.out (p := ⟨B0, 0, none⟩) (Ne.symm gQS) (.string (⟨#[]⟩ : ByteArray))) (p := ⟨B0, 1, none⟩) (Ne.symm gQS) (.int .i64 0)) (p := ⟨B0, 2, none⟩) (Ne.symm gQS) (.int .i64 0)) (p := ⟨B0, 3, none⟩) (Ne.symm gQS) (.int .i64 0)) (p := ⟨B0, 4, none⟩) (Ne.symm gQS) (.int .i64 0)) (p := ⟨B0, 5, none⟩) (Ne.symm gQS) (.string (⟨#[]⟩ : ByteArray))) (p := ⟨B0, 6, none⟩) (Ne.symm gQS) (.string (⟨#[]⟩ : ByteArray))) (p := ⟨B0, 7, none⟩) (Ne.symm gQS) (.string (⟨#[]⟩ : ByteArray)))
    have HB1 := Aside0.mk (below_set (j := 7) (v := .string (⟨#[]⟩ : ByteArray)) (below_set (j := 6) (v := .string (⟨#[]⟩ : ByteArray)) (below_set (j := 5) (v := .string (⟨#[]⟩ : ByteArray)) (below_set (j := 4) (v := .int .i64 0) (below_set (j := 3) (v := .int .i64 0) (below_set (j := 2) (v := .int .i64 0) (below_set (j := 1) (v := .int .i64 0) (below_set (j := 0) (v := .string (⟨#[]⟩ : ByteArray)) HB.out GQ.out) GQ.out) GQ.out) GQ.out) GQ.out) GQ.out) GQ.out) GQ.out)
    clear HB hQ hR hP hS
    generalize hW_ : ((((((((w9.setCell ⟨B0, 0, none⟩ (.string (⟨#[]⟩ : ByteArray))).setCell ⟨B0, 1, none⟩ (.int .i64 0)).setCell ⟨B0, 2, none⟩ (.int .i64 0)).setCell ⟨B0, 3, none⟩ (.int .i64 0)).setCell ⟨B0, 4, none⟩ (.int .i64 0)).setCell ⟨B0, 5, none⟩ (.string (⟨#[]⟩ : ByteArray))).setCell ⟨B0, 6, none⟩ (.string (⟨#[]⟩ : ByteArray))).setCell ⟨B0, 7, none⟩ (.string (⟨#[]⟩ : ByteArray))) = W9 at *
    clear hW_
    have hQ := hQ1
    have hR := hR1
    have hP := hP1
    have hS := hS1
    have HB := HB1
    clear HB1 hQ1 hR1 hP1 hS1
    have d0 := (blk_cell hQ.out 0).trans rfl
    have d1 := (blk_cell hQ.out 1).trans rfl
    have d2 := (blk_cell hQ.out 2).trans rfl
    have d3 := (blk_cell hQ.out 3).trans rfl
    have d4 := (blk_cell hQ.out 4).trans rfl
    have d5 := (blk_cell hQ.out 5).trans rfl
    have d6 := (blk_cell hQ.out 6).trans rfl
    have d7 := (blk_cell hQ.out 7).trans rfl
    refine bodyPost_ret (v := .tuple #[.agg #[.string (⟨#[]⟩ : ByteArray), .int .i64 0, .int .i64 0, .int .i64 0, .int .i64 0, .string (⟨#[]⟩ : ByteArray), .string (⟨#[]⟩ : ByteArray), .string (⟨#[]⟩ : ByteArray)], .int .i64 2]) (by simp [results, Try.results21, go_sem, hu, d0, d1, d2, d3, d4, d5, d6, d7]) rfl ⟨rfl, HB.out⟩


end Go.Proofs.Ytplgbkobpanbfaa.Q
