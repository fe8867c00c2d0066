import Derived.Test.YtplgbkobpanbfaaQx0
import Derived.Test.YtplgbkobpanbfaaGGateBounds0
import Derived.Test.YtplgbkobpanbfaaGGateBounds1
namespace Go.Proofs.Ytplgbkobpanbfaa.Q
open Go.RowKit Go.Proofs.YtplgbkobpanbfaaW.PrintWords Go.Proofs.YtplgbkobpanbfaaW.PrintLast Go.Proofs.YtplgbkobpanbfaaW.PrintMore
attribute [local go_sem] max2_int min2_int max_two min_two max_three min_three max_four min_four   -- for this text's walks alone
set_option linter.unusedVariables false
set_option linter.unusedSimpArgs false
attribute [local go_sem] ixA28_0 ixA28_1 ixA28_2 ixA28_3   -- for this text's walks alone
attribute [local go_sem high] eqA28
/-! ### vec_Leq: function 44 -/
def vec_Leq.f (a0_0 : Int) (a0_1 : Int) (a0_2 : Int) (a0_3 : Int) (a1_0 : Int) (a1_1 : Int) (a1_2 : Int) (a1_3 : Int) : Option (Bool) := (vec_Join.f a0_0 a0_1 a0_2 a0_3 a1_0 a1_1 a1_2 a1_3).bind fun bt150 => (some (bt150.1 == a1_0 && (bt150.2.1 == a1_1 && (bt150.2.2.1 == a1_2 && (bt150.2.2.2 == a1_3)))))
set_option maxHeartbeats 8000000 in
set_option maxRecDepth 100000 in
theorem vec_Leq.calls (a0_0 : Int) (a0_1 : Int) (a0_2 : Int) (a0_3 : Int) (a1_0 : Int) (a1_1 : Int) (a1_2 : Int) (a1_3 : Int) (r : Bool) (w : World) (h : vec_Leq.f a0_0 a0_1 a0_2 a0_3 a1_0 a1_1 a1_2 a1_3 = some r) :
    Calls Try.prog 44 #[.agg #[.int .u64 a0_0, .int .u64 a0_1, .int .u64 a0_2, .int .u64 a0_3], .agg #[.int .u64 a1_0, .int .u64 a1_1, .int .u64 a1_2, .int .u64 a1_3]] w fun e w' => e = .returned (.bool r) ∧ Below w.heap.size w w' := by
  have hu28 := Try.underlying28
  have HB := Aside0.mk (Below.refl w.heap.size w)
  have H : ((vec_Join.f a0_0 a0_1 a0_2 a0_3 a1_0 a1_1 a1_2 a1_3).bind fun bt150 => (some (bt150.1 == a1_0 && (bt150.2.1 == a1_1 && (bt150.2.2.1 == a1_2 && (bt150.2.2.2 == a1_3)))))) = some r := h
  clear h
  replace H := Option.bind_eq_some_iff.mp H
  obtain ⟨⟨t150, t151, t152, t153⟩, A30, H⟩ := H
  replace H : (some (t150 == a1_0 && (t151 == a1_1 && (t152 == a1_2 && (t153 == a1_3))))) = some r := H
  have A3 := Aside0.mk A30
  clear A30
  obtain rfl := Option.some.inj H
  go_enter Try.func44, Try.ntmps44
  try go_wp2_with (first | ((with_reducible refine gate_dst (N := 2) rfl ?_); refine box_event ?hg (N := 2) ?hd (cs := #[.int .u64 a0_0, .int .u64 a0_1, .int .u64 a0_2, .int .u64 a0_3]) (t := 28) ?hr ?_; (case hd => rfl); (case hg => rfl); (case hr => first | (go_simp; done) | (go_simp; rfl)); intro gb148 hg w4 hbox hb; have BK148 := Aside0.mk (hbox); have GW148 := Kw_ HB hg; have GE148 := GW148; replace HB := Ks_ HB hb; clear hb hbox hg) | ((with_reducible refine gate_dst (N := 3) rfl ?_); refine box_event ?hg (N := 3) ?hd (cs := #[.int .u64 a1_0, .int .u64 a1_1, .int .u64 a1_2, .int .u64 a1_3]) (t := 28) ?hr ?_; (case hd => rfl); (case hg => rfl); (case hr => first | (go_simp; done) | (go_simp; rfl)); intro gb149 hg w5 hbox hb; have BK149 := Aside0.mk (hbox); have GW149 := Kw_ HB hg; have GE149 := GW149; have NB148_149 := Kl_ BK148 hg; have NB149_148 := Kr_ BK148 hg; replace BK148 := Kb_ BK148 hb; replace HB := Ks_ HB hb; clear hb hbox hg))
  replace BK148 := Kd_ BK148
  replace BK149 := Kd_ BK149
  replace HB := Aside0.mk (below_drew1 HB.out)
  refine start_ (n := 6) (S := fun w' => w'.cell? ⟨gb148, 0, none⟩ = some (.int .u64 a0_0) ∧ w'.cell? ⟨gb148, 1, none⟩ = some (.int .u64 a0_1) ∧ w'.cell? ⟨gb148, 2, none⟩ = some (.int .u64 a0_2) ∧ w'.cell? ⟨gb148, 3, none⟩ = some (.int .u64 a0_3) ∧ w'.cell? ⟨gb149, 0, none⟩ = some (.int .u64 a1_0) ∧ w'.cell? ⟨gb149, 1, none⟩ = some (.int .u64 a1_1) ∧ w'.cell? ⟨gb149, 2, none⟩ = some (.int .u64 a1_2) ∧ w'.cell? ⟨gb149, 3, none⟩ = some (.int .u64 a1_3)) (ds := []) #[false, false, false, false, false, false] (by kernel_rfl) rfl rfl ⟨(blk_cell BK148.out 0).trans rfl, (blk_cell BK148.out 1).trans rfl, (blk_cell BK148.out 2).trans rfl, (blk_cell BK148.out 3).trans rfl, (blk_cell BK149.out 0).trans rfl, (blk_cell BK149.out 1).trans rfl, (blk_cell BK149.out 2).trans rfl, (blk_cell BK149.out 3).trans rfl⟩ (fun hHeld => ?_)
  generalize w5.drew = w6 at BK148 BK149 HB hHeld ⊢
  refine take_ (i := 0) (N := some 5) (v := ?_) (a' := ?_) #[true, false, false, false, false, false] rfl rfl (by kernel_rfl) (fun _ _ _ h => h) (Or.inl ⟨by rfl, ?_⟩) hHeld ?_ ?_
  rotate_left
  · rintro w' ⟨s0, s1, s2, s3, s4, s5, s6, s7⟩
    go_simp
    with_reducible rfl
  rotate_left
  · simp only [Act.put, List.setIfInBounds_toArray, List.set_cons_zero, List.set_cons_succ, i64_w, i32_w]
    rfl
  refine take_ (i := 1) (N := some 6) (v := ?_) (a' := ?_) #[true, true, false, false, false, false] rfl rfl (by kernel_rfl) (fun _ _ _ h => h) (Or.inl ⟨by rfl, ?_⟩) hHeld ?_ ?_
  rotate_left
  · rintro w' ⟨s0, s1, s2, s3, s4, s5, s6, s7⟩
    go_simp
    with_reducible rfl
  rotate_left
  · simp only [Act.put, List.setIfInBounds_toArray, List.set_cons_zero, List.set_cons_succ, i64_w, i32_w]
    rfl
  refine take_ (i := 3) (N := some 8) (v := ?_) (a' := ?_) #[true, true, false, true, false, false] rfl rfl (by kernel_rfl) (fun _ _ _ h => h) (Or.inl ⟨by rfl, ?_⟩) hHeld ?_ ?_
  rotate_left
  · rintro w' ⟨s0, s1, s2, s3, s4, s5, s6, s7⟩
    go_simp
    with_reducible rfl
  rotate_left
  · simp only [Act.put, List.setIfInBounds_toArray, List.set_cons_zero, List.set_cons_succ, i64_w, i32_w]
    rfl
  refine one_ (i := 2) (N := some 7) #[true, true, true, true, false, false] rfl rfl (by kernel_rfl) (by decide) (fun K hK => ?_)
  refine goes_ Try.func55 (by kernel_rfl) rfl #[.agg #[.int .u64 a0_0, .int .u64 a0_1, .int .u64 a0_2, .int .u64 a0_3], .agg #[.int .u64 a1_0, .int .u64 a1_1, .int .u64 a1_2, .int .u64 a1_3]] (by rfl) rfl rfl (by (try simp only [List.map_toArray, List.map_cons, List.map_nil]); first | done | rfl | (simp only [List.length_drop, List.length_take]; rfl)) ?_
  with_reducible refine (vec_Join.calls a0_0 a0_1 a0_2 a0_3 a1_0 a1_1 a1_2 a1_3 t150 t151 t152 t153 _ A3.out).mono ?_
  rintro e w7 ⟨rfl, hb⟩
  refine ⟨_, rfl, ?_⟩
  replace BK148 := Kb_ BK148 hb
  replace BK149 := Kb_ BK149 hb
  replace HB := Ks_ HB hb
  (try clear hb)
  (try clear hb2)
  (try clear hk)
  (try clear hi)
  refine hK.out _ _ ⟨(blk_cell BK148.out 0).trans rfl, (blk_cell BK148.out 1).trans rfl, (blk_cell BK148.out 2).trans rfl, (blk_cell BK148.out 3).trans rfl, (blk_cell BK149.out 0).trans rfl, (blk_cell BK149.out 1).trans rfl, (blk_cell BK149.out 2).trans rfl, (blk_cell BK149.out 3).trans rfl⟩ (fun hHeld => ?_)
  clear hK K
  refine norm_ (a' := ?_) ?_ ?_
  rotate_left
  · show Act.put _ (some 7) _ = _
    simp only [Act.put, List.setIfInBounds_toArray, List.set_cons_zero, List.set_cons_succ, i64_w, i32_w]
    rfl
  refine pure_ (i := 4) (N := some 9) (v := ?_) (a' := ?_) #[true, true, true, true, true, false] rfl rfl (by kernel_rfl) (fun _ _ _ h => h) (Or.inl ⟨by rfl, ?_⟩) ?_ ?_
  rotate_left
  · intro w'
    go_simp
    with_reducible rfl
  rotate_left
  · simp only [Act.put, List.setIfInBounds_toArray, List.set_cons_zero, List.set_cons_succ, i64_w, i32_w]
    rfl
  refine pure_ (i := 5) (N := some 4) (v := ?_) (a' := ?_) #[true, true, true, true, true, true] rfl rfl (by kernel_rfl) (fun _ _ _ h => h) (Or.inl ⟨by rfl, ?_⟩) ?_ ?_
  rotate_left
  · intro w'
    go_simp
    with_reducible rfl
  rotate_left
  · simp only [Act.put, List.setIfInBounds_toArray, List.set_cons_zero, List.set_cons_succ, i64_w, i32_w]
    rfl
  refine done_ (by kernel_rfl) ?_
  try go_wp2
  go_ret
  exact ⟨Kh_, by repeat (first | (with_reducible first | exact HB.out | apply below_alloc | apply pw_below_drewN | apply below_drew1 | refine below_set ?_ GE148.out | refine below_set ?_ GE149.out) | exact HB.out)⟩
/-! ### vec_Right: function 25 -/
def vec_Right.f (a0_0 : Int) (a0_1 : Int) (a0_2 : Int) (a0_3 : Int) : Option (Bool) := (vec_Leq.f a0_0 a0_1 a0_2 a0_3 1152921504606846976 1152921504606846976 1152921504606846976 1152921504606846976).bind fun t155 => (some t155)
set_option maxHeartbeats 8000000 in
set_option maxRecDepth 100000 in
theorem vec_Right.calls (a0_0 : Int) (a0_1 : Int) (a0_2 : Int) (a0_3 : Int) (r : Bool) (w : World) (h : vec_Right.f a0_0 a0_1 a0_2 a0_3 = some r) :
    Calls Try.prog 25 #[.agg #[.int .u64 a0_0, .int .u64 a0_1, .int .u64 a0_2, .int .u64 a0_3]] w fun e w' => e = .returned (.bool r) ∧ Below w.heap.size w w' := by
  have hu28 := Try.underlying28
  have HB := Aside0.mk (Below.refl w.heap.size w)
  have H : ((vec_Leq.f a0_0 a0_1 a0_2 a0_3 1152921504606846976 1152921504606846976 1152921504606846976 1152921504606846976).bind fun t155 => (some t155)) = some r := h
  clear h
  replace H := Option.bind_eq_some_iff.mp H
  obtain ⟨t155, A20, H⟩ := H
  replace H : (some t155) = some r := H
  have A2 := Aside0.mk A20
  clear A20
  obtain rfl := Option.some.inj H
  go_enter Try.func25, Try.ntmps25
  go_wp2_with (first | ((with_reducible refine gate_dst (N := 1) rfl ?_); refine box_event ?hg (N := 1) ?hd (cs := #[.int .u64 a0_0, .int .u64 a0_1, .int .u64 a0_2, .int .u64 a0_3]) (t := 28) ?hr ?_; (case hd => rfl); (case hg => rfl); (case hr => first | (go_simp; done) | (go_simp; rfl)); intro gb154 hg w3 hbox hb; have BK154 := Aside0.mk (hbox); have GW154 := Kw_ HB hg; have GE154 := GW154; replace HB := Ks_ HB hb; clear hb hbox hg; obtain ⟨hcz4_0, hcz4_1, hcz4_2, hcz4_3, hfz4_0, hfz4_1, hfz4_2, hfz4_3⟩ := Ke4_ BK154.out) | ((with_reducible refine gate_callee (f := 44) rfl ?_); refine Kg_ (some 5) rfl rfl Try.func44 (by kernel_rfl) rfl #[.agg #[.int .u64 a0_0, .int .u64 a0_1, .int .u64 a0_2, .int .u64 a0_3], .agg #[.int .u64 1152921504606846976, .int .u64 1152921504606846976, .int .u64 1152921504606846976, .int .u64 1152921504606846976]] rfl ?_; (with_reducible refine (vec_Leq.calls a0_0 a0_1 a0_2 a0_3 1152921504606846976 1152921504606846976 1152921504606846976 1152921504606846976 t155 _ A2.out).mono ?_); rintro e w5 ⟨rfl, hb⟩; refine ⟨_, rfl, ?_⟩; replace BK154 := Kb_ BK154 hb; replace HB := Ks_ HB hb; (try clear hb); (try clear hb2); (try clear hk); (try clear hi)))
  go_ret
  exact ⟨Kh_, Kz_ HB GE154⟩
/-! ### vec_Get: function 42 -/
-- FOREIGN: an array filled place by place by a reader that is turned
def vec_Get.f (k : Nat) (a0_0 : ByteArray) (a0_1 : Bool) : Option (Int × Int × Int × Int × ByteArray × Bool) :=
  (pack_Reader_Vary.f k a0_0 a0_1).bind fun r0 => (pack_Reader_Vary.f k r0.2.1 r0.2.2).bind fun r1 => (pack_Reader_Vary.f k r1.2.1 r1.2.2).bind fun r2 => (pack_Reader_Vary.f k r2.2.1 r2.2.2).bind fun r3 =>
    if r3.2.2 = true then some (0, 0, 0, 0, (⟨#[]⟩ : ByteArray), true) else (vec_Right.f r0.1 r1.1 r2.1 r3.1).bind fun t => if t = true then some (r0.1, r1.1, r2.1, r3.1, r3.2.1, false) else some (0, 0, 0, 0, (⟨#[]⟩ : ByteArray), true)
theorem vec_Get.mono : ∀ a0 a1 k, LeO (vec_Get.f k a0 a1) (vec_Get.f (k + 1) a0 a1) := by
  intro a0 a1 k
  unfold vec_Get.f
  repeat' first
      | exact pack_Reader_Vary.mono _ _ _
      | exact LeO.refl _
      | exact LeO.none _
      | refine LeO.ite ?_ ?_
      | refine LeO.bind ?_ (fun _ => ?_)
theorem vec_Get.boxes3 (w : World) (xs ys zs : Array Value) (t1 t2 t3 : TypeId) (W : World) (h : ((w.alloc (.cells xs t1)).alloc (.cells ys t2)).alloc (.cells zs t3) = W) :
    W.heap[w.heap.size]? = some (.cells xs t1 (0,0)) ∧ W.heap[w.heap.size+1]? = some (.cells ys t2 (0,0)) ∧ W.heap[w.heap.size+1+1]? = some (.cells zs t3 (0,0)) ∧ Below w.heap.size w W := by
  subst h
  have s1 : (w.alloc (.cells xs t1)).heap.size = w.heap.size + 1 := by simp [World.alloc, -World.alloc_eq]
  have s2 : ((w.alloc (.cells xs t1)).alloc (.cells ys t2)).heap.size = w.heap.size + 1 + 1 := by simp [World.alloc, -World.alloc_eq]
  refine ⟨blk_alloc (blk_alloc (blk_new _ _) _) _, ?_, ?_, below_alloc (below_alloc (below_alloc (Below.refl _ _) _) _) _⟩
  · rw [← s1]; exact blk_alloc (blk_new _ _) _
  · rw [← s2]; exact blk_new _ _
set_option maxHeartbeats 8000000 in
set_option maxRecDepth 100000 in
theorem vec_Get.calls (k : Nat) (a0_0 : ByteArray) (a0_1 : Bool) (r1 r2 r3 r4 : Int) (r5 : ByteArray) (r6 : Bool) (w : World) (h : vec_Get.f k a0_0 a0_1 = some (r1, r2, r3, r4, r5, r6)) :
    Calls Try.prog 42 #[.agg #[.string a0_0, .bool a0_1]] w fun e w' => e = .returned (.tuple #[.agg #[.int .u64 r1, .int .u64 r2, .int .u64 r3, .int .u64 r4], .agg #[.string r5, .bool r6]]) ∧ Below w.heap.size w w' := by
  unfold vec_Get.f at h
  obtain ⟨⟨n0, s1, b1⟩, A0, h⟩ := Option.bind_eq_some_iff.1 h
  obtain ⟨⟨n1, s2, b2⟩, A1, h⟩ := Option.bind_eq_some_iff.1 h
  obtain ⟨⟨n2, s3, b3⟩, A2, h⟩ := Option.bind_eq_some_iff.1 h
  obtain ⟨⟨n3, s4, b4⟩, A3, h⟩ := Option.bind_eq_some_iff.1 h
  replace A0 := Aside0.mk A0
  replace A1 := Aside0.mk A1
  replace A2 := Aside0.mk A2
  replace A3 := Aside0.mk A3
  simp only at h
  have HH := Aside0.mk h
  clear h
  have hu := Try.underlying28
  have hu2 := Try.underlying26
  have hu3 := Try.underlying81
  go_enter Try.func42, Try.ntmps42
  go_wp2
  generalize hW : (((w.alloc (Obj.cells #[.string a0_0, .bool a0_1] 81)).alloc (Obj.cells _ 28)).alloc (Obj.cells _ 81)) = W0
  obtain ⟨hA, hB, hC, HB⟩ := vec_Get.boxes3 _ _ _ _ _ _ _ _ hW
  replace HB := Aside0.mk HB
  clear hW
  obtain ⟨B0, hB0⟩ : ∃ B0, B0 = w.heap.size := ⟨_, rfl⟩
  obtain ⟨B1, hB1⟩ : ∃ B1, B1 = w.heap.size + 1 := ⟨_, rfl⟩
  obtain ⟨B2, hB2⟩ : ∃ B2, B2 = w.heap.size + 1 + 1 := ⟨_, rfl⟩
  rw [← hB2, ← hB1, ← hB0]
  rw [← hB0] at hA
  rw [← hB1] at hB
  rw [← hB2] at hC
  have g01 : B0 ≠ B1 := by omega
  have g02 : B0 ≠ B2 := by omega
  have g12 : B1 ≠ B2 := by omega
  have GA := Aside0.mk (show w.heap.size ≤ B0 by omega)
  have GB := Aside0.mk (show w.heap.size ≤ B1 by omega)
  have GC := Aside0.mk (show w.heap.size ≤ B2 by omega)
  clear hB0 hB1 hB2
  replace hA := Aside0.mk hA
  replace hB := Aside0.mk hB
  replace hC := Aside0.mk hC
  refine wp_loop_rounds 5 ?_
  rw [rounds_succ]
  have ca0 := (blk_cell hA.out 0).trans rfl
  have ca1 := (blk_cell hA.out 1).trans rfl
  go_wp2_with (go_at_call 51; refine (pack_Reader_Vary.calls k a0_0 a0_1 n0 s1 b1 _ A0.out).mono ?_; rintro e w1 ⟨rfl, hb⟩; clear ca0 ca1; have hA1 := Aside0.mk (blk_below hA.out hb); have hB1 := Aside0.mk (blk_below hB.out hb); have hC1 := Aside0.mk (blk_below hC.out hb); have HB1 := Aside0.mk (below_step HB.out hb); clear hA hB hC HB; clear hb; have fa0 := blk_frozen hA1.out 0; have fa1 := blk_frozen hA1.out 1; have ca0 := (blk_cell hA1.out 0).trans rfl; have ca1 := (blk_cell hA1.out 1).trans rfl; have fb := blk_frozen hB1.out 0; have cb := (blk_cell hB1.out 0).trans rfl)
  clear ca0 ca1 cb fa0 fa1 fb
  have hA := Aside0.mk (blk_put (blk_put (blk_far hA1.out (p := ⟨B1, 0, none⟩) g01 (.int .u64 n0)) 0 (.string s1) rfl) 1 (.bool b1) (cs' := #[.string s1, .bool b1]) rfl)
  have hB := Aside0.mk (blk_far (blk_far (blk_put hB1.out 0 (.int .u64 n0) (cs' := #[.int .u64 n0, .int .u64 0, .int .u64 0, .int .u64 0]) rfl) (p := ⟨B0, 0, none⟩) (Ne.symm g01) (.string s1)) (p := ⟨B0, 1, none⟩) (Ne.symm g01) (.bool b1))
  have hC := Aside0.mk (blk_far (blk_far (blk_far hC1.out (p := ⟨B1, 0, none⟩) (Ne.symm g12) (.int .u64 n0)) (p := ⟨B0, 0, none⟩) (Ne.symm g02) (.string s1)) (p := ⟨B0, 1, none⟩) (Ne.symm g02) (.bool b1))
  have HB := Aside0.mk (below_set (j := 1) (v := .bool b1) (below_set (j := 0) (v := .string s1) (below_set (j := 0) (v := .int .u64 n0) HB1.out GB.out) GA.out) GA.out)
  clear hA1 hB1 hC1 HB1
  generalize ((w1.setCell ⟨B1, 0, none⟩ (.int .u64 n0)).setCell ⟨B0, 0, none⟩ (.string s1)).setCell ⟨B0, 1, none⟩ (.bool b1) = W1 at *
  clear w1 W0
  rw [rounds_succ]
  have ca0 := (blk_cell hA.out 0).trans rfl
  have ca1 := (blk_cell hA.out 1).trans rfl
  go_wp2_with (go_at_call 51; refine (pack_Reader_Vary.calls k s1 b1 n1 s2 b2 _ A1.out).mono ?_; rintro e w1 ⟨rfl, hb⟩; clear ca0 ca1; have hA1 := Aside0.mk (blk_below hA.out hb); have hB1 := Aside0.mk (blk_below hB.out hb); have hC1 := Aside0.mk (blk_below hC.out hb); have HB1 := Aside0.mk (below_step HB.out hb); clear hA hB hC HB; clear hb; have fa0 := blk_frozen hA1.out 0; have fa1 := blk_frozen hA1.out 1; have ca0 := (blk_cell hA1.out 0).trans rfl; have ca1 := (blk_cell hA1.out 1).trans rfl; have fb := blk_frozen hB1.out 1; have cb := (blk_cell hB1.out 1).trans rfl)
  clear ca0 ca1 cb fa0 fa1 fb
  have hA := Aside0.mk (blk_put (blk_put (blk_far hA1.out (p := ⟨B1, 1, none⟩) g01 (.int .u64 n1)) 0 (.string s2) rfl) 1 (.bool b2) (cs' := #[.string s2, .bool b2]) rfl)
  have hB := Aside0.mk (blk_far (blk_far (blk_put hB1.out 1 (.int .u64 n1) (cs' := #[.int .u64 n0, .int .u64 n1, .int .u64 0, .int .u64 0]) rfl) (p := ⟨B0, 0, none⟩) (Ne.symm g01) (.string s2)) (p := ⟨B0, 1, none⟩) (Ne.symm g01) (.bool b2))
  have hC := Aside0.mk (blk_far (blk_far (blk_far hC1.out (p := ⟨B1, 1, none⟩) (Ne.symm g12) (.int .u64 n1)) (p := ⟨B0, 0, none⟩) (Ne.symm g02) (.string s2)) (p := ⟨B0, 1, none⟩) (Ne.symm g02) (.bool b2))
  have HB := Aside0.mk (below_set (j := 1) (v := .bool b2) (below_set (j := 0) (v := .string s2) (below_set (j := 1) (v := .int .u64 n1) HB1.out GB.out) GA.out) GA.out)
  clear hA1 hB1 hC1 HB1
  generalize ((w1.setCell ⟨B1, 1, none⟩ (.int .u64 n1)).setCell ⟨B0, 0, none⟩ (.string s2)).setCell ⟨B0, 1, none⟩ (.bool b2) = W2 at *
  clear w1 W1
  rw [rounds_succ]
  have ca0 := (blk_cell hA.out 0).trans rfl
  have ca1 := (blk_cell hA.out 1).trans rfl
  go_wp2_with (go_at_call 51; refine (pack_Reader_Vary.calls k s2 b2 n2 s3 b3 _ A2.out).mono ?_; rintro e w1 ⟨rfl, hb⟩; clear ca0 ca1; have hA1 := Aside0.mk (blk_below hA.out hb); have hB1 := Aside0.mk (blk_below hB.out hb); have hC1 := Aside0.mk (blk_below hC.out hb); have HB1 := Aside0.mk (below_step HB.out hb); clear hA hB hC HB; clear hb; have fa0 := blk_frozen hA1.out 0; have fa1 := blk_frozen hA1.out 1; have ca0 := (blk_cell hA1.out 0).trans rfl; have ca1 := (blk_cell hA1.out 1).trans rfl; have fb := blk_frozen hB1.out 2; have cb := (blk_cell hB1.out 2).trans rfl)
  clear ca0 ca1 cb fa0 fa1 fb
  have hA := Aside0.mk (blk_put (blk_put (blk_far hA1.out (p := ⟨B1, 2, none⟩) g01 (.int .u64 n2)) 0 (.string s3) rfl) 1 (.bool b3) (cs' := #[.string s3, .bool b3]) rfl)
  have hB := Aside0.mk (blk_far (blk_far (blk_put hB1.out 2 (.int .u64 n2) (cs' := #[.int .u64 n0, .int .u64 n1, .int .u64 n2, .int .u64 0]) rfl) (p := ⟨B0, 0, none⟩) (Ne.symm g01) (.string s3)) (p := ⟨B0, 1, none⟩) (Ne.symm g01) (.bool b3))
  have hC := Aside0.mk (blk_far (blk_far (blk_far hC1.out (p := ⟨B1, 2, none⟩) (Ne.symm g12) (.int .u64 n2)) (p := ⟨B0, 0, none⟩) (Ne.symm g02) (.string s3)) (p := ⟨B0, 1, none⟩) (Ne.symm g02) (.bool b3))
  have HB := Aside0.mk (below_set (j := 1) (v := .bool b3) (below_set (j := 0) (v := .string s3) (below_set (j := 2) (v := .int .u64 n2) HB1.out GB.out) GA.out) GA.out)
  clear hA1 hB1 hC1 HB1
  generalize ((w1.setCell ⟨B1, 2, none⟩ (.int .u64 n2)).setCell ⟨B0, 0, none⟩ (.string s3)).setCell ⟨B0, 1, none⟩ (.bool b3) = W3 at *
  clear w1 W2
  rw [rounds_succ]
  have ca0 := (blk_cell hA.out 0).trans rfl
  have ca1 := (blk_cell hA.out 1).trans rfl
  go_wp2_with (go_at_call 51; refine (pack_Reader_Vary.calls k s3 b3 n3 s4 b4 _ A3.out).mono ?_; rintro e w1 ⟨rfl, hb⟩; clear ca0 ca1; have hA1 := Aside0.mk (blk_below hA.out hb); have hB1 := Aside0.mk (blk_below hB.out hb); have hC1 := Aside0.mk (blk_below hC.out hb); have HB1 := Aside0.mk (below_step HB.out hb); clear hA hB hC HB; clear hb; have fa0 := blk_frozen hA1.out 0; have fa1 := blk_frozen hA1.out 1; have ca0 := (blk_cell hA1.out 0).trans rfl; have ca1 := (blk_cell hA1.out 1).trans rfl; have fb := blk_frozen hB1.out 3; have cb := (blk_cell hB1.out 3).trans rfl)
  clear ca0 ca1 cb fa0 fa1 fb
  have hA := Aside0.mk (blk_put (blk_put (blk_far hA1.out (p := ⟨B1, 3, none⟩) g01 (.int .u64 n3)) 0 (.string s4) rfl) 1 (.bool b4) (cs' := #[.string s4, .bool b4]) rfl)
  have hB := Aside0.mk (blk_far (blk_far (blk_put hB1.out 3 (.int .u64 n3) (cs' := #[.int .u64 n0, .int .u64 n1, .int .u64 n2, .int .u64 n3]) rfl) (p := ⟨B0, 0, none⟩) (Ne.symm g01) (.string s4)) (p := ⟨B0, 1, none⟩) (Ne.symm g01) (.bool b4))
  have hC := Aside0.mk (blk_far (blk_far (blk_far hC1.out (p := ⟨B1, 3, none⟩) (Ne.symm g12) (.int .u64 n3)) (p := ⟨B0, 0, none⟩) (Ne.symm g02) (.string s4)) (p := ⟨B0, 1, none⟩) (Ne.symm g02) (.bool b4))
  have HB := Aside0.mk (below_set (j := 1) (v := .bool b4) (below_set (j := 0) (v := .string s4) (below_set (j := 3) (v := .int .u64 n3) HB1.out GB.out) GA.out) GA.out)
  clear hA1 hB1 hC1 HB1
  generalize ((w1.setCell ⟨B1, 3, none⟩ (.int .u64 n3)).setCell ⟨B0, 0, none⟩ (.string s4)).setCell ⟨B0, 1, none⟩ (.bool b4) = W4 at *
  clear w1 W3
  rw [rounds_succ]
  have fb0 := blk_frozen hB.out 0
  have fb1 := blk_frozen hB.out 1
  have fb2 := blk_frozen hB.out 2
  have fb3 := blk_frozen hB.out 3
  have cb0 := (blk_cell hB.out 0).trans rfl
  have cb1 := (blk_cell hB.out 1).trans rfl
  have cb2 := (blk_cell hB.out 2).trans rfl
  have cb3 := (blk_cell hB.out 3).trans rfl
  have fc0 := blk_frozen hC.out 0
  have fc1 := blk_frozen hC.out 1
  have cc0 := (blk_cell hC.out 0).trans rfl
  have cc1 := (blk_cell hC.out 1).trans rfl
  have ca0 := (blk_cell hA.out 0).trans rfl
  have ca1 := (blk_cell hA.out 1).trans rfl
  cases b4 with
  | true =>
    have h := HH.out
    rw [if_pos rfl] at h
    simp only [Option.some.injEq, Prod.mk.injEq] at h
    obtain ⟨rfl, rfl, rfl, rfl, rfl, rfl⟩ := h
    clear HH
    go_wp2
    clear fb0 fb1 fb2 fb3 cb0 cb1 cb2 cb3 fc0 fc1 cc0 cc1 ca0 ca1
    have hB1 := Aside0.mk (blk_far (blk_far (blk_put (blk_put (blk_put (blk_put hB.out 0 (.int .u64 0) rfl) 1 (.int .u64 0) rfl) 2 (.int .u64 0) rfl) 3 (.int .u64 0) (cs' := #[.int .u64 0, .int .u64 0, .int .u64 0, .int .u64 0]) rfl) (p := ⟨B2, 0, none⟩) g12 (.string (⟨#[]⟩ : ByteArray))) (p := ⟨B2, 1, none⟩) g12 (.bool true))
    have hC1 := Aside0.mk (blk_put (blk_put (blk_far (blk_far (blk_far (blk_far hC.out (p := ⟨B1, 0, none⟩) (Ne.symm g12) (.int .u64 0)) (p := ⟨B1, 1, none⟩) (Ne.symm g12) (.int .u64 0)) (p := ⟨B1, 2, none⟩) (Ne.symm g12) (.int .u64 0)) (p := ⟨B1, 3, none⟩) (Ne.symm g12) (.int .u64 0)) 0 (.string (⟨#[]⟩ : ByteArray)) rfl) 1 (.bool true) (cs' := #[.string (⟨#[]⟩ : ByteArray), .bool true]) rfl)
    have HB1 := Aside0.mk (below_set (j := 1) (v := .bool true) (below_set (j := 0) (v := .string (⟨#[]⟩ : ByteArray)) (below_set (j := 3) (v := .int .u64 0) (below_set (j := 2) (v := .int .u64 0) (below_set (j := 1) (v := .int .u64 0) (below_set (j := 0) (v := .int .u64 0) HB.out GB.out) GB.out) GB.out) GB.out) GC.out) GC.out)
    clear hA hB hC HB
    generalize ((((((W4.setCell ⟨B1, 0, none⟩ (.int .u64 0)).setCell ⟨B1, 1, none⟩ (.int .u64 0)).setCell ⟨B1, 2, none⟩ (.int .u64 0)).setCell ⟨B1, 3, none⟩ (.int .u64 0)).setCell ⟨B2, 0, none⟩ (.string (⟨#[]⟩ : ByteArray))).setCell ⟨B2, 1, none⟩ (.bool true)) = W9 at *
    have d0 := (blk_cell hB1.out 0).trans rfl
    have d1 := (blk_cell hB1.out 1).trans rfl
    have d2 := (blk_cell hB1.out 2).trans rfl
    have d3 := (blk_cell hB1.out 3).trans rfl
    have d4 := (blk_cell hC1.out 0).trans rfl
    have d5 := (blk_cell hC1.out 1).trans rfl
    refine bodyPost_ret (v := .tuple #[.agg #[.int .u64 0, .int .u64 0, .int .u64 0, .int .u64 0], .agg #[.string (⟨#[]⟩ : ByteArray), .bool true]]) (by simp [results, Try.results42, go_sem, hu, hu2, hu3, d0, d1, d2, d3, d4, d5]) rfl ⟨rfl, HB1.out⟩
  | false =>
    have h := HH.out
    rw [if_neg (by simp)] at h
    obtain ⟨t, A4, h⟩ := Option.bind_eq_some_iff.1 h
    replace A4 := Aside0.mk A4
    clear HH
    cases t with
    | false =>
      rw [if_neg (by simp)] at h
      simp only [Option.some.injEq, Prod.mk.injEq] at h
      obtain ⟨rfl, rfl, rfl, rfl, rfl, rfl⟩ := h
      go_wp2_with (go_at_call 25; refine (vec_Right.calls n0 n1 n2 n3 false _ A4.out).mono ?_; rintro e w1 ⟨rfl, hb⟩; clear fb0 fb1 fb2 fb3 cb0 cb1 cb2 cb3 fc0 fc1 cc0 cc1 ca0 ca1; have hA1 := Aside0.mk (blk_below hA.out hb); have hB1 := Aside0.mk (blk_below hB.out hb); have hC1 := Aside0.mk (blk_below hC.out hb); have HB1 := Aside0.mk (below_step HB.out hb); clear hA hB hC HB; clear hb; have hA := hA1; have hB := hB1; have hC := hC1; have HB := HB1; clear hA1 hB1 hC1 HB1; have fb0 := blk_frozen hB.out 0; have fb1 := blk_frozen hB.out 1; have fb2 := blk_frozen hB.out 2; have fb3 := blk_frozen hB.out 3; have cb0 := (blk_cell hB.out 0).trans rfl; have cb1 := (blk_cell hB.out 1).trans rfl; have cb2 := (blk_cell hB.out 2).trans rfl; have cb3 := (blk_cell hB.out 3).trans rfl; have fc0 := blk_frozen hC.out 0; have fc1 := blk_frozen hC.out 1; have cc0 := (blk_cell hC.out 0).trans rfl; have cc1 := (blk_cell hC.out 1).trans rfl; have ca0 := (blk_cell hA.out 0).trans rfl; have ca1 := (blk_cell hA.out 1).trans rfl)
      clear fb0 fb1 fb2 fb3 cb0 cb1 cb2 cb3 fc0 fc1 cc0 cc1 ca0 ca1
      have hB1 := Aside0.mk (blk_far (blk_far (blk_put (blk_put (blk_put (blk_put hB.out 0 (.int .u64 0) rfl) 1 (.int .u64 0) rfl) 2 (.int .u64 0) rfl) 3 (.int .u64 0) (cs' := #[.int .u64 0, .int .u64 0, .int .u64 0, .int .u64 0]) rfl) (p := ⟨B2, 0, none⟩) g12 (.string (⟨#[]⟩ : ByteArray))) (p := ⟨B2, 1, none⟩) g12 (.bool true))
      have hC1 := Aside0.mk (blk_put (blk_put (blk_far (blk_far (blk_far (blk_far hC.out (p := ⟨B1, 0, none⟩) (Ne.symm g12) (.int .u64 0)) (p := ⟨B1, 1, none⟩) (Ne.symm g12) (.int .u64 0)) (p := ⟨B1, 2, none⟩) (Ne.symm g12) (.int .u64 0)) (p := ⟨B1, 3, none⟩) (Ne.symm g12) (.int .u64 0)) 0 (.string (⟨#[]⟩ : ByteArray)) rfl) 1 (.bool true) (cs' := #[.string (⟨#[]⟩ : ByteArray), .bool true]) rfl)
      have HB1 := Aside0.mk (below_set (j := 1) (v := .bool true) (below_set (j := 0) (v := .string (⟨#[]⟩ : ByteArray)) (below_set (j := 3) (v := .int .u64 0) (below_set (j := 2) (v := .int .u64 0) (below_set (j := 1) (v := .int .u64 0) (below_set (j := 0) (v := .int .u64 0) HB.out GB.out) GB.out) GB.out) GB.out) GC.out) GC.out)
      clear hA hB hC HB
      generalize ((((((w1.setCell ⟨B1, 0, none⟩ (.int .u64 0)).setCell ⟨B1, 1, none⟩ (.int .u64 0)).setCell ⟨B1, 2, none⟩ (.int .u64 0)).setCell ⟨B1, 3, none⟩ (.int .u64 0)).setCell ⟨B2, 0, none⟩ (.string (⟨#[]⟩ : ByteArray))).setCell ⟨B2, 1, none⟩ (.bool true)) = W9 at *
      have d0 := (blk_cell hB1.out 0).trans rfl
      have d1 := (blk_cell hB1.out 1).trans rfl
      have d2 := (blk_cell hB1.out 2).trans rfl
      have d3 := (blk_cell hB1.out 3).trans rfl
      have d4 := (blk_cell hC1.out 0).trans rfl
      have d5 := (blk_cell hC1.out 1).trans rfl
      refine bodyPost_ret (v := .tuple #[.agg #[.int .u64 0, .int .u64 0, .int .u64 0, .int .u64 0], .agg #[.string (⟨#[]⟩ : ByteArray), .bool true]]) (by simp [results, Try.results42, go_sem, hu, hu2, hu3, d0, d1, d2, d3, d4, d5]) rfl ⟨rfl, HB1.out⟩
    | true =>
      rw [if_pos rfl] at h
      simp only [Option.some.injEq, Prod.mk.injEq] at h
      obtain ⟨rfl, rfl, rfl, rfl, rfl, rfl⟩ := h
      go_wp2_with (go_at_call 25; refine (vec_Right.calls n0 n1 n2 n3 true _ A4.out).mono ?_; rintro e w1 ⟨rfl, hb⟩; clear fb0 fb1 fb2 fb3 cb0 cb1 cb2 cb3 fc0 fc1 cc0 cc1 ca0 ca1; have hA1 := Aside0.mk (blk_below hA.out hb); have hB1 := Aside0.mk (blk_below hB.out hb); have hC1 := Aside0.mk (blk_below hC.out hb); have HB1 := Aside0.mk (below_step HB.out hb); clear hA hB hC HB; clear hb; have hA := hA1; have hB := hB1; have hC := hC1; have HB := HB1; clear hA1 hB1 hC1 HB1; have fb0 := blk_frozen hB.out 0; have fb1 := blk_frozen hB.out 1; have fb2 := blk_frozen hB.out 2; have fb3 := blk_frozen hB.out 3; have cb0 := (blk_cell hB.out 0).trans rfl; have cb1 := (blk_cell hB.out 1).trans rfl; have cb2 := (blk_cell hB.out 2).trans rfl; have cb3 := (blk_cell hB.out 3).trans rfl; have fc0 := blk_frozen hC.out 0; have fc1 := blk_frozen hC.out 1; have cc0 := (blk_cell hC.out 0).trans rfl; have cc1 := (blk_cell hC.out 1).trans rfl; have ca0 := (blk_cell hA.out 0).trans rfl; have ca1 := (blk_cell hA.out 1).trans rfl)
      go_region
      go_wp2
      clear fb0 fb1 fb2 fb3 cb0 cb1 cb2 cb3 fc0 fc1 cc0 cc1 ca0 ca1
      have hB1 := Aside0.mk (blk_drew (blk_far (blk_far (blk_put (blk_put (blk_put (blk_put hB.out 0 (.int .u64 n0) rfl) 1 (.int .u64 n1) rfl) 2 (.int .u64 n2) rfl) 3 (.int .u64 n3) (cs' := #[.int .u64 n0, .int .u64 n1, .int .u64 n2, .int .u64 n3]) rfl) (p := ⟨B2, 0, none⟩) g12 (.string s4)) (p := ⟨B2, 1, none⟩) g12 (.bool false)))
      have hC1 := Aside0.mk (blk_drew (blk_put (blk_put (blk_far (blk_far (blk_far (blk_far hC.out (p := ⟨B1, 0, none⟩) (Ne.symm g12) (.int .u64 n0)) (p := ⟨B1, 1, none⟩) (Ne.symm g12) (.int .u64 n1)) (p := ⟨B1, 2, none⟩) (Ne.symm g12) (.int .u64 n2)) (p := ⟨B1, 3, none⟩) (Ne.symm g12) (.int .u64 n3)) 0 (.string s4) rfl) 1 (.bool false) (cs' := #[.string s4, .bool false]) rfl))
      have HB1 := Aside0.mk (below_drew1 (below_set (j := 1) (v := .bool false) (below_set (j := 0) (v := .string s4) (below_set (j := 3) (v := .int .u64 n3) (below_set (j := 2) (v := .int .u64 n2) (below_set (j := 1) (v := .int .u64 n1) (below_set (j := 0) (v := .int .u64 n0) HB.out GB.out) GB.out) GB.out) GB.out) GC.out) GC.out))
      clear hA hB hC HB
      generalize ((((((w1.setCell ⟨B1, 0, none⟩ (.int .u64 n0)).setCell ⟨B1, 1, none⟩ (.int .u64 n1)).setCell ⟨B1, 2, none⟩ (.int .u64 n2)).setCell ⟨B1, 3, none⟩ (.int .u64 n3)).setCell ⟨B2, 0, none⟩ (.string s4)).setCell ⟨B2, 1, none⟩ (.bool false)).drew = W9 at *
      have d0 := (blk_cell hB1.out 0).trans rfl
      have d1 := (blk_cell hB1.out 1).trans rfl
      have d2 := (blk_cell hB1.out 2).trans rfl
      have d3 := (blk_cell hB1.out 3).trans rfl
      have d4 := (blk_cell hC1.out 0).trans rfl
      have d5 := (blk_cell hC1.out 1).trans rfl
      refine bodyPost_ret (v := .tuple #[.agg #[.int .u64 n0, .int .u64 n1, .int .u64 n2, .int .u64 n3], .agg #[.string s4, .bool false]]) (by simp [results, Try.results42, go_sem, hu, hu2, hu3, d0, d1, d2, d3, d4, d5]) rfl ⟨rfl, HB1.out⟩
/-! ### gate_Read: function 23 -/
def gate_Read.f (k : Nat) (a0 : ByteArray) : Option (Int × ByteArray × Bool × Int × Int × Int × Int × Bool) := (pack_Reader_Number.f a0 false 1).bind fun bt157 => ((pack_Reader_Number.f bt157.2.1 bt157.2.2 1).bind fun bt161 => ((pack_Reader_Text.f k bt161.2.1 bt161.2.2 64).bind fun bt164 => ((vec_Get.f k bt164.2.1 bt164.2.2).bind fun bt167 => ((pack_Reader_Done.f bt167.2.2.2.2.1 bt167.2.2.2.2.2).bind fun t173 => (if t173 = true then (if bt161.1 > 1 then (some (0, (⟨#[]⟩ : ByteArray), false, 0, 0, 0, 0, false)) else (some (wrap64 (bt157.1), bt164.1, (bt161.1 == 1), bt167.1, bt167.2.1, bt167.2.2.1, bt167.2.2.2.1, true))) else (some (0, (⟨#[]⟩ : ByteArray), false, 0, 0, 0, 0, false)))))))
theorem gate_Read.mono : ∀ a0 k, LeO (gate_Read.f k a0) (gate_Read.f (k + 1) a0) := by
  intro a0 k
  unfold gate_Read.f
  repeat' first
      | (with_reducible exact pack_Reader_Text.mono _ _ _ _)
      | (with_reducible exact vec_Get.mono _ _ _)
      | (with_reducible exact LeO.refl _)
      | (with_reducible exact LeO.none _)
      | (with_reducible refine LeO.ite ?_ ?_)
      | (with_reducible refine LeO.bind ?_ (fun _ => ?_))
      | exact pack_Reader_Text.mono _ _ _ _
      | exact vec_Get.mono _ _ _
      | exact LeO.none _
      | refine LeO.ite ?_ ?_
      | refine LeO.bind ?_ (fun _ => ?_)
set_option maxHeartbeats 8000000 in
set_option maxRecDepth 100000 in
theorem gate_Read.calls (k : Nat) (a0 : ByteArray) (r1 : Int) (r2 : ByteArray) (r3 : Bool) (r4 : Int) (r5 : Int) (r6 : Int) (r7 : Int) (r8 : Bool) (w : World) (h : gate_Read.f k a0 = some (r1, r2, r3, r4, r5, r6, r7, r8)) :
    Calls Try.prog 23 #[.string a0] w fun e w' => e = .returned (.tuple #[.agg #[.int .i64 r1, .string r2, .bool r3, .int .u64 r4, .int .u64 r5, .int .u64 r6, .int .u64 r7], .bool r8]) ∧ Below w.heap.size w w' := by
  have hu41 := Try.underlying41
  have hu81 := Try.underlying81
  have hu28 := Try.underlying28
  have HB := Aside0.mk (Below.refl w.heap.size w)
  have H : ((pack_Reader_Number.f a0 false 1).bind fun bt157 => ((pack_Reader_Number.f bt157.2.1 bt157.2.2 1).bind fun bt161 => ((pack_Reader_Text.f k bt161.2.1 bt161.2.2 64).bind fun bt164 => ((vec_Get.f k bt164.2.1 bt164.2.2).bind fun bt167 => ((pack_Reader_Done.f bt167.2.2.2.2.1 bt167.2.2.2.2.2).bind fun t173 => (if t173 = true then (if bt161.1 > 1 then (some (0, (⟨#[]⟩ : ByteArray), false, 0, 0, 0, 0, false)) else (some (wrap64 (bt157.1), bt164.1, (bt161.1 == 1), bt167.1, bt167.2.1, bt167.2.2.1, bt167.2.2.2.1, true))) else (some (0, (⟨#[]⟩ : ByteArray), false, 0, 0, 0, 0, false)))))))) = some (r1, r2, r3, r4, r5, r6, r7, r8) := h
  clear h
  replace H := Option.bind_eq_some_iff.mp H
  obtain ⟨⟨t157, t158, t159⟩, A20, H⟩ := H
  replace H : ((pack_Reader_Number.f t158 t159 1).bind fun bt161 => ((pack_Reader_Text.f k bt161.2.1 bt161.2.2 64).bind fun bt164 => ((vec_Get.f k bt164.2.1 bt164.2.2).bind fun bt167 => ((pack_Reader_Done.f bt167.2.2.2.2.1 bt167.2.2.2.2.2).bind fun t173 => (if t173 = true then (if bt161.1 > 1 then (some (0, (⟨#[]⟩ : ByteArray), false, 0, 0, 0, 0, false)) else (some (wrap64 (t157), bt164.1, (bt161.1 == 1), bt167.1, bt167.2.1, bt167.2.2.1, bt167.2.2.2.1, true))) else (some (0, (⟨#[]⟩ : ByteArray), false, 0, 0, 0, 0, false))))))) = some (r1, r2, r3, r4, r5, r6, r7, r8) := H
  have A2 := Aside0.mk A20
  clear A20
  replace H := Option.bind_eq_some_iff.mp H
  obtain ⟨⟨t161, t162, t163⟩, A30, H⟩ := H
  replace H : ((pack_Reader_Text.f k t162 t163 64).bind fun bt164 => ((vec_Get.f k bt164.2.1 bt164.2.2).bind fun bt167 => ((pack_Reader_Done.f bt167.2.2.2.2.1 bt167.2.2.2.2.2).bind fun t173 => (if t173 = true then (if t161 > 1 then (some (0, (⟨#[]⟩ : ByteArray), false, 0, 0, 0, 0, false)) else (some (wrap64 (t157), bt164.1, (t161 == 1), bt167.1, bt167.2.1, bt167.2.2.1, bt167.2.2.2.1, true))) else (some (0, (⟨#[]⟩ : ByteArray), false, 0, 0, 0, 0, false)))))) = some (r1, r2, r3, r4, r5, r6, r7, r8) := H
  have A3 := Aside0.mk A30
  clear A30
  replace H := Option.bind_eq_some_iff.mp H
  obtain ⟨⟨t164, t165, t166⟩, A40, H⟩ := H
  replace H : ((vec_Get.f k t165 t166).bind fun bt167 => ((pack_Reader_Done.f bt167.2.2.2.2.1 bt167.2.2.2.2.2).bind fun t173 => (if t173 = true then (if t161 > 1 then (some (0, (⟨#[]⟩ : ByteArray), false, 0, 0, 0, 0, false)) else (some (wrap64 (t157), t164, (t161 == 1), bt167.1, bt167.2.1, bt167.2.2.1, bt167.2.2.2.1, true))) else (some (0, (⟨#[]⟩ : ByteArray), false, 0, 0, 0, 0, false))))) = some (r1, r2, r3, r4, r5, r6, r7, r8) := H
  have A4 := Aside0.mk A40
  clear A40
  replace H := Option.bind_eq_some_iff.mp H
  obtain ⟨⟨t167, t168, t169, t170, t171, t172⟩, A50, H⟩ := H
  replace H : ((pack_Reader_Done.f t171 t172).bind fun t173 => (if t173 = true then (if t161 > 1 then (some (0, (⟨#[]⟩ : ByteArray), false, 0, 0, 0, 0, false)) else (some (wrap64 (t157), t164, (t161 == 1), t167, t168, t169, t170, true))) else (some (0, (⟨#[]⟩ : ByteArray), false, 0, 0, 0, 0, false)))) = some (r1, r2, r3, r4, r5, r6, r7, r8) := H
  have A5 := Aside0.mk A50
  clear A50
  replace H := Option.bind_eq_some_iff.mp H
  obtain ⟨t173, A60, H⟩ := H
  replace H : (if t173 = true then (if t161 > 1 then (some (0, (⟨#[]⟩ : ByteArray), false, 0, 0, 0, 0, false)) else (some (wrap64 (t157), t164, (t161 == 1), t167, t168, t169, t170, true))) else (some (0, (⟨#[]⟩ : ByteArray), false, 0, 0, 0, 0, false))) = some (r1, r2, r3, r4, r5, r6, r7, r8) := H
  have A6 := Aside0.mk A60
  clear A60
  by_cases c7 : t173 = true
  rotate_left
  · replace c7 := Bool.eq_false_iff.mpr c7
    subst c7
    have H1 : (some (0, (⟨#[]⟩ : ByteArray), false, 0, 0, 0, 0, false)) = some (r1, r2, r3, r4, r5, r6, r7, r8) := by rw [if_neg (show ¬ (false = true) by decide)] at H; exact H
    clear H
    have H := H1
    clear H1
    simp only [Option.some.injEq, Prod.mk.injEq] at H
    obtain ⟨rfl, rfl, rfl, rfl, rfl, rfl, rfl, rfl⟩ := H
    go_enter Try.func23, Try.ntmps23
    go_wp2_with (first | ((with_reducible refine gate_dst (N := 2) rfl ?_); refine box_event ?hg (N := 2) ?hd (cs := #[.int .i64 0, .string (⟨#[]⟩ : ByteArray), .bool false, .int .u64 0, .int .u64 0, .int .u64 0, .int .u64 0]) (t := 41) ?hr ?_; (case hd => rfl); (case hg => rfl); (case hr => first | (go_simp; done) | (go_simp; rfl)); intro gb156 hg w39 hbox hb; have BK156 := Aside0.mk (hbox); have GW156 := Kw_ HB hg; have GE156 := GW156; replace HB := Ks_ HB hb; clear hb hbox hg) | ((with_reducible refine gate_callee (f := 37) rfl ?_); refine Kg_ (some 10) rfl rfl Try.func37 (by kernel_rfl) rfl #[.agg #[.string a0, .bool false], .int .i64 1] rfl ?_; (with_reducible refine (pack_Reader_Number.calls a0 false 1 t157 t158 t159 _ A2.out).mono ?_); rintro e w40 ⟨rfl, hb⟩; refine ⟨_, rfl, ?_⟩; replace BK156 := Kb_ BK156 hb; replace HB := Ks_ HB hb; (try clear hb); (try clear hb2); (try clear hk); (try clear hi)) | ((with_reducible refine gate_dst (N := 5) rfl ?_); refine box_event ?hg (N := 5) ?hd (cs := #[.string (⟨#[]⟩ : ByteArray), .bool false]) (t := 81) ?hr ?_; (case hd => rfl); (case hg => rfl); (case hr => first | (go_simp; done) | (go_simp; rfl)); intro gb160 hg w41 hbox hb; have BK160 := Aside0.mk (hbox); have GW160 := Kw_ HB hg; have GE160 := GW160; have NB156_160 := Kl_ BK156 hg; have NB160_156 := Kr_ BK156 hg; replace BK156 := Kb_ BK156 hb; replace HB := Ks_ HB hb; clear hb hbox hg; have hnb42 := NB160_156.out; have hnc42 := NB156_160.out; obtain ⟨hcz43_0, hcz43_1, hfz43_0, hfz43_1⟩ := Ke2_ BK160.out) | ((with_reducible refine gate_callee (f := 37) rfl ?_); refine Kg_ (some 15) rfl rfl Try.func37 (by kernel_rfl) rfl #[.agg #[.string t158, .bool t159], .int .i64 1] rfl ?_; (with_reducible refine (pack_Reader_Number.calls t158 t159 1 t161 t162 t163 _ A3.out).mono ?_); rintro e w44 ⟨rfl, hb⟩; refine ⟨_, rfl, ?_⟩; replace BK156 := Kf_ BK156 NB156_160 hb; replace BK160 := Aside0.mk (blk_below (g := gb160) (o := .cells #[.string t158, .bool t159] 81 (0, 0)) (by refine Kv_ ?_; refine blk_put (cs := #[.string t158, .bool false]) ?_ 1 _ rfl; refine Kv_ ?_; refine blk_put (cs := #[.string (⟨#[]⟩ : ByteArray), .bool false]) ?_ 0 _ rfl; exact Kq_ BK160) hb); replace HB := Kt_ HB GE160 hb; (try clear hb); (try clear hb2); (try clear hk); (try clear hi); obtain ⟨hcz45_0, hcz45_1, hfz45_0, hfz45_1⟩ := Ke2_ BK160.out) | ((with_reducible refine gate_callee (f := 36) rfl ?_); refine Kg_ (some 20) rfl rfl Try.func36 (by kernel_rfl) rfl #[.agg #[.string t162, .bool t163], .int .i64 64] rfl ?_; (with_reducible refine (pack_Reader_Text.calls k t162 t163 64 t164 t165 t166 _ A4.out).mono ?_); rintro e w46 ⟨rfl, hb⟩; refine ⟨_, rfl, ?_⟩; replace BK156 := Kf_ BK156 NB156_160 hb; replace BK160 := Aside0.mk (blk_below (g := gb160) (o := .cells #[.string t162, .bool t163] 81 (0, 0)) (by refine Kv_ ?_; refine blk_put (cs := #[.string t162, .bool t159]) ?_ 1 _ rfl; refine Kv_ ?_; refine blk_put (cs := #[.string t158, .bool t159]) ?_ 0 _ rfl; exact Kq_ BK160) hb); replace HB := Kt_ HB GE160 hb; (try clear hb); (try clear hb2); (try clear hk); (try clear hi); obtain ⟨hcz47_0, hcz47_1, hcz47_2, hcz47_3, hcz47_4, hcz47_5, hcz47_6, hfz47_0, hfz47_1, hfz47_2, hfz47_3, hfz47_4, hfz47_5, hfz47_6⟩ := Ke7_ BK156.out; obtain ⟨hcz48_0, hcz48_1, hfz48_0, hfz48_1⟩ := Ke2_ BK160.out) | ((with_reducible refine gate_callee (f := 42) rfl ?_); refine Kg_ (some 26) rfl rfl Try.func42 (by kernel_rfl) rfl #[.agg #[.string t165, .bool t166]] rfl ?_; (with_reducible refine (vec_Get.calls k t165 t166 t167 t168 t169 t170 t171 t172 _ A5.out).mono ?_); rintro e w49 ⟨rfl, hb⟩; refine ⟨_, rfl, ?_⟩; replace BK156 := Aside0.mk (blk_below (g := gb156) (o := .cells #[.int .i64 0, .string t164, .bool false, .int .u64 0, .int .u64 0, .int .u64 0, .int .u64 0] 41 (0, 0)) (by (repeat (first | (with_reducible first | refine blk_drewN ?_ _ | refine blk_drew ?_ | refine blk_alloc ?_ _) | refine blk_far ?_ NB156_160.out _)); refine blk_put (cs := #[.int .i64 0, .string (⟨#[]⟩ : ByteArray), .bool false, .int .u64 0, .int .u64 0, .int .u64 0, .int .u64 0]) ?_ 1 _ rfl; exact Kq_ BK156) hb); replace BK160 := Aside0.mk (blk_below (g := gb160) (o := .cells #[.string t165, .bool t166] 81 (0, 0)) (by refine Kv_ ?_; refine blk_put (cs := #[.string t165, .bool t163]) ?_ 1 _ rfl; refine Kv_ ?_; refine blk_put (cs := #[.string t162, .bool t163]) ?_ 0 _ rfl; (repeat (first | (with_reducible first | refine blk_drewN ?_ _ | refine blk_drew ?_ | refine blk_alloc ?_ _) | refine blk_far ?_ NB160_156.out _)); exact BK160.out) hb); replace HB := Aside0.mk (below_step (by repeat (first | (with_reducible first | exact HB.out | apply below_alloc | apply pw_below_drewN | apply below_drew1 | refine below_set ?_ GE156.out | refine below_set ?_ GE160.out) | exact HB.out)) hb); (try clear hb); (try clear hb2); (try clear hk); (try clear hi); obtain ⟨hcz50_0, hcz50_1, hcz50_2, hcz50_3, hcz50_4, hcz50_5, hcz50_6, hfz50_0, hfz50_1, hfz50_2, hfz50_3, hfz50_4, hfz50_5, hfz50_6⟩ := Ke7_ BK156.out; obtain ⟨hcz51_0, hcz51_1, hfz51_0, hfz51_1⟩ := Ke2_ BK160.out) | ((with_reducible refine gate_callee (f := 38) rfl ?_); refine Kg_ (some 37) rfl rfl Try.func38 (by kernel_rfl) rfl #[.agg #[.string t171, .bool t172]] rfl ?_; (with_reducible refine (pack_Reader_Done.calls t171 t172 false _ A6.out).mono ?_); rintro e w52 ⟨rfl, hb⟩; refine ⟨_, rfl, ?_⟩; replace BK156 := Aside0.mk (blk_below (g := gb156) (o := .cells #[.int .i64 (wrap64 (t157)), .string t164, .bool (t161 == 1), .int .u64 t167, .int .u64 t168, .int .u64 t169, .int .u64 t170] 41 (0, 0)) (by refine Kv_ ?_; refine blk_put (cs := #[.int .i64 (wrap64 (t157)), .string t164, .bool false, .int .u64 t167, .int .u64 t168, .int .u64 t169, .int .u64 t170]) ?_ 2 _ rfl; refine Kv_ ?_; refine blk_put (cs := #[.int .i64 0, .string t164, .bool false, .int .u64 t167, .int .u64 t168, .int .u64 t169, .int .u64 t170]) ?_ 0 _ rfl; (repeat (first | (with_reducible first | refine blk_drewN ?_ _ | refine blk_drew ?_ | refine blk_alloc ?_ _) | refine blk_far ?_ NB156_160.out _)); refine blk_put (cs := #[.int .i64 0, .string t164, .bool false, .int .u64 t167, .int .u64 t168, .int .u64 t169, .int .u64 0]) ?_ 6 _ rfl; refine Kv_ ?_; refine blk_put (cs := #[.int .i64 0, .string t164, .bool false, .int .u64 t167, .int .u64 t168, .int .u64 0, .int .u64 0]) ?_ 5 _ rfl; refine Kv_ ?_; refine blk_put (cs := #[.int .i64 0, .string t164, .bool false, .int .u64 t167, .int .u64 0, .int .u64 0, .int .u64 0]) ?_ 4 _ rfl; refine Kv_ ?_; refine blk_put (cs := #[.int .i64 0, .string t164, .bool false, .int .u64 0, .int .u64 0, .int .u64 0, .int .u64 0]) ?_ 3 _ rfl; exact Kq_ BK156) hb); replace BK160 := Aside0.mk (blk_below (g := gb160) (o := .cells #[.string t171, .bool t172] 81 (0, 0)) (by (repeat (first | (with_reducible first | refine blk_drewN ?_ _ | refine blk_drew ?_ | refine blk_alloc ?_ _) | refine blk_far ?_ NB160_156.out _)); refine blk_put (cs := #[.string t171, .bool t166]) ?_ 1 _ rfl; refine Kv_ ?_; refine blk_put (cs := #[.string t165, .bool t166]) ?_ 0 _ rfl; (repeat (first | (with_reducible first | refine blk_drewN ?_ _ | refine blk_drew ?_ | refine blk_alloc ?_ _) | refine blk_far ?_ NB160_156.out _)); exact BK160.out) hb); replace HB := Aside0.mk (below_step (by repeat (first | (with_reducible first | exact HB.out | apply below_alloc | apply pw_below_drewN | apply below_drew1 | refine below_set ?_ GE156.out | refine below_set ?_ GE160.out) | exact HB.out)) hb); (try clear hb); (try clear hb2); (try clear hk); (try clear hi); obtain ⟨hcz53_0, hcz53_1, hcz53_2, hcz53_3, hcz53_4, hcz53_5, hcz53_6, hfz53_0, hfz53_1, hfz53_2, hfz53_3, hfz53_4, hfz53_5, hfz53_6⟩ := Ke7_ BK156.out))
    refine bodyPost_ret (results_ct rfl _ _ gb156 41 #[.int .i64 0, .string (⟨#[]⟩ : ByteArray), .bool false, .int .u64 0, .int .u64 0, .int .u64 0, .int .u64 0] (0, 0) _ rfl (by refine Kv_ ?_; refine blk_put (cs := #[.int .i64 0, .string (⟨#[]⟩ : ByteArray), .bool false, .int .u64 0, .int .u64 0, .int .u64 0, .int .u64 t170]) ?_ 6 _ rfl; refine Kv_ ?_; refine blk_put (cs := #[.int .i64 0, .string (⟨#[]⟩ : ByteArray), .bool false, .int .u64 0, .int .u64 0, .int .u64 t169, .int .u64 t170]) ?_ 5 _ rfl; refine Kv_ ?_; refine blk_put (cs := #[.int .i64 0, .string (⟨#[]⟩ : ByteArray), .bool false, .int .u64 0, .int .u64 t168, .int .u64 t169, .int .u64 t170]) ?_ 4 _ rfl; refine Kv_ ?_; refine blk_put (cs := #[.int .i64 0, .string (⟨#[]⟩ : ByteArray), .bool false, .int .u64 t167, .int .u64 t168, .int .u64 t169, .int .u64 t170]) ?_ 3 _ rfl; refine Kv_ ?_; refine blk_put (cs := #[.int .i64 0, .string (⟨#[]⟩ : ByteArray), .bool (t161 == 1), .int .u64 t167, .int .u64 t168, .int .u64 t169, .int .u64 t170]) ?_ 2 _ rfl; refine Kv_ ?_; refine blk_put (cs := #[.int .i64 0, .string t164, .bool (t161 == 1), .int .u64 t167, .int .u64 t168, .int .u64 t169, .int .u64 t170]) ?_ 1 _ rfl; refine Kv_ ?_; refine blk_put (cs := #[.int .i64 (wrap64 (t157)), .string t164, .bool (t161 == 1), .int .u64 t167, .int .u64 t168, .int .u64 t169, .int .u64 t170]) ?_ 0 _ rfl; exact Kq_ BK156) Try.underlying41 rfl (by kernel_rfl)) rfl ?_
    exact ⟨Kh_, by repeat (first | (with_reducible first | exact HB.out | apply below_alloc | apply pw_below_drewN | apply below_drew1 | refine below_set ?_ GE156.out | refine below_set ?_ GE160.out) | exact HB.out)⟩
  subst c7
  have H1 : (if t161 > 1 then (some (0, (⟨#[]⟩ : ByteArray), false, 0, 0, 0, 0, false)) else (some (wrap64 (t157), t164, (t161 == 1), t167, t168, t169, t170, true))) = some (r1, r2, r3, r4, r5, r6, r7, r8) := by rw [if_pos rfl] at H; exact H
  clear H
  have H := H1
  clear H1
  by_cases c8 : t161 > 1
  · rw [if_pos c8] at H
    have c8b0 : decide (1 < t161) = true := decide_eq_true c8
    clear c8
    simp only [Option.some.injEq, Prod.mk.injEq] at H
    obtain ⟨rfl, rfl, rfl, rfl, rfl, rfl, rfl, rfl⟩ := H
    go_enter Try.func23, Try.ntmps23
    go_wp2_with (first | ((with_reducible refine gate_dst (N := 2) rfl ?_); refine box_event ?hg (N := 2) ?hd (cs := #[.int .i64 0, .string (⟨#[]⟩ : ByteArray), .bool false, .int .u64 0, .int .u64 0, .int .u64 0, .int .u64 0]) (t := 41) ?hr ?_; (case hd => rfl); (case hg => rfl); (case hr => first | (go_simp; done) | (go_simp; rfl)); intro gb156 hg w9 hbox hb; have BK156 := Aside0.mk (hbox); have GW156 := Kw_ HB hg; have GE156 := GW156; replace HB := Ks_ HB hb; clear hb hbox hg) | ((with_reducible refine gate_callee (f := 37) rfl ?_); refine Kg_ (some 10) rfl rfl Try.func37 (by kernel_rfl) rfl #[.agg #[.string a0, .bool false], .int .i64 1] rfl ?_; (with_reducible refine (pack_Reader_Number.calls a0 false 1 t157 t158 t159 _ A2.out).mono ?_); rintro e w10 ⟨rfl, hb⟩; refine ⟨_, rfl, ?_⟩; replace BK156 := Kb_ BK156 hb; replace HB := Ks_ HB hb; (try clear hb); (try clear hb2); (try clear hk); (try clear hi)) | ((with_reducible refine gate_dst (N := 5) rfl ?_); refine box_event ?hg (N := 5) ?hd (cs := #[.string (⟨#[]⟩ : ByteArray), .bool false]) (t := 81) ?hr ?_; (case hd => rfl); (case hg => rfl); (case hr => first | (go_simp; done) | (go_simp; rfl)); intro gb160 hg w11 hbox hb; have BK160 := Aside0.mk (hbox); have GW160 := Kw_ HB hg; have GE160 := GW160; have NB156_160 := Kl_ BK156 hg; have NB160_156 := Kr_ BK156 hg; replace BK156 := Kb_ BK156 hb; replace HB := Ks_ HB hb; clear hb hbox hg; have hnb12 := NB160_156.out; have hnc12 := NB156_160.out; obtain ⟨hcz13_0, hcz13_1, hfz13_0, hfz13_1⟩ := Ke2_ BK160.out) | ((with_reducible refine gate_callee (f := 37) rfl ?_); refine Kg_ (some 15) rfl rfl Try.func37 (by kernel_rfl) rfl #[.agg #[.string t158, .bool t159], .int .i64 1] rfl ?_; (with_reducible refine (pack_Reader_Number.calls t158 t159 1 t161 t162 t163 _ A3.out).mono ?_); rintro e w14 ⟨rfl, hb⟩; refine ⟨_, rfl, ?_⟩; replace BK156 := Kf_ BK156 NB156_160 hb; replace BK160 := Aside0.mk (blk_below (g := gb160) (o := .cells #[.string t158, .bool t159] 81 (0, 0)) (by refine Kv_ ?_; refine blk_put (cs := #[.string t158, .bool false]) ?_ 1 _ rfl; refine Kv_ ?_; refine blk_put (cs := #[.string (⟨#[]⟩ : ByteArray), .bool false]) ?_ 0 _ rfl; exact Kq_ BK160) hb); replace HB := Kt_ HB GE160 hb; (try clear hb); (try clear hb2); (try clear hk); (try clear hi); obtain ⟨hcz15_0, hcz15_1, hfz15_0, hfz15_1⟩ := Ke2_ BK160.out) | ((with_reducible refine gate_callee (f := 36) rfl ?_); refine Kg_ (some 20) rfl rfl Try.func36 (by kernel_rfl) rfl #[.agg #[.string t162, .bool t163], .int .i64 64] rfl ?_; (with_reducible refine (pack_Reader_Text.calls k t162 t163 64 t164 t165 t166 _ A4.out).mono ?_); rintro e w16 ⟨rfl, hb⟩; refine ⟨_, rfl, ?_⟩; replace BK156 := Kf_ BK156 NB156_160 hb; replace BK160 := Aside0.mk (blk_below (g := gb160) (o := .cells #[.string t162, .bool t163] 81 (0, 0)) (by refine Kv_ ?_; refine blk_put (cs := #[.string t162, .bool t159]) ?_ 1 _ rfl; refine Kv_ ?_; refine blk_put (cs := #[.string t158, .bool t159]) ?_ 0 _ rfl; exact Kq_ BK160) hb); replace HB := Kt_ HB GE160 hb; (try clear hb); (try clear hb2); (try clear hk); (try clear hi); obtain ⟨hcz17_0, hcz17_1, hcz17_2, hcz17_3, hcz17_4, hcz17_5, hcz17_6, hfz17_0, hfz17_1, hfz17_2, hfz17_3, hfz17_4, hfz17_5, hfz17_6⟩ := Ke7_ BK156.out; obtain ⟨hcz18_0, hcz18_1, hfz18_0, hfz18_1⟩ := Ke2_ BK160.out) | ((with_reducible refine gate_callee (f := 42) rfl ?_); refine Kg_ (some 26) rfl rfl Try.func42 (by kernel_rfl) rfl #[.agg #[.string t165, .bool t166]] rfl ?_; (with_reducible refine (vec_Get.calls k t165 t166 t167 t168 t169 t170 t171 t172 _ A5.out).mono ?_); rintro e w19 ⟨rfl, hb⟩; refine ⟨_, rfl, ?_⟩; replace BK156 := Aside0.mk (blk_below (g := gb156) (o := .cells #[.int .i64 0, .string t164, .bool false, .int .u64 0, .int .u64 0, .int .u64 0, .int .u64 0] 41 (0, 0)) (by (repeat (first | (with_reducible first | refine blk_drewN ?_ _ | refine blk_drew ?_ | refine blk_alloc ?_ _) | refine blk_far ?_ NB156_160.out _)); refine blk_put (cs := #[.int .i64 0, .string (⟨#[]⟩ : ByteArray), .bool false, .int .u64 0, .int .u64 0, .int .u64 0, .int .u64 0]) ?_ 1 _ rfl; exact Kq_ BK156) hb); replace BK160 := Aside0.mk (blk_below (g := gb160) (o := .cells #[.string t165, .bool t166] 81 (0, 0)) (by refine Kv_ ?_; refine blk_put (cs := #[.string t165, .bool t163]) ?_ 1 _ rfl; refine Kv_ ?_; refine blk_put (cs := #[.string t162, .bool t163]) ?_ 0 _ rfl; (repeat (first | (with_reducible first | refine blk_drewN ?_ _ | refine blk_drew ?_ | refine blk_alloc ?_ _) | refine blk_far ?_ NB160_156.out _)); exact BK160.out) hb); replace HB := Aside0.mk (below_step (by repeat (first | (with_reducible first | exact HB.out | apply below_alloc | apply pw_below_drewN | apply below_drew1 | refine below_set ?_ GE156.out | refine below_set ?_ GE160.out) | exact HB.out)) hb); (try clear hb); (try clear hb2); (try clear hk); (try clear hi); obtain ⟨hcz20_0, hcz20_1, hcz20_2, hcz20_3, hcz20_4, hcz20_5, hcz20_6, hfz20_0, hfz20_1, hfz20_2, hfz20_3, hfz20_4, hfz20_5, hfz20_6⟩ := Ke7_ BK156.out; obtain ⟨hcz21_0, hcz21_1, hfz21_0, hfz21_1⟩ := Ke2_ BK160.out) | ((with_reducible refine gate_callee (f := 38) rfl ?_); refine Kg_ (some 37) rfl rfl Try.func38 (by kernel_rfl) rfl #[.agg #[.string t171, .bool t172]] rfl ?_; (with_reducible refine (pack_Reader_Done.calls t171 t172 true _ A6.out).mono ?_); rintro e w22 ⟨rfl, hb⟩; refine ⟨_, rfl, ?_⟩; replace BK156 := Aside0.mk (blk_below (g := gb156) (o := .cells #[.int .i64 (wrap64 (t157)), .string t164, .bool (t161 == 1), .int .u64 t167, .int .u64 t168, .int .u64 t169, .int .u64 t170] 41 (0, 0)) (by refine Kv_ ?_; refine blk_put (cs := #[.int .i64 (wrap64 (t157)), .string t164, .bool false, .int .u64 t167, .int .u64 t168, .int .u64 t169, .int .u64 t170]) ?_ 2 _ rfl; refine Kv_ ?_; refine blk_put (cs := #[.int .i64 0, .string t164, .bool false, .int .u64 t167, .int .u64 t168, .int .u64 t169, .int .u64 t170]) ?_ 0 _ rfl; (repeat (first | (with_reducible first | refine blk_drewN ?_ _ | refine blk_drew ?_ | refine blk_alloc ?_ _) | refine blk_far ?_ NB156_160.out _)); refine blk_put (cs := #[.int .i64 0, .string t164, .bool false, .int .u64 t167, .int .u64 t168, .int .u64 t169, .int .u64 0]) ?_ 6 _ rfl; refine Kv_ ?_; refine blk_put (cs := #[.int .i64 0, .string t164, .bool false, .int .u64 t167, .int .u64 t168, .int .u64 0, .int .u64 0]) ?_ 5 _ rfl; refine Kv_ ?_; refine blk_put (cs := #[.int .i64 0, .string t164, .bool false, .int .u64 t167, .int .u64 0, .int .u64 0, .int .u64 0]) ?_ 4 _ rfl; refine Kv_ ?_; refine blk_put (cs := #[.int .i64 0, .string t164, .bool false, .int .u64 0, .int .u64 0, .int .u64 0, .int .u64 0]) ?_ 3 _ rfl; exact Kq_ BK156) hb); replace BK160 := Aside0.mk (blk_below (g := gb160) (o := .cells #[.string t171, .bool t172] 81 (0, 0)) (by (repeat (first | (with_reducible first | refine blk_drewN ?_ _ | refine blk_drew ?_ | refine blk_alloc ?_ _) | refine blk_far ?_ NB160_156.out _)); refine blk_put (cs := #[.string t171, .bool t166]) ?_ 1 _ rfl; refine Kv_ ?_; refine blk_put (cs := #[.string t165, .bool t166]) ?_ 0 _ rfl; (repeat (first | (with_reducible first | refine blk_drewN ?_ _ | refine blk_drew ?_ | refine blk_alloc ?_ _) | refine blk_far ?_ NB160_156.out _)); exact BK160.out) hb); replace HB := Aside0.mk (below_step (by repeat (first | (with_reducible first | exact HB.out | apply below_alloc | apply pw_below_drewN | apply below_drew1 | refine below_set ?_ GE156.out | refine below_set ?_ GE160.out) | exact HB.out)) hb); (try clear hb); (try clear hb2); (try clear hk); (try clear hi); obtain ⟨hcz23_0, hcz23_1, hcz23_2, hcz23_3, hcz23_4, hcz23_5, hcz23_6, hfz23_0, hfz23_1, hfz23_2, hfz23_3, hfz23_4, hfz23_5, hfz23_6⟩ := Ke7_ BK156.out))
    refine bodyPost_ret (results_ct rfl _ _ gb156 41 #[.int .i64 0, .string (⟨#[]⟩ : ByteArray), .bool false, .int .u64 0, .int .u64 0, .int .u64 0, .int .u64 0] (0, 0) _ rfl (by refine Kv_ ?_; refine blk_put (cs := #[.int .i64 0, .string (⟨#[]⟩ : ByteArray), .bool false, .int .u64 0, .int .u64 0, .int .u64 0, .int .u64 t170]) ?_ 6 _ rfl; refine Kv_ ?_; refine blk_put (cs := #[.int .i64 0, .string (⟨#[]⟩ : ByteArray), .bool false, .int .u64 0, .int .u64 0, .int .u64 t169, .int .u64 t170]) ?_ 5 _ rfl; refine Kv_ ?_; refine blk_put (cs := #[.int .i64 0, .string (⟨#[]⟩ : ByteArray), .bool false, .int .u64 0, .int .u64 t168, .int .u64 t169, .int .u64 t170]) ?_ 4 _ rfl; refine Kv_ ?_; refine blk_put (cs := #[.int .i64 0, .string (⟨#[]⟩ : ByteArray), .bool false, .int .u64 t167, .int .u64 t168, .int .u64 t169, .int .u64 t170]) ?_ 3 _ rfl; refine Kv_ ?_; refine blk_put (cs := #[.int .i64 0, .string (⟨#[]⟩ : ByteArray), .bool (t161 == 1), .int .u64 t167, .int .u64 t168, .int .u64 t169, .int .u64 t170]) ?_ 2 _ rfl; refine Kv_ ?_; refine blk_put (cs := #[.int .i64 0, .string t164, .bool (t161 == 1), .int .u64 t167, .int .u64 t168, .int .u64 t169, .int .u64 t170]) ?_ 1 _ rfl; refine Kv_ ?_; refine blk_put (cs := #[.int .i64 (wrap64 (t157)), .string t164, .bool (t161 == 1), .int .u64 t167, .int .u64 t168, .int .u64 t169, .int .u64 t170]) ?_ 0 _ rfl; exact Kq_ BK156) Try.underlying41 rfl (by kernel_rfl)) rfl ?_
    exact ⟨Kh_, by repeat (first | (with_reducible first | exact HB.out | apply below_alloc | apply pw_below_drewN | apply below_drew1 | refine below_set ?_ GE156.out | refine below_set ?_ GE160.out) | exact HB.out)⟩
  rw [if_neg c8] at H
  have c8b0 : decide (1 < t161) = false := decide_eq_false c8
  clear c8
  simp only [Option.some.injEq, Prod.mk.injEq] at H
  obtain ⟨rfl, rfl, rfl, rfl, rfl, rfl, rfl, rfl⟩ := H
  go_enter Try.func23, Try.ntmps23
  go_wp2_with (first | ((with_reducible refine gate_dst (N := 2) rfl ?_); refine box_event ?hg (N := 2) ?hd (cs := #[.int .i64 0, .string (⟨#[]⟩ : ByteArray), .bool false, .int .u64 0, .int .u64 0, .int .u64 0, .int .u64 0]) (t := 41) ?hr ?_; (case hd => rfl); (case hg => rfl); (case hr => first | (go_simp; done) | (go_simp; rfl)); intro gb156 hg w24 hbox hb; have BK156 := Aside0.mk (hbox); have GW156 := Kw_ HB hg; have GE156 := GW156; replace HB := Ks_ HB hb; clear hb hbox hg) | ((with_reducible refine gate_callee (f := 37) rfl ?_); refine Kg_ (some 10) rfl rfl Try.func37 (by kernel_rfl) rfl #[.agg #[.string a0, .bool false], .int .i64 1] rfl ?_; (with_reducible refine (pack_Reader_Number.calls a0 false 1 t157 t158 t159 _ A2.out).mono ?_); rintro e w25 ⟨rfl, hb⟩; refine ⟨_, rfl, ?_⟩; replace BK156 := Kb_ BK156 hb; replace HB := Ks_ HB hb; (try clear hb); (try clear hb2); (try clear hk); (try clear hi)) | ((with_reducible refine gate_dst (N := 5) rfl ?_); refine box_event ?hg (N := 5) ?hd (cs := #[.string (⟨#[]⟩ : ByteArray), .bool false]) (t := 81) ?hr ?_; (case hd => rfl); (case hg => rfl); (case hr => first | (go_simp; done) | (go_simp; rfl)); intro gb160 hg w26 hbox hb; have BK160 := Aside0.mk (hbox); have GW160 := Kw_ HB hg; have GE160 := GW160; have NB156_160 := Kl_ BK156 hg; have NB160_156 := Kr_ BK156 hg; replace BK156 := Kb_ BK156 hb; replace HB := Ks_ HB hb; clear hb hbox hg; have hnb27 := NB160_156.out; have hnc27 := NB156_160.out; obtain ⟨hcz28_0, hcz28_1, hfz28_0, hfz28_1⟩ := Ke2_ BK160.out) | ((with_reducible refine gate_callee (f := 37) rfl ?_); refine Kg_ (some 15) rfl rfl Try.func37 (by kernel_rfl) rfl #[.agg #[.string t158, .bool t159], .int .i64 1] rfl ?_; (with_reducible refine (pack_Reader_Number.calls t158 t159 1 t161 t162 t163 _ A3.out).mono ?_); rintro e w29 ⟨rfl, hb⟩; refine ⟨_, rfl, ?_⟩; replace BK156 := Kf_ BK156 NB156_160 hb; replace BK160 := Aside0.mk (blk_below (g := gb160) (o := .cells #[.string t158, .bool t159] 81 (0, 0)) (by refine Kv_ ?_; refine blk_put (cs := #[.string t158, .bool false]) ?_ 1 _ rfl; refine Kv_ ?_; refine blk_put (cs := #[.string (⟨#[]⟩ : ByteArray), .bool false]) ?_ 0 _ rfl; exact Kq_ BK160) hb); replace HB := Kt_ HB GE160 hb; (try clear hb); (try clear hb2); (try clear hk); (try clear hi); obtain ⟨hcz30_0, hcz30_1, hfz30_0, hfz30_1⟩ := Ke2_ BK160.out) | ((with_reducible refine gate_callee (f := 36) rfl ?_); refine Kg_ (some 20) rfl rfl Try.func36 (by kernel_rfl) rfl #[.agg #[.string t162, .bool t163], .int .i64 64] rfl ?_; (with_reducible refine (pack_Reader_Text.calls k t162 t163 64 t164 t165 t166 _ A4.out).mono ?_); rintro e w31 ⟨rfl, hb⟩; refine ⟨_, rfl, ?_⟩; replace BK156 := Kf_ BK156 NB156_160 hb; replace BK160 := Aside0.mk (blk_below (g := gb160) (o := .cells #[.string t162, .bool t163] 81 (0, 0)) (by refine Kv_ ?_; refine blk_put (cs := #[.string t162, .bool t159]) ?_ 1 _ rfl; refine Kv_ ?_; refine blk_put (cs := #[.string t158, .bool t159]) ?_ 0 _ rfl; exact Kq_ BK160) hb); replace HB := Kt_ HB GE160 hb; (try clear hb); (try clear hb2); (try clear hk); (try clear hi); obtain ⟨hcz32_0, hcz32_1, hcz32_2, hcz32_3, hcz32_4, hcz32_5, hcz32_6, hfz32_0, hfz32_1, hfz32_2, hfz32_3, hfz32_4, hfz32_5, hfz32_6⟩ := Ke7_ BK156.out; obtain ⟨hcz33_0, hcz33_1, hfz33_0, hfz33_1⟩ := Ke2_ BK160.out) | ((with_reducible refine gate_callee (f := 42) rfl ?_); refine Kg_ (some 26) rfl rfl Try.func42 (by kernel_rfl) rfl #[.agg #[.string t165, .bool t166]] rfl ?_; (with_reducible refine (vec_Get.calls k t165 t166 t167 t168 t169 t170 t171 t172 _ A5.out).mono ?_); rintro e w34 ⟨rfl, hb⟩; refine ⟨_, rfl, ?_⟩; replace BK156 := Aside0.mk (blk_below (g := gb156) (o := .cells #[.int .i64 0, .string t164, .bool false, .int .u64 0, .int .u64 0, .int .u64 0, .int .u64 0] 41 (0, 0)) (by (repeat (first | (with_reducible first | refine blk_drewN ?_ _ | refine blk_drew ?_ | refine blk_alloc ?_ _) | refine blk_far ?_ NB156_160.out _)); refine blk_put (cs := #[.int .i64 0, .string (⟨#[]⟩ : ByteArray), .bool false, .int .u64 0, .int .u64 0, .int .u64 0, .int .u64 0]) ?_ 1 _ rfl; exact Kq_ BK156) hb); replace BK160 := Aside0.mk (blk_below (g := gb160) (o := .cells #[.string t165, .bool t166] 81 (0, 0)) (by refine Kv_ ?_; refine blk_put (cs := #[.string t165, .bool t163]) ?_ 1 _ rfl; refine Kv_ ?_; refine blk_put (cs := #[.string t162, .bool t163]) ?_ 0 _ rfl; (repeat (first | (with_reducible first | refine blk_drewN ?_ _ | refine blk_drew ?_ | refine blk_alloc ?_ _) | refine blk_far ?_ NB160_156.out _)); exact BK160.out) hb); replace HB := Aside0.mk (below_step (by repeat (first | (with_reducible first | exact HB.out | apply below_alloc | apply pw_below_drewN | apply below_drew1 | refine below_set ?_ GE156.out | refine below_set ?_ GE160.out) | exact HB.out)) hb); (try clear hb); (try clear hb2); (try clear hk); (try clear hi); obtain ⟨hcz35_0, hcz35_1, hcz35_2, hcz35_3, hcz35_4, hcz35_5, hcz35_6, hfz35_0, hfz35_1, hfz35_2, hfz35_3, hfz35_4, hfz35_5, hfz35_6⟩ := Ke7_ BK156.out; obtain ⟨hcz36_0, hcz36_1, hfz36_0, hfz36_1⟩ := Ke2_ BK160.out) | ((with_reducible refine gate_callee (f := 38) rfl ?_); refine Kg_ (some 37) rfl rfl Try.func38 (by kernel_rfl) rfl #[.agg #[.string t171, .bool t172]] rfl ?_; (with_reducible refine (pack_Reader_Done.calls t171 t172 true _ A6.out).mono ?_); rintro e w37 ⟨rfl, hb⟩; refine ⟨_, rfl, ?_⟩; replace BK156 := Aside0.mk (blk_below (g := gb156) (o := .cells #[.int .i64 (wrap64 (t157)), .string t164, .bool (t161 == 1), .int .u64 t167, .int .u64 t168, .int .u64 t169, .int .u64 t170] 41 (0, 0)) (by refine Kv_ ?_; refine blk_put (cs := #[.int .i64 (wrap64 (t157)), .string t164, .bool false, .int .u64 t167, .int .u64 t168, .int .u64 t169, .int .u64 t170]) ?_ 2 _ rfl; refine Kv_ ?_; refine blk_put (cs := #[.int .i64 0, .string t164, .bool false, .int .u64 t167, .int .u64 t168, .int .u64 t169, .int .u64 t170]) ?_ 0 _ rfl; (repeat (first | (with_reducible first | refine blk_drewN ?_ _ | refine blk_drew ?_ | refine blk_alloc ?_ _) | refine blk_far ?_ NB156_160.out _)); refine blk_put (cs := #[.int .i64 0, .string t164, .bool false, .int .u64 t167, .int .u64 t168, .int .u64 t169, .int .u64 0]) ?_ 6 _ rfl; refine Kv_ ?_; refine blk_put (cs := #[.int .i64 0, .string t164, .bool false, .int .u64 t167, .int .u64 t168, .int .u64 0, .int .u64 0]) ?_ 5 _ rfl; refine Kv_ ?_; refine blk_put (cs := #[.int .i64 0, .string t164, .bool false, .int .u64 t167, .int .u64 0, .int .u64 0, .int .u64 0]) ?_ 4 _ rfl; refine Kv_ ?_; refine blk_put (cs := #[.int .i64 0, .string t164, .bool false, .int .u64 0, .int .u64 0, .int .u64 0, .int .u64 0]) ?_ 3 _ rfl; exact Kq_ BK156) hb); replace BK160 := Aside0.mk (blk_below (g := gb160) (o := .cells #[.string t171, .bool t172] 81 (0, 0)) (by (repeat (first | (with_reducible first | refine blk_drewN ?_ _ | refine blk_drew ?_ | refine blk_alloc ?_ _) | refine blk_far ?_ NB160_156.out _)); refine blk_put (cs := #[.string t171, .bool t166]) ?_ 1 _ rfl; refine Kv_ ?_; refine blk_put (cs := #[.string t165, .bool t166]) ?_ 0 _ rfl; (repeat (first | (with_reducible first | refine blk_drewN ?_ _ | refine blk_drew ?_ | refine blk_alloc ?_ _) | refine blk_far ?_ NB160_156.out _)); exact BK160.out) hb); replace HB := Aside0.mk (below_step (by repeat (first | (with_reducible first | exact HB.out | apply below_alloc | apply pw_below_drewN | apply below_drew1 | refine below_set ?_ GE156.out | refine below_set ?_ GE160.out) | exact HB.out)) hb); (try clear hb); (try clear hb2); (try clear hk); (try clear hi); obtain ⟨hcz38_0, hcz38_1, hcz38_2, hcz38_3, hcz38_4, hcz38_5, hcz38_6, hfz38_0, hfz38_1, hfz38_2, hfz38_3, hfz38_4, hfz38_5, hfz38_6⟩ := Ke7_ BK156.out))
  refine bodyPost_ret (results_ct rfl _ _ gb156 41 #[.int .i64 (wrap64 (t157)), .string t164, .bool (t161 == 1), .int .u64 t167, .int .u64 t168, .int .u64 t169, .int .u64 t170] (0, 0) _ rfl (by refine Kv_ ?_; refine blk_put (cs := #[.int .i64 (wrap64 (t157)), .string t164, .bool (t161 == 1), .int .u64 t167, .int .u64 t168, .int .u64 t169, .int .u64 t170]) ?_ 6 _ rfl; refine Kv_ ?_; refine blk_put (cs := #[.int .i64 (wrap64 (t157)), .string t164, .bool (t161 == 1), .int .u64 t167, .int .u64 t168, .int .u64 t169, .int .u64 t170]) ?_ 5 _ rfl; refine Kv_ ?_; refine blk_put (cs := #[.int .i64 (wrap64 (t157)), .string t164, .bool (t161 == 1), .int .u64 t167, .int .u64 t168, .int .u64 t169, .int .u64 t170]) ?_ 4 _ rfl; refine Kv_ ?_; refine blk_put (cs := #[.int .i64 (wrap64 (t157)), .string t164, .bool (t161 == 1), .int .u64 t167, .int .u64 t168, .int .u64 t169, .int .u64 t170]) ?_ 3 _ rfl; refine Kv_ ?_; refine blk_put (cs := #[.int .i64 (wrap64 (t157)), .string t164, .bool (t161 == 1), .int .u64 t167, .int .u64 t168, .int .u64 t169, .int .u64 t170]) ?_ 2 _ rfl; refine Kv_ ?_; refine blk_put (cs := #[.int .i64 (wrap64 (t157)), .string t164, .bool (t161 == 1), .int .u64 t167, .int .u64 t168, .int .u64 t169, .int .u64 t170]) ?_ 1 _ rfl; refine Kv_ ?_; refine blk_put (cs := #[.int .i64 (wrap64 (t157)), .string t164, .bool (t161 == 1), .int .u64 t167, .int .u64 t168, .int .u64 t169, .int .u64 t170]) ?_ 0 _ rfl; exact Kq_ BK156) Try.underlying41 rfl (by kernel_rfl)) rfl ?_
  exact ⟨Kh_, by repeat (first | (with_reducible first | exact HB.out | apply below_alloc | apply pw_below_drewN | apply below_drew1 | refine below_set ?_ GE156.out | refine below_set ?_ GE160.out) | exact HB.out)⟩
attribute [local go_sem high] eqA23 eqA41
/-! ### tenementlaw19_examples: function 9 -/
def tenementlaw19_examples.f (k : Nat)  : Option (Bool) := (gate_Put.f k (⟨#[116]⟩ : ByteArray) 1 2 3 4 (⟨#[98]⟩ : ByteArray) (⟨#[107]⟩ : ByteArray) (⟨#[118]⟩ : ByteArray)).bind fun bt175 => ((gate_Get.f k bt175.1).bind fun bt177 => (if bt175.1.size + 1 ≤ 9223372036854775807 then ((gate_Get.f k (bt175.1 ++ (⟨#[120]⟩ : ByteArray))).bind fun bt187 => ((gate_Answer.f k 7 (⟨#[118]⟩ : ByteArray) true 1 2 3 4).bind fun t198 => ((gate_Read.f k t198).bind fun bt199 => ((gate_Right.f (⟨#[116]⟩ : ByteArray) 1 2 3 4 (⟨#[98]⟩ : ByteArray) (⟨#[107]⟩ : ByteArray) (⟨#[118]⟩ : ByteArray)).bind fun t208 => (if t208 = true then (if bt175.2 = true then (if (bt175.1.size : Int) = 12 then (if (bt177.1.toList == ([116] : List UInt8) && (bt177.2.1 == 1 && (bt177.2.2.1 == 2 && (bt177.2.2.2.1 == 3 && (bt177.2.2.2.2.1 == 4 && (bt177.2.2.2.2.2.1.toList == ([98] : List UInt8) && (bt177.2.2.2.2.2.2.1.toList == ([107] : List UInt8) && (bt177.2.2.2.2.2.2.2.1.toList == ([118] : List UInt8))))))))) = true then (if bt177.2.2.2.2.2.2.2.2 = 0 then (if bt187.2.2.2.2.2.2.2.2 = 2 then (if (t198.size : Int) = 8 then (if (bt199.1 == 7 && (bt199.2.1.toList == ([118] : List UInt8) && (bt199.2.2.1 && ((bt199.2.2.2.1 == 1 && (bt199.2.2.2.2.1 == 2 && (bt199.2.2.2.2.2.1 == 3 && (bt199.2.2.2.2.2.2.1 == 4)))))))) = true then (if bt199.2.2.2.2.2.2.2 = true then ((gate_Right.f (⟨#[]⟩ : ByteArray) 256 0 0 0 (⟨#[]⟩ : ByteArray) (⟨#[]⟩ : ByteArray) (⟨#[]⟩ : ByteArray)).bind fun t209 => (if t209 = true then (none) else (some true))) else (none)) else (none)) else (none)) else (none)) else (none)) else (none)) else (none)) else (none)) else (none)))))) else (none)))
theorem tenementlaw19_examples.mono : ∀ k, LeO (tenementlaw19_examples.f k ) (tenementlaw19_examples.f (k + 1) ) := by
  intro  k
  unfold tenementlaw19_examples.f
  repeat' first
      | (with_reducible exact gate_Answer.mono _ _ _ _ _ _ _ _)
      | (with_reducible exact gate_Get.mono _ _)
      | (with_reducible exact gate_Put.mono _ _ _ _ _ _ _ _ _)
      | (with_reducible exact gate_Read.mono _ _)
      | (with_reducible exact LeO.refl _)
      | (with_reducible exact LeO.none _)
      | (with_reducible refine LeO.ite ?_ ?_)
      | (with_reducible refine LeO.bind ?_ (fun _ => ?_))
      | exact gate_Answer.mono _ _ _ _ _ _ _ _
      | exact gate_Get.mono _ _
      | exact gate_Put.mono _ _ _ _ _ _ _ _ _
      | exact gate_Read.mono _ _
      | exact LeO.none _
      | refine LeO.ite ?_ ?_
      | refine LeO.bind ?_ (fun _ => ?_)
set_option maxHeartbeats 8000000 in
set_option maxRecDepth 100000 in
theorem tenementlaw19_examples.calls (k : Nat)  (r : Bool) (w : World) (h : tenementlaw19_examples.f k  = some r) :
    Calls Try.prog 9 #[] w fun e w' => e = .returned (.bool r) ∧ Below w.heap.size w w' := by
  have hu23 := Try.underlying23
  have hu28 := Try.underlying28
  have hu41 := Try.underlying41
  have HB := Aside0.mk (Below.refl w.heap.size w)
  have H : ((gate_Put.f k (⟨#[116]⟩ : ByteArray) 1 2 3 4 (⟨#[98]⟩ : ByteArray) (⟨#[107]⟩ : ByteArray) (⟨#[118]⟩ : ByteArray)).bind fun bt175 => ((gate_Get.f k bt175.1).bind fun bt177 => (if bt175.1.size + 1 ≤ 9223372036854775807 then ((gate_Get.f k (bt175.1 ++ (⟨#[120]⟩ : ByteArray))).bind fun bt187 => ((gate_Answer.f k 7 (⟨#[118]⟩ : ByteArray) true 1 2 3 4).bind fun t198 => ((gate_Read.f k t198).bind fun bt199 => ((gate_Right.f (⟨#[116]⟩ : ByteArray) 1 2 3 4 (⟨#[98]⟩ : ByteArray) (⟨#[107]⟩ : ByteArray) (⟨#[118]⟩ : ByteArray)).bind fun t208 => (if t208 = true then (if bt175.2 = true then (if (bt175.1.size : Int) = 12 then (if (bt177.1.toList == ([116] : List UInt8) && (bt177.2.1 == 1 && (bt177.2.2.1 == 2 && (bt177.2.2.2.1 == 3 && (bt177.2.2.2.2.1 == 4 && (bt177.2.2.2.2.2.1.toList == ([98] : List UInt8) && (bt177.2.2.2.2.2.2.1.toList == ([107] : List UInt8) && (bt177.2.2.2.2.2.2.2.1.toList == ([118] : List UInt8))))))))) = true then (if bt177.2.2.2.2.2.2.2.2 = 0 then (if bt187.2.2.2.2.2.2.2.2 = 2 then (if (t198.size : Int) = 8 then (if (bt199.1 == 7 && (bt199.2.1.toList == ([118] : List UInt8) && (bt199.2.2.1 && ((bt199.2.2.2.1 == 1 && (bt199.2.2.2.2.1 == 2 && (bt199.2.2.2.2.2.1 == 3 && (bt199.2.2.2.2.2.2.1 == 4)))))))) = true then (if bt199.2.2.2.2.2.2.2 = true then ((gate_Right.f (⟨#[]⟩ : ByteArray) 256 0 0 0 (⟨#[]⟩ : ByteArray) (⟨#[]⟩ : ByteArray) (⟨#[]⟩ : ByteArray)).bind fun t209 => (if t209 = true then (none) else (some true))) else (none)) else (none)) else (none)) else (none)) else (none)) else (none)) else (none)) else (none)) else (none)))))) else (none)))) = some r := h
  clear h
  replace H := Option.bind_eq_some_iff.mp H
  obtain ⟨⟨t175, t176⟩, A10, H⟩ := H
  replace H : ((gate_Get.f k t175).bind fun bt177 => (if t175.size + 1 ≤ 9223372036854775807 then ((gate_Get.f k (t175 ++ (⟨#[120]⟩ : ByteArray))).bind fun bt187 => ((gate_Answer.f k 7 (⟨#[118]⟩ : ByteArray) true 1 2 3 4).bind fun t198 => ((gate_Read.f k t198).bind fun bt199 => ((gate_Right.f (⟨#[116]⟩ : ByteArray) 1 2 3 4 (⟨#[98]⟩ : ByteArray) (⟨#[107]⟩ : ByteArray) (⟨#[118]⟩ : ByteArray)).bind fun t208 => (if t208 = true then (if t176 = true then (if (t175.size : Int) = 12 then (if (bt177.1.toList == ([116] : List UInt8) && (bt177.2.1 == 1 && (bt177.2.2.1 == 2 && (bt177.2.2.2.1 == 3 && (bt177.2.2.2.2.1 == 4 && (bt177.2.2.2.2.2.1.toList == ([98] : List UInt8) && (bt177.2.2.2.2.2.2.1.toList == ([107] : List UInt8) && (bt177.2.2.2.2.2.2.2.1.toList == ([118] : List UInt8))))))))) = true then (if bt177.2.2.2.2.2.2.2.2 = 0 then (if bt187.2.2.2.2.2.2.2.2 = 2 then (if (t198.size : Int) = 8 then (if (bt199.1 == 7 && (bt199.2.1.toList == ([118] : List UInt8) && (bt199.2.2.1 && ((bt199.2.2.2.1 == 1 && (bt199.2.2.2.2.1 == 2 && (bt199.2.2.2.2.2.1 == 3 && (bt199.2.2.2.2.2.2.1 == 4)))))))) = true then (if bt199.2.2.2.2.2.2.2 = true then ((gate_Right.f (⟨#[]⟩ : ByteArray) 256 0 0 0 (⟨#[]⟩ : ByteArray) (⟨#[]⟩ : ByteArray) (⟨#[]⟩ : ByteArray)).bind fun t209 => (if t209 = true then (none) else (some true))) else (none)) else (none)) else (none)) else (none)) else (none)) else (none)) else (none)) else (none)) else (none)))))) else (none))) = some r := H
  have A1 := Aside0.mk A10
  clear A10
  replace H := Option.bind_eq_some_iff.mp H
  obtain ⟨⟨t177, t178, t179, t180, t181, t182, t183, t184, t185⟩, A20, H⟩ := H
  replace H : (if t175.size + 1 ≤ 9223372036854775807 then ((gate_Get.f k (t175 ++ (⟨#[120]⟩ : ByteArray))).bind fun bt187 => ((gate_Answer.f k 7 (⟨#[118]⟩ : ByteArray) true 1 2 3 4).bind fun t198 => ((gate_Read.f k t198).bind fun bt199 => ((gate_Right.f (⟨#[116]⟩ : ByteArray) 1 2 3 4 (⟨#[98]⟩ : ByteArray) (⟨#[107]⟩ : ByteArray) (⟨#[118]⟩ : ByteArray)).bind fun t208 => (if t208 = true then (if t176 = true then (if (t175.size : Int) = 12 then (if (t177.toList == ([116] : List UInt8) && (t178 == 1 && (t179 == 2 && (t180 == 3 && (t181 == 4 && (t182.toList == ([98] : List UInt8) && (t183.toList == ([107] : List UInt8) && (t184.toList == ([118] : List UInt8))))))))) = true then (if t185 = 0 then (if bt187.2.2.2.2.2.2.2.2 = 2 then (if (t198.size : Int) = 8 then (if (bt199.1 == 7 && (bt199.2.1.toList == ([118] : List UInt8) && (bt199.2.2.1 && ((bt199.2.2.2.1 == 1 && (bt199.2.2.2.2.1 == 2 && (bt199.2.2.2.2.2.1 == 3 && (bt199.2.2.2.2.2.2.1 == 4)))))))) = true then (if bt199.2.2.2.2.2.2.2 = true then ((gate_Right.f (⟨#[]⟩ : ByteArray) 256 0 0 0 (⟨#[]⟩ : ByteArray) (⟨#[]⟩ : ByteArray) (⟨#[]⟩ : ByteArray)).bind fun t209 => (if t209 = true then (none) else (some true))) else (none)) else (none)) else (none)) else (none)) else (none)) else (none)) else (none)) else (none)) else (none)))))) else (none)) = some r := H
  have A2 := Aside0.mk A20
  clear A20
  by_cases c3 : t175.size + 1 ≤ 9223372036854775807
  rotate_left
  · rw [if_neg c3] at H
    exact absurd H (by simp)
  rw [if_pos c3] at H
  have c3b0 := eq_true c3
  have c3b1 : decide (t175.size + 1 ≤ 9223372036854775807) = true := decide_eq_true c3
  try have c3b2 : (9223372036854775807 < t175.size + 1) = False := eq_false (Nat.not_lt.2 c3)
  replace H := Option.bind_eq_some_iff.mp H
  obtain ⟨⟨t187, t188, t189, t190, t191, t192, t193, t194, t195⟩, A40, H⟩ := H
  replace H : ((gate_Answer.f k 7 (⟨#[118]⟩ : ByteArray) true 1 2 3 4).bind fun t198 => ((gate_Read.f k t198).bind fun bt199 => ((gate_Right.f (⟨#[116]⟩ : ByteArray) 1 2 3 4 (⟨#[98]⟩ : ByteArray) (⟨#[107]⟩ : ByteArray) (⟨#[118]⟩ : ByteArray)).bind fun t208 => (if t208 = true then (if t176 = true then (if (t175.size : Int) = 12 then (if (t177.toList == ([116] : List UInt8) && (t178 == 1 && (t179 == 2 && (t180 == 3 && (t181 == 4 && (t182.toList == ([98] : List UInt8) && (t183.toList == ([107] : List UInt8) && (t184.toList == ([118] : List UInt8))))))))) = true then (if t185 = 0 then (if t195 = 2 then (if (t198.size : Int) = 8 then (if (bt199.1 == 7 && (bt199.2.1.toList == ([118] : List UInt8) && (bt199.2.2.1 && ((bt199.2.2.2.1 == 1 && (bt199.2.2.2.2.1 == 2 && (bt199.2.2.2.2.2.1 == 3 && (bt199.2.2.2.2.2.2.1 == 4)))))))) = true then (if bt199.2.2.2.2.2.2.2 = true then ((gate_Right.f (⟨#[]⟩ : ByteArray) 256 0 0 0 (⟨#[]⟩ : ByteArray) (⟨#[]⟩ : ByteArray) (⟨#[]⟩ : ByteArray)).bind fun t209 => (if t209 = true then (none) else (some true))) else (none)) else (none)) else (none)) else (none)) else (none)) else (none)) else (none)) else (none)) else (none))))) = some r := H
  have A4 := Aside0.mk A40
  clear A40
  replace H := Option.bind_eq_some_iff.mp H
  obtain ⟨t198, A50, H⟩ := H
  replace H : ((gate_Read.f k t198).bind fun bt199 => ((gate_Right.f (⟨#[116]⟩ : ByteArray) 1 2 3 4 (⟨#[98]⟩ : ByteArray) (⟨#[107]⟩ : ByteArray) (⟨#[118]⟩ : ByteArray)).bind fun t208 => (if t208 = true then (if t176 = true then (if (t175.size : Int) = 12 then (if (t177.toList == ([116] : List UInt8) && (t178 == 1 && (t179 == 2 && (t180 == 3 && (t181 == 4 && (t182.toList == ([98] : List UInt8) && (t183.toList == ([107] : List UInt8) && (t184.toList == ([118] : List UInt8))))))))) = true then (if t185 = 0 then (if t195 = 2 then (if (t198.size : Int) = 8 then (if (bt199.1 == 7 && (bt199.2.1.toList == ([118] : List UInt8) && (bt199.2.2.1 && ((bt199.2.2.2.1 == 1 && (bt199.2.2.2.2.1 == 2 && (bt199.2.2.2.2.2.1 == 3 && (bt199.2.2.2.2.2.2.1 == 4)))))))) = true then (if bt199.2.2.2.2.2.2.2 = true then ((gate_Right.f (⟨#[]⟩ : ByteArray) 256 0 0 0 (⟨#[]⟩ : ByteArray) (⟨#[]⟩ : ByteArray) (⟨#[]⟩ : ByteArray)).bind fun t209 => (if t209 = true then (none) else (some true))) else (none)) else (none)) else (none)) else (none)) else (none)) else (none)) else (none)) else (none)) else (none)))) = some r := H
  have A5 := Aside0.mk A50
  clear A50
  replace H := Option.bind_eq_some_iff.mp H
  obtain ⟨⟨t199, t200, t201, t202, t203, t204, t205, t206⟩, A60, H⟩ := H
  replace H : ((gate_Right.f (⟨#[116]⟩ : ByteArray) 1 2 3 4 (⟨#[98]⟩ : ByteArray) (⟨#[107]⟩ : ByteArray) (⟨#[118]⟩ : ByteArray)).bind fun t208 => (if t208 = true then (if t176 = true then (if (t175.size : Int) = 12 then (if (t177.toList == ([116] : List UInt8) && (t178 == 1 && (t179 == 2 && (t180 == 3 && (t181 == 4 && (t182.toList == ([98] : List UInt8) && (t183.toList == ([107] : List UInt8) && (t184.toList == ([118] : List UInt8))))))))) = true then (if t185 = 0 then (if t195 = 2 then (if (t198.size : Int) = 8 then (if (t199 == 7 && (t200.toList == ([118] : List UInt8) && (t201 && ((t202 == 1 && (t203 == 2 && (t204 == 3 && (t205 == 4)))))))) = true then (if t206 = true then ((gate_Right.f (⟨#[]⟩ : ByteArray) 256 0 0 0 (⟨#[]⟩ : ByteArray) (⟨#[]⟩ : ByteArray) (⟨#[]⟩ : ByteArray)).bind fun t209 => (if t209 = true then (none) else (some true))) else (none)) else (none)) else (none)) else (none)) else (none)) else (none)) else (none)) else (none)) else (none))) = some r := H
  have A6 := Aside0.mk A60
  clear A60
  replace H := Option.bind_eq_some_iff.mp H
  obtain ⟨t208, A70, H⟩ := H
  replace H : (if t208 = true then (if t176 = true then (if (t175.size : Int) = 12 then (if (t177.toList == ([116] : List UInt8) && (t178 == 1 && (t179 == 2 && (t180 == 3 && (t181 == 4 && (t182.toList == ([98] : List UInt8) && (t183.toList == ([107] : List UInt8) && (t184.toList == ([118] : List UInt8))))))))) = true then (if t185 = 0 then (if t195 = 2 then (if (t198.size : Int) = 8 then (if (t199 == 7 && (t200.toList == ([118] : List UInt8) && (t201 && ((t202 == 1 && (t203 == 2 && (t204 == 3 && (t205 == 4)))))))) = true then (if t206 = true then ((gate_Right.f (⟨#[]⟩ : ByteArray) 256 0 0 0 (⟨#[]⟩ : ByteArray) (⟨#[]⟩ : ByteArray) (⟨#[]⟩ : ByteArray)).bind fun t209 => (if t209 = true then (none) else (some true))) else (none)) else (none)) else (none)) else (none)) else (none)) else (none)) else (none)) else (none)) else (none)) = some r := H
  have A7 := Aside0.mk A70
  clear A70
  by_cases c8 : t208 = true
  rotate_left
  · replace c8 := Bool.eq_false_iff.mpr c8
    subst c8
    have H1 : (none) = some r := by rw [if_neg (show ¬ (false = true) by decide)] at H; exact H
    clear H
    have H := H1
    clear H1
    exact absurd H (by simp)
  subst c8
  have H1 : (if t176 = true then (if (t175.size : Int) = 12 then (if (t177.toList == ([116] : List UInt8) && (t178 == 1 && (t179 == 2 && (t180 == 3 && (t181 == 4 && (t182.toList == ([98] : List UInt8) && (t183.toList == ([107] : List UInt8) && (t184.toList == ([118] : List UInt8))))))))) = true then (if t185 = 0 then (if t195 = 2 then (if (t198.size : Int) = 8 then (if (t199 == 7 && (t200.toList == ([118] : List UInt8) && (t201 && ((t202 == 1 && (t203 == 2 && (t204 == 3 && (t205 == 4)))))))) = true then (if t206 = true then ((gate_Right.f (⟨#[]⟩ : ByteArray) 256 0 0 0 (⟨#[]⟩ : ByteArray) (⟨#[]⟩ : ByteArray) (⟨#[]⟩ : ByteArray)).bind fun t209 => (if t209 = true then (none) else (some true))) else (none)) else (none)) else (none)) else (none)) else (none)) else (none)) else (none)) else (none)) = some r := by rw [if_pos rfl] at H; exact H
  clear H
  have H := H1
  clear H1
  by_cases c9 : t176 = true
  rotate_left
  · replace c9 := Bool.eq_false_iff.mpr c9
    subst c9
    have H1 : (none) = some r := by rw [if_neg (show ¬ (false = true) by decide)] at H; exact H
    clear H
    have H := H1
    clear H1
    exact absurd H (by simp)
  subst c9
  have H1 : (if (t175.size : Int) = 12 then (if (t177.toList == ([116] : List UInt8) && (t178 == 1 && (t179 == 2 && (t180 == 3 && (t181 == 4 && (t182.toList == ([98] : List UInt8) && (t183.toList == ([107] : List UInt8) && (t184.toList == ([118] : List UInt8))))))))) = true then (if t185 = 0 then (if t195 = 2 then (if (t198.size : Int) = 8 then (if (t199 == 7 && (t200.toList == ([118] : List UInt8) && (t201 && ((t202 == 1 && (t203 == 2 && (t204 == 3 && (t205 == 4)))))))) = true then (if t206 = true then ((gate_Right.f (⟨#[]⟩ : ByteArray) 256 0 0 0 (⟨#[]⟩ : ByteArray) (⟨#[]⟩ : ByteArray) (⟨#[]⟩ : ByteArray)).bind fun t209 => (if t209 = true then (none) else (some true))) else (none)) else (none)) else (none)) else (none)) else (none)) else (none)) else (none)) = some r := by rw [if_pos rfl] at H; exact H
  clear H
  have H := H1
  clear H1
  by_cases c10 : (t175.size : Int) = 12
  rotate_left
  · rw [if_neg c10] at H
    exact absurd H (by simp)
  rw [if_pos c10] at H
  have c10b0 : ((t175.size : Int) == 12) = true := beq_iff_eq.mpr c10
  have c10b1 : ((t175.size : Int) != 12) = false := bne_eq_false_iff_eq.mpr c10
  clear c10
  by_cases c11 : (t177.toList == ([116] : List UInt8) && (t178 == 1 && (t179 == 2 && (t180 == 3 && (t181 == 4 && (t182.toList == ([98] : List UInt8) && (t183.toList == ([107] : List UInt8) && (t184.toList == ([118] : List UInt8))))))))) = true
  rotate_left
  · rw [if_neg c11] at H
    exact absurd H (by simp)
  rw [if_pos c11] at H
  have c11b0 : (t177.toList == ([116] : List UInt8) && (t178 == 1 && (t179 == 2 && (t180 == 3 && (t181 == 4 && (t182.toList == ([98] : List UInt8) && (t183.toList == ([107] : List UInt8) && (t184.toList == ([118] : List UInt8))))))))) = true := c11
  (try (have c11b1 : decide (t177.toList = ([116] : List UInt8) && (t178 == 1 && (t179 == 2 && (t180 == 3 && (t181 == 4 && (t182.toList == ([98] : List UInt8) && (t183.toList == ([107] : List UInt8) && (t184.toList == ([118] : List UInt8))))))))) = true := by simpa using c11))
  (try (have c11b2 : (t177.toList == ([116] : List UInt8) && (t178 == 1 && (t179 == 2 && (t180 == 3 && (t181 == 4 && (t182.toList == ([98] : List UInt8) && (t183.toList == ([107] : List UInt8) && (t184.toList == ([118] : List UInt8))))))))) = true := by simpa using c11))
  clear c11
  by_cases c12 : t185 = 0
  rotate_left
  · rw [if_neg c12] at H
    exact absurd H (by simp)
  rw [if_pos c12] at H
  have c12b0 : (t185 == 0) = true := beq_iff_eq.mpr c12
  have c12b1 : (t185 != 0) = false := bne_eq_false_iff_eq.mpr c12
  clear c12
  by_cases c13 : t195 = 2
  rotate_left
  · rw [if_neg c13] at H
    exact absurd H (by simp)
  rw [if_pos c13] at H
  have c13b0 : (t195 == 2) = true := beq_iff_eq.mpr c13
  have c13b1 : (t195 != 2) = false := bne_eq_false_iff_eq.mpr c13
  clear c13
  by_cases c14 : (t198.size : Int) = 8
  rotate_left
  · rw [if_neg c14] at H
    exact absurd H (by simp)
  rw [if_pos c14] at H
  have c14b0 : ((t198.size : Int) == 8) = true := beq_iff_eq.mpr c14
  have c14b1 : ((t198.size : Int) != 8) = false := bne_eq_false_iff_eq.mpr c14
  clear c14
  by_cases c15 : (t199 == 7 && (t200.toList == ([118] : List UInt8) && (t201 && ((t202 == 1 && (t203 == 2 && (t204 == 3 && (t205 == 4)))))))) = true
  rotate_left
  · rw [if_neg c15] at H
    exact absurd H (by simp)
  rw [if_pos c15] at H
  have c15b0 : (t199 == 7 && (t200.toList == ([118] : List UInt8) && (t201 && ((t202 == 1 && (t203 == 2 && (t204 == 3 && (t205 == 4)))))))) = true := c15
  (try (have c15b1 : decide (t199 = 7 && (t200.toList == ([118] : List UInt8) && (t201 && ((t202 == 1 && (t203 == 2 && (t204 == 3 && (t205 == 4)))))))) = true := by simpa using c15))
  (try (have c15b2 : (t199 == 7 && (t200.toList == ([118] : List UInt8) && (t201 && ((t202 == 1 && (t203 == 2 && (t204 == 3 && (t205 == 4)))))))) = true := by simpa using c15))
  clear c15
  by_cases c16 : t206 = true
  rotate_left
  · replace c16 := Bool.eq_false_iff.mpr c16
    subst c16
    have H1 : (none) = some r := by rw [if_neg (show ¬ (false = true) by decide)] at H; exact H
    clear H
    have H := H1
    clear H1
    exact absurd H (by simp)
  subst c16
  have H1 : ((gate_Right.f (⟨#[]⟩ : ByteArray) 256 0 0 0 (⟨#[]⟩ : ByteArray) (⟨#[]⟩ : ByteArray) (⟨#[]⟩ : ByteArray)).bind fun t209 => (if t209 = true then (none) else (some true))) = some r := by rw [if_pos rfl] at H; exact H
  clear H
  have H := H1
  clear H1
  replace H := Option.bind_eq_some_iff.mp H
  obtain ⟨t209, A170, H⟩ := H
  replace H : (if t209 = true then (none) else (some true)) = some r := H
  have A17 := Aside0.mk A170
  clear A170
  by_cases c18 : t209 = true
  · subst c18
    have H1 : (none) = some r := by rw [if_pos rfl] at H; exact H
    clear H
    have H := H1
    clear H1
    exact absurd H (by simp)
  replace c18 := Bool.eq_false_iff.mpr c18
  subst c18
  have H1 : (some true) = some r := by rw [if_neg (show ¬ (false = true) by decide)] at H; exact H
  clear H
  have H := H1
  clear H1
  obtain rfl := Option.some.inj H
  go_enter Try.func9, Try.ntmps9
  go_wp2_with (first | ((with_reducible refine gate_dst (N := 1) rfl ?_); refine box_event ?hg (N := 1) ?hd (cs := #[.string (⟨#[]⟩ : ByteArray), .int .i64 0, .int .i64 0, .int .i64 0, .int .i64 0, .string (⟨#[]⟩ : ByteArray), .string (⟨#[]⟩ : ByteArray), .string (⟨#[]⟩ : ByteArray)]) (t := 23) ?hr ?_; (case hd => rfl); (case hg => rfl); (case hr => first | (go_simp; done) | (go_simp; rfl)); intro gb174 hg w19 hbox hb; have BK174 := Aside0.mk (hbox); have GW174 := Kw_ HB hg; have GE174 := GW174; replace HB := Ks_ HB hb; clear hb hbox hg; obtain ⟨hcz20_0, hcz20_1, hcz20_2, hcz20_3, hcz20_4, hcz20_5, hcz20_6, hcz20_7, hfz20_0, hfz20_1, hfz20_2, hfz20_3, hfz20_4, hfz20_5, hfz20_6, hfz20_7⟩ := Ke8_ BK174.out) | ((with_reducible refine gate_callee (f := 11) rfl ?_); refine Kg_ (some 15) rfl rfl Try.func11 (by kernel_rfl) rfl #[.agg #[.string (⟨#[116]⟩ : ByteArray), .int .i64 1, .int .i64 2, .int .i64 3, .int .i64 4, .string (⟨#[98]⟩ : ByteArray), .string (⟨#[107]⟩ : ByteArray), .string (⟨#[118]⟩ : ByteArray)]] rfl ?_; (with_reducible refine (gate_Put.calls k (⟨#[116]⟩ : ByteArray) 1 2 3 4 (⟨#[98]⟩ : ByteArray) (⟨#[107]⟩ : ByteArray) (⟨#[118]⟩ : ByteArray) t175 true _ A1.out).mono ?_); rintro e w21 ⟨rfl, hb⟩; refine ⟨_, rfl, ?_⟩; replace BK174 := Aside0.mk (blk_below (g := gb174) (o := .cells #[.string (⟨#[116]⟩ : ByteArray), .int .i64 1, .int .i64 2, .int .i64 3, .int .i64 4, .string (⟨#[98]⟩ : ByteArray), .string (⟨#[107]⟩ : ByteArray), .string (⟨#[118]⟩ : ByteArray)] 23 (0, 0)) (by refine Kv_ ?_; refine blk_put (cs := #[.string (⟨#[116]⟩ : ByteArray), .int .i64 1, .int .i64 2, .int .i64 3, .int .i64 4, .string (⟨#[98]⟩ : ByteArray), .string (⟨#[107]⟩ : ByteArray), .string (⟨#[]⟩ : ByteArray)]) ?_ 7 _ rfl; refine Kv_ ?_; refine blk_put (cs := #[.string (⟨#[116]⟩ : ByteArray), .int .i64 1, .int .i64 2, .int .i64 3, .int .i64 4, .string (⟨#[98]⟩ : ByteArray), .string (⟨#[]⟩ : ByteArray), .string (⟨#[]⟩ : ByteArray)]) ?_ 6 _ rfl; refine Kv_ ?_; refine blk_put (cs := #[.string (⟨#[116]⟩ : ByteArray), .int .i64 1, .int .i64 2, .int .i64 3, .int .i64 4, .string (⟨#[]⟩ : ByteArray), .string (⟨#[]⟩ : ByteArray), .string (⟨#[]⟩ : ByteArray)]) ?_ 5 _ rfl; refine Kv_ ?_; refine blk_put (cs := #[.string (⟨#[116]⟩ : ByteArray), .int .i64 1, .int .i64 2, .int .i64 3, .int .i64 0, .string (⟨#[]⟩ : ByteArray), .string (⟨#[]⟩ : ByteArray), .string (⟨#[]⟩ : ByteArray)]) ?_ 4 _ rfl; refine Kv_ ?_; refine blk_put (cs := #[.string (⟨#[116]⟩ : ByteArray), .int .i64 1, .int .i64 2, .int .i64 0, .int .i64 0, .string (⟨#[]⟩ : ByteArray), .string (⟨#[]⟩ : ByteArray), .string (⟨#[]⟩ : ByteArray)]) ?_ 3 _ rfl; refine Kv_ ?_; refine blk_put (cs := #[.string (⟨#[116]⟩ : ByteArray), .int .i64 1, .int .i64 0, .int .i64 0, .int .i64 0, .string (⟨#[]⟩ : ByteArray), .string (⟨#[]⟩ : ByteArray), .string (⟨#[]⟩ : ByteArray)]) ?_ 2 _ rfl; refine Kv_ ?_; refine blk_put (cs := #[.string (⟨#[116]⟩ : ByteArray), .int .i64 0, .int .i64 0, .int .i64 0, .int .i64 0, .string (⟨#[]⟩ : ByteArray), .string (⟨#[]⟩ : ByteArray), .string (⟨#[]⟩ : ByteArray)]) ?_ 1 _ rfl; refine Kv_ ?_; refine blk_put (cs := #[.string (⟨#[]⟩ : ByteArray), .int .i64 0, .int .i64 0, .int .i64 0, .int .i64 0, .string (⟨#[]⟩ : ByteArray), .string (⟨#[]⟩ : ByteArray), .string (⟨#[]⟩ : ByteArray)]) ?_ 0 _ rfl; exact Kq_ BK174) hb); replace HB := Kt_ HB GE174 hb; (try clear hb); (try clear hb2); (try clear hk); (try clear hi)) | ((with_reducible refine gate_callee (f := 21) rfl ?_); refine Kg_ (some 20) rfl rfl Try.func21 (by kernel_rfl) rfl #[.string t175] rfl ?_; (with_reducible refine (gate_Get.calls k t175 t177 t178 t179 t180 t181 t182 t183 t184 t185 _ A2.out).mono ?_); rintro e w22 ⟨rfl, hb⟩; refine ⟨_, rfl, ?_⟩; replace BK174 := Kb_ BK174 hb; replace HB := Ks_ HB hb; (try clear hb); (try clear hb2); (try clear hk); (try clear hi)) | ((with_reducible refine gate_dst (N := 4) rfl ?_); refine box_event ?hg (N := 4) ?hd (cs := #[.string (⟨#[]⟩ : ByteArray), .int .i64 0, .int .i64 0, .int .i64 0, .int .i64 0, .string (⟨#[]⟩ : ByteArray), .string (⟨#[]⟩ : ByteArray), .string (⟨#[]⟩ : ByteArray)]) (t := 23) ?hr ?_; (case hd => rfl); (case hg => rfl); (case hr => first | (go_simp; done) | (go_simp; rfl)); intro gb186 hg w23 hbox hb; have BK186 := Aside0.mk (hbox); have GW186 := Kw_ HB hg; have GE186 := GW186; have NB174_186 := Kl_ BK174 hg; have NB186_174 := Kr_ BK174 hg; replace BK174 := Kb_ BK174 hb; replace HB := Ks_ HB hb; clear hb hbox hg; have hnb24 := NB186_174.out; have hnc24 := NB174_186.out; obtain ⟨hcz25_0, hcz25_1, hcz25_2, hcz25_3, hcz25_4, hcz25_5, hcz25_6, hcz25_7, hfz25_0, hfz25_1, hfz25_2, hfz25_3, hfz25_4, hfz25_5, hfz25_6, hfz25_7⟩ := Ke8_ BK186.out) | ((with_reducible refine gate_callee (f := 21) rfl ?_); refine Kg_ (some 26) rfl rfl Try.func21 (by kernel_rfl) rfl #[.string (t175 ++ (⟨#[120]⟩ : ByteArray))] rfl ?_; (with_reducible refine (gate_Get.calls k (t175 ++ (⟨#[120]⟩ : ByteArray)) t187 t188 t189 t190 t191 t192 t193 t194 t195 _ A4.out).mono ?_); rintro e w26 ⟨rfl, hb⟩; refine ⟨_, rfl, ?_⟩; replace BK174 := Kf_ BK174 NB174_186 hb; replace BK186 := Aside0.mk (blk_below (g := gb186) (o := .cells #[.string t177, .int .i64 t178, .int .i64 t179, .int .i64 t180, .int .i64 t181, .string t182, .string t183, .string t184] 23 (0, 0)) (by refine Kv_ ?_; refine blk_put (cs := #[.string t177, .int .i64 t178, .int .i64 t179, .int .i64 t180, .int .i64 t181, .string t182, .string t183, .string (⟨#[]⟩ : ByteArray)]) ?_ 7 _ rfl; refine Kv_ ?_; refine blk_put (cs := #[.string t177, .int .i64 t178, .int .i64 t179, .int .i64 t180, .int .i64 t181, .string t182, .string (⟨#[]⟩ : ByteArray), .string (⟨#[]⟩ : ByteArray)]) ?_ 6 _ rfl; refine Kv_ ?_; refine blk_put (cs := #[.string t177, .int .i64 t178, .int .i64 t179, .int .i64 t180, .int .i64 t181, .string (⟨#[]⟩ : ByteArray), .string (⟨#[]⟩ : ByteArray), .string (⟨#[]⟩ : ByteArray)]) ?_ 5 _ rfl; refine Kv_ ?_; refine blk_put (cs := #[.string t177, .int .i64 t178, .int .i64 t179, .int .i64 t180, .int .i64 0, .string (⟨#[]⟩ : ByteArray), .string (⟨#[]⟩ : ByteArray), .string (⟨#[]⟩ : ByteArray)]) ?_ 4 _ rfl; refine Kv_ ?_; refine blk_put (cs := #[.string t177, .int .i64 t178, .int .i64 t179, .int .i64 0, .int .i64 0, .string (⟨#[]⟩ : ByteArray), .string (⟨#[]⟩ : ByteArray), .string (⟨#[]⟩ : ByteArray)]) ?_ 3 _ rfl; refine Kv_ ?_; refine blk_put (cs := #[.string t177, .int .i64 t178, .int .i64 0, .int .i64 0, .int .i64 0, .string (⟨#[]⟩ : ByteArray), .string (⟨#[]⟩ : ByteArray), .string (⟨#[]⟩ : ByteArray)]) ?_ 2 _ rfl; refine Kv_ ?_; refine blk_put (cs := #[.string t177, .int .i64 0, .int .i64 0, .int .i64 0, .int .i64 0, .string (⟨#[]⟩ : ByteArray), .string (⟨#[]⟩ : ByteArray), .string (⟨#[]⟩ : ByteArray)]) ?_ 1 _ rfl; refine Kv_ ?_; refine blk_put (cs := #[.string (⟨#[]⟩ : ByteArray), .int .i64 0, .int .i64 0, .int .i64 0, .int .i64 0, .string (⟨#[]⟩ : ByteArray), .string (⟨#[]⟩ : ByteArray), .string (⟨#[]⟩ : ByteArray)]) ?_ 0 _ rfl; exact Kq_ BK186) hb); replace HB := Kt_ HB GE186 hb; (try clear hb); (try clear hb2); (try clear hk); (try clear hi)) | ((with_reducible refine gate_dst (N := 6) rfl ?_); refine box_event ?hg (N := 6) ?hd (cs := #[.string (⟨#[]⟩ : ByteArray), .int .i64 0, .int .i64 0, .int .i64 0, .int .i64 0, .string (⟨#[]⟩ : ByteArray), .string (⟨#[]⟩ : ByteArray), .string (⟨#[]⟩ : ByteArray)]) (t := 23) ?hr ?_; (case hd => rfl); (case hg => rfl); (case hr => first | (go_simp; done) | (go_simp; rfl)); intro gb196 hg w27 hbox hb; have BK196 := Aside0.mk (hbox); have GW196 := Kw_ HB hg; have GE196 := GW196; have NB174_196 := Kl_ BK174 hg; have NB196_174 := Kr_ BK174 hg; have NB186_196 := Kl_ BK186 hg; have NB196_186 := Kr_ BK186 hg; replace BK174 := Kb_ BK174 hb; replace BK186 := Kb_ BK186 hb; replace HB := Ks_ HB hb; clear hb hbox hg; have hnb28 := NB196_174.out; have hnc28 := NB174_196.out; have hnb29 := NB196_186.out; have hnc29 := NB186_196.out; obtain ⟨hcz30_0, hcz30_1, hcz30_2, hcz30_3, hcz30_4, hcz30_5, hcz30_6, hcz30_7, hfz30_0, hfz30_1, hfz30_2, hfz30_3, hfz30_4, hfz30_5, hfz30_6, hfz30_7⟩ := Ke8_ BK196.out) | ((with_reducible refine gate_dst (N := 8) rfl ?_); refine box_event ?hg (N := 8) ?hd (cs := #[.int .i64 0, .string (⟨#[]⟩ : ByteArray), .bool false, .int .u64 0, .int .u64 0, .int .u64 0, .int .u64 0]) (t := 41) ?hr ?_; (case hd => rfl); (case hg => rfl); (case hr => first | (go_simp; done) | (go_simp; rfl)); intro gb197 hg w31 hbox hb; have BK197 := Aside0.mk (hbox); have GW197 := Kx_ HB GE196 hg; have GE197 := GW197; have NB174_197 := Aside0.mk ((by rw [hg]; exact Nat.ne_of_lt (blk_lt (g := gb174) (o := .cells #[.string (⟨#[116]⟩ : ByteArray), .int .i64 1, .int .i64 2, .int .i64 3, .int .i64 4, .string (⟨#[98]⟩ : ByteArray), .string (⟨#[107]⟩ : ByteArray), .string (⟨#[118]⟩ : ByteArray)] 23 (0, 0)) (by (repeat (first | (with_reducible first | refine blk_drewN ?_ _ | refine blk_drew ?_ | refine blk_alloc ?_ _) | refine blk_far ?_ NB174_196.out _)); exact BK174.out)) : gb174 ≠ gb197)); have NB197_174 := Aside0.mk ((by rw [hg]; exact Nat.ne_of_gt (blk_lt (g := gb174) (o := .cells #[.string (⟨#[116]⟩ : ByteArray), .int .i64 1, .int .i64 2, .int .i64 3, .int .i64 4, .string (⟨#[98]⟩ : ByteArray), .string (⟨#[107]⟩ : ByteArray), .string (⟨#[118]⟩ : ByteArray)] 23 (0, 0)) (by (repeat (first | (with_reducible first | refine blk_drewN ?_ _ | refine blk_drew ?_ | refine blk_alloc ?_ _) | refine blk_far ?_ NB174_196.out _)); exact BK174.out)) : gb197 ≠ gb174)); have NB186_197 := Aside0.mk ((by rw [hg]; exact Nat.ne_of_lt (blk_lt (g := gb186) (o := .cells #[.string t177, .int .i64 t178, .int .i64 t179, .int .i64 t180, .int .i64 t181, .string t182, .string t183, .string t184] 23 (0, 0)) (by (repeat (first | (with_reducible first | refine blk_drewN ?_ _ | refine blk_drew ?_ | refine blk_alloc ?_ _) | refine blk_far ?_ NB186_196.out _)); exact BK186.out)) : gb186 ≠ gb197)); have NB197_186 := Aside0.mk ((by rw [hg]; exact Nat.ne_of_gt (blk_lt (g := gb186) (o := .cells #[.string t177, .int .i64 t178, .int .i64 t179, .int .i64 t180, .int .i64 t181, .string t182, .string t183, .string t184] 23 (0, 0)) (by (repeat (first | (with_reducible first | refine blk_drewN ?_ _ | refine blk_drew ?_ | refine blk_alloc ?_ _) | refine blk_far ?_ NB186_196.out _)); exact BK186.out)) : gb197 ≠ gb186)); have NB196_197 := Aside0.mk ((by rw [hg]; exact Nat.ne_of_lt (blk_lt (g := gb196) (o := .cells #[.string t187, .int .i64 t188, .int .i64 t189, .int .i64 t190, .int .i64 t191, .string t192, .string t193, .string t194] 23 (0, 0)) (by refine Kv_ ?_; refine blk_put (cs := #[.string t187, .int .i64 t188, .int .i64 t189, .int .i64 t190, .int .i64 t191, .string t192, .string t193, .string (⟨#[]⟩ : ByteArray)]) ?_ 7 _ rfl; refine Kv_ ?_; refine blk_put (cs := #[.string t187, .int .i64 t188, .int .i64 t189, .int .i64 t190, .int .i64 t191, .string t192, .string (⟨#[]⟩ : ByteArray), .string (⟨#[]⟩ : ByteArray)]) ?_ 6 _ rfl; refine Kv_ ?_; refine blk_put (cs := #[.string t187, .int .i64 t188, .int .i64 t189, .int .i64 t190, .int .i64 t191, .string (⟨#[]⟩ : ByteArray), .string (⟨#[]⟩ : ByteArray), .string (⟨#[]⟩ : ByteArray)]) ?_ 5 _ rfl; refine Kv_ ?_; refine blk_put (cs := #[.string t187, .int .i64 t188, .int .i64 t189, .int .i64 t190, .int .i64 0, .string (⟨#[]⟩ : ByteArray), .string (⟨#[]⟩ : ByteArray), .string (⟨#[]⟩ : ByteArray)]) ?_ 4 _ rfl; refine Kv_ ?_; refine blk_put (cs := #[.string t187, .int .i64 t188, .int .i64 t189, .int .i64 0, .int .i64 0, .string (⟨#[]⟩ : ByteArray), .string (⟨#[]⟩ : ByteArray), .string (⟨#[]⟩ : ByteArray)]) ?_ 3 _ rfl; refine Kv_ ?_; refine blk_put (cs := #[.string t187, .int .i64 t188, .int .i64 0, .int .i64 0, .int .i64 0, .string (⟨#[]⟩ : ByteArray), .string (⟨#[]⟩ : ByteArray), .string (⟨#[]⟩ : ByteArray)]) ?_ 2 _ rfl; refine Kv_ ?_; refine blk_put (cs := #[.string t187, .int .i64 0, .int .i64 0, .int .i64 0, .int .i64 0, .string (⟨#[]⟩ : ByteArray), .string (⟨#[]⟩ : ByteArray), .string (⟨#[]⟩ : ByteArray)]) ?_ 1 _ rfl; refine Kv_ ?_; refine blk_put (cs := #[.string (⟨#[]⟩ : ByteArray), .int .i64 0, .int .i64 0, .int .i64 0, .int .i64 0, .string (⟨#[]⟩ : ByteArray), .string (⟨#[]⟩ : ByteArray), .string (⟨#[]⟩ : ByteArray)]) ?_ 0 _ rfl; exact Kq_ BK196)) : gb196 ≠ gb197)); have NB197_196 := Aside0.mk ((by rw [hg]; exact Nat.ne_of_gt (blk_lt (g := gb196) (o := .cells #[.string t187, .int .i64 t188, .int .i64 t189, .int .i64 t190, .int .i64 t191, .string t192, .string t193, .string t194] 23 (0, 0)) (by refine Kv_ ?_; refine blk_put (cs := #[.string t187, .int .i64 t188, .int .i64 t189, .int .i64 t190, .int .i64 t191, .string t192, .string t193, .string (⟨#[]⟩ : ByteArray)]) ?_ 7 _ rfl; refine Kv_ ?_; refine blk_put (cs := #[.string t187, .int .i64 t188, .int .i64 t189, .int .i64 t190, .int .i64 t191, .string t192, .string (⟨#[]⟩ : ByteArray), .string (⟨#[]⟩ : ByteArray)]) ?_ 6 _ rfl; refine Kv_ ?_; refine blk_put (cs := #[.string t187, .int .i64 t188, .int .i64 t189, .int .i64 t190, .int .i64 t191, .string (⟨#[]⟩ : ByteArray), .string (⟨#[]⟩ : ByteArray), .string (⟨#[]⟩ : ByteArray)]) ?_ 5 _ rfl; refine Kv_ ?_; refine blk_put (cs := #[.string t187, .int .i64 t188, .int .i64 t189, .int .i64 t190, .int .i64 0, .string (⟨#[]⟩ : ByteArray), .string (⟨#[]⟩ : ByteArray), .string (⟨#[]⟩ : ByteArray)]) ?_ 4 _ rfl; refine Kv_ ?_; refine blk_put (cs := #[.string t187, .int .i64 t188, .int .i64 t189, .int .i64 0, .int .i64 0, .string (⟨#[]⟩ : ByteArray), .string (⟨#[]⟩ : ByteArray), .string (⟨#[]⟩ : ByteArray)]) ?_ 3 _ rfl; refine Kv_ ?_; refine blk_put (cs := #[.string t187, .int .i64 t188, .int .i64 0, .int .i64 0, .int .i64 0, .string (⟨#[]⟩ : ByteArray), .string (⟨#[]⟩ : ByteArray), .string (⟨#[]⟩ : ByteArray)]) ?_ 2 _ rfl; refine Kv_ ?_; refine blk_put (cs := #[.string t187, .int .i64 0, .int .i64 0, .int .i64 0, .int .i64 0, .string (⟨#[]⟩ : ByteArray), .string (⟨#[]⟩ : ByteArray), .string (⟨#[]⟩ : ByteArray)]) ?_ 1 _ rfl; refine Kv_ ?_; refine blk_put (cs := #[.string (⟨#[]⟩ : ByteArray), .int .i64 0, .int .i64 0, .int .i64 0, .int .i64 0, .string (⟨#[]⟩ : ByteArray), .string (⟨#[]⟩ : ByteArray), .string (⟨#[]⟩ : ByteArray)]) ?_ 0 _ rfl; exact Kq_ BK196)) : gb197 ≠ gb196)); replace BK174 := Kf_ BK174 NB174_196 hb; replace BK186 := Kf_ BK186 NB186_196 hb; replace BK196 := Aside0.mk (blk_below (g := gb196) (o := .cells #[.string t187, .int .i64 t188, .int .i64 t189, .int .i64 t190, .int .i64 t191, .string t192, .string t193, .string t194] 23 (0, 0)) (by refine Kv_ ?_; refine blk_put (cs := #[.string t187, .int .i64 t188, .int .i64 t189, .int .i64 t190, .int .i64 t191, .string t192, .string t193, .string (⟨#[]⟩ : ByteArray)]) ?_ 7 _ rfl; refine Kv_ ?_; refine blk_put (cs := #[.string t187, .int .i64 t188, .int .i64 t189, .int .i64 t190, .int .i64 t191, .string t192, .string (⟨#[]⟩ : ByteArray), .string (⟨#[]⟩ : ByteArray)]) ?_ 6 _ rfl; refine Kv_ ?_; refine blk_put (cs := #[.string t187, .int .i64 t188, .int .i64 t189, .int .i64 t190, .int .i64 t191, .string (⟨#[]⟩ : ByteArray), .string (⟨#[]⟩ : ByteArray), .string (⟨#[]⟩ : ByteArray)]) ?_ 5 _ rfl; refine Kv_ ?_; refine blk_put (cs := #[.string t187, .int .i64 t188, .int .i64 t189, .int .i64 t190, .int .i64 0, .string (⟨#[]⟩ : ByteArray), .string (⟨#[]⟩ : ByteArray), .string (⟨#[]⟩ : ByteArray)]) ?_ 4 _ rfl; refine Kv_ ?_; refine blk_put (cs := #[.string t187, .int .i64 t188, .int .i64 t189, .int .i64 0, .int .i64 0, .string (⟨#[]⟩ : ByteArray), .string (⟨#[]⟩ : ByteArray), .string (⟨#[]⟩ : ByteArray)]) ?_ 3 _ rfl; refine Kv_ ?_; refine blk_put (cs := #[.string t187, .int .i64 t188, .int .i64 0, .int .i64 0, .int .i64 0, .string (⟨#[]⟩ : ByteArray), .string (⟨#[]⟩ : ByteArray), .string (⟨#[]⟩ : ByteArray)]) ?_ 2 _ rfl; refine Kv_ ?_; refine blk_put (cs := #[.string t187, .int .i64 0, .int .i64 0, .int .i64 0, .int .i64 0, .string (⟨#[]⟩ : ByteArray), .string (⟨#[]⟩ : ByteArray), .string (⟨#[]⟩ : ByteArray)]) ?_ 1 _ rfl; refine Kv_ ?_; refine blk_put (cs := #[.string (⟨#[]⟩ : ByteArray), .int .i64 0, .int .i64 0, .int .i64 0, .int .i64 0, .string (⟨#[]⟩ : ByteArray), .string (⟨#[]⟩ : ByteArray), .string (⟨#[]⟩ : ByteArray)]) ?_ 0 _ rfl; exact Kq_ BK196) hb); replace HB := Kt_ HB GE196 hb; clear hb hbox hg; have hnb32 := NB197_174.out; have hnc32 := NB174_197.out; have hnb33 := NB197_186.out; have hnc33 := NB186_197.out; have hnb34 := NB197_196.out; have hnc34 := NB196_197.out; obtain ⟨hcz35_0, hcz35_1, hcz35_2, hcz35_3, hcz35_4, hcz35_5, hcz35_6, hfz35_0, hfz35_1, hfz35_2, hfz35_3, hfz35_4, hfz35_5, hfz35_6⟩ := Ke7_ BK197.out) | ((with_reducible refine gate_callee (f := 17) rfl ?_); refine Kg_ (some 32) rfl rfl Try.func17 (by kernel_rfl) rfl #[.agg #[.int .i64 7, .string (⟨#[118]⟩ : ByteArray), .bool true, .int .u64 1, .int .u64 2, .int .u64 3, .int .u64 4]] rfl ?_; (with_reducible refine (gate_Answer.calls k 7 (⟨#[118]⟩ : ByteArray) true 1 2 3 4 t198 _ A5.out).mono ?_); rintro e w36 ⟨rfl, hb⟩; refine ⟨_, rfl, ?_⟩; replace BK174 := Kf_ BK174 NB174_197 hb; replace BK186 := Kf_ BK186 NB186_197 hb; replace BK196 := Kf_ BK196 NB196_197 hb; replace BK197 := Aside0.mk (blk_below (g := gb197) (o := .cells #[.int .i64 7, .string (⟨#[118]⟩ : ByteArray), .bool true, .int .u64 1, .int .u64 2, .int .u64 3, .int .u64 4] 41 (0, 0)) (by refine Kv_ ?_; refine blk_put (cs := #[.int .i64 7, .string (⟨#[118]⟩ : ByteArray), .bool true, .int .u64 1, .int .u64 2, .int .u64 3, .int .u64 0]) ?_ 6 _ rfl; refine Kv_ ?_; refine blk_put (cs := #[.int .i64 7, .string (⟨#[118]⟩ : ByteArray), .bool true, .int .u64 1, .int .u64 2, .int .u64 0, .int .u64 0]) ?_ 5 _ rfl; refine Kv_ ?_; refine blk_put (cs := #[.int .i64 7, .string (⟨#[118]⟩ : ByteArray), .bool true, .int .u64 1, .int .u64 0, .int .u64 0, .int .u64 0]) ?_ 4 _ rfl; refine Kv_ ?_; refine blk_put (cs := #[.int .i64 7, .string (⟨#[118]⟩ : ByteArray), .bool true, .int .u64 0, .int .u64 0, .int .u64 0, .int .u64 0]) ?_ 3 _ rfl; refine Kv_ ?_; refine blk_put (cs := #[.int .i64 7, .string (⟨#[118]⟩ : ByteArray), .bool false, .int .u64 0, .int .u64 0, .int .u64 0, .int .u64 0]) ?_ 2 _ rfl; refine Kv_ ?_; refine blk_put (cs := #[.int .i64 7, .string (⟨#[]⟩ : ByteArray), .bool false, .int .u64 0, .int .u64 0, .int .u64 0, .int .u64 0]) ?_ 1 _ rfl; refine Kv_ ?_; refine blk_put (cs := #[.int .i64 0, .string (⟨#[]⟩ : ByteArray), .bool false, .int .u64 0, .int .u64 0, .int .u64 0, .int .u64 0]) ?_ 0 _ rfl; exact Kq_ BK197) hb); replace HB := Kt_ HB GE197 hb; (try clear hb); (try clear hb2); (try clear hk); (try clear hi)) | ((with_reducible refine gate_callee (f := 23) rfl ?_); refine Kg_ (some 35) rfl rfl Try.func23 (by kernel_rfl) rfl #[.string t198] rfl ?_; (with_reducible refine (gate_Read.calls k t198 t199 t200 t201 t202 t203 t204 t205 true _ A6.out).mono ?_); rintro e w37 ⟨rfl, hb⟩; refine ⟨_, rfl, ?_⟩; replace BK174 := Kb_ BK174 hb; replace BK186 := Kb_ BK186 hb; replace BK196 := Kb_ BK196 hb; replace BK197 := Kb_ BK197 hb; replace HB := Ks_ HB hb; (try clear hb); (try clear hb2); (try clear hk); (try clear hi)) | ((with_reducible refine gate_dst (N := 10) rfl ?_); refine box_event ?hg (N := 10) ?hd (cs := #[.int .i64 0, .string (⟨#[]⟩ : ByteArray), .bool false, .int .u64 0, .int .u64 0, .int .u64 0, .int .u64 0]) (t := 41) ?hr ?_; (case hd => rfl); (case hg => rfl); (case hr => first | (go_simp; done) | (go_simp; rfl)); intro gb207 hg w38 hbox hb; have BK207 := Aside0.mk (hbox); have GW207 := Kw_ HB hg; have GE207 := GW207; have NB174_207 := Kl_ BK174 hg; have NB207_174 := Kr_ BK174 hg; have NB186_207 := Kl_ BK186 hg; have NB207_186 := Kr_ BK186 hg; have NB196_207 := Kl_ BK196 hg; have NB207_196 := Kr_ BK196 hg; have NB197_207 := Kl_ BK197 hg; have NB207_197 := Kr_ BK197 hg; replace BK174 := Kb_ BK174 hb; replace BK186 := Kb_ BK186 hb; replace BK196 := Kb_ BK196 hb; replace BK197 := Kb_ BK197 hb; replace HB := Ks_ HB hb; clear hb hbox hg; have hnb39 := NB207_174.out; have hnc39 := NB174_207.out; have hnb40 := NB207_186.out; have hnc40 := NB186_207.out; have hnb41 := NB207_196.out; have hnc41 := NB196_207.out; have hnb42 := NB207_197.out; have hnc42 := NB197_207.out; obtain ⟨hcz43_0, hcz43_1, hcz43_2, hcz43_3, hcz43_4, hcz43_5, hcz43_6, hfz43_0, hfz43_1, hfz43_2, hfz43_3, hfz43_4, hfz43_5, hfz43_6⟩ := Ke7_ BK207.out; obtain ⟨hcz44_0, hcz44_1, hcz44_2, hcz44_3, hcz44_4, hcz44_5, hcz44_6, hcz44_7, hfz44_0, hfz44_1, hfz44_2, hfz44_3, hfz44_4, hfz44_5, hfz44_6, hfz44_7⟩ := Ke8_ BK174.out) | ((with_reducible refine gate_callee (f := 15) rfl ?_); refine Kg_ (some 39) rfl rfl Try.func15 (by kernel_rfl) rfl #[.agg #[.string (⟨#[116]⟩ : ByteArray), .int .i64 1, .int .i64 2, .int .i64 3, .int .i64 4, .string (⟨#[98]⟩ : ByteArray), .string (⟨#[107]⟩ : ByteArray), .string (⟨#[118]⟩ : ByteArray)]] rfl ?_; (with_reducible refine (gate_Right.calls (⟨#[116]⟩ : ByteArray) 1 2 3 4 (⟨#[98]⟩ : ByteArray) (⟨#[107]⟩ : ByteArray) (⟨#[118]⟩ : ByteArray) true _ A7.out).mono ?_); rintro e w45 ⟨rfl, hb⟩; refine ⟨_, rfl, ?_⟩; replace BK174 := Kf_ BK174 NB174_207 hb; replace BK186 := Kf_ BK186 NB186_207 hb; replace BK196 := Kf_ BK196 NB196_207 hb; replace BK197 := Kf_ BK197 NB197_207 hb; replace BK207 := Aside0.mk (blk_below (g := gb207) (o := .cells #[.int .i64 t199, .string t200, .bool t201, .int .u64 t202, .int .u64 t203, .int .u64 t204, .int .u64 t205] 41 (0, 0)) (by refine Kv_ ?_; refine blk_put (cs := #[.int .i64 t199, .string t200, .bool t201, .int .u64 t202, .int .u64 t203, .int .u64 t204, .int .u64 0]) ?_ 6 _ rfl; refine Kv_ ?_; refine blk_put (cs := #[.int .i64 t199, .string t200, .bool t201, .int .u64 t202, .int .u64 t203, .int .u64 0, .int .u64 0]) ?_ 5 _ rfl; refine Kv_ ?_; refine blk_put (cs := #[.int .i64 t199, .string t200, .bool t201, .int .u64 t202, .int .u64 0, .int .u64 0, .int .u64 0]) ?_ 4 _ rfl; refine Kv_ ?_; refine blk_put (cs := #[.int .i64 t199, .string t200, .bool t201, .int .u64 0, .int .u64 0, .int .u64 0, .int .u64 0]) ?_ 3 _ rfl; refine Kv_ ?_; refine blk_put (cs := #[.int .i64 t199, .string t200, .bool false, .int .u64 0, .int .u64 0, .int .u64 0, .int .u64 0]) ?_ 2 _ rfl; refine Kv_ ?_; refine blk_put (cs := #[.int .i64 t199, .string (⟨#[]⟩ : ByteArray), .bool false, .int .u64 0, .int .u64 0, .int .u64 0, .int .u64 0]) ?_ 1 _ rfl; refine Kv_ ?_; refine blk_put (cs := #[.int .i64 0, .string (⟨#[]⟩ : ByteArray), .bool false, .int .u64 0, .int .u64 0, .int .u64 0, .int .u64 0]) ?_ 0 _ rfl; exact Kq_ BK207) hb); replace HB := Kt_ HB GE207 hb; (try clear hb); (try clear hb2); (try clear hk); (try clear hi); obtain ⟨hcz46_0, hcz46_1, hcz46_2, hcz46_3, hcz46_4, hcz46_5, hcz46_6, hcz46_7, hfz46_0, hfz46_1, hfz46_2, hfz46_3, hfz46_4, hfz46_5, hfz46_6, hfz46_7⟩ := Ke8_ BK186.out; obtain ⟨hcz47_0, hcz47_1, hcz47_2, hcz47_3, hcz47_4, hcz47_5, hcz47_6, hcz47_7, hfz47_0, hfz47_1, hfz47_2, hfz47_3, hfz47_4, hfz47_5, hfz47_6, hfz47_7⟩ := Ke8_ BK174.out; obtain ⟨hcz48_0, hcz48_1, hcz48_2, hcz48_3, hcz48_4, hcz48_5, hcz48_6, hfz48_0, hfz48_1, hfz48_2, hfz48_3, hfz48_4, hfz48_5, hfz48_6⟩ := Ke7_ BK207.out; obtain ⟨hcz49_0, hcz49_1, hcz49_2, hcz49_3, hcz49_4, hcz49_5, hcz49_6, hfz49_0, hfz49_1, hfz49_2, hfz49_3, hfz49_4, hfz49_5, hfz49_6⟩ := Ke7_ BK197.out) | (go_at_call 15; (with_reducible refine (gate_Right.calls (⟨#[]⟩ : ByteArray) 256 0 0 0 (⟨#[]⟩ : ByteArray) (⟨#[]⟩ : ByteArray) (⟨#[]⟩ : ByteArray) false _ A17.out).mono ?_); rintro e w50 ⟨rfl, hb⟩; replace BK174 := Kb_ BK174 hb; replace BK186 := Kb_ BK186 hb; replace BK196 := Kb_ BK196 hb; replace BK197 := Kb_ BK197 hb; replace BK207 := Kb_ BK207 hb; replace HB := Ks_ HB hb; (try clear hb); (try clear hb2); (try clear hk); (try clear hi)))
  go_ret
  exact ⟨Kh_, by repeat (first | (with_reducible first | exact HB.out | apply below_alloc | apply pw_below_drewN | apply below_drew1 | refine below_set ?_ GE174.out | refine below_set ?_ GE186.out | refine below_set ?_ GE196.out | refine below_set ?_ GE197.out | refine below_set ?_ GE207.out) | exact HB.out)⟩
end Go.Proofs.Ytplgbkobpanbfaa.Q
