import Derived.Test.YtoagfdpgnfinhaaGStreamReady8
import Derived.Test.YtoagfdpgnfinhaaGStreamReady9
import Derived.Test.YtoagfdpgnfinhaaGStreamReady4
set_option linter.unusedVariables false
namespace Go.Proofs.Ytoagfdpgnfinhaa.Q
open Go.RowKit Go.Proofs.Ytoagfdpgnfinhaa.Q Go.Proofs.YtoagfdpgnfinhaaW.PrintWords Go.Proofs.YtoagfdpgnfinhaaW.PrintLast Go.Proofs.YtoagfdpgnfinhaaW.PrintMore
def tenementlaw15_StreamReady.Pure : Prop := ∀ (x0 : S39) (x1 : S63), (wf39 x0) → (wf63 x1) → ∃ k, tenementlaw15_StreamReady_p0.f k (x0.f0.f0.f0) (x0.f0.f0.f1) (x0.f0.f0.f2) (x0.f0.f0.f3) (x0.f0.f1) (x0.f1) (x1.f0.f0) (x1.f0.f1) (x1.f0.f2) (x1.f0.f3) (x1.f1) = some true ∨ tenementlaw15_StreamReady_p1.f k (x0.f0.f0.f0) (x0.f0.f0.f1) (x0.f0.f0.f2) (x0.f0.f0.f3) (x0.f0.f1) (x0.f1) (x1.f0.f0) (x1.f0.f1) (x1.f0.f2) (x1.f0.f3) (x1.f1) = some true
end Go.Proofs.Ytoagfdpgnfinhaa.Q

/- What is next is old behind it, and nothing else of its datacenter is next then but the one behind. -/
set_option linter.unusedVariables false
set_option linter.unusedSimpArgs false
namespace Go.Proofs.Ytoagfdpgnfinhaa.Pure
open Go.RowKit Go.Proofs.Ytoagfdpgnfinhaa.Q Go.Proofs.YtoagfdpgnfinhaaW.PrintWords Go.Proofs.YtoagfdpgnfinhaaW.PrintLast Go.Proofs.YtoagfdpgnfinhaaW.PrintMore Go.Proofs.Ytoagfdpgnfinhaa.Plain
theorem mx_beq (a b : Int) : (mx a b == b) = decide (a ≤ b) := by
  rw [Bool.eq_iff_iff, beq_iff_eq, decide_eq_true_eq]
  unfold mx
  split <;> omega
theorem vleq_f (a b c d x y z u : Int) : vec_Leq.f a b c d x y z u = some (decide (a ≤ x ∧ b ≤ y ∧ c ≤ z ∧ d ≤ u)) := by
  unfold vec_Leq.f vec_Join.f
  simp only [Option.bind_some, mx_beq, Bool.decide_and]
theorem vleq_true {a b c d x y z u : Int} (h : a ≤ x ∧ b ≤ y ∧ c ≤ z ∧ d ≤ u) : vec_Leq.f a b c d x y z u = some true :=
  (vleq_f a b c d x y z u).trans (congrArg some (decide_eq_true h))
theorem vleq_false {a b c d x y z u : Int} (h : ¬ (a ≤ x ∧ b ≤ y ∧ c ≤ z ∧ d ≤ u)) : vec_Leq.f a b c d x y z u = some false :=
  (vleq_f a b c d x y z u).trans (congrArg some (decide_eq_false h))
theorem vector_f {v0 v1 v2 v3 : Int} (h0 : (Lit.int .u64 v0).wf = true) (h1 : (Lit.int .u64 v1).wf = true) (h2 : (Lit.int .u64 v2).wf = true) (h3 : (Lit.int .u64 v3).wf = true) (own : Bool) {k : Nat} (hk : 5 ≤ k) :
    ∃ n0 n1 n2 n3 : Nat, tenementlaw15_Vector_vector.f k v0 v1 v2 v3 own = some ((n0 : Int), (n1 : Int), (n2 : Int), (n3 : Int)) ∧ n0 < 18446744073709551616 ∧ n1 < 18446744073709551616 ∧ n2 < 18446744073709551616 ∧ n3 < 18446744073709551616 := by
  have h0 := u64_of h0
  have h1 := u64_of h1
  have h2 := u64_of h2
  have h3 := u64_of h3
  unfold tenementlaw15_Vector_vector.f
  cases own with
  | false =>
    rw [if_neg (by simp)]
    exact ⟨v0.toNat, v1.toNat, v2.toNat, v3.toNat, by rw [Int.toNat_of_nonneg h0.1, Int.toNat_of_nonneg h1.1, Int.toNat_of_nonneg h2.1, Int.toNat_of_nonneg h3.1], by omega, by omega, by omega, by omega⟩
  | true =>
    rw [if_pos rfl]
    obtain ⟨k, rfl⟩ : ∃ m, k = m + 5 := ⟨k - 5, by omega⟩
    have e : tenementlaw15_Vector_vector.l0 (k + 5) 0 v0 v1 v2 v3 true = some (Int.tmod v0 4, Int.tmod v1 4, Int.tmod v2 4, Int.tmod v3 4) := by
      rw [tenementlaw15_Vector_vector.l0, if_pos (by omega), if_pos rfl, show wrap64 (0 + 1) = 1 from wrap64_id (by omega) (by omega)]
      rw [tenementlaw15_Vector_vector.l0, if_pos (by omega), if_neg (by omega), if_pos rfl, show wrap64 (1 + 1) = 2 from wrap64_id (by omega) (by omega)]
      rw [tenementlaw15_Vector_vector.l0, if_pos (by omega), if_neg (by omega), if_neg (by omega), if_pos rfl, show wrap64 (2 + 1) = 3 from wrap64_id (by omega) (by omega)]
      rw [tenementlaw15_Vector_vector.l0, if_pos (by omega), if_neg (by omega), if_neg (by omega), if_neg (by omega), if_pos rfl, show wrap64 (3 + 1) = 4 from wrap64_id (by omega) (by omega)]
      rw [tenementlaw15_Vector_vector.l0, if_neg (by omega)]
    rw [e, Int.tmod_eq_emod_of_nonneg h0.1, Int.tmod_eq_emod_of_nonneg h1.1, Int.tmod_eq_emod_of_nonneg h2.1, Int.tmod_eq_emod_of_nonneg h3.1]
    exact ⟨(v0 % 4).toNat, (v1 % 4).toNat, (v2 % 4).toNat, (v3 % 4).toNat, by rw [Int.toNat_of_nonneg (by omega), Int.toNat_of_nonneg (by omega), Int.toNat_of_nonneg (by omega), Int.toNat_of_nonneg (by omega)], by omega, by omega, by omega, by omega⟩
theorem vr_true {a b c d : Int} (h : a ≤ 1152921504606846976 ∧ b ≤ 1152921504606846976 ∧ c ≤ 1152921504606846976 ∧ d ≤ 1152921504606846976) : vec_Right.f a b c d = some true := by
  unfold vec_Right.f
  rw [vleq_true h, Option.bind_some]
theorem le_mx (a b : Int) : b ≤ mx a b := by unfold mx; split <;> omega
theorem l1 : ((1 : Int) = -1) = False := by decide
theorem l2 : ((0 : Int) = -1) = False := by decide
theorem l3 : ((0 : Int) = 1) = False := by decide
theorem l4 : ((-1 : Int) = 1) = False := by decide
theorem ready_1 {a0 a1 a2 a3 s0 s1 s2 s3 : Int} (hs : s0 ≤ 1152921504606846976 ∧ s1 ≤ 1152921504606846976 ∧ s2 ≤ 1152921504606846976 ∧ s3 ≤ 1152921504606846976) (hp : 0 < s0) (ha : 0 ≤ a0) : stream_Ready.f a0 a1 a2 a3 s0 s1 s2 s3 1 = some (if s0 ≤ a0 then -1 else if s0 ≤ a0 + 1 ∧ s1 ≤ a1 ∧ s2 ≤ a2 ∧ s3 ≤ a3 then 1 else 0) := by
  have R : stamp_Right.f s0 s1 s2 s3 1 = some true := by
    unfold stamp_Right.f
    rw [vr_true hs, Option.bind_some, if_pos rfl]
    show some (decide (s0 > 0)) = some true
    exact congrArg some (decide_eq_true hp)
  have N : stamp_Stamp_N.f s0 s1 s2 s3 1 = some s0 := rfl
  have T : vec_At.f a0 a1 a2 a3 1 = some a0 := rfl
  unfold stream_Ready.f
  rw [T, Option.bind_some, R, Option.bind_some, if_pos rfl, N, Option.bind_some]
  by_cases c : s0 ≤ a0
  · rw [if_pos c, if_pos c]
  · rw [if_neg c, if_neg c]
    have e : IntKind.u64.wrap (a0 + 1) = a0 + 1 := by simp only [IntKind.wrap_u64]; omega
    have W : vec_With.f a0 a1 a2 a3 1 (a0 + 1) = some (a0 + 1, a1, a2, a3) := rfl
    rw [e, W, Option.bind_some]
    by_cases q : s0 ≤ a0 + 1 ∧ s1 ≤ a1 ∧ s2 ≤ a2 ∧ s3 ≤ a3
    · rw [if_pos q]
      show (vec_Leq.f s0 s1 s2 s3 (a0 + 1) a1 a2 a3).bind _ = _
      rw [vleq_true q, Option.bind_some, if_pos rfl]
    · rw [if_neg q]
      show (vec_Leq.f s0 s1 s2 s3 (a0 + 1) a1 a2 a3).bind _ = _
      rw [vleq_false q, Option.bind_some, if_neg (by simp)]
theorem law_1 {x0 x1 x2 x3 x4 y0 y1 y2 y3 a0 a1 a2 a3 s0 s1 s2 s3 : Int} {xo yo : Bool} {k : Nat} (em : tenementlaw15_Mark_mark.f k x0 x1 x2 x3 x4 true = some (s0, s1, s2, s3, 1)) (ev : tenementlaw15_Vector_vector.f k y0 y1 y2 y3 yo = some (a0, a1, a2, a3)) (hs : s0 ≤ 1152921504606846976 ∧ s1 ≤ 1152921504606846976 ∧ s2 ≤ 1152921504606846976 ∧ s3 ≤ 1152921504606846976) (hp : 0 < s0) (h0 : ∀ x ∈ [a0, a1, a2, a3, s0, s1, s2, s3], (0 : Int) ≤ x) :
    tenementlaw15_StreamReady_p0.f k x0 x1 x2 x3 x4 xo y0 y1 y2 y3 yo = some true ∨ tenementlaw15_StreamReady_p1.f k x0 x1 x2 x3 x4 xo y0 y1 y2 y3 yo = some true := by
  have z : ∀ x ∈ [a0, a1, a2, a3, s0, s1, s2, s3], (0 : Int) ≤ x := h0
  simp only [List.mem_cons, List.not_mem_nil, or_false, forall_eq_or_imp, forall_eq] at z
  obtain ⟨z0, z1, z2, z3, z4, z5, z6, z7⟩ := z
  clear h0
  have J : vec_Join.f a0 a1 a2 a3 s0 s1 s2 s3 = some (mx a0 s0, mx a1 s1, mx a2 s2, mx a3 s3) := rfl
  have N : stamp_Stamp_N.f s0 s1 s2 s3 1 = some s0 := rfl
  have T : vec_At.f a0 a1 a2 a3 1 = some a0 := rfl
  have W2 : vec_With.f (mx a0 s0) (mx a1 s1) (mx a2 s2) (mx a3 s3) 1 (IntKind.u64.wrap (s0 - 1)) = some (IntKind.u64.wrap (s0 - 1), mx a1 s1, mx a2 s2, mx a3 s3) := rfl
  have WS : vec_With.f s0 s1 s2 s3 1 0 = some (0, s1, s2, s3) := rfl
  have LJ : vec_Leq.f s0 s1 s2 s3 (mx a0 s0) (mx a1 s1) (mx a2 s2) (mx a3 s3) = some true := vleq_true ⟨le_mx _ _, le_mx _ _, le_mx _ _, le_mx _ _⟩
  have e : IntKind.u64.wrap (s0 - 1) = s0 - 1 := by simp only [IntKind.wrap_u64]; omega
  have hm := le_mx a0 s0
  have RJ : stream_Ready.f (mx a0 s0) (mx a1 s1) (mx a2 s2) (mx a3 s3) s0 s1 s2 s3 1 = some (-1) := by rw [ready_1 hs hp (by omega), if_pos hm]
  have RW : stream_Ready.f (IntKind.u64.wrap (s0 - 1)) (mx a1 s1) (mx a2 s2) (mx a3 s3) s0 s1 s2 s3 1 = some 1 := by
    rw [ready_1 hs hp (by omega), if_neg (by omega), if_pos]
    rw [e]
    have q0 := le_mx a0 s0
    have q1 := le_mx a1 s1
    have q2 := le_mx a2 s2
    have q3 := le_mx a3 s3
    refine ⟨?_, ?_, ?_, ?_⟩ <;> omega
  by_cases c : a0 = s0 - 1
  · left
    have E := eq_true (show a0 = IntKind.u64.wrap (s0 - 1) by rw [e]; exact c)
    have G := eq_false (show ¬ a0 ≥ s0 by omega)
    by_cases q : 0 ≤ a0 ∧ s1 ≤ a1 ∧ s2 ≤ a2 ∧ s3 ≤ a3
    · have R : stream_Ready.f a0 a1 a2 a3 s0 s1 s2 s3 1 = some 1 := by rw [ready_1 hs hp (by omega), if_neg (by omega), if_pos (by omega)]
      have L := vleq_true q
      clear hs hp z0 z1 z2 z3 z4 z5 z6 z7 hm e c q
      unfold tenementlaw15_StreamReady_p0.f
      simp only [(show tenementlaw15_examples.f = some true from rfl), em, ev, Option.bind_some, eq_self, if_true, if_false, Bool.false_eq_true, l1, l2, l3, l4, R, J, N, W2, T, LJ, WS, RJ, RW, E, G, L]
    · have R : stream_Ready.f a0 a1 a2 a3 s0 s1 s2 s3 1 = some 0 := by rw [ready_1 hs hp (by omega), if_neg (by omega), if_neg (by omega)]
      have L := vleq_false q
      clear hs hp z0 z1 z2 z3 z4 z5 z6 z7 hm e c q
      unfold tenementlaw15_StreamReady_p0.f
      simp only [(show tenementlaw15_examples.f = some true from rfl), em, ev, Option.bind_some, eq_self, if_true, if_false, Bool.false_eq_true, l1, l2, l3, l4, R, J, N, W2, T, LJ, WS, RJ, RW, E, G, L]
  · right
    have E := eq_false (show ¬ a0 = IntKind.u64.wrap (s0 - 1) by rw [e]; exact c)
    by_cases q : s0 ≤ a0
    · have R : stream_Ready.f a0 a1 a2 a3 s0 s1 s2 s3 1 = some (-1) := by rw [ready_1 hs hp (by omega), if_pos q]
      have G := eq_true (show a0 ≥ s0 by omega)
      clear hs hp z0 z1 z2 z3 z4 z5 z6 z7 hm e c q
      unfold tenementlaw15_StreamReady_p1.f
      simp only [(show tenementlaw15_examples.f = some true from rfl), em, ev, Option.bind_some, eq_self, if_true, if_false, Bool.false_eq_true, l1, l2, l3, l4, R, J, N, W2, T, LJ, WS, RJ, RW, E, G]
    · have R : stream_Ready.f a0 a1 a2 a3 s0 s1 s2 s3 1 = some 0 := by rw [ready_1 hs hp (by omega), if_neg q, if_neg (by omega)]
      have G := eq_false (show ¬ a0 ≥ s0 by omega)
      clear hs hp z0 z1 z2 z3 z4 z5 z6 z7 hm e c q
      unfold tenementlaw15_StreamReady_p1.f
      simp only [(show tenementlaw15_examples.f = some true from rfl), em, ev, Option.bind_some, eq_self, if_true, if_false, Bool.false_eq_true, l1, l2, l3, l4, R, J, N, W2, T, LJ, WS, RJ, RW, E, G]
theorem ready_2 {a0 a1 a2 a3 s0 s1 s2 s3 : Int} (hs : s0 ≤ 1152921504606846976 ∧ s1 ≤ 1152921504606846976 ∧ s2 ≤ 1152921504606846976 ∧ s3 ≤ 1152921504606846976) (hp : 0 < s1) (ha : 0 ≤ a1) : stream_Ready.f a0 a1 a2 a3 s0 s1 s2 s3 2 = some (if s1 ≤ a1 then -1 else if s0 ≤ a0 ∧ s1 ≤ a1 + 1 ∧ s2 ≤ a2 ∧ s3 ≤ a3 then 1 else 0) := by
  have R : stamp_Right.f s0 s1 s2 s3 2 = some true := by
    unfold stamp_Right.f
    rw [vr_true hs, Option.bind_some, if_pos rfl]
    show some (decide (s1 > 0)) = some true
    exact congrArg some (decide_eq_true hp)
  have N : stamp_Stamp_N.f s0 s1 s2 s3 2 = some s1 := rfl
  have T : vec_At.f a0 a1 a2 a3 2 = some a1 := rfl
  unfold stream_Ready.f
  rw [T, Option.bind_some, R, Option.bind_some, if_pos rfl, N, Option.bind_some]
  by_cases c : s1 ≤ a1
  · rw [if_pos c, if_pos c]
  · rw [if_neg c, if_neg c]
    have e : IntKind.u64.wrap (a1 + 1) = a1 + 1 := by simp only [IntKind.wrap_u64]; omega
    have W : vec_With.f a0 a1 a2 a3 2 (a1 + 1) = some (a0, a1 + 1, a2, a3) := rfl
    rw [e, W, Option.bind_some]
    by_cases q : s0 ≤ a0 ∧ s1 ≤ a1 + 1 ∧ s2 ≤ a2 ∧ s3 ≤ a3
    · rw [if_pos q]
      show (vec_Leq.f s0 s1 s2 s3 a0 (a1 + 1) a2 a3).bind _ = _
      rw [vleq_true q, Option.bind_some, if_pos rfl]
    · rw [if_neg q]
      show (vec_Leq.f s0 s1 s2 s3 a0 (a1 + 1) a2 a3).bind _ = _
      rw [vleq_false q, Option.bind_some, if_neg (by simp)]
theorem law_2 {x0 x1 x2 x3 x4 y0 y1 y2 y3 a0 a1 a2 a3 s0 s1 s2 s3 : Int} {xo yo : Bool} {k : Nat} (em : tenementlaw15_Mark_mark.f k x0 x1 x2 x3 x4 true = some (s0, s1, s2, s3, 2)) (ev : tenementlaw15_Vector_vector.f k y0 y1 y2 y3 yo = some (a0, a1, a2, a3)) (hs : s0 ≤ 1152921504606846976 ∧ s1 ≤ 1152921504606846976 ∧ s2 ≤ 1152921504606846976 ∧ s3 ≤ 1152921504606846976) (hp : 0 < s1) (h0 : ∀ x ∈ [a0, a1, a2, a3, s0, s1, s2, s3], (0 : Int) ≤ x) :
    tenementlaw15_StreamReady_p0.f k x0 x1 x2 x3 x4 xo y0 y1 y2 y3 yo = some true ∨ tenementlaw15_StreamReady_p1.f k x0 x1 x2 x3 x4 xo y0 y1 y2 y3 yo = some true := by
  have z : ∀ x ∈ [a0, a1, a2, a3, s0, s1, s2, s3], (0 : Int) ≤ x := h0
  simp only [List.mem_cons, List.not_mem_nil, or_false, forall_eq_or_imp, forall_eq] at z
  obtain ⟨z0, z1, z2, z3, z4, z5, z6, z7⟩ := z
  clear h0
  have J : vec_Join.f a0 a1 a2 a3 s0 s1 s2 s3 = some (mx a0 s0, mx a1 s1, mx a2 s2, mx a3 s3) := rfl
  have N : stamp_Stamp_N.f s0 s1 s2 s3 2 = some s1 := rfl
  have T : vec_At.f a0 a1 a2 a3 2 = some a1 := rfl
  have W2 : vec_With.f (mx a0 s0) (mx a1 s1) (mx a2 s2) (mx a3 s3) 2 (IntKind.u64.wrap (s1 - 1)) = some (mx a0 s0, IntKind.u64.wrap (s1 - 1), mx a2 s2, mx a3 s3) := rfl
  have WS : vec_With.f s0 s1 s2 s3 2 0 = some (s0, 0, s2, s3) := rfl
  have LJ : vec_Leq.f s0 s1 s2 s3 (mx a0 s0) (mx a1 s1) (mx a2 s2) (mx a3 s3) = some true := vleq_true ⟨le_mx _ _, le_mx _ _, le_mx _ _, le_mx _ _⟩
  have e : IntKind.u64.wrap (s1 - 1) = s1 - 1 := by simp only [IntKind.wrap_u64]; omega
  have hm := le_mx a1 s1
  have RJ : stream_Ready.f (mx a0 s0) (mx a1 s1) (mx a2 s2) (mx a3 s3) s0 s1 s2 s3 2 = some (-1) := by rw [ready_2 hs hp (by omega), if_pos hm]
  have RW : stream_Ready.f (mx a0 s0) (IntKind.u64.wrap (s1 - 1)) (mx a2 s2) (mx a3 s3) s0 s1 s2 s3 2 = some 1 := by
    rw [ready_2 hs hp (by omega), if_neg (by omega), if_pos]
    rw [e]
    have q0 := le_mx a0 s0
    have q1 := le_mx a1 s1
    have q2 := le_mx a2 s2
    have q3 := le_mx a3 s3
    refine ⟨?_, ?_, ?_, ?_⟩ <;> omega
  by_cases c : a1 = s1 - 1
  · left
    have E := eq_true (show a1 = IntKind.u64.wrap (s1 - 1) by rw [e]; exact c)
    have G := eq_false (show ¬ a1 ≥ s1 by omega)
    by_cases q : s0 ≤ a0 ∧ 0 ≤ a1 ∧ s2 ≤ a2 ∧ s3 ≤ a3
    · have R : stream_Ready.f a0 a1 a2 a3 s0 s1 s2 s3 2 = some 1 := by rw [ready_2 hs hp (by omega), if_neg (by omega), if_pos (by omega)]
      have L := vleq_true q
      clear hs hp z0 z1 z2 z3 z4 z5 z6 z7 hm e c q
      unfold tenementlaw15_StreamReady_p0.f
      simp only [(show tenementlaw15_examples.f = some true from rfl), em, ev, Option.bind_some, eq_self, if_true, if_false, Bool.false_eq_true, l1, l2, l3, l4, R, J, N, W2, T, LJ, WS, RJ, RW, E, G, L]
    · have R : stream_Ready.f a0 a1 a2 a3 s0 s1 s2 s3 2 = some 0 := by rw [ready_2 hs hp (by omega), if_neg (by omega), if_neg (by omega)]
      have L := vleq_false q
      clear hs hp z0 z1 z2 z3 z4 z5 z6 z7 hm e c q
      unfold tenementlaw15_StreamReady_p0.f
      simp only [(show tenementlaw15_examples.f = some true from rfl), em, ev, Option.bind_some, eq_self, if_true, if_false, Bool.false_eq_true, l1, l2, l3, l4, R, J, N, W2, T, LJ, WS, RJ, RW, E, G, L]
  · right
    have E := eq_false (show ¬ a1 = IntKind.u64.wrap (s1 - 1) by rw [e]; exact c)
    by_cases q : s1 ≤ a1
    · have R : stream_Ready.f a0 a1 a2 a3 s0 s1 s2 s3 2 = some (-1) := by rw [ready_2 hs hp (by omega), if_pos q]
      have G := eq_true (show a1 ≥ s1 by omega)
      clear hs hp z0 z1 z2 z3 z4 z5 z6 z7 hm e c q
      unfold tenementlaw15_StreamReady_p1.f
      simp only [(show tenementlaw15_examples.f = some true from rfl), em, ev, Option.bind_some, eq_self, if_true, if_false, Bool.false_eq_true, l1, l2, l3, l4, R, J, N, W2, T, LJ, WS, RJ, RW, E, G]
    · have R : stream_Ready.f a0 a1 a2 a3 s0 s1 s2 s3 2 = some 0 := by rw [ready_2 hs hp (by omega), if_neg q, if_neg (by omega)]
      have G := eq_false (show ¬ a1 ≥ s1 by omega)
      clear hs hp z0 z1 z2 z3 z4 z5 z6 z7 hm e c q
      unfold tenementlaw15_StreamReady_p1.f
      simp only [(show tenementlaw15_examples.f = some true from rfl), em, ev, Option.bind_some, eq_self, if_true, if_false, Bool.false_eq_true, l1, l2, l3, l4, R, J, N, W2, T, LJ, WS, RJ, RW, E, G]
theorem ready_3 {a0 a1 a2 a3 s0 s1 s2 s3 : Int} (hs : s0 ≤ 1152921504606846976 ∧ s1 ≤ 1152921504606846976 ∧ s2 ≤ 1152921504606846976 ∧ s3 ≤ 1152921504606846976) (hp : 0 < s2) (ha : 0 ≤ a2) : stream_Ready.f a0 a1 a2 a3 s0 s1 s2 s3 3 = some (if s2 ≤ a2 then -1 else if s0 ≤ a0 ∧ s1 ≤ a1 ∧ s2 ≤ a2 + 1 ∧ s3 ≤ a3 then 1 else 0) := by
  have R : stamp_Right.f s0 s1 s2 s3 3 = some true := by
    unfold stamp_Right.f
    rw [vr_true hs, Option.bind_some, if_pos rfl]
    show some (decide (s2 > 0)) = some true
    exact congrArg some (decide_eq_true hp)
  have N : stamp_Stamp_N.f s0 s1 s2 s3 3 = some s2 := rfl
  have T : vec_At.f a0 a1 a2 a3 3 = some a2 := rfl
  unfold stream_Ready.f
  rw [T, Option.bind_some, R, Option.bind_some, if_pos rfl, N, Option.bind_some]
  by_cases c : s2 ≤ a2
  · rw [if_pos c, if_pos c]
  · rw [if_neg c, if_neg c]
    have e : IntKind.u64.wrap (a2 + 1) = a2 + 1 := by simp only [IntKind.wrap_u64]; omega
    have W : vec_With.f a0 a1 a2 a3 3 (a2 + 1) = some (a0, a1, a2 + 1, a3) := rfl
    rw [e, W, Option.bind_some]
    by_cases q : s0 ≤ a0 ∧ s1 ≤ a1 ∧ s2 ≤ a2 + 1 ∧ s3 ≤ a3
    · rw [if_pos q]
      show (vec_Leq.f s0 s1 s2 s3 a0 a1 (a2 + 1) a3).bind _ = _
      rw [vleq_true q, Option.bind_some, if_pos rfl]
    · rw [if_neg q]
      show (vec_Leq.f s0 s1 s2 s3 a0 a1 (a2 + 1) a3).bind _ = _
      rw [vleq_false q, Option.bind_some, if_neg (by simp)]
theorem law_3 {x0 x1 x2 x3 x4 y0 y1 y2 y3 a0 a1 a2 a3 s0 s1 s2 s3 : Int} {xo yo : Bool} {k : Nat} (em : tenementlaw15_Mark_mark.f k x0 x1 x2 x3 x4 true = some (s0, s1, s2, s3, 3)) (ev : tenementlaw15_Vector_vector.f k y0 y1 y2 y3 yo = some (a0, a1, a2, a3)) (hs : s0 ≤ 1152921504606846976 ∧ s1 ≤ 1152921504606846976 ∧ s2 ≤ 1152921504606846976 ∧ s3 ≤ 1152921504606846976) (hp : 0 < s2) (h0 : ∀ x ∈ [a0, a1, a2, a3, s0, s1, s2, s3], (0 : Int) ≤ x) :
    tenementlaw15_StreamReady_p0.f k x0 x1 x2 x3 x4 xo y0 y1 y2 y3 yo = some true ∨ tenementlaw15_StreamReady_p1.f k x0 x1 x2 x3 x4 xo y0 y1 y2 y3 yo = some true := by
  have z : ∀ x ∈ [a0, a1, a2, a3, s0, s1, s2, s3], (0 : Int) ≤ x := h0
  simp only [List.mem_cons, List.not_mem_nil, or_false, forall_eq_or_imp, forall_eq] at z
  obtain ⟨z0, z1, z2, z3, z4, z5, z6, z7⟩ := z
  clear h0
  have J : vec_Join.f a0 a1 a2 a3 s0 s1 s2 s3 = some (mx a0 s0, mx a1 s1, mx a2 s2, mx a3 s3) := rfl
  have N : stamp_Stamp_N.f s0 s1 s2 s3 3 = some s2 := rfl
  have T : vec_At.f a0 a1 a2 a3 3 = some a2 := rfl
  have W2 : vec_With.f (mx a0 s0) (mx a1 s1) (mx a2 s2) (mx a3 s3) 3 (IntKind.u64.wrap (s2 - 1)) = some (mx a0 s0, mx a1 s1, IntKind.u64.wrap (s2 - 1), mx a3 s3) := rfl
  have WS : vec_With.f s0 s1 s2 s3 3 0 = some (s0, s1, 0, s3) := rfl
  have LJ : vec_Leq.f s0 s1 s2 s3 (mx a0 s0) (mx a1 s1) (mx a2 s2) (mx a3 s3) = some true := vleq_true ⟨le_mx _ _, le_mx _ _, le_mx _ _, le_mx _ _⟩
  have e : IntKind.u64.wrap (s2 - 1) = s2 - 1 := by simp only [IntKind.wrap_u64]; omega
  have hm := le_mx a2 s2
  have RJ : stream_Ready.f (mx a0 s0) (mx a1 s1) (mx a2 s2) (mx a3 s3) s0 s1 s2 s3 3 = some (-1) := by rw [ready_3 hs hp (by omega), if_pos hm]
  have RW : stream_Ready.f (mx a0 s0) (mx a1 s1) (IntKind.u64.wrap (s2 - 1)) (mx a3 s3) s0 s1 s2 s3 3 = some 1 := by
    rw [ready_3 hs hp (by omega), if_neg (by omega), if_pos]
    rw [e]
    have q0 := le_mx a0 s0
    have q1 := le_mx a1 s1
    have q2 := le_mx a2 s2
    have q3 := le_mx a3 s3
    refine ⟨?_, ?_, ?_, ?_⟩ <;> omega
  by_cases c : a2 = s2 - 1
  · left
    have E := eq_true (show a2 = IntKind.u64.wrap (s2 - 1) by rw [e]; exact c)
    have G := eq_false (show ¬ a2 ≥ s2 by omega)
    by_cases q : s0 ≤ a0 ∧ s1 ≤ a1 ∧ 0 ≤ a2 ∧ s3 ≤ a3
    · have R : stream_Ready.f a0 a1 a2 a3 s0 s1 s2 s3 3 = some 1 := by rw [ready_3 hs hp (by omega), if_neg (by omega), if_pos (by omega)]
      have L := vleq_true q
      clear hs hp z0 z1 z2 z3 z4 z5 z6 z7 hm e c q
      unfold tenementlaw15_StreamReady_p0.f
      simp only [(show tenementlaw15_examples.f = some true from rfl), em, ev, Option.bind_some, eq_self, if_true, if_false, Bool.false_eq_true, l1, l2, l3, l4, R, J, N, W2, T, LJ, WS, RJ, RW, E, G, L]
    · have R : stream_Ready.f a0 a1 a2 a3 s0 s1 s2 s3 3 = some 0 := by rw [ready_3 hs hp (by omega), if_neg (by omega), if_neg (by omega)]
      have L := vleq_false q
      clear hs hp z0 z1 z2 z3 z4 z5 z6 z7 hm e c q
      unfold tenementlaw15_StreamReady_p0.f
      simp only [(show tenementlaw15_examples.f = some true from rfl), em, ev, Option.bind_some, eq_self, if_true, if_false, Bool.false_eq_true, l1, l2, l3, l4, R, J, N, W2, T, LJ, WS, RJ, RW, E, G, L]
  · right
    have E := eq_false (show ¬ a2 = IntKind.u64.wrap (s2 - 1) by rw [e]; exact c)
    by_cases q : s2 ≤ a2
    · have R : stream_Ready.f a0 a1 a2 a3 s0 s1 s2 s3 3 = some (-1) := by rw [ready_3 hs hp (by omega), if_pos q]
      have G := eq_true (show a2 ≥ s2 by omega)
      clear hs hp z0 z1 z2 z3 z4 z5 z6 z7 hm e c q
      unfold tenementlaw15_StreamReady_p1.f
      simp only [(show tenementlaw15_examples.f = some true from rfl), em, ev, Option.bind_some, eq_self, if_true, if_false, Bool.false_eq_true, l1, l2, l3, l4, R, J, N, W2, T, LJ, WS, RJ, RW, E, G]
    · have R : stream_Ready.f a0 a1 a2 a3 s0 s1 s2 s3 3 = some 0 := by rw [ready_3 hs hp (by omega), if_neg q, if_neg (by omega)]
      have G := eq_false (show ¬ a2 ≥ s2 by omega)
      clear hs hp z0 z1 z2 z3 z4 z5 z6 z7 hm e c q
      unfold tenementlaw15_StreamReady_p1.f
      simp only [(show tenementlaw15_examples.f = some true from rfl), em, ev, Option.bind_some, eq_self, if_true, if_false, Bool.false_eq_true, l1, l2, l3, l4, R, J, N, W2, T, LJ, WS, RJ, RW, E, G]
theorem StreamReady : tenementlaw15_StreamReady.Pure := by
  intro x y hx hy
  obtain ⟨⟨⟨x0, x1, x2, x3⟩, x4⟩, xo⟩ := x
  obtain ⟨⟨y0, y1, y2, y3⟩, yo⟩ := y
  obtain ⟨n0, n1, n2, n3, ey, _, _, _, _⟩ := vector_f hy.1.1 hy.1.2.1 hy.1.2.2.1 hy.1.2.2.2 yo (k := 100) (by omega)
  obtain ⟨m0, m1, m2, m3, dc, ex, hb, d1, d3, hS⟩ := mark_own (v3 := x3) (d := x4) hx.1.1.1 hx.1.1.2.1 hx.1.1.2.2.1 (k := 100) (by omega)
  have h0 : ∀ x ∈ [(n0 : Int), n1, n2, n3, m0, m1, m2, m3], (0 : Int) ≤ x := by
    intro x h
    simp only [List.mem_cons, List.not_mem_nil, or_false] at h
    omega
  have hp := hS.2
  have hs := hS.1
  clear hx hy
  refine ⟨100, ?_⟩
  have hd : dc = 1 ∨ dc = 2 ∨ dc = 3 := by omega
  rcases hd with rfl | rfl | rfl
  · exact law_1 ex ey hs hp h0
  · exact law_2 ex ey hs hp h0
  · exact law_3 ex ey hs hp h0
end Go.Proofs.Ytoagfdpgnfinhaa.Pure
