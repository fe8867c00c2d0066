import Derived.Test.YthjhkcebcgdeoaaGJudgeOrders0
import Derived.Test.YthjhkcebcgdeoaaGJudgeOrders2
import Derived.Test.YthjhkcebcgdeoaaGJudgeOrders5
set_option linter.unusedVariables false
set_option linter.unusedSimpArgs false
namespace Go.Proofs.Ythjhkcebcgdeoaa.Pure
open Go.RowKit Go.Proofs.Ythjhkcebcgdeoaa.Q Go.Proofs.YthjhkcebcgdeoaaW.PrintWords Go.Proofs.YthjhkcebcgdeoaaW.PrintLast Go.Proofs.YthjhkcebcgdeoaaW.PrintMore Go.Proofs.Ythjhkcebcgdeoaa.Plain
theorem i64_of {x : Int} (h : (Lit.int .i64 x).wf = true) : -9223372036854775808 ≤ x ∧ x ≤ 9223372036854775807 := by
 have h : IntKind.i64.min ≤ x ∧ x ≤ IntKind.i64.max := by simpa only [Lit.wf, Bool.and_eq_true, decide_eq_true_eq] using h
 exact h
theorem u64_of {x : Int} (h : (Lit.int .u64 x).wf = true) : 0 ≤ x ∧ x ≤ 18446744073709551615 := by
 have h : IntKind.u64.min ≤ x ∧ x ≤ IntKind.u64.max := by simpa only [Lit.wf, Bool.and_eq_true, decide_eq_true_eq] using h
 exact h
def own (a b c d e : Int) : Int := if e = 1 then a else if e = 2 then b else if e = 3 then c else if e = 4 then d else 0
def okS (a b c d e : Int) : Prop := (a ≤ 1152921504606846976 ∧ b ≤ 1152921504606846976 ∧ c ≤ 1152921504606846976 ∧ d ≤ 1152921504606846976) ∧ 0 < own a b c d e
theorem mark_loop (v0 v1 v2 v3 d D : Int) (k : Nat) : tenementlaw22_Mark_mark.l0 (k + 4) 0 v0 v1 v2 v3 d true 0 0 0 0 D =
  (if D = 1 then some (IntKind.u64.wrap (1 + Int.tmod v0 4), Int.tmod v1 4, Int.tmod v2 4, 0, D) else if D = 2 then some (Int.tmod v0 4, IntKind.u64.wrap (1 + Int.tmod v1 4), Int.tmod v2 4, 0, D) else
     if D = 3 then some (Int.tmod v0 4, Int.tmod v1 4, IntKind.u64.wrap (1 + Int.tmod v2 4), 0, D) else if D = 4 then some (Int.tmod v0 4, Int.tmod v1 4, Int.tmod v2 4, IntKind.u64.wrap (1 + 0), D) else none) := by
 rw [tenementlaw22_Mark_mark.l0, if_pos (by omega), if_pos rfl, show wrap64 (0 + 1) = 1 from wrap64_id (by omega) (by omega)]
 rw [tenementlaw22_Mark_mark.l0, if_pos (by omega), if_neg (by omega), if_pos rfl, show wrap64 (1 + 1) = 2 from wrap64_id (by omega) (by omega)]
 rw [tenementlaw22_Mark_mark.l0, if_pos (by omega), if_neg (by omega), if_neg (by omega), if_pos rfl, show wrap64 (2 + 1) = 3 from wrap64_id (by omega) (by omega)]
 rw [tenementlaw22_Mark_mark.l0, if_neg (by omega)]
theorem mark_own {v0 v1 v2 v3 d : Int} (h0 : (Lit.int .u64 v0).wf = true) (h1 : (Lit.int .u64 v1).wf = true) (h2 : (Lit.int .u64 v2).wf = true) {k : Nat} (hk : 4 ≤ k) :
  ∃ n0 n1 n2 n3 dc : Nat, tenementlaw22_Mark_mark.f k v0 v1 v2 v3 d true = some ((n0 : Int), (n1 : Int), (n2 : Int), (n3 : Int), (dc : Int)) ∧ (n0 ≤ 4 ∧ n1 ≤ 4 ∧ n2 ≤ 4 ∧ n3 ≤ 4) ∧ 1 ≤ dc ∧ dc ≤ 3 ∧ okS n0 n1 n2 n3 dc := by
 have h0 := u64_of h0
 have h1 := u64_of h1
 have h2 := u64_of h2
 obtain ⟨k, rfl⟩ : ∃ m, k = m + 4 := ⟨k - 4, by omega⟩
 unfold tenementlaw22_Mark_mark.f
 rw [if_pos rfl]
 have hw : 0 ≤ IntKind.u64.wrap d := by rw [IntKind.wrap_u64]; omega
 have hD : wrap64 (1 + (wrap64 (Int.tmod (IntKind.u64.wrap d) 3))) = 1 + (IntKind.u64.wrap d) % 3 := by
  rw [Int.tmod_eq_emod_of_nonneg hw, wrap64_id (x := (IntKind.u64.wrap d) % 3) (by omega) (by omega), wrap64_id (by omega) (by omega)]
 rw [hD, mark_loop, Int.tmod_eq_emod_of_nonneg h0.1, Int.tmod_eq_emod_of_nonneg h1.1, Int.tmod_eq_emod_of_nonneg h2.1, wrap_u64 (x := 1 + v0 % 4) (by omega) (by omega), wrap_u64 (x := 1 + v1 % 4) (by omega) (by omega), wrap_u64 (x := 1 + v2 % 4) (by omega) (by omega)]
 generalize IntKind.u64.wrap d = q at hw ⊢
 clear hD
 have c : q % 3 = 0 ∨ q % 3 = 1 ∨ q % 3 = 2 := by omega
 rcases c with c | c | c
 ·rw [c, if_pos (by omega)]
  refine ⟨(1 + v0 % 4).toNat, (v1 % 4).toNat, (v2 % 4).toNat, 0, 1, by rw [Int.toNat_of_nonneg (by omega), Int.toNat_of_nonneg (by omega), Int.toNat_of_nonneg (by omega)]; rfl, by omega, by omega, by omega, by omega, ?_⟩
  unfold own
  rw [if_pos (by omega)]
  omega
 ·rw [c, if_neg (by omega), if_pos (by omega)]
  refine ⟨(v0 % 4).toNat, (1 + v1 % 4).toNat, (v2 % 4).toNat, 0, 2, by rw [Int.toNat_of_nonneg (by omega), Int.toNat_of_nonneg (by omega), Int.toNat_of_nonneg (by omega)]; rfl, by omega, by omega, by omega, by omega, ?_⟩
  unfold own
  rw [if_neg (by omega), if_pos (by omega)]
  omega
 ·rw [c, if_neg (by omega), if_neg (by omega), if_pos (by omega)]
  refine ⟨(v0 % 4).toNat, (v1 % 4).toNat, (1 + v2 % 4).toNat, 0, 3, by rw [Int.toNat_of_nonneg (by omega), Int.toNat_of_nonneg (by omega), Int.toNat_of_nonneg (by omega)]; rfl, by omega, by omega, by omega, by omega, ?_⟩
  unfold own
  rw [if_neg (by omega), if_neg (by omega), if_pos (by omega)]
  omega
theorem mark_any {v0 v1 v2 v3 d : Int} (h0 : (Lit.int .u64 v0).wf = true) (h1 : (Lit.int .u64 v1).wf = true) (h2 : (Lit.int .u64 v2).wf = true) (h3 : (Lit.int .u64 v3).wf = true) (h4 : (Lit.int .i64 d).wf = true) (o : Bool) {k : Nat} (hk : 4 ≤ k) :
  ∃ (n0 n1 n2 n3 : Nat) (e : Int), tenementlaw22_Mark_mark.f k v0 v1 v2 v3 d o = some ((n0 : Int), (n1 : Int), (n2 : Int), (n3 : Int), e) ∧ (n0 < 18446744073709551616 ∧ n1 < 18446744073709551616 ∧ n2 < 18446744073709551616 ∧ n3 < 18446744073709551616) ∧ -9223372036854775808 ≤ e ∧ e ≤ 9223372036854775807 := by
 cases o with
 | true =>
  obtain ⟨n0, n1, n2, n3, dc, e, hn, l1, l3, _⟩ := mark_own (v3 := v3) (d := d) h0 h1 h2 hk
  exact ⟨n0, n1, n2, n3, dc, e, by omega, by omega, by omega⟩
 | false =>
  have h0 := u64_of h0
  have h1 := u64_of h1
  have h2 := u64_of h2
  have h3 := u64_of h3
  have h4 := i64_of h4
  unfold tenementlaw22_Mark_mark.f
  rw [if_neg (by simp)]
  exact ⟨v0.toNat, v1.toNat, v2.toNat, v3.toNat, d, by rw [Int.toNat_of_nonneg h0.1, Int.toNat_of_nonneg h1.1, Int.toNat_of_nonneg h2.1, Int.toNat_of_nonneg h3.1], by omega, h4.1, h4.2⟩
end Go.Proofs.Ythjhkcebcgdeoaa.Pure

namespace Go.Proofs.Ythjhkcebcgdeoaa.Q
open Go.RowKit Go.Proofs.YthjhkcebcgdeoaaW.PrintWords Go.Proofs.YthjhkcebcgdeoaaW.PrintLast Go.Proofs.YthjhkcebcgdeoaaW.PrintMore
attribute [local go_sem] max2_int min2_int max_two min_two max_three min_three max_four min_four   -- for this text's walks alone
set_option linter.unusedVariables false
set_option linter.unusedSimpArgs false
def vec_With.f (a0_0 a0_1 a0_2 a0_3 n x : Int) : Option (Int × Int × Int × Int) := some (if n = 1 then x else a0_0, if n = 2 then x else a0_1, if n = 3 then x else a0_2, if n = 4 then x else a0_3)
set_option maxHeartbeats 8000000 in
set_option maxRecDepth 100000 in
theorem vec_With.calls (a0_0 a0_1 a0_2 a0_3 n x : Int) (r0 r1 r2 r3 : Int) (w : World) (h : vec_With.f a0_0 a0_1 a0_2 a0_3 n x = some (r0, r1, r2, r3)) :
  Calls Try.prog 29 #[.agg #[.int .u64 a0_0, .int .u64 a0_1, .int .u64 a0_2, .int .u64 a0_3], .int .i64 n, .int .u64 x] w fun e w' => e = .returned (.agg #[.int .u64 r0, .int .u64 r1, .int .u64 r2, .int .u64 r3]) ∧ Below w.heap.size w w' := by
 unfold vec_With.f at h
 have h := Option.some.inj h
 simp only [Prod.mk.injEq] at h
 obtain ⟨rfl, rfl, rfl, rfl⟩ := h
 have hu := Try.underlying29
 have hu2 := Try.underlying27
 by_cases c0 : n = 1
 ·subst c0
  go_enter Try.func29, Try.ntmps29
  go_wp2
  refine bodyPost_ret (v := .agg #[.int .u64 x, .int .u64 a0_1, .int .u64 a0_2, .int .u64 a0_3]) (by simp [results, Try.results29, go_sem, hu, hu2]) rfl ⟨rfl, by first | exact below_alloc (Below.refl _ _) _ | (repeat (first | exact Below.refl _ _ | apply below_alloc | apply pw_below_drewN | apply below_drew1 | (refine below_set ?_ (by simp)) | (refine below_set ?_ (by simp; omega))))⟩
 by_cases c1 : n = 2
 ·subst c1
  go_enter Try.func29, Try.ntmps29
  go_wp2
  refine bodyPost_ret (v := .agg #[.int .u64 a0_0, .int .u64 x, .int .u64 a0_2, .int .u64 a0_3]) (by simp [results, Try.results29, go_sem, hu, hu2]) rfl ⟨rfl, by first | exact below_alloc (Below.refl _ _) _ | (repeat (first | exact Below.refl _ _ | apply below_alloc | apply pw_below_drewN | apply below_drew1 | (refine below_set ?_ (by simp)) | (refine below_set ?_ (by simp; omega))))⟩
 by_cases c2 : n = 3
 ·subst c2
  go_enter Try.func29, Try.ntmps29
  go_wp2
  refine bodyPost_ret (v := .agg #[.int .u64 a0_0, .int .u64 a0_1, .int .u64 x, .int .u64 a0_3]) (by simp [results, Try.results29, go_sem, hu, hu2]) rfl ⟨rfl, by first | exact below_alloc (Below.refl _ _) _ | (repeat (first | exact Below.refl _ _ | apply below_alloc | apply pw_below_drewN | apply below_drew1 | (refine below_set ?_ (by simp)) | (refine below_set ?_ (by simp; omega))))⟩
 by_cases c3 : n = 4
 ·subst c3
  go_enter Try.func29, Try.ntmps29
  go_wp2
  refine bodyPost_ret (v := .agg #[.int .u64 a0_0, .int .u64 a0_1, .int .u64 a0_2, .int .u64 x]) (by simp [results, Try.results29, go_sem, hu, hu2]) rfl ⟨rfl, by first | exact below_alloc (Below.refl _ _) _ | (repeat (first | exact Below.refl _ _ | apply below_alloc | apply pw_below_drewN | apply below_drew1 | (refine below_set ?_ (by simp)) | (refine below_set ?_ (by simp; omega))))⟩
 rw [if_neg c0, if_neg c1, if_neg c2, if_neg c3]
 have b1 : (decide (1 ≤ n) = false ∧ decide (n < 1) = true) ∨ (decide (1 ≤ n) = true ∧ decide (n < 1) = false ∧ decide (n ≤ 4) = false ∧ decide (4 < n) = true) := by
  by_cases h : 1 ≤ n
  ·exact Or.inr ⟨decide_eq_true h, decide_eq_false (by omega), decide_eq_false (by omega), decide_eq_true (by omega)⟩
  ·exact Or.inl ⟨decide_eq_false h, decide_eq_true (by omega)⟩
 clear c0 c1 c2 c3
 rcases b1 with ⟨b1, b2⟩ | ⟨b1, b2, b3, b4⟩
 ·go_enter Try.func29, Try.ntmps29
  go_wp2
  refine bodyPost_ret (v := .agg #[.int .u64 a0_0, .int .u64 a0_1, .int .u64 a0_2, .int .u64 a0_3]) (by simp [results, Try.results29, go_sem, hu, hu2]) rfl ⟨rfl, by first | exact below_alloc (Below.refl _ _) _ | (repeat (first | exact Below.refl _ _ | apply below_alloc | apply pw_below_drewN | apply below_drew1 | (refine below_set ?_ (by simp)) | (refine below_set ?_ (by simp; omega))))⟩
 ·go_enter Try.func29, Try.ntmps29
  go_wp2
  refine bodyPost_ret (v := .agg #[.int .u64 a0_0, .int .u64 a0_1, .int .u64 a0_2, .int .u64 a0_3]) (by simp [results, Try.results29, go_sem, hu, hu2]) rfl ⟨rfl, by first | exact below_alloc (Below.refl _ _) _ | (repeat (first | exact Below.refl _ _ | apply below_alloc | apply pw_below_drewN | apply below_drew1 | (refine below_set ?_ (by simp)) | (refine below_set ?_ (by simp; omega))))⟩
end Go.Proofs.Ythjhkcebcgdeoaa.Q
