/- Chapter 19: bounds of what comes in; the laws' vectors. -/
import Derived.Test.YtplgbkobpanbfaaGateE
import Derived.Test.YtplgbkobpanbfaaQxf14
set_option linter.unusedVariables false
set_option linter.unusedSimpArgs false
namespace Go.Proofs.Ytplgbkobpanbfaa.Pure
open Go.RowKit Go.Proofs.Ytplgbkobpanbfaa.Q Go.Proofs.YtplgbkobpanbfaaW.PrintWords Go.Proofs.YtplgbkobpanbfaaW.PrintLast Go.Proofs.YtplgbkobpanbfaaW.PrintMore Go.Proofs.Ytplgbkobpanbfaa.Plain

theorem u8_of {x : Int} (h : (Lit.int .u8 x).wf = true) : 0 ≤ x ∧ x ≤ 255 := by
  have h : IntKind.u8.min ≤ x ∧ x ≤ IntKind.u8.max := by simpa only [Lit.wf, Bool.and_eq_true, decide_eq_true_eq] using h
  exact h
theorem u16_of {x : Int} (h : (Lit.int .u16 x).wf = true) : 0 ≤ x ∧ x ≤ 65535 := by
  have h : IntKind.u16.min ≤ x ∧ x ≤ IntKind.u16.max := by simpa only [Lit.wf, Bool.and_eq_true, decide_eq_true_eq] using h
  exact h
theorem u64_of {x : Int} (h : (Lit.int .u64 x).wf = true) : 0 ≤ x ∧ x ≤ 18446744073709551615 := by
  have h : IntKind.u64.min ≤ x ∧ x ≤ IntKind.u64.max := by simpa only [Lit.wf, Bool.and_eq_true, decide_eq_true_eq] using h
  exact h
theorem vector_f {v0 v1 v2 v3 : Int} (h0 : (Lit.int .u64 v0).wf = true) (h1 : (Lit.int .u64 v1).wf = true) (h2 : (Lit.int .u64 v2).wf = true) (h3 : (Lit.int .u64 v3).wf = true) (own : Bool) {k : Nat} (hk : 5 ≤ k) :
    ∃ n0 n1 n2 n3 : Nat, tenementlaw19_Vector_vector.f k v0 v1 v2 v3 own = some ((n0 : Int), (n1 : Int), (n2 : Int), (n3 : Int)) ∧ n0 < 18446744073709551616 ∧ n1 < 18446744073709551616 ∧ n2 < 18446744073709551616 ∧ n3 < 18446744073709551616 := by
  have h0 := u64_of h0
  have h1 := u64_of h1
  have h2 := u64_of h2
  have h3 := u64_of h3
  unfold tenementlaw19_Vector_vector.f
  cases own with
  | false =>
    rw [if_neg (by simp)]
    exact ⟨v0.toNat, v1.toNat, v2.toNat, v3.toNat, by rw [Int.toNat_of_nonneg h0.1, Int.toNat_of_nonneg h1.1, Int.toNat_of_nonneg h2.1, Int.toNat_of_nonneg h3.1], by omega, by omega, by omega, by omega⟩
  | true =>
    rw [if_pos rfl]
    obtain ⟨k, rfl⟩ : ∃ m, k = m + 5 := ⟨k - 5, by omega⟩
    have e : tenementlaw19_Vector_vector.l0 (k + 5) 0 v0 v1 v2 v3 true = some (Int.tmod v0 4, Int.tmod v1 4, Int.tmod v2 4, Int.tmod v3 4) := by
      rw [tenementlaw19_Vector_vector.l0, if_pos (by omega), if_pos rfl, show wrap64 (0 + 1) = 1 from wrap64_id (by omega) (by omega)]
      rw [tenementlaw19_Vector_vector.l0, if_pos (by omega), if_neg (by omega), if_pos rfl, show wrap64 (1 + 1) = 2 from wrap64_id (by omega) (by omega)]
      rw [tenementlaw19_Vector_vector.l0, if_pos (by omega), if_neg (by omega), if_neg (by omega), if_pos rfl, show wrap64 (2 + 1) = 3 from wrap64_id (by omega) (by omega)]
      rw [tenementlaw19_Vector_vector.l0, if_pos (by omega), if_neg (by omega), if_neg (by omega), if_neg (by omega), if_pos rfl, show wrap64 (3 + 1) = 4 from wrap64_id (by omega) (by omega)]
      rw [tenementlaw19_Vector_vector.l0, if_neg (by omega)]
    rw [e, Int.tmod_eq_emod_of_nonneg h0.1, Int.tmod_eq_emod_of_nonneg h1.1, Int.tmod_eq_emod_of_nonneg h2.1, Int.tmod_eq_emod_of_nonneg h3.1]
    exact ⟨(v0 % 4).toNat, (v1 % 4).toNat, (v2 % 4).toNat, (v3 % 4).toNat, by rw [Int.toNat_of_nonneg (by omega), Int.toNat_of_nonneg (by omega), Int.toNat_of_nonneg (by omega), Int.toNat_of_nonneg (by omega)], by omega, by omega, by omega, by omega⟩
theorem eq7 {c d : Int} {v w : ByteArray} {f g : Bool} {n0 n1 n2 n3 m0 m1 m2 m3 : Int} :
    ((c == d && (v.toList == w.toList && (f == g && ((n0 == m0 && (n1 == m1 && (n2 == m2 && (n3 == m3)))))))) = true) ↔ (c = d ∧ v = w ∧ f = g ∧ n0 = m0 ∧ n1 = m1 ∧ n2 = m2 ∧ n3 = m3) := by
  simp only [Bool.and_eq_true, beq_iff_eq, toList_iff]
end Go.Proofs.Ytplgbkobpanbfaa.Pure
