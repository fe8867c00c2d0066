/- What the functions of package vec answer. -/
import Derived.Test.YtdlagefpglhdoaaDoorVaryA
import Derived.Test.YtdlagefpglhdoaaDoorQxf56
import Derived.Test.YtdlagefpglhdoaaDoorQxf36
import Derived.Test.YtdlagefpglhdoaaDoorQxf31
import Derived.Test.YtdlagefpglhdoaaDoorQxf49
import Derived.Test.YtdlagefpglhdoaaDoorQxf32
set_option linter.unusedVariables false
set_option linter.unusedSimpArgs false
namespace Go.Proofs.YtdlagefpglhdoaaDoor.Pure
open Go.RowKit Go.Proofs.YtdlagefpglhdoaaDoor.Q Go.Proofs.YtdlagefpglhdoaaDoorW.PrintWords Go.Proofs.YtdlagefpglhdoaaDoorW.PrintLast Go.Proofs.YtdlagefpglhdoaaDoorW.PrintMore Go.Proofs.YtdlagefpglhdoaaDoor.Plain

theorem vright_f (a b c d : Int) : vec_Right.f a b c d = some (decide (a ≤ 1152921504606846976 ∧ b ≤ 1152921504606846976 ∧ c ≤ 1152921504606846976 ∧ d ≤ 1152921504606846976)) := by
  have h : ∀ x : Int, (mx x 1152921504606846976 == (1152921504606846976 : Int)) = decide (x ≤ 1152921504606846976) := by
    intro x
    rw [Bool.eq_iff_iff, beq_iff_eq, decide_eq_true_eq]
    unfold mx
    split <;> omega
  unfold vec_Right.f vec_Leq.f vec_Join.f
  simp only [Option.bind_some, h]
  simp only [Bool.decide_and]
theorem vput_f {a b c d : Nat} (ha : a < 18446744073709551616) (hb : b < 18446744073709551616) (hc : c < 18446744073709551616) (hd : d < 18446744073709551616) {k : Nat} (hk : 11 ≤ k) :
    vec_Put.f k a b c d = some (vs a ++ vs b ++ vs c ++ vs d) := by
  have h1 := vary_len_ten ha
  have h2 := vary_len_ten hb
  have h3 := vary_len_ten hc
  have h4 := vary_len_ten hd
  unfold vec_Put.f
  rw [Vary_f ha hk, Vary_f hb hk, Vary_f hc hk, Vary_f hd hk]
  simp only [Option.bind_some]
  rw [if_pos (by rw [vs_size, vs_size, vs_size, vs_size]; omega)]
theorem vget_step {s : ByteArray} {b : Bool} (hz : s.size ≤ 9223372036854775807) {k : Nat} (hk : 22 ≤ k) :
    ∃ v0 v1 v2 v3 t c, vec_Get.f k s b = some (v0, v1, v2, v3, t, c) ∧ t.size ≤ s.size ∧ (c = false → b = false ∧ ∃ n0 n1 n2 n3 : Nat, (n0 ≤ 1152921504606846976 ∧ n1 ≤ 1152921504606846976 ∧ n2 ≤ 1152921504606846976 ∧ n3 ≤ 1152921504606846976) ∧
      v0 = (n0 : Int) ∧ v1 = (n1 : Int) ∧ v2 = (n2 : Int) ∧ v3 = (n3 : Int) ∧ bl s = vary n0 ++ (vary n1 ++ (vary n2 ++ (vary n3 ++ bl t)))) := by
  obtain ⟨v0, t0, c0, e0, z0, h0⟩ := vary_step (s := s) (b := b) hz hk
  obtain ⟨v1, t1, c1, e1, z1, h1⟩ := vary_step (s := t0) (b := c0) (by omega) hk
  obtain ⟨v2, t2, c2, e2, z2, h2⟩ := vary_step (s := t1) (b := c1) (by omega) hk
  obtain ⟨v3, t3, c3, e3, z3, h3⟩ := vary_step (s := t2) (b := c2) (by omega) hk
  unfold vec_Get.f
  simp only [e0, e1, e2, e3, Option.bind_some, vright_f]
  cases c3 with
  | true => rw [if_pos rfl]; exact ⟨_, _, _, _, _, _, rfl, Nat.zero_le _, fun h => absurd h (by simp)⟩
  | false =>
    rw [if_neg (by simp)]
    obtain ⟨rfl, n3, l3, rfl, g3⟩ := h3 rfl
    obtain ⟨rfl, n2, l2, rfl, g2⟩ := h2 rfl
    obtain ⟨rfl, n1, l1, rfl, g1⟩ := h1 rfl
    obtain ⟨rfl, n0, l0, rfl, g0⟩ := h0 rfl
    by_cases hr : ((n0 : Int) ≤ 1152921504606846976 ∧ (n1 : Int) ≤ 1152921504606846976 ∧ (n2 : Int) ≤ 1152921504606846976 ∧ (n3 : Int) ≤ 1152921504606846976)
    · rw [if_pos (decide_eq_true hr)]
      refine ⟨_, _, _, _, _, _, rfl, by omega, fun _ => ⟨rfl, n0, n1, n2, n3, by omega, rfl, rfl, rfl, rfl, ?_⟩⟩
      rw [g0, g1, g2, g3]
    · rw [if_neg (by simpa using hr)]
      exact ⟨_, _, _, _, _, _, rfl, Nat.zero_le _, fun h => absurd h (by simp)⟩
end Go.Proofs.YtdlagefpglhdoaaDoor.Pure
