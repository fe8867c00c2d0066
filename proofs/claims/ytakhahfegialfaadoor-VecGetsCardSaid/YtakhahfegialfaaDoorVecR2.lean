/- A vector's reading, by the document. -/
import Derived.Test.YtakhahfegialfaaDoorVaryR2
import Derived.Test.YtakhahfegialfaaDoorVecA
import Derived.Test.YtakhahfegialfaaDoorQxf34
import Derived.Test.YtakhahfegialfaaDoorQxf21
set_option linter.unusedVariables false
set_option linter.unusedSimpArgs false
namespace Go.Proofs.YtakhahfegialfaaDoor.Pure
open Go.RowKit Go.Proofs.YtakhahfegialfaaDoor.Q Go.Proofs.YtakhahfegialfaaDoorW.PrintWords Go.Proofs.YtakhahfegialfaaDoorW.PrintLast Go.Proofs.YtakhahfegialfaaDoorW.PrintMore Go.Proofs.YtakhahfegialfaaDoor.Plain

theorem rright06_f {a b c d : Int} {k : Nat} (hk : 5 ≤ k) : tenementref06_Right.f k a b c d = some (decide (a ≤ 1152921504606846976 ∧ b ≤ 1152921504606846976 ∧ c ≤ 1152921504606846976 ∧ d ≤ 1152921504606846976)) := by
  obtain ⟨k, rfl⟩ : ∃ m, k = m + 5 := ⟨k - 5, by omega⟩
  unfold tenementref06_Right.f
  have no : ∀ {P : Prop} [Decidable P], ¬ P → (some false : Option Bool) = some (decide P) := fun h => by rw [decide_eq_false h]
  rw [tenementref06_Right.l0, if_pos (by omega), if_pos rfl, show wrap64 (0 + 1) = 1 from wrap64_id (by omega) (by omega)]
  by_cases ha : a > 1152921504606846976
  · rw [if_pos ha]; exact no (by omega)
  rw [if_neg ha, tenementref06_Right.l0, if_pos (by omega), if_neg (by omega), if_pos rfl, show wrap64 (1 + 1) = 2 from wrap64_id (by omega) (by omega)]
  by_cases hb : b > 1152921504606846976
  · rw [if_pos hb]; exact no (by omega)
  rw [if_neg hb, tenementref06_Right.l0, if_pos (by omega), if_neg (by omega), if_neg (by omega), if_pos rfl, show wrap64 (2 + 1) = 3 from wrap64_id (by omega) (by omega)]
  by_cases hc : c > 1152921504606846976
  · rw [if_pos hc]; exact no (by omega)
  rw [if_neg hc, tenementref06_Right.l0, if_pos (by omega), if_neg (by omega), if_neg (by omega), if_neg (by omega), if_pos rfl, show wrap64 (3 + 1) = 4 from wrap64_id (by omega) (by omega)]
  by_cases hd : d > 1152921504606846976
  · rw [if_pos hd]; exact no (by omega)
  rw [if_neg hd, tenementref06_Right.l0, if_neg (by omega), decide_eq_true (by omega)]
theorem vget_same {s : ByteArray} {b : Bool} (hz : s.size ≤ 9223372036854775807) {k : Nat} (hk : 34 ≤ k) : ∃ r, vec_Get.f k s b = some r ∧ tenementref06_Get.f k s b = some r ∧ r.2.2.2.2.1.size ≤ s.size := by
  obtain ⟨r0, a0, b0, c0, _⟩ := vary_same (s := s) (b := b) hz hk
  obtain ⟨r1, a1, b1, c1, _⟩ := vary_same (s := r0.2.1) (b := r0.2.2) (by omega) hk
  obtain ⟨r2, a2, b2, c2, _⟩ := vary_same (s := r1.2.1) (b := r1.2.2) (by omega) hk
  obtain ⟨r3, a3, b3, c3, _⟩ := vary_same (s := r2.2.1) (b := r2.2.2) (by omega) hk
  unfold vec_Get.f tenementref06_Get.f
  simp only [a0, b0, a1, b1, a2, b2, a3, b3, Option.bind_some, vright_f, rright06_f (show 5 ≤ k by omega)]
  by_cases h : r3.2.2 = true
  · rw [if_pos h, if_pos h]; exact ⟨_, rfl, rfl, Nat.zero_le _⟩
  · rw [if_neg h, if_neg h]
    split
    · refine ⟨_, rfl, ?_, by show r3.2.1.size ≤ s.size; omega⟩
      have : r3.2.2 = false := by simpa using h
      rw [this]
    · exact ⟨_, rfl, rfl, Nat.zero_le _⟩
end Go.Proofs.YtakhahfegialfaaDoor.Pure
