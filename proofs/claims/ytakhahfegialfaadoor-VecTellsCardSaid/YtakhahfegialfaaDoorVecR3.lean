/- Whether a vector may be, by the document. -/
import Derived.Test.YtakhahfegialfaaDoorPlain
import Derived.Test.YtakhahfegialfaaDoorBytes
import Derived.Test.YtakhahfegialfaaDoorQxf21
set_option linter.unusedVariables false
set_option linter.unusedSimpArgs false
namespace Go.Proofs.YtakhahfegialfaaDoor.Pure
open Go.RowKit Go.Proofs.YtakhahfegialfaaDoor.Q Go.Proofs.YtakhahfegialfaaDoorW.PrintWords Go.Proofs.YtakhahfegialfaaDoorW.PrintLast Go.Proofs.YtakhahfegialfaaDoorW.PrintMore Go.Proofs.YtakhahfegialfaaDoor.Plain

theorem rright06_f {a b c d : Int} {k : Nat} (hk : 5 ≤ k) : tenementref06_Right.f k a b c d = some (decide (a ≤ 1152921504606846976 ∧ b ≤ 1152921504606846976 ∧ c ≤ 1152921504606846976 ∧ d ≤ 1152921504606846976)) := by
  obtain ⟨k, rfl⟩ : ∃ m, k = m + 5 := ⟨k - 5, by omega⟩
  unfold tenementref06_Right.f
  have no : ∀ {P : Prop} [Decidable P], ¬ P → (some false : Option Bool) = some (decide P) := fun h => by rw [decide_eq_false h]
  rw [tenementref06_Right.l0, if_pos (by omega), if_pos rfl, show wrap64 (0 + 1) = 1 from wrap64_id (by omega) (by omega)]
  by_cases ha : a > 1152921504606846976
  · rw [if_pos ha]; exact no (by omega)
  rw [if_neg ha, tenementref06_Right.l0, if_pos (by omega), if_neg (by omega), if_pos rfl, show wrap64 (1 + 1) = 2 from wrap64_id (by omega) (by omega)]
  by_cases hb : b > 1152921504606846976
  · rw [if_pos hb]; exact no (by omega)
  rw [if_neg hb, tenementref06_Right.l0, if_pos (by omega), if_neg (by omega), if_neg (by omega), if_pos rfl, show wrap64 (2 + 1) = 3 from wrap64_id (by omega) (by omega)]
  by_cases hc : c > 1152921504606846976
  · rw [if_pos hc]; exact no (by omega)
  rw [if_neg hc, tenementref06_Right.l0, if_pos (by omega), if_neg (by omega), if_neg (by omega), if_neg (by omega), if_pos rfl, show wrap64 (3 + 1) = 4 from wrap64_id (by omega) (by omega)]
  by_cases hd : d > 1152921504606846976
  · rw [if_pos hd]; exact no (by omega)
  rw [if_neg hd, tenementref06_Right.l0, if_neg (by omega), decide_eq_true (by omega)]
end Go.Proofs.YtakhahfegialfaaDoor.Pure
