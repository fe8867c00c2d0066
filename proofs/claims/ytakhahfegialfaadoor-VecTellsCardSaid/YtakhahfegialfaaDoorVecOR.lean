/- Joins, meets and the order of vectors, by the document. -/
import Derived.Test.YtakhahfegialfaaDoorVecO
import Derived.Test.YtakhahfegialfaaDoorQxf13
import Derived.Test.YtakhahfegialfaaDoorQxf15
import Derived.Test.YtakhahfegialfaaDoorQxf23
import Derived.Test.YtakhahfegialfaaDoorQxf27
set_option linter.unusedVariables false
set_option linter.unusedSimpArgs false
namespace Go.Proofs.YtakhahfegialfaaDoor.Pure
open Go.RowKit Go.Proofs.YtakhahfegialfaaDoor.Q Go.Proofs.YtakhahfegialfaaDoorW.PrintWords Go.Proofs.YtakhahfegialfaaDoorW.PrintLast Go.Proofs.YtakhahfegialfaaDoorW.PrintMore Go.Proofs.YtakhahfegialfaaDoor.Plain

theorem i1 : wrap64 (0 + 1) = 1 := wrap64_id (by omega) (by omega)
theorem i2 : wrap64 (1 + 1) = 2 := wrap64_id (by omega) (by omega)
theorem i3 : wrap64 (2 + 1) = 3 := wrap64_id (by omega) (by omega)
theorem i4 : wrap64 (3 + 1) = 4 := wrap64_id (by omega) (by omega)
theorem rjoin_f (a b c d x y z u : Int) {k : Nat} (hk : 5 ≤ k) : tenementref06_Join.f k a b c d x y z u = some (mx a x, mx b y, mx c z, mx d u) := by
  obtain ⟨k, rfl⟩ : ∃ m, k = m + 5 := ⟨k - 5, by omega⟩
  unfold tenementref06_Join.f
  rw [tenementref06_Join.l0, if_pos (by omega), if_pos rfl, i1, tenementref06_Join.l0, if_pos (by omega), if_neg (by omega), if_pos rfl, i2, tenementref06_Join.l0, if_pos (by omega), if_neg (by omega), if_neg (by omega), if_pos rfl, i3,
    tenementref06_Join.l0, if_pos (by omega), if_neg (by omega), if_neg (by omega), if_neg (by omega), if_pos rfl, i4, tenementref06_Join.l0, if_neg (by omega)]
theorem rmeet_f (a b c d x y z u : Int) {k : Nat} (hk : 5 ≤ k) : tenementref06_Meet.f k a b c d x y z u = some (mn a x, mn b y, mn c z, mn d u) := by
  obtain ⟨k, rfl⟩ : ∃ m, k = m + 5 := ⟨k - 5, by omega⟩
  unfold tenementref06_Meet.f
  rw [tenementref06_Meet.l0, if_pos (by omega), if_pos rfl, i1, tenementref06_Meet.l0, if_pos (by omega), if_neg (by omega), if_pos rfl, i2, tenementref06_Meet.l0, if_pos (by omega), if_neg (by omega), if_neg (by omega), if_pos rfl, i3,
    tenementref06_Meet.l0, if_pos (by omega), if_neg (by omega), if_neg (by omega), if_neg (by omega), if_pos rfl, i4, tenementref06_Meet.l0, if_neg (by omega)]
theorem rleq_f (a b c d x y z u : Int) {k : Nat} (hk : 5 ≤ k) : tenementref06_Leq.f k a b c d x y z u = some (decide (a ≤ x ∧ b ≤ y ∧ c ≤ z ∧ d ≤ u)) := by
  obtain ⟨k, rfl⟩ : ∃ m, k = m + 5 := ⟨k - 5, by omega⟩
  unfold tenementref06_Leq.f
  have no : ∀ {P : Prop} [Decidable P], ¬ P → (some false : Option Bool) = some (decide P) := fun h => by rw [decide_eq_false h]
  rw [tenementref06_Leq.l0, if_pos (by omega), if_pos rfl, i1]
  by_cases ha : a > x
  · rw [if_pos ha]; exact no (by omega)
  rw [if_neg ha, tenementref06_Leq.l0, if_pos (by omega), if_neg (by omega), if_pos rfl, i2]
  by_cases hb : b > y
  · rw [if_pos hb]; exact no (by omega)
  rw [if_neg hb, tenementref06_Leq.l0, if_pos (by omega), if_neg (by omega), if_neg (by omega), if_pos rfl, i3]
  by_cases hc : c > z
  · rw [if_pos hc]; exact no (by omega)
  rw [if_neg hc, tenementref06_Leq.l0, if_pos (by omega), if_neg (by omega), if_neg (by omega), if_neg (by omega), if_pos rfl, i4]
  by_cases hd : d > u
  · rw [if_pos hd]; exact no (by omega)
  rw [if_neg hd, tenementref06_Leq.l0, if_neg (by omega), decide_eq_true (by omega)]
theorem sum_same {a : Nat} (ha : a < 18446744073709551616) (b c d : Int) : ∃ r, vec_Sum.f a b c d = some r ∧ tenementref06_Sum.f a b c d = some r := by
  have e : IntKind.u64.wrap (0 + (a : Int)) = (a : Int) := by rw [IntKind.wrap_u64]; omega
  refine ⟨_, rfl, ?_⟩
  rw [e]
  rfl
end Go.Proofs.YtakhahfegialfaaDoor.Pure
