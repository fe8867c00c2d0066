import Derived.Test.YtdlagefpglhdoaaDoorGStampGets4
import Derived.Test.YtdlagefpglhdoaaDoorGStampGets2
import Derived.Test.YtdlagefpglhdoaaDoorGStampGets3
/- Whether a vector may be, by the document. -/
set_option linter.unusedVariables false
set_option linter.unusedSimpArgs false
namespace Go.Proofs.YtdlagefpglhdoaaDoor.Pure
open Go.RowKit Go.Proofs.YtdlagefpglhdoaaDoor.Q Go.Proofs.YtdlagefpglhdoaaDoorW.PrintWords Go.Proofs.YtdlagefpglhdoaaDoorW.PrintLast Go.Proofs.YtdlagefpglhdoaaDoorW.PrintMore Go.Proofs.YtdlagefpglhdoaaDoor.Plain

theorem rright06_f {a b c d : Int} {k : Nat} (hk : 5 ≤ k) : tenementref06_Right.f k a b c d = some (decide (a ≤ 1152921504606846976 ∧ b ≤ 1152921504606846976 ∧ c ≤ 1152921504606846976 ∧ d ≤ 1152921504606846976)) := by
  obtain ⟨k, rfl⟩ : ∃ m, k = m + 5 := ⟨k - 5, by omega⟩
  unfold tenementref06_Right.f
  have no : ∀ {P : Prop} [Decidable P], ¬ P → (some false : Option Bool) = some (decide P) := fun h => by rw [decide_eq_false h]
  rw [tenementref06_Right.l0, if_pos (by omega), if_pos rfl, show wrap64 (0 + 1) = 1 from wrap64_id (by omega) (by omega)]
  by_cases ha : a > 1152921504606846976
  · rw [if_pos ha]; exact no (by omega)
  rw [if_neg ha, tenementref06_Right.l0, if_pos (by omega), if_neg (by omega), if_pos rfl, show wrap64 (1 + 1) = 2 from wrap64_id (by omega) (by omega)]
  by_cases hb : b > 1152921504606846976
  · rw [if_pos hb]; exact no (by omega)
  rw [if_neg hb, tenementref06_Right.l0, if_pos (by omega), if_neg (by omega), if_neg (by omega), if_pos rfl, show wrap64 (2 + 1) = 3 from wrap64_id (by omega) (by omega)]
  by_cases hc : c > 1152921504606846976
  · rw [if_pos hc]; exact no (by omega)
  rw [if_neg hc, tenementref06_Right.l0, if_pos (by omega), if_neg (by omega), if_neg (by omega), if_neg (by omega), if_pos rfl, show wrap64 (3 + 1) = 4 from wrap64_id (by omega) (by omega)]
  by_cases hd : d > 1152921504606846976
  · rw [if_pos hd]; exact no (by omega)
  rw [if_neg hd, tenementref06_Right.l0, if_neg (by omega), decide_eq_true (by omega)]
end Go.Proofs.YtdlagefpglhdoaaDoor.Pure

/- Bytes with one of them another one: as many. -/
set_option linter.unusedVariables false
set_option linter.unusedSimpArgs false
namespace Go.Proofs.YtdlagefpglhdoaaDoor.Pure
open Go.RowKit Go.Proofs.YtdlagefpglhdoaaDoor.Q Go.Proofs.YtdlagefpglhdoaaDoorW.PrintWords Go.Proofs.YtdlagefpglhdoaaDoorW.PrintLast Go.Proofs.YtdlagefpglhdoaaDoorW.PrintMore Go.Proofs.YtdlagefpglhdoaaDoor.Plain

theorem strOfNums_size (l : List Int) : (strOfNums l).size = l.length := by
  unfold strOfNums
  simp [ByteArray.size]
theorem bend_f {s : ByteArray} (hz : s.size ≤ 9223372036854775807) {p b : Int} (hp : -9223372036854775808 ≤ p ∧ p ≤ 9223372036854775807) :
    ∃ t, tenementlaw07_bend.f s p b = some t ∧ t.size ≤ 9223372036854775807 := by
  unfold tenementlaw07_bend.f
  by_cases c : s.toList = []
  · rw [if_pos c]; exact ⟨s, rfl, hz⟩
  · rw [if_neg c, if_pos ⟨hz, hp.1, hp.2⟩]
    refine ⟨_, rfl, ?_⟩
    rw [strOfNums_size]
    unfold tenementlaw07_bend.turn
    rw [List.length_set, bytesOf_length]
    exact hz
end Go.Proofs.YtdlagefpglhdoaaDoor.Pure
