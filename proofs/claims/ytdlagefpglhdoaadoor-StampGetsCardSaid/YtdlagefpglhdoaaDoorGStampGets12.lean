import Derived.Test.YtdlagefpglhdoaaDoorGStampGets4
import Derived.Test.YtdlagefpglhdoaaDoorGStampGets5
import Derived.Test.YtdlagefpglhdoaaDoorGStampGets11
/- A vector's reading, by the document. -/
set_option linter.unusedVariables false
set_option linter.unusedSimpArgs false
namespace Go.Proofs.YtdlagefpglhdoaaDoor.Pure
open Go.RowKit Go.Proofs.YtdlagefpglhdoaaDoor.Q Go.Proofs.YtdlagefpglhdoaaDoorW.PrintWords Go.Proofs.YtdlagefpglhdoaaDoorW.PrintLast Go.Proofs.YtdlagefpglhdoaaDoorW.PrintMore Go.Proofs.YtdlagefpglhdoaaDoor.Plain

theorem vget_same {s : ByteArray} {b : Bool} (hz : s.size ≤ 9223372036854775807) {k : Nat} (hk : 34 ≤ k) : ∃ r, vec_Get.f k s b = some r ∧ tenementref06_Get.f k s b = some r ∧ r.2.2.2.2.1.size ≤ s.size := by
  obtain ⟨r0, a0, b0, c0, _⟩ := vary_same (s := s) (b := b) hz hk
  obtain ⟨r1, a1, b1, c1, _⟩ := vary_same (s := r0.2.1) (b := r0.2.2) (by omega) hk
  obtain ⟨r2, a2, b2, c2, _⟩ := vary_same (s := r1.2.1) (b := r1.2.2) (by omega) hk
  obtain ⟨r3, a3, b3, c3, _⟩ := vary_same (s := r2.2.1) (b := r2.2.2) (by omega) hk
  unfold vec_Get.f tenementref06_Get.f
  simp only [a0, b0, a1, b1, a2, b2, a3, b3, Option.bind_some, vright_f, rright06_f (show 5 ≤ k by omega)]
  by_cases h : r3.2.2 = true
  · rw [if_pos h, if_pos h]; exact ⟨_, rfl, rfl, Nat.zero_le _⟩
  · rw [if_neg h, if_neg h]
    split
    · refine ⟨_, rfl, ?_, by show r3.2.1.size ≤ s.size; omega⟩
      have : r3.2.2 = false := by simpa using h
      rw [this]
    · exact ⟨_, rfl, rfl, Nat.zero_le _⟩
end Go.Proofs.YtdlagefpglhdoaaDoor.Pure
