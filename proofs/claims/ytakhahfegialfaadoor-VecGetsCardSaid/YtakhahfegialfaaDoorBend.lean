/- Bytes with one of them another one: as many. -/
import Derived.Test.YtakhahfegialfaaDoorBytes
import Derived.Test.YtakhahfegialfaaDoorPlain
import Derived.Test.YtakhahfegialfaaDoorQxf32
set_option linter.unusedVariables false
set_option linter.unusedSimpArgs false
namespace Go.Proofs.YtakhahfegialfaaDoor.Pure
open Go.RowKit Go.Proofs.YtakhahfegialfaaDoor.Q Go.Proofs.YtakhahfegialfaaDoorW.PrintWords Go.Proofs.YtakhahfegialfaaDoorW.PrintLast Go.Proofs.YtakhahfegialfaaDoorW.PrintMore Go.Proofs.YtakhahfegialfaaDoor.Plain

theorem strOfNums_size (l : List Int) : (strOfNums l).size = l.length := by
  unfold strOfNums
  simp [ByteArray.size]
theorem bend_f {s : ByteArray} (hz : s.size ≤ 9223372036854775807) {p b : Int} (hp : -9223372036854775808 ≤ p ∧ p ≤ 9223372036854775807) :
    ∃ t, tenementlaw06_bend.f s p b = some t ∧ t.size ≤ 9223372036854775807 := by
  unfold tenementlaw06_bend.f
  by_cases c : s.toList = []
  · rw [if_pos c]; exact ⟨s, rfl, hz⟩
  · rw [if_neg c, if_pos ⟨hz, hp.1, hp.2⟩]
    refine ⟨_, rfl, ?_⟩
    rw [strOfNums_size]
    unfold tenementlaw06_bend.turn
    rw [List.length_set, bytesOf_length]
    exact hz
end Go.Proofs.YtakhahfegialfaaDoor.Pure
