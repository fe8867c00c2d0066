import Derived.Test.YtoogchgoiciggaaGItemReads9
import Derived.Test.YtoogchgoiciggaaGItemReads0
import Derived.Test.YtoogchgoiciggaaGItemReads7
set_option linter.unusedVariables false
set_option linter.unusedSimpArgs false
namespace Go.Proofs.Ytoogchgoiciggaa.Pure
open Go.RowKit Go.Proofs.Ytoogchgoiciggaa.Q Go.Proofs.YtoogchgoiciggaaW.PrintWords Go.Proofs.YtoogchgoiciggaaW.PrintLast Go.Proofs.YtoogchgoiciggaaW.PrintMore Go.Proofs.Ytoogchgoiciggaa.Plain
theorem strOfNums_size (l : List Int) : (strOfNums l).size = l.length := by
 unfold strOfNums
 simp [ByteArray.size]
theorem bend_f {s : ByteArray} (hz : s.size ≤ 9223372036854775807) {p b : Int} (hp : -9223372036854775808 ≤ p ∧ p ≤ 9223372036854775807) :
  ∃ t, tenementlaw08_bend.f s p b = some t ∧ t.size ≤ 9223372036854775807 := by
 unfold tenementlaw08_bend.f
 by_cases c : s.toList = []
 ·rw [if_pos c]; exact ⟨s, rfl, hz⟩
 ·rw [if_neg c, if_pos ⟨hz, hp.1, hp.2⟩]
  refine ⟨_, rfl, ?_⟩
  rw [strOfNums_size]
  unfold tenementlaw08_bend.turn
  rw [List.length_set, bytesOf_length]
  exact hz
end Go.Proofs.Ytoogchgoiciggaa.Pure
