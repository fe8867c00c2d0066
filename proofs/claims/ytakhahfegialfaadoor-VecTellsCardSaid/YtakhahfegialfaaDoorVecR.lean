/- The bytes of a vector, by the document. -/
import Derived.Test.YtakhahfegialfaaDoorVaryR
import Derived.Test.YtakhahfegialfaaDoorQxf29
set_option linter.unusedVariables false
set_option linter.unusedSimpArgs false
namespace Go.Proofs.YtakhahfegialfaaDoor.Pure
open Go.RowKit Go.Proofs.YtakhahfegialfaaDoor.Q Go.Proofs.YtakhahfegialfaaDoorW.PrintWords Go.Proofs.YtakhahfegialfaaDoorW.PrintLast Go.Proofs.YtakhahfegialfaaDoorW.PrintMore Go.Proofs.YtakhahfegialfaaDoor.Plain

theorem rput06_f {a b c d : Nat} (ha : a < 18446744073709551616) (hb : b < 18446744073709551616) (hc : c < 18446744073709551616) (hd : d < 18446744073709551616) {k : Nat} (hk : 11 ≤ k) :
    tenementref06_Put.f k a b c d = some (vs a ++ vs b ++ vs c ++ vs d) := by
  have h1 := vary_len_ten ha
  have h2 := vary_len_ten hb
  have h3 := vary_len_ten hc
  have h4 := vary_len_ten hd
  unfold tenementref06_Put.f
  rw [RVary_f ha hk, RVary_f hb hk, RVary_f hc hk, RVary_f hd hk]
  simp only [Option.bind_some]
  rw [if_pos (by rw [vs_size, vs_size]; omega), if_pos (by rw [ByteArray.size_append, vs_size, vs_size, vs_size]; omega), if_pos (by rw [ByteArray.size_append, ByteArray.size_append, vs_size, vs_size, vs_size, vs_size]; omega)]
end Go.Proofs.YtakhahfegialfaaDoor.Pure
