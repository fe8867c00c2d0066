/- Any bytes, and those of a vector with a byte another one, are the vector, or none, that the chapter says. -/
import Derived.Test.YtakhahfegialfaaDoorVecO
import Derived.Test.YtakhahfegialfaaDoorVecR
import Derived.Test.YtakhahfegialfaaDoorVecR2
import Derived.Test.YtakhahfegialfaaDoorBend
import Derived.Test.YtakhahfegialfaaDoorQSayVecGets
set_option linter.unusedVariables false
set_option linter.unusedSimpArgs false
namespace Go.Proofs.YtakhahfegialfaaDoor.Pure
open Go.RowKit Go.Proofs.YtakhahfegialfaaDoor.Q Go.Proofs.YtakhahfegialfaaDoorW.PrintWords Go.Proofs.YtakhahfegialfaaDoorW.PrintLast Go.Proofs.YtakhahfegialfaaDoorW.PrintMore Go.Proofs.YtakhahfegialfaaDoor.Plain

theorem VecGets : tenementlaw06_VecGets.Pure := by
  intro x s own at_ by_ bad hx hs hat hby
  have hat := i64_of hat
  obtain ⟨⟨x0, x1, x2, x3⟩, xo⟩ := x
  obtain ⟨n0, n1, n2, n3, ev, l0, l1, l2, l3⟩ := vector_f hx.1.1 hx.1.2.1 hx.1.2.2.1 hx.1.2.2.2 xo (k := 100) (by omega)
  clear hx
  refine ⟨100, ?_⟩
  show tenementlaw06_VecGets.f 100 x0 x1 x2 x3 xo s own at_ by_ bad = some true
  unfold tenementlaw06_VecGets.f
  rw [examples_f (by omega), Option.bind_some, if_pos rfl]
  cases own with
  | true =>
    rw [if_pos rfl, ev, Option.bind_some]
    show (tenementref06_Put.f 100 (n0 : Int) n1 n2 n3).bind _ = _
    rw [rput06_f l0 l1 l2 l3 (by omega), Option.bind_some]
    have hz : (vs n0 ++ vs n1 ++ vs n2 ++ vs n3).size ≤ 100 := by
      have h0 := vary_len_ten l0
      have h1 := vary_len_ten l1
      have h2 := vary_len_ten l2
      have h3 := vary_len_ten l3
      simp only [ByteArray.size_append, vs_size]
      omega
    generalize vs n0 ++ vs n1 ++ vs n2 ++ vs n3 = p at *
    rw [if_pos (by omega)]
    obtain ⟨t, et, zt⟩ := bend_f (s := p ++ s) (p := at_) (b := by_) (by rw [ByteArray.size_append]; omega) hat
    rw [et, Option.bind_some]
    obtain ⟨⟨a0, a1, a2, a3, a4, a5⟩, e1, e2, _⟩ := vget_same (s := t) (b := bad) zt (k := 100) (by omega)
    rw [e1, Option.bind_some, e2, Option.bind_some]
    rw [if_pos (beq4 _ _ _ _), if_pos rfl, if_pos rfl]
  | false =>
    rw [if_neg (by simp)]
    obtain ⟨⟨a0, a1, a2, a3, a4, a5⟩, e1, e2, _⟩ := vget_same (s := s) (b := bad) (by omega) (k := 100) (by omega)
    rw [e1, Option.bind_some, e2, Option.bind_some]
    rw [if_pos (beq4 _ _ _ _), if_pos rfl, if_pos rfl]
end Go.Proofs.YtakhahfegialfaaDoor.Pure
