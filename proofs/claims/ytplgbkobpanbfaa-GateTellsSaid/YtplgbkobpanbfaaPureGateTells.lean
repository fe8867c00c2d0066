/- Any request is right, or not, put, or not, and any response answered, as the chapter says. -/
import Derived.Test.YtplgbkobpanbfaaGateR
import Derived.Test.YtplgbkobpanbfaaGateV
import Derived.Test.YtplgbkobpanbfaaQSayGateTells
import Derived.Test.YtplgbkobpanbfaaQxf13
import Derived.Test.YtplgbkobpanbfaaQxf19
set_option linter.unusedVariables false
set_option linter.unusedSimpArgs false
namespace Go.Proofs.Ytplgbkobpanbfaa.Pure
open Go.RowKit Go.Proofs.Ytplgbkobpanbfaa.Q Go.Proofs.YtplgbkobpanbfaaW.PrintWords Go.Proofs.YtplgbkobpanbfaaW.PrintLast Go.Proofs.YtplgbkobpanbfaaW.PrintMore Go.Proofs.Ytplgbkobpanbfaa.Plain

theorem request_any {a0 a5 a6 a7 : ByteArray} {m1 m2 m3 m4 : Int} (z0 : a0.size ≤ 140737488351232) (z5 : a5.size ≤ 140737488351232) (z6 : a6.size ≤ 140737488351232) (z7 : a7.size ≤ 140737488351232) (own : Bool) :
    ∃ r, tenementlaw19_Asked_request.f a0 m1 m2 m3 m4 a5 a6 a7 own = some r := by
  cases own with
  | true =>
    obtain ⟨_, _, _, _, _, _, _, _, h, _⟩ := request_own (m1 := m1) (m2 := m2) (m3 := m3) (m4 := m4) z0 z5 z6 z7
    exact ⟨_, h⟩
  | false =>
    unfold tenementlaw19_Asked_request.f
    rw [if_neg (by simp)]
    exact ⟨_, rfl⟩
theorem GateTells : tenementlaw19_GateTells.Pure := by
  intro x code v found w hx hcode hv hw
  obtain ⟨⟨x0, x1, x2, x3, x4, x5, x6, x7⟩, xo⟩ := x
  obtain ⟨⟨w0, w1, w2, w3⟩, own⟩ := w
  obtain ⟨n0, n1, n2, n3, ew, l0, l1, l2, l3⟩ := vector_f hw.1.1 hw.1.2.1 hw.1.2.2.1 hw.1.2.2.2 own (k := 100) (by omega)
  obtain ⟨⟨a0, a1, a2, a3, a4, a5, a6, a7⟩, er⟩ := request_any (m1 := x1) (m2 := x2) (m3 := x3) (m4 := x4) (a0 := x0) (a5 := x5) (a6 := x6) (a7 := x7) hx.1.1 hx.1.2.2.2.2.2.1 hx.1.2.2.2.2.2.2.1 hx.1.2.2.2.2.2.2.2 xo
  refine ⟨100, ?_⟩
  show tenementlaw19_GateTells.f 100 x0 x1 x2 x3 x4 x5 x6 x7 xo code v found w0 w1 w2 w3 own = some true
  unfold tenementlaw19_GateTells.f
  rw [examples_f (by omega), er, ew]
  simp only [Option.bind_some, if_true]
  obtain ⟨s, b, e1, e2, _⟩ := put_same19 a0 a1 a2 a3 a4 a5 a6 a7 (k := 100) (by omega)
  obtain ⟨t, e3, e4, _⟩ := answer_same code hv found l0 l1 l2 l3 (k := 100) (by omega)
  have e5 : tenementlaw19_refRequest.f a0 a1 a2 a3 a4 a5 a6 a7 = some (a0, a1, a2, a3, a4, a5, a6, a7) := rfl
  have e6 : tenementlaw19_refResponse.f code v found n0 n1 n2 n3 = some (code, v, found, (n0 : Int), (n1 : Int), (n2 : Int), (n3 : Int)) := rfl
  simp only [e1, e2, e3, e4, e5, e6, right_f, rright_f, Option.bind_some, if_true]
end Go.Proofs.Ytplgbkobpanbfaa.Pure
