import Derived.Test.YtplgbkobpanbfaaGGateReads13
import Derived.Test.YtplgbkobpanbfaaGGateReads5
import Derived.Test.YtplgbkobpanbfaaGGateReads12
import Derived.Test.YtplgbkobpanbfaaGGateReads6
import Derived.Test.YtplgbkobpanbfaaGGateReads3
-- Written by this session's own driver (wip/hybrid.py) of the kit's printer; contracts marked FOREIGN are by hand.
set_option linter.unusedVariables false
namespace Go.Proofs.Ytplgbkobpanbfaa.Q
open Go.RowKit Go.Proofs.Ytplgbkobpanbfaa.Q Go.Proofs.YtplgbkobpanbfaaW.PrintWords Go.Proofs.YtplgbkobpanbfaaW.PrintLast Go.Proofs.YtplgbkobpanbfaaW.PrintMore
def tenementlaw19_GateReads.Pure : Prop := ∀ (x0 : S25) (x1 : ByteArray) (x2 : S30) (x3 : ByteArray) (x4 : Int) (x5 : Int) (x6 : Int), (wf25 x0) → (x1.size ≤ 140737488351232) → (wf30 x2) → (x3.size ≤ 140737488351232) → ((Lit.int .u8 x4).wf = true) → ((Lit.int .i64 x5).wf = true) → ((Lit.int .u8 x6).wf = true) → ∃ k, tenementlaw19_GateReads.f k (x0.f0.f0) (x0.f0.f1) (x0.f0.f2) (x0.f0.f3) (x0.f0.f4) (x0.f0.f5) (x0.f0.f6) (x0.f0.f7) (x0.f1) x1 (x2.f0.f0) (x2.f0.f1) (x2.f0.f2) (x2.f0.f3) (x2.f1) x3 x4 x5 x6 = some true
end Go.Proofs.Ytplgbkobpanbfaa.Q

/- Any bytes, and those of a request, or a response, with a byte another one, or something behind, are the request, the response, or none, that the chapter says. -/
set_option linter.unusedVariables false
set_option linter.unusedSimpArgs false
namespace Go.Proofs.Ytplgbkobpanbfaa.Pure
open Go.RowKit Go.Proofs.Ytplgbkobpanbfaa.Q Go.Proofs.YtplgbkobpanbfaaW.PrintWords Go.Proofs.YtplgbkobpanbfaaW.PrintLast Go.Proofs.YtplgbkobpanbfaaW.PrintMore Go.Proofs.Ytplgbkobpanbfaa.Plain

theorem beq8 (a0 a5 a6 a7 : ByteArray) (n1 n2 n3 n4 : Int) : (a0.toList == a0.toList && (n1 == n1 && (n2 == n2 && (n3 == n3 && (n4 == n4 && (a5.toList == a5.toList && (a6.toList == a6.toList && (a7.toList == a7.toList)))))))) = true := by simp
theorem beq7 (c : Int) (v : ByteArray) (f : Bool) (n0 n1 n2 n3 : Int) : (c == c && (v.toList == v.toList && (f == f && ((n0 == n0 && (n1 == n1 && (n2 == n2 && (n3 == n3)))))))) = true := by simp
theorem j0_true {s : ByteArray} (hz : s.size ≤ 9223372036854775807) : tenementlaw19_GateReads.j0 100 s true = some true := by
  obtain ⟨⟨a0, a1, a2, a3, a4, a5, a6, a7, a8⟩, e1, e2⟩ := get_same hz (k := 99) (by omega)
  obtain ⟨⟨b0, b1, b2, b3, b4, b5, b6, b7⟩, e3, e4⟩ := read_same hz (k := 99) (by omega)
  have e5 : tenementlaw19_refRequest.f a0 a1 a2 a3 a4 a5 a6 a7 = some (a0, a1, a2, a3, a4, a5, a6, a7) := rfl
  have e6 : tenementlaw19_refResponse.f b0 b1 b2 b3 b4 b5 b6 = some (b0, b1, b2, b3, b4, b5, b6) := rfl
  show tenementlaw19_GateReads.j0 (99 + 1) s true = some true
  rw [tenementlaw19_GateReads.j0, e1, e2, e3, e4]
  simp only [Option.bind_some, e5, e6]
  rw [if_pos trivial, if_pos (beq8 _ _ _ _ _ _ _ _), if_pos trivial, if_pos (beq7 _ _ _ _ _ _ _), if_pos trivial]
theorem GateReads : tenementlaw19_GateReads.Pure := by
  intro x value v s how at_ by_ hx hvalue hv hs hhow hat hby
  have hat := i64_of hat
  have hby := u8_of hby
  obtain ⟨⟨x0, x1, x2, x3, x4, x5, x6, x7⟩, xo⟩ := x
  obtain ⟨⟨v0, v1, v2, v3⟩, own⟩ := v
  obtain ⟨n0, n1, n2, n3, ev, l0, l1, l2, l3⟩ := vector_f hv.1.1 hv.1.2.1 hv.1.2.2.1 hv.1.2.2.2 own (k := 100) (by omega)
  obtain ⟨a0, a5, a6, a7, m1, m2, m3, m4, er, kr⟩ := request_own (m1 := x1) (m2 := x2) (m3 := x3) (m4 := x4) (a0 := x0) (a5 := x5) (a6 := x6) (a7 := x7) hx.1.1 hx.1.2.2.2.2.2.1 hx.1.2.2.2.2.2.2.1 hx.1.2.2.2.2.2.2.2
  clear hx hv
  refine ⟨100, ?_⟩
  show tenementlaw19_GateReads.f 100 x0 x1 x2 x3 x4 x5 x6 x7 xo value v0 v1 v2 v3 own s how at_ by_ = some true
  have e5 : tenementlaw19_refRequest.f a0 (m1 : Int) (m2 : Int) (m3 : Int) (m4 : Int) a5 a6 a7 = some (a0, (m1 : Int), (m2 : Int), (m3 : Int), (m4 : Int), a5, a6, a7) := rfl
  obtain ⟨t, b, _, ep, zt⟩ := put_same19 a0 m1 m2 m3 m4 a5 a6 a7 (k := 100) (by omega)
  obtain ⟨u, _, ea, zu⟩ := answer_same (wrap64 by_) hvalue (Int.tmod by_ 2 == 1) l0 l1 l2 l3 (k := 100) (by omega)
  obtain ⟨q1, f1, z1⟩ := bend_f (s := t) (p := at_) (b := by_) (by omega) hat
  obtain ⟨q2, f2, z2⟩ := bend_f (s := u) (p := at_) (b := by_) (by omega) hat
  unfold tenementlaw19_GateReads.f
  rw [examples_f (by omega), er]
  simp only [Option.bind_some]
  rw [if_pos trivial, e5]
  simp only [Option.bind_some]
  rw [ep, ev]
  simp only [Option.bind_some]
  rw [ea]
  simp only [Option.bind_some]
  by_cases c0 : Int.tmod how 6 = 0
  · rw [if_pos c0]; exact j0_true (by omega)
  rw [if_neg c0]
  by_cases c1 : Int.tmod how 6 = 1
  · rw [if_pos c1, f1]; exact j0_true z1
  rw [if_neg c1]
  by_cases c2 : Int.tmod how 6 = 2
  · rw [if_pos c2, if_pos (by omega)]; exact j0_true (by rw [ByteArray.size_append]; omega)
  rw [if_neg c2]
  by_cases c3 : Int.tmod how 6 = 3
  · rw [if_pos c3]; exact j0_true (by omega)
  rw [if_neg c3]
  by_cases c4 : Int.tmod how 6 = 4
  · rw [if_pos c4, f2]; exact j0_true z2
  rw [if_neg c4]
  exact j0_true (by omega)
end Go.Proofs.Ytplgbkobpanbfaa.Pure
