import Derived.Test.YtdlagefpglhdoaaDoorGStampGets15
import Derived.Test.YtdlagefpglhdoaaDoorGStampGets4
import Derived.Test.YtdlagefpglhdoaaDoorGStampGets14
import Derived.Test.YtdlagefpglhdoaaDoorGStampGets5
-- Written by this session's own driver (wip/hybrid.py) of the kit's printer; contracts marked FOREIGN are by hand.
set_option linter.unusedVariables false
namespace Go.Proofs.YtdlagefpglhdoaaDoor.Q
open Go.RowKit Go.Proofs.YtdlagefpglhdoaaDoor.Q Go.Proofs.YtdlagefpglhdoaaDoorW.PrintWords Go.Proofs.YtdlagefpglhdoaaDoorW.PrintLast Go.Proofs.YtdlagefpglhdoaaDoorW.PrintMore
def tenementlaw07_StampGets.Pure : Prop := ∀ (x0 : S28) (x1 : ByteArray) (x2 : Bool) (x3 : Int) (x4 : Int) (x5 : Bool), (wf28 x0) → (x1.size ≤ 140737488351232) → ((Lit.int .i64 x3).wf = true) → ((Lit.int .u8 x4).wf = true) → ∃ k, tenementlaw07_StampGets.f k (x0.f0.f0.f0) (x0.f0.f0.f1) (x0.f0.f0.f2) (x0.f0.f0.f3) (x0.f0.f1) (x0.f1) x1 x2 x3 x4 x5 = some true
end Go.Proofs.YtdlagefpglhdoaaDoor.Q

/- Any bytes, and those of a stamp with a byte another one, are the stamp, or none, that the chapter says. -/
set_option linter.unusedVariables false
set_option linter.unusedSimpArgs false
namespace Go.Proofs.YtdlagefpglhdoaaDoor.Pure
open Go.RowKit Go.Proofs.YtdlagefpglhdoaaDoor.Q Go.Proofs.YtdlagefpglhdoaaDoorW.PrintWords Go.Proofs.YtdlagefpglhdoaaDoorW.PrintLast Go.Proofs.YtdlagefpglhdoaaDoorW.PrintMore Go.Proofs.YtdlagefpglhdoaaDoor.Plain

theorem beq5 (a b c d e : Int) : ((a == a && (b == b && (c == c && (d == d)))) && (e == e)) = true := by simp
theorem StampGets : tenementlaw07_StampGets.Pure := by
  intro x s own_ at_ by_ bad hx hs hat hby
  have hat := i64_of hat
  obtain ⟨⟨⟨x0, x1, x2, x3⟩, xd⟩, xo⟩ := x
  obtain ⟨n0, n1, n2, n3, m, ex, ⟨l0, l1, l2, l3⟩, d1, d3, ok⟩ := mark_own (v3 := x3) (d := xd) hx.1.1.1 hx.1.1.2.1 hx.1.1.2.2.1 (k := 100) (by omega)
  clear hx
  refine ⟨100, ?_⟩
  show tenementlaw07_StampGets.f 100 x0 x1 x2 x3 xd xo s own_ at_ by_ bad = some true
  unfold tenementlaw07_StampGets.f
  rw [examples_f (by omega), Option.bind_some, if_pos rfl]
  cases own_ with
  | true =>
    rw [if_pos rfl, ex, Option.bind_some]
    show (tenementref07_Put.f 100 (n0 : Int) n1 n2 n3 m).bind _ = _
    rw [rsput_true ok (by omega), Option.bind_some]
    have hz := (sp_size (n0 := n0) (n1 := n1) (n2 := n2) (n3 := n3) m (by omega) (by omega) (by omega) (by omega)).1
    generalize sp m n0 n1 n2 n3 = p at *
    rw [if_pos (by show p.size + s.size ≤ _; omega)]
    obtain ⟨t, et, zt⟩ := bend_f (s := p ++ s) (p := at_) (b := by_) (by rw [ByteArray.size_append]; omega) hat
    rw [et, Option.bind_some]
    obtain ⟨⟨a0, a1, a2, a3, a4, a5, a6⟩, e1, e2⟩ := sget_same (s := t) (b := bad) zt (k := 100) (by omega)
    rw [e1, Option.bind_some, e2, Option.bind_some]
    show (some (a0, a1, a2, a3, a4)).bind _ = _
    rw [Option.bind_some, if_pos (beq5 _ _ _ _ _), if_pos rfl, if_pos rfl]
  | false =>
    rw [if_neg (by simp)]
    obtain ⟨⟨a0, a1, a2, a3, a4, a5, a6⟩, e1, e2⟩ := sget_same (s := s) (b := bad) (by omega) (k := 100) (by omega)
    rw [e1, Option.bind_some, e2, Option.bind_some]
    show (some (a0, a1, a2, a3, a4)).bind _ = _
    rw [Option.bind_some, if_pos (beq5 _ _ _ _ _), if_pos rfl, if_pos rfl]
end Go.Proofs.YtdlagefpglhdoaaDoor.Pure
