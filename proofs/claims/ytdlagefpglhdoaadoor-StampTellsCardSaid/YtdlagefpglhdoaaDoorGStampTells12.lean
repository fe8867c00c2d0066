import Derived.Test.YtdlagefpglhdoaaDoorGStampTells11
import Derived.Test.YtdlagefpglhdoaaDoorGStampTells4
import Derived.Test.YtdlagefpglhdoaaDoorGStampTells8
import Derived.Test.YtdlagefpglhdoaaDoorGStampTells10
import Derived.Test.YtdlagefpglhdoaaDoorGStampTells5
-- Written by this session's own driver (wip/hybrid.py) of the kit's printer; contracts marked FOREIGN are by hand.
set_option linter.unusedVariables false
namespace Go.Proofs.YtdlagefpglhdoaaDoor.Q
open Go.RowKit Go.Proofs.YtdlagefpglhdoaaDoor.Q Go.Proofs.YtdlagefpglhdoaaDoorW.PrintWords Go.Proofs.YtdlagefpglhdoaaDoorW.PrintLast Go.Proofs.YtdlagefpglhdoaaDoorW.PrintMore
def tenementlaw07_StampTells.Pure : Prop := ∀ (x0 : S28) (x1 : S28) (x2 : S30), (wf28 x0) → (wf28 x1) → (wf30 x2) → ∃ k, tenementlaw07_StampTells.f k (x0.f0.f0.f0) (x0.f0.f0.f1) (x0.f0.f0.f2) (x0.f0.f0.f3) (x0.f0.f1) (x0.f1) (x1.f0.f0.f0) (x1.f0.f0.f1) (x1.f0.f0.f2) (x1.f0.f0.f3) (x1.f0.f1) (x1.f1) (x2.f0.f0) (x2.f0.f1) (x2.f0.f2) (x2.f0.f3) (x2.f1) = some true
end Go.Proofs.YtdlagefpglhdoaaDoor.Q

/- Any two stamps are right, or not, held against one another, seen, or not, put, told, as the chapter says. -/
set_option linter.unusedVariables false
set_option linter.unusedSimpArgs false
namespace Go.Proofs.YtdlagefpglhdoaaDoor.Pure
open Go.RowKit Go.Proofs.YtdlagefpglhdoaaDoor.Q Go.Proofs.YtdlagefpglhdoaaDoorW.PrintWords Go.Proofs.YtdlagefpglhdoaaDoorW.PrintLast Go.Proofs.YtdlagefpglhdoaaDoorW.PrintMore Go.Proofs.YtdlagefpglhdoaaDoor.Plain

theorem beq5 (a b c d e : Int) : ((a == a && (b == b && (c == c && (d == d)))) && (e == e)) = true := by simp
theorem StampTells : tenementlaw07_StampTells.Pure := by
  intro x y v hx hy hv
  obtain ⟨⟨⟨x0, x1, x2, x3⟩, xd⟩, xo⟩ := x
  obtain ⟨⟨⟨y0, y1, y2, y3⟩, yd⟩, yo⟩ := y
  obtain ⟨⟨v0, v1, v2, v3⟩, vo⟩ := v
  obtain ⟨a0, a1, a2, a3, a4, ex, ⟨la0, la1, la2, la3⟩, la4, la5⟩ := mark_any hx.1.1.1 hx.1.1.2.1 hx.1.1.2.2.1 hx.1.1.2.2.2 hx.1.2 xo (k := 100) (by omega)
  obtain ⟨b0, b1, b2, b3, b4, ey, ⟨lb0, lb1, lb2, lb3⟩, lb4, lb5⟩ := mark_any hy.1.1.1 hy.1.1.2.1 hy.1.1.2.2.1 hy.1.1.2.2.2 hy.1.2 yo (k := 100) (by omega)
  obtain ⟨c0, c1, c2, c3, ev, _, _, _, _⟩ := vector_f hv.1.1 hv.1.2.1 hv.1.2.2.1 hv.1.2.2.2 vo (k := 100) (by omega)
  clear hx hy hv
  obtain ⟨s, ok, p1, p2⟩ : ∃ s ok, stamp_Put.f 100 (a0 : Int) a1 a2 a3 a4 = some (s, ok) ∧ tenementref07_Put.f 100 (a0 : Int) a1 a2 a3 a4 = some (s, ok) := by
    by_cases h : okS a0 a1 a2 a3 a4
    · have hd := okS_dc h
      obtain ⟨m, rfl⟩ : ∃ m : Nat, a4 = m := ⟨a4.toNat, by omega⟩
      exact ⟨_, _, sput_true h (by omega), rsput_true h (by omega)⟩
    · exact ⟨_, _, sput_false h, rsput_false h (by omega)⟩
  obtain ⟨l0, l1, l2, l3, l4, g1, g2⟩ := later_same (a0 := a0) (a1 := a1) (a2 := a2) (a3 := a3) (b0 := b0) (b1 := b1) (b2 := b2) (b3 := b3) a4 b4 la0 lb0 (k := 100) (by omega)
  obtain ⟨r, r1, r2⟩ := sright_same (a0 : Int) a1 a2 a3 a4 (k := 100) (by omega)
  have n1 := sN_f (a0 : Int) a1 a2 a3 a4
  have n2 := rN_f (a0 : Int) a1 a2 a3 a4
  have o1 := order_f (a0 : Int) a1 a2 a3 a4 b0 b1 b2 b3 b4 (k := 100) (by omega)
  have o2 := rorder_f (a0 := a0) (a1 := a1) (a2 := a2) (a3 := a3) (b0 := b0) (b1 := b1) (b2 := b2) (b3 := b3) a4 b4 la0 lb0 (k := 100) (by omega)
  have q1 := sseen_f (a0 : Int) a1 a2 a3 a4 c0 c1 c2 c3
  have q2 := rsseen_f (a0 : Int) a1 a2 a3 a4 c0 c1 c2 c3 (k := 100) (by omega)
  have t1 := stext_f la0 la1 la2 la3 ⟨la4, la5⟩
  have t2 := rstext_f la0 la1 la2 la3 ⟨la4, la5⟩ (k := 100) (by omega)
  have eA : tenementlaw07_refStamp.f (a0 : Int) a1 a2 a3 a4 = some ((a0 : Int), (a1 : Int), (a2 : Int), (a3 : Int), a4) := rfl
  have eB : tenementlaw07_refStamp.f (b0 : Int) b1 b2 b3 b4 = some ((b0 : Int), (b1 : Int), (b2 : Int), (b3 : Int), b4) := rfl
  have eL : tenementlaw07_refStamp.f l0 l1 l2 l3 l4 = some (l0, l1, l2, l3, l4) := rfl
  refine ⟨100, ?_⟩
  show tenementlaw07_StampTells.f 100 x0 x1 x2 x3 xd xo y0 y1 y2 y3 yd yo v0 v1 v2 v3 vo = some true
  unfold tenementlaw07_StampTells.f
  rw [examples_f (by omega), Option.bind_some, if_pos rfl, ex, Option.bind_some, ey, Option.bind_some, ev, Option.bind_some, p1, Option.bind_some, eA, Option.bind_some, p2, Option.bind_some, g1, Option.bind_some, eL, Option.bind_some, Option.bind_some, eB, Option.bind_some, g2, Option.bind_some, if_pos (beq5 _ _ _ _ _),
    r1, Option.bind_some, Option.bind_some, r2, Option.bind_some, if_pos rfl, n1, Option.bind_some, Option.bind_some, n2, Option.bind_some, if_pos rfl, o1, Option.bind_some, Option.bind_some, Option.bind_some, o2, Option.bind_some, if_pos rfl,
    q1, Option.bind_some, Option.bind_some, q2, Option.bind_some, if_pos rfl, if_pos rfl, if_pos rfl, t1, Option.bind_some, Option.bind_some, t2, Option.bind_some, if_pos rfl]
end Go.Proofs.YtdlagefpglhdoaaDoor.Pure
