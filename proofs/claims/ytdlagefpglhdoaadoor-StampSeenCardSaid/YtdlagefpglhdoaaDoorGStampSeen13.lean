import Derived.Test.YtdlagefpglhdoaaDoorGStampSeen9
import Derived.Test.YtdlagefpglhdoaaDoorGStampSeen10
import Derived.Test.YtdlagefpglhdoaaDoorGStampSeen11
import Derived.Test.YtdlagefpglhdoaaDoorGStampSeen12
import Derived.Test.YtdlagefpglhdoaaDoorGStampSeen3
import Derived.Test.YtdlagefpglhdoaaDoorGStampSeen8
-- Written by this session's own driver (wip/hybrid.py) of the kit's printer; contracts marked FOREIGN are by hand.
set_option linter.unusedVariables false
namespace Go.Proofs.YtdlagefpglhdoaaDoor.Q
open Go.RowKit Go.Proofs.YtdlagefpglhdoaaDoor.Q Go.Proofs.YtdlagefpglhdoaaDoorW.PrintWords Go.Proofs.YtdlagefpglhdoaaDoorW.PrintLast Go.Proofs.YtdlagefpglhdoaaDoorW.PrintMore
def tenementlaw07_StampSeen.Pure : Prop := ∀ (x0 : S28) (x1 : S30) (x2 : S30), (wf28 x0) → (wf30 x1) → (wf30 x2) → ∃ k, tenementlaw07_StampSeen_p0.f k (x0.f0.f0.f0) (x0.f0.f0.f1) (x0.f0.f0.f2) (x0.f0.f0.f3) (x0.f0.f1) (x0.f1) (x1.f0.f0) (x1.f0.f1) (x1.f0.f2) (x1.f0.f3) (x1.f1) (x2.f0.f0) (x2.f0.f1) (x2.f0.f2) (x2.f0.f3) (x2.f1) = some true ∨ tenementlaw07_StampSeen_p1.f k (x0.f0.f0.f0) (x0.f0.f0.f1) (x0.f0.f0.f2) (x0.f0.f0.f3) (x0.f0.f1) (x0.f1) (x1.f0.f0) (x1.f0.f1) (x1.f0.f2) (x1.f0.f3) (x1.f1) (x2.f0.f0) (x2.f0.f1) (x2.f0.f2) (x2.f0.f3) (x2.f1) = some true ∨ tenementlaw07_StampSeen_p2.f k (x0.f0.f0.f0) (x0.f0.f0.f1) (x0.f0.f0.f2) (x0.f0.f0.f3) (x0.f0.f1) (x0.f1) (x1.f0.f0) (x1.f0.f1) (x1.f0.f2) (x1.f0.f3) (x1.f1) (x2.f0.f0) (x2.f0.f1) (x2.f0.f2) (x2.f0.f3) (x2.f1) = some true ∨ tenementlaw07_StampSeen_p3.f k (x0.f0.f0.f0) (x0.f0.f0.f1) (x0.f0.f0.f2) (x0.f0.f0.f3) (x0.f0.f1) (x0.f1) (x1.f0.f0) (x1.f0.f1) (x1.f0.f2) (x1.f0.f3) (x1.f1) (x2.f0.f0) (x2.f0.f1) (x2.f0.f2) (x2.f0.f3) (x2.f1) = some true
end Go.Proofs.YtdlagefpglhdoaaDoor.Q

/- What is seen is seen of all that is joined with more; a stamp is seen at its own vector, and not below. -/
set_option linter.unusedVariables false
set_option linter.unusedSimpArgs false
namespace Go.Proofs.YtdlagefpglhdoaaDoor.Pure
open Go.RowKit Go.Proofs.YtdlagefpglhdoaaDoor.Q Go.Proofs.YtdlagefpglhdoaaDoorW.PrintWords Go.Proofs.YtdlagefpglhdoaaDoorW.PrintLast Go.Proofs.YtdlagefpglhdoaaDoorW.PrintMore Go.Proofs.YtdlagefpglhdoaaDoor.Plain

theorem vjoin_f (a b c d x y z u : Int) : vec_Join.f a b c d x y z u = some (mx a x, mx b y, mx c z, mx d u) := rfl
theorem vmeet_f (a b c d x y z u : Int) : vec_Meet.f a b c d x y z u = some (mn a x, mn b y, mn c z, mn d u) := rfl
theorem le_mx {p a b : Int} (h : p ≤ a) : p ≤ mx a b := by unfold mx; split <;> omega
theorem le_mn {p a b : Int} : p ≤ mn a b ↔ p ≤ a ∧ p ≤ b := by unfold mn; split <;> omega
theorem StampSeen : tenementlaw07_StampSeen.Pure := by
  intro x v w hx hv hw
  obtain ⟨⟨⟨x0, x1, x2, x3⟩, xd⟩, xo⟩ := x
  obtain ⟨⟨v0, v1, v2, v3⟩, vo⟩ := v
  obtain ⟨⟨w0, w1, w2, w3⟩, wo⟩ := w
  obtain ⟨n0, n1, n2, n3, n, ex, ⟨l0, l1, l2, l3⟩, d1, d3, ok⟩ := mark_own (v3 := x3) (d := xd) hx.1.1.1 hx.1.1.2.1 hx.1.1.2.2.1 (k := 100) (by omega)
  obtain ⟨a0, a1, a2, a3, ev, _, _, _, _⟩ := vector_f hv.1.1 hv.1.2.1 hv.1.2.2.1 hv.1.2.2.2 vo (k := 100) (by omega)
  obtain ⟨b0, b1, b2, b3, ew, _, _, _, _⟩ := vector_f hw.1.1 hw.1.2.1 hw.1.2.2.1 hw.1.2.2.2 wo (k := 100) (by omega)
  clear hx hv hw
  have hown := ok.2
  -- the stamp one below its number
  obtain ⟨p0, p1, p2, p3, eb, hb⟩ : ∃ p0 p1 p2 p3, vec_With.f (n0 : Int) n1 n2 n3 n (IntKind.u64.wrap (own n0 n1 n2 n3 n - 1)) = some (p0, p1, p2, p3) ∧ ¬ ((n0 : Int) ≤ p0 ∧ (n1 : Int) ≤ p1 ∧ (n2 : Int) ≤ p2 ∧ (n3 : Int) ≤ p3) := by
    refine ⟨_, _, _, _, rfl, ?_⟩
    have ho : IntKind.u64.wrap (own n0 n1 n2 n3 n - 1) = own n0 n1 n2 n3 n - 1 := by
      have : own n0 n1 n2 n3 n ≤ 4 := by unfold own; (repeat' split) <;> omega
      exact wrap_u64 (by omega) (by omega)
    rw [ho]
    unfold own
    have c : n = 1 ∨ n = 2 ∨ n = 3 := by omega
    rcases c with rfl | rfl | rfl
    · intro h; have := h.1; simp at this; omega
    · intro h; have := h.2.1; simp at this; omega
    · intro h; have := h.2.2.1; simp at this; omega
  refine ⟨100, ?_⟩
  show tenementlaw07_StampSeen_p0.f 100 x0 x1 x2 x3 xd xo v0 v1 v2 v3 vo w0 w1 w2 w3 wo = some true ∨ tenementlaw07_StampSeen_p1.f 100 x0 x1 x2 x3 xd xo v0 v1 v2 v3 vo w0 w1 w2 w3 wo = some true ∨
    tenementlaw07_StampSeen_p2.f 100 x0 x1 x2 x3 xd xo v0 v1 v2 v3 vo w0 w1 w2 w3 wo = some true ∨ tenementlaw07_StampSeen_p3.f 100 x0 x1 x2 x3 xd xo v0 v1 v2 v3 vo w0 w1 w2 w3 wo = some true
  by_cases sa : (n0 : Int) ≤ a0 ∧ (n1 : Int) ≤ a1 ∧ (n2 : Int) ≤ a2 ∧ (n3 : Int) ≤ a3
  · left
    unfold tenementlaw07_StampSeen_p0.f
    rw [examples_f (by omega), Option.bind_some, if_pos rfl, ex, Option.bind_some, ev, Option.bind_some, ew, Option.bind_some, vjoin_f, Option.bind_some]
    show (stamp_Seen.f (n0 : Int) n1 n2 n3 n n0 n1 n2 n3).bind _ = _
    rw [sseen_true _ ⟨Int.le_refl _, Int.le_refl _, Int.le_refl _, Int.le_refl _⟩, Option.bind_some, if_pos rfl, sN_f, Option.bind_some]
    show (vec_With.f (n0 : Int) n1 n2 n3 n (IntKind.u64.wrap (own n0 n1 n2 n3 n - 1))).bind _ = _
    rw [eb, Option.bind_some]
    show (stamp_Seen.f (n0 : Int) n1 n2 n3 n p0 p1 p2 p3).bind _ = _
    rw [sseen_false _ hb, Option.bind_some, if_neg (by simp)]
    show (stamp_Seen.f (n0 : Int) n1 n2 n3 n a0 a1 a2 a3).bind _ = _
    rw [sseen_true _ sa, Option.bind_some, if_pos rfl]
    show (stamp_Seen.f (n0 : Int) n1 n2 n3 n (mx a0 b0) (mx a1 b1) (mx a2 b2) (mx a3 b3)).bind _ = _
    rw [sseen_true _ ⟨le_mx sa.1, le_mx sa.2.1, le_mx sa.2.2.1, le_mx sa.2.2.2⟩, Option.bind_some, if_pos rfl, vmeet_f, Option.bind_some]
    show (stamp_Seen.f (n0 : Int) n1 n2 n3 n (mn a0 b0) (mn a1 b1) (mn a2 b2) (mn a3 b3)).bind _ = _
    rw [sseen_f, Option.bind_some, Option.bind_some, if_pos rfl]
    show (stamp_Seen.f (n0 : Int) n1 n2 n3 n b0 b1 b2 b3).bind _ = _
    rw [sseen_f, Option.bind_some, if_pos]
    simp only [decide_eq_decide, le_mn]
    omega
  · right; right; right
    have sm : ¬ ((n0 : Int) ≤ mn a0 b0 ∧ (n1 : Int) ≤ mn a1 b1 ∧ (n2 : Int) ≤ mn a2 b2 ∧ (n3 : Int) ≤ mn a3 b3) := by
      simp only [le_mn]
      omega
    unfold tenementlaw07_StampSeen_p3.f
    rw [examples_f (by omega), Option.bind_some, if_pos rfl, ex, Option.bind_some, ev, Option.bind_some, ew, Option.bind_some, vjoin_f, Option.bind_some]
    show (stamp_Seen.f (n0 : Int) n1 n2 n3 n n0 n1 n2 n3).bind _ = _
    rw [sseen_true _ ⟨Int.le_refl _, Int.le_refl _, Int.le_refl _, Int.le_refl _⟩, Option.bind_some, if_pos rfl, sN_f, Option.bind_some]
    show (vec_With.f (n0 : Int) n1 n2 n3 n (IntKind.u64.wrap (own n0 n1 n2 n3 n - 1))).bind _ = _
    rw [eb, Option.bind_some]
    show (stamp_Seen.f (n0 : Int) n1 n2 n3 n p0 p1 p2 p3).bind _ = _
    rw [sseen_false _ hb, Option.bind_some, if_neg (by simp)]
    show (stamp_Seen.f (n0 : Int) n1 n2 n3 n a0 a1 a2 a3).bind _ = _
    rw [sseen_false _ sa, Option.bind_some, if_neg (by simp), vmeet_f, Option.bind_some]
    show (stamp_Seen.f (n0 : Int) n1 n2 n3 n (mn a0 b0) (mn a1 b1) (mn a2 b2) (mn a3 b3)).bind _ = _
    rw [sseen_false _ sm, Option.bind_some, Option.bind_some, if_neg (by simp), if_neg (by simp)]
end Go.Proofs.YtdlagefpglhdoaaDoor.Pure
