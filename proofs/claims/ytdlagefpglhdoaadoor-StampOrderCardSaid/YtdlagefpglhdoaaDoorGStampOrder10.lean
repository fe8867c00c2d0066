import Derived.Test.YtdlagefpglhdoaaDoorGStampOrder9
import Derived.Test.YtdlagefpglhdoaaDoorGStampOrder2
import Derived.Test.YtdlagefpglhdoaaDoorGStampOrder8
import Derived.Test.YtdlagefpglhdoaaDoorGStampOrder3
-- Written by this session's own driver (wip/hybrid.py) of the kit's printer; contracts marked FOREIGN are by hand.
set_option linter.unusedVariables false
namespace Go.Proofs.YtdlagefpglhdoaaDoor.Q
open Go.RowKit Go.Proofs.YtdlagefpglhdoaaDoor.Q Go.Proofs.YtdlagefpglhdoaaDoorW.PrintWords Go.Proofs.YtdlagefpglhdoaaDoorW.PrintLast Go.Proofs.YtdlagefpglhdoaaDoorW.PrintMore
def tenementlaw07_StampOrder.Pure : Prop := ∀ (x0 : S28) (x1 : S28) (x2 : S28), (wf28 x0) → (wf28 x1) → (wf28 x2) → ∃ k, tenementlaw07_StampOrder.f k (x0.f0.f0.f0) (x0.f0.f0.f1) (x0.f0.f0.f2) (x0.f0.f0.f3) (x0.f0.f1) (x0.f1) (x1.f0.f0.f0) (x1.f0.f0.f1) (x1.f0.f0.f2) (x1.f0.f0.f3) (x1.f0.f1) (x1.f1) (x2.f0.f0.f0) (x2.f0.f0.f1) (x2.f0.f0.f2) (x2.f0.f0.f3) (x2.f0.f1) (x2.f1) = some true
end Go.Proofs.YtdlagefpglhdoaaDoor.Q

/- Stamps stand in one order: of two that are not the same one is over; it does not go round; what has seen another one is over it. -/
set_option linter.unusedVariables false
set_option linter.unusedSimpArgs false
namespace Go.Proofs.YtdlagefpglhdoaaDoor.Pure
open Go.RowKit Go.Proofs.YtdlagefpglhdoaaDoor.Q Go.Proofs.YtdlagefpglhdoaaDoorW.PrintWords Go.Proofs.YtdlagefpglhdoaaDoorW.PrintLast Go.Proofs.YtdlagefpglhdoaaDoorW.PrintMore Go.Proofs.YtdlagefpglhdoaaDoor.Plain

abbrev T5 := Int × Int × Int × Int × Int
def keyT (x : T5) : List Int := key x.1 x.2.1 x.2.2.1 x.2.2.2.1 x.2.2.2.2
/-- The later one. -/
def L5 (x y : T5) : T5 := if 0 < lex (keyT x) (keyT y) then x else y
theorem keyT_inj {x y : T5} (h : lex (keyT x) (keyT y) = 0) : x = y := by
  have h := lex_eq (keyT x) (keyT y) rfl h
  obtain ⟨h1, h2, h3, h4, h5⟩ := key_inj h
  exact Prod.ext h1 (Prod.ext h2 (Prod.ext h3 (Prod.ext h4 h5)))
theorem L5_assoc (a b c : T5) : L5 a (L5 b c) = L5 (L5 c a) b := by
  have tab := lex_trans (keyT a) (keyT b) (keyT c) rfl rfl
  have tba := lex_trans (keyT c) (keyT b) (keyT a) rfl rfl
  have nab := lex_neg (keyT a) (keyT b)
  have nbc := lex_neg (keyT b) (keyT c)
  have nac := lex_neg (keyT a) (keyT c)
  have hbc := keyT_inj (x := b) (y := c)
  have hab := keyT_inj (x := a) (y := b)
  have hac := keyT_inj (x := a) (y := c)
  unfold L5
  by_cases q : 0 < lex (keyT b) (keyT c)
  · rw [if_pos q]
    by_cases p : 0 < lex (keyT a) (keyT b)
    · rw [if_pos p, if_neg (show ¬ 0 < lex (keyT c) (keyT a) by omega), if_pos p]
    · rw [if_neg p]
      by_cases r : 0 < lex (keyT c) (keyT a)
      · rw [if_pos r, if_neg (by omega)]
      · rw [if_neg r, if_neg p]
  · rw [if_neg q]
    by_cases r : 0 < lex (keyT a) (keyT c)
    · rw [if_pos r, if_neg (show ¬ 0 < lex (keyT c) (keyT a) by omega), if_pos (by omega)]
    · rw [if_neg r]
      by_cases s : 0 < lex (keyT c) (keyT a)
      · rw [if_pos s]
        by_cases u : 0 < lex (keyT c) (keyT b)
        · rw [if_pos u]
        · rw [if_neg u, hbc (by omega)]
      · rw [if_neg s]
        have e := hac (by omega)
        by_cases u : 0 < lex (keyT a) (keyT b)
        · rw [if_pos u, e]
        · rw [if_neg u]
          subst e
          exact (hab (by omega)).symm ▸ rfl
theorem laterL (a0 a1 a2 a3 a4 b0 b1 b2 b3 b4 : Int) {k : Nat} (hk : 5 ≤ k) : stamp_Later.f k a0 a1 a2 a3 a4 b0 b1 b2 b3 b4 = some (L5 (a0, a1, a2, a3, a4) (b0, b1, b2, b3, b4)) := by
  rw [later_f _ _ _ _ _ _ _ _ _ _ hk]
  show (if 0 < lex (keyT (a0, a1, a2, a3, a4)) (keyT (b0, b1, b2, b3, b4)) then _ else _) = _
  unfold L5
  split <;> rfl
theorem order_tail (a0 a1 a2 a3 a4 b0 b1 b2 b3 b4 c0 c1 c2 c3 c4 : Int) {k : Nat} (hk : 5 ≤ k) :
    ((stamp_Later.f k b0 b1 b2 b3 b4 c0 c1 c2 c3 c4).bind fun p => (stamp_Later.f k a0 a1 a2 a3 a4 p.1 p.2.1 p.2.2.1 p.2.2.2.1 p.2.2.2.2).bind fun m => (stamp_Later.f k c0 c1 c2 c3 c4 a0 a1 a2 a3 a4).bind fun q => (stamp_Later.f k q.1 q.2.1 q.2.2.1 q.2.2.2.1 q.2.2.2.2 b0 b1 b2 b3 b4).bind fun n =>
      (if ((m.1 == n.1 && (m.2.1 == n.2.1 && (m.2.2.1 == n.2.2.1 && (m.2.2.2.1 == n.2.2.2.1)))) && (m.2.2.2.2 == n.2.2.2.2)) = true then (some true) else (none))) = some true := by
  rw [laterL _ _ _ _ _ _ _ _ _ _ hk, Option.bind_some, laterL _ _ _ _ _ _ _ _ _ _ hk, Option.bind_some, laterL _ _ _ _ _ _ _ _ _ _ hk, Option.bind_some, laterL _ _ _ _ _ _ _ _ _ _ hk, Option.bind_some]
  have e := L5_assoc (a0, a1, a2, a3, a4) (b0, b1, b2, b3, b4) (c0, c1, c2, c3, c4)
  generalize L5 (b0, b1, b2, b3, b4) (c0, c1, c2, c3, c4) = p at *
  generalize L5 (c0, c1, c2, c3, c4) (a0, a1, a2, a3, a4) = q at *
  obtain ⟨p0, p1, p2, p3, p4⟩ := p
  obtain ⟨q0, q1, q2, q3, q4⟩ := q
  rw [if_pos]
  simp only
  rw [e]
  simp
theorem order_j1 {a0 a1 a2 a3 a4 b0 b1 b2 b3 b4 c0 c1 c2 c3 c4 x : Int} (hx : x = lex (key a0 a1 a2 a3 a4) (key b0 b1 b2 b3 b4)) (x13 : Bool) (h13 : x13 = true → x < 0) {k : Nat} (hk : 5 ≤ k) :
    tenementlaw07_StampOrder.j1 (k + 1) true x false x13 a0 a1 a2 a3 a4 b0 b1 b2 b3 b4 c0 c1 c2 c3 c4 = some true := by
  have hr := lex_range (key a0 a1 a2 a3 a4) (key b0 b1 b2 b3 b4)
  rw [tenementlaw07_StampOrder.j1, if_pos rfl, order_f _ _ _ _ _ _ _ _ _ _ hk, Option.bind_some, lex_neg, ← hx, if_pos (by rw [Int.neg_neg, wrap64_id (by omega) (by omega)])]
  by_cases e0 : x = 0
  · have e := lex_eq (key a0 a1 a2 a3 a4) (key b0 b1 b2 b3 b4) rfl (by omega)
    have e := key_inj e
    rw [if_pos e0, if_pos (beq5_iff.2 e), if_neg (by simp)]
    cases x13 with
    | true => exact absurd (h13 rfl) (by omega)
    | false => rw [if_neg (by simp)]; exact order_tail _ _ _ _ _ _ _ _ _ _ _ _ _ _ _ hk
  · have ne : ¬ (((a0 == b0 && (a1 == b1 && (a2 == b2 && (a3 == b3)))) && (a4 == b4)) = true) := by
      intro h
      obtain ⟨rfl, rfl, rfl, rfl, rfl⟩ := beq5_iff.1 h
      rw [lex_self] at hx
      exact e0 hx
    rw [if_neg e0, if_neg ne, if_neg (by simp)]
    cases x13 with
    | true => rw [if_pos rfl, if_pos (h13 rfl)]; exact order_tail _ _ _ _ _ _ _ _ _ _ _ _ _ _ _ hk
    | false => rw [if_neg (by simp)]; exact order_tail _ _ _ _ _ _ _ _ _ _ _ _ _ _ _ hk
theorem sum_small {a b c d : Nat} (ha : a ≤ 4) (hb : b ≤ 4) (hc : c ≤ 4) (hd : d ≤ 4) : sumv a b c d = (a : Int) + b + c + d := by
  unfold sumv
  rw [wrap_u64 (x := 0 + (a : Int)) (by omega) (by omega), wrap_u64 (x := 0 + (a : Int) + b) (by omega) (by omega), wrap_u64 (x := 0 + (a : Int) + b + c) (by omega) (by omega), wrap_u64 (by omega) (by omega)]
  omega
theorem order_j0 {a0 a1 a2 a3 b0 b1 b2 b3 : Nat} {a4 b4 c0 c1 c2 c3 c4 x : Int} (la : a0 ≤ 4 ∧ a1 ≤ 4 ∧ a2 ≤ 4 ∧ a3 ≤ 4) (lb : b0 ≤ 4 ∧ b1 ≤ 4 ∧ b2 ≤ 4 ∧ b3 ≤ 4) (hx : x = lex (key a0 a1 a2 a3 a4) (key b0 b1 b2 b3 b4)) {k : Nat} (hk : 5 ≤ k) :
    tenementlaw07_StampOrder.j0 (k + 1 + 1) true x false a0 a1 a2 a3 a4 b0 b1 b2 b3 b4 c0 c1 c2 c3 c4 = some true := by
  rw [tenementlaw07_StampOrder.j0, sseen_f, Option.bind_some]
  by_cases s : ((a0 : Int) ≤ b0 ∧ (a1 : Int) ≤ b1 ∧ (a2 : Int) ≤ b2 ∧ (a3 : Int) ≤ b3)
  · rw [if_pos (decide_eq_true s)]
    refine order_j1 hx _ ?_ hk
    intro h
    have h : ¬ ((a0 : Int) = b0 ∧ (a1 : Int) = b1 ∧ (a2 : Int) = b2 ∧ (a3 : Int) = b3) := by
      rintro ⟨e0, e1, e2, e3⟩
      rw [e0, e1, e2, e3] at h
      simp at h
    have sa := sum_small la.1 la.2.1 la.2.2.1 la.2.2.2
    have sb := sum_small lb.1 lb.2.1 lb.2.2.1 lb.2.2.2
    rw [hx]
    unfold key
    rw [lex, if_pos (by rw [sa, sb]; omega)]
    omega
  · rw [if_neg (by simpa using s)]
    exact order_j1 hx _ (fun h => absurd h (by simp)) hk
theorem StampOrder : tenementlaw07_StampOrder.Pure := by
  intro x y z hx hy hz
  obtain ⟨⟨⟨x0, x1, x2, x3⟩, xd⟩, xo⟩ := x
  obtain ⟨⟨⟨y0, y1, y2, y3⟩, yd⟩, yo⟩ := y
  obtain ⟨⟨⟨z0, z1, z2, z3⟩, zd⟩, zo⟩ := z
  obtain ⟨a0, a1, a2, a3, a4, ex, la, _, _, _⟩ := mark_own (v3 := x3) (d := xd) hx.1.1.1 hx.1.1.2.1 hx.1.1.2.2.1 (k := 100) (by omega)
  obtain ⟨b0, b1, b2, b3, b4, ey, lb, _, _, _⟩ := mark_own (v3 := y3) (d := yd) hy.1.1.1 hy.1.1.2.1 hy.1.1.2.2.1 (k := 100) (by omega)
  obtain ⟨c0, c1, c2, c3, c4, ez, lc, _, _, _⟩ := mark_own (v3 := z3) (d := zd) hz.1.1.1 hz.1.1.2.1 hz.1.1.2.2.1 (k := 100) (by omega)
  clear hx hy hz
  refine ⟨100, ?_⟩
  show tenementlaw07_StampOrder.f 100 x0 x1 x2 x3 xd xo y0 y1 y2 y3 yd yo z0 z1 z2 z3 zd zo = some true
  unfold tenementlaw07_StampOrder.f
  rw [examples_f (by omega), Option.bind_some, if_pos rfl, ex, Option.bind_some, ey, Option.bind_some, ez, Option.bind_some]
  show (stamp_Order.f 100 (a0 : Int) a1 a2 a3 a4 b0 b1 b2 b3 b4).bind _ = _
  rw [order_f _ _ _ _ _ _ _ _ _ _ (by omega), Option.bind_some]
  obtain ⟨p, hp⟩ : ∃ p, p = lex (key (a0 : Int) a1 a2 a3 a4) (key (b0 : Int) b1 b2 b3 b4) := ⟨_, rfl⟩
  have t := lex_trans (key (a0 : Int) a1 a2 a3 a4) (key (b0 : Int) b1 b2 b3 b4) (key (c0 : Int) c1 c2 c3 c4) rfl rfl
  rw [← hp] at t ⊢
  by_cases c : p ≤ 0
  · rw [if_pos c]
    show (stamp_Order.f 100 (b0 : Int) b1 b2 b3 b4 c0 c1 c2 c3 c4).bind _ = _
    rw [order_f _ _ _ _ _ _ _ _ _ _ (by omega), Option.bind_some]
    by_cases d : lex (key (b0 : Int) b1 b2 b3 b4) (key (c0 : Int) c1 c2 c3 c4) ≤ 0
    · rw [if_pos d]
      show (stamp_Order.f 100 (a0 : Int) a1 a2 a3 a4 c0 c1 c2 c3 c4).bind _ = _
      rw [order_f _ _ _ _ _ _ _ _ _ _ (by omega), Option.bind_some, decide_eq_false (show ¬ lex (key (a0 : Int) a1 a2 a3 a4) (key (c0 : Int) c1 c2 c3 c4) > 0 from Int.not_lt.2 (t c d))]
      exact order_j0 (k := 98) la lb hp (by omega)
    · rw [if_neg d]
      exact order_j0 (k := 98) la lb hp (by omega)
  · rw [if_neg c]
    exact order_j0 (k := 98) la lb hp (by omega)
end Go.Proofs.YtdlagefpglhdoaaDoor.Pure
