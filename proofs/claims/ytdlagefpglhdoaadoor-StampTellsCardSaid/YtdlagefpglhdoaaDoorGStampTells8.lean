import Derived.Test.YtdlagefpglhdoaaDoorGStampTells5
import Derived.Test.YtdlagefpglhdoaaDoorGStampTells0
import Derived.Test.YtdlagefpglhdoaaDoorGStampTells7
import Derived.Test.YtdlagefpglhdoaaDoorGStampTells4
import Derived.Test.YtdlagefpglhdoaaDoorGStampTells3
/- Joins, meets and the order of vectors; the chapter's examples. -/
set_option linter.unusedVariables false
set_option linter.unusedSimpArgs false
namespace Go.Proofs.YtdlagefpglhdoaaDoor.Pure
open Go.RowKit Go.Proofs.YtdlagefpglhdoaaDoor.Q Go.Proofs.YtdlagefpglhdoaaDoorW.PrintWords Go.Proofs.YtdlagefpglhdoaaDoorW.PrintLast Go.Proofs.YtdlagefpglhdoaaDoorW.PrintMore Go.Proofs.YtdlagefpglhdoaaDoor.Plain

theorem examples_60 : tenementlaw07_examples.f 60 = some true := by decide +kernel
theorem examples_f {k : Nat} (hk : 60 ≤ k) : tenementlaw07_examples.f k = some true := at_rounds tenementlaw07_examples.mono hk examples_60
theorem mx_beq (a b : Int) : (mx a b == b) = decide (a ≤ b) := by
  rw [Bool.eq_iff_iff, beq_iff_eq, decide_eq_true_eq]
  unfold mx
  split <;> omega
theorem vleq_f (a b c d x y z u : Int) : vec_Leq.f a b c d x y z u = some (decide (a ≤ x ∧ b ≤ y ∧ c ≤ z ∧ d ≤ u)) := by
  unfold vec_Leq.f vec_Join.f
  simp only [Option.bind_some, mx_beq, Bool.decide_and]
theorem vleq_true {a b c d x y z u : Int} (h : a ≤ x ∧ b ≤ y ∧ c ≤ z ∧ d ≤ u) : vec_Leq.f a b c d x y z u = some true :=
  (vleq_f a b c d x y z u).trans (congrArg some (decide_eq_true h))
theorem vleq_false {a b c d x y z u : Int} (h : ¬ (a ≤ x ∧ b ≤ y ∧ c ≤ z ∧ d ≤ u)) : vec_Leq.f a b c d x y z u = some false :=
  (vleq_f a b c d x y z u).trans (congrArg some (decide_eq_false h))
theorem beq4 (a b c d : Int) : (a == a && (b == b && (c == c && (d == d)))) = true := by simp
theorem eq4 {a b c d x y z u : Int} : ((a == x && (b == y && (c == z && (d == u)))) = true) ↔ (a = x ∧ b = y ∧ c = z ∧ d = u) := by
  simp only [Bool.and_eq_true, beq_iff_eq]
end Go.Proofs.YtdlagefpglhdoaaDoor.Pure

/- The order and the sums of vectors, by the document. -/
set_option linter.unusedVariables false
set_option linter.unusedSimpArgs false
namespace Go.Proofs.YtdlagefpglhdoaaDoor.Pure
open Go.RowKit Go.Proofs.YtdlagefpglhdoaaDoor.Q Go.Proofs.YtdlagefpglhdoaaDoorW.PrintWords Go.Proofs.YtdlagefpglhdoaaDoorW.PrintLast Go.Proofs.YtdlagefpglhdoaaDoorW.PrintMore Go.Proofs.YtdlagefpglhdoaaDoor.Plain

theorem i1 : wrap64 (0 + 1) = 1 := wrap64_id (by omega) (by omega)
theorem i2 : wrap64 (1 + 1) = 2 := wrap64_id (by omega) (by omega)
theorem i3 : wrap64 (2 + 1) = 3 := wrap64_id (by omega) (by omega)
theorem i4 : wrap64 (3 + 1) = 4 := wrap64_id (by omega) (by omega)
theorem rleq_f (a b c d x y z u : Int) {k : Nat} (hk : 5 ≤ k) : tenementref06_Leq.f k a b c d x y z u = some (decide (a ≤ x ∧ b ≤ y ∧ c ≤ z ∧ d ≤ u)) := by
  obtain ⟨k, rfl⟩ : ∃ m, k = m + 5 := ⟨k - 5, by omega⟩
  unfold tenementref06_Leq.f
  have no : ∀ {P : Prop} [Decidable P], ¬ P → (some false : Option Bool) = some (decide P) := fun h => by rw [decide_eq_false h]
  rw [tenementref06_Leq.l0, if_pos (by omega), if_pos rfl, i1]
  by_cases ha : a > x
  · rw [if_pos ha]; exact no (by omega)
  rw [if_neg ha, tenementref06_Leq.l0, if_pos (by omega), if_neg (by omega), if_pos rfl, i2]
  by_cases hb : b > y
  · rw [if_pos hb]; exact no (by omega)
  rw [if_neg hb, tenementref06_Leq.l0, if_pos (by omega), if_neg (by omega), if_neg (by omega), if_pos rfl, i3]
  by_cases hc : c > z
  · rw [if_pos hc]; exact no (by omega)
  rw [if_neg hc, tenementref06_Leq.l0, if_pos (by omega), if_neg (by omega), if_neg (by omega), if_neg (by omega), if_pos rfl, i4]
  by_cases hd : d > u
  · rw [if_pos hd]; exact no (by omega)
  rw [if_neg hd, tenementref06_Leq.l0, if_neg (by omega), decide_eq_true (by omega)]
theorem sum_same {a : Nat} (ha : a < 18446744073709551616) (b c d : Int) : ∃ r, vec_Sum.f a b c d = some r ∧ tenementref06_Sum.f a b c d = some r := by
  have e : IntKind.u64.wrap (0 + (a : Int)) = (a : Int) := by rw [IntKind.wrap_u64]; omega
  refine ⟨_, rfl, ?_⟩
  rw [e]
  rfl
end Go.Proofs.YtdlagefpglhdoaaDoor.Pure

/- The order of stamps, by the document. -/
set_option linter.unusedVariables false
set_option linter.unusedSimpArgs false
namespace Go.Proofs.YtdlagefpglhdoaaDoor.Pure
open Go.RowKit Go.Proofs.YtdlagefpglhdoaaDoor.Q Go.Proofs.YtdlagefpglhdoaaDoorW.PrintWords Go.Proofs.YtdlagefpglhdoaaDoorW.PrintLast Go.Proofs.YtdlagefpglhdoaaDoorW.PrintMore Go.Proofs.YtdlagefpglhdoaaDoor.Plain

theorem rsum_f {a : Nat} (ha : a < 18446744073709551616) (b c d : Int) : tenementref06_Sum.f a b c d = some (sumv a b c d) := by
  obtain ⟨r, e1, e2⟩ := sum_same ha b c d
  have e3 : vec_Sum.f (a : Int) b c d = some (sumv a b c d) := rfl
  rw [e2, ← e1, e3]
theorem lex_ends {p q : Int} (h : p ≠ q) (l m : List Int) : decide (p < q) = decide (lex (p :: l) (q :: m) < 0) := by
  rw [lex]
  by_cases c : p < q
  · rw [if_pos c, decide_eq_true c]; rfl
  · rw [if_neg c, if_pos (by omega), decide_eq_false c]; rfl
theorem lex_next (p : Int) (l m : List Int) : lex (p :: l) (p :: m) = lex l m := by
  rw [lex, if_neg (by omega), if_neg (by omega)]
theorem less_f (a b c d x y z u : Int) {k : Nat} (hk : 5 ≤ k) : tenementref07_less.f k a b c d x y z u = some (decide (lex [a, b, c, d] [x, y, z, u] < 0)) := by
  obtain ⟨k, rfl⟩ : ∃ m, k = m + 5 := ⟨k - 5, by omega⟩
  unfold tenementref07_less.f
  rw [tenementref07_less.l0, if_pos (by omega), if_pos rfl, i1]
  by_cases e0 : a = x
  · subst e0
    rw [if_pos rfl, lex_next, tenementref07_less.l0, if_pos (by omega), if_neg (by omega), if_pos rfl, i2]
    by_cases e1 : b = y
    · subst e1
      rw [if_pos rfl, lex_next, tenementref07_less.l0, if_pos (by omega), if_neg (by omega), if_neg (by omega), if_pos rfl, i3]
      by_cases e2 : c = z
      · subst e2
        rw [if_pos rfl, lex_next, tenementref07_less.l0, if_pos (by omega), if_neg (by omega), if_neg (by omega), if_neg (by omega), if_pos rfl, i4]
        by_cases e3 : d = u
        · subst e3
          rw [if_pos rfl, lex_next, tenementref07_less.l0, if_neg (by omega)]
          rfl
        · rw [if_neg e3, lex_ends e3]
      · rw [if_neg e2, lex_ends e2]
    · rw [if_neg e1, lex_ends e1]
  · rw [if_neg e0, lex_ends e0]
theorem rorder_f {a0 a1 a2 a3 b0 b1 b2 b3 : Nat} (a4 b4 : Int) (ha : a0 < 18446744073709551616) (hb : b0 < 18446744073709551616) {k : Nat} (hk : 5 ≤ k) : tenementref07_Order.f k a0 a1 a2 a3 a4 b0 b1 b2 b3 b4 = some (lex (key a0 a1 a2 a3 a4) (key b0 b1 b2 b3 b4)) := by
  unfold tenementref07_Order.f
  by_cases c : ((((a0 : Int) == b0) && (((a1 : Int) == b1) && (((a2 : Int) == b2) && ((a3 : Int) == b3)))) && (a4 == b4)) = true
  · rw [if_pos c]
    obtain ⟨h0, h1, h2, h3, h4⟩ := beq5_iff.1 c
    rw [h0, h1, h2, h3, h4, lex_self]
  rw [if_neg c, rsum_f ha, Option.bind_some, rsum_f hb, Option.bind_some]
  unfold key
  generalize sumv (a0 : Int) a1 a2 a3 = S
  generalize sumv (b0 : Int) b1 b2 b3 = T
  rw [lex_two S T a4 b4]
  by_cases c1 : S < T
  · rw [if_pos c1, if_pos c1]
  rw [if_neg c1, if_neg c1]
  by_cases c2 : T < S
  · rw [if_neg (show ¬ S = T by omega), if_pos c2]
  rw [if_pos (show S = T by omega), if_neg c2]
  by_cases c3 : a4 < b4
  · rw [if_pos c3, if_pos c3]
  rw [if_neg c3, if_neg c3]
  by_cases c4 : b4 < a4
  · rw [if_neg (show ¬ a4 = b4 by omega), if_pos c4]
  rw [if_pos (show a4 = b4 by omega), if_neg c4, less_f _ _ _ _ _ _ _ _ hk, Option.bind_some]
  rcases lex_range [(a0 : Int), a1, a2, a3] [(b0 : Int), b1, b2, b3] with h | h | h
  · rw [h, if_pos (by decide)]
  · exfalso
    have e := lex_eq _ _ (by rfl) h
    simp only [List.cons.injEq, and_true] at e
    exact c (beq5_iff.2 ⟨e.1, e.2.1, e.2.2.1, e.2.2.2, by omega⟩)
  · rw [h, if_neg (by decide)]
theorem rlater_f {a0 a1 a2 a3 b0 b1 b2 b3 : Nat} (a4 b4 : Int) (ha : a0 < 18446744073709551616) (hb : b0 < 18446744073709551616) {k : Nat} (hk : 5 ≤ k) : tenementref07_Later.f k a0 a1 a2 a3 a4 b0 b1 b2 b3 b4 = if 0 < lex (key a0 a1 a2 a3 a4) (key b0 b1 b2 b3 b4) then some ((a0 : Int), (a1 : Int), (a2 : Int), (a3 : Int), a4) else some ((b0 : Int), (b1 : Int), (b2 : Int), (b3 : Int), b4) := by
  unfold tenementref07_Later.f
  rw [rorder_f a4 b4 ha hb hk, Option.bind_some]
theorem later_same {a0 a1 a2 a3 b0 b1 b2 b3 : Nat} (a4 b4 : Int) (ha : a0 < 18446744073709551616) (hb : b0 < 18446744073709551616) {k : Nat} (hk : 5 ≤ k) : ∃ p0 p1 p2 p3 p4, stamp_Later.f k a0 a1 a2 a3 a4 b0 b1 b2 b3 b4 = some (p0, p1, p2, p3, p4) ∧ tenementref07_Later.f k a0 a1 a2 a3 a4 b0 b1 b2 b3 b4 = some (p0, p1, p2, p3, p4) := by
  rw [later_f _ _ _ _ _ _ _ _ _ _ hk, rlater_f a4 b4 ha hb hk]
  by_cases c : 0 < lex (key (a0 : Int) a1 a2 a3 a4) (key b0 b1 b2 b3 b4)
  · rw [if_pos c]; exact ⟨_, _, _, _, _, rfl, rfl⟩
  · rw [if_neg c]; exact ⟨_, _, _, _, _, rfl, rfl⟩
theorem rsseen_f (a b c d e x y z u : Int) {k : Nat} (hk : 5 ≤ k) : tenementref07_Seen.f k a b c d e x y z u = some (decide (a ≤ x ∧ b ≤ y ∧ c ≤ z ∧ d ≤ u)) := by
  unfold tenementref07_Seen.f
  rw [rleq_f _ _ _ _ _ _ _ _ hk, Option.bind_some]
end Go.Proofs.YtdlagefpglhdoaaDoor.Pure
