import Derived.Test.YtdlagefpglhdoaaDoorGStampBack2
import Derived.Test.YtdlagefpglhdoaaDoorGStampBack0
import Derived.Test.YtdlagefpglhdoaaDoorGStampBack5
/- Joins, meets and the order of vectors; the chapter's examples. -/
set_option linter.unusedVariables false
set_option linter.unusedSimpArgs false
namespace Go.Proofs.YtdlagefpglhdoaaDoor.Pure
open Go.RowKit Go.Proofs.YtdlagefpglhdoaaDoor.Q Go.Proofs.YtdlagefpglhdoaaDoorW.PrintWords Go.Proofs.YtdlagefpglhdoaaDoorW.PrintLast Go.Proofs.YtdlagefpglhdoaaDoorW.PrintMore Go.Proofs.YtdlagefpglhdoaaDoor.Plain

theorem examples_60 : tenementlaw07_examples.f 60 = some true := by decide +kernel
theorem examples_f {k : Nat} (hk : 60 ≤ k) : tenementlaw07_examples.f k = some true := at_rounds tenementlaw07_examples.mono hk examples_60
theorem mx_beq (a b : Int) : (mx a b == b) = decide (a ≤ b) := by
  rw [Bool.eq_iff_iff, beq_iff_eq, decide_eq_true_eq]
  unfold mx
  split <;> omega
theorem vleq_f (a b c d x y z u : Int) : vec_Leq.f a b c d x y z u = some (decide (a ≤ x ∧ b ≤ y ∧ c ≤ z ∧ d ≤ u)) := by
  unfold vec_Leq.f vec_Join.f
  simp only [Option.bind_some, mx_beq, Bool.decide_and]
theorem vleq_true {a b c d x y z u : Int} (h : a ≤ x ∧ b ≤ y ∧ c ≤ z ∧ d ≤ u) : vec_Leq.f a b c d x y z u = some true :=
  (vleq_f a b c d x y z u).trans (congrArg some (decide_eq_true h))
theorem vleq_false {a b c d x y z u : Int} (h : ¬ (a ≤ x ∧ b ≤ y ∧ c ≤ z ∧ d ≤ u)) : vec_Leq.f a b c d x y z u = some false :=
  (vleq_f a b c d x y z u).trans (congrArg some (decide_eq_false h))
theorem beq4 (a b c d : Int) : (a == a && (b == b && (c == c && (d == d)))) = true := by simp
theorem eq4 {a b c d x y z u : Int} : ((a == x && (b == y && (c == z && (d == u)))) = true) ↔ (a = x ∧ b = y ∧ c = z ∧ d = u) := by
  simp only [Bool.and_eq_true, beq_iff_eq]
end Go.Proofs.YtdlagefpglhdoaaDoor.Pure
