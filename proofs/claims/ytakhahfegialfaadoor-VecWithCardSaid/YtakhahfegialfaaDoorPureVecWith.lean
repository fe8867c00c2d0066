/- With another number for one datacenter all others stay; there it is that; for none nothing turns. -/
import Derived.Test.YtakhahfegialfaaDoorVecO
import Derived.Test.YtakhahfegialfaaDoorQSayVecWith
import Derived.Test.YtakhahfegialfaaDoorQxf24
import Derived.Test.YtakhahfegialfaaDoorQxf16
set_option linter.unusedVariables false
set_option linter.unusedSimpArgs false
namespace Go.Proofs.YtakhahfegialfaaDoor.Pure
open Go.RowKit Go.Proofs.YtakhahfegialfaaDoor.Q Go.Proofs.YtakhahfegialfaaDoorW.PrintWords Go.Proofs.YtakhahfegialfaaDoorW.PrintLast Go.Proofs.YtakhahfegialfaaDoorW.PrintMore Go.Proofs.YtakhahfegialfaaDoor.Plain

theorem w2 : wrap64 (1 + 1) = 2 := wrap64_id (by omega) (by omega)
theorem w3 : wrap64 (2 + 1) = 3 := wrap64_id (by omega) (by omega)
theorem w4 : wrap64 (3 + 1) = 4 := wrap64_id (by omega) (by omega)
theorem w5 : wrap64 (4 + 1) = 5 := wrap64_id (by omega) (by omega)
theorem at1 (a b c d : Int) : vec_At.f a b c d 1 = some a := rfl
theorem at2 (a b c d : Int) : vec_At.f a b c d 2 = some b := rfl
theorem at3 (a b c d : Int) : vec_At.f a b c d 3 = some c := rfl
theorem at4 (a b c d : Int) : vec_At.f a b c d 4 = some d := rfl
/-- One round of the loop. -/
theorem round {k : Nat} {d n i j a0 a1 a2 a3 b0 b1 b2 b3 p q : Int} {is : Bool} (hi : i ≤ 4) (hj : wrap64 (i + 1) = j) (ha : vec_At.f a0 a1 a2 a3 i = some p) (hb : vec_At.f b0 b1 b2 b3 i = some q) (hq : q = if i = d then n else p) :
    tenementlaw06_VecWith.l0 (k + 1) d n true is i a0 a1 a2 a3 b0 b1 b2 b3 = tenementlaw06_VecWith.l0 k d n true is j a0 a1 a2 a3 b0 b1 b2 b3 := by
  rw [tenementlaw06_VecWith.l0, if_pos hi, ha]
  simp only [Option.bind_some, hb, hj]
  by_cases c : i = d
  · rw [if_pos c, if_pos (by rw [hq, if_pos c])]
  · rw [if_neg c, if_pos (by rw [hq, if_neg c])]
theorem loop {k : Nat} (d n a0 a1 a2 a3 : Int) {is : Bool} (his : is = decide (1 ≤ d ∧ d ≤ 4)) :
    tenementlaw06_VecWith.l0 (k + 5) d n true is 1 a0 a1 a2 a3 (if d = 1 then n else a0) (if d = 2 then n else a1) (if d = 3 then n else a2) (if d = 4 then n else a3) = some true := by
  rw [round (j := 2) (by omega) w2 (at1 _ _ _ _) (at1 _ _ _ _) (by split <;> split <;> first | rfl | omega), round (j := 3) (by omega) w3 (at2 _ _ _ _) (at2 _ _ _ _) (by split <;> split <;> first | rfl | omega),
    round (j := 4) (by omega) w4 (at3 _ _ _ _) (at3 _ _ _ _) (by split <;> split <;> first | rfl | omega), round (j := 5) (by omega) w5 (at4 _ _ _ _) (at4 _ _ _ _) (by split <;> split <;> first | rfl | omega)]
  rw [tenementlaw06_VecWith.l0, if_neg (by omega), if_pos rfl]
  by_cases c : 1 ≤ d ∧ d ≤ 4
  · rw [decide_eq_true c] at his
    rw [if_pos his]
    have hd : d = 1 ∨ d = 2 ∨ d = 3 ∨ d = 4 := by omega
    rcases hd with rfl | rfl | rfl | rfl
    · rw [at1, Option.bind_some]
      exact if_pos (beq4 _ _ _ _)
    · rw [at2, Option.bind_some]
      exact if_pos (beq4 _ _ _ _)
    · rw [at3, Option.bind_some]
      exact if_pos (beq4 _ _ _ _)
    · rw [at4, Option.bind_some]
      exact if_pos (beq4 _ _ _ _)
  · rw [decide_eq_false c] at his
    rw [if_neg (by rw [his]; simp), if_neg (show ¬ d = 1 by omega), if_neg (show ¬ d = 2 by omega), if_neg (show ¬ d = 3 by omega), if_neg (show ¬ d = 4 by omega), if_pos (beq4 _ _ _ _)]
    have ha : vec_At.f a0 a1 a2 a3 d = some 0 := by
      unfold vec_At.f
      rw [if_neg (show ¬ d = 1 by omega), if_neg (show ¬ d = 2 by omega), if_neg (show ¬ d = 3 by omega), if_neg (show ¬ d = 4 by omega)]
    rw [ha, Option.bind_some, if_pos rfl]
theorem VecWith : tenementlaw06_VecWith.Pure := by
  intro x dc n near hx hdc hn
  obtain ⟨⟨x0, x1, x2, x3⟩, own⟩ := x
  obtain ⟨n0, n1, n2, n3, ev, _, _, _, _⟩ := vector_f hx.1.1 hx.1.2.1 hx.1.2.2.1 hx.1.2.2.2 own (k := 99) (by omega)
  refine ⟨100, ?_⟩
  show tenementlaw06_VecWith.f 100 x0 x1 x2 x3 own dc n near = some true
  have hj : ∀ d : Int, tenementlaw06_VecWith.j0 (99 + 1) d n true x0 x1 x2 x3 own = some true := by
    intro d
    rw [tenementlaw06_VecWith.j0, ev, Option.bind_some]
    show (vec_With.f n0 n1 n2 n3 d n).bind _ = _
    unfold vec_With.f
    rw [Option.bind_some]
    by_cases c : d ≥ 1
    · rw [if_pos c]
      show tenementlaw06_VecWith.j1 (98 + 1) d n true (decide (d ≤ 4)) n0 n1 n2 n3 _ _ _ _ = _
      rw [tenementlaw06_VecWith.j1]
      exact loop (k := 93) d n n0 n1 n2 n3 (decide_eq_decide.2 (by omega))
    · rw [if_neg c]
      show tenementlaw06_VecWith.j1 (98 + 1) d n true false n0 n1 n2 n3 _ _ _ _ = _
      rw [tenementlaw06_VecWith.j1]
      exact loop (k := 93) d n n0 n1 n2 n3 (decide_eq_false (by omega)).symm
  unfold tenementlaw06_VecWith.f
  rw [examples_f (by omega), Option.bind_some, if_pos rfl]
  cases near with
  | true => rw [if_pos rfl]; exact hj _
  | false => rw [if_neg (by simp)]; exact hj _
end Go.Proofs.YtakhahfegialfaaDoor.Pure
