/- Joins and meets come to the same in whatever order, and however often; each is over, or under, both; what is joined is right, where both are. -/
import Derived.Test.YtakhahfegialfaaDoorVecO
import Derived.Test.YtakhahfegialfaaDoorQSayVecJoins
set_option linter.unusedVariables false
set_option linter.unusedSimpArgs false
namespace Go.Proofs.YtakhahfegialfaaDoor.Pure
open Go.RowKit Go.Proofs.YtakhahfegialfaaDoor.Q Go.Proofs.YtakhahfegialfaaDoorW.PrintWords Go.Proofs.YtakhahfegialfaaDoorW.PrintLast Go.Proofs.YtakhahfegialfaaDoorW.PrintMore Go.Proofs.YtakhahfegialfaaDoor.Plain

theorem jc (a b : Int) : (mx a b == mx b a) = true := by rw [beq_iff_eq]; unfold mx; repeat' split
                                                         all_goals omega
theorem mc (a b : Int) : (mn a b == mn b a) = true := by rw [beq_iff_eq]; unfold mn; repeat' split
                                                         all_goals omega
theorem ja (a b c : Int) : (mx (mx a b) c == mx a (mx b c)) = true := by rw [beq_iff_eq]; unfold mx; repeat' split
                                                                         all_goals omega
theorem ma (a b c : Int) : (mn (mn a b) c == mn a (mn b c)) = true := by rw [beq_iff_eq]; unfold mn; repeat' split
                                                                         all_goals omega
theorem jb (a b : Int) : (mx (mx a b) a == mx a b) = true := by rw [beq_iff_eq]; unfold mx; repeat' split
                                                                all_goals omega
theorem mb (a b : Int) : (mn (mn a b) a == mn a b) = true := by rw [beq_iff_eq]; unfold mn; repeat' split
                                                                all_goals omega
theorem jm (a b : Int) : (mx a (mn a b) == a) = true := by rw [beq_iff_eq]; unfold mx mn; repeat' split
                                                           all_goals omega
theorem mj (a b : Int) : (mn a (mx a b) == a) = true := by rw [beq_iff_eq]; unfold mx mn; repeat' split
                                                           all_goals omega
theorem le_mx (a b : Int) : a ≤ mx a b := by unfold mx; split <;> omega
theorem mn_le' (a b : Int) : mn a b ≤ b := by unfold mn; split <;> omega
theorem mx_top {a b t : Int} (ha : a ≤ t) (hb : b ≤ t) : mx a b ≤ t := by unfold mx; split <;> omega
theorem vr_true {a b c d : Int} (h : a ≤ 1152921504606846976 ∧ b ≤ 1152921504606846976 ∧ c ≤ 1152921504606846976 ∧ d ≤ 1152921504606846976) : vec_Right.f a b c d = some true := by
  unfold vec_Right.f
  rw [vleq_true h, Option.bind_some]
theorem vr_false {a b c d : Int} (h : ¬ (a ≤ 1152921504606846976 ∧ b ≤ 1152921504606846976 ∧ c ≤ 1152921504606846976 ∧ d ≤ 1152921504606846976)) : vec_Right.f a b c d = some false := by
  unfold vec_Right.f
  rw [vleq_false h, Option.bind_some]
theorem VecJoins : tenementlaw06_VecJoins.Pure := by
  intro x y z hx hy hz
  obtain ⟨⟨x0, x1, x2, x3⟩, xo⟩ := x
  obtain ⟨⟨y0, y1, y2, y3⟩, yo⟩ := y
  obtain ⟨⟨z0, z1, z2, z3⟩, zo⟩ := z
  obtain ⟨n0, n1, n2, n3, ex, _, _, _, _⟩ := vector_f hx.1.1 hx.1.2.1 hx.1.2.2.1 hx.1.2.2.2 xo (k := 100) (by omega)
  obtain ⟨m0, m1, m2, m3, ey, _, _, _, _⟩ := vector_f hy.1.1 hy.1.2.1 hy.1.2.2.1 hy.1.2.2.2 yo (k := 100) (by omega)
  obtain ⟨l0, l1, l2, l3, ez, _, _, _, _⟩ := vector_f hz.1.1 hz.1.2.1 hz.1.2.2.1 hz.1.2.2.2 zo (k := 100) (by omega)
  clear hx hy hz
  refine ⟨100, ?_⟩
  generalize (n0 : Int) = a0, (n1 : Int) = a1, (n2 : Int) = a2, (n3 : Int) = a3 at *
  generalize (m0 : Int) = b0, (m1 : Int) = b1, (m2 : Int) = b2, (m3 : Int) = b3 at *
  generalize (l0 : Int) = c0, (l1 : Int) = c1, (l2 : Int) = c2, (l3 : Int) = c3 at *
  have q1 : vec_Leq.f a0 a1 a2 a3 (mx a0 b0) (mx a1 b1) (mx a2 b2) (mx a3 b3) = some true := vleq_true ⟨le_mx _ _, le_mx _ _, le_mx _ _, le_mx _ _⟩
  have q2 : vec_Leq.f (mn a0 b0) (mn a1 b1) (mn a2 b2) (mn a3 b3) b0 b1 b2 b3 = some true := vleq_true ⟨mn_le' _ _, mn_le' _ _, mn_le' _ _, mn_le' _ _⟩
  have out : ∀ {P : Prop}, P → P := fun h => h
  by_cases ra : a0 ≤ 1152921504606846976 ∧ a1 ≤ 1152921504606846976 ∧ a2 ≤ 1152921504606846976 ∧ a3 ≤ 1152921504606846976
  · by_cases rb : b0 ≤ 1152921504606846976 ∧ b1 ≤ 1152921504606846976 ∧ b2 ≤ 1152921504606846976 ∧ b3 ≤ 1152921504606846976
    · left
      have r1 := vr_true ra
      have r2 := vr_true rb
      have r3 : vec_Right.f (mx a0 b0) (mx a1 b1) (mx a2 b2) (mx a3 b3) = some true := vr_true ⟨mx_top ra.1 rb.1, mx_top ra.2.1 rb.2.1, mx_top ra.2.2.1 rb.2.2.1, mx_top ra.2.2.2 rb.2.2.2⟩
      clear ra rb
      show tenementlaw06_VecJoins_p0.f 100 x0 x1 x2 x3 xo y0 y1 y2 y3 yo z0 z1 z2 z3 zo = some true
      unfold tenementlaw06_VecJoins_p0.f
      rw [examples_f (by omega), Option.bind_some, if_pos rfl, ex, Option.bind_some, ey, Option.bind_some, ez, Option.bind_some]
      simp only [vec_Join.f, vec_Meet.f, Option.bind_some, jc, mc, ja, ma, jb, mb, jm, mj, q1, q2, r1, r2, r3, Bool.and_self, if_true]
    · right; left
      have r1 := vr_true ra
      have r2 := vr_false rb
      clear ra rb
      show tenementlaw06_VecJoins_p1.f 100 x0 x1 x2 x3 xo y0 y1 y2 y3 yo z0 z1 z2 z3 zo = some true
      unfold tenementlaw06_VecJoins_p1.f
      rw [examples_f (by omega), Option.bind_some, if_pos rfl, ex, Option.bind_some, ey, Option.bind_some, ez, Option.bind_some]
      simp only [vec_Join.f, vec_Meet.f, Option.bind_some, jc, mc, ja, ma, jb, mb, jm, mj, q1, q2, r1, r2, Bool.and_self, if_true]
      rfl
  · right; right
    have r1 := vr_false ra
    clear ra
    show tenementlaw06_VecJoins_p2.f 100 x0 x1 x2 x3 xo y0 y1 y2 y3 yo z0 z1 z2 z3 zo = some true
    unfold tenementlaw06_VecJoins_p2.f
    rw [examples_f (by omega), Option.bind_some, if_pos rfl, ex, Option.bind_some, ey, Option.bind_some, ez, Option.bind_some]
    simp only [vec_Join.f, vec_Meet.f, Option.bind_some, jc, mc, ja, ma, jb, mb, jm, mj, q1, q2, r1, Bool.and_self, if_true]
    rfl
end Go.Proofs.YtakhahfegialfaaDoor.Pure
