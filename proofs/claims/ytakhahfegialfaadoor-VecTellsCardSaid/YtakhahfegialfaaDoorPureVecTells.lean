/- Any two vectors are right, or not, held against one another, joined, met, changed, put, told, as the chapter says. -/
import Derived.Test.YtakhahfegialfaaDoorVecOR
import Derived.Test.YtakhahfegialfaaDoorVecA
import Derived.Test.YtakhahfegialfaaDoorVecR
import Derived.Test.YtakhahfegialfaaDoorVecR3
import Derived.Test.YtakhahfegialfaaDoorVecTR
import Derived.Test.YtakhahfegialfaaDoorQSayVecTells
import Derived.Test.YtakhahfegialfaaDoorQxf18
import Derived.Test.YtakhahfegialfaaDoorQxf19
set_option linter.unusedVariables false
set_option linter.unusedSimpArgs false
namespace Go.Proofs.YtakhahfegialfaaDoor.Pure
open Go.RowKit Go.Proofs.YtakhahfegialfaaDoor.Q Go.Proofs.YtakhahfegialfaaDoorW.PrintWords Go.Proofs.YtakhahfegialfaaDoorW.PrintLast Go.Proofs.YtakhahfegialfaaDoorW.PrintMore Go.Proofs.YtakhahfegialfaaDoor.Plain

theorem all3 (a0 a1 a2 a3 b0 b1 b2 b3 : Int) {k : Nat} (hk : 3 ≤ k) : vec_All.f k [(⟨a0, a1, a2, a3⟩ : S24), (⟨b0, b1, b2, b3⟩ : S24), (⟨a0, a1, a2, a3⟩ : S24)] = some (mn (mn a0 b0) a0, mn (mn a1 b1) a1, mn (mn a2 b2) a2, mn (mn a3 b3) a3) := by
  obtain ⟨k, rfl⟩ : ∃ m, k = m + 3 := ⟨k - 3, by omega⟩
  unfold vec_All.f
  rw [if_neg (by simp), if_pos (by simp), if_pos (by simp), Option.bind_some]
  show vec_All.l0 (k + 3) [(⟨b0, b1, b2, b3⟩ : S24), (⟨a0, a1, a2, a3⟩ : S24)] 2 0 a0 a1 a2 a3 = _
  rw [vec_All.l0, if_pos (by omega), if_pos (by omega), if_pos (by simp)]
  show (some (mn a0 b0, mn a1 b1, mn a2 b2, mn a3 b3)).bind _ = _
  rw [Option.bind_some, i1, vec_All.l0, if_pos (by omega), if_pos (by omega), if_pos (by simp)]
  show (some (mn (mn a0 b0) a0, mn (mn a1 b1) a1, mn (mn a2 b2) a2, mn (mn a3 b3) a3)).bind _ = _
  rw [Option.bind_some, i2, vec_All.l0, if_neg (by omega)]
theorem rall3 (a0 a1 a2 a3 b0 b1 b2 b3 : Int) {k : Nat} (hk : 10 ≤ k) : tenementref06_All.f k [(⟨a0, a1, a2, a3⟩ : S29), (⟨b0, b1, b2, b3⟩ : S29), (⟨a0, a1, a2, a3⟩ : S29)] = some (mn (mn a0 b0) a0, mn (mn a1 b1) a1, mn (mn a2 b2) a2, mn (mn a3 b3) a3) := by
  obtain ⟨k, rfl⟩ : ∃ m, k = m + 3 := ⟨k - 3, by omega⟩
  unfold tenementref06_All.f
  rw [if_neg (by simp), if_pos (by simp)]
  show tenementref06_All.l0 (k + 3) [(⟨a0, a1, a2, a3⟩ : S29), (⟨b0, b1, b2, b3⟩ : S29), (⟨a0, a1, a2, a3⟩ : S29)] 1 a0 a1 a2 a3 = _
  rw [tenementref06_All.l0, if_pos (by simp), if_pos (by omega)]
  show (tenementref06_Meet.f (k + 2) a0 a1 a2 a3 b0 b1 b2 b3).bind _ = _
  rw [rmeet_f _ _ _ _ _ _ _ _ (by omega), Option.bind_some, i2, tenementref06_All.l0, if_pos (by simp), if_pos (by omega)]
  show (tenementref06_Meet.f (k + 1) (mn a0 b0) (mn a1 b1) (mn a2 b2) (mn a3 b3) a0 a1 a2 a3).bind _ = _
  rw [rmeet_f _ _ _ _ _ _ _ _ (by omega), Option.bind_some, i3, tenementref06_All.l0, if_neg (by simp)]
theorem VecTells : tenementlaw06_VecTells.Pure := by
  intro x y dc n near hx hy hdc hn
  obtain ⟨⟨x0, x1, x2, x3⟩, xo⟩ := x
  obtain ⟨⟨y0, y1, y2, y3⟩, yo⟩ := y
  obtain ⟨a0, a1, a2, a3, ex, l0, l1, l2, l3⟩ := vector_f hx.1.1 hx.1.2.1 hx.1.2.2.1 hx.1.2.2.2 xo (k := 99) (by omega)
  obtain ⟨b0, b1, b2, b3, ey, _, _, _, _⟩ := vector_f hy.1.1 hy.1.2.1 hy.1.2.2.1 hy.1.2.2.2 yo (k := 99) (by omega)
  clear hx hy
  refine ⟨100, ?_⟩
  show tenementlaw06_VecTells.f 100 x0 x1 x2 x3 xo y0 y1 y2 y3 yo dc n near = some true
  have hj : ∀ d : Int, tenementlaw06_VecTells.j0 (99 + 1) d n true x0 x1 x2 x3 xo y0 y1 y2 y3 yo = some true := by
    intro d
    have e1 : vec_Join.f (a0 : Int) a1 a2 a3 b0 b1 b2 b3 = some (mx a0 b0, mx a1 b1, mx a2 b2, mx a3 b3) := rfl
    have e2 := rjoin_f (a0 : Int) a1 a2 a3 b0 b1 b2 b3 (k := 99) (by omega)
    have e3 : vec_Meet.f (a0 : Int) a1 a2 a3 b0 b1 b2 b3 = some (mn a0 b0, mn a1 b1, mn a2 b2, mn a3 b3) := rfl
    have e4 := rmeet_f (a0 : Int) a1 a2 a3 b0 b1 b2 b3 (k := 99) (by omega)
    obtain ⟨w0, w1, w2, w3, e5, e6⟩ : ∃ w0 w1 w2 w3, vec_With.f (a0 : Int) a1 a2 a3 d n = some (w0, w1, w2, w3) ∧ tenementref06_With.f (a0 : Int) a1 a2 a3 d n = some (w0, w1, w2, w3) := ⟨_, _, _, _, rfl, rfl⟩
    have e7 := all3 (a0 : Int) a1 a2 a3 b0 b1 b2 b3 (k := 99) (by omega)
    have e8 := rall3 (a0 : Int) a1 a2 a3 b0 b1 b2 b3 (k := 99) (by omega)
    obtain ⟨r, e9, e10⟩ : ∃ r, vec_Right.f (a0 : Int) a1 a2 a3 = some r ∧ tenementref06_Right.f 99 (a0 : Int) a1 a2 a3 = some r := ⟨_, vright_f _ _ _ _, rright06_f (by omega)⟩
    obtain ⟨q, e11, e12⟩ : ∃ q, vec_Leq.f (a0 : Int) a1 a2 a3 b0 b1 b2 b3 = some q ∧ tenementref06_Leq.f 99 (a0 : Int) a1 a2 a3 b0 b1 b2 b3 = some q := ⟨_, vleq_f _ _ _ _ _ _ _ _, rleq_f _ _ _ _ _ _ _ _ (by omega)⟩
    obtain ⟨p, e13, e14⟩ : ∃ p, vec_At.f (a0 : Int) a1 a2 a3 d = some p ∧ tenementref06_At.f (a0 : Int) a1 a2 a3 d = some p := ⟨_, rfl, rfl⟩
    obtain ⟨s, e15, e16⟩ := sum_same l0 (a1 : Int) a2 a3
    have e17 := vput_f l0 l1 l2 l3 (k := 99) (by omega)
    have e18 := rput06_f l0 l1 l2 l3 (k := 99) (by omega)
    have e19 := g_f l0 l1 l2 l3
    have e20 := rtext l0 l1 l2 l3 (k := 99) (by omega)
    rw [tenementlaw06_VecTells.j0, ex, Option.bind_some, ey, Option.bind_some, e1, Option.bind_some, e2, Option.bind_some, e3, Option.bind_some, e4, Option.bind_some, e5, Option.bind_some, e6, Option.bind_some, e7, Option.bind_some, e8, Option.bind_some, if_pos rfl,
      if_pos (beq4 _ _ _ _), if_pos (beq4 _ _ _ _), if_pos (beq4 _ _ _ _), if_pos (beq4 _ _ _ _), e9, Option.bind_some, e10, Option.bind_some, if_pos rfl, e11, Option.bind_some, e12, Option.bind_some, if_pos rfl, e13, Option.bind_some, e14, Option.bind_some, if_pos rfl,
      e15, Option.bind_some, e16, Option.bind_some, if_pos rfl, e17, Option.bind_some, e18, Option.bind_some, if_pos rfl, e19, Option.bind_some, e20, Option.bind_some, if_pos rfl]
  unfold tenementlaw06_VecTells.f
  rw [examples_f (by omega), Option.bind_some, if_pos rfl]
  cases near with
  | true => rw [if_pos rfl]; exact hj _
  | false => rw [if_neg (by simp)]; exact hj _
end Go.Proofs.YtakhahfegialfaaDoor.Pure
