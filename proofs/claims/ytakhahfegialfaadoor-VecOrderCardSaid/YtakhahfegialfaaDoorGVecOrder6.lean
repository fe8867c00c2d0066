import Derived.Test.YtakhahfegialfaaDoorGVecOrder3
import Derived.Test.YtakhahfegialfaaDoorGVecOrder4
import Derived.Test.YtakhahfegialfaaDoorGVecOrder5
import Derived.Test.YtakhahfegialfaaDoorGVecOrder1
import Derived.Test.YtakhahfegialfaaDoorGVecOrder2
set_option linter.unusedVariables false
namespace Go.Proofs.YtakhahfegialfaaDoor.Q
open Go.RowKit Go.Proofs.YtakhahfegialfaaDoor.Q Go.Proofs.YtakhahfegialfaaDoorW.PrintWords Go.Proofs.YtakhahfegialfaaDoorW.PrintLast Go.Proofs.YtakhahfegialfaaDoorW.PrintMore
def tenementlaw06_VecOrder.Pure : Prop := ∀ (x0 : S26) (x1 : S26) (x2 : S26), (wf26 x0) → (wf26 x1) → (wf26 x2) → ∃ k, tenementlaw06_VecOrder_p0.f k (x0.f0.f0) (x0.f0.f1) (x0.f0.f2) (x0.f0.f3) (x0.f1) (x1.f0.f0) (x1.f0.f1) (x1.f0.f2) (x1.f0.f3) (x1.f1) (x2.f0.f0) (x2.f0.f1) (x2.f0.f2) (x2.f0.f3) (x2.f1) = some true ∨ tenementlaw06_VecOrder_p1.f k (x0.f0.f0) (x0.f0.f1) (x0.f0.f2) (x0.f0.f3) (x0.f1) (x1.f0.f0) (x1.f0.f1) (x1.f0.f2) (x1.f0.f3) (x1.f1) (x2.f0.f0) (x2.f0.f1) (x2.f0.f2) (x2.f0.f3) (x2.f1) = some true ∨ tenementlaw06_VecOrder_p2.f k (x0.f0.f0) (x0.f0.f1) (x0.f0.f2) (x0.f0.f3) (x0.f1) (x1.f0.f0) (x1.f0.f1) (x1.f0.f2) (x1.f0.f3) (x1.f1) (x2.f0.f0) (x2.f0.f1) (x2.f0.f2) (x2.f0.f3) (x2.f1) = some true
end Go.Proofs.YtakhahfegialfaaDoor.Q

/- Vectors stand in an order by all their numbers. -/
set_option linter.unusedVariables false
set_option linter.unusedSimpArgs false
namespace Go.Proofs.YtakhahfegialfaaDoor.Pure
open Go.RowKit Go.Proofs.YtakhahfegialfaaDoor.Q Go.Proofs.YtakhahfegialfaaDoorW.PrintWords Go.Proofs.YtakhahfegialfaaDoorW.PrintLast Go.Proofs.YtakhahfegialfaaDoorW.PrintMore Go.Proofs.YtakhahfegialfaaDoor.Plain

theorem vr_true {a b c d : Int} (h : a ≤ 1152921504606846976 ∧ b ≤ 1152921504606846976 ∧ c ≤ 1152921504606846976 ∧ d ≤ 1152921504606846976) : vec_Right.f a b c d = some true := by
  unfold vec_Right.f
  rw [vleq_true h, Option.bind_some]
theorem vr_false {a b c d : Int} (h : ¬ (a ≤ 1152921504606846976 ∧ b ≤ 1152921504606846976 ∧ c ≤ 1152921504606846976 ∧ d ≤ 1152921504606846976)) : vec_Right.f a b c d = some false := by
  unfold vec_Right.f
  rw [vleq_false h, Option.bind_some]
theorem mx_le {a b : Int} (h : a ≤ b) : mx a b = b := by unfold mx; split <;> omega
theorem sum4 {a b c d : Int} (h0 : 0 ≤ a ∧ 0 ≤ b ∧ 0 ≤ c ∧ 0 ≤ d) (h : a ≤ 1152921504606846976 ∧ b ≤ 1152921504606846976 ∧ c ≤ 1152921504606846976 ∧ d ≤ 1152921504606846976) : vec_Sum.f a b c d = some (a + b + c + d) := by
  unfold vec_Sum.f
  simp only [IntKind.wrap_u64]
  congr 1
  omega
theorem eqv_true (a0 a1 a2 a3 : Int) : (a0 == a0 && (a1 == a1 && (a2 == a2 && (a3 == a3)))) = true := by simp
theorem eqv_false {a0 a1 a2 a3 b0 b1 b2 b3 : Int} (h : ¬ (a0 = b0 ∧ a1 = b1 ∧ a2 = b2 ∧ a3 = b3)) : (a0 == b0 && (a1 == b1 && (a2 == b2 && (a3 == b3)))) = false := by
  rw [Bool.eq_false_iff]
  intro e
  simp only [Bool.and_eq_true, beq_iff_eq] at e
  exact h e
theorem p0_ok {a0 a1 a2 a3 c0 c1 c2 c3 : Int} {K : Nat} (na : 0 ≤ a0 ∧ 0 ≤ a1 ∧ 0 ≤ a2 ∧ 0 ≤ a3) : tenementlaw06_VecOrder_p0.j0 (K + 1 + 1) true true a0 a1 a2 a3 a0 a1 a2 a3 c0 c1 c2 c3 = some true := by
  have Laa := vleq_true (a := a0) (b := a1) (c := a2) (d := a3) ⟨Int.le_refl _, Int.le_refl _, Int.le_refl _, Int.le_refl _⟩
  have L0a := vleq_true na
  have J : vec_Join.f a0 a1 a2 a3 a0 a1 a2 a3 = some (a0, a1, a2, a3) := by unfold vec_Join.f; rw [mx_le (Int.le_refl _), mx_le (Int.le_refl _), mx_le (Int.le_refl _), mx_le (Int.le_refl _)]
  have E := eqv_true a0 a1 a2 a3
  by_cases h3 : a0 ≤ c0 ∧ a1 ≤ c1 ∧ a2 ≤ c2 ∧ a3 ≤ c3
  · have L3 := vleq_true h3
    by_cases ra : a0 ≤ 1152921504606846976 ∧ a1 ≤ 1152921504606846976 ∧ a2 ≤ 1152921504606846976 ∧ a3 ≤ 1152921504606846976
    · have R := vr_true ra
      clear h3 ra na
      simp only [tenementlaw06_VecOrder_p0.j0, tenementlaw06_VecOrder_p0.j1, Option.bind_some, eq_self, if_true, Bool.false_eq_true, if_false, Laa, L0a, L3, R, J, E]
    · have R := vr_false ra
      clear h3 ra na
      simp only [tenementlaw06_VecOrder_p0.j0, tenementlaw06_VecOrder_p0.j1, Option.bind_some, eq_self, if_true, Bool.false_eq_true, if_false, Laa, L0a, L3, R, J, E]
  · have L3 := vleq_false h3
    by_cases ra : a0 ≤ 1152921504606846976 ∧ a1 ≤ 1152921504606846976 ∧ a2 ≤ 1152921504606846976 ∧ a3 ≤ 1152921504606846976
    · have R := vr_true ra
      clear h3 ra na
      simp only [tenementlaw06_VecOrder_p0.j0, tenementlaw06_VecOrder_p0.j1, Option.bind_some, eq_self, if_true, Bool.false_eq_true, if_false, Laa, L0a, L3, R, J, E]
    · have R := vr_false ra
      clear h3 ra na
      simp only [tenementlaw06_VecOrder_p0.j0, tenementlaw06_VecOrder_p0.j1, Option.bind_some, eq_self, if_true, Bool.false_eq_true, if_false, Laa, L0a, L3, R, J, E]
theorem p1_ok {a0 a1 a2 a3 b0 b1 b2 b3 c0 c1 c2 c3 : Int} {K : Nat} (na : 0 ≤ a0 ∧ 0 ≤ a1 ∧ 0 ≤ a2 ∧ 0 ≤ a3) (nb : 0 ≤ b0 ∧ 0 ≤ b1 ∧ 0 ≤ b2 ∧ 0 ≤ b3) (hl : a0 ≤ b0 ∧ a1 ≤ b1 ∧ a2 ≤ b2 ∧ a3 ≤ b3) (hne : ¬ (a0 = b0 ∧ a1 = b1 ∧ a2 = b2 ∧ a3 = b3)) (hr : (b0 ≤ c0 ∧ b1 ≤ c1 ∧ b2 ≤ c2 ∧ b3 ≤ c3) ∨ (a0 ≤ 1152921504606846976 ∧ a1 ≤ 1152921504606846976 ∧ a2 ≤ 1152921504606846976 ∧ a3 ≤ 1152921504606846976) ∧ (b0 ≤ 1152921504606846976 ∧ b1 ≤ 1152921504606846976 ∧ b2 ≤ 1152921504606846976 ∧ b3 ≤ 1152921504606846976)) : tenementlaw06_VecOrder_p1.j0 (K + 1 + 1) true false a0 a1 a2 a3 b0 b1 b2 b3 c0 c1 c2 c3 = some true := by
  have Laa := vleq_true (a := a0) (b := a1) (c := a2) (d := a3) ⟨Int.le_refl _, Int.le_refl _, Int.le_refl _, Int.le_refl _⟩
  have L0a := vleq_true na
  have E := eqv_false hne
  have Lab := vleq_true hl
  have J : vec_Join.f a0 a1 a2 a3 b0 b1 b2 b3 = some (b0, b1, b2, b3) := by unfold vec_Join.f; rw [mx_le hl.1, mx_le hl.2.1, mx_le hl.2.2.1, mx_le hl.2.2.2]
  have E2 := eqv_true b0 b1 b2 b3
  by_cases r : (a0 ≤ 1152921504606846976 ∧ a1 ≤ 1152921504606846976 ∧ a2 ≤ 1152921504606846976 ∧ a3 ≤ 1152921504606846976) ∧ (b0 ≤ 1152921504606846976 ∧ b1 ≤ 1152921504606846976 ∧ b2 ≤ 1152921504606846976 ∧ b3 ≤ 1152921504606846976)
  · have Ra := vr_true r.1
    have Rb := vr_true r.2
    have Sa := sum4 na r.1
    have Sb := sum4 nb r.2
    have hs : a0 + a1 + a2 + a3 < b0 + b1 + b2 + b3 := by
      have : ¬ (a0 = b0 ∧ a1 = b1 ∧ a2 = b2 ∧ a3 = b3) := hne
      omega
    by_cases h3 : b0 ≤ c0 ∧ b1 ≤ c1 ∧ b2 ≤ c2 ∧ b3 ≤ c3
    · have L3 := vleq_true h3
      have L4 := vleq_true (a := a0) (b := a1) (c := a2) (d := a3) (x := c0) (y := c1) (z := c2) (u := c3) (by omega)
      clear h3 r hl hne na nb hr
      simp only [tenementlaw06_VecOrder_p1.j0, tenementlaw06_VecOrder_p1.j1, Option.bind_some, eq_self, if_true, Bool.false_eq_true, if_false, Laa, L0a, E, Lab, J, E2, Ra, Rb, Sa, Sb, hs, L3, L4]
    · have L3 := vleq_false h3
      clear h3 r hl hne na nb hr
      simp only [tenementlaw06_VecOrder_p1.j0, tenementlaw06_VecOrder_p1.j1, Option.bind_some, eq_self, if_true, Bool.false_eq_true, if_false, Laa, L0a, E, Lab, J, E2, Ra, Rb, Sa, Sb, hs, L3]
  · have h3 : b0 ≤ c0 ∧ b1 ≤ c1 ∧ b2 ≤ c2 ∧ b3 ≤ c3 := hr.resolve_right r
    have L3 := vleq_true h3
    have L4 := vleq_true (a := a0) (b := a1) (c := a2) (d := a3) (x := c0) (y := c1) (z := c2) (u := c3) (by omega)
    by_cases ra : a0 ≤ 1152921504606846976 ∧ a1 ≤ 1152921504606846976 ∧ a2 ≤ 1152921504606846976 ∧ a3 ≤ 1152921504606846976
    · have Ra := vr_true ra
      have Rb := vr_false (fun rb => r ⟨ra, rb⟩)
      clear h3 r hl hne na nb hr ra
      simp only [tenementlaw06_VecOrder_p1.j0, tenementlaw06_VecOrder_p1.j1, Option.bind_some, eq_self, if_true, Bool.false_eq_true, if_false, Laa, L0a, E, Lab, J, E2, Ra, Rb, L3, L4]
    · have Ra := vr_false ra
      clear h3 r hl hne na nb hr ra
      simp only [tenementlaw06_VecOrder_p1.j0, tenementlaw06_VecOrder_p1.j1, Option.bind_some, eq_self, if_true, Bool.false_eq_true, if_false, Laa, L0a, E, Lab, J, E2, Ra, L3, L4]
theorem p2_ok {a0 a1 a2 a3 b0 b1 b2 b3 c0 c1 c2 c3 : Int} {K : Nat} (na : 0 ≤ a0 ∧ 0 ≤ a1 ∧ 0 ≤ a2 ∧ 0 ≤ a3) (hl : a0 ≤ b0 ∧ a1 ≤ b1 ∧ a2 ≤ b2 ∧ a3 ≤ b3) (hne : ¬ (a0 = b0 ∧ a1 = b1 ∧ a2 = b2 ∧ a3 = b3)) (h3 : ¬ (b0 ≤ c0 ∧ b1 ≤ c1 ∧ b2 ≤ c2 ∧ b3 ≤ c3)) (hr : ¬ ((a0 ≤ 1152921504606846976 ∧ a1 ≤ 1152921504606846976 ∧ a2 ≤ 1152921504606846976 ∧ a3 ≤ 1152921504606846976) ∧ (b0 ≤ 1152921504606846976 ∧ b1 ≤ 1152921504606846976 ∧ b2 ≤ 1152921504606846976 ∧ b3 ≤ 1152921504606846976))) : tenementlaw06_VecOrder_p2.j0 (K + 1 + 1) true false a0 a1 a2 a3 b0 b1 b2 b3 c0 c1 c2 c3 = some true := by
  have Laa := vleq_true (a := a0) (b := a1) (c := a2) (d := a3) ⟨Int.le_refl _, Int.le_refl _, Int.le_refl _, Int.le_refl _⟩
  have L0a := vleq_true na
  have E := eqv_false hne
  have Lab := vleq_true hl
  have J : vec_Join.f a0 a1 a2 a3 b0 b1 b2 b3 = some (b0, b1, b2, b3) := by unfold vec_Join.f; rw [mx_le hl.1, mx_le hl.2.1, mx_le hl.2.2.1, mx_le hl.2.2.2]
  have E2 := eqv_true b0 b1 b2 b3
  have L3 := vleq_false h3
  by_cases ra : a0 ≤ 1152921504606846976 ∧ a1 ≤ 1152921504606846976 ∧ a2 ≤ 1152921504606846976 ∧ a3 ≤ 1152921504606846976
  · have Ra := vr_true ra
    have Rb := vr_false (fun rb => hr ⟨ra, rb⟩)
    clear ra hr h3 hl hne na
    simp only [tenementlaw06_VecOrder_p2.j0, tenementlaw06_VecOrder_p2.j1, Option.bind_some, eq_self, if_true, Bool.false_eq_true, if_false, Laa, L0a, E, Lab, J, E2, L3, Ra, Rb]
  · have Ra := vr_false ra
    clear ra hr h3 hl hne na
    simp only [tenementlaw06_VecOrder_p2.j0, tenementlaw06_VecOrder_p2.j1, Option.bind_some, eq_self, if_true, Bool.false_eq_true, if_false, Laa, L0a, E, Lab, J, E2, L3, Ra]
theorem p2_no {a0 a1 a2 a3 b0 b1 b2 b3 c0 c1 c2 c3 : Int} {K : Nat} (na : 0 ≤ a0 ∧ 0 ≤ a1 ∧ 0 ≤ a2 ∧ 0 ≤ a3) (hl : ¬ (a0 ≤ b0 ∧ a1 ≤ b1 ∧ a2 ≤ b2 ∧ a3 ≤ b3)) : tenementlaw06_VecOrder_p2.j0 (K + 1 + 1) true false a0 a1 a2 a3 b0 b1 b2 b3 c0 c1 c2 c3 = some true := by
  have hne : ¬ (a0 = b0 ∧ a1 = b1 ∧ a2 = b2 ∧ a3 = b3) := by omega
  have Laa := vleq_true (a := a0) (b := a1) (c := a2) (d := a3) ⟨Int.le_refl _, Int.le_refl _, Int.le_refl _, Int.le_refl _⟩
  have L0a := vleq_true na
  have E := eqv_false hne
  have Lab := vleq_false hl
  have J : vec_Join.f a0 a1 a2 a3 b0 b1 b2 b3 = some (mx a0 b0, mx a1 b1, mx a2 b2, mx a3 b3) := rfl
  have E2 : (mx a0 b0 == b0 && (mx a1 b1 == b1 && (mx a2 b2 == b2 && (mx a3 b3 == b3)))) = false := eqv_false (by
    intro e
    have m : ∀ x y : Int, mx x y = y → x ≤ y := fun x y h => by unfold mx at h; split at h <;> omega
    exact hl ⟨m _ _ e.1, m _ _ e.2.1, m _ _ e.2.2.1, m _ _ e.2.2.2⟩)
  by_cases ra : a0 ≤ 1152921504606846976 ∧ a1 ≤ 1152921504606846976 ∧ a2 ≤ 1152921504606846976 ∧ a3 ≤ 1152921504606846976
  · have Ra := vr_true ra
    by_cases rb : b0 ≤ 1152921504606846976 ∧ b1 ≤ 1152921504606846976 ∧ b2 ≤ 1152921504606846976 ∧ b3 ≤ 1152921504606846976
    · have Rb := vr_true rb
      clear ra rb hl hne na
      simp only [tenementlaw06_VecOrder_p2.j0, tenementlaw06_VecOrder_p2.j1, Option.bind_some, eq_self, if_true, Bool.false_eq_true, if_false, Laa, L0a, E, Lab, J, E2, Ra, Rb]
    · have Rb := vr_false rb
      clear ra rb hl hne na
      simp only [tenementlaw06_VecOrder_p2.j0, tenementlaw06_VecOrder_p2.j1, Option.bind_some, eq_self, if_true, Bool.false_eq_true, if_false, Laa, L0a, E, Lab, J, E2, Ra, Rb]
  · have Ra := vr_false ra
    clear ra hl hne na
    simp only [tenementlaw06_VecOrder_p2.j0, tenementlaw06_VecOrder_p2.j1, Option.bind_some, eq_self, if_true, Bool.false_eq_true, if_false, Laa, L0a, E, Lab, J, E2, Ra]
theorem VecOrder : tenementlaw06_VecOrder.Pure := by
  intro x y z hx hy hz
  obtain ⟨⟨x0, x1, x2, x3⟩, xo⟩ := x
  obtain ⟨⟨y0, y1, y2, y3⟩, yo⟩ := y
  obtain ⟨⟨z0, z1, z2, z3⟩, zo⟩ := z
  obtain ⟨K, hK⟩ : ∃ K : Nat, 100 ≤ K := ⟨100, by omega⟩
  obtain ⟨n0, n1, n2, n3, ex, _, _, _, _⟩ := vector_f hx.1.1 hx.1.2.1 hx.1.2.2.1 hx.1.2.2.2 xo (k := K + 1 + 1) (by omega)
  obtain ⟨m0, m1, m2, m3, ey, _, _, _, _⟩ := vector_f hy.1.1 hy.1.2.1 hy.1.2.2.1 hy.1.2.2.2 yo (k := K + 1 + 1) (by omega)
  obtain ⟨l0, l1, l2, l3, ez, _, _, _, _⟩ := vector_f hz.1.1 hz.1.2.1 hz.1.2.2.1 hz.1.2.2.2 zo (k := K + 1 + 1) (by omega)
  have ee := examples_f (k := K + 1 + 1) (by omega)
  have na : (0 : Int) ≤ n0 ∧ (0 : Int) ≤ n1 ∧ (0 : Int) ≤ n2 ∧ (0 : Int) ≤ n3 := by omega
  have nb : (0 : Int) ≤ m0 ∧ (0 : Int) ≤ m1 ∧ (0 : Int) ≤ m2 ∧ (0 : Int) ≤ m3 := by omega
  clear hx hy hz hK
  refine ⟨K + 1 + 1, ?_⟩
  generalize (n0 : Int) = a0, (n1 : Int) = a1, (n2 : Int) = a2, (n3 : Int) = a3 at *
  generalize (m0 : Int) = b0, (m1 : Int) = b1, (m2 : Int) = b2, (m3 : Int) = b3 at *
  generalize (l0 : Int) = c0, (l1 : Int) = c1, (l2 : Int) = c2, (l3 : Int) = c3 at *
  by_cases hl : a0 ≤ b0 ∧ a1 ≤ b1 ∧ a2 ≤ b2 ∧ a3 ≤ b3
  · have Lab := vleq_true hl
    by_cases he : a0 = b0 ∧ a1 = b1 ∧ a2 = b2 ∧ a3 = b3
    · left
      obtain ⟨rfl, rfl, rfl, rfl⟩ := he
      show tenementlaw06_VecOrder_p0.f (K + 1 + 1) x0 x1 x2 x3 xo y0 y1 y2 y3 yo z0 z1 z2 z3 zo = some true
      unfold tenementlaw06_VecOrder_p0.f
      rw [ee, Option.bind_some, if_pos rfl, ex, Option.bind_some, ey, Option.bind_some, ez, Option.bind_some]
      show (vec_Leq.f a0 a1 a2 a3 a0 a1 a2 a3).bind _ = _
      rw [Lab, Option.bind_some, if_pos rfl, Option.bind_some]
      exact p0_ok na
    · have Lba := vleq_false (a := b0) (b := b1) (c := b2) (d := b3) (x := a0) (y := a1) (z := a2) (u := a3) (by omega)
      by_cases hr : (b0 ≤ c0 ∧ b1 ≤ c1 ∧ b2 ≤ c2 ∧ b3 ≤ c3) ∨ (a0 ≤ 1152921504606846976 ∧ a1 ≤ 1152921504606846976 ∧ a2 ≤ 1152921504606846976 ∧ a3 ≤ 1152921504606846976) ∧ (b0 ≤ 1152921504606846976 ∧ b1 ≤ 1152921504606846976 ∧ b2 ≤ 1152921504606846976 ∧ b3 ≤ 1152921504606846976)
      · right; left
        show tenementlaw06_VecOrder_p1.f (K + 1 + 1) x0 x1 x2 x3 xo y0 y1 y2 y3 yo z0 z1 z2 z3 zo = some true
        unfold tenementlaw06_VecOrder_p1.f
        rw [ee, Option.bind_some, if_pos rfl, ex, Option.bind_some, ey, Option.bind_some, ez, Option.bind_some]
        show (vec_Leq.f a0 a1 a2 a3 b0 b1 b2 b3).bind _ = _
        rw [Lab, Option.bind_some, if_pos rfl]
        show (vec_Leq.f b0 b1 b2 b3 a0 a1 a2 a3).bind _ = _
        rw [Lba, Option.bind_some]
        exact p1_ok na nb hl he hr
      · right; right
        show tenementlaw06_VecOrder_p2.f (K + 1 + 1) x0 x1 x2 x3 xo y0 y1 y2 y3 yo z0 z1 z2 z3 zo = some true
        unfold tenementlaw06_VecOrder_p2.f
        rw [ee, Option.bind_some, if_pos rfl, ex, Option.bind_some, ey, Option.bind_some, ez, Option.bind_some]
        show (vec_Leq.f a0 a1 a2 a3 b0 b1 b2 b3).bind _ = _
        rw [Lab, Option.bind_some, if_pos rfl]
        show (vec_Leq.f b0 b1 b2 b3 a0 a1 a2 a3).bind _ = _
        rw [Lba, Option.bind_some]
        exact p2_ok na hl he (fun h => hr (Or.inl h)) (fun h => hr (Or.inr h))
  · right; right
    have Lab := vleq_false hl
    show tenementlaw06_VecOrder_p2.f (K + 1 + 1) x0 x1 x2 x3 xo y0 y1 y2 y3 yo z0 z1 z2 z3 zo = some true
    unfold tenementlaw06_VecOrder_p2.f
    rw [ee, Option.bind_some, if_pos rfl, ex, Option.bind_some, ey, Option.bind_some, ez, Option.bind_some]
    show (vec_Leq.f a0 a1 a2 a3 b0 b1 b2 b3).bind _ = _
    rw [Lab, Option.bind_some, if_neg (by simp)]
    exact p2_no na hl
end Go.Proofs.YtakhahfegialfaaDoor.Pure
