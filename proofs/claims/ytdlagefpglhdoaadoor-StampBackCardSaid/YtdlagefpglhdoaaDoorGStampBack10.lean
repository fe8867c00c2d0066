import Derived.Test.YtdlagefpglhdoaaDoorGStampBack9
import Derived.Test.YtdlagefpglhdoaaDoorGStampBack2
import Derived.Test.YtdlagefpglhdoaaDoorGStampBack8
import Derived.Test.YtdlagefpglhdoaaDoorGStampBack3
-- Written by this session's own driver (wip/hybrid.py) of the kit's printer; contracts marked FOREIGN are by hand.
set_option linter.unusedVariables false
namespace Go.Proofs.YtdlagefpglhdoaaDoor.Q
open Go.RowKit Go.Proofs.YtdlagefpglhdoaaDoor.Q Go.Proofs.YtdlagefpglhdoaaDoorW.PrintWords Go.Proofs.YtdlagefpglhdoaaDoorW.PrintLast Go.Proofs.YtdlagefpglhdoaaDoorW.PrintMore
def tenementlaw07_StampBack.Pure : Prop := ∀ (x0 : S28) (x1 : S28) (x2 : ByteArray) (x3 : Int), (wf28 x0) → (wf28 x1) → (x2.size ≤ 140737488351232) → ((Lit.int .u8 x3).wf = true) → ∃ k, tenementlaw07_StampBack.f k (x0.f0.f0.f0) (x0.f0.f0.f1) (x0.f0.f0.f2) (x0.f0.f0.f3) (x0.f0.f1) (x0.f1) (x1.f0.f0.f0) (x1.f0.f0.f1) (x1.f0.f0.f2) (x1.f0.f0.f3) (x1.f0.f1) (x1.f1) x2 x3 = some true
end Go.Proofs.YtdlagefpglhdoaaDoor.Q

/- What was put is got, and what stands behind it; cut it is none; another one has other bytes, and is told otherwise. -/
set_option linter.unusedVariables false
set_option linter.unusedSimpArgs false
namespace Go.Proofs.YtdlagefpglhdoaaDoor.Pure
open Go.RowKit Go.Proofs.YtdlagefpglhdoaaDoor.Q Go.Proofs.YtdlagefpglhdoaaDoorW.PrintWords Go.Proofs.YtdlagefpglhdoaaDoorW.PrintLast Go.Proofs.YtdlagefpglhdoaaDoorW.PrintMore Go.Proofs.YtdlagefpglhdoaaDoor.Plain

theorem beq5s {a b c d e x y z u v : Int} : (((a == x && (b == y && (c == z && (d == u)))) && (e == v)) = true) ↔ (a = x ∧ b = y ∧ c = z ∧ d = u ∧ e = v) := by
  simp only [Bool.and_eq_true, beq_iff_eq]
  omega
theorem cut_small {z : Nat} (hz : z ≠ 0) {c : Int} (h0 : 0 ≤ c) (h1 : c ≤ 255) : ∃ m : Nat, Int.tmod (wrap64 c) (z : Int) = (m : Int) ∧ m < z := by
  rw [wrap64_id (by omega) (by omega), Int.tmod_eq_emod_of_nonneg h0]
  have e1 := Int.emod_nonneg c (show (z : Int) ≠ 0 by omega)
  have e2 := Int.emod_lt_of_pos c (show 0 < (z : Int) by omega)
  exact ⟨(c % (z : Int)).toNat, by omega, by omega⟩
theorem StampBack : tenementlaw07_StampBack.Pure := by
  intro x y rest cut hx hy hr hc
  have hc := u8_of hc
  obtain ⟨⟨⟨x0, x1, x2, x3⟩, xd⟩, xo⟩ := x
  obtain ⟨⟨⟨y0, y1, y2, y3⟩, yd⟩, yo⟩ := y
  obtain ⟨n0, n1, n2, n3, n, ex, ⟨l0, l1, l2, l3⟩, d1, d3, ok⟩ := mark_own (v3 := x3) (d := xd) hx.1.1.1 hx.1.1.2.1 hx.1.1.2.2.1 (k := 100) (by omega)
  obtain ⟨m0, m1, m2, m3, m, ey, ⟨j0, j1, j2, j3⟩, f1, f3, ok'⟩ := mark_own (v3 := y3) (d := yd) hy.1.1.1 hy.1.1.2.1 hy.1.1.2.2.1 (k := 100) (by omega)
  clear hx hy
  have ep := sput_true ok (k := 100) (by omega)
  have eq := sput_true ok' (k := 100) (by omega)
  have bs := bl_sp n n0 n1 n2 n3
  obtain ⟨z1, z2⟩ := sp_size (n0 := n0) (n1 := n1) (n2 := n2) (n3 := n3) n (by omega) (by omega) (by omega) (by omega)
  have eg := stext_f (a := n0) (b := n1) (c := n2) (d := n3) (e := n) (by omega) (by omega) (by omega) (by omega) (by omega)
  have eh := stext_f (a := m0) (b := m1) (c := m2) (d := m3) (e := m) (by omega) (by omega) (by omega) (by omega) (by omega)
  have inj : sp n n0 n1 n2 n3 = sp m m0 m1 m2 m3 → n0 = m0 ∧ n1 = m1 ∧ n2 = m2 ∧ n3 = m3 ∧ n = m := by
    intro h
    have h := congrArg bl h
    rw [bl_sp, bl_sp, one_byte, one_byte] at h
    simp only [List.cons_append, List.nil_append, List.cons.injEq] at h
    obtain ⟨q0, q1, q2, q3, _⟩ := rv_prefix (show rv n0 n1 n2 n3 ++ [] = rv m0 m1 m2 m3 ++ [] by rw [h.2])
    exact ⟨q0, q1, q2, q3, by omega⟩
  have tinj := stx_inj (a := n0) (b := n1) (c := n2) (d := n3) (m := n) (x := m0) (y := m1) (z := m2) (u := m3) (n := m) (by omega) (by omega) (by omega) (by omega) (by omega) (by omega) (by omega) (by omega) (by omega) (by omega)
  generalize hS : sp n n0 n1 n2 n3 = s at *
  generalize hT : sp m m0 m1 m2 m3 = t at *
  obtain ⟨c, ec, lc⟩ := cut_small (z := s.size) z2 hc.1 hc.2
  have d0 : ¬ s.toList = ([] : List UInt8) := by
    intro h
    have h : s.data.toList = [] := by rw [← toList_data]; exact h
    exact z2 (by rw [← bl_length]; unfold bl; rw [h]; rfl)
  have zr : (s ++ rest).size ≤ 9223372036854775807 := by rw [ByteArray.size_append]; omega
  have br : bl (s ++ rest) = be 1 n ++ rv n0 n1 n2 n3 ++ bl rest := by rw [bl_append, bs]
  obtain ⟨u0, u1, u2, u3, u4, u5, gc⟩ := sget_cut (m := c) (by omega) bs lc (k := 100) (by omega)
  have gg := sget_good zr br ok (k := 100) (by omega)
  refine ⟨100, ?_⟩
  show tenementlaw07_StampBack.f 100 x0 x1 x2 x3 xd xo y0 y1 y2 y3 yd yo rest cut = some true
  unfold tenementlaw07_StampBack.f
  rw [examples_f (by omega), Option.bind_some, if_pos rfl, ex, Option.bind_some, ey, Option.bind_some, ep, Option.bind_some, eq, Option.bind_some, if_neg d0, if_pos (by show s.size + rest.size ≤ _; omega), gg, Option.bind_some, if_neg (show ¬ (s.size : Int) = 0 by omega), ec, if_pos (by omega), if_pos (by show (c : Int) ≤ (s.size : Int); omega), Int.toNat_natCast, gc, Option.bind_some,
    if_pos rfl, if_pos rfl, if_pos (beq5s.2 ⟨rfl, rfl, rfl, rfl, rfl⟩), if_pos rfl, if_neg (by simp), if_pos rfl]
  by_cases e : n0 = m0 ∧ n1 = m1 ∧ n2 = m2 ∧ n3 = m3 ∧ n = m
  · obtain ⟨rfl, rfl, rfl, rfl, rfl⟩ := e
    have est : s = t := hS.symm.trans hT
    rw [if_pos (show s.toList = t.toList by rw [est]), if_pos (beq5s.2 ⟨rfl, rfl, rfl, rfl, rfl⟩), eg, Option.bind_some, Option.bind_some, if_pos rfl]
  · have eab : ¬ ((((n0 : Int) == m0 && ((n1 : Int) == m1 && ((n2 : Int) == m2 && ((n3 : Int) == m3)))) && ((n : Int) == m)) = true) := by
      intro h
      have := beq5s.1 h
      exact e (by omega)
    rw [if_neg (show ¬ s.toList = t.toList from fun h => e (inj (toList_iff.1 h))), if_neg eab, eg, Option.bind_some, eh, Option.bind_some, if_neg (fun h => e (tinj (toList_iff.1 h)))]
end Go.Proofs.YtdlagefpglhdoaaDoor.Pure
