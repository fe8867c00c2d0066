/- What was put is got, and what stands behind it; cut it is none; another one has other bytes. -/
import Derived.Test.YtakhahfegialfaaDoorVecO
import Derived.Test.YtakhahfegialfaaDoorVecG
import Derived.Test.YtakhahfegialfaaDoorVecT
import Derived.Test.YtakhahfegialfaaDoorQSayVecBack
set_option linter.unusedVariables false
set_option linter.unusedSimpArgs false
namespace Go.Proofs.YtakhahfegialfaaDoor.Pure
open Go.RowKit Go.Proofs.YtakhahfegialfaaDoor.Q Go.Proofs.YtakhahfegialfaaDoorW.PrintWords Go.Proofs.YtakhahfegialfaaDoorW.PrintLast Go.Proofs.YtakhahfegialfaaDoorW.PrintMore Go.Proofs.YtakhahfegialfaaDoor.Plain

theorem vputv {a b c d : Nat} (ha : a < 18446744073709551616) (hb : b < 18446744073709551616) (hc : c < 18446744073709551616) (hd : d < 18446744073709551616) :
    vec_Put.f 100 a b c d = some (vv a b c d) := vput_f ha hb hc hd (by omega)
theorem vr_true {a b c d : Int} (h : a ≤ 1152921504606846976 ∧ b ≤ 1152921504606846976 ∧ c ≤ 1152921504606846976 ∧ d ≤ 1152921504606846976) : vec_Right.f a b c d = some true :=
  (vright_f a b c d).trans (congrArg some (decide_eq_true h))
theorem vr_false {a b c d : Int} (h : ¬ (a ≤ 1152921504606846976 ∧ b ≤ 1152921504606846976 ∧ c ≤ 1152921504606846976 ∧ d ≤ 1152921504606846976)) : vec_Right.f a b c d = some false :=
  (vright_f a b c d).trans (congrArg some (decide_eq_false h))
theorem cut_small {z : Nat} (hz : z ≠ 0) {c : Int} (h0 : 0 ≤ c) (h1 : c ≤ 255) : ∃ m : Nat, Int.tmod (wrap64 c) (z : Int) = (m : Int) ∧ m < z := by
  rw [wrap64_id (by omega) (by omega), Int.tmod_eq_emod_of_nonneg h0]
  have e1 := Int.emod_nonneg c (show (z : Int) ≠ 0 by omega)
  have e2 := Int.emod_lt_of_pos c (show 0 < (z : Int) by omega)
  exact ⟨(c % (z : Int)).toNat, by omega, by omega⟩
theorem VecBack : tenementlaw06_VecBack.Pure := by
  intro x y rest cut hx hy hr hc
  have hc := u8_of hc
  obtain ⟨⟨x0, x1, x2, x3⟩, xo⟩ := x
  obtain ⟨⟨y0, y1, y2, y3⟩, yo⟩ := y
  obtain ⟨n0, n1, n2, n3, ex, l0, l1, l2, l3⟩ := vector_f hx.1.1 hx.1.2.1 hx.1.2.2.1 hx.1.2.2.2 xo (k := 100) (by omega)
  obtain ⟨m0, m1, m2, m3, ey, j0, j1, j2, j3⟩ := vector_f hy.1.1 hy.1.2.1 hy.1.2.2.1 hy.1.2.2.2 yo (k := 100) (by omega)
  clear hx hy
  have ep := vputv l0 l1 l2 l3
  have eq := vputv j0 j1 j2 j3
  have bs := bl_vv n0 n1 n2 n3
  obtain ⟨z1, z2⟩ := vv_size l0 l1 l2 l3
  have eg := g_f l0 l1 l2 l3
  have eh := g_f j0 j1 j2 j3
  have inj : vv n0 n1 n2 n3 = vv m0 m1 m2 m3 → n0 = m0 ∧ n1 = m1 ∧ n2 = m2 ∧ n3 = m3 := by
    intro h
    have h := congrArg bl h
    rw [bl_vv, bl_vv] at h
    obtain ⟨q0, q1, q2, q3, _⟩ := rv_prefix (show rv n0 n1 n2 n3 ++ [] = rv m0 m1 m2 m3 ++ [] by rw [h])
    exact ⟨q0, q1, q2, q3⟩
  have tinj := txt_inj l0 l1 l2 l3 j0 j1 j2 j3
  generalize hS : vv n0 n1 n2 n3 = s at *
  generalize hT : vv m0 m1 m2 m3 = t at *
  obtain ⟨c, ec, lc⟩ := cut_small (z := s.size) z2 hc.1 hc.2
  have d0 : ¬ s.toList = ([] : List UInt8) := by
    intro h
    have h : s.data.toList = [] := by rw [← toList_data]; exact h
    exact z2 (by rw [← bl_length]; unfold bl; rw [h]; rfl)
  have zr : (s ++ rest).size ≤ 9223372036854775807 := by rw [ByteArray.size_append]; omega
  have br : bl (s ++ rest) = rv n0 n1 n2 n3 ++ bl rest := by rw [bl_append, bs]
  obtain ⟨u0, u1, u2, u3, u4, gc⟩ := vget_cut (m := c) (by omega) bs lc (k := 100) (by omega)
  refine ⟨100, ?_⟩
  show tenementlaw06_VecBack_p0.f 100 x0 x1 x2 x3 xo y0 y1 y2 y3 yo rest cut = some true ∨ tenementlaw06_VecBack_p1.f 100 x0 x1 x2 x3 xo y0 y1 y2 y3 yo rest cut = some true ∨
    tenementlaw06_VecBack_p2.f 100 x0 x1 x2 x3 xo y0 y1 y2 y3 yo rest cut = some true ∨ tenementlaw06_VecBack_p3.f 100 x0 x1 x2 x3 xo y0 y1 y2 y3 yo rest cut = some true
  have hd : ∀ {Q : Option Bool} , Q = some true → Q = some true := fun h => h
  by_cases e : n0 = m0 ∧ n1 = m1 ∧ n2 = m2 ∧ n3 = m3
  · obtain ⟨rfl, rfl, rfl, rfl⟩ := e
    have est : s = t := hS.symm.trans hT
    by_cases r : (n0 : Int) ≤ 1152921504606846976 ∧ (n1 : Int) ≤ 1152921504606846976 ∧ (n2 : Int) ≤ 1152921504606846976 ∧ (n3 : Int) ≤ 1152921504606846976
    · right; left
      have er := vr_true r
      have gg := vget_good zr br ⟨Int.ofNat_le.1 r.1, Int.ofNat_le.1 r.2.1, Int.ofNat_le.1 r.2.2.1, Int.ofNat_le.1 r.2.2.2⟩ (k := 100) (by omega)
      clear r
      unfold tenementlaw06_VecBack_p1.f
      rw [examples_f (by omega), Option.bind_some, if_pos rfl, ex, Option.bind_some, ey, Option.bind_some, ep, Option.bind_some, if_neg d0, if_pos (by omega), gg, Option.bind_some, if_neg (show ¬ (s.size : Int) = 0 by omega), ec, if_pos (by omega), if_pos (by omega), Int.toNat_natCast, gc, Option.bind_some, er, Option.bind_some, Option.bind_some,
        if_pos rfl, if_pos (beq4 _ _ _ _), if_neg (by simp), if_pos rfl, if_pos (beq4 _ _ _ _), if_pos rfl, if_pos rfl, eg, Option.bind_some, Option.bind_some, if_pos rfl]
    · left
      have er := vr_false r
      obtain ⟨w0, w1, w2, w3, w4, gg⟩ := vget_bad zr br (fun h => r ⟨Int.ofNat_le.2 h.1, Int.ofNat_le.2 h.2.1, Int.ofNat_le.2 h.2.2.1, Int.ofNat_le.2 h.2.2.2⟩) (k := 100) (by omega)
      clear r
      unfold tenementlaw06_VecBack_p0.f
      rw [examples_f (by omega), Option.bind_some, if_pos rfl, ex, Option.bind_some, ey, Option.bind_some, ep, Option.bind_some, if_neg d0, if_pos (by omega), gg, Option.bind_some, if_neg (show ¬ (s.size : Int) = 0 by omega), ec, if_pos (by omega), if_pos (by omega), Int.toNat_natCast, gc, Option.bind_some, er, Option.bind_some, Option.bind_some,
        if_pos rfl, if_pos (beq4 _ _ _ _), if_pos rfl, if_neg (by simp), if_pos rfl, eg, Option.bind_some, Option.bind_some, if_pos rfl]
  · have est : ¬ s.toList = t.toList := fun h => e (inj (toList_iff.1 h))
    have eab : ¬ (((n0 : Int) == m0 && ((n1 : Int) == m1 && ((n2 : Int) == m2 && ((n3 : Int) == m3)))) = true) := by
      intro h
      obtain ⟨q0, q1, q2, q3⟩ := eq4.1 h
      exact e ⟨by omega, by omega, by omega, by omega⟩
    have ett : ¬ (vec_Text.txt n0 n1 n2 n3).toList = (vec_Text.txt m0 m1 m2 m3).toList := fun h => e (tinj (toList_iff.1 h))
    by_cases r : (n0 : Int) ≤ 1152921504606846976 ∧ (n1 : Int) ≤ 1152921504606846976 ∧ (n2 : Int) ≤ 1152921504606846976 ∧ (n3 : Int) ≤ 1152921504606846976
    · right; right; right
      have er := vr_true r
      have gg := vget_good zr br ⟨Int.ofNat_le.1 r.1, Int.ofNat_le.1 r.2.1, Int.ofNat_le.1 r.2.2.1, Int.ofNat_le.1 r.2.2.2⟩ (k := 100) (by omega)
      clear r
      unfold tenementlaw06_VecBack_p3.f
      rw [examples_f (by omega), Option.bind_some, if_pos rfl, ex, Option.bind_some, ey, Option.bind_some, ep, Option.bind_some, if_neg d0, if_pos (by omega), gg, Option.bind_some, if_neg (show ¬ (s.size : Int) = 0 by omega), ec, if_pos (by omega), if_pos (by omega), Int.toNat_natCast, gc, Option.bind_some, er, Option.bind_some, eq, Option.bind_some,
        if_neg est, if_neg eab, if_neg (by simp), if_pos rfl, if_pos (beq4 _ _ _ _), if_pos rfl, if_pos rfl, eg, Option.bind_some, eh, Option.bind_some, if_neg ett]
    · right; right; left
      have er := vr_false r
      obtain ⟨w0, w1, w2, w3, w4, gg⟩ := vget_bad zr br (fun h => r ⟨Int.ofNat_le.2 h.1, Int.ofNat_le.2 h.2.1, Int.ofNat_le.2 h.2.2.1, Int.ofNat_le.2 h.2.2.2⟩) (k := 100) (by omega)
      clear r
      unfold tenementlaw06_VecBack_p2.f
      rw [examples_f (by omega), Option.bind_some, if_pos rfl, ex, Option.bind_some, ey, Option.bind_some, ep, Option.bind_some, if_neg d0, if_pos (by omega), gg, Option.bind_some, if_neg (show ¬ (s.size : Int) = 0 by omega), ec, if_pos (by omega), if_pos (by omega), Int.toNat_natCast, gc, Option.bind_some, er, Option.bind_some, eq, Option.bind_some,
        if_neg est, if_neg eab, if_pos rfl, if_neg (by simp), if_pos rfl, eg, Option.bind_some, eh, Option.bind_some, if_neg ett]
end Go.Proofs.YtakhahfegialfaaDoor.Pure
