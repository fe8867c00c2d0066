/- What was put is got, as it was; cut, or with something behind, it is none; another one has other bytes. -/
import Derived.Test.YtplgbkobpanbfaaGateA
import Derived.Test.YtplgbkobpanbfaaQSayGateBack
set_option linter.unusedVariables false
set_option linter.unusedSimpArgs false
namespace Go.Proofs.Ytplgbkobpanbfaa.Pure
open Go.RowKit Go.Proofs.Ytplgbkobpanbfaa.Q Go.Proofs.YtplgbkobpanbfaaW.PrintWords Go.Proofs.YtplgbkobpanbfaaW.PrintLast Go.Proofs.YtplgbkobpanbfaaW.PrintMore Go.Proofs.Ytplgbkobpanbfaa.Plain

theorem u16_of {x : Int} (h : (Lit.int .u16 x).wf = true) : 0 ≤ x ∧ x ≤ 65535 := by
  have h : IntKind.u16.min ≤ x ∧ x ≤ IntKind.u16.max := by simpa only [Lit.wf, Bool.and_eq_true, decide_eq_true_eq] using h
  exact h
theorem tx_ne (s : ByteArray) : tx s ≠ [] := by
  unfold tx
  intro h
  exact vary_ne_nil _ (List.append_eq_nil_iff.1 h).1
theorem rq_small {a0 a5 a6 a7 : ByteArray} {n1 n2 n3 n4 : Nat} (h : ok19 a0 n1 n2 n3 n4 a5 a6 a7) : (rqs a0 n1 n2 n3 n4 a5 a6 a7).size ≤ 1000 ∧ (rqs a0 n1 n2 n3 n4 a5 a6 a7).size ≠ 0 := by
  unfold ok19 at h
  have t0 := tx_len a0 (by omega)
  have t5 := tx_len a5 (by omega)
  have t6 := tx_len a6 (by omega)
  have t7 := tx_len a7 (by omega)
  rw [← bl_length, bl_rqs (by omega) (by omega) (by omega) (by omega)]
  unfold rq
  simp only [List.length_append, List.length_cons]
  omega
theorem GateBack : tenementlaw19_GateBack.Pure := by
  intro x y c hx hy hc
  have hc := u16_of hc
  obtain ⟨⟨x0, x1, x2, x3, x4, x5, x6, x7⟩, xo⟩ := x
  obtain ⟨⟨y0, y1, y2, y3, y4, y5, y6, y7⟩, yo⟩ := y
  have zx : x0.size ≤ 140737488351232 ∧ x5.size ≤ 140737488351232 ∧ x6.size ≤ 140737488351232 ∧ x7.size ≤ 140737488351232 := ⟨hx.1.1, hx.1.2.2.2.2.2.1, hx.1.2.2.2.2.2.2.1, hx.1.2.2.2.2.2.2.2⟩
  have zy : y0.size ≤ 140737488351232 ∧ y5.size ≤ 140737488351232 ∧ y6.size ≤ 140737488351232 ∧ y7.size ≤ 140737488351232 := ⟨hy.1.1, hy.1.2.2.2.2.2.1, hy.1.2.2.2.2.2.2.1, hy.1.2.2.2.2.2.2.2⟩
  clear hx hy
  obtain ⟨a0, a5, a6, a7, n1, n2, n3, n4, ea, ka⟩ := request_own (m1 := x1) (m2 := x2) (m3 := x3) (m4 := x4) zx.1 zx.2.1 zx.2.2.1 zx.2.2.2
  obtain ⟨b0, b5, b6, b7, m1, m2, m3, m4, eb, kb⟩ := request_own (m1 := y1) (m2 := y2) (m3 := y3) (m4 := y4) zy.1 zy.2.1 zy.2.2.1 zy.2.2.2
  refine ⟨100, ?_⟩
  show tenementlaw19_GateBack.f 100 x0 x1 x2 x3 x4 x5 x6 x7 xo y0 y1 y2 y3 y4 y5 y6 y7 yo c = some true
  unfold tenementlaw19_GateBack.f
  rw [examples_f (by omega), ea, eb]
  simp only [Option.bind_some, if_true]
  rw [put_ok ka (by omega), put_ok kb (by omega)]
  simp only [Option.bind_some, if_true]
  obtain ⟨z1, z2⟩ := rq_small ka
  have la : bl (rqs a0 n1 n2 n3 n4 a5 a6 a7) = rq a0 n1 n2 n3 n4 a5 a6 a7 := by unfold ok19 at ka; exact bl_rqs (by omega) (by omega) (by omega) (by omega)
  have lb : bl (rqs b0 m1 m2 m3 m4 b5 b6 b7) = rq b0 m1 m2 m3 m4 b5 b6 b7 := by unfold ok19 at kb; exact bl_rqs (by omega) (by omega) (by omega) (by omega)
  have hst : rqs a0 n1 n2 n3 n4 a5 a6 a7 = rqs b0 m1 m2 m3 m4 b5 b6 b7 → (a0 = b0 ∧ (n1 : Int) = m1 ∧ (n2 : Int) = m2 ∧ (n3 : Int) = m3 ∧ (n4 : Int) = m4 ∧ a5 = b5 ∧ a6 = b6 ∧ a7 = b7) := by
    intro e
    have e : rq a0 n1 n2 n3 n4 a5 a6 a7 ++ [] = rq b0 m1 m2 m3 m4 b5 b6 b7 ++ [] := by rw [← la, ← lb, e]
    obtain ⟨q0, q1, q2, q3, q4, q5, q6, q7, _⟩ := rq_prefix e
    exact ⟨q0, by omega, by omega, by omega, by omega, q5, q6, q7⟩
  have hts : (a0 = b0 ∧ (n1 : Int) = m1 ∧ (n2 : Int) = m2 ∧ (n3 : Int) = m3 ∧ (n4 : Int) = m4 ∧ a5 = b5 ∧ a6 = b6 ∧ a7 = b7) → rqs a0 n1 n2 n3 n4 a5 a6 a7 = rqs b0 m1 m2 m3 m4 b5 b6 b7 := by
    rintro ⟨rfl, q1, q2, q3, q4, rfl, rfl, rfl⟩
    obtain rfl : n1 = m1 := by omega
    obtain rfl : n2 = m2 := by omega
    obtain rfl : n3 = m3 := by omega
    obtain rfl : n4 = m4 := by omega
    rfl
  generalize rqs a0 n1 n2 n3 n4 a5 a6 a7 = s at *
  generalize rqs b0 m1 m2 m3 m4 b5 b6 b7 = t at *
  obtain ⟨cut, ec, lc⟩ := cut_bounds (n := 0) z2 hc.1 hc.2
  have d0 : ¬ s.toList = ([] : List UInt8) := by
    intro h
    have h : s.data.toList = [] := by rw [← toList_data]; exact h
    exact z2 (by rw [← bl_length]; unfold bl; rw [h]; rfl)
  have gs := get_good la ka (k := 100) (by omega)
  have gc : gate_Get.f 100 (s.extract 0 cut) = some (⟨#[]⟩, 0, 0, 0, 0, ⟨#[]⟩, ⟨#[]⟩, ⟨#[]⟩, 2) := by
    rcases get_sound (s := s.extract 0 cut) (by simp; omega) (k := 100) (by omega) with ⟨q0, q5, q6, q7, p1, p2, p3, p4, _, _, hq⟩ | h
    · exfalso
      have e : rq a0 n1 n2 n3 n4 a5 a6 a7 ++ [] = rq q0 p1 p2 p3 p4 q5 q6 q7 ++ (bl s).drop cut := by
        rw [← la, ← hq, bl_take, List.take_append_drop, List.append_nil]
      have := (rq_prefix e).2.2.2.2.2.2.2.2
      have := congrArg List.length this
      rw [List.length_drop, bl_length] at this
      simp at this
      omega
    · exact h
  have gx : gate_Get.f 100 (s ++ (⟨#[120]⟩ : ByteArray)) = some (⟨#[]⟩, 0, 0, 0, 0, ⟨#[]⟩, ⟨#[]⟩, ⟨#[]⟩, 2) := by
    have z3 : (⟨#[120]⟩ : ByteArray).size = 1 := rfl
    rcases get_sound (s := s ++ (⟨#[120]⟩ : ByteArray)) (by rw [ByteArray.size_append, z3]; omega) (k := 100) (by omega) with ⟨q0, q5, q6, q7, p1, p2, p3, p4, _, _, hq⟩ | h
    · exfalso
      have e : rq q0 p1 p2 p3 p4 q5 q6 q7 ++ [] = rq a0 n1 n2 n3 n4 a5 a6 a7 ++ bl (⟨#[120]⟩ : ByteArray) := by
        rw [← la, ← hq, bl_append, List.append_nil]
      have := (rq_prefix e).2.2.2.2.2.2.2.2
      have := congrArg List.length this
      rw [bl_length, z3] at this
      simp at this
    · exact h
  rw [if_neg d0, gs]
  simp only [Option.bind_some]
  rw [if_neg (show ¬ (s.size : Int) = 0 by omega), ec, if_pos (by omega), if_pos (by omega), Int.toNat_natCast, gc]
  simp only [Option.bind_some]
  rw [if_pos (show s.size + 1 ≤ 9223372036854775807 by omega), gx]
  simp only [Option.bind_some]
  rw [if_pos (eq8.2 ⟨rfl, rfl, rfl, rfl, rfl, rfl, rfl, rfl⟩), if_pos trivial, if_pos trivial, if_pos trivial]
  by_cases e : s = t
  · rw [if_pos (toList_iff.2 e), if_pos (eq8.2 (hst e))]
  · rw [if_neg (fun h => e (toList_iff.1 h)), if_neg (fun h => e (hts (eq8.1 h)))]
end Go.Proofs.Ytplgbkobpanbfaa.Pure
