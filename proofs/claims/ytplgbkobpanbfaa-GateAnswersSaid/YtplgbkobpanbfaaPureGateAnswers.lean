/- What was answered is read, as it was; cut, or with something behind, it is none; so with a value that is too long, or a vector that is not right. -/
import Derived.Test.YtplgbkobpanbfaaGateV
import Derived.Test.YtplgbkobpanbfaaQSayGateAnswers
set_option linter.unusedVariables false
set_option linter.unusedSimpArgs false
namespace Go.Proofs.Ytplgbkobpanbfaa.Pure
open Go.RowKit Go.Proofs.Ytplgbkobpanbfaa.Q Go.Proofs.YtplgbkobpanbfaaW.PrintWords Go.Proofs.YtplgbkobpanbfaaW.PrintLast Go.Proofs.YtplgbkobpanbfaaW.PrintMore Go.Proofs.Ytplgbkobpanbfaa.Plain

theorem vright_true {a b c d : Int} (h : a ≤ 1152921504606846976 ∧ b ≤ 1152921504606846976 ∧ c ≤ 1152921504606846976 ∧ d ≤ 1152921504606846976) : vec_Right.f a b c d = some true :=
  (vright_f a b c d).trans (congrArg some (decide_eq_true h))
theorem vright_false {a b c d : Int} (h : ¬ (a ≤ 1152921504606846976 ∧ b ≤ 1152921504606846976 ∧ c ≤ 1152921504606846976 ∧ d ≤ 1152921504606846976)) : vec_Right.f a b c d = some false :=
  (vright_f a b c d).trans (congrArg some (decide_eq_false h))
theorem GateAnswers : tenementlaw19_GateAnswers.Pure := by
  intro code v found x cut hcode hv hx hcut
  have hcode := u8_of hcode
  have hcut := u16_of hcut
  obtain ⟨⟨x0, x1, x2, x3⟩, own⟩ := x
  obtain ⟨n0, n1, n2, n3, ex, l0, l1, l2, l3⟩ := vector_f hx.1.1 hx.1.2.1 hx.1.2.2.1 hx.1.2.2.2 own (k := 100) (by omega)
  obtain ⟨c, rfl⟩ := Int.eq_ofNat_of_zero_le hcode.1
  have hc : c < 256 := by omega
  refine ⟨100, ?_⟩
  show tenementlaw19_GateAnswers.f 100 (c : Int) v found x0 x1 x2 x3 own cut = some true
  unfold tenementlaw19_GateAnswers.f
  rw [examples_f (by omega), ex]
  simp only [Option.bind_some, if_true]
  obtain ⟨s, es, bs⟩ := answer_f (wrap64 (c : Int)) hv found l0 l1 l2 l3 (k := 100) (by omega)
  have ec : (wrap64 (c : Int) % 256).toNat = c := by rw [wrap64_id (by omega) (by omega)]; omega
  rw [ec] at bs
  rw [es]
  simp only [Option.bind_some]
  have h0 := vary_len_ten l0
  have h1 := vary_len_ten l1
  have h2 := vary_len_ten l2
  have h3 := vary_len_ten l3
  have ht := tx_len v (by omega)
  have hs : s.size ≤ 140737488351400 ∧ s.size ≠ 0 := by
    rw [← bl_length, bs]; unfold rs
    simp only [List.length_append, List.length_cons]
    omega
  obtain ⟨m, em, lm⟩ := cut_bounds (n := 0) hs.2 hcut.1 hcut.2
  have d0 : ¬ s.toList = ([] : List UInt8) := by
    intro h
    have h : s.data.toList = [] := by rw [← toList_data]; exact h
    exact hs.2 (by rw [← bl_length]; unfold bl; rw [h]; rfl)
  have gc : gate_Read.f 100 (s.extract 0 m) = some (0, ⟨#[]⟩, false, 0, 0, 0, 0, false) := by
    rcases read_sound (s := s.extract 0 m) (by simp; omega) (k := 100) (by omega) with ⟨c', v', f', m0, m1, m2, m3, _, _, _, _, hq⟩ | h
    · exfalso
      have e : rs c (if found = true then 1 else 0) v n0 n1 n2 n3 ++ [] = rs c' (if f' = true then 1 else 0) v' m0 m1 m2 m3 ++ (bl s).drop m := by
        rw [← bs, ← hq, bl_take, List.take_append_drop, List.append_nil]
      have := (rs_prefix e).2.2.2.2.2.2.2
      have := congrArg List.length this
      rw [List.length_drop, bl_length] at this
      simp at this
      omega
    · exact h
  have gx : gate_Read.f 100 (s ++ (⟨#[120]⟩ : ByteArray)) = some (0, ⟨#[]⟩, false, 0, 0, 0, 0, false) := by
    have z3 : (⟨#[120]⟩ : ByteArray).size = 1 := rfl
    rcases read_sound (s := s ++ (⟨#[120]⟩ : ByteArray)) (by rw [ByteArray.size_append, z3]; omega) (k := 100) (by omega) with ⟨c', v', f', m0, m1, m2, m3, _, _, _, _, hq⟩ | h
    · exfalso
      have e : rs c' (if f' = true then 1 else 0) v' m0 m1 m2 m3 ++ [] = rs c (if found = true then 1 else 0) v n0 n1 n2 n3 ++ bl (⟨#[120]⟩ : ByteArray) := by
        rw [← bs, ← hq, bl_append, List.append_nil]
      have := (rs_prefix e).2.2.2.2.2.2.2
      have := congrArg List.length this
      rw [bl_length, z3] at this
      simp at this
    · exact h
  have bad : ¬ (v.size ≤ 64 ∧ (n0 : Int) ≤ 1152921504606846976 ∧ (n1 : Int) ≤ 1152921504606846976 ∧ (n2 : Int) ≤ 1152921504606846976 ∧ (n3 : Int) ≤ 1152921504606846976) → gate_Read.f 100 s = some (0, ⟨#[]⟩, false, 0, 0, 0, 0, false) := by
    intro hn
    rcases read_sound (s := s) (by omega) (k := 100) (by omega) with ⟨c', v', f', m0, m1, m2, m3, _, _, hv', hb, hq⟩ | h
    · exfalso
      have e : rs c' (if f' = true then 1 else 0) v' m0 m1 m2 m3 ++ [] = rs c (if found = true then 1 else 0) v n0 n1 n2 n3 ++ [] := by rw [← bs, ← hq]
      obtain ⟨_, _, rfl, rfl, rfl, rfl, rfl, _⟩ := rs_prefix e
      exact hn ⟨hv', by omega, by omega, by omega, by omega⟩
    · exact h
  by_cases hw : (v.size ≤ 64 ∧ (n0 : Int) ≤ 1152921504606846976 ∧ (n1 : Int) ≤ 1152921504606846976 ∧ (n2 : Int) ≤ 1152921504606846976 ∧ (n3 : Int) ≤ 1152921504606846976)
  · have hr := vright_true hw.2
    have hg := read_good bs hc hw.1 (by omega) (k := 100) (by omega)
    have h6 : (v.size : Int) ≤ 64 := by omega
    clear bad hw bs
    rw [if_neg d0, hg]
    simp only [Option.bind_some]
    rw [if_neg (show ¬ (s.size : Int) = 0 by omega), em, if_pos (by omega), if_pos (by omega), Int.toNat_natCast, gc]
    simp only [Option.bind_some]
    rw [if_pos (show s.size + 1 ≤ 9223372036854775807 by omega), gx]
    simp only [Option.bind_some]
    rw [if_pos h6, hr, Option.bind_some, if_pos rfl, if_pos rfl]
    have q : wrap64 (c : Int) = (c : Int) := wrap64_id (by omega) (by omega)
    rw [q, if_pos (eq7.2 ⟨rfl, rfl, rfl, rfl, rfl, rfl, rfl⟩), if_neg (by simp), if_neg (by simp)]
  · have hg := bad hw
    have hr : v.size ≤ 64 → vec_Right.f n0 n1 n2 n3 = some false := fun h => vright_false (fun h' => hw ⟨h, h'⟩)
    clear bad hw bs
    rw [if_neg d0, hg]
    simp only [Option.bind_some]
    rw [if_neg (show ¬ (s.size : Int) = 0 by omega), em, if_pos (by omega), if_pos (by omega), Int.toNat_natCast, gc]
    simp only [Option.bind_some]
    rw [if_pos (show s.size + 1 ≤ 9223372036854775807 by omega), gx]
    simp only [Option.bind_some]
    by_cases hv6 : (v.size : Int) ≤ 64
    · rw [if_pos hv6, hr (by omega)]
      simp only [Option.bind_some]
      rw [if_pos trivial, if_neg (by simp), if_neg (by simp), if_neg (by simp)]
    · rw [if_neg hv6, if_neg (by simp), if_neg (by simp), if_neg (by simp)]
end Go.Proofs.Ytplgbkobpanbfaa.Pure
