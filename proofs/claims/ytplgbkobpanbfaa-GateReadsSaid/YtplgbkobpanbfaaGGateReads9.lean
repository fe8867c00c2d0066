import Derived.Test.YtplgbkobpanbfaaGGateReads5
import Derived.Test.YtplgbkobpanbfaaGGateReads3
import Derived.Test.YtplgbkobpanbfaaGGateReads7
import Derived.Test.YtplgbkobpanbfaaGGateReads8
/- Chapter 19: what the document's own answer is. -/
set_option linter.unusedVariables false
set_option linter.unusedSimpArgs false
namespace Go.Proofs.Ytplgbkobpanbfaa.Pure
open Go.RowKit Go.Proofs.Ytplgbkobpanbfaa.Q Go.Proofs.YtplgbkobpanbfaaW.PrintWords Go.Proofs.YtplgbkobpanbfaaW.PrintLast Go.Proofs.YtplgbkobpanbfaaW.PrintMore Go.Proofs.Ytplgbkobpanbfaa.Plain

theorem small_f (n : Int) : tenementref19_small.f n = some (decide (0 ≤ n ∧ n ≤ 255)) := by
  unfold tenementref19_small.f
  by_cases h : n ≥ 0
  · rw [if_pos h]; congr 1; rw [Bool.eq_iff_iff]; simp only [decide_eq_true_eq]; omega
  · rw [if_neg h]; congr 1; rw [Bool.eq_iff_iff]; simp only [decide_eq_true_eq]; simp; omega
theorem rright_f (a0 : ByteArray) (n1 n2 n3 n4 : Int) (a5 a6 a7 : ByteArray) : tenementref19_Right.f a0 n1 n2 n3 n4 a5 a6 a7 = some (decide (ok19 a0 n1 n2 n3 n4 a5 a6 a7)) := by
  unfold tenementref19_Right.f
  simp only [small_f, Option.bind_some]
  by_cases h0 : (a0.size : Int) ≤ 128
  · rw [if_pos h0]
    by_cases h1 : 0 ≤ n1 ∧ n1 ≤ 255
    · rw [if_pos (decide_eq_true h1)]
      by_cases h2 : 0 ≤ n2 ∧ n2 ≤ 255
      · rw [if_pos (decide_eq_true h2)]
        by_cases h3 : 0 ≤ n3 ∧ n3 ≤ 255
        · rw [if_pos (decide_eq_true h3)]
          by_cases h4 : 0 ≤ n4 ∧ n4 ≤ 255
          · rw [if_pos (decide_eq_true h4)]
            by_cases h5 : (a5.size : Int) ≤ 64
            · rw [if_pos h5]
              by_cases h6 : (a6.size : Int) ≤ 64
              · rw [if_pos h6]; congr 1; exact decide_eq_decide.2 (by unfold ok19; omega)
              · rw [if_neg h6]; congr 1; symm; exact decide_eq_false (by unfold ok19; omega)
            · rw [if_neg h5]; congr 1; symm; exact decide_eq_false (by unfold ok19; omega)
          · rw [if_neg (by simp [h4])]; congr 1; symm; exact decide_eq_false (by unfold ok19; omega)
        · rw [if_neg (by simp [h3])]; congr 1; symm; exact decide_eq_false (by unfold ok19; omega)
      · rw [if_neg (by simp [h2])]; congr 1; symm; exact decide_eq_false (by unfold ok19; omega)
    · rw [if_neg (by simp [h1])]; congr 1; symm; exact decide_eq_false (by unfold ok19; omega)
  · rw [if_neg h0]; congr 1; symm; exact decide_eq_false (by unfold ok19; omega)
theorem rput_no {a0 a5 a6 a7 : ByteArray} {n1 n2 n3 n4 : Int} (h : ¬ ok19 a0 n1 n2 n3 n4 a5 a6 a7) {k : Nat} :
    tenementref19_Put.f k a0 n1 n2 n3 n4 a5 a6 a7 = some (⟨#[]⟩, false) := by
  unfold tenementref19_Put.f
  rw [rright_f, decide_eq_false h]
  rfl
theorem rput_ok {a0 a5 a6 a7 : ByteArray} {n1 n2 n3 n4 : Nat} (h : ok19 a0 n1 n2 n3 n4 a5 a6 a7) {k : Nat} (hk : 22 ≤ k) :
    tenementref19_Put.f k a0 n1 n2 n3 n4 a5 a6 a7 = some (rqs a0 n1 n2 n3 n4 a5 a6 a7, true) := by
  have hd := rright_f a0 n1 n2 n3 n4 a5 a6 a7
  rw [decide_eq_true h] at hd
  unfold ok19 at h
  have t0 := tx_len a0 (by omega)
  have t5 := tx_len a5 (by omega)
  have t6 := tx_len a6 (by omega)
  have t7 := tx_len a7 (by omega)
  have z0 : (vs a0.size ++ a0).size ≤ 200 := by rw [← bl_length, bl_tx]; omega
  have z5 : (vs a5.size ++ a5).size ≤ 200 := by rw [← bl_length, bl_tx]; omega
  have z6 : (vs a6.size ++ a6).size ≤ 200 := by rw [← bl_length, bl_tx]; omega
  have z7 : (vs a7.size ++ a7).size ≤ 200 := by rw [← bl_length, bl_tx]; omega
  have e : ([(n1 : Int) % 256, (n2 : Int) % 256, (n3 : Int) % 256, (n4 : Int) % 256] : List Int) = NL [n1, n2, n3, n4] := by
    simp only [NL, List.map_cons, List.map_nil, List.cons.injEq, and_true]; omega
  have hb : bl (strOfNums (NL [n1, n2, n3, n4])) = [n1, n2, n3, n4] := bl_str _ (by intro b hb; simp at hb; omega)
  have zb : (strOfNums (NL [n1, n2, n3, n4])).size = 4 := by rw [← bl_length, hb]; rfl
  unfold tenementref19_Put.f
  rw [hd, e]
  simp only [Option.bind_some]
  rw [if_pos trivial, RText_f (by omega) (by omega), RText_f (by omega) (by omega), RText_f (by omega) (by omega), RText_f (by omega) (by omega)]
  simp only [Option.bind_some]
  have w1 : (vs a0.size ++ a0).size + (strOfNums (NL [n1, n2, n3, n4])).size ≤ 9223372036854775807 := by omega
  have w2 : (vs a0.size ++ a0 ++ strOfNums (NL [n1, n2, n3, n4])).size + (vs a5.size ++ a5).size ≤ 9223372036854775807 := by rw [ByteArray.size_append (a := vs a0.size ++ a0)]; omega
  have w3 : (vs a0.size ++ a0 ++ strOfNums (NL [n1, n2, n3, n4]) ++ (vs a5.size ++ a5)).size + (vs a6.size ++ a6).size ≤ 9223372036854775807 := by
    rw [ByteArray.size_append (b := vs a5.size ++ a5), ByteArray.size_append (a := vs a0.size ++ a0)]; omega
  have w4 : (vs a0.size ++ a0 ++ strOfNums (NL [n1, n2, n3, n4]) ++ (vs a5.size ++ a5) ++ (vs a6.size ++ a6)).size + (vs a7.size ++ a7).size ≤ 9223372036854775807 := by
    rw [ByteArray.size_append (b := vs a6.size ++ a6), ByteArray.size_append (b := vs a5.size ++ a5), ByteArray.size_append (a := vs a0.size ++ a0)]; omega
  rw [if_pos w1, if_pos w2, if_pos w3, if_pos w4]
  congr 2
  apply bl_inj
  rw [bl_rqs (by omega) (by omega) (by omega) (by omega)]
  simp only [bl_append, bl_vs, hb]
  unfold rq tx
  simp
theorem put_same19 (a0 : ByteArray) (n1 n2 n3 n4 : Int) (a5 a6 a7 : ByteArray) {k : Nat} (hk : 22 ≤ k) :
    ∃ s b, gate_Put.f k a0 n1 n2 n3 n4 a5 a6 a7 = some (s, b) ∧ tenementref19_Put.f k a0 n1 n2 n3 n4 a5 a6 a7 = some (s, b) ∧ s.size ≤ 1000 := by
  by_cases h : ok19 a0 n1 n2 n3 n4 a5 a6 a7
  · have h' := h
    unfold ok19 at h'
    obtain ⟨m1, rfl⟩ := Int.eq_ofNat_of_zero_le h'.2.1.1
    obtain ⟨m2, rfl⟩ := Int.eq_ofNat_of_zero_le h'.2.2.1.1
    obtain ⟨m3, rfl⟩ := Int.eq_ofNat_of_zero_le h'.2.2.2.1.1
    obtain ⟨m4, rfl⟩ := Int.eq_ofNat_of_zero_le h'.2.2.2.2.1.1
    refine ⟨_, _, put_ok h hk, rput_ok h hk, ?_⟩
    have t0 := tx_len a0 (by omega)
    have t5 := tx_len a5 (by omega)
    have t6 := tx_len a6 (by omega)
    have t7 := tx_len a7 (by omega)
    rw [← bl_length, bl_rqs (by omega) (by omega) (by omega) (by omega)]
    unfold rq
    simp only [List.length_append, List.length_cons]
    omega
  · exact ⟨_, _, put_no h, rput_no h, Nat.zero_le _⟩
theorem answer_same (c : Int) {v : ByteArray} (hv : v.size ≤ 140737488351232) (f : Bool) {a b c' d : Nat} (ha : a < 18446744073709551616) (hb : b < 18446744073709551616) (hc : c' < 18446744073709551616) (hd : d < 18446744073709551616) {k : Nat} (hk : 12 ≤ k) :
    ∃ s, gate_Answer.f k c v f a b c' d = some s ∧ tenementref19_Answer.f k c v f a b c' d = some s ∧ s.size ≤ v.size + 100 := by
  obtain ⟨s, es, bs⟩ := answer_f c hv f ha hb hc hd hk
  have h1 := vary_len_ten ha
  have h2 := vary_len_ten hb
  have h3 := vary_len_ten hc
  have h4 := vary_len_ten hd
  have h5 := vary_len_ten (show v.size < 18446744073709551616 by omega)
  have hx := tx_len v (by omega)
  have hl : s.size ≤ v.size + 100 := by
    rw [← bl_length, bs]; unfold rs
    simp only [List.length_append, List.length_cons]
    omega
  refine ⟨s, es, ?_, hl⟩
  obtain ⟨m, hm, hm2⟩ : ∃ m : Nat, c % 256 = (m : Int) ∧ m < 256 := ⟨(c % 256).toNat, by omega, by omega⟩
  have e2 : ∀ y : Nat, y < 2 → bl (strOfNums [(m : Int), (y : Int)]) = [m, y] := fun y hy => bl_str [m, y] (by intro b hb; simp at hb; omega)
  have z2 : ∀ y : Nat, y < 2 → (strOfNums [(m : Int), (y : Int)]).size = 2 := fun y hy => by rw [← bl_length, e2 y hy]; rfl
  have way : ∀ y : Nat, y < 2 → bl s = rs m y v a b c' d → (some ([(m : Int), (y : Int)] : List Int)).bind (fun y246 => ((tenementref02_Text.f k v).bind fun t249 => (if (strOfNums y246).size + t249.size ≤ 9223372036854775807 then ((tenementref06_Put.f k a b c' d).bind fun t250 => (if ((strOfNums y246) ++ t249).size + t250.size ≤ 9223372036854775807 then (some (((strOfNums y246) ++ t249) ++ t250)) else (none))) else (none)))) = some s := by
    intro y hy hb'
    simp only [Option.bind_some]
    rw [RText_f (by omega) (by omega), rput06_f ha hb hc hd (by omega)]
    simp only [Option.bind_some]
    have zy := z2 y hy
    rw [if_pos (by rw [zy, ByteArray.size_append, vs_size]; omega), if_pos (by simp only [ByteArray.size_append, zy, vs_size]; omega)]
    congr 1
    apply bl_inj
    rw [hb']
    simp only [bl_append, e2 y hy, bl_vs]
    unfold rs tx
    simp
  have hcm : (c % 256).toNat = m := by omega
  rw [hcm] at bs
  unfold tenementref19_Answer.f
  rw [hm]
  cases f with
  | true => rw [if_pos rfl]; exact way 1 (by omega) bs
  | false => rw [if_neg (by simp)]; exact way 0 (by omega) bs
end Go.Proofs.Ytplgbkobpanbfaa.Pure
