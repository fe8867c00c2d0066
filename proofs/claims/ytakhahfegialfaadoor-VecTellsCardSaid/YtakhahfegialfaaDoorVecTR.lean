/- The text of a vector, by the document. -/
import Derived.Test.YtakhahfegialfaaDoorVecT
import Derived.Test.YtakhahfegialfaaDoorQxf31
import Derived.Test.YtakhahfegialfaaDoorQxf43
set_option linter.unusedVariables false
set_option linter.unusedSimpArgs false
namespace Go.Proofs.YtakhahfegialfaaDoor.Pure
open Go.RowKit Go.Proofs.YtakhahfegialfaaDoor.Q Go.Proofs.YtakhahfegialfaaDoorW.PrintWords Go.Proofs.YtakhahfegialfaaDoorW.PrintLast Go.Proofs.YtakhahfegialfaaDoorW.PrintMore Go.Proofs.YtakhahfegialfaaDoor.Plain

theorem hdig (m : Nat) : (IntKind.u64.wrap (48 + (Int.tmod (m : Int) 10))) % 256 = ((48 + m % 10 : Nat) : Int) := by
  rw [IntKind.wrap_u64, Int.tmod_eq_emod_of_nonneg (by omega)]
  omega
theorem bl_dig (m : Nat) : bl (strOfNums ([((48 + m % 10 : Nat) : Int)] : List Int)) = [48 + m % 10] := bl_str [48 + m % 10] (by intro b hb; simp at hb; omega)
theorem dig_size (m : Nat) : (strOfNums ([((48 + m % 10 : Nat) : Int)] : List Int)).size = 1 := by rw [← bl_length, bl_dig]; rfl
theorem tenth (x : Nat) (h : x < 18446744073709551616) : IntKind.u64.wrap (Int.tdiv (x : Int) 10) = ((x / 10 : Nat) : Int) := by
  rw [IntKind.wrap_u64, Int.tdiv_eq_ediv_of_nonneg (by omega)]
  omega
theorem dig_loop : ∀ (j k x : Nat) (acc : ByteArray), x < 10 ^ (j + 1) → x < 18446744073709551616 → j + 1 ≤ k → acc.size + j ≤ 1000 →
    ∃ s, tenementref06_Digits.l0 k (x : Int) acc = some s ∧ bl s = (if x ≤ 9 then [] else dl (x / 10)) ++ bl acc := by
  intro j
  induction j with
  | zero =>
    intro k x acc hx h64 hk ha
    obtain ⟨k, rfl⟩ : ∃ m, k = m + 1 := ⟨k - 1, by omega⟩
    simp at hx
    refine ⟨acc, ?_, ?_⟩
    · rw [tenementref06_Digits.l0, if_neg (by omega)]
    · rw [if_pos (by omega)]; rfl
  | succ j ih =>
    intro k x acc hx h64 hk ha
    obtain ⟨k, rfl⟩ : ∃ m, k = m + 1 := ⟨k - 1, by omega⟩
    by_cases c : x ≤ 9
    · refine ⟨acc, ?_, ?_⟩
      · rw [tenementref06_Digits.l0, if_neg (by omega)]
      · rw [if_pos c]; rfl
    · rw [Nat.pow_succ] at hx
      obtain ⟨s, hs, hb⟩ := ih k (x / 10) (strOfNums ([((48 + (x / 10) % 10 : Nat) : Int)] : List Int) ++ acc) (by omega) (by omega) (by omega) (by rw [ByteArray.size_append, dig_size]; omega)
      refine ⟨s, ?_, ?_⟩
      · rw [tenementref06_Digits.l0, if_pos (by omega), Option.bind_some, tenth x h64, hdig, dig_size, if_pos (by omega)]
        exact hs
      · rw [hb, if_neg c, bl_append, bl_dig]
        by_cases d : x / 10 ≤ 9
        · rw [if_pos d, dl_small (show x / 10 < 10 by omega), Nat.mod_eq_of_lt (show x / 10 < 10 by omega)]
          simp
        · rw [if_neg d, dl_big (show ¬ x / 10 < 10 by omega)]
          simp
theorem Digits_f {n k : Nat} (h : n < 18446744073709551616) (hk : 20 ≤ k) : tenementref06_Digits.f k (n : Int) = some (vec_Text.num n) := by
  unfold tenementref06_Digits.f
  rw [hdig]
  obtain ⟨s, hs, hb⟩ := dig_loop 19 k n (strOfNums ([((48 + n % 10 : Nat) : Int)] : List Int)) (by omega) h hk (by rw [dig_size]; omega)
  rw [hs]
  congr 1
  apply bl_inj
  rw [hb, bl_num h, bl_dig]
  by_cases c : n ≤ 9
  · rw [if_pos c, dl_small (show n < 10 by omega), Nat.mod_eq_of_lt (show n < 10 by omega)]
    rfl
  · rw [if_neg c, dl_big (show ¬ n < 10 by omega)]
theorem num_size {n : Nat} (h : n < 18446744073709551616) : (vec_Text.num n).size ≤ 20 := by
  have := vec_Text.num_len h
  rwa [Array.length_toList] at this
theorem rtext {a b c d : Nat} (ha : a < 18446744073709551616) (hb : b < 18446744073709551616) (hc : c < 18446744073709551616) (hd : d < 18446744073709551616) {k : Nat} (hk : 20 ≤ k) :
    tenementref06_Text.f k a b c d = some (vec_Text.txt a b c d) := by
  have la := num_size ha
  have lb := num_size hb
  have lc := num_size hc
  have ld := num_size hd
  unfold tenementref06_Text.f vec_Text.txt
  rw [Digits_f ha hk, Digits_f hb hk, Digits_f hc hk, Digits_f hd hk]
  generalize vec_Text.num a = x at *
  generalize vec_Text.num b = y at *
  generalize vec_Text.num c = z at *
  generalize vec_Text.num d = u at *
  have z1 : (⟨#[44]⟩ : ByteArray).size = 1 := rfl
  rw [Option.bind_some, if_pos (by omega), Option.bind_some, if_pos (by simp only [ByteArray.size_append, z1]; omega), if_pos (by simp only [ByteArray.size_append, z1]; omega), Option.bind_some,
    if_pos (by simp only [ByteArray.size_append, z1]; omega), if_pos (by simp only [ByteArray.size_append, z1]; omega), Option.bind_some, if_pos (by simp only [ByteArray.size_append, z1]; omega)]
  rfl
end Go.Proofs.YtakhahfegialfaaDoor.Pure
