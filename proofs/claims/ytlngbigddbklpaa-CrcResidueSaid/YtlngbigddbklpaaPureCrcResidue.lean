/- A text with its own sum behind it, the lowest byte first, has always one sum: for every text. -/
import Derived.Test.YtlngbigddbklpaaCrcA
import Derived.Test.YtlngbigddbklpaaQx12
import Derived.Test.YtlngbigddbklpaaQx5
set_option linter.unusedVariables false
namespace Go.Proofs.Ytlngbigddbklpaa.Pure
open Go.RowKit Go.Proofs.Ytlngbigddbklpaa.Q Go.Proofs.YtlngbigddbklpaaW.PrintWords Go.Proofs.YtlngbigddbklpaaW.PrintLast Go.Proofs.YtlngbigddbklpaaW.PrintMore Go.Proofs.Ytlngbigddbklpaa.CrcN

theorem residue_examples : tenementlaw01_examples.f 40 = some true := by decide +kernel
/-- a number's four bytes, the lowest first -/
def le4 (x : Nat) : List Nat := [x % 256, x / 256 % 256, x / 65536 % 256, x / 16777216 % 256]
theorem le4_xor (x : Nat) (h : x < 4294967296) : (x % 256) ^^^ (2 ^ 8 * (x / 256 % 256)) ^^^ (2 ^ 16 * (x / 65536 % 256)) ^^^ (2 ^ 24 * (x / 16777216 % 256)) = x := by
  have p : ∀ (i a b : Nat), b < 2 ^ i → b ^^^ (2 ^ i * a) = 2 ^ i * a + b := by
    intro i a b hb
    rw [Nat.two_pow_add_eq_or_of_lt hb]
    apply Nat.eq_of_testBit_eq
    intro j
    rw [Nat.testBit_xor, Nat.testBit_or, Nat.testBit_two_pow_mul]
    by_cases hj : i ≤ j
    · have : b.testBit j = false := Nat.testBit_lt_two_pow (Nat.lt_of_lt_of_le hb (Nat.pow_le_pow_right (by omega) hj))
      simp [this]
    · simp [hj]
  rw [p 8 _ _ (by omega), p 16 _ _ (by omega), p 24 _ _ (by omega)]
  omega
theorem fold_residue (l : List Nat) (h : Byt l) : fold F (l ++ le4 (sum l)) = hn 32 F := by
  rw [fold_append]
  unfold le4
  rw [next4, le4_xor _ (sum_lt h)]
  congr 1
  unfold sum
  rw [← Nat.xor_assoc, Nat.xor_self, Nat.zero_xor]
theorem sum_residue (l : List Nat) (h : Byt l) : sum (l ++ le4 (sum l)) = 558161692 := by
  unfold sum
  have := fold_residue l h
  unfold sum at this
  rw [this]
  decide +kernel
theorem CrcResidue : tenementlaw01_CrcResidue.Pure := by
  intro s hs
  refine ⟨4200, ?_⟩
  unfold tenementlaw01_CrcResidue.f
  rw [at_rounds tenementlaw01_examples.mono (show 40 ≤ 4200 by omega) residue_examples]
  have ls := sum_bl_lt s
  rw [Option.bind_some, if_pos rfl, Sum_f (s := s) (by omega) (by omega), Option.bind_some, Option.bind_some]
  have hb := byt_bl s
  have hr := sum_residue (bl s) hb
  have hsa := sum_append (bl s) (le4 (sum (bl s)))
  generalize sum (bl s) = x at *
  have hl : ([((x : Nat) : Int) % 256, ((x : Nat) : Int) / 256 % 256, ((x : Nat) : Int) / 65536 % 256, ((x : Nat) : Int) / 16777216 % 256] : List Int) = (le4 x).map fun n : Nat => (n : Int) := by
    simp [le4]
  rw [hl]
  have hlt : ∀ b ∈ le4 x, b < 256 := by intro b hb; simp [le4] at hb; omega
  have h4 : bl (strOfNums ((le4 x).map fun n : Nat => (n : Int))) = le4 x := bl_str (le4 x) hlt
  generalize strOfNums ((le4 x).map fun n : Nat => (n : Int)) = t at *
  have hts : t.size = 4 := by rw [← bl_length, h4]; rfl
  have hz : (s ++ t).size = s.size + 4 := by rw [ByteArray.size_append, hts]
  rw [if_pos (by omega), Sum_f (s := s ++ t) (by omega) (by omega), Option.bind_some, bl_append, h4, hr, if_pos (show ((558161692 : Nat) : Int) = 558161692 from rfl), if_pos (by omega), if_pos (by omega)]
  have he : (s ++ t).extract s.size (s.size + t.size) = t := by
    apply bl_inj
    rw [bl_extract, bl_append, ← bl_length s, ← bl_length t, List.take_of_length_le (by simp), List.drop_left]
  have lt := sum_bl_lt t
  rw [he, Sum_f (s := t) (by omega) (by omega), Option.bind_some, Join_f _ ls lt (by omega), Option.bind_some, if_pos]
  unfold jn
  rw [if_neg (by omega), h4, show min ((4 : Int)).toNat 4096 = 4 from rfl]
  rw [hr] at hsa
  exact congrArg Int.ofNat hsa.symm
end Go.Proofs.Ytlngbigddbklpaa.Pure
