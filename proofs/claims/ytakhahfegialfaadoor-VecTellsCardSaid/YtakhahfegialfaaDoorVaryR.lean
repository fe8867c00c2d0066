/- What Vary of the document's answer to chapter 2 answers. -/
import Derived.Test.YtakhahfegialfaaDoorVaryA
import Derived.Test.YtakhahfegialfaaDoorQxf40
set_option linter.unusedVariables false
set_option linter.unusedSimpArgs false
namespace Go.Proofs.YtakhahfegialfaaDoor.Pure
open Go.RowKit Go.Proofs.YtakhahfegialfaaDoor.Q Go.Proofs.YtakhahfegialfaaDoorW.PrintWords Go.Proofs.YtakhahfegialfaaDoorW.PrintLast Go.Proofs.YtakhahfegialfaaDoorW.PrintMore Go.Proofs.YtakhahfegialfaaDoor.Plain

theorem rvary_tells (n : Nat) : n < 18446744073709551616 → ∀ (k : Nat) (acc : List Nat), (vary n).length < k → acc.length + (vary n).length ≤ 140737488355328 →
    tenementref02_Vary.l0 k (n : Int) (NL acc) = some (strOfNums (NL (acc ++ vary n))) := by
  induction n using Nat.strongRecOn with
  | _ n ih =>
    intro hn k acc hk hl
    obtain ⟨k, rfl⟩ : ∃ m, k = m + 1 := ⟨k - 1, by omega⟩
    simp only [tenementref02_Vary.l0]
    have hlen : (NL acc).length = acc.length := by simp [NL]
    by_cases h : n < 128
    · rw [vary_small h] at hl ⊢
      rw [if_neg (by omega), if_pos (by rw [hlen]; simp at hl; omega)]
      rw [show (n : Int) % 256 = (n : Int) by omega]
      simp [NL]
    · rw [vary_big h] at hl hk ⊢
      simp only [List.length_cons] at hl hk
      rw [if_pos (by omega), if_pos (by rw [hlen]; omega)]
      have e1 : Int.tdiv (n : Int) 128 = ((n / 128 : Nat) : Int) := by rw [Int.tdiv_eq_ediv_of_nonneg (by omega)]; omega
      have e2 : Int.tmod (n : Int) 128 = ((n % 128 : Nat) : Int) := by rw [Int.tmod_eq_emod_of_nonneg (by omega)]; omega
      rw [e1, e2, wrap_u64 (by omega) (by omega), wrap_u64 (by omega) (by omega)]
      have e3 : NL acc ++ [(((n % 128 : Nat) : Int) + 128) % 256] = NL (acc ++ [n % 128 + 128]) := by
        rw [show (((n % 128 : Nat) : Int) + 128) % 256 = ((n % 128 + 128 : Nat) : Int) by omega]; simp [NL]
      rw [e3, ih (n / 128) (by omega) (by omega) k _ (by omega) (by simp; omega)]
      simp
theorem RVary_f {n k : Nat} (h : n < 18446744073709551616) (hk : 11 ≤ k) : tenementref02_Vary.f k (n : Int) = some (vs n) := by
  have h1 := vary_len_ten h
  have := rvary_tells n h k [] (by omega) (by simp; omega)
  exact this
end Go.Proofs.YtakhahfegialfaaDoor.Pure
