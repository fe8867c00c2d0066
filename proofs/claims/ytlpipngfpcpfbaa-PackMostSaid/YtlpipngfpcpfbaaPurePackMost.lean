/- A text is read just if it has at most so many bytes: for every text (as long as a text may be), and every number. -/
import Derived.Test.YtlpipngfpcpfbaaPackA
import Derived.Test.YtlpipngfpcpfbaaQx14
import Derived.Test.YtlpipngfpcpfbaaQx9
set_option linter.unusedVariables false
namespace Go.Proofs.Ytlpipngfpcpfbaa.Pure
open Go.RowKit Go.Proofs.Ytlpipngfpcpfbaa.Q Go.Proofs.YtlpipngfpcpfbaaW.PrintWords Go.Proofs.YtlpipngfpcpfbaaW.PrintLast Go.Proofs.YtlpipngfpcpfbaaW.PrintMore Go.Proofs.Ytlpipngfpcpfbaa.Plain

theorem examples_40 : tenementlaw02_examples.f 40 = some true := by decide +kernel
theorem examples_f {k : Nat} (hk : 40 ≤ k) : tenementlaw02_examples.f k = some true := at_rounds tenementlaw02_examples.mono hk examples_40
theorem most_way (s : ByteArray) (most : Int) (hs : s.size ≤ 140737488351232) :
    pack_Text.f 40 s = some (vs s.size ++ s) ∧ (vs s.size ++ s).size + 1 ≤ 9223372036854775807 ∧
    pack_Reader_Text.f 40 (vs s.size ++ s ++ (⟨#[120]⟩ : ByteArray)) false most = some (if (s.size : Int) ≤ most then (s, ⟨#[120]⟩, false) else (⟨#[]⟩, ⟨#[]⟩, true)) := by
  have h10 := vary_len_ten (show s.size < 18446744073709551616 by omega)
  have hz : (vs s.size ++ s).size = (vary s.size).length + s.size := by rw [ByteArray.size_append, vs_size]
  have hb : bl (vs s.size ++ s ++ (⟨#[120]⟩ : ByteArray)) = vary s.size ++ bl s ++ bl (⟨#[120]⟩ : ByteArray) := by rw [bl_append, bl_append, bl_vs]
  have hz2 : (vs s.size ++ s ++ (⟨#[120]⟩ : ByteArray)).size ≤ 9223372036854775807 := by
    rw [ByteArray.size_append, hz]
    have : (⟨#[120]⟩ : ByteArray).size = 1 := rfl
    omega
  refine ⟨Text_f (by omega) (by omega), by omega, ?_⟩
  by_cases h : (s.size : Int) ≤ most
  · rw [if_pos h]
    exact ReaderText_good hz2 hb h (by omega)
  · rw [if_neg h]
    refine ReaderText_bad hz2 (fun t rest hm ht => ?_) (by omega)
    rw [hb] at ht
    obtain ⟨rfl, _⟩ := vary_text_inj (by omega) ht
    exact h hm
theorem PackMost : tenementlaw02_PackMost.Pure := by
  intro a0 a1 a2 hs _
  refine ⟨40, ?_⟩
  unfold tenementlaw02_PackMost.f
  rw [examples_40]
  simp only [Option.bind_some, if_true]
  have e0 : (⟨#[]⟩ : ByteArray).toList = ([] : List UInt8) := by decide +kernel
  have e1 : (⟨#[120]⟩ : ByteArray).toList = ([120] : List UInt8) := by decide +kernel
  cases a2 with
  | true =>
    obtain ⟨h1, h2, h3⟩ := most_way a0 (Int.tmod a1 40) hs
    rw [if_pos rfl, h1]
    simp only [Option.bind_some]
    rw [if_pos h2, h3]
    simp only [Option.bind_some]
    by_cases h : (a0.size : Int) ≤ Int.tmod a1 40
    · simp only [if_pos h]
      rw [if_neg (by simp), if_pos trivial, if_pos e1]
    · simp only [if_neg h]
      rw [if_pos trivial, if_pos e0, if_pos e0]
  | false =>
    obtain ⟨h1, h2, h3⟩ := most_way a0 a1 hs
    rw [if_neg (by simp), h1]
    simp only [Option.bind_some]
    rw [if_pos h2, h3]
    simp only [Option.bind_some]
    by_cases h : (a0.size : Int) ≤ a1
    · simp only [if_pos h]
      rw [if_neg (by simp), if_pos trivial, if_pos e1]
    · simp only [if_neg h]
      rw [if_pos trivial, if_pos e0, if_pos e0]
end Go.Proofs.Ytlpipngfpcpfbaa.Pure
