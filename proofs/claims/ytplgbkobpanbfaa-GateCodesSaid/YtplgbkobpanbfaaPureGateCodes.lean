/- A code is answered as its lowest eight bits; two that are answered alike are alike in them. -/
import Derived.Test.YtplgbkobpanbfaaGateE
import Derived.Test.YtplgbkobpanbfaaQxf8
import Derived.Laws.Bits128
set_option linter.unusedVariables false
set_option linter.unusedSimpArgs false
namespace Go.Proofs.Ytplgbkobpanbfaa.Pure
open Go.RowKit Go.Proofs.Ytplgbkobpanbfaa.Q Go.Proofs.YtplgbkobpanbfaaW.PrintWords Go.Proofs.YtplgbkobpanbfaaW.PrintLast Go.Proofs.YtplgbkobpanbfaaW.PrintMore Go.Proofs.Ytplgbkobpanbfaa.Plain

theorem GateCodes : tenementlaw19_GateCodes.Pure := by
  intro a b ha hb
  have i64_and255 : ∀ n : Int, Go.bits .and .i64 n 255 = n % 256 := by
    intro n
    have h255 : (BitVec.ofInt 64 255).toNat = 2 ^ 8 - 1 := by decide
    have key : (BitVec.ofInt 64 n &&& BitVec.ofInt 64 255).toNat = (n % ((2 ^ 64 : Nat) : Int)).toNat % 2 ^ 8 := by
      rw [BitVec.toNat_and, BitVec.toNat_ofInt, h255, Nat.and_two_pow_sub_one_eq_mod]
    show IntKind.i64.wrap ((BitVec.ofInt 64 n &&& BitVec.ofInt 64 255).toNat : Nat) = n % 256
    rw [key, IntKind.wrap_i64]
    omega
  refine ⟨100, ?_⟩
  obtain ⟨s, es, bs⟩ := answer_f a (v := (⟨#[]⟩ : ByteArray)) (by decide) false (a := 0) (b := 0) (c' := 0) (d := 0) (by omega) (by omega) (by omega) (by omega) (k := 100) (by omega)
  obtain ⟨t, et, bt⟩ := answer_f b (v := (⟨#[]⟩ : ByteArray)) (by decide) false (a := 0) (b := 0) (c' := 0) (d := 0) (by omega) (by omega) (by omega) (by omega) (k := 100) (by omega)
  have gs := read_good bs (by omega) (by decide) (by omega) (k := 100) (by omega)
  have h7 : (s.size : Int) = 7 := by
    rw [← bl_length, bs]
    have : (rs (a % 256).toNat (if false = true then 1 else 0) (⟨#[]⟩ : ByteArray) 0 0 0 0).length = 7 := by
      unfold rs tx
      simp only [List.length_append, List.length_cons, vary_small (show 0 < 128 by omega), bl_empty]
      rw [show (⟨#[]⟩ : ByteArray).size = 0 from rfl, vary_small (show 0 < 128 by omega)]
      rfl
    omega
  have hst : s = t ↔ a % 256 = b % 256 := by
    constructor
    · intro e
      have e : rs (a % 256).toNat (if false = true then 1 else 0) (⟨#[]⟩ : ByteArray) 0 0 0 0 ++ [] = rs (b % 256).toNat (if false = true then 1 else 0) (⟨#[]⟩ : ByteArray) 0 0 0 0 ++ [] := by rw [← bs, ← bt, e]
      have := (rs_prefix e).1
      omega
    · intro e
      apply bl_inj
      rw [bs, bt, e]
  unfold tenementlaw19_GateCodes.f
  rw [examples_f (by omega)]
  simp only [Option.bind_some, if_true]
  have es : gate_Answer.f 100 a (⟨#[]⟩ : ByteArray) false 0 0 0 0 = some s := es
  have et : gate_Answer.f 100 b (⟨#[]⟩ : ByteArray) false 0 0 0 0 = some t := et
  rw [es, et]
  simp only [Option.bind_some]
  rw [gs]
  simp only [Option.bind_some, i64_and255]
  have hc : (((a % 256).toNat : Nat) : Int) = a % 256 := by omega
  by_cases e : a % 256 = b % 256
  · rw [if_pos (toList_iff.2 (hst.2 e)), if_pos e, if_pos trivial, if_pos hc, if_pos h7]
  · rw [if_neg (fun h => e (hst.1 (toList_iff.1 h))), if_neg e, if_pos trivial, if_pos hc, if_pos h7]
end Go.Proofs.Ytplgbkobpanbfaa.Pure
