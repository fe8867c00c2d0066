/- Numbers of one size stand, as bytes, in the order of the numbers; other sizes have none: for every two numbers, and every size. -/
import Derived.Test.YtlpipngfpcpfbaaPackA
import Derived.Test.YtlpipngfpcpfbaaQx13
import Derived.Test.YtlpipngfpcpfbaaQx9
set_option linter.unusedVariables false
namespace Go.Proofs.Ytlpipngfpcpfbaa.Pure
open Go.RowKit Go.Proofs.Ytlpipngfpcpfbaa.Q Go.Proofs.YtlpipngfpcpfbaaW.PrintWords Go.Proofs.YtlpipngfpcpfbaaW.PrintLast Go.Proofs.YtlpipngfpcpfbaaW.PrintMore Go.Proofs.Ytlpipngfpcpfbaa.Plain

theorem order_examples : tenementlaw02_examples.f 40 = some true := by decide +kernel
theorem bytesLess_bl : ∀ l m : List UInt8, Op.bytesLess l m = less (l.map UInt8.toNat) (m.map UInt8.toNat)
  | _, [] => by cases ‹List UInt8› <;> rfl
  | [], _ :: _ => rfl
  | a :: l, b :: m => by
    simp only [Op.bytesLess, List.map_cons, less]
    rw [bytesLess_bl l m]
    rw [Bool.eq_iff_iff]
    simp [UInt8.lt_iff_toNat_lt, ← UInt8.toNat_inj]
theorem order_in (k a b : Nat) (h1 : 1 ≤ k) (h8 : k ≤ 8) (ha : a < 256 ^ k) (hb : b < 256 ^ k) : tenementlaw02_PackOrder.j0 40 (a : Int) (b : Int) true (k : Int) = some true := by
  simp only [tenementlaw02_PackOrder.j0]
  rw [Number_f a k (by omega) (by omega), Number_f b k (by omega) (by omega)]
  simp only [Option.bind_some, if_true, Int.toNat_natCast]
  rw [if_pos (by rw [nb_size])]
  have hless : Op.bytesLess (nb a k).toList (nb b k).toList = decide (a < b) := by
    rw [toList_data, toList_data, bytesLess_bl]
    show less (bl (nb a k)) (bl (nb b k)) = _
    rw [bl_nb, bl_nb, Bool.eq_iff_iff, decide_eq_true_eq]
    exact less_be k a b ha hb
  have heq : (nb a k).toList = (nb b k).toList ↔ a = b := by
    rw [toList_iff]
    constructor
    · intro h
      have h2 := congrArg bl h
      rw [bl_nb, bl_nb] at h2
      exact be_inj ha hb h2
    · rintro rfl; rfl
  have n0 : pack_Number.f (a : Int) 0 = some ⟨#[]⟩ := Number_none _ _ (by omega)
  have n9 : pack_Number.f (a : Int) 9 = some ⟨#[]⟩ := Number_none _ _ (by omega)
  have nm : pack_Number.f (a : Int) (wrap64 (-(k : Int))) = some ⟨#[]⟩ := by
    rw [wrap64_id (by omega) (by omega)]
    exact Number_none _ _ (by omega)
  have e0 : (⟨#[]⟩ : ByteArray).toList = ([] : List UInt8) := by decide +kernel
  rw [hless, n0, n9, nm]
  simp only [Option.bind_some, e0, if_true, decide_eq_true_eq]
  have hlt : ((a : Int) < (b : Int)) ↔ a < b := by omega
  have he : ((a : Int) = (b : Int)) ↔ a = b := by omega
  simp only [hlt, he, heq]
  by_cases c1 : a < b
  · rw [if_pos c1, if_pos c1, if_neg (by omega), if_neg (by omega)]
  · rw [if_neg c1, if_neg c1]
    by_cases c2 : a = b
    · rw [if_pos c2, if_pos c2]
    · rw [if_neg c2, if_neg c2]
theorem size_k {a2 : Int} (h : (Lit.int .u8 a2).wf = true) : ∃ k : Nat, 1 ≤ k ∧ k ≤ 8 ∧ wrap64 (1 + wrap64 (Int.tmod a2 8)) = (k : Int) := by
  have hb : 0 ≤ a2 ∧ a2 ≤ 255 := by
    simp only [Lit.wf, Bool.and_eq_true, decide_eq_true_eq] at h; exact h
  have hm : Int.tmod a2 8 = a2 % 8 := Int.tmod_eq_emod_of_nonneg hb.1
  rw [hm, wrap64_id (x := a2 % 8) (by omega) (by omega), wrap64_id (by omega) (by omega)]
  exact ⟨(1 + a2 % 8).toNat, by omega, by omega, by omega⟩
theorem shl_k {k : Nat} (h1 : 1 ≤ k) (h8 : k < 8) : shl .u64 1 (wrap64 (8 * (k : Int))) = ((256 ^ k : Nat) : Int) := by
  rw [wrap64_id (by omega) (by omega)]
  obtain rfl | rfl | rfl | rfl | rfl | rfl | rfl : k = 1 ∨ k = 2 ∨ k = 3 ∨ k = 4 ∨ k = 5 ∨ k = 6 ∨ k = 7 := by omega
  all_goals decide +kernel
theorem u64_nat {a : Int} (h : (Lit.int .u64 a).wf = true) : ∃ n : Nat, a = (n : Int) ∧ n < 18446744073709551616 := by
  have hb : 0 ≤ a ∧ a ≤ 18446744073709551615 := by
    simp only [Lit.wf, Bool.and_eq_true, decide_eq_true_eq] at h; exact h
  exact ⟨a.toNat, by omega, by omega⟩
theorem PackOrder : tenementlaw02_PackOrder.Pure := by
  intro a0 a1 a2 h0 h1 h2
  refine ⟨40, ?_⟩
  unfold tenementlaw02_PackOrder.f
  rw [order_examples]
  simp only [Option.bind_some, if_true]
  obtain ⟨k, hk1, hk8, hk⟩ := size_k h2
  obtain ⟨a, rfl, ha⟩ := u64_nat h0
  obtain ⟨b, rfl, hb⟩ := u64_nat h1
  rw [hk]
  by_cases c : k < 8
  · have hp : 0 < 256 ^ k := Nat.pow_pos (by omega)
    rw [if_pos (by omega), if_pos (by rw [wrap64_id (by omega) (by omega)]; omega), shl_k hk1 c, if_neg (by omega)]
    rw [← Int.ofNat_tmod, ← Int.ofNat_tmod]
    exact order_in k _ _ hk1 hk8 (Nat.mod_lt _ hp) (Nat.mod_lt _ hp)
  · obtain rfl : k = 8 := by omega
    rw [if_neg (by omega)]
    exact order_in 8 a b hk1 hk8 (by simpa using ha) (by simpa using hb)
end Go.Proofs.Ytlpipngfpcpfbaa.Pure
