/- Each number has one Vary alone, of as few bytes as it needs; two have the same just if they are the same: for every two numbers. -/
import Derived.Test.YtlpipngfpcpfbaaPackA
import Derived.Test.YtlpipngfpcpfbaaQx25
import Derived.Test.YtlpipngfpcpfbaaQx9
set_option linter.unusedVariables false
namespace Go.Proofs.Ytlpipngfpcpfbaa.Pure
open Go.RowKit Go.Proofs.Ytlpipngfpcpfbaa.Q Go.Proofs.YtlpipngfpcpfbaaW.PrintWords Go.Proofs.YtlpipngfpcpfbaaW.PrintLast Go.Proofs.YtlpipngfpcpfbaaW.PrintMore Go.Proofs.Ytlpipngfpcpfbaa.Plain

theorem vary_examples : tenementlaw02_examples.f 40 = some true := by decide +kernel
theorem u64_nat {a : Int} (h : (Lit.int .u64 a).wf = true) : ∃ n : Nat, a = (n : Int) ∧ n < 18446744073709551616 := by
  have hb : 0 ≤ a ∧ a ≤ 18446744073709551615 := by
    simp only [Lit.wf, Bool.and_eq_true, decide_eq_true_eq] at h; exact h
  exact ⟨a.toNat, by omega, by omega⟩
theorem shl_7 {j : Nat} (h : j ≤ 9) : shl .u64 1 (7 * (j : Int)) = ((128 ^ j : Nat) : Int) := by
  obtain rfl | rfl | rfl | rfl | rfl | rfl | rfl | rfl | rfl | rfl : j = 0 ∨ j = 1 ∨ j = 2 ∨ j = 3 ∨ j = 4 ∨ j = 5 ∨ j = 6 ∨ j = 7 ∨ j = 8 ∨ j = 9 := by omega
  all_goals decide +kernel
/-- A number's bytes don't end with an empty group. -/
theorem no_zero (m : Nat) : ∀ (A r : List Nat), A ≠ [] → (∀ x ∈ A, 128 ≤ x) → vary m ++ r ≠ A ++ [0] := by
  induction m using Nat.strongRecOn with
  | _ m ih =>
    intro A r hA hall h
    cases A with
    | nil => exact hA rfl
    | cons a A =>
      have ha := hall a (by simp)
      by_cases h1 : m < 128
      · rw [vary_small h1] at h
        simp at h; omega
      · rw [vary_big h1] at h
        simp only [List.cons_append, List.cons.injEq] at h
        cases A with
        | nil =>
          have h2 := h.2
          simp only [List.nil_append] at h2
          have h3 : vary (m / 128) ++ r = vary 0 ++ [] := by rw [h2, vary_small (by omega)]; rfl
          have := (vary_prefix _ _ _ _ h3).1
          omega
        | cons b A => exact ih (m / 128) (by omega) (b :: A) r (by simp) (fun x hx => hall x (by simp [hx])) h.2
theorem vary_high (n : Nat) : ∀ i b, i + 1 < (vary n).length → (vary n)[i]? = some b → 128 ≤ b := by
  intro i b hi h
  rw [vary_get i n (by omega), if_pos hi] at h
  have := Option.some.inj h
  omega
theorem rest_way (n m : Nat) (hn : n < 18446744073709551616) (hm : m < 18446744073709551616) : tenementlaw02_PackVary.j2 40 (n : Int) (m : Int) true (vs n) true true = some true := by
  have hp := vary_pos n
  have h10 := vary_len_ten hn
  have hz := vs_size n
  simp only [tenementlaw02_PackVary.j2]
  rw [ReaderVary_good (n := n) (rest := ⟨#[]⟩) (by omega) hn (by rw [bl_vs, bl_empty, List.append_nil]) (by omega)]
  simp only [Option.bind_some]
  have hw : wrap64 (((vs n).size : Int) - 1) = (((vary n).length - 1 : Nat) : Int) := by rw [wrap64_id (by omega) (by omega)]; omega
  rw [hw, Int.toNat_natCast]
  clear hw
  rw [if_pos (by omega), if_pos (by omega), if_pos (by omega)]
  obtain ⟨c, hc, hbt, hc256⟩ := bt_bl (vs n) ((vary n).length - 1) (by omega)
  rw [hbt, u8_or_128 _ hc256]
  have hy : ([((c % 128 + 128 : Nat) : Int), 0] : List Int) = NL [c % 128 + 128, 0] := rfl
  rw [hy]
  have hb2 : ∀ b ∈ [c % 128 + 128, 0], b < 256 := by intro b hb; simp at hb; omega
  have hs2 : (strOfNums (NL [c % 128 + 128, 0])).size = 2 := by rw [strOfNums_size]; rfl
  have hse : ((vs n).extract 0 ((vary n).length - 1)).size = (vary n).length - 1 := by simp; omega
  rw [if_pos (by rw [hs2, hse]; omega)]
  rw [ReaderVary_bad (by rw [ByteArray.size_append, hs2, hse]; omega) (fun m' _ r hr => by
    rw [bl_append, bl_take, bl_vs, bl_str _ hb2] at hr
    refine no_zero m' ((vary n).take ((vary n).length - 1) ++ [c % 128 + 128]) r (by simp) ?_ (by rw [← hr]; simp)
    intro x hx
    rw [List.mem_append] at hx
    rcases hx with hx | hx
    · obtain ⟨i, hi, rfl⟩ := List.getElem_of_mem hx
      rw [List.length_take] at hi
      refine vary_high n i _ (by omega) ?_
      rw [List.getElem_take, List.getElem?_eq_getElem]
    · simp at hx; omega) (by omega)]
  simp only [Option.bind_some, if_true]
  rw [Vary_f hm (by omega)]
  simp only [Option.bind_some, Done_f, Bool.not_false, Bool.true_and, decide_true, if_true]
  have heq : (vs n).toList = (vs m).toList ↔ n = m := by
    rw [toList_iff]
    constructor
    · intro h
      have h2 := congrArg bl h
      rw [bl_vs, bl_vs] at h2
      exact vary_inj h2
    · rintro rfl; rfl
  have he : ((n : Int) = (m : Int)) ↔ n = m := by omega
  simp only [heq, he]
  by_cases c2 : n = m
  · rw [if_pos c2, if_pos c2]
  · rw [if_neg c2, if_neg c2]
theorem all_way (n m : Nat) (hn : n < 18446744073709551616) (hm : m < 18446744073709551616) : tenementlaw02_PackVary.j0 42 (n : Int) (m : Int) true = some true := by
  have hp := vary_pos n
  have h10 := vary_len_ten hn
  have hz := vs_size n
  simp only [tenementlaw02_PackVary.j0]
  rw [Vary_f hn (by omega)]
  simp only [Option.bind_some]
  have hne : ¬ (vs n).toList = ([] : List UInt8) := by
    intro h
    have : vs n = ⟨#[]⟩ := toList_iff.1 (by rw [h, toList_data])
    rw [this] at hz
    have : (⟨#[]⟩ : ByteArray).size = 0 := rfl
    omega
  rw [if_neg hne]
  clear hne
  have h1 : tenementlaw02_PackVary.j1 41 (n : Int) (m : Int) true (vs n) true = some true := by
    simp only [tenementlaw02_PackVary.j1]
    rw [hz]
    by_cases c1 : (vary n).length = 1
    · rw [if_pos (by omega)]
      exact rest_way n m hn hm
    · rw [if_neg (by omega)]
      have hw : wrap64 (7 * wrap64 (((vary n).length : Int) - 1)) = 7 * (((vary n).length - 1 : Nat) : Int) := by
        rw [wrap64_id (x := ((vary n).length : Int) - 1) (by omega) (by omega), wrap64_id (by omega) (by omega)]; omega
      rw [hw, if_pos (by omega), shl_7 (by omega)]
      have hd : decide ((n : Int) ≥ ((128 ^ ((vary n).length - 1) : Nat) : Int)) = true := by
        apply decide_eq_true
        rcases (vary_len_iff n ((vary n).length - 1)).1 (by omega) with h | h
        · omega
        · exact Int.ofNat_le.2 h
      rw [hd]
      exact rest_way n m hn hm
  rw [hz]
  by_cases c1 : (vary n).length = 10
  · rw [if_pos (by omega)]
    exact h1
  · rw [if_neg (by omega)]
    have hw : wrap64 (7 * ((vary n).length : Int)) = 7 * ((vary n).length : Int) := wrap64_id (by omega) (by omega)
    rw [hw, if_pos (by omega), shl_7 (by omega)]
    have hd : decide ((n : Int) < ((128 ^ (vary n).length : Nat) : Int)) = true := by
      apply decide_eq_true
      rcases Nat.lt_or_ge n (128 ^ (vary n).length) with h | h
      · exact Int.ofNat_lt.2 h
      · have := vary_len_gt _ n h; omega
    rw [hd]
    exact h1
theorem PackVary : tenementlaw02_PackVary.Pure := by
  intro a0 a1 a2 h0 h1
  obtain ⟨n, rfl, hn⟩ := u64_nat h0
  obtain ⟨m, rfl, hm⟩ := u64_nat h1
  refine ⟨42, ?_⟩
  unfold tenementlaw02_PackVary.f
  rw [at_rounds tenementlaw02_examples.mono (show 40 ≤ 42 by omega) vary_examples]
  simp only [Option.bind_some, if_true]
  cases a2 with
  | true => rw [if_pos rfl]; exact all_way n n hn hn
  | false => rw [if_neg (by simp)]; exact all_way n m hn hm
end Go.Proofs.Ytlpipngfpcpfbaa.Pure
