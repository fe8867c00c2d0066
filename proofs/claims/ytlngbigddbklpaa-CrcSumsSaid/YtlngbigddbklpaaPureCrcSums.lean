/- Of any text the sum is what the chapter says, and so is any join: for every text, every two sums, and every number. -/
import Derived.Test.YtlngbigddbklpaaCrcA
import Derived.Test.YtlngbigddbklpaaQx9
import Derived.Test.YtlngbigddbklpaaQx5
import Derived.Test.YtlngbigddbklpaaQx6
import Derived.Test.YtlngbigddbklpaaQx7
import Derived.Test.YtlngbigddbklpaaQx8
set_option linter.unusedVariables false
namespace Go.Proofs.Ytlngbigddbklpaa.Pure
open Go.RowKit Go.Proofs.Ytlngbigddbklpaa.Q Go.Proofs.YtlngbigddbklpaaW.PrintWords Go.Proofs.YtlngbigddbklpaaW.PrintLast Go.Proofs.YtlngbigddbklpaaW.PrintMore Go.Proofs.Ytlngbigddbklpaa.CrcN

theorem sums_examples : tenementlaw01_examples.f 40 = some true := by decide +kernel
theorem step_loop (d : Nat) : ∀ (k x i : Nat), i + d = 8 → d < k → x < 4294967296 → tenementref01_step.l0 k (x : Int) (i : Int) = some ((hn d x : Nat) : Int) := by
  induction d with
  | zero =>
    intro k x i hi hk hx
    obtain ⟨k, rfl⟩ : ∃ m, k = m + 1 := ⟨k - 1, by omega⟩
    simp only [tenementref01_step.l0]
    rw [if_neg (by omega)]; rfl
  | succ d ih =>
    intro k x i hi hk hx
    obtain ⟨k, rfl⟩ : ∃ m, k = m + 1 := ⟨k - 1, by omega⟩
    simp only [tenementref01_step.l0]
    have e : wrap64 ((i : Int) + 1) = ((i + 1 : Nat) : Int) := by rw [wrap64_id (by omega) (by omega)]; omega
    have e2 : (x : Int) / 2 = ((x / 2 : Nat) : Int) := by omega
    have hm : Int.tmod (x : Int) 2 = ((x % 2 : Nat) : Int) := (Int.ofNat_tmod x 2).symm
    have e3 : Go.bits .xor .u32 ((x / 2 : Nat) : Int) 3988292384 = ((x / 2 ^^^ poly : Nat) : Int) := u32_xor_nat (x / 2) poly (by omega) (by decide)
    have hh := ih k (half x) (i + 1) (by omega) (by omega) (half_lt hx)
    rw [if_pos (by omega), e, e2, hm, e3]
    simp only [hn]
    unfold half at hh ⊢
    by_cases c : x % 2 = 1
    · rw [if_pos (by omega)]
      rw [if_pos c] at hh ⊢
      exact hh
    · rw [if_neg (by omega)]
      rw [if_neg c] at hh ⊢
      exact hh
theorem step_f {c b k : Nat} (hc : c < 4294967296) (hb : b < 256) (hk : 9 ≤ k) : tenementref01_step.f k (c : Int) (b : Int) = some ((next c b : Nat) : Int) := by
  unfold tenementref01_step.f
  rw [show ((b : Int) % 4294967296) = (b : Int) by omega, u32_xor_nat _ _ hc (by omega)]
  exact step_loop 8 k _ 0 (by omega) (by omega) (Nat.xor_lt_two_pow (n := 32) hc (by omega))
theorem refSum_loop (s : ByteArray) (hz : s.size ≤ 140737488351232) (d : Nat) : ∀ (k i : Nat), i + d = s.size → d + 10 < k →
    tenementref01_Sum.l0 k s ((CrcN.fold F ((bl s).take i) : Nat) : Int) (i : Int) = some ((sum (bl s) : Nat) : Int) := by
  induction d with
  | zero =>
    intro k i hi hk
    obtain ⟨k, rfl⟩ : ∃ m, k = m + 1 := ⟨k - 1, by omega⟩
    simp only [tenementref01_Sum.l0]
    have e : (bl s).take i = bl s := List.take_of_length_le (by rw [bl_length]; omega)
    rw [if_neg (by omega), e]
    have hl := fold_lt (bl s) (show F < 2 ^ 32 by decide) (byt_bl s)
    have := u32_xor_nat 4294967295 _ (by omega) hl
    rw [show ((4294967295 : Nat) : Int) = 4294967295 from rfl] at this
    rw [this]
    unfold sum
    rw [Nat.xor_comm]; rfl
  | succ d ih =>
    intro k i hi hk
    obtain ⟨k, rfl⟩ : ∃ m, k = m + 1 := ⟨k - 1, by omega⟩
    simp only [tenementref01_Sum.l0]
    obtain ⟨c, hc, hbt, hc256⟩ := bt_bl s i (by omega)
    have e : wrap64 ((i : Int) + 1) = ((i + 1 : Nat) : Int) := by rw [wrap64_id (by omega) (by omega)]; omega
    rw [if_pos (by omega), if_pos (by omega), hbt, step_f (fold_lt _ (by decide) (byt_take (byt_bl s) i)) hc256 (by omega), Option.bind_some, e]
    have h2 := ih k (i + 1) (by omega) (by omega)
    rw [List.take_add_one, hc] at h2
    simp only [Option.toList] at h2
    rw [CrcN.fold_append] at h2
    exact h2
theorem refSum_f {s : ByteArray} (h : s.size ≤ 140737488351232) {k : Nat} (hk : s.size + 10 < k) : tenementref01_Sum.f k s = some ((sum (bl s) : Nat) : Int) := by
  unfold tenementref01_Sum.f
  exact refSum_loop s h s.size k 0 (by omega) hk
theorem refJoin_loop (n : Int) (h1 : 1 ≤ n) (hn9 : n ≤ 9223372036854775807) (b : Nat) (hb : b < 4294967296) (d : Nat) : ∀ (k x i : Nat), i + d = min n.toNat 4096 → d + 9 < k → x < 4294967296 →
    tenementref01_Join.l0 k (x : Int) (b : Int) n (i : Int) = some ((join x b d : Nat) : Int) := by
  induction d with
  | zero =>
    intro k x i hi hk hx
    obtain ⟨k, rfl⟩ : ∃ m, k = m + 1 := ⟨k - 1, by omega⟩
    simp only [tenementref01_Join.l0]
    rw [u32_xor_nat _ _ hx hb]
    by_cases c : (i : Int) < n
    · rw [if_pos c, if_neg (by omega)]; rfl
    · rw [if_neg c]; rfl
  | succ d ih =>
    intro k x i hi hk hx
    obtain ⟨k, rfl⟩ : ∃ m, k = m + 1 := ⟨k - 1, by omega⟩
    simp only [tenementref01_Join.l0]
    have h0 := step_f (c := x) (b := 0) (k := k) hx (by omega) (by omega)
    rw [show ((0 : Nat) : Int) = 0 from rfl] at h0
    have e : wrap64 ((i : Int) + 1) = ((i + 1 : Nat) : Int) := by rw [wrap64_id (by omega) (by omega)]; omega
    rw [if_pos (by omega), if_pos (by omega), h0, Option.bind_some, next_zero, e, ih k (hn 8 x) (i + 1) (by omega) (by omega) (hn_lt 8 hx)]
    unfold join
    rw [← hn_add, show 8 + 8 * d = 8 * (d + 1) by omega]
theorem refJoin_f {a b : Nat} (n : Int) (hn9 : n ≤ 9223372036854775807) (ha : a < 4294967296) (hb : b < 4294967296) {k : Nat} (hk : 4107 ≤ k) : tenementref01_Join.f k (a : Int) (b : Int) n = some ((jn a b n : Nat) : Int) := by
  unfold tenementref01_Join.f jn
  by_cases h : n < 1
  · rw [if_pos h, if_pos h]
  · rw [if_neg h, if_neg h]
    exact refJoin_loop n (by omega) hn9 b hb _ k a 0 (by omega) (by omega) ha
theorem u32_nat {a : Int} (h : (Lit.int .u32 a).wf = true) : ∃ n : Nat, a = (n : Int) ∧ n < 4294967296 := by
  have hb : 0 ≤ a ∧ a ≤ 4294967295 := by
    simp only [Lit.wf, Bool.and_eq_true, decide_eq_true_eq] at h; exact h
  exact ⟨a.toNat, by omega, by omega⟩
theorem all_in (s : ByteArray) (t a b : Nat) (n : Int) (hs : s.size ≤ 140737488351232) (hn9 : n ≤ 9223372036854775807) (ha : a < 4294967296) (hb : b < 4294967296) :
    tenementlaw01_CrcSums.j0 (s.size + 5000) s (t : Int) (a : Int) (b : Int) n true = some true := by
  obtain ⟨k, hk⟩ : ∃ k, s.size + 5000 = k + 1 := ⟨s.size + 4999, by omega⟩
  rw [hk]
  simp only [tenementlaw01_CrcSums.j0]
  rw [refSum_f hs (by omega), Option.bind_some, if_pos trivial, Sum_f (s := s) (by omega) (by omega), Option.bind_some, if_pos rfl, Check_f (by omega) _ (by omega), Check_f (by omega) _ (by omega), Join_f n ha hb (by omega), refJoin_f n hn9 ha hb (by omega)]
  simp only [Option.bind_some, decide_eq_true_eq, if_true]
  by_cases c : ((sum (bl s) : Nat) : Int) = (t : Int)
  · rw [if_pos c, if_pos c.symm]
  · rw [if_neg c, if_neg (fun h => c h.symm)]
theorem CrcSums : tenementlaw01_CrcSums.Pure := by
  intro s t a b n near hs ht ha' hb' hn9
  obtain ⟨t, rfl, ht⟩ := u32_nat ht
  obtain ⟨a, rfl, ha⟩ := u32_nat ha'
  obtain ⟨b, rfl, hb⟩ := u32_nat hb'
  have hbn : -9223372036854775808 ≤ n ∧ n ≤ 9223372036854775807 := by
    simp only [Lit.wf, Bool.and_eq_true, decide_eq_true_eq] at hn9; exact hn9
  refine ⟨s.size + 5000, ?_⟩
  unfold tenementlaw01_CrcSums.f
  rw [at_rounds tenementlaw01_examples.mono (show 40 ≤ s.size + 5000 by omega) sums_examples, Option.bind_some, if_pos rfl]
  cases near with
  | true =>
    rw [if_pos rfl]
    refine all_in s t a b _ hs ?_ ha hb
    have := Int.tmod_lt_of_pos n (show (0 : Int) < 64 by omega)
    omega
  | false =>
    rw [if_neg (by simp)]
    exact all_in s t a b n hs hbn.2 ha hb
end Go.Proofs.Ytlngbigddbklpaa.Pure
