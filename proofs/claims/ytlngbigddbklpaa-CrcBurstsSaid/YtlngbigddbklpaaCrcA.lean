/- What the printed functions of package crc answer, in plain words. -/
import Derived.Test.YtlngbigddbklpaaCrcN
import Derived.Test.YtlngbigddbklpaaBytes
import Derived.Test.YtlngbigddbklpaaQx1
import Derived.Test.YtlngbigddbklpaaQx2
import Derived.Test.YtlngbigddbklpaaQx4
import Derived.Test.YtlngbigddbklpaaQx3
import Derived.Laws.BitsAllLaws
set_option linter.unusedVariables false
set_option linter.unusedSimpArgs false
namespace Go.Proofs.Ytlngbigddbklpaa.Pure
open Go.RowKit Go.Proofs.Ytlngbigddbklpaa.Q Go.Proofs.YtlngbigddbklpaaW.PrintWords Go.Proofs.YtlngbigddbklpaaW.PrintLast Go.Proofs.YtlngbigddbklpaaW.PrintMore Go.Proofs.Ytlngbigddbklpaa.CrcN

theorem half_step (x : Nat) (hx : x < 4294967296) : Go.bits .xor .u32 ((x : Int) / 2) (Go.bits .and .u32 3988292384 ((-(Go.bits .and .u32 (x : Int) 1)) % 4294967296)) = ((half x : Nat) : Int) := by
  have e1 : Go.bits .and .u32 (x : Int) 1 = ((x % 2 : Nat) : Int) := by
    have := u32_and_nat x 1 hx (by omega)
    rw [show ((1 : Nat) : Int) = 1 from rfl] at this
    rw [this, Nat.and_one_is_mod]
  have e2 : (x : Int) / 2 = ((x / 2 : Nat) : Int) := by omega
  rw [e1, e2]
  unfold half
  rcases Nat.mod_two_eq_zero_or_one x with h | h
  · rw [h, if_neg (by omega)]
    have e3 : Go.bits .and .u32 3988292384 ((-((0 : Nat) : Int)) % 4294967296) = ((0 : Nat) : Int) := by
      have := u32_and_nat 3988292384 0 (by omega) (by omega)
      simpa using this
    rw [e3, u32_xor_nat _ _ (by omega) (by omega), Nat.xor_zero]
  · rw [h, if_pos rfl]
    have e3 : Go.bits .and .u32 3988292384 ((-((1 : Nat) : Int)) % 4294967296) = ((poly : Nat) : Int) := by
      have := u32_and_nat 3988292384 4294967295 (by omega) (by omega)
      have e4 : (-((1 : Nat) : Int)) % 4294967296 = ((4294967295 : Nat) : Int) := by decide
      rw [e4]
      rw [show (3988292384 : Int) = ((3988292384 : Nat) : Int) from rfl, this]
      decide
    rw [e3, u32_xor_nat _ _ (by omega) (by decide)]
theorem next_loop (d : Nat) : ∀ (k x i : Nat), i + d = 8 → d < k → x < 4294967296 → crc_next.l0 k (x : Int) (i : Int) = some ((hn d x : Nat) : Int) := by
  induction d with
  | zero =>
    intro k x i hi hk hx
    obtain ⟨k, rfl⟩ : ∃ m, k = m + 1 := ⟨k - 1, by omega⟩
    simp only [crc_next.l0]
    rw [if_neg (by omega)]; rfl
  | succ d ih =>
    intro k x i hi hk hx
    obtain ⟨k, rfl⟩ : ∃ m, k = m + 1 := ⟨k - 1, by omega⟩
    simp only [crc_next.l0]
    rw [if_pos (by omega), half_step x hx]
    have e : wrap64 ((i : Int) + 1) = ((i + 1 : Nat) : Int) := by rw [wrap64_id (by omega) (by omega)]; omega
    rw [e, ih k (half x) (i + 1) (by omega) (by omega) (half_lt hx)]
    rfl
theorem next_f {c b k : Nat} (hc : c < 4294967296) (hb : b < 256) (hk : 9 ≤ k) : crc_next.f k (c : Int) (b : Int) = some ((next c b : Nat) : Int) := by
  unfold crc_next.f
  rw [show ((b : Int) % 4294967296) = (b : Int) by omega, u32_xor_nat _ _ hc (by omega)]
  exact next_loop 8 k _ 0 (by omega) (by omega) (Nat.xor_lt_two_pow (n := 32) hc (by omega))
theorem byt_take {l : List Nat} (h : Byt l) (n : Nat) : Byt (l.take n) := fun b hb => h b (List.mem_of_mem_take hb)
theorem byt_bl (s : ByteArray) : Byt (bl s) := bl_lt s
theorem fold_f (s : ByteArray) {k : Nat} (hk : 9 ≤ k) : ∀ n, n ≤ s.size → crc_Sum.fold k s n = some ((CrcN.fold F ((bl s).take n) : Nat) : Int)
  | 0, _ => by simp [crc_Sum.fold, CrcN.fold, F]
  | n + 1, h => by
    simp only [crc_Sum.fold]
    rw [fold_f s hk n (by omega)]
    obtain ⟨c, hc, hbt, hc256⟩ := bt_bl s n (by omega)
    rw [Option.bind_some, hbt, next_f (fold_lt _ (by decide) (byt_take (byt_bl s) n)) hc256 hk, List.take_add_one, hc]
    simp only [Option.toList]
    rw [CrcN.fold_append]
    rfl
theorem Sum_f {s : ByteArray} (h : s.size ≤ 9223372036854775807) {k : Nat} (hk : 9 ≤ k) : crc_Sum.f k s = some ((sum (bl s) : Nat) : Int) := by
  unfold crc_Sum.f
  rw [if_pos h, fold_f s hk _ (Nat.le_refl _), Option.bind_some]
  have e : (bl s).take s.size = bl s := List.take_of_length_le (by rw [bl_length]; omega)
  rw [e]
  have hl := fold_lt (bl s) (show F < 2 ^ 32 by decide) (byt_bl s)
  have := u32_xor_nat 4294967295 _ (by omega) hl
  rw [show ((4294967295 : Nat) : Int) = 4294967295 from rfl] at this
  rw [this]
  unfold sum
  rw [Nat.xor_comm]; rfl
theorem Check_f {s : ByteArray} (h : s.size ≤ 9223372036854775807) (x : Int) {k : Nat} (hk : 9 ≤ k) : crc_Check.f k s x = some (decide (((sum (bl s) : Nat) : Int) = x)) := by
  unfold crc_Check.f
  rw [Sum_f h hk]; rfl
theorem next_zero (c : Nat) : next c 0 = hn 8 c := by unfold next; rw [Nat.xor_zero]
theorem join_loop (m : Nat) (hm : m ≤ 4096) (b : Nat) (hb : b < 4294967296) (d : Nat) : ∀ (k x i : Nat), i + d = m → d + 9 < k → x < 4294967296 →
    crc_Join.l0 k (x : Int) (b : Int) (m : Int) (i : Int) = some ((join x b d : Nat) : Int) := by
  induction d with
  | zero =>
    intro k x i hi hk hx
    obtain ⟨k, rfl⟩ : ∃ m, k = m + 1 := ⟨k - 1, by omega⟩
    simp only [crc_Join.l0]
    rw [if_neg (by omega), u32_xor_nat _ _ hx hb]; rfl
  | succ d ih =>
    intro k x i hi hk hx
    obtain ⟨k, rfl⟩ : ∃ m, k = m + 1 := ⟨k - 1, by omega⟩
    simp only [crc_Join.l0]
    have h0 := next_f (c := x) (b := 0) (k := k) hx (by omega) (by omega)
    rw [show ((0 : Nat) : Int) = 0 from rfl] at h0
    rw [if_pos (by omega), h0, Option.bind_some, next_zero]
    have e : wrap64 ((i : Int) + 1) = ((i + 1 : Nat) : Int) := by rw [wrap64_id (by omega) (by omega)]; omega
    rw [e, ih k (hn 8 x) (i + 1) (by omega) (by omega) (hn_lt 8 hx)]
    unfold join
    rw [← hn_add, show 8 + 8 * d = 8 * (d + 1) by omega]
/-- What package crc answers to a join. -/
def jn (a b : Nat) (n : Int) : Nat := if n < 1 then a else join a b (min n.toNat 4096)
theorem Join_f {a b : Nat} (n : Int) (ha : a < 4294967296) (hb : b < 4294967296) {k : Nat} (hk : 4107 ≤ k) : crc_Join.f k (a : Int) (b : Int) n = some ((jn a b n : Nat) : Int) := by
  unfold crc_Join.f jn
  by_cases h : n < 1
  · rw [if_pos h, if_pos h]
  · rw [if_neg h, if_neg h]
    have e : mn n 4096 = ((min n.toNat 4096 : Nat) : Int) := by unfold mn; split <;> omega
    rw [e]
    exact join_loop _ (by omega) b hb _ k a 0 (by omega) (by omega) ha
theorem join_lt {a b n : Nat} (ha : a < 4294967296) (hb : b < 4294967296) : join a b n < 4294967296 := Nat.xor_lt_two_pow (n := 32) (hn_lt _ ha) hb
theorem jn_lt {a b : Nat} {n : Int} (ha : a < 4294967296) (hb : b < 4294967296) : jn a b n < 4294967296 := by
  unfold jn; split
  · exact ha
  · exact join_lt ha hb
theorem sum_bl_lt (s : ByteArray) : sum (bl s) < 4294967296 := sum_lt (byt_bl s)
end Go.Proofs.Ytlngbigddbklpaa.Pure
