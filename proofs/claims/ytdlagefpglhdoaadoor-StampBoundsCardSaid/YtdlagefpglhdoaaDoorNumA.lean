/- Numbers of a fixed size: what package pack answers. -/
import Derived.Test.YtdlagefpglhdoaaDoorVaryA
import Derived.Test.YtdlagefpglhdoaaDoorQxf55
import Derived.Test.YtdlagefpglhdoaaDoorQxf35
import Derived.Laws.BitsAllLaws
set_option linter.unusedVariables false
set_option linter.unusedSimpArgs false
namespace Go.Proofs.YtdlagefpglhdoaaDoor.Pure
open Go.RowKit Go.Proofs.YtdlagefpglhdoaaDoor.Q Go.Proofs.YtdlagefpglhdoaaDoorW.PrintWords Go.Proofs.YtdlagefpglhdoaaDoorW.PrintLast Go.Proofs.YtdlagefpglhdoaaDoorW.PrintMore Go.Proofs.YtdlagefpglhdoaaDoor.Plain

/-! ### numbers of a fixed size -/
def nb (n k : Nat) : ByteArray := strOfNums (NL (be k n))
theorem bl_nb (n k : Nat) : bl (nb n k) = be k n := bl_str _ (be_lt k n)
theorem nb_size (n k : Nat) : (nb n k).size = k := by rw [← bl_length, bl_nb, be_len]
theorem numL_be (n k : Nat) : numL (n : Int) k = NL (be k n) := by
  unfold numL NL
  have h : be k n = (List.range k).map fun j => n / 256 ^ (k - 1 - j) % 256 := by
    induction k with
    | zero => rfl
    | succ k ih =>
      rw [List.range_succ_eq_map, List.map_cons, List.map_map]
      simp only [be]
      congr 1
      rw [ih]
      apply List.map_congr_left
      intro j hj
      have := List.mem_range.1 hj
      simp only [Function.comp]
      rw [show k - 1 - j = k + 1 - 1 - (j + 1) by omega]
  rw [h, List.map_map]
  apply List.map_congr_left
  intro j hj
  simp only [Function.comp, Nat.pow_mul, Int.natCast_emod, Int.natCast_ediv]
  rfl
theorem Number_f (n : Nat) (k : Int) (h1 : 1 ≤ k) (h8 : k ≤ 8) : pack_Number.f (n : Int) k = some (nb n k.toNat) := by
  unfold pack_Number.f
  rw [if_neg (by omega), if_neg (by omega), numL_be]; rfl
theorem Number_none (x : Int) (k : Int) (h : k < 1 ∨ 8 < k) : pack_Number.f x k = some ⟨#[]⟩ := by
  unfold pack_Number.f
  by_cases h1 : k < 1
  · rw [if_pos h1]
  · rw [if_neg h1, if_pos (by omega)]
theorem rnum_bev (s : ByteArray) (k : Nat) (hk : k ≤ 8) (hs : k ≤ s.size) : rnum s k = ((bev ((bl s).take k) : Nat) : Int) := by
  induction k with
  | zero => rfl
  | succ k ih =>
    have ih := ih (by omega) (by omega)
    obtain ⟨c, hc, hbt, hc256⟩ := bt_bl s k (by omega)
    have hlt := bev_lt ((bl s).take k) (fun b hb => bl_lt s b (List.mem_of_mem_take hb))
    have hll : ((bl s).take k).length = k := by rw [List.length_take, bl_length]; omega
    rw [hll] at hlt
    have hp : 256 ^ k ≤ 256 ^ 7 := Nat.pow_le_pow_right (by omega) (by omega)
    simp only [rnum]
    rw [ih, hbt, List.take_add_one, hc]
    simp only [Option.toList]
    rw [bev_snoc]
    generalize bev ((bl s).take k) = v at *
    rw [wrap_u64 (by omega) (by omega), wrap_u64 (by omega) (by omega)]
    have e : (v : Int) * 256 = ((2 ^ 8 * v : Nat) : Int) := by omega
    rw [e, u64_or_nat _ _ (by omega) (by omega)]
    rw [Nat.mul_comm v 256]
    congr 1
    exact (Nat.two_pow_add_eq_or_of_lt (i := 8) (by omega) v).symm
/-- What a reader answers that is asked for a number of so many bytes. -/
theorem ReaderNumber_good {s : ByteArray} {k : Int} (h1 : 1 ≤ k) (h8 : k ≤ 8) (hs : k ≤ (s.size : Int)) (hz : s.size ≤ 9223372036854775807) :
    pack_Reader_Number.f s false k = some (((bev ((bl s).take k.toNat) : Nat) : Int), s.extract k.toNat s.size, false) := by
  unfold pack_Reader_Number.f
  rw [if_pos hz, if_neg (by simp), if_neg (show ¬ k < 1 by omega), if_neg (show ¬ 8 < k by omega), if_neg (show ¬ (s.size : Int) < k by omega), rnum_bev s k.toNat (by omega) (by omega)]
theorem ReaderNumber_bad {s : ByteArray} {b : Bool} {k : Int} (h : b = true ∨ k < 1 ∨ 8 < k ∨ (s.size : Int) < k) (hz : s.size ≤ 9223372036854775807) :
    pack_Reader_Number.f s b k = some (0, ⟨#[]⟩, true) := by
  unfold pack_Reader_Number.f
  rw [if_pos hz]
  cases b with
  | true => rw [if_pos rfl]
  | false =>
    rw [if_neg (by simp)]
    by_cases c1 : k < 1
    · rw [if_pos c1]
    · rw [if_neg c1]
      by_cases c2 : 8 < k
      · rw [if_pos c2]
      · rw [if_neg c2, if_pos (show (s.size : Int) < k by simp at h; omega)]
end Go.Proofs.YtdlagefpglhdoaaDoor.Pure
