-- Written by this session's own driver (wip/hybrid.py) of the kit's printer; contracts marked FOREIGN are by hand.
import Derived.Test.YtdlagefpglhdoaaDoorQx0
import Derived.Test.YtdlagefpglhdoaaDoorQxf68
import Derived.Test.YtdlagefpglhdoaaDoorQxf52
import Derived.Test.YtdlagefpglhdoaaDoorShelf
namespace Go.Proofs.YtdlagefpglhdoaaDoor.Q
open Go.RowKit Go.Proofs.YtdlagefpglhdoaaDoorW.PrintWords Go.Proofs.YtdlagefpglhdoaaDoorW.PrintLast Go.Proofs.YtdlagefpglhdoaaDoorW.PrintMore
attribute [local go_sem] max2_int min2_int max_two min_two max_three min_three max_four min_four   -- for this text's walks alone
set_option linter.unusedVariables false
set_option linter.unusedSimpArgs false

/-! ### strconv_Itoa_51: function 51 -/
-- FOREIGN: the library's decimal numerals
def strconv_Itoa_51.f (a0 : Int) : Option ByteArray := if 0 ≤ a0 ∧ a0 < 100 then some (vec_Text.num a0.toNat) else none
theorem strconv_Itoa_51.calls (a0 : Int) (r : ByteArray) (w : World) (h : strconv_Itoa_51.f a0 = some r) :
    Calls Tryd.prog 51 #[.int .i64 a0] w fun e w' => e = .returned (.string r) ∧ Below w.heap.size w w' := by
  unfold strconv_Itoa_51.f at h
  by_cases c : 0 ≤ a0 ∧ a0 < 100
  · rw [if_pos c] at h
    obtain rfl := Option.some.inj h
    obtain ⟨i, rfl⟩ := Int.eq_ofNat_of_zero_le c.1
    refine (Tryd.strconv_Itoa_small i (by omega) w).mono ?_
    rintro e w' ⟨rfl, rfl⟩
    refine ⟨?_, Below.refl _ _⟩
    rw [Int.toNat_natCast, vec_Text.num_eq (by omega)]
  · rw [if_neg c] at h
    exact absurd h (by simp)
def BigItoa.int (x : Int) : ByteArray := if x < 0 then ⟨#[45]⟩ ++ vec_Text.num x.natAbs else vec_Text.num x.toNat
def BigItoa.g (a0 : Int) : Option ByteArray := if -9223372036854775808 ≤ a0 ∧ a0 ≤ 9223372036854775807 then some (BigItoa.int a0) else none
theorem BigItoa.int_eq (x : Int) (h0 : -9223372036854775808 ≤ x) (h1 : x ≤ 9223372036854775807) : (⟨(Lib.itoa x).toArray⟩ : ByteArray) = BigItoa.int x := by
  unfold Lib.itoa BigItoa.int
  by_cases c : x < 0
  · rw [if_pos c, if_pos c, vec_Text.num_eq (by omega)]
    apply ByteArray.ext
    apply Array.toList_inj.1
    simp [ByteArray.data_append]
  · rw [if_neg c, if_neg c, vec_Text.num_eq (by omega)]
theorem BigItoa.callsT (w0 : World) (HT : BigText.Tab w0) (w : World) (hb : Below w0.heap.size w0 w) (a0 : Int) (r : ByteArray) (h : BigItoa.g a0 = some r) :
    Calls Tryd.prog 51 #[.int .i64 a0] w fun e w' => e = .returned (.string r) ∧ Below w.heap.size w w' := by
  unfold BigItoa.g at h
  by_cases c : -9223372036854775808 ≤ a0 ∧ a0 ≤ 9223372036854775807
  · rw [if_pos c] at h
    obtain rfl := Option.some.inj h
    refine (Tryd.strconv_Itoa a0 c.1 c.2 w (HT.below hb)).mono ?_
    rintro e w' ⟨rfl, k, os, rfl⟩
    refine ⟨?_, Lib.below_grow w.heap.size w (Nat.le_refl _) k os⟩
    rw [BigItoa.int_eq a0 c.1 c.2]
  · rw [if_neg c] at h
    exact absurd h (by simp)


end Go.Proofs.YtdlagefpglhdoaaDoor.Q
