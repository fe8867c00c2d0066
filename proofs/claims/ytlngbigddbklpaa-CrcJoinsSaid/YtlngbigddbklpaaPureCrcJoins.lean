/- The sum of two texts one behind the other is the join of theirs; so of three, in whatever order they are joined: for every three texts. -/
import Derived.Test.YtlngbigddbklpaaCrcA
import Derived.Test.YtlngbigddbklpaaQx10
import Derived.Test.YtlngbigddbklpaaQx5
set_option linter.unusedVariables false
namespace Go.Proofs.Ytlngbigddbklpaa.Pure
open Go.RowKit Go.Proofs.Ytlngbigddbklpaa.Q Go.Proofs.YtlngbigddbklpaaW.PrintWords Go.Proofs.YtlngbigddbklpaaW.PrintLast Go.Proofs.YtlngbigddbklpaaW.PrintMore Go.Proofs.Ytlngbigddbklpaa.CrcN

theorem joins_examples : tenementlaw01_examples.f 40 = some true := by decide +kernel
theorem jn_of {a : Nat} {s : ByteArray} (h : s.size ≤ 4096) : jn a (sum (bl s)) (s.size : Int) = join a (sum (bl s)) s.size := by
  unfold jn
  by_cases h0 : s.size = 0
  · rw [if_pos (by omega), h0]
    have : bl s = [] := List.eq_nil_of_length_eq_zero (by rw [bl_length]; exact h0)
    rw [this, sum_nil, join_zero, Nat.xor_zero]
  · rw [if_neg (by omega), show min ((s.size : Int)).toNat 4096 = s.size by omega]
theorem CrcJoins : tenementlaw01_CrcJoins.Pure := by
  intro a b c ha hb hc
  refine ⟨4200, ?_⟩
  unfold tenementlaw01_CrcJoins.f
  rw [at_rounds tenementlaw01_examples.mono (show 40 ≤ 4200 by omega) joins_examples]
  simp only [Option.bind_some, if_true]
  have la := sum_bl_lt a
  have lb := sum_bl_lt b
  have lc := sum_bl_lt c
  have hw : wrap64 ((b.size : Int) + (c.size : Int)) = (b.size : Int) + (c.size : Int) := wrap64_id (by omega) (by omega)
  rw [Sum_f (s := a) (by omega) (by omega), Option.bind_some, Sum_f (s := b) (by omega) (by omega), Option.bind_some, Sum_f (s := c) (by omega) (by omega), Option.bind_some]
  rw [Join_f _ la lb (by omega), Option.bind_some, Join_f _ (jn_lt la lb) lc (by omega), Option.bind_some, Join_f _ lb lc (by omega), Option.bind_some, Join_f _ la (jn_lt lb lc) (by omega), Option.bind_some, hw]
  clear hw
  by_cases hl : (b.size : Int) + (c.size : Int) > 4096
  · rw [if_pos hl]
  · rw [if_neg hl, if_pos (by omega)]
    have sb : b.size ≤ 4096 := by omega
    have sc : c.size ≤ 4096 := by omega
    have e1 : sum (bl (a ++ b)) = join (sum (bl a)) (sum (bl b)) b.size := by rw [bl_append, sum_append, bl_length]
    have e2 : sum (bl (a ++ b ++ c)) = join (join (sum (bl a)) (sum (bl b)) b.size) (sum (bl c)) c.size := by rw [bl_append, sum_append, bl_length, e1]
    rw [Sum_f (s := a ++ b) (by rw [ByteArray.size_append]; omega) (by omega), Option.bind_some, Option.bind_some, jn_of sb, jn_of sc, e1, if_pos rfl, if_pos (by rw [ByteArray.size_append]; omega)]
    rw [Sum_f (s := a ++ b ++ c) (by rw [ByteArray.size_append, ByteArray.size_append]; omega) (by omega), Option.bind_some, e2, if_pos rfl, if_pos]
    rw [join_join, jn_of sc]
    congr 1
    unfold jn
    by_cases h0 : b.size + c.size = 0
    · rw [if_pos (by omega), h0]
      have h1 : bl b = [] := List.eq_nil_of_length_eq_zero (by rw [bl_length]; omega)
      have h2 : bl c = [] := List.eq_nil_of_length_eq_zero (by rw [bl_length]; omega)
      rw [h1, h2, sum_nil, show c.size = 0 by omega]
      simp [join, hn]
    · rw [if_neg (by omega), show min ((b.size : Int) + (c.size : Int)).toNat 4096 = b.size + c.size by omega]
end Go.Proofs.Ytlngbigddbklpaa.Pure
