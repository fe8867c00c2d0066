/- The text of a vector: each number's digits, commas between. -/
import Derived.Test.YtakhahfegialfaaDoorBytes
import Derived.Test.YtakhahfegialfaaDoorPlain
import Derived.Test.YtakhahfegialfaaDoorQxf30
import Derived.Test.YtakhahfegialfaaDoorQxf41
set_option linter.unusedVariables false
set_option linter.unusedSimpArgs false
namespace Go.Proofs.YtakhahfegialfaaDoor.Pure
open Go.RowKit Go.Proofs.YtakhahfegialfaaDoor.Q Go.Proofs.YtakhahfegialfaaDoorW.PrintWords Go.Proofs.YtakhahfegialfaaDoorW.PrintLast Go.Proofs.YtakhahfegialfaaDoorW.PrintMore Go.Proofs.YtakhahfegialfaaDoor.Plain

/-- A number's digits. -/
def dl (n : Nat) : List Nat := (Lib.decDigits n).map UInt8.toNat
theorem dl_small {n : Nat} (h : n < 10) : dl n = [48 + n] := by
  unfold dl
  rw [Lib.decDigits, dif_pos h]
  simp
  omega
theorem dl_big {n : Nat} (h : ¬ n < 10) : dl n = dl (n / 10) ++ [48 + n % 10] := by
  unfold dl
  rw [Lib.decDigits, dif_neg h]
  simp
  omega
theorem bl_num {n : Nat} (h : n < 18446744073709551616) : bl (vec_Text.num n) = dl n := by
  rw [vec_Text.num_eq h]
  rfl
theorem dl_range (n : Nat) : ∀ b ∈ dl n, 48 ≤ b ∧ b ≤ 57 := by
  induction n using Nat.strongRecOn with
  | ind n ih =>
    intro b hb
    by_cases c : n < 10
    · rw [dl_small c] at hb
      simp at hb
      omega
    · rw [dl_big c] at hb
      rcases List.mem_append.1 hb with h | h
      · exact ih (n / 10) (by omega) b h
      · simp at h; omega
theorem dl_ne (n : Nat) : dl n ≠ [] := by
  by_cases c : n < 10
  · rw [dl_small c]; simp
  · rw [dl_big c]; simp
theorem dl_inj : ∀ n m : Nat, dl n = dl m → n = m := by
  intro n
  induction n using Nat.strongRecOn with
  | ind n ih =>
    intro m h
    by_cases c : n < 10
    · by_cases d : m < 10
      · rw [dl_small c, dl_small d] at h
        simp at h
        exact h
      · exfalso
        rw [dl_small c, dl_big d] at h
        have h := congrArg List.length h
        have := List.length_pos_iff.2 (dl_ne (m / 10))
        simp at h
        exact dl_ne _ h
    · by_cases d : m < 10
      · exfalso
        rw [dl_big c, dl_small d] at h
        have h := congrArg List.length h
        simp at h
        exact dl_ne _ h
      · rw [dl_big c, dl_big d] at h
        obtain ⟨h1, h2⟩ := List.append_inj' h rfl
        have := ih (n / 10) (by omega) (m / 10) h1
        simp at h2
        omega
theorem comma {l r l' r' : List Nat} (h : l ++ 44 :: r = l' ++ 44 :: r') (hl : ∀ b ∈ l, 48 ≤ b ∧ b ≤ 57) (hl' : ∀ b ∈ l', 48 ≤ b ∧ b ≤ 57) : l = l' ∧ r = r' := by
  induction l generalizing l' with
  | nil =>
    cases l' with
    | nil => simp at h; exact ⟨rfl, h⟩
    | cons y t =>
      simp at h
      have := hl' y (by simp)
      omega
  | cons x s ih =>
    cases l' with
    | nil =>
      simp at h
      have := hl x (by simp)
      omega
    | cons y t =>
      simp only [List.cons_append, List.cons.injEq] at h
      obtain ⟨rfl, h⟩ := h
      obtain ⟨rfl, e⟩ := ih h (fun b hb => hl b (by simp [hb])) (fun b hb => hl' b (by simp [hb]))
      exact ⟨rfl, e⟩
theorem bl_txt {a b c d : Nat} (ha : a < 18446744073709551616) (hb : b < 18446744073709551616) (hc : c < 18446744073709551616) (hd : d < 18446744073709551616) :
    bl (vec_Text.txt a b c d) = dl a ++ 44 :: (dl b ++ 44 :: (dl c ++ 44 :: dl d)) := by
  have hcom : bl vec_Text.com = [44] := rfl
  unfold vec_Text.txt
  simp only [bl_append, bl_num ha, bl_num hb, bl_num hc, bl_num hd, hcom]
  simp
theorem txt_inj {a b c d x y z u : Nat} (ha : a < 18446744073709551616) (hb : b < 18446744073709551616) (hc : c < 18446744073709551616) (hd : d < 18446744073709551616)
    (hx : x < 18446744073709551616) (hy : y < 18446744073709551616) (hz : z < 18446744073709551616) (hu : u < 18446744073709551616) (h : vec_Text.txt a b c d = vec_Text.txt x y z u) : a = x ∧ b = y ∧ c = z ∧ d = u := by
  have h := congrArg bl h
  rw [bl_txt ha hb hc hd, bl_txt hx hy hz hu] at h
  obtain ⟨h0, h⟩ := comma h (dl_range _) (dl_range _)
  obtain ⟨h1, h⟩ := comma h (dl_range _) (dl_range _)
  obtain ⟨h2, h⟩ := comma h (dl_range _) (dl_range _)
  exact ⟨dl_inj _ _ h0, dl_inj _ _ h1, dl_inj _ _ h2, dl_inj _ _ h⟩
theorem g_f {a b c d : Nat} (ha : a < 18446744073709551616) (hb : b < 18446744073709551616) (hc : c < 18446744073709551616) (hd : d < 18446744073709551616) :
    BigText.g a b c d = some (vec_Text.txt a b c d) := by
  unfold BigText.g
  rw [if_pos ⟨by omega, by omega, by omega, by omega⟩]
  simp only [Int.toNat_natCast]
end Go.Proofs.YtakhahfegialfaaDoor.Pure
