/- What the reader's Vary of the document's answer to chapter 2 answers. -/
import Derived.Test.YtakhahfegialfaaDoorVaryR
import Derived.Test.YtakhahfegialfaaDoorQxf45
set_option linter.unusedVariables false
set_option linter.unusedSimpArgs false
namespace Go.Proofs.YtakhahfegialfaaDoor.Pure
open Go.RowKit Go.Proofs.YtakhahfegialfaaDoor.Q Go.Proofs.YtakhahfegialfaaDoorW.PrintWords Go.Proofs.YtakhahfegialfaaDoorW.PrintLast Go.Proofs.YtakhahfegialfaaDoorW.PrintMore Go.Proofs.YtakhahfegialfaaDoor.Plain

theorem rvaryR_loop (s : ByteArray) (hz : s.size ≤ 9223372036854775807) (d : Nat) : ∀ (k i : Nat) (x : Int), i + d = min s.size 10 → 0 ≤ x → x < 18446744073709551616 → 2 * d + 14 ≤ k →
    (∀ j, j < i → ∃ c, (bl s)[j]? = some c ∧ 128 ≤ c) →
    (∀ n, n < 18446744073709551616 → ∀ r, bl s = vary n ++ r → i < (vary n).length ∧ x = ((n % 128 ^ i : Nat) : Int)) →
    ∃ r, tenementref02_Reader_Vary.l0 k x (i : Int) s false = some r ∧ VaryRes s r := by
  induction d with
  | zero =>
    intro k i x hi h0 h1 hk hall hn
    obtain ⟨k, rfl⟩ : ∃ m, k = m + 2 := ⟨k - 2, by omega⟩
    refine ⟨(0, ⟨#[]⟩, true), ?_, .bad fun n hn' r hs => ?_⟩
    · simp only [tenementref02_Reader_Vary.l0]
      by_cases c : (i : Int) < (s.size : Int)
      · rw [if_pos c, if_neg (by omega)]
        simp only [tenementref02_Reader_Vary.j1]
        rw [if_neg (by simp)]
      · rw [if_neg c]
        simp only [tenementref02_Reader_Vary.j1]
        rw [if_neg (by simp)]
    · have h2 := (hn n hn' r hs).1
      have h3 := vary_len_ten hn'
      have h4 : (vary n).length ≤ s.size := by rw [← bl_length, hs]; simp
      omega
  | succ d ih =>
    intro k i x hi h0 h1 hk hall hn
    obtain ⟨k, rfl⟩ : ∃ m, k = m + 2 := ⟨k - 2, by omega⟩
    have hlt : i < s.size := by omega
    have hi10 : i < 10 := by omega
    obtain ⟨c, hc, hbt, hc256⟩ := bt_bl s i hlt
    have hm : Int.tmod (c : Int) 128 = ((c % 128 : Nat) : Int) := by rw [Int.tmod_eq_emod_of_nonneg (by omega)]; omega
    simp only [tenementref02_Reader_Vary.l0]
    rw [if_pos (Int.ofNat_lt.2 hlt), if_pos (show (i : Int) < 10 by omega)]
    simp only [tenementref02_Reader_Vary.j1]
    rw [if_pos (show (!false) = true from rfl), if_pos (Int.natCast_nonneg i), if_pos (Int.ofNat_lt.2 hlt), hbt, wrap_seven hi10, if_pos (Int.mul_nonneg (by decide) (Int.natCast_nonneg i)), wrap_succ hi10, hm]
    clear hbt hm
    obtain ⟨G, hG⟩ : ∃ G, G = Go.bits .or .u64 x (shl .u64 (IntKind.u64.wrap ((c % 128 : Nat) : Int)) (7 * (i : Int))) := ⟨_, rfl⟩
    have hGr : 0 ≤ G ∧ G < 18446744073709551616 := by
      rw [hG]
      exact u64_or_range x _ h0 h1 (shl_range _ _).1 (shl_range _ _).2
    have hnext : ∀ n, n < 18446744073709551616 → ∀ r, bl s = vary n ++ r → c % 128 = n / 128 ^ i % 128 ∧ (128 ≤ c ↔ i + 1 < (vary n).length) ∧ G = ((n % 128 ^ (i + 1) : Nat) : Int) := by
      intro n hn' r hs
      obtain ⟨g1, g2⟩ := hn n hn' r hs
      have e : (bl s)[i]? = (vary n)[i]? := by rw [hs, List.getElem?_append_left g1]
      rw [hc, vary_get i n g1] at e
      have e := Option.some.inj e
      have e2 : c % 128 = n / 128 ^ i % 128 := by clear hG; rw [e]; split <;> omega
      refine ⟨e2, ?_, ?_⟩
      · clear hG; rw [e]; split <;> omega
      · rw [hG, e2, g2]; exact acc_or n i hn' g1
    rw [← hG]
    clear hG
    by_cases h128 : 128 ≤ c
    · rw [if_neg (show ¬ ((c : Nat) : Int) < 128 by omega)]
      refine ih k (i + 1) _ (by omega) hGr.1 hGr.2 (by omega) ?_ ?_
      · intro j hj
        by_cases hji : j < i
        · exact hall j hji
        · obtain rfl : j = i := by omega
          exact ⟨c, hc, h128⟩
      · intro n hn' r hs
        obtain ⟨_, g2, g3⟩ := hnext n hn' r hs
        exact ⟨g2.1 h128, g3⟩
    · rw [if_pos (show ((c : Nat) : Int) < 128 by omega)]
      obtain ⟨m, rfl⟩ := Int.eq_ofNat_of_zero_le hGr.1
      rw [RVary_f (by omega) (by omega)]
      simp only [Option.bind_some]
      rw [if_pos (show (0 : Int) ≤ ((i + 1 : Nat) : Int) by omega), if_pos (show ((i + 1 : Nat) : Int) ≤ (s.size : Int) by omega)]
      rw [show (((i + 1 : Nat) : Int)).toNat = i + 1 by omega]
      by_cases he : (vs m).toList = (s.extract 0 (i + 1)).toList
      · rw [if_pos he]
        refine ⟨_, rfl, .good m _ (by omega) ?_⟩
        have e1 : bl (s.extract 0 (i + 1)) = vary m := by rw [← toList_iff.1 he, bl_vs]
        rw [bl_extract, List.drop_zero] at e1
        rw [← e1, bl_drop, List.take_append_drop]
      · rw [if_neg he]
        refine ⟨_, rfl, .bad fun n hn' r hs => he ?_⟩
        obtain ⟨g1, g2, g3⟩ := hnext n hn' r hs
        have g4 := (hn n hn' r hs).1
        have hl : (vary n).length = i + 1 := by omega
        have hnm : n % 128 ^ (i + 1) = n := Nat.mod_eq_of_lt (by
          rcases Nat.lt_or_ge n (128 ^ (i + 1)) with h | h
          · exact h
          · have := vary_len_gt (i + 1) n h; omega)
        rw [hnm] at g3
        have : m = n := by omega
        subst this
        rw [toList_iff]
        apply bl_inj
        rw [bl_vs, bl_extract, List.drop_zero, hs, ← hl, List.take_left]
theorem RReaderVary_f (s : ByteArray) (b : Bool) (hz : s.size ≤ 9223372036854775807) {k : Nat} (hk : 34 ≤ k) :
    ∃ r, tenementref02_Reader_Vary.f k s b = some r ∧ (b = false → VaryRes s r) ∧ (b = true → r = (0, ⟨#[]⟩, true)) := by
  unfold tenementref02_Reader_Vary.f
  cases b with
  | true =>
    refine ⟨_, ?_, (fun h => by cases h), (fun _ => rfl)⟩
    obtain ⟨k, rfl⟩ : ∃ m, k = m + 2 := ⟨k - 2, by omega⟩
    unfold tenementref02_Reader_Vary.l0
    split
    · split
      · unfold tenementref02_Reader_Vary.j1; exact if_neg (by simp)
      · unfold tenementref02_Reader_Vary.j1; exact if_neg (by simp)
    · unfold tenementref02_Reader_Vary.j1; exact if_neg (by simp)
  | false =>
    obtain ⟨r, h1, h2⟩ := rvaryR_loop s hz (min s.size 10) k 0 0 (by omega) (by omega) (by omega) (by omega) (fun j hj => by omega) (fun n _ r _ => ⟨vary_pos n, by simp [Nat.mod_one]⟩)
    exact ⟨r, h1, (fun _ => h2), (fun h => by cases h)⟩
theorem vary_same {s : ByteArray} {b : Bool} (hz : s.size ≤ 9223372036854775807) {k : Nat} (hk : 34 ≤ k) :
    ∃ r, pack_Reader_Vary.f k s b = some r ∧ tenementref02_Reader_Vary.f k s b = some r ∧ r.2.1.size ≤ s.size ∧ (b = true → r = (0, ⟨#[]⟩, true)) ∧ (b = false → VaryRes s r) := by
  obtain ⟨r, h1, h2, h3⟩ := ReaderVary_f s b hz (show 22 ≤ k by omega)
  obtain ⟨q, g1, g2, g3⟩ := RReaderVary_f s b hz hk
  have e : q = r := by
    cases b with
    | true => rw [h3 rfl, g3 rfl]
    | false => exact VaryRes.unique (g2 rfl) (h2 rfl)
  subst e
  refine ⟨q, h1, g1, ?_, h3, h2⟩
  cases b with
  | true => rw [h3 rfl]; exact Nat.zero_le _
  | false =>
    cases h2 rfl with
    | good n rest hn hs => show rest.size ≤ s.size; rw [← bl_length, ← bl_length, hs]; simp
    | bad h => exact Nat.zero_le _
end Go.Proofs.YtakhahfegialfaaDoor.Pure
