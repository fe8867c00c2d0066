import Derived.Test.YtplgbkobpanbfaaGGateReads5
import Derived.Test.YtplgbkobpanbfaaGGateReads4
import Derived.Test.YtplgbkobpanbfaaGGateReads3
/- What the readers of the document's answer to chapter 2 answer. -/
set_option linter.unusedVariables false
set_option linter.unusedSimpArgs false
namespace Go.Proofs.Ytplgbkobpanbfaa.Pure
open Go.RowKit Go.Proofs.Ytplgbkobpanbfaa.Q Go.Proofs.YtplgbkobpanbfaaW.PrintWords Go.Proofs.YtplgbkobpanbfaaW.PrintLast Go.Proofs.YtplgbkobpanbfaaW.PrintMore Go.Proofs.Ytplgbkobpanbfaa.Plain

/-! ### texts -/
theorem text_same {s : ByteArray} {b : Bool} {most : Int} (hz : s.size ≤ 9223372036854775807) (hm : (Lit.int .i64 most).wf = true) {k : Nat} (hk : 34 ≤ k) :
    ∃ r, pack_Reader_Text.f k s b most = some r ∧ tenementref02_Reader_Text.f k s b most = some r ∧ r.2.1.size ≤ s.size := by
  have hm : -9223372036854775808 ≤ most ∧ most ≤ 9223372036854775807 := by
    have h : IntKind.i64.min ≤ most ∧ most ≤ IntKind.i64.max := by simpa only [Lit.wf, Bool.and_eq_true, decide_eq_true_eq] using hm
    exact h
  obtain ⟨r, h1, h2, h3, _, hv⟩ := vary_same (s := s) (b := b) hz hk
  unfold pack_Reader_Text.f tenementref02_Reader_Text.f
  rw [h1, h2]
  simp only [Option.bind_some]
  have hn : 0 ≤ r.1 := by
    cases b with
    | true => obtain rfl := ‹(true = true → r = (0, ⟨#[]⟩, true))› rfl; exact Int.le_refl _
    | false =>
      cases hv rfl with
      | good n rest hn hs => exact Int.natCast_nonneg n
      | bad h => exact Int.le_refl _
  clear h1 h2 hv
  obtain ⟨n, t, bd⟩ := r
  simp only at h3 hn ⊢
  by_cases c0 : bd = true
  · rw [if_pos c0, if_pos c0]; exact ⟨_, rfl, rfl, Nat.zero_le _⟩
  · rw [if_neg c0, if_neg c0]
    by_cases c1 : most < 0
    · rw [if_pos c1, if_pos c1]; exact ⟨_, rfl, rfl, Nat.zero_le _⟩
    · rw [if_neg c1, if_neg c1]
      obtain ⟨m1, m2, m3⟩ := mn_cases most (t.size : Int)
      have hw : IntKind.u64.wrap (mn most (t.size : Int)) = mn most (t.size : Int) := wrap_u64 (by omega) (by omega)
      have hw2 : IntKind.u64.wrap most = most := wrap_u64 (by omega) (by omega)
      rw [hw, hw2]
      clear hw hw2
      generalize mn most (t.size : Int) = M at *
      by_cases c2 : n > M
      · rw [if_pos c2]
        refine ⟨_, rfl, ?_, Nat.zero_le _⟩
        by_cases c3 : n > most
        · rw [if_pos c3]
        · rw [if_neg c3, if_pos (by omega), if_pos (show n > (t.size : Int) by omega)]
      · rw [if_neg c2, if_pos hn, if_pos (show n ≤ (t.size : Int) by omega)]
        refine ⟨_, rfl, ?_, ?_⟩
        · rw [if_neg (show ¬ n > most by omega), if_pos (by omega), if_neg (show ¬ n > (t.size : Int) by omega)]
        · simp; omega
/-! ### numbers -/
theorem rnumR_loop (s : ByteArray) (b : Bool) (K : Int) (h8 : K ≤ 8) (hs : K ≤ (s.size : Int)) (hz : s.size ≤ 9223372036854775807) (d : Nat) : ∀ (k i : Nat), (i : Int) + d = K → d < k →
    tenementref02_Reader_Number.l0 k K ((bev ((bl s).take i) : Nat) : Int) (i : Int) s b = some (((bev ((bl s).take K.toNat) : Nat) : Int), s.extract K.toNat s.size, false) := by
  induction d with
  | zero =>
    intro k i hi hk
    obtain ⟨k, rfl⟩ : ∃ m, k = m + 1 := ⟨k - 1, by omega⟩
    simp only [tenementref02_Reader_Number.l0]
    rw [if_neg (by omega), if_pos (by omega), if_pos hs, show K.toNat = i by omega]
  | succ d ih =>
    intro k i hi hk
    obtain ⟨k, rfl⟩ : ∃ m, k = m + 1 := ⟨k - 1, by omega⟩
    have hlt : i < s.size := by omega
    have := rnum_bev s (i + 1) (by omega) (by omega)
    simp only [rnum] at this
    rw [rnum_bev s i (by omega) (by omega)] at this
    simp only [tenementref02_Reader_Number.l0]
    rw [if_pos (by omega), if_pos (Int.natCast_nonneg i), if_pos (Int.ofNat_lt.2 hlt), this, wrap_succ (by omega)]
    exact ih k (i + 1) (by omega) (by omega)
theorem number_same {s : ByteArray} {b : Bool} {K : Int} (hz : s.size ≤ 9223372036854775807) {k : Nat} (hk : 34 ≤ k) :
    ∃ r, pack_Reader_Number.f s b K = some r ∧ tenementref02_Reader_Number.f k s b K = some r ∧ r.2.1.size ≤ s.size := by
  have hbad : (b = true ∨ K < 1 ∨ 8 < K ∨ (s.size : Int) < K) → tenementref02_Reader_Number.f k s b K = some (0, ⟨#[]⟩, true) := by
    intro h
    obtain ⟨k, rfl⟩ : ∃ m, k = m + 1 := ⟨k - 1, by omega⟩
    unfold tenementref02_Reader_Number.f
    simp only [tenementref02_Reader_Number.j0]
    by_cases c0 : b = true
    · rw [if_pos c0, if_pos trivial]
    · rw [if_neg c0]
      by_cases c1 : K < 1
      · rw [if_pos c1, if_pos trivial]
      · rw [if_neg c1]
        by_cases c2 : K > 8
        · rw [if_pos c2, if_pos trivial]
        · rw [if_neg c2, if_pos (by rcases h with h | h | h | h; · exact absurd h c0
                                    · exact absurd h c1
                                    · exact absurd h c2
                                    · exact decide_eq_true h)]
  by_cases h : b = true ∨ K < 1 ∨ 8 < K ∨ (s.size : Int) < K
  · exact ⟨_, ReaderNumber_bad h hz, hbad h, Nat.zero_le _⟩
  · have hb : b = false := by cases b with | true => exact absurd (Or.inl rfl) h | false => rfl
    subst hb
    have h1 : ¬ K < 1 := fun c => h (Or.inr (Or.inl c))
    have h8 : ¬ 8 < K := fun c => h (Or.inr (Or.inr (Or.inl c)))
    have hs : ¬ (s.size : Int) < K := fun c => h (Or.inr (Or.inr (Or.inr c)))
    refine ⟨_, ReaderNumber_good (by omega) (by omega) (by omega) hz, ?_, ?_⟩
    · obtain ⟨k, rfl⟩ : ∃ m, k = m + 1 := ⟨k - 1, by omega⟩
      unfold tenementref02_Reader_Number.f
      rw [if_neg (by simp), if_neg h1, if_neg h8, decide_eq_false hs]
      simp only [tenementref02_Reader_Number.j0]
      rw [if_neg (by simp)]
      exact rnumR_loop s false K (by omega) (by omega) hz K.toNat k 0 (by omega) (by omega)
    · show (s.extract K.toNat s.size).size ≤ s.size
      simp
theorem RDone_f (s : ByteArray) (b : Bool) : tenementref02_Reader_Done.f s b = some (!b && decide (s = ⟨#[]⟩)) := by
  unfold tenementref02_Reader_Done.f
  by_cases h : s.toList = []
  · have e : s = ⟨#[]⟩ := toList_iff.1 (by rw [h, toList_data])
    rw [if_pos h, decide_eq_true e, Bool.and_true]
  · have e : ¬ s = ⟨#[]⟩ := fun e => h (by rw [e, toList_data])
    rw [if_neg h, decide_eq_false e, Bool.and_false]
end Go.Proofs.Ytplgbkobpanbfaa.Pure

/- Whether a vector may be, by the document. -/
set_option linter.unusedVariables false
set_option linter.unusedSimpArgs false
namespace Go.Proofs.Ytplgbkobpanbfaa.Pure
open Go.RowKit Go.Proofs.Ytplgbkobpanbfaa.Q Go.Proofs.YtplgbkobpanbfaaW.PrintWords Go.Proofs.YtplgbkobpanbfaaW.PrintLast Go.Proofs.YtplgbkobpanbfaaW.PrintMore Go.Proofs.Ytplgbkobpanbfaa.Plain

theorem rright06_f {a b c d : Int} {k : Nat} (hk : 5 ≤ k) : tenementref06_Right.f k a b c d = some (decide (a ≤ 1152921504606846976 ∧ b ≤ 1152921504606846976 ∧ c ≤ 1152921504606846976 ∧ d ≤ 1152921504606846976)) := by
  obtain ⟨k, rfl⟩ : ∃ m, k = m + 5 := ⟨k - 5, by omega⟩
  unfold tenementref06_Right.f
  have no : ∀ {P : Prop} [Decidable P], ¬ P → (some false : Option Bool) = some (decide P) := fun h => by rw [decide_eq_false h]
  rw [tenementref06_Right.l0, if_pos (by omega), if_pos rfl, show wrap64 (0 + 1) = 1 from wrap64_id (by omega) (by omega)]
  by_cases ha : a > 1152921504606846976
  · rw [if_pos ha]; exact no (by omega)
  rw [if_neg ha, tenementref06_Right.l0, if_pos (by omega), if_neg (by omega), if_pos rfl, show wrap64 (1 + 1) = 2 from wrap64_id (by omega) (by omega)]
  by_cases hb : b > 1152921504606846976
  · rw [if_pos hb]; exact no (by omega)
  rw [if_neg hb, tenementref06_Right.l0, if_pos (by omega), if_neg (by omega), if_neg (by omega), if_pos rfl, show wrap64 (2 + 1) = 3 from wrap64_id (by omega) (by omega)]
  by_cases hc : c > 1152921504606846976
  · rw [if_pos hc]; exact no (by omega)
  rw [if_neg hc, tenementref06_Right.l0, if_pos (by omega), if_neg (by omega), if_neg (by omega), if_neg (by omega), if_pos rfl, show wrap64 (3 + 1) = 4 from wrap64_id (by omega) (by omega)]
  by_cases hd : d > 1152921504606846976
  · rw [if_pos hd]; exact no (by omega)
  rw [if_neg hd, tenementref06_Right.l0, if_neg (by omega), decide_eq_true (by omega)]
end Go.Proofs.Ytplgbkobpanbfaa.Pure

/- Bounds of what comes in; the laws' vectors. -/
set_option linter.unusedVariables false
set_option linter.unusedSimpArgs false
namespace Go.Proofs.Ytplgbkobpanbfaa.Pure
open Go.RowKit Go.Proofs.Ytplgbkobpanbfaa.Q Go.Proofs.YtplgbkobpanbfaaW.PrintWords Go.Proofs.YtplgbkobpanbfaaW.PrintLast Go.Proofs.YtplgbkobpanbfaaW.PrintMore Go.Proofs.Ytplgbkobpanbfaa.Plain

theorem i64_of {x : Int} (h : (Lit.int .i64 x).wf = true) : -9223372036854775808 ≤ x ∧ x ≤ 9223372036854775807 := by
  have h : IntKind.i64.min ≤ x ∧ x ≤ IntKind.i64.max := by simpa only [Lit.wf, Bool.and_eq_true, decide_eq_true_eq] using h
  exact h
theorem u8_of {x : Int} (h : (Lit.int .u8 x).wf = true) : 0 ≤ x ∧ x ≤ 255 := by
  have h : IntKind.u8.min ≤ x ∧ x ≤ IntKind.u8.max := by simpa only [Lit.wf, Bool.and_eq_true, decide_eq_true_eq] using h
  exact h
theorem u16_of {x : Int} (h : (Lit.int .u16 x).wf = true) : 0 ≤ x ∧ x ≤ 65535 := by
  have h : IntKind.u16.min ≤ x ∧ x ≤ IntKind.u16.max := by simpa only [Lit.wf, Bool.and_eq_true, decide_eq_true_eq] using h
  exact h
theorem u64_of {x : Int} (h : (Lit.int .u64 x).wf = true) : 0 ≤ x ∧ x ≤ 18446744073709551615 := by
  have h : IntKind.u64.min ≤ x ∧ x ≤ IntKind.u64.max := by simpa only [Lit.wf, Bool.and_eq_true, decide_eq_true_eq] using h
  exact h
theorem vector_f {v0 v1 v2 v3 : Int} (h0 : (Lit.int .u64 v0).wf = true) (h1 : (Lit.int .u64 v1).wf = true) (h2 : (Lit.int .u64 v2).wf = true) (h3 : (Lit.int .u64 v3).wf = true) (own : Bool) {k : Nat} (hk : 5 ≤ k) :
    ∃ n0 n1 n2 n3 : Nat, tenementlaw19_Vector_vector.f k v0 v1 v2 v3 own = some ((n0 : Int), (n1 : Int), (n2 : Int), (n3 : Int)) ∧ n0 < 18446744073709551616 ∧ n1 < 18446744073709551616 ∧ n2 < 18446744073709551616 ∧ n3 < 18446744073709551616 := by
  have h0 := u64_of h0
  have h1 := u64_of h1
  have h2 := u64_of h2
  have h3 := u64_of h3
  unfold tenementlaw19_Vector_vector.f
  cases own with
  | false =>
    rw [if_neg (by simp)]
    exact ⟨v0.toNat, v1.toNat, v2.toNat, v3.toNat, by rw [Int.toNat_of_nonneg h0.1, Int.toNat_of_nonneg h1.1, Int.toNat_of_nonneg h2.1, Int.toNat_of_nonneg h3.1], by omega, by omega, by omega, by omega⟩
  | true =>
    rw [if_pos rfl]
    obtain ⟨k, rfl⟩ : ∃ m, k = m + 5 := ⟨k - 5, by omega⟩
    have e : tenementlaw19_Vector_vector.l0 (k + 5) 0 v0 v1 v2 v3 true = some (Int.tmod v0 4, Int.tmod v1 4, Int.tmod v2 4, Int.tmod v3 4) := by
      rw [tenementlaw19_Vector_vector.l0, if_pos (by omega), if_pos rfl, show wrap64 (0 + 1) = 1 from wrap64_id (by omega) (by omega)]
      rw [tenementlaw19_Vector_vector.l0, if_pos (by omega), if_neg (by omega), if_pos rfl, show wrap64 (1 + 1) = 2 from wrap64_id (by omega) (by omega)]
      rw [tenementlaw19_Vector_vector.l0, if_pos (by omega), if_neg (by omega), if_neg (by omega), if_pos rfl, show wrap64 (2 + 1) = 3 from wrap64_id (by omega) (by omega)]
      rw [tenementlaw19_Vector_vector.l0, if_pos (by omega), if_neg (by omega), if_neg (by omega), if_neg (by omega), if_pos rfl, show wrap64 (3 + 1) = 4 from wrap64_id (by omega) (by omega)]
      rw [tenementlaw19_Vector_vector.l0, if_neg (by omega)]
    rw [e, Int.tmod_eq_emod_of_nonneg h0.1, Int.tmod_eq_emod_of_nonneg h1.1, Int.tmod_eq_emod_of_nonneg h2.1, Int.tmod_eq_emod_of_nonneg h3.1]
    exact ⟨(v0 % 4).toNat, (v1 % 4).toNat, (v2 % 4).toNat, (v3 % 4).toNat, by rw [Int.toNat_of_nonneg (by omega), Int.toNat_of_nonneg (by omega), Int.toNat_of_nonneg (by omega), Int.toNat_of_nonneg (by omega)], by omega, by omega, by omega, by omega⟩
end Go.Proofs.Ytplgbkobpanbfaa.Pure

/- Bytes with one of them another one: as many. -/
set_option linter.unusedVariables false
set_option linter.unusedSimpArgs false
namespace Go.Proofs.Ytplgbkobpanbfaa.Pure
open Go.RowKit Go.Proofs.Ytplgbkobpanbfaa.Q Go.Proofs.YtplgbkobpanbfaaW.PrintWords Go.Proofs.YtplgbkobpanbfaaW.PrintLast Go.Proofs.YtplgbkobpanbfaaW.PrintMore Go.Proofs.Ytplgbkobpanbfaa.Plain

theorem strOfNums_size (l : List Int) : (strOfNums l).size = l.length := by
  unfold strOfNums
  simp [ByteArray.size]
theorem bend_f {s : ByteArray} (hz : s.size ≤ 9223372036854775807) {p b : Int} (hp : -9223372036854775808 ≤ p ∧ p ≤ 9223372036854775807) :
    ∃ t, tenementlaw19_bend.f s p b = some t ∧ t.size ≤ 9223372036854775807 := by
  unfold tenementlaw19_bend.f
  by_cases c : s.toList = []
  · rw [if_pos c]; exact ⟨s, rfl, hz⟩
  · rw [if_neg c, if_pos ⟨hz, hp.1, hp.2⟩]
    refine ⟨_, rfl, ?_⟩
    rw [strOfNums_size]
    unfold tenementlaw19_bend.turn
    rw [List.length_set, bytesOf_length]
    exact hz
end Go.Proofs.Ytplgbkobpanbfaa.Pure
