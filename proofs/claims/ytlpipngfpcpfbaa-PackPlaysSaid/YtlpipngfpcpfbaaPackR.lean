/- What the printed functions of the document's answer to chapter 2 answer, in the words of PackA. -/
import Derived.Test.YtlpipngfpcpfbaaPackA
import Derived.Test.YtlpipngfpcpfbaaQx16
import Derived.Test.YtlpipngfpcpfbaaQx17
import Derived.Test.YtlpipngfpcpfbaaQx18
import Derived.Test.YtlpipngfpcpfbaaQx15
import Derived.Test.YtlpipngfpcpfbaaQx21
import Derived.Test.YtlpipngfpcpfbaaQx22
import Derived.Test.YtlpipngfpcpfbaaQx20
set_option linter.unusedVariables false
set_option linter.unusedSimpArgs false
namespace Go.Proofs.Ytlpipngfpcpfbaa.Pure
open Go.RowKit Go.Proofs.Ytlpipngfpcpfbaa.Q Go.Proofs.YtlpipngfpcpfbaaW.PrintWords Go.Proofs.YtlpipngfpcpfbaaW.PrintLast Go.Proofs.YtlpipngfpcpfbaaW.PrintMore Go.Proofs.Ytlpipngfpcpfbaa.Plain

theorem rvary_tells (n : Nat) : n < 18446744073709551616 → ∀ (k : Nat) (acc : List Nat), (vary n).length < k → acc.length + (vary n).length ≤ 140737488355328 →
    tenementref02_Vary.l0 k (n : Int) (NL acc) = some (strOfNums (NL (acc ++ vary n))) := by
  induction n using Nat.strongRecOn with
  | _ n ih =>
    intro hn k acc hk hl
    obtain ⟨k, rfl⟩ : ∃ m, k = m + 1 := ⟨k - 1, by omega⟩
    simp only [tenementref02_Vary.l0]
    have hlen : (NL acc).length = acc.length := by simp [NL]
    by_cases h : n < 128
    · rw [vary_small h] at hl ⊢
      rw [if_neg (by omega), if_pos (by rw [hlen]; simp at hl; omega)]
      rw [show (n : Int) % 256 = (n : Int) by omega]
      simp [NL]
    · rw [vary_big h] at hl hk ⊢
      simp only [List.length_cons] at hl hk
      rw [if_pos (by omega), if_pos (by rw [hlen]; omega)]
      have e1 : Int.tdiv (n : Int) 128 = ((n / 128 : Nat) : Int) := by rw [Int.tdiv_eq_ediv_of_nonneg (by omega)]; omega
      have e2 : Int.tmod (n : Int) 128 = ((n % 128 : Nat) : Int) := by rw [Int.tmod_eq_emod_of_nonneg (by omega)]; omega
      rw [e1, e2, wrap_u64 (by omega) (by omega), wrap_u64 (by omega) (by omega)]
      have e3 : NL acc ++ [(((n % 128 : Nat) : Int) + 128) % 256] = NL (acc ++ [n % 128 + 128]) := by
        rw [show (((n % 128 : Nat) : Int) + 128) % 256 = ((n % 128 + 128 : Nat) : Int) by omega]; simp [NL]
      rw [e3, ih (n / 128) (by omega) (by omega) k _ (by omega) (by simp; omega)]
      simp
theorem RVary_f {n k : Nat} (h : n < 18446744073709551616) (hk : 11 ≤ k) : tenementref02_Vary.f k (n : Int) = some (vs n) := by
  have h1 := vary_len_ten h
  have := rvary_tells n h k [] (by omega) (by simp; omega)
  exact this
theorem rvaryR_loop (s : ByteArray) (hz : s.size ≤ 9223372036854775807) (d : Nat) : ∀ (k i : Nat) (x : Int), i + d = min s.size 10 → 0 ≤ x → x < 18446744073709551616 → 2 * d + 14 ≤ k →
    (∀ j, j < i → ∃ c, (bl s)[j]? = some c ∧ 128 ≤ c) →
    (∀ n, n < 18446744073709551616 → ∀ r, bl s = vary n ++ r → i < (vary n).length ∧ x = ((n % 128 ^ i : Nat) : Int)) →
    ∃ r, tenementref02_Reader_Vary.l0 k x (i : Int) s false = some r ∧ VaryRes s r := by
  induction d with
  | zero =>
    intro k i x hi h0 h1 hk hall hn
    obtain ⟨k, rfl⟩ : ∃ m, k = m + 2 := ⟨k - 2, by omega⟩
    refine ⟨(0, ⟨#[]⟩, true), ?_, .bad fun n hn' r hs => ?_⟩
    · simp only [tenementref02_Reader_Vary.l0]
      by_cases c : (i : Int) < (s.size : Int)
      · rw [if_pos c, if_neg (by omega)]
        simp only [tenementref02_Reader_Vary.j1]
        rw [if_neg (by simp)]
      · rw [if_neg c]
        simp only [tenementref02_Reader_Vary.j1]
        rw [if_neg (by simp)]
    · have h2 := (hn n hn' r hs).1
      have h3 := vary_len_ten hn'
      have h4 : (vary n).length ≤ s.size := by rw [← bl_length, hs]; simp
      omega
  | succ d ih =>
    intro k i x hi h0 h1 hk hall hn
    obtain ⟨k, rfl⟩ : ∃ m, k = m + 2 := ⟨k - 2, by omega⟩
    have hlt : i < s.size := by omega
    have hi10 : i < 10 := by omega
    obtain ⟨c, hc, hbt, hc256⟩ := bt_bl s i hlt
    have hm : Int.tmod (c : Int) 128 = ((c % 128 : Nat) : Int) := by rw [Int.tmod_eq_emod_of_nonneg (by omega)]; omega
    simp only [tenementref02_Reader_Vary.l0]
    rw [if_pos (Int.ofNat_lt.2 hlt), if_pos (show (i : Int) < 10 by omega)]
    simp only [tenementref02_Reader_Vary.j1]
    rw [if_pos (show (!false) = true from rfl), if_pos (Int.natCast_nonneg i), if_pos (Int.ofNat_lt.2 hlt), hbt, wrap_seven hi10, if_pos (Int.mul_nonneg (by decide) (Int.natCast_nonneg i)), wrap_succ hi10, hm]
    clear hbt hm
    obtain ⟨G, hG⟩ : ∃ G, G = Go.bits .or .u64 x (shl .u64 (IntKind.u64.wrap ((c % 128 : Nat) : Int)) (7 * (i : Int))) := ⟨_, rfl⟩
    have hGr : 0 ≤ G ∧ G < 18446744073709551616 := by
      rw [hG]
      exact u64_or_range x _ h0 h1 (shl_range _ _).1 (shl_range _ _).2
    have hnext : ∀ n, n < 18446744073709551616 → ∀ r, bl s = vary n ++ r → c % 128 = n / 128 ^ i % 128 ∧ (128 ≤ c ↔ i + 1 < (vary n).length) ∧ G = ((n % 128 ^ (i + 1) : Nat) : Int) := by
      intro n hn' r hs
      obtain ⟨g1, g2⟩ := hn n hn' r hs
      have e : (bl s)[i]? = (vary n)[i]? := by rw [hs, List.getElem?_append_left g1]
      rw [hc, vary_get i n g1] at e
      have e := Option.some.inj e
      have e2 : c % 128 = n / 128 ^ i % 128 := by clear hG; rw [e]; split <;> omega
      refine ⟨e2, ?_, ?_⟩
      · clear hG; rw [e]; split <;> omega
      · rw [hG, e2, g2]; exact acc_or n i hn' g1
    rw [← hG]
    clear hG
    by_cases h128 : 128 ≤ c
    · rw [if_neg (show ¬ ((c : Nat) : Int) < 128 by omega)]
      refine ih k (i + 1) _ (by omega) hGr.1 hGr.2 (by omega) ?_ ?_
      · intro j hj
        by_cases hji : j < i
        · exact hall j hji
        · obtain rfl : j = i := by omega
          exact ⟨c, hc, h128⟩
      · intro n hn' r hs
        obtain ⟨_, g2, g3⟩ := hnext n hn' r hs
        exact ⟨g2.1 h128, g3⟩
    · rw [if_pos (show ((c : Nat) : Int) < 128 by omega)]
      obtain ⟨m, rfl⟩ := Int.eq_ofNat_of_zero_le hGr.1
      rw [RVary_f (by omega) (by omega)]
      simp only [Option.bind_some]
      rw [if_pos (show (0 : Int) ≤ ((i + 1 : Nat) : Int) by omega), if_pos (show ((i + 1 : Nat) : Int) ≤ (s.size : Int) by omega)]
      rw [show (((i + 1 : Nat) : Int)).toNat = i + 1 by omega]
      by_cases he : (vs m).toList = (s.extract 0 (i + 1)).toList
      · rw [if_pos he]
        refine ⟨_, rfl, .good m _ (by omega) ?_⟩
        have e1 : bl (s.extract 0 (i + 1)) = vary m := by rw [← toList_iff.1 he, bl_vs]
        rw [bl_extract, List.drop_zero] at e1
        rw [← e1, bl_drop, List.take_append_drop]
      · rw [if_neg he]
        refine ⟨_, rfl, .bad fun n hn' r hs => he ?_⟩
        obtain ⟨g1, g2, g3⟩ := hnext n hn' r hs
        have g4 := (hn n hn' r hs).1
        have hl : (vary n).length = i + 1 := by omega
        have hnm : n % 128 ^ (i + 1) = n := Nat.mod_eq_of_lt (by
          rcases Nat.lt_or_ge n (128 ^ (i + 1)) with h | h
          · exact h
          · have := vary_len_gt (i + 1) n h; omega)
        rw [hnm] at g3
        have : m = n := by omega
        subst this
        rw [toList_iff]
        apply bl_inj
        rw [bl_vs, bl_extract, List.drop_zero, hs, ← hl, List.take_left]
theorem RReaderVary_f (s : ByteArray) (b : Bool) (hz : s.size ≤ 9223372036854775807) {k : Nat} (hk : 34 ≤ k) :
    ∃ r, tenementref02_Reader_Vary.f k s b = some r ∧ (b = false → VaryRes s r) ∧ (b = true → r = (0, ⟨#[]⟩, true)) := by
  unfold tenementref02_Reader_Vary.f
  cases b with
  | true =>
    refine ⟨_, ?_, (fun h => by cases h), (fun _ => rfl)⟩
    obtain ⟨k, rfl⟩ : ∃ m, k = m + 2 := ⟨k - 2, by omega⟩
    unfold tenementref02_Reader_Vary.l0
    split
    · split
      · unfold tenementref02_Reader_Vary.j1; exact if_neg (by simp)
      · unfold tenementref02_Reader_Vary.j1; exact if_neg (by simp)
    · unfold tenementref02_Reader_Vary.j1; exact if_neg (by simp)
  | false =>
    obtain ⟨r, h1, h2⟩ := rvaryR_loop s hz (min s.size 10) k 0 0 (by omega) (by omega) (by omega) (by omega) (fun j hj => by omega) (fun n _ r _ => ⟨vary_pos n, by simp [Nat.mod_one]⟩)
    exact ⟨r, h1, (fun _ => h2), (fun h => by cases h)⟩
theorem vary_same {s : ByteArray} {b : Bool} (hz : s.size ≤ 9223372036854775807) {k : Nat} (hk : 34 ≤ k) :
    ∃ r, pack_Reader_Vary.f k s b = some r ∧ tenementref02_Reader_Vary.f k s b = some r ∧ r.2.1.size ≤ s.size ∧ (b = true → r = (0, ⟨#[]⟩, true)) ∧ (b = false → VaryRes s r) := by
  obtain ⟨r, h1, h2, h3⟩ := ReaderVary_f s b hz (show 22 ≤ k by omega)
  obtain ⟨q, g1, g2, g3⟩ := RReaderVary_f s b hz hk
  have e : q = r := by
    cases b with
    | true => rw [h3 rfl, g3 rfl]
    | false => exact VaryRes.unique (g2 rfl) (h2 rfl)
  subst e
  refine ⟨q, h1, g1, ?_, h3, h2⟩
  cases b with
  | true => rw [h3 rfl]; exact Nat.zero_le _
  | false =>
    cases h2 rfl with
    | good n rest hn hs => show rest.size ≤ s.size; rw [← bl_length, ← bl_length, hs]; simp
    | bad h => exact Nat.zero_le _
/-! ### texts -/
theorem text_same {s : ByteArray} {b : Bool} {most : Int} (hz : s.size ≤ 9223372036854775807) (hm : (Lit.int .i64 most).wf = true) {k : Nat} (hk : 34 ≤ k) :
    ∃ r, pack_Reader_Text.f k s b most = some r ∧ tenementref02_Reader_Text.f k s b most = some r ∧ r.2.1.size ≤ s.size := by
  have hm : -9223372036854775808 ≤ most ∧ most ≤ 9223372036854775807 := by
    have h : IntKind.i64.min ≤ most ∧ most ≤ IntKind.i64.max := by simpa only [Lit.wf, Bool.and_eq_true, decide_eq_true_eq] using hm
    exact h
  obtain ⟨r, h1, h2, h3, _, hv⟩ := vary_same (s := s) (b := b) hz hk
  unfold pack_Reader_Text.f tenementref02_Reader_Text.f
  rw [h1, h2]
  simp only [Option.bind_some]
  have hn : 0 ≤ r.1 := by
    cases b with
    | true => obtain rfl := ‹(true = true → r = (0, ⟨#[]⟩, true))› rfl; exact Int.le_refl _
    | false =>
      cases hv rfl with
      | good n rest hn hs => exact Int.natCast_nonneg n
      | bad h => exact Int.le_refl _
  clear h1 h2 hv
  obtain ⟨n, t, bd⟩ := r
  simp only at h3 hn ⊢
  by_cases c0 : bd = true
  · rw [if_pos c0, if_pos c0]; exact ⟨_, rfl, rfl, Nat.zero_le _⟩
  · rw [if_neg c0, if_neg c0]
    by_cases c1 : most < 0
    · rw [if_pos c1, if_pos c1]; exact ⟨_, rfl, rfl, Nat.zero_le _⟩
    · rw [if_neg c1, if_neg c1]
      obtain ⟨m1, m2, m3⟩ := mn_cases most (t.size : Int)
      have hw : IntKind.u64.wrap (mn most (t.size : Int)) = mn most (t.size : Int) := wrap_u64 (by omega) (by omega)
      have hw2 : IntKind.u64.wrap most = most := wrap_u64 (by omega) (by omega)
      rw [hw, hw2]
      clear hw hw2
      generalize mn most (t.size : Int) = M at *
      by_cases c2 : n > M
      · rw [if_pos c2]
        refine ⟨_, rfl, ?_, Nat.zero_le _⟩
        by_cases c3 : n > most
        · rw [if_pos c3]
        · rw [if_neg c3, if_pos (by omega), if_pos (show n > (t.size : Int) by omega)]
      · rw [if_neg c2, if_pos hn, if_pos (show n ≤ (t.size : Int) by omega)]
        refine ⟨_, rfl, ?_, ?_⟩
        · rw [if_neg (show ¬ n > most by omega), if_pos (by omega), if_neg (show ¬ n > (t.size : Int) by omega)]
        · simp; omega
/-! ### numbers -/
theorem rnumR_loop (s : ByteArray) (b : Bool) (K : Int) (h8 : K ≤ 8) (hs : K ≤ (s.size : Int)) (hz : s.size ≤ 9223372036854775807) (d : Nat) : ∀ (k i : Nat), (i : Int) + d = K → d < k →
    tenementref02_Reader_Number.l0 k K ((bev ((bl s).take i) : Nat) : Int) (i : Int) s b = some (((bev ((bl s).take K.toNat) : Nat) : Int), s.extract K.toNat s.size, false) := by
  induction d with
  | zero =>
    intro k i hi hk
    obtain ⟨k, rfl⟩ : ∃ m, k = m + 1 := ⟨k - 1, by omega⟩
    simp only [tenementref02_Reader_Number.l0]
    rw [if_neg (by omega), if_pos (by omega), if_pos hs, show K.toNat = i by omega]
  | succ d ih =>
    intro k i hi hk
    obtain ⟨k, rfl⟩ : ∃ m, k = m + 1 := ⟨k - 1, by omega⟩
    have hlt : i < s.size := by omega
    have := rnum_bev s (i + 1) (by omega) (by omega)
    simp only [rnum] at this
    rw [rnum_bev s i (by omega) (by omega)] at this
    simp only [tenementref02_Reader_Number.l0]
    rw [if_pos (by omega), if_pos (Int.natCast_nonneg i), if_pos (Int.ofNat_lt.2 hlt), this, wrap_succ (by omega)]
    exact ih k (i + 1) (by omega) (by omega)
theorem number_same {s : ByteArray} {b : Bool} {K : Int} (hz : s.size ≤ 9223372036854775807) {k : Nat} (hk : 34 ≤ k) :
    ∃ r, pack_Reader_Number.f s b K = some r ∧ tenementref02_Reader_Number.f k s b K = some r ∧ r.2.1.size ≤ s.size := by
  have hbad : (b = true ∨ K < 1 ∨ 8 < K ∨ (s.size : Int) < K) → tenementref02_Reader_Number.f k s b K = some (0, ⟨#[]⟩, true) := by
    intro h
    obtain ⟨k, rfl⟩ : ∃ m, k = m + 1 := ⟨k - 1, by omega⟩
    unfold tenementref02_Reader_Number.f
    simp only [tenementref02_Reader_Number.j0]
    by_cases c0 : b = true
    · rw [if_pos c0, if_pos trivial]
    · rw [if_neg c0]
      by_cases c1 : K < 1
      · rw [if_pos c1, if_pos trivial]
      · rw [if_neg c1]
        by_cases c2 : K > 8
        · rw [if_pos c2, if_pos trivial]
        · rw [if_neg c2, if_pos (by rcases h with h | h | h | h; · exact absurd h c0
                                    · exact absurd h c1
                                    · exact absurd h c2
                                    · exact decide_eq_true h)]
  by_cases h : b = true ∨ K < 1 ∨ 8 < K ∨ (s.size : Int) < K
  · exact ⟨_, ReaderNumber_bad h hz, hbad h, Nat.zero_le _⟩
  · have hb : b = false := by cases b with | true => exact absurd (Or.inl rfl) h | false => rfl
    subst hb
    have h1 : ¬ K < 1 := fun c => h (Or.inr (Or.inl c))
    have h8 : ¬ 8 < K := fun c => h (Or.inr (Or.inr (Or.inl c)))
    have hs : ¬ (s.size : Int) < K := fun c => h (Or.inr (Or.inr (Or.inr c)))
    refine ⟨_, ReaderNumber_good (by omega) (by omega) (by omega) hz, ?_, ?_⟩
    · obtain ⟨k, rfl⟩ : ∃ m, k = m + 1 := ⟨k - 1, by omega⟩
      unfold tenementref02_Reader_Number.f
      rw [if_neg (by simp), if_neg h1, if_neg h8, decide_eq_false hs]
      simp only [tenementref02_Reader_Number.j0]
      rw [if_neg (by simp)]
      exact rnumR_loop s false K (by omega) (by omega) hz K.toNat k 0 (by omega) (by omega)
    · show (s.extract K.toNat s.size).size ≤ s.size
      simp
theorem be_take (K : Nat) (n : Nat) : ∀ i, i < K → (be K n)[i]? = some (n / 256 ^ (K - 1 - i) % 256) := by
  induction K with
  | zero => intro i hi; omega
  | succ K ih =>
    intro i hi
    simp only [be]
    cases i with
    | zero => simp
    | succ i =>
      rw [List.getElem?_cons_succ, ih i (by omega), show K + 1 - 1 - (i + 1) = K - 1 - i by omega]
theorem rput_loop (n : Nat) (hn : n < 18446744073709551616) (K : Nat) (h8 : K ≤ 8) (d : Nat) : ∀ (k i : Nat), i + d = K → d < k →
    tenementref02_Number.l0 k (n : Int) (NL ((be K n).take i)) ((d : Int) - 1) = some (strOfNums (NL (be K n))) := by
  induction d with
  | zero =>
    intro k i hi hk
    obtain ⟨k, rfl⟩ : ∃ m, k = m + 1 := ⟨k - 1, by omega⟩
    simp only [tenementref02_Number.l0]
    rw [if_neg (by omega), show i = K by omega, List.take_of_length_le (by rw [be_len]; exact Nat.le_refl _)]
  | succ d ih =>
    intro k i hi hk
    obtain ⟨k, rfl⟩ : ∃ m, k = m + 1 := ⟨k - 1, by omega⟩
    simp only [tenementref02_Number.l0]
    have e1 : ((d + 1 : Nat) : Int) - 1 = (d : Int) := by omega
    have hl : (NL ((be K n).take i)).length = i := by unfold NL; rw [List.length_map, List.length_take, be_len]; omega
    have e2 : wrap64 (8 * (d : Int)) = ((8 * d : Nat) : Int) := by rw [wrap64_id (by omega) (by omega)]; omega
    have e3 : wrap64 ((d : Int) - 1) = (d : Int) - 1 := wrap64_id (by omega) (by omega)
    have e4 : shr .u64 (n : Int) ((8 * d : Nat) : Int) % 256 = ((n / 256 ^ d % 256 : Nat) : Int) := by
      unfold shr
      rw [show (((8 * d : Nat) : Int)).toNat = 8 * d by omega, Nat.min_eq_left (by show 8 * d ≤ 64; omega)]
      rw [Int.pow_mul]
      simp only [Int.natCast_emod, Int.natCast_ediv, Int.natCast_pow]
      rfl
    have e5 : NL ((be K n).take i) ++ [((n / 256 ^ d % 256 : Nat) : Int)] = NL ((be K n).take (i + 1)) := by
      rw [List.take_add_one, be_take K n i (by omega), show K - 1 - i = d by omega]
      simp [NL]
    rw [e1, if_pos (by omega), e2, if_pos (by omega), if_pos (by rw [hl]; omega), e4, e5, e3]
    exact ih k (i + 1) (by omega) (by omega)
theorem put_same {n : Nat} (hn : n < 18446744073709551616) {K : Int} (hK : (Lit.int .i64 K).wf = true) {k : Nat} (hk : 34 ≤ k) :
    ∃ r, pack_Number.f (n : Int) K = some r ∧ tenementref02_Number.f k (n : Int) K = some r := by
  obtain ⟨k, rfl⟩ : ∃ m, k = m + 1 := ⟨k - 1, by omega⟩
  unfold tenementref02_Number.f
  simp only [tenementref02_Number.j0]
  by_cases c1 : K < 1
  · rw [if_pos c1, if_pos trivial]; exact ⟨_, Number_none _ _ (Or.inl c1), rfl⟩
  · rw [if_neg c1]
    by_cases c2 : K > 8
    · rw [if_pos (decide_eq_true c2)]; exact ⟨_, Number_none _ _ (Or.inr c2), rfl⟩
    · rw [if_neg (by simp; omega)]
      refine ⟨_, Number_f n K (by omega) (by omega), ?_⟩
      have := rput_loop n hn K.toNat (by omega) K.toNat k 0 (by omega) (by omega)
      rw [show ((K.toNat : Nat) : Int) = K by omega] at this
      rw [wrap64_id (by omega) (by omega)]
      exact this
theorem RText_f {s : ByteArray} (h : s.size + 10 ≤ 9223372036854775807) {k : Nat} (hk : 11 ≤ k) : tenementref02_Text.f k s = some (vs s.size ++ s) := by
  unfold tenementref02_Text.f
  have h10 := vary_len_ten (pow_small (show s.size ≤ 9223372036854775807 by omega))
  rw [if_pos (by omega), RVary_f (by omega) hk]
  simp only [Option.bind_some]
  rw [if_pos (by rw [vs_size]; omega)]
theorem RDone_f (s : ByteArray) (b : Bool) : tenementref02_Reader_Done.f s b = some (!b && decide (s = ⟨#[]⟩)) := by
  unfold tenementref02_Reader_Done.f
  by_cases h : s.toList = []
  · have e : s = ⟨#[]⟩ := toList_iff.1 (by rw [h, toList_data])
    rw [if_pos h, decide_eq_true e, Bool.and_true]
  · have e : ¬ s = ⟨#[]⟩ := fun e => h (by rw [e, toList_data])
    rw [if_neg h, decide_eq_false e, Bool.and_false]
end Go.Proofs.Ytlpipngfpcpfbaa.Pure
