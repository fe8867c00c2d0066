/- What Vary, of package pack, answers: by lists of bytes. -/
import Derived.Test.YtdlagefpglhdoaaDoorPlain
import Derived.Test.YtdlagefpglhdoaaDoorBytes
import Derived.Test.YtdlagefpglhdoaaDoorQxf63
import Derived.Test.YtdlagefpglhdoaaDoorQxf72
import Derived.Laws.BitsAllLaws
set_option linter.unusedVariables false
set_option linter.unusedSimpArgs false
namespace Go.Proofs.YtdlagefpglhdoaaDoor.Pure
open Go.RowKit Go.Proofs.YtdlagefpglhdoaaDoor.Q Go.Proofs.YtdlagefpglhdoaaDoorW.PrintWords Go.Proofs.YtdlagefpglhdoaaDoorW.PrintLast Go.Proofs.YtdlagefpglhdoaaDoorW.PrintMore Go.Proofs.YtdlagefpglhdoaaDoor.Plain

theorem u8_or_128 : ∀ m : Nat, m < 256 → Go.bits .or .u8 (m : Int) 128 = ((m % 128 + 128 : Nat) : Int) := by
  intro m hm
  have h : ∀ m : Fin 256, (m.val ||| 128) = m.val % 128 + 128 := by decide +kernel
  have h2 := u8_or_nat m 128 hm (by omega)
  rw [show ((128 : Nat) : Int) = 128 from rfl] at h2
  rw [h2, h ⟨m, hm⟩]
theorem u8_and_127 : ∀ m : Nat, m < 256 → Go.bits .and .u8 (m : Int) 127 = ((m % 128 : Nat) : Int) := by
  intro m hm
  have h : ∀ m : Fin 256, (m.val &&& 127) = m.val % 128 := by decide +kernel
  have h2 := u8_and_nat m 127 hm (by omega)
  rw [show ((127 : Nat) : Int) = 127 from rfl] at h2
  rw [h2, h ⟨m, hm⟩]

/-! ### Vary -/
theorem vary_tells (n : Nat) : ∀ (k : Nat) (acc : List Nat), (vary n).length < k → acc.length + (vary n).length ≤ 140737488355328 →
    pack_Vary.l0 k (n : Int) (NL acc) = some (strOfNums (NL (acc ++ vary n))) := by
  induction n using Nat.strongRecOn with
  | _ n ih =>
    intro k acc hk hl
    obtain ⟨k, rfl⟩ : ∃ m, k = m + 1 := ⟨k - 1, by omega⟩
    simp only [pack_Vary.l0]
    have hlen : (NL acc).length = acc.length := by simp [NL]
    by_cases h : n < 128
    · rw [vary_small h] at hl ⊢
      rw [if_neg (by omega), if_pos (by rw [hlen]; simp at hl; omega)]
      rw [show (n : Int) % 256 = (n : Int) by omega]
      simp [NL]
    · rw [vary_big h] at hl hk ⊢
      simp only [List.length_cons] at hl hk
      rw [if_pos (by omega), if_pos (by rw [hlen]; omega)]
      have e1 : (n : Int) / 128 = ((n / 128 : Nat) : Int) := by omega
      have e2 : (n : Int) % 256 = ((n % 256 : Nat) : Int) := by omega
      rw [e1, e2, u8_or_128 _ (by omega)]
      have e3 : NL acc ++ [((n % 256 % 128 + 128 : Nat) : Int)] = NL (acc ++ [n % 128 + 128]) := by
        rw [show n % 256 % 128 = n % 128 by omega]; simp [NL]
      rw [e3, ih (n / 128) (by omega) k _ (by omega) (by simp; omega)]
      simp
/-- what package pack puts for a number -/
def vs (n : Nat) : ByteArray := strOfNums (NL (vary n))
theorem bl_vs (n : Nat) : bl (vs n) = vary n := bl_str _ (vary_lt n)
theorem vs_size (n : Nat) : (vs n).size = (vary n).length := by rw [← bl_length, bl_vs]
theorem Vary_f {n k : Nat} (h : n < 18446744073709551616) (hk : 11 ≤ k) : pack_Vary.f k (n : Int) = some (vs n) := by
  have h1 := vary_len_ten h
  have := vary_tells n k [] (by omega) (by simp; omega)
  exact this

/-! ### reading such a number -/
/-- What a reader answers whose rest is 's': the number at its front, if one stands there. -/
inductive VaryRes (s : ByteArray) : Int × ByteArray × Bool → Prop
  | good (n : Nat) (rest : ByteArray) (hn : n < 18446744073709551616) (hs : bl s = vary n ++ bl rest) : VaryRes s ((n : Int), rest, false)
  | bad (h : ∀ n, n < 18446744073709551616 → ∀ r, bl s ≠ vary n ++ r) : VaryRes s (0, ⟨#[]⟩, true)
theorem VaryRes.unique {s : ByteArray} {a b : Int × ByteArray × Bool} (ha : VaryRes s a) (hb : VaryRes s b) : a = b := by
  cases ha with
  | good n r hn hs =>
    cases hb with
    | good m q hm ht =>
      obtain ⟨rfl, e⟩ := vary_prefix _ _ _ _ (hs.symm.trans ht)
      rw [bl_inj e]
    | bad h => exact absurd hs (h n hn _)
  | bad h =>
    cases hb with
    | good m q hm ht => exact absurd ht (h m hm _)
    | bad h => rfl
theorem acc_or (n i : Nat) (hn : n < 18446744073709551616) (hi : i < (vary n).length) :
    Go.bits .or .u64 ((n % 128 ^ i : Nat) : Int) (shl .u64 (IntKind.u64.wrap ((n / 128 ^ i % 128 : Nat) : Int)) (7 * (i : Int))) = ((n % 128 ^ (i + 1) : Nat) : Int) := by
  have h10 := vary_len_ten hn
  have hle : n % 128 ^ (i + 1) = n % 128 ^ i + 128 ^ i * (n / 128 ^ i % 128) := by rw [Nat.pow_succ, Nat.mod_mul]
  have hlt : n % 128 ^ (i + 1) ≤ n := Nat.mod_le _ _
  have hp : 0 < 128 ^ i := Nat.pow_pos (by omega)
  have hm : n % 128 ^ i < 128 ^ i := Nat.mod_lt _ hp
  have h7 : (128 : Nat) ^ i = 2 ^ (7 * i) := by rw [Nat.pow_mul]
  generalize hg : n / 128 ^ i % 128 = g at *
  have hg' : g < 128 := by omega
  generalize hc : n % 128 ^ i = c at *
  have hprod : 128 ^ i * g < 18446744073709551616 := by omega
  have hw : IntKind.u64.wrap (g : Int) = (g : Int) := wrap_u64 (by omega) (by omega)
  have hs : shl .u64 (g : Int) (7 * (i : Int)) = ((128 ^ i * g : Nat) : Int) := by
    unfold shl
    rw [show (7 * (i : Int)).toNat = 7 * i by omega, Nat.min_eq_left (by show 7 * i ≤ 64; omega)]
    have e : (g : Int) * 2 ^ (7 * i) = ((128 ^ i * g : Nat) : Int) := by rw [h7, Int.natCast_mul, Int.mul_comm]; simp
    rw [e, wrap_u64 (by omega) (by omega)]
  have hcn : c < 18446744073709551616 := by omega
  rw [hw, hs, u64_or_nat _ _ hcn hprod, hle]
  congr 1
  rw [h7] at hm ⊢
  rw [Nat.add_comm, Nat.two_pow_add_eq_or_of_lt hm, Nat.or_comm]
theorem u64_or_range (a b : Int) (h1 : 0 ≤ a) (h2 : a < 18446744073709551616) (h3 : 0 ≤ b) (h4 : b < 18446744073709551616) : 0 ≤ Go.bits .or .u64 a b ∧ Go.bits .or .u64 a b < 18446744073709551616 := by
  rw [u64_or a b h1 h2 h3 h4]
  have : a.toNat ||| b.toNat < 2 ^ 64 := Nat.or_lt_two_pow (by omega) (by omega)
  omega
theorem shl_range (x y : Int) : 0 ≤ shl .u64 x y ∧ shl .u64 x y < 18446744073709551616 := by
  unfold shl; simp only [IntKind.wrap_u64]; omega
theorem mn_lt {i n : Nat} (h : i < min n 10) : (i : Int) < mn (n : Int) 10 := by unfold mn; split <;> omega
theorem mn_ge {i n : Nat} (h : ¬ i < min n 10) : ¬ (i : Int) < mn (n : Int) 10 := by unfold mn; split <;> omega
theorem wrap_seven {i : Nat} (h : i < 10) : wrap64 (7 * (i : Int)) = 7 * (i : Int) := wrap64_id (by omega) (by omega)
theorem wrap_succ {i : Nat} (h : i < 10) : wrap64 ((i : Int) + 1) = ((i + 1 : Nat) : Int) := by rw [wrap64_id (by omega) (by omega)]; omega
/-- The loop, at any place: whatever was gathered is a number of 64 bits; and where a number stands at the front, it is its lower part. -/
theorem varyR_loop (s : ByteArray) (b : Bool) (hz : s.size ≤ 9223372036854775807) (d : Nat) : ∀ (k i : Nat) (x : Int), i + d = min s.size 10 → 0 ≤ x → x < 18446744073709551616 → d + 12 ≤ k →
    (∀ j, j < i → ∃ c, (bl s)[j]? = some c ∧ 128 ≤ c) →
    (∀ n, n < 18446744073709551616 → ∀ r, bl s = vary n ++ r → i < (vary n).length ∧ x = ((n % 128 ^ i : Nat) : Int)) →
    ∃ r, pack_Reader_Vary.l0 k x (mn (s.size : Int) 10) (i : Int) s b = some r ∧ VaryRes s r := by
  induction d with
  | zero =>
    intro k i x hi h0 h1 hk hall hn
    obtain ⟨k, rfl⟩ : ∃ m, k = m + 1 := ⟨k - 1, by omega⟩
    refine ⟨(0, ⟨#[]⟩, true), ?_, .bad fun n hn' r hs => ?_⟩
    · simp only [pack_Reader_Vary.l0]
      rw [if_neg (mn_ge (by omega))]
      rfl
    · have h2 := (hn n hn' r hs).1
      have h3 := vary_len_ten hn'
      have h4 : (vary n).length ≤ s.size := by rw [← bl_length, hs]; simp
      omega
  | succ d ih =>
    intro k i x hi h0 h1 hk hall hn
    obtain ⟨k, rfl⟩ : ∃ m, k = m + 1 := ⟨k - 1, by omega⟩
    have hlt : i < s.size := by omega
    have hi10 : i < 10 := by omega
    obtain ⟨c, hc, hbt, hc256⟩ := bt_bl s i hlt
    simp only [pack_Reader_Vary.l0]
    rw [if_pos (mn_lt (by omega)), if_pos (Int.natCast_nonneg i), if_pos (Int.ofNat_lt.2 hlt), hbt, wrap_seven hi10, if_pos (Int.mul_nonneg (by decide) (Int.natCast_nonneg i)), wrap_succ hi10, u8_and_127 _ hc256]
    clear hbt
    obtain ⟨G, hG⟩ : ∃ G, G = Go.bits .or .u64 x (shl .u64 (IntKind.u64.wrap ((c % 128 : Nat) : Int)) (7 * (i : Int))) := ⟨_, rfl⟩
    have hGr : 0 ≤ G ∧ G < 18446744073709551616 := by
      rw [hG]
      exact u64_or_range x _ h0 h1 (shl_range _ _).1 (shl_range _ _).2
    have hnext : ∀ n, n < 18446744073709551616 → ∀ r, bl s = vary n ++ r → c % 128 = n / 128 ^ i % 128 ∧ (128 ≤ c ↔ i + 1 < (vary n).length) ∧ G = ((n % 128 ^ (i + 1) : Nat) : Int) := by
      intro n hn' r hs
      obtain ⟨g1, g2⟩ := hn n hn' r hs
      have e : (bl s)[i]? = (vary n)[i]? := by rw [hs, List.getElem?_append_left g1]
      rw [hc, vary_get i n g1] at e
      have e := Option.some.inj e
      have e2 : c % 128 = n / 128 ^ i % 128 := by clear hG; rw [e]; split <;> omega
      refine ⟨e2, ?_, ?_⟩
      · clear hG; rw [e]; split <;> omega
      · rw [hG, e2, g2]; exact acc_or n i hn' g1
    rw [← hG]
    clear hG
    by_cases h128 : 128 ≤ c
    · rw [if_pos (show ((c : Nat) : Int) ≥ 128 by omega)]
      refine ih k (i + 1) _ (by omega) hGr.1 hGr.2 (by omega) ?_ ?_
      · intro j hj
        by_cases hji : j < i
        · exact hall j hji
        · obtain rfl : j = i := by omega
          exact ⟨c, hc, h128⟩
      · intro n hn' r hs
        obtain ⟨_, g2, g3⟩ := hnext n hn' r hs
        exact ⟨g2.1 h128, g3⟩
    · rw [if_neg (show ¬ ((c : Nat) : Int) ≥ 128 by omega), if_pos (show (0 : Int) ≤ ((i + 1 : Nat) : Int) by omega), if_pos (show ((i + 1 : Nat) : Int) ≤ (s.size : Int) by omega)]
      obtain ⟨m, rfl⟩ := Int.eq_ofNat_of_zero_le hGr.1
      rw [Vary_f (by omega) (by omega)]
      simp only [Option.bind_some]
      rw [show (((i + 1 : Nat) : Int)).toNat = i + 1 by omega]
      by_cases he : (s.extract 0 (i + 1)).toList = (vs m).toList
      · rw [if_pos he]
        refine ⟨_, rfl, .good m _ (by omega) ?_⟩
        have e1 : bl (s.extract 0 (i + 1)) = vary m := by rw [toList_iff.1 he, bl_vs]
        rw [bl_extract, List.drop_zero] at e1
        rw [← e1, bl_drop, List.take_append_drop]
      · rw [if_neg he]
        refine ⟨_, rfl, .bad fun n hn' r hs => he ?_⟩
        obtain ⟨g1, g2, g3⟩ := hnext n hn' r hs
        have g4 := (hn n hn' r hs).1
        have hl : (vary n).length = i + 1 := by omega
        have hnm : n % 128 ^ (i + 1) = n := Nat.mod_eq_of_lt (by
          rcases Nat.lt_or_ge n (128 ^ (i + 1)) with h | h
          · exact h
          · have := vary_len_gt (i + 1) n h; omega)
        rw [hnm] at g3
        have : m = n := by omega
        subst this
        rw [toList_iff]
        apply bl_inj
        rw [bl_vs, bl_extract, List.drop_zero, hs, ← hl, List.take_left]
theorem ReaderVary_f (s : ByteArray) (b : Bool) (hz : s.size ≤ 9223372036854775807) {k : Nat} (hk : 22 ≤ k) :
    ∃ r, pack_Reader_Vary.f k s b = some r ∧ (b = false → VaryRes s r) ∧ (b = true → r = (0, ⟨#[]⟩, true)) := by
  unfold pack_Reader_Vary.f
  cases b with
  | true => exact ⟨_, rfl, (fun h => by cases h), (fun _ => rfl)⟩
  | false =>
    obtain ⟨r, h1, h2⟩ := varyR_loop s false hz (min s.size 10) k 0 0 (by omega) (by omega) (by omega) (by omega) (fun j hj => by omega) (fun n _ r _ => ⟨vary_pos n, by simp [Nat.mod_one]⟩)
    exact ⟨r, by rw [if_neg (by simp)]; exact h1, (fun _ => h2), (fun h => by cases h)⟩
/-- From now on: enough rounds are 22. -/
theorem ReaderVary_good {s : ByteArray} {n : Nat} {rest : ByteArray} (hz : s.size ≤ 9223372036854775807) (hn : n < 18446744073709551616) (hs : bl s = vary n ++ bl rest) {k : Nat} (hk : 22 ≤ k) :
    pack_Reader_Vary.f k s false = some ((n : Int), rest, false) := by
  obtain ⟨r, h1, h2, _⟩ := ReaderVary_f s false hz hk
  rw [h1, VaryRes.unique (h2 rfl) (.good n rest hn hs)]
theorem ReaderVary_bad {s : ByteArray} (hz : s.size ≤ 9223372036854775807) (h : ∀ n, n < 18446744073709551616 → ∀ r, bl s ≠ vary n ++ r) {k : Nat} (hk : 22 ≤ k) :
    pack_Reader_Vary.f k s false = some (0, ⟨#[]⟩, true) := by
  obtain ⟨r, h1, h2, _⟩ := ReaderVary_f s false hz hk
  rw [h1, VaryRes.unique (h2 rfl) (.bad h)]
theorem ReaderVary_true {s : ByteArray} (hz : s.size ≤ 9223372036854775807) {k : Nat} (hk : 22 ≤ k) : pack_Reader_Vary.f k s true = some (0, ⟨#[]⟩, true) := by
  obtain ⟨r, h1, _, h2⟩ := ReaderVary_f s true hz hk
  rw [h1, h2 rfl]

theorem vary_step {s : ByteArray} {b : Bool} (hz : s.size ≤ 9223372036854775807) {k : Nat} (hk : 22 ≤ k) :
    ∃ v t c, pack_Reader_Vary.f k s b = some (v, t, c) ∧ t.size ≤ s.size ∧ (c = false → b = false ∧ ∃ n, n < 18446744073709551616 ∧ v = (n : Nat) ∧ bl s = vary n ++ bl t) := by
  cases b with
  | true => exact ⟨_, _, _, ReaderVary_true hz hk, Nat.zero_le _, fun h => absurd h (by simp)⟩
  | false =>
    obtain ⟨r, h1, h2, _⟩ := ReaderVary_f s false hz hk
    cases h2 rfl with
    | good n rest hn hs =>
      refine ⟨_, _, _, h1, ?_, fun _ => ⟨rfl, n, hn, rfl, hs⟩⟩
      rw [← bl_length, ← bl_length, hs]; simp
    | bad h => exact ⟨_, _, _, h1, Nat.zero_le _, fun h => absurd h (by simp)⟩
end Go.Proofs.YtdlagefpglhdoaaDoor.Pure
