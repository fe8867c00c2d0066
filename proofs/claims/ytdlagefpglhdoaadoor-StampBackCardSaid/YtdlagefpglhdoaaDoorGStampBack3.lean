import Derived.Test.YtdlagefpglhdoaaDoorGStampBack2
import Derived.Test.YtdlagefpglhdoaaDoorGStampBack0
import Derived.Test.YtdlagefpglhdoaaDoorGStampBack1
import Derived.Laws.BitsAllLaws
import Derived.Test.YtdlagefpglhdoaaDoorQx0
/- What Vary, of package pack, answers: by lists of bytes. -/
set_option linter.unusedVariables false
set_option linter.unusedSimpArgs false
namespace Go.Proofs.YtdlagefpglhdoaaDoor.Pure
open Go.RowKit Go.Proofs.YtdlagefpglhdoaaDoor.Q Go.Proofs.YtdlagefpglhdoaaDoorW.PrintWords Go.Proofs.YtdlagefpglhdoaaDoorW.PrintLast Go.Proofs.YtdlagefpglhdoaaDoorW.PrintMore Go.Proofs.YtdlagefpglhdoaaDoor.Plain

theorem u8_or_128 : ∀ m : Nat, m < 256 → Go.bits .or .u8 (m : Int) 128 = ((m % 128 + 128 : Nat) : Int) := by
  intro m hm
  have h : ∀ m : Fin 256, (m.val ||| 128) = m.val % 128 + 128 := by decide +kernel
  have h2 := u8_or_nat m 128 hm (by omega)
  rw [show ((128 : Nat) : Int) = 128 from rfl] at h2
  rw [h2, h ⟨m, hm⟩]
theorem u8_and_127 : ∀ m : Nat, m < 256 → Go.bits .and .u8 (m : Int) 127 = ((m % 128 : Nat) : Int) := by
  intro m hm
  have h : ∀ m : Fin 256, (m.val &&& 127) = m.val % 128 := by decide +kernel
  have h2 := u8_and_nat m 127 hm (by omega)
  rw [show ((127 : Nat) : Int) = 127 from rfl] at h2
  rw [h2, h ⟨m, hm⟩]

/-! ### Vary -/
theorem vary_tells (n : Nat) : ∀ (k : Nat) (acc : List Nat), (vary n).length < k → acc.length + (vary n).length ≤ 140737488355328 →
    pack_Vary.l0 k (n : Int) (NL acc) = some (strOfNums (NL (acc ++ vary n))) := by
  induction n using Nat.strongRecOn with
  | _ n ih =>
    intro k acc hk hl
    obtain ⟨k, rfl⟩ : ∃ m, k = m + 1 := ⟨k - 1, by omega⟩
    simp only [pack_Vary.l0]
    have hlen : (NL acc).length = acc.length := by simp [NL]
    by_cases h : n < 128
    · rw [vary_small h] at hl ⊢
      rw [if_neg (by omega), if_pos (by rw [hlen]; simp at hl; omega)]
      rw [show (n : Int) % 256 = (n : Int) by omega]
      simp [NL]
    · rw [vary_big h] at hl hk ⊢
      simp only [List.length_cons] at hl hk
      rw [if_pos (by omega), if_pos (by rw [hlen]; omega)]
      have e1 : (n : Int) / 128 = ((n / 128 : Nat) : Int) := by omega
      have e2 : (n : Int) % 256 = ((n % 256 : Nat) : Int) := by omega
      rw [e1, e2, u8_or_128 _ (by omega)]
      have e3 : NL acc ++ [((n % 256 % 128 + 128 : Nat) : Int)] = NL (acc ++ [n % 128 + 128]) := by
        rw [show n % 256 % 128 = n % 128 by omega]; simp [NL]
      rw [e3, ih (n / 128) (by omega) k _ (by omega) (by simp; omega)]
      simp
/-- what package pack puts for a number -/
def vs (n : Nat) : ByteArray := strOfNums (NL (vary n))
theorem bl_vs (n : Nat) : bl (vs n) = vary n := bl_str _ (vary_lt n)
theorem vs_size (n : Nat) : (vs n).size = (vary n).length := by rw [← bl_length, bl_vs]
theorem Vary_f {n k : Nat} (h : n < 18446744073709551616) (hk : 11 ≤ k) : pack_Vary.f k (n : Int) = some (vs n) := by
  have h1 := vary_len_ten h
  have := vary_tells n k [] (by omega) (by simp; omega)
  exact this

/-! ### reading such a number -/
/-- What a reader answers whose rest is 's': the number at its front, if one stands there. -/
inductive VaryRes (s : ByteArray) : Int × ByteArray × Bool → Prop
  | good (n : Nat) (rest : ByteArray) (hn : n < 18446744073709551616) (hs : bl s = vary n ++ bl rest) : VaryRes s ((n : Int), rest, false)
  | bad (h : ∀ n, n < 18446744073709551616 → ∀ r, bl s ≠ vary n ++ r) : VaryRes s (0, ⟨#[]⟩, true)
theorem VaryRes.unique {s : ByteArray} {a b : Int × ByteArray × Bool} (ha : VaryRes s a) (hb : VaryRes s b) : a = b := by
  cases ha with
  | good n r hn hs =>
    cases hb with
    | good m q hm ht =>
      obtain ⟨rfl, e⟩ := vary_prefix _ _ _ _ (hs.symm.trans ht)
      rw [bl_inj e]
    | bad h => exact absurd hs (h n hn _)
  | bad h =>
    cases hb with
    | good m q hm ht => exact absurd ht (h m hm _)
    | bad h => rfl
theorem acc_or (n i : Nat) (hn : n < 18446744073709551616) (hi : i < (vary n).length) :
    Go.bits .or .u64 ((n % 128 ^ i : Nat) : Int) (shl .u64 (IntKind.u64.wrap ((n / 128 ^ i % 128 : Nat) : Int)) (7 * (i : Int))) = ((n % 128 ^ (i + 1) : Nat) : Int) := by
  have h10 := vary_len_ten hn
  have hle : n % 128 ^ (i + 1) = n % 128 ^ i + 128 ^ i * (n / 128 ^ i % 128) := by rw [Nat.pow_succ, Nat.mod_mul]
  have hlt : n % 128 ^ (i + 1) ≤ n := Nat.mod_le _ _
  have hp : 0 < 128 ^ i := Nat.pow_pos (by omega)
  have hm : n % 128 ^ i < 128 ^ i := Nat.mod_lt _ hp
  have h7 : (128 : Nat) ^ i = 2 ^ (7 * i) := by rw [Nat.pow_mul]
  generalize hg : n / 128 ^ i % 128 = g at *
  have hg' : g < 128 := by omega
  generalize hc : n % 128 ^ i = c at *
  have hprod : 128 ^ i * g < 18446744073709551616 := by omega
  have hw : IntKind.u64.wrap (g : Int) = (g : Int) := wrap_u64 (by omega) (by omega)
  have hs : shl .u64 (g : Int) (7 * (i : Int)) = ((128 ^ i * g : Nat) : Int) := by
    unfold shl
    rw [show (7 * (i : Int)).toNat = 7 * i by omega, Nat.min_eq_left (by show 7 * i ≤ 64; omega)]
    have e : (g : Int) * 2 ^ (7 * i) = ((128 ^ i * g : Nat) : Int) := by rw [h7, Int.natCast_mul, Int.mul_comm]; simp
    rw [e, wrap_u64 (by omega) (by omega)]
  have hcn : c < 18446744073709551616 := by omega
  rw [hw, hs, u64_or_nat _ _ hcn hprod, hle]
  congr 1
  rw [h7] at hm ⊢
  rw [Nat.add_comm, Nat.two_pow_add_eq_or_of_lt hm, Nat.or_comm]
theorem u64_or_range (a b : Int) (h1 : 0 ≤ a) (h2 : a < 18446744073709551616) (h3 : 0 ≤ b) (h4 : b < 18446744073709551616) : 0 ≤ Go.bits .or .u64 a b ∧ Go.bits .or .u64 a b < 18446744073709551616 := by
  rw [u64_or a b h1 h2 h3 h4]
  have : a.toNat ||| b.toNat < 2 ^ 64 := Nat.or_lt_two_pow (by omega) (by omega)
  omega
theorem shl_range (x y : Int) : 0 ≤ shl .u64 x y ∧ shl .u64 x y < 18446744073709551616 := by
  unfold shl; simp only [IntKind.wrap_u64]; omega
theorem mn_lt {i n : Nat} (h : i < min n 10) : (i : Int) < mn (n : Int) 10 := by unfold mn; split <;> omega
theorem mn_ge {i n : Nat} (h : ¬ i < min n 10) : ¬ (i : Int) < mn (n : Int) 10 := by unfold mn; split <;> omega
theorem wrap_seven {i : Nat} (h : i < 10) : wrap64 (7 * (i : Int)) = 7 * (i : Int) := wrap64_id (by omega) (by omega)
theorem wrap_succ {i : Nat} (h : i < 10) : wrap64 ((i : Int) + 1) = ((i + 1 : Nat) : Int) := by rw [wrap64_id (by omega) (by omega)]; omega
/-- The loop, at any place: whatever was gathered is a number of 64 bits; and where a number stands at the front, it is its lower part. -/
theorem varyR_loop (s : ByteArray) (b : Bool) (hz : s.size ≤ 9223372036854775807) (d : Nat) : ∀ (k i : Nat) (x : Int), i + d = min s.size 10 → 0 ≤ x → x < 18446744073709551616 → d + 12 ≤ k →
    (∀ j, j < i → ∃ c, (bl s)[j]? = some c ∧ 128 ≤ c) →
    (∀ n, n < 18446744073709551616 → ∀ r, bl s = vary n ++ r → i < (vary n).length ∧ x = ((n % 128 ^ i : Nat) : Int)) →
    ∃ r, pack_Reader_Vary.l0 k x (mn (s.size : Int) 10) (i : Int) s b = some r ∧ VaryRes s r := by
  induction d with
  | zero =>
    intro k i x hi h0 h1 hk hall hn
    obtain ⟨k, rfl⟩ : ∃ m, k = m + 1 := ⟨k - 1, by omega⟩
    refine ⟨(0, ⟨#[]⟩, true), ?_, .bad fun n hn' r hs => ?_⟩
    · simp only [pack_Reader_Vary.l0]
      rw [if_neg (mn_ge (by omega))]
      rfl
    · have h2 := (hn n hn' r hs).1
      have h3 := vary_len_ten hn'
      have h4 : (vary n).length ≤ s.size := by rw [← bl_length, hs]; simp
      omega
  | succ d ih =>
    intro k i x hi h0 h1 hk hall hn
    obtain ⟨k, rfl⟩ : ∃ m, k = m + 1 := ⟨k - 1, by omega⟩
    have hlt : i < s.size := by omega
    have hi10 : i < 10 := by omega
    obtain ⟨c, hc, hbt, hc256⟩ := bt_bl s i hlt
    simp only [pack_Reader_Vary.l0]
    rw [if_pos (mn_lt (by omega)), if_pos (Int.natCast_nonneg i), if_pos (Int.ofNat_lt.2 hlt), hbt, wrap_seven hi10, if_pos (Int.mul_nonneg (by decide) (Int.natCast_nonneg i)), wrap_succ hi10, u8_and_127 _ hc256]
    clear hbt
    obtain ⟨G, hG⟩ : ∃ G, G = Go.bits .or .u64 x (shl .u64 (IntKind.u64.wrap ((c % 128 : Nat) : Int)) (7 * (i : Int))) := ⟨_, rfl⟩
    have hGr : 0 ≤ G ∧ G < 18446744073709551616 := by
      rw [hG]
      exact u64_or_range x _ h0 h1 (shl_range _ _).1 (shl_range _ _).2
    have hnext : ∀ n, n < 18446744073709551616 → ∀ r, bl s = vary n ++ r → c % 128 = n / 128 ^ i % 128 ∧ (128 ≤ c ↔ i + 1 < (vary n).length) ∧ G = ((n % 128 ^ (i + 1) : Nat) : Int) := by
      intro n hn' r hs
      obtain ⟨g1, g2⟩ := hn n hn' r hs
      have e : (bl s)[i]? = (vary n)[i]? := by rw [hs, List.getElem?_append_left g1]
      rw [hc, vary_get i n g1] at e
      have e := Option.some.inj e
      have e2 : c % 128 = n / 128 ^ i % 128 := by clear hG; rw [e]; split <;> omega
      refine ⟨e2, ?_, ?_⟩
      · clear hG; rw [e]; split <;> omega
      · rw [hG, e2, g2]; exact acc_or n i hn' g1
    rw [← hG]
    clear hG
    by_cases h128 : 128 ≤ c
    · rw [if_pos (show ((c : Nat) : Int) ≥ 128 by omega)]
      refine ih k (i + 1) _ (by omega) hGr.1 hGr.2 (by omega) ?_ ?_
      · intro j hj
        by_cases hji : j < i
        · exact hall j hji
        · obtain rfl : j = i := by omega
          exact ⟨c, hc, h128⟩
      · intro n hn' r hs
        obtain ⟨_, g2, g3⟩ := hnext n hn' r hs
        exact ⟨g2.1 h128, g3⟩
    · rw [if_neg (show ¬ ((c : Nat) : Int) ≥ 128 by omega), if_pos (show (0 : Int) ≤ ((i + 1 : Nat) : Int) by omega), if_pos (show ((i + 1 : Nat) : Int) ≤ (s.size : Int) by omega)]
      obtain ⟨m, rfl⟩ := Int.eq_ofNat_of_zero_le hGr.1
      rw [Vary_f (by omega) (by omega)]
      simp only [Option.bind_some]
      rw [show (((i + 1 : Nat) : Int)).toNat = i + 1 by omega]
      by_cases he : (s.extract 0 (i + 1)).toList = (vs m).toList
      · rw [if_pos he]
        refine ⟨_, rfl, .good m _ (by omega) ?_⟩
        have e1 : bl (s.extract 0 (i + 1)) = vary m := by rw [toList_iff.1 he, bl_vs]
        rw [bl_extract, List.drop_zero] at e1
        rw [← e1, bl_drop, List.take_append_drop]
      · rw [if_neg he]
        refine ⟨_, rfl, .bad fun n hn' r hs => he ?_⟩
        obtain ⟨g1, g2, g3⟩ := hnext n hn' r hs
        have g4 := (hn n hn' r hs).1
        have hl : (vary n).length = i + 1 := by omega
        have hnm : n % 128 ^ (i + 1) = n := Nat.mod_eq_of_lt (by
          rcases Nat.lt_or_ge n (128 ^ (i + 1)) with h | h
          · exact h
          · have := vary_len_gt (i + 1) n h; omega)
        rw [hnm] at g3
        have : m = n := by omega
        subst this
        rw [toList_iff]
        apply bl_inj
        rw [bl_vs, bl_extract, List.drop_zero, hs, ← hl, List.take_left]
theorem ReaderVary_f (s : ByteArray) (b : Bool) (hz : s.size ≤ 9223372036854775807) {k : Nat} (hk : 22 ≤ k) :
    ∃ r, pack_Reader_Vary.f k s b = some r ∧ (b = false → VaryRes s r) ∧ (b = true → r = (0, ⟨#[]⟩, true)) := by
  unfold pack_Reader_Vary.f
  cases b with
  | true => exact ⟨_, rfl, (fun h => by cases h), (fun _ => rfl)⟩
  | false =>
    obtain ⟨r, h1, h2⟩ := varyR_loop s false hz (min s.size 10) k 0 0 (by omega) (by omega) (by omega) (by omega) (fun j hj => by omega) (fun n _ r _ => ⟨vary_pos n, by simp [Nat.mod_one]⟩)
    exact ⟨r, by rw [if_neg (by simp)]; exact h1, (fun _ => h2), (fun h => by cases h)⟩
/-- From now on: enough rounds are 22. -/
theorem ReaderVary_good {s : ByteArray} {n : Nat} {rest : ByteArray} (hz : s.size ≤ 9223372036854775807) (hn : n < 18446744073709551616) (hs : bl s = vary n ++ bl rest) {k : Nat} (hk : 22 ≤ k) :
    pack_Reader_Vary.f k s false = some ((n : Int), rest, false) := by
  obtain ⟨r, h1, h2, _⟩ := ReaderVary_f s false hz hk
  rw [h1, VaryRes.unique (h2 rfl) (.good n rest hn hs)]
theorem ReaderVary_bad {s : ByteArray} (hz : s.size ≤ 9223372036854775807) (h : ∀ n, n < 18446744073709551616 → ∀ r, bl s ≠ vary n ++ r) {k : Nat} (hk : 22 ≤ k) :
    pack_Reader_Vary.f k s false = some (0, ⟨#[]⟩, true) := by
  obtain ⟨r, h1, h2, _⟩ := ReaderVary_f s false hz hk
  rw [h1, VaryRes.unique (h2 rfl) (.bad h)]
theorem ReaderVary_true {s : ByteArray} (hz : s.size ≤ 9223372036854775807) {k : Nat} (hk : 22 ≤ k) : pack_Reader_Vary.f k s true = some (0, ⟨#[]⟩, true) := by
  obtain ⟨r, h1, _, h2⟩ := ReaderVary_f s true hz hk
  rw [h1, h2 rfl]

theorem vary_step {s : ByteArray} {b : Bool} (hz : s.size ≤ 9223372036854775807) {k : Nat} (hk : 22 ≤ k) :
    ∃ v t c, pack_Reader_Vary.f k s b = some (v, t, c) ∧ t.size ≤ s.size ∧ (c = false → b = false ∧ ∃ n, n < 18446744073709551616 ∧ v = (n : Nat) ∧ bl s = vary n ++ bl t) := by
  cases b with
  | true => exact ⟨_, _, _, ReaderVary_true hz hk, Nat.zero_le _, fun h => absurd h (by simp)⟩
  | false =>
    obtain ⟨r, h1, h2, _⟩ := ReaderVary_f s false hz hk
    cases h2 rfl with
    | good n rest hn hs =>
      refine ⟨_, _, _, h1, ?_, fun _ => ⟨rfl, n, hn, rfl, hs⟩⟩
      rw [← bl_length, ← bl_length, hs]; simp
    | bad h => exact ⟨_, _, _, h1, Nat.zero_le _, fun h => absurd h (by simp)⟩
end Go.Proofs.YtdlagefpglhdoaaDoor.Pure

/- What the functions of package vec answer. -/
set_option linter.unusedVariables false
set_option linter.unusedSimpArgs false
namespace Go.Proofs.YtdlagefpglhdoaaDoor.Pure
open Go.RowKit Go.Proofs.YtdlagefpglhdoaaDoor.Q Go.Proofs.YtdlagefpglhdoaaDoorW.PrintWords Go.Proofs.YtdlagefpglhdoaaDoorW.PrintLast Go.Proofs.YtdlagefpglhdoaaDoorW.PrintMore Go.Proofs.YtdlagefpglhdoaaDoor.Plain

theorem vright_f (a b c d : Int) : vec_Right.f a b c d = some (decide (a ≤ 1152921504606846976 ∧ b ≤ 1152921504606846976 ∧ c ≤ 1152921504606846976 ∧ d ≤ 1152921504606846976)) := by
  have h : ∀ x : Int, (mx x 1152921504606846976 == (1152921504606846976 : Int)) = decide (x ≤ 1152921504606846976) := by
    intro x
    rw [Bool.eq_iff_iff, beq_iff_eq, decide_eq_true_eq]
    unfold mx
    split <;> omega
  unfold vec_Right.f vec_Leq.f vec_Join.f
  simp only [Option.bind_some, h]
  simp only [Bool.decide_and]
theorem vput_f {a b c d : Nat} (ha : a < 18446744073709551616) (hb : b < 18446744073709551616) (hc : c < 18446744073709551616) (hd : d < 18446744073709551616) {k : Nat} (hk : 11 ≤ k) :
    vec_Put.f k a b c d = some (vs a ++ vs b ++ vs c ++ vs d) := by
  have h1 := vary_len_ten ha
  have h2 := vary_len_ten hb
  have h3 := vary_len_ten hc
  have h4 := vary_len_ten hd
  unfold vec_Put.f
  rw [Vary_f ha hk, Vary_f hb hk, Vary_f hc hk, Vary_f hd hk]
  simp only [Option.bind_some]
  rw [if_pos (by rw [vs_size, vs_size, vs_size, vs_size]; omega)]
theorem vget_step {s : ByteArray} {b : Bool} (hz : s.size ≤ 9223372036854775807) {k : Nat} (hk : 22 ≤ k) :
    ∃ v0 v1 v2 v3 t c, vec_Get.f k s b = some (v0, v1, v2, v3, t, c) ∧ t.size ≤ s.size ∧ (c = false → b = false ∧ ∃ n0 n1 n2 n3 : Nat, (n0 ≤ 1152921504606846976 ∧ n1 ≤ 1152921504606846976 ∧ n2 ≤ 1152921504606846976 ∧ n3 ≤ 1152921504606846976) ∧
      v0 = (n0 : Int) ∧ v1 = (n1 : Int) ∧ v2 = (n2 : Int) ∧ v3 = (n3 : Int) ∧ bl s = vary n0 ++ (vary n1 ++ (vary n2 ++ (vary n3 ++ bl t)))) := by
  obtain ⟨v0, t0, c0, e0, z0, h0⟩ := vary_step (s := s) (b := b) hz hk
  obtain ⟨v1, t1, c1, e1, z1, h1⟩ := vary_step (s := t0) (b := c0) (by omega) hk
  obtain ⟨v2, t2, c2, e2, z2, h2⟩ := vary_step (s := t1) (b := c1) (by omega) hk
  obtain ⟨v3, t3, c3, e3, z3, h3⟩ := vary_step (s := t2) (b := c2) (by omega) hk
  unfold vec_Get.f
  simp only [e0, e1, e2, e3, Option.bind_some, vright_f]
  cases c3 with
  | true => rw [if_pos rfl]; exact ⟨_, _, _, _, _, _, rfl, Nat.zero_le _, fun h => absurd h (by simp)⟩
  | false =>
    rw [if_neg (by simp)]
    obtain ⟨rfl, n3, l3, rfl, g3⟩ := h3 rfl
    obtain ⟨rfl, n2, l2, rfl, g2⟩ := h2 rfl
    obtain ⟨rfl, n1, l1, rfl, g1⟩ := h1 rfl
    obtain ⟨rfl, n0, l0, rfl, g0⟩ := h0 rfl
    by_cases hr : ((n0 : Int) ≤ 1152921504606846976 ∧ (n1 : Int) ≤ 1152921504606846976 ∧ (n2 : Int) ≤ 1152921504606846976 ∧ (n3 : Int) ≤ 1152921504606846976)
    · rw [if_pos (decide_eq_true hr)]
      refine ⟨_, _, _, _, _, _, rfl, by omega, fun _ => ⟨rfl, n0, n1, n2, n3, by omega, rfl, rfl, rfl, rfl, ?_⟩⟩
      rw [g0, g1, g2, g3]
    · rw [if_neg (by simpa using hr)]
      exact ⟨_, _, _, _, _, _, rfl, Nat.zero_le _, fun h => absurd h (by simp)⟩
end Go.Proofs.YtdlagefpglhdoaaDoor.Pure

/- A vector that is read back; what is read stands there. -/
set_option linter.unusedVariables false
set_option linter.unusedSimpArgs false
namespace Go.Proofs.YtdlagefpglhdoaaDoor.Pure
open Go.RowKit Go.Proofs.YtdlagefpglhdoaaDoor.Q Go.Proofs.YtdlagefpglhdoaaDoorW.PrintWords Go.Proofs.YtdlagefpglhdoaaDoorW.PrintLast Go.Proofs.YtdlagefpglhdoaaDoorW.PrintMore Go.Proofs.YtdlagefpglhdoaaDoor.Plain

/-- A vector's bytes. -/
def rv (n0 n1 n2 n3 : Nat) : List Nat := vary n0 ++ (vary n1 ++ (vary n2 ++ vary n3))
theorem rv_prefix {n0 n1 n2 n3 m0 m1 m2 m3 : Nat} {r q : List Nat} (h : rv n0 n1 n2 n3 ++ r = rv m0 m1 m2 m3 ++ q) : n0 = m0 ∧ n1 = m1 ∧ n2 = m2 ∧ n3 = m3 ∧ r = q := by
  unfold rv at h
  simp only [List.append_assoc] at h
  obtain ⟨h0, h⟩ := vary_prefix _ _ _ _ h
  obtain ⟨h1, h⟩ := vary_prefix _ _ _ _ h
  obtain ⟨h2, h⟩ := vary_prefix _ _ _ _ h
  obtain ⟨h3, h⟩ := vary_prefix _ _ _ _ h
  exact ⟨h0, h1, h2, h3, h⟩
def vv (a b c d : Nat) : ByteArray := vs a ++ vs b ++ vs c ++ vs d
theorem bl_vv (a b c d : Nat) : bl (vv a b c d) = rv a b c d := by
  unfold vv rv
  simp only [bl_append, bl_vs, List.append_assoc]
theorem vv_size {a b c d : Nat} (ha : a < 18446744073709551616) (hb : b < 18446744073709551616) (hc : c < 18446744073709551616) (hd : d < 18446744073709551616) : (vv a b c d).size ≤ 40 ∧ (vv a b c d).size ≠ 0 := by
  have h1 := vary_len_ten ha
  have h2 := vary_len_ten hb
  have h3 := vary_len_ten hc
  have h4 := vary_len_ten hd
  have p := vary_pos a
  rw [← bl_length, bl_vv]
  unfold rv
  simp only [List.length_append]
  omega
theorem vget_good {s rest : ByteArray} {n0 n1 n2 n3 : Nat} (hz : s.size ≤ 9223372036854775807) (hs : bl s = rv n0 n1 n2 n3 ++ bl rest)
    (hn : n0 ≤ 1152921504606846976 ∧ n1 ≤ 1152921504606846976 ∧ n2 ≤ 1152921504606846976 ∧ n3 ≤ 1152921504606846976) {k : Nat} (hk : 22 ≤ k) :
    vec_Get.f k s false = some ((n0 : Int), (n1 : Int), (n2 : Int), (n3 : Int), rest, false) := by
  have sub : ∀ l : List Nat, (∀ b ∈ l, b < 256) → ∃ t : ByteArray, bl t = l ∧ t.size = l.length := fun l hl => ⟨strOfNums (NL l), bl_str l hl, by rw [← bl_length, bl_str l hl]⟩
  have lv := fun n => vary_lt n
  have lr := bl_lt rest
  have mem : ∀ {p q : List Nat}, (∀ b ∈ p, b < 256) → (∀ b ∈ q, b < 256) → ∀ b ∈ p ++ q, b < 256 := fun hp hq b hb => (List.mem_append.1 hb).elim (hp b) (hq b)
  obtain ⟨t3, b3, z3⟩ := sub (vary n3 ++ bl rest) (mem (lv n3) lr)
  obtain ⟨t2, b2, z2⟩ := sub (vary n2 ++ (vary n3 ++ bl rest)) (mem (lv n2) (mem (lv n3) lr))
  obtain ⟨t1, b1, z1⟩ := sub (vary n1 ++ (vary n2 ++ (vary n3 ++ bl rest))) (mem (lv n1) (mem (lv n2) (mem (lv n3) lr)))
  have hl : s.size = (vary n0).length + ((vary n1).length + ((vary n2).length + ((vary n3).length + (bl rest).length))) := by
    rw [← bl_length, hs]; unfold rv
    simp only [List.length_append]; omega
  simp only [List.length_append] at z1 z2 z3
  have e3 : pack_Reader_Vary.f k s false = some ((n0 : Int), t1, false) := ReaderVary_good (by omega) (by omega) (by rw [hs, b1]; unfold rv; simp) hk
  have e4 : pack_Reader_Vary.f k t1 false = some ((n1 : Int), t2, false) := ReaderVary_good (by omega) (by omega) (by rw [b1, b2]) hk
  have e5 : pack_Reader_Vary.f k t2 false = some ((n2 : Int), t3, false) := ReaderVary_good (by omega) (by omega) (by rw [b2, b3]) hk
  have e6 : pack_Reader_Vary.f k t3 false = some ((n3 : Int), rest, false) := ReaderVary_good (by omega) (by omega) (by rw [b3]) hk
  unfold vec_Get.f
  simp only [e3, e4, e5, e6, Option.bind_some, vright_f]
  rw [if_neg (by simp), if_pos (decide_eq_true (by omega))]
/-- What is got without a mark stands there. -/
theorem vget_sound {s : ByteArray} (hz : s.size ≤ 9223372036854775807) {k : Nat} (hk : 22 ≤ k) : ∃ v0 v1 v2 v3 t c, vec_Get.f k s false = some (v0, v1, v2, v3, t, c) ∧
    (c = false → ∃ n0 n1 n2 n3 : Nat, (n0 ≤ 1152921504606846976 ∧ n1 ≤ 1152921504606846976 ∧ n2 ≤ 1152921504606846976 ∧ n3 ≤ 1152921504606846976) ∧ bl s = rv n0 n1 n2 n3 ++ bl t) := by
  obtain ⟨v0, v1, v2, v3, t, c, e, _, h⟩ := vget_step (s := s) (b := false) hz hk
  refine ⟨v0, v1, v2, v3, t, c, e, fun hc => ?_⟩
  obtain ⟨_, n0, n1, n2, n3, hb, _, _, _, _, hs⟩ := h hc
  exact ⟨n0, n1, n2, n3, hb, by rw [hs]; unfold rv; simp⟩
theorem vget_cut {n0 n1 n2 n3 m : Nat} {s : ByteArray} (hz : s.size ≤ 9223372036854775807) (hs : bl s = rv n0 n1 n2 n3) (hm : m < s.size) {k : Nat} (hk : 22 ≤ k) :
    ∃ v0 v1 v2 v3 t, vec_Get.f k (s.extract 0 m) false = some (v0, v1, v2, v3, t, true) := by
  obtain ⟨v0, v1, v2, v3, t, c, e, h⟩ := vget_sound (s := s.extract 0 m) (by simp; omega) hk
  cases c with
  | true => exact ⟨v0, v1, v2, v3, t, e⟩
  | false =>
    exfalso
    obtain ⟨m0, m1, m2, m3, _, hq⟩ := h rfl
    have e : rv n0 n1 n2 n3 ++ [] = rv m0 m1 m2 m3 ++ (bl t ++ (bl s).drop m) := by
      rw [← List.append_assoc, ← hq, bl_take, List.take_append_drop, List.append_nil, hs]
    have := (rv_prefix e).2.2.2.2
    have := congrArg List.length this
    simp only [List.length_nil, List.length_append, List.length_drop, bl_length] at this
    omega
theorem vget_bad {n0 n1 n2 n3 : Nat} {s rest : ByteArray} (hz : s.size ≤ 9223372036854775807) (hs : bl s = rv n0 n1 n2 n3 ++ bl rest)
    (hn : ¬ (n0 ≤ 1152921504606846976 ∧ n1 ≤ 1152921504606846976 ∧ n2 ≤ 1152921504606846976 ∧ n3 ≤ 1152921504606846976)) {k : Nat} (hk : 22 ≤ k) :
    ∃ v0 v1 v2 v3 t, vec_Get.f k s false = some (v0, v1, v2, v3, t, true) := by
  obtain ⟨v0, v1, v2, v3, t, c, e, h⟩ := vget_sound (s := s) hz hk
  cases c with
  | true => exact ⟨v0, v1, v2, v3, t, e⟩
  | false =>
    exfalso
    obtain ⟨m0, m1, m2, m3, hb, hq⟩ := h rfl
    obtain ⟨rfl, rfl, rfl, rfl, _⟩ := rv_prefix (hs.symm.trans hq)
    exact hn hb
end Go.Proofs.YtdlagefpglhdoaaDoor.Pure

/- Numbers of a fixed size: what package pack answers. -/
set_option linter.unusedVariables false
set_option linter.unusedSimpArgs false
namespace Go.Proofs.YtdlagefpglhdoaaDoor.Pure
open Go.RowKit Go.Proofs.YtdlagefpglhdoaaDoor.Q Go.Proofs.YtdlagefpglhdoaaDoorW.PrintWords Go.Proofs.YtdlagefpglhdoaaDoorW.PrintLast Go.Proofs.YtdlagefpglhdoaaDoorW.PrintMore Go.Proofs.YtdlagefpglhdoaaDoor.Plain

/-! ### numbers of a fixed size -/
def nb (n k : Nat) : ByteArray := strOfNums (NL (be k n))
theorem bl_nb (n k : Nat) : bl (nb n k) = be k n := bl_str _ (be_lt k n)
theorem nb_size (n k : Nat) : (nb n k).size = k := by rw [← bl_length, bl_nb, be_len]
theorem numL_be (n k : Nat) : numL (n : Int) k = NL (be k n) := by
  unfold numL NL
  have h : be k n = (List.range k).map fun j => n / 256 ^ (k - 1 - j) % 256 := by
    induction k with
    | zero => rfl
    | succ k ih =>
      rw [List.range_succ_eq_map, List.map_cons, List.map_map]
      simp only [be]
      congr 1
      rw [ih]
      apply List.map_congr_left
      intro j hj
      have := List.mem_range.1 hj
      simp only [Function.comp]
      rw [show k - 1 - j = k + 1 - 1 - (j + 1) by omega]
  rw [h, List.map_map]
  apply List.map_congr_left
  intro j hj
  simp only [Function.comp, Nat.pow_mul, Int.natCast_emod, Int.natCast_ediv]
  rfl
theorem Number_f (n : Nat) (k : Int) (h1 : 1 ≤ k) (h8 : k ≤ 8) : pack_Number.f (n : Int) k = some (nb n k.toNat) := by
  unfold pack_Number.f
  rw [if_neg (by omega), if_neg (by omega), numL_be]; rfl
theorem Number_none (x : Int) (k : Int) (h : k < 1 ∨ 8 < k) : pack_Number.f x k = some ⟨#[]⟩ := by
  unfold pack_Number.f
  by_cases h1 : k < 1
  · rw [if_pos h1]
  · rw [if_neg h1, if_pos (by omega)]
theorem rnum_bev (s : ByteArray) (k : Nat) (hk : k ≤ 8) (hs : k ≤ s.size) : rnum s k = ((bev ((bl s).take k) : Nat) : Int) := by
  induction k with
  | zero => rfl
  | succ k ih =>
    have ih := ih (by omega) (by omega)
    obtain ⟨c, hc, hbt, hc256⟩ := bt_bl s k (by omega)
    have hlt := bev_lt ((bl s).take k) (fun b hb => bl_lt s b (List.mem_of_mem_take hb))
    have hll : ((bl s).take k).length = k := by rw [List.length_take, bl_length]; omega
    rw [hll] at hlt
    have hp : 256 ^ k ≤ 256 ^ 7 := Nat.pow_le_pow_right (by omega) (by omega)
    simp only [rnum]
    rw [ih, hbt, List.take_add_one, hc]
    simp only [Option.toList]
    rw [bev_snoc]
    generalize bev ((bl s).take k) = v at *
    rw [wrap_u64 (by omega) (by omega), wrap_u64 (by omega) (by omega)]
    have e : (v : Int) * 256 = ((2 ^ 8 * v : Nat) : Int) := by omega
    rw [e, u64_or_nat _ _ (by omega) (by omega)]
    rw [Nat.mul_comm v 256]
    congr 1
    exact (Nat.two_pow_add_eq_or_of_lt (i := 8) (by omega) v).symm
/-- What a reader answers that is asked for a number of so many bytes. -/
theorem ReaderNumber_good {s : ByteArray} {k : Int} (h1 : 1 ≤ k) (h8 : k ≤ 8) (hs : k ≤ (s.size : Int)) (hz : s.size ≤ 9223372036854775807) :
    pack_Reader_Number.f s false k = some (((bev ((bl s).take k.toNat) : Nat) : Int), s.extract k.toNat s.size, false) := by
  unfold pack_Reader_Number.f
  rw [if_pos hz, if_neg (by simp), if_neg (show ¬ k < 1 by omega), if_neg (show ¬ 8 < k by omega), if_neg (show ¬ (s.size : Int) < k by omega), rnum_bev s k.toNat (by omega) (by omega)]
theorem ReaderNumber_bad {s : ByteArray} {b : Bool} {k : Int} (h : b = true ∨ k < 1 ∨ 8 < k ∨ (s.size : Int) < k) (hz : s.size ≤ 9223372036854775807) :
    pack_Reader_Number.f s b k = some (0, ⟨#[]⟩, true) := by
  unfold pack_Reader_Number.f
  rw [if_pos hz]
  cases b with
  | true => rw [if_pos rfl]
  | false =>
    rw [if_neg (by simp)]
    by_cases c1 : k < 1
    · rw [if_pos c1]
    · rw [if_neg c1]
      by_cases c2 : 8 < k
      · rw [if_pos c2]
      · rw [if_neg c2, if_pos (show (s.size : Int) < k by simp at h; omega)]
end Go.Proofs.YtdlagefpglhdoaaDoor.Pure

/- The text of a vector: each number's digits, commas between. -/
set_option linter.unusedVariables false
set_option linter.unusedSimpArgs false
namespace Go.Proofs.YtdlagefpglhdoaaDoor.Pure
open Go.RowKit Go.Proofs.YtdlagefpglhdoaaDoor.Q Go.Proofs.YtdlagefpglhdoaaDoorW.PrintWords Go.Proofs.YtdlagefpglhdoaaDoorW.PrintLast Go.Proofs.YtdlagefpglhdoaaDoorW.PrintMore Go.Proofs.YtdlagefpglhdoaaDoor.Plain

/-- A number's digits. -/
def dl (n : Nat) : List Nat := (Lib.decDigits n).map UInt8.toNat
theorem dl_small {n : Nat} (h : n < 10) : dl n = [48 + n] := by
  unfold dl
  rw [Lib.decDigits, dif_pos h]
  simp
  omega
theorem dl_big {n : Nat} (h : ¬ n < 10) : dl n = dl (n / 10) ++ [48 + n % 10] := by
  unfold dl
  rw [Lib.decDigits, dif_neg h]
  simp
  omega
theorem bl_num {n : Nat} (h : n < 18446744073709551616) : bl (vec_Text.num n) = dl n := by
  rw [vec_Text.num_eq h]
  rfl
theorem dl_range (n : Nat) : ∀ b ∈ dl n, 48 ≤ b ∧ b ≤ 57 := by
  induction n using Nat.strongRecOn with
  | ind n ih =>
    intro b hb
    by_cases c : n < 10
    · rw [dl_small c] at hb
      simp at hb
      omega
    · rw [dl_big c] at hb
      rcases List.mem_append.1 hb with h | h
      · exact ih (n / 10) (by omega) b h
      · simp at h; omega
theorem dl_ne (n : Nat) : dl n ≠ [] := by
  by_cases c : n < 10
  · rw [dl_small c]; simp
  · rw [dl_big c]; simp
theorem dl_inj : ∀ n m : Nat, dl n = dl m → n = m := by
  intro n
  induction n using Nat.strongRecOn with
  | ind n ih =>
    intro m h
    by_cases c : n < 10
    · by_cases d : m < 10
      · rw [dl_small c, dl_small d] at h
        simp at h
        exact h
      · exfalso
        rw [dl_small c, dl_big d] at h
        have h := congrArg List.length h
        have := List.length_pos_iff.2 (dl_ne (m / 10))
        simp at h
        exact dl_ne _ h
    · by_cases d : m < 10
      · exfalso
        rw [dl_big c, dl_small d] at h
        have h := congrArg List.length h
        simp at h
        exact dl_ne _ h
      · rw [dl_big c, dl_big d] at h
        obtain ⟨h1, h2⟩ := List.append_inj' h rfl
        have := ih (n / 10) (by omega) (m / 10) h1
        simp at h2
        omega
theorem comma {l r l' r' : List Nat} (h : l ++ 44 :: r = l' ++ 44 :: r') (hl : ∀ b ∈ l, 48 ≤ b ∧ b ≤ 57) (hl' : ∀ b ∈ l', 48 ≤ b ∧ b ≤ 57) : l = l' ∧ r = r' := by
  induction l generalizing l' with
  | nil =>
    cases l' with
    | nil => simp at h; exact ⟨rfl, h⟩
    | cons y t =>
      simp at h
      have := hl' y (by simp)
      omega
  | cons x s ih =>
    cases l' with
    | nil =>
      simp at h
      have := hl x (by simp)
      omega
    | cons y t =>
      simp only [List.cons_append, List.cons.injEq] at h
      obtain ⟨rfl, h⟩ := h
      obtain ⟨rfl, e⟩ := ih h (fun b hb => hl b (by simp [hb])) (fun b hb => hl' b (by simp [hb]))
      exact ⟨rfl, e⟩
theorem bl_txt {a b c d : Nat} (ha : a < 18446744073709551616) (hb : b < 18446744073709551616) (hc : c < 18446744073709551616) (hd : d < 18446744073709551616) :
    bl (vec_Text.txt a b c d) = dl a ++ 44 :: (dl b ++ 44 :: (dl c ++ 44 :: dl d)) := by
  have hcom : bl vec_Text.com = [44] := rfl
  unfold vec_Text.txt
  simp only [bl_append, bl_num ha, bl_num hb, bl_num hc, bl_num hd, hcom]
  simp
theorem txt_inj {a b c d x y z u : Nat} (ha : a < 18446744073709551616) (hb : b < 18446744073709551616) (hc : c < 18446744073709551616) (hd : d < 18446744073709551616)
    (hx : x < 18446744073709551616) (hy : y < 18446744073709551616) (hz : z < 18446744073709551616) (hu : u < 18446744073709551616) (h : vec_Text.txt a b c d = vec_Text.txt x y z u) : a = x ∧ b = y ∧ c = z ∧ d = u := by
  have h := congrArg bl h
  rw [bl_txt ha hb hc hd, bl_txt hx hy hz hu] at h
  obtain ⟨h0, h⟩ := comma h (dl_range _) (dl_range _)
  obtain ⟨h1, h⟩ := comma h (dl_range _) (dl_range _)
  obtain ⟨h2, h⟩ := comma h (dl_range _) (dl_range _)
  exact ⟨dl_inj _ _ h0, dl_inj _ _ h1, dl_inj _ _ h2, dl_inj _ _ h⟩
theorem g_f {a b c d : Nat} (ha : a < 18446744073709551616) (hb : b < 18446744073709551616) (hc : c < 18446744073709551616) (hd : d < 18446744073709551616) :
    BigText.g a b c d = some (vec_Text.txt a b c d) := by
  unfold BigText.g
  rw [if_pos ⟨by omega, by omega, by omega, by omega⟩]
  simp only [Int.toNat_natCast]
end Go.Proofs.YtdlagefpglhdoaaDoor.Pure

-- Written by this session's own driver (wip/hybrid.py) of the kit's printer; contracts marked FOREIGN are by hand.
namespace Go.Proofs.YtdlagefpglhdoaaDoor.Q
open Go.RowKit Go.Proofs.YtdlagefpglhdoaaDoorW.PrintWords Go.Proofs.YtdlagefpglhdoaaDoorW.PrintLast Go.Proofs.YtdlagefpglhdoaaDoorW.PrintMore
attribute [local go_sem] max2_int min2_int max_two min_two max_three min_three max_four min_four   -- for this text's walks alone
set_option linter.unusedVariables false
set_option linter.unusedSimpArgs false

/-! ### tenementref06_Digits: function 70 -/
def tenementref06_Digits.l0 : Nat → Int → ByteArray → Option (ByteArray)
  | 0, _, _ => none
  | k + 1, x0, x3 => if x0 > 9 then ((some (([(IntKind.u64.wrap (48 + (Int.tmod (IntKind.u64.wrap (Int.tdiv x0 10)) 10))) % 256] : List Int) : List Int)).bind fun y261 => (if (strOfNums y261).size + x3.size ≤ 9223372036854775807 then (tenementref06_Digits.l0 k (IntKind.u64.wrap (Int.tdiv x0 10)) ((strOfNums y261) ++ x3)) else (none))) else (some x3)
def tenementref06_Digits.f (k : Nat) (a0 : Int) : Option (ByteArray) := tenementref06_Digits.l0 k a0 (strOfNums (([(IntKind.u64.wrap (48 + (Int.tmod a0 10))) % 256] : List Int)))
theorem tenementref06_Digits.mono_l : ∀ k, (∀ y0 y1, LeO (tenementref06_Digits.l0 k y0 y1) (tenementref06_Digits.l0 (k + 1) y0 y1))
  | 0 => fun _ _ r h => by simp [tenementref06_Digits.l0] at h
  | k + 1 => by
    have ih0 := tenementref06_Digits.mono_l k
    · intro y0 y1
      unfold tenementref06_Digits.l0
      repeat' first
      | (with_reducible exact ih0 _ _)
      | (with_reducible exact LeO.refl _)
      | (with_reducible exact LeO.none _)
      | (with_reducible refine LeO.ite ?_ ?_)
      | (with_reducible refine LeO.bind ?_ (fun _ => ?_))
      | exact ih0 _ _
      | exact LeO.none _
      | refine LeO.ite ?_ ?_
      | refine LeO.bind ?_ (fun _ => ?_)
theorem tenementref06_Digits.mono : ∀ a0 k, LeO (tenementref06_Digits.f k a0) (tenementref06_Digits.f (k + 1) a0) := by
  intro a0 k
  have ih0 := tenementref06_Digits.mono_l k
  unfold tenementref06_Digits.f
  repeat' first
      | (with_reducible exact ih0 _ _)
      | (with_reducible exact LeO.refl _)
      | (with_reducible exact LeO.none _)
      | (with_reducible refine LeO.ite ?_ ?_)
      | (with_reducible refine LeO.bind ?_ (fun _ => ?_))
      | exact ih0 _ _
      | exact LeO.none _
      | refine LeO.ite ?_ ?_
      | refine LeO.bind ?_ (fun _ => ?_)
set_option maxHeartbeats 8000000 in
set_option maxRecDepth 100000 in
theorem tenementref06_Digits.calls (k : Nat) (a0 : Int) (r : ByteArray) (w : World) (h : tenementref06_Digits.f k a0 = some r) :
    Calls Tryd.prog 70 #[.int .u64 a0] w fun e w' => e = .returned (.string r) ∧ Below w.heap.size w w' := by
  have HB := Aside0.mk (Below.refl w.heap.size w)
  have H : (tenementref06_Digits.l0 k a0 (strOfNums (([(IntKind.u64.wrap (48 + (Int.tmod a0 10))) % 256] : List Int)))) = some r := h
  clear h
  obtain ⟨y258, hy258⟩ : ∃ y_ : List Int, y_ = (([(IntKind.u64.wrap (48 + (Int.tmod a0 10))) % 256] : List Int)) := ⟨_, rfl⟩
  replace H : (tenementref06_Digits.l0 k a0 (strOfNums y258)) = some r := by first | (rw [hy258]; with_reducible exact H) | (have H2_ := (Option.bind_some _ _).symm.trans H; rw [hy258]; with_reducible exact H2_) | (have H2_ := (Option.bind_some _ _).symm.trans H; with_reducible exact H2_) | with_reducible exact H | (rw [hy258]; exact H) | exact H
  have Ny258 := Aside0.mk hy258
  clear hy258
  have H' := Aside0.mk H
  clear H
  go_enter Tryd.func70, Tryd.ntmps70
  go_wp2_with (first | ((with_reducible refine gate_dst (N := 8) rfl ?_); refine Kd.R_lit (Kd.int .u8) _ 5 ?hg (N := 8) ?hd (xs := ([(IntKind.u64.wrap (48 + (Int.tmod a0 10))) % 256] : List Int)) (inner := [.int .u8 ((IntKind.u64.wrap (48 + (Int.tmod a0 10))) % 256)]) (ok := fun _ => True) (okp := fun _ => True) ?hr ?hp (fun _ hk => hk) trivial (Below.refl _ _) (Nat.le_refl _) (by simp) ?_; (case hd => rfl); (case hg => rfl); (case hr => first | (go_simp; done) | (go_simp; rfl)); (case hp => exact (Reps.one (show Kd.M (Kd.int .u8) _ _ _ ((IntKind.u64.wrap (48 + (Int.tmod a0 10))) % 256) [.int .u8 ((IntKind.u64.wrap (48 + (Int.tmod a0 10))) % 256)] from rfl) (Reps.none _ _))); intro v259 w2 ho3 hb hg_ hnew_; clear hg_ hnew_; (first | rw [← Ny258.out] at ho3 | (simp only [Int.reduceToNat] at ho3; rw [← Ny258.out] at ho3)); have HO260 := Aside0.mk (Kd.R_lower ho3 (below_size (by repeat (first | (with_reducible first | exact HB.out | apply below_alloc | apply pw_below_drewN | apply below_drew1) | exact HB.out)))); replace HB := Ks_ HB hb; clear hb ho3; have hcv4 := own_string (P := Tryd.prog) Tryd.underlying88 Tryd.underlying5 Tryd.underlying9 (Kd.own_of_R HO260.out)))
  go_loopg [0, 3] k (fun kq v0 v3 w' => ∃ (x0_1 : Int) (x3_1 : ByteArray), v0 = .int .u64 x0_1 ∧ v3 = .string x3_1 ∧ Aside0 (tenementref06_Digits.l0 kq x0_1 x3_1 = some r) ∧ Aside0 (kq ≤ k) ∧ Aside0 (Below w.heap.size w w'))
  case atStart => exact ⟨(a0), (strOfNums y258), (by first | rfl | (simp; done) | (simp [*]; done)), (by first | rfl | (simp; done) | (simp [*]; done)), H', ⟨Nat.le_refl _⟩, ⟨by repeat (first | (with_reducible first | exact HB.out | apply below_alloc | apply pw_below_drewN | apply below_drew1) | exact HB.out)⟩⟩
  case round =>
    clear H'
    try clear p2
    try clear hcv4
    obtain ⟨x0_1, x3_1, rfl, rfl, HA, HK1, HB⟩ := hrel
    cases gk with
    | zero => exact absurd HA.out (by simp [tenementref06_Digits.l0])
    | succ k1 =>
      have H := HA.out
      clear HA
      simp only [tenementref06_Digits.l0] at H
      by_cases c5 : x0_1 > 9
      rotate_left
      · rw [if_neg c5] at H
        have c5b0 : decide (9 < x0_1) = false := decide_eq_false c5
        clear c5
        obtain rfl := Option.some.inj H
        go_wp2
        go_ret
        exact ⟨by first | rfl | (simp [errW_none, errW_some] <;> rfl) | (simp [*, errW_none, errW_some] <;> rfl), by repeat (first | (with_reducible first | exact HB.out | apply below_alloc | apply pw_below_drewN | apply below_drew1) | exact HB.out)⟩
      rw [if_pos c5] at H
      have c5b0 : decide (9 < x0_1) = true := decide_eq_true c5
      clear c5
      obtain ⟨y261, hy261⟩ : ∃ y_ : List Int, y_ = (([(IntKind.u64.wrap (48 + (Int.tmod (IntKind.u64.wrap (Int.tdiv x0_1 10)) 10))) % 256] : List Int)) := ⟨_, rfl⟩
      replace H : (if (strOfNums y261).size + x3_1.size ≤ 9223372036854775807 then (tenementref06_Digits.l0 k1 (IntKind.u64.wrap (Int.tdiv x0_1 10)) ((strOfNums y261) ++ x3_1)) else (none)) = some r := by first | (rw [hy261]; with_reducible exact H) | (have H2_ := (Option.bind_some _ _).symm.trans H; rw [hy261]; with_reducible exact H2_) | (have H2_ := (Option.bind_some _ _).symm.trans H; with_reducible exact H2_) | with_reducible exact H | (rw [hy261]; exact H) | exact H
      have Ny261 := Aside0.mk hy261
      clear hy261
      by_cases c6 : (strOfNums y261).size + x3_1.size ≤ 9223372036854775807
      rotate_left
      · rw [if_neg c6] at H
        exact absurd H (by simp)
      rw [if_pos c6] at H
      have c6b0 := eq_true c6
      have c6b1 : decide ((strOfNums y261).size + x3_1.size ≤ 9223372036854775807) = true := decide_eq_true c6
      try have c6b2 : (9223372036854775807 < (strOfNums y261).size + x3_1.size) = False := eq_false (Nat.not_lt.2 c6)
      have H' := Aside0.mk H
      clear H
      go_wp2_with (first | ((with_reducible refine gate_dst (N := 18) rfl ?_); refine Kd.R_lit (Kd.int .u8) _ 5 ?hg (N := 18) ?hd (xs := ([(IntKind.u64.wrap (48 + (Int.tmod (IntKind.u64.wrap (Int.tdiv x0_1 10)) 10))) % 256] : List Int)) (inner := [.int .u8 ((IntKind.u64.wrap (48 + (Int.tmod (IntKind.u64.wrap (Int.tdiv x0_1 10)) 10))) % 256)]) (ok := fun _ => True) (okp := fun _ => True) ?hr ?hp (fun _ hk => hk) trivial (Below.refl _ _) (Nat.le_refl _) (by simp) ?_; (case hd => rfl); (case hg => rfl); (case hr => first | (go_simp; done) | (go_simp; rfl)); (case hp => exact (Reps.one (show Kd.M (Kd.int .u8) _ _ _ ((IntKind.u64.wrap (48 + (Int.tmod (IntKind.u64.wrap (Int.tdiv x0_1 10)) 10))) % 256) [.int .u8 ((IntKind.u64.wrap (48 + (Int.tmod (IntKind.u64.wrap (Int.tdiv x0_1 10)) 10))) % 256)] from rfl) (Reps.none _ _))); intro v262 w7 ho8 hb hg_ hnew_; clear hg_ hnew_; (first | rw [← Ny261.out] at ho8 | (simp only [Int.reduceToNat] at ho8; rw [← Ny261.out] at ho8)); have HO263 := Aside0.mk (Kd.R_lower ho8 (below_size (by repeat (first | (with_reducible first | exact HB.out | apply below_alloc | apply pw_below_drewN | apply below_drew1) | exact HB.out)))); replace HB := Ks_ HB hb; clear hb ho8; have hcv9 := own_string (P := Tryd.prog) Tryd.underlying88 Tryd.underlying5 Tryd.underlying9 (Kd.own_of_R HO263.out)))
      go_roundg k1
      case measure => have := HK1.out; omega
      case rel => exact ⟨(IntKind.u64.wrap (Int.tdiv x0_1 10)), ((strOfNums y261) ++ x3_1), (by first | rfl | (simp; done) | (simp [*]; done)), (by first | rfl | (simp; done) | (simp [*]; done)), H', ⟨by have := HK1.out; omega⟩, ⟨by repeat (first | (with_reducible first | exact HB.out | apply below_alloc | apply pw_below_drewN | apply below_drew1) | exact HB.out)⟩⟩

end Go.Proofs.YtdlagefpglhdoaaDoor.Q

-- Written by this session's own driver (wip/hybrid.py) of the kit's printer; contracts marked FOREIGN are by hand.
namespace Go.Proofs.YtdlagefpglhdoaaDoor.Q
open Go.RowKit Go.Proofs.YtdlagefpglhdoaaDoorW.PrintWords Go.Proofs.YtdlagefpglhdoaaDoorW.PrintLast Go.Proofs.YtdlagefpglhdoaaDoorW.PrintMore
attribute [local go_sem] max2_int min2_int max_two min_two max_three min_three max_four min_four   -- for this text's walks alone
set_option linter.unusedVariables false
set_option linter.unusedSimpArgs false

/-! ### tenementref06_Text: function 54 -/
def tenementref06_Text.f (k : Nat) (a0_0 : Int) (a0_1 : Int) (a0_2 : Int) (a0_3 : Int) : Option (ByteArray) := (tenementref06_Digits.f k a0_0).bind fun t267 => (if t267.size + 1 ≤ 9223372036854775807 then ((tenementref06_Digits.f k a0_1).bind fun t268 => (if (t267 ++ (⟨#[44]⟩ : ByteArray)).size + t268.size ≤ 9223372036854775807 then (if ((t267 ++ (⟨#[44]⟩ : ByteArray)) ++ t268).size + 1 ≤ 9223372036854775807 then ((tenementref06_Digits.f k a0_2).bind fun t269 => (if (((t267 ++ (⟨#[44]⟩ : ByteArray)) ++ t268) ++ (⟨#[44]⟩ : ByteArray)).size + t269.size ≤ 9223372036854775807 then (if ((((t267 ++ (⟨#[44]⟩ : ByteArray)) ++ t268) ++ (⟨#[44]⟩ : ByteArray)) ++ t269).size + 1 ≤ 9223372036854775807 then ((tenementref06_Digits.f k a0_3).bind fun t270 => (if (((((t267 ++ (⟨#[44]⟩ : ByteArray)) ++ t268) ++ (⟨#[44]⟩ : ByteArray)) ++ t269) ++ (⟨#[44]⟩ : ByteArray)).size + t270.size ≤ 9223372036854775807 then (some ((((((t267 ++ (⟨#[44]⟩ : ByteArray)) ++ t268) ++ (⟨#[44]⟩ : ByteArray)) ++ t269) ++ (⟨#[44]⟩ : ByteArray)) ++ t270)) else (none))) else (none)) else (none))) else (none)) else (none))) else (none))
theorem tenementref06_Text.mono : ∀ a0 a1 a2 a3 k, LeO (tenementref06_Text.f k a0 a1 a2 a3) (tenementref06_Text.f (k + 1) a0 a1 a2 a3) := by
  intro a0 a1 a2 a3 k
  unfold tenementref06_Text.f
  repeat' first
      | (with_reducible exact tenementref06_Digits.mono _ _)
      | (with_reducible exact LeO.refl _)
      | (with_reducible exact LeO.none _)
      | (with_reducible refine LeO.ite ?_ ?_)
      | (with_reducible refine LeO.bind ?_ (fun _ => ?_))
      | exact tenementref06_Digits.mono _ _
      | exact LeO.none _
      | refine LeO.ite ?_ ?_
      | refine LeO.bind ?_ (fun _ => ?_)
def tenementref06_Text.T1 : Bool × List (List Nat × List Nat) := (true, [([], []), ([0], [0]), ([1], [1]), ([2], [2]), ([], []), ([4], [4]), ([5, 2], [5]), ([3, 6], [3, 6]), ([7], [7]), ([], []), ([9], [9]), ([10, 6], [10]), ([8, 11], [8, 11]), ([12], [12]), ([], []), ([14], [14]), ([15, 11], [15]), ([13, 16], [13, 16]), ([17, 16, 0, 1, 2, 3, 4, 5, 6, 7, 8, 9, 10, 11, 12, 13, 14, 15, 16, 17], [17])])
def tenementref06_Text.B1 : List Nat := [0, 1, 3, 7, 0, 16, 55, 127, 255, 0, 512, 1655, 4095, 8191, 0, 16384, 52855, 131071, 262143]
theorem tenementref06_Text.tab1 : rtab .any (opsOf Tryd.f54 1) = tenementref06_Text.T1 := by kernel_rfl
theorem tenementref06_Text.bits1 : waitsOk tenementref06_Text.T1.2 tenementref06_Text.B1 = true := by kernel_rfl
set_option maxHeartbeats 8000000 in
set_option maxRecDepth 100000 in
theorem tenementref06_Text.calls (k : Nat) (a0_0 : Int) (a0_1 : Int) (a0_2 : Int) (a0_3 : Int) (r : ByteArray) (w : World) (h : tenementref06_Text.f k a0_0 a0_1 a0_2 a0_3 = some r) :
    Calls Tryd.prog 54 #[.agg #[.int .u64 a0_0, .int .u64 a0_1, .int .u64 a0_2, .int .u64 a0_3]] w fun e w' => e = .returned (.string r) ∧ Below w.heap.size w w' := by
  have hu37 := Tryd.underlying37
  have HB := Aside0.mk (Below.refl w.heap.size w)
  have H : ((tenementref06_Digits.f k a0_0).bind fun t267 => (if t267.size + 1 ≤ 9223372036854775807 then ((tenementref06_Digits.f k a0_1).bind fun t268 => (if (t267 ++ (⟨#[44]⟩ : ByteArray)).size + t268.size ≤ 9223372036854775807 then (if ((t267 ++ (⟨#[44]⟩ : ByteArray)) ++ t268).size + 1 ≤ 9223372036854775807 then ((tenementref06_Digits.f k a0_2).bind fun t269 => (if (((t267 ++ (⟨#[44]⟩ : ByteArray)) ++ t268) ++ (⟨#[44]⟩ : ByteArray)).size + t269.size ≤ 9223372036854775807 then (if ((((t267 ++ (⟨#[44]⟩ : ByteArray)) ++ t268) ++ (⟨#[44]⟩ : ByteArray)) ++ t269).size + 1 ≤ 9223372036854775807 then ((tenementref06_Digits.f k a0_3).bind fun t270 => (if (((((t267 ++ (⟨#[44]⟩ : ByteArray)) ++ t268) ++ (⟨#[44]⟩ : ByteArray)) ++ t269) ++ (⟨#[44]⟩ : ByteArray)).size + t270.size ≤ 9223372036854775807 then (some ((((((t267 ++ (⟨#[44]⟩ : ByteArray)) ++ t268) ++ (⟨#[44]⟩ : ByteArray)) ++ t269) ++ (⟨#[44]⟩ : ByteArray)) ++ t270)) else (none))) else (none)) else (none))) else (none)) else (none))) else (none))) = some r := h
  (try (have Hs_ := H; simp only [ByteArray.size_append, Int.natCast_add] at Hs_))
  clear h
  replace H := Option.bind_eq_some_iff.mp H
  obtain ⟨t267, A20, H⟩ := H
  replace H : (if t267.size + 1 ≤ 9223372036854775807 then ((tenementref06_Digits.f k a0_1).bind fun t268 => (if (t267 ++ (⟨#[44]⟩ : ByteArray)).size + t268.size ≤ 9223372036854775807 then (if ((t267 ++ (⟨#[44]⟩ : ByteArray)) ++ t268).size + 1 ≤ 9223372036854775807 then ((tenementref06_Digits.f k a0_2).bind fun t269 => (if (((t267 ++ (⟨#[44]⟩ : ByteArray)) ++ t268) ++ (⟨#[44]⟩ : ByteArray)).size + t269.size ≤ 9223372036854775807 then (if ((((t267 ++ (⟨#[44]⟩ : ByteArray)) ++ t268) ++ (⟨#[44]⟩ : ByteArray)) ++ t269).size + 1 ≤ 9223372036854775807 then ((tenementref06_Digits.f k a0_3).bind fun t270 => (if (((((t267 ++ (⟨#[44]⟩ : ByteArray)) ++ t268) ++ (⟨#[44]⟩ : ByteArray)) ++ t269) ++ (⟨#[44]⟩ : ByteArray)).size + t270.size ≤ 9223372036854775807 then (some ((((((t267 ++ (⟨#[44]⟩ : ByteArray)) ++ t268) ++ (⟨#[44]⟩ : ByteArray)) ++ t269) ++ (⟨#[44]⟩ : ByteArray)) ++ t270)) else (none))) else (none)) else (none))) else (none)) else (none))) else (none)) = some r := H
  have A2 := Aside0.mk A20
  clear A20
  by_cases c3 : t267.size + 1 ≤ 9223372036854775807
  rotate_left
  · rw [if_neg c3] at H
    exact absurd H (by simp)
  rw [if_pos c3] at H
  have c3b0 := eq_true c3
  have c3b1 : decide (t267.size + 1 ≤ 9223372036854775807) = true := decide_eq_true c3
  try have c3b2 : (9223372036854775807 < t267.size + 1) = False := eq_false (Nat.not_lt.2 c3)
  replace H := Option.bind_eq_some_iff.mp H
  obtain ⟨t268, A40, H⟩ := H
  replace H : (if (t267 ++ (⟨#[44]⟩ : ByteArray)).size + t268.size ≤ 9223372036854775807 then (if ((t267 ++ (⟨#[44]⟩ : ByteArray)) ++ t268).size + 1 ≤ 9223372036854775807 then ((tenementref06_Digits.f k a0_2).bind fun t269 => (if (((t267 ++ (⟨#[44]⟩ : ByteArray)) ++ t268) ++ (⟨#[44]⟩ : ByteArray)).size + t269.size ≤ 9223372036854775807 then (if ((((t267 ++ (⟨#[44]⟩ : ByteArray)) ++ t268) ++ (⟨#[44]⟩ : ByteArray)) ++ t269).size + 1 ≤ 9223372036854775807 then ((tenementref06_Digits.f k a0_3).bind fun t270 => (if (((((t267 ++ (⟨#[44]⟩ : ByteArray)) ++ t268) ++ (⟨#[44]⟩ : ByteArray)) ++ t269) ++ (⟨#[44]⟩ : ByteArray)).size + t270.size ≤ 9223372036854775807 then (some ((((((t267 ++ (⟨#[44]⟩ : ByteArray)) ++ t268) ++ (⟨#[44]⟩ : ByteArray)) ++ t269) ++ (⟨#[44]⟩ : ByteArray)) ++ t270)) else (none))) else (none)) else (none))) else (none)) else (none)) = some r := H
  have A4 := Aside0.mk A40
  clear A40
  by_cases c5 : (t267 ++ (⟨#[44]⟩ : ByteArray)).size + t268.size ≤ 9223372036854775807
  rotate_left
  · rw [if_neg c5] at H
    exact absurd H (by simp)
  rw [if_pos c5] at H
  have c5b0 := eq_true c5
  (try (have c5b0s_ := c5b0; simp only [ByteArray.size_append, Int.natCast_add, show (⟨#[44]⟩ : ByteArray).size = 1 from rfl] at c5b0s_))
  have c5b1 : decide ((t267 ++ (⟨#[44]⟩ : ByteArray)).size + t268.size ≤ 9223372036854775807) = true := decide_eq_true c5
  (try (have c5b1s_ := c5b1; simp only [ByteArray.size_append, Int.natCast_add, show (⟨#[44]⟩ : ByteArray).size = 1 from rfl] at c5b1s_))
  try have c5b2 : (9223372036854775807 < (t267 ++ (⟨#[44]⟩ : ByteArray)).size + t268.size) = False := eq_false (Nat.not_lt.2 c5)
  (try (have c5b2s_ := c5b2; simp only [ByteArray.size_append, Int.natCast_add, show (⟨#[44]⟩ : ByteArray).size = 1 from rfl] at c5b2s_))
  by_cases c6 : ((t267 ++ (⟨#[44]⟩ : ByteArray)) ++ t268).size + 1 ≤ 9223372036854775807
  rotate_left
  · rw [if_neg c6] at H
    exact absurd H (by simp)
  rw [if_pos c6] at H
  have c6b0 := eq_true c6
  (try (have c6b0s_ := c6b0; simp only [ByteArray.size_append, Int.natCast_add, show (⟨#[44]⟩ : ByteArray).size = 1 from rfl] at c6b0s_))
  have c6b1 : decide (((t267 ++ (⟨#[44]⟩ : ByteArray)) ++ t268).size + 1 ≤ 9223372036854775807) = true := decide_eq_true c6
  (try (have c6b1s_ := c6b1; simp only [ByteArray.size_append, Int.natCast_add, show (⟨#[44]⟩ : ByteArray).size = 1 from rfl] at c6b1s_))
  try have c6b2 : (9223372036854775807 < ((t267 ++ (⟨#[44]⟩ : ByteArray)) ++ t268).size + 1) = False := eq_false (Nat.not_lt.2 c6)
  (try (have c6b2s_ := c6b2; simp only [ByteArray.size_append, Int.natCast_add, show (⟨#[44]⟩ : ByteArray).size = 1 from rfl] at c6b2s_))
  replace H := Option.bind_eq_some_iff.mp H
  obtain ⟨t269, A70, H⟩ := H
  replace H : (if (((t267 ++ (⟨#[44]⟩ : ByteArray)) ++ t268) ++ (⟨#[44]⟩ : ByteArray)).size + t269.size ≤ 9223372036854775807 then (if ((((t267 ++ (⟨#[44]⟩ : ByteArray)) ++ t268) ++ (⟨#[44]⟩ : ByteArray)) ++ t269).size + 1 ≤ 9223372036854775807 then ((tenementref06_Digits.f k a0_3).bind fun t270 => (if (((((t267 ++ (⟨#[44]⟩ : ByteArray)) ++ t268) ++ (⟨#[44]⟩ : ByteArray)) ++ t269) ++ (⟨#[44]⟩ : ByteArray)).size + t270.size ≤ 9223372036854775807 then (some ((((((t267 ++ (⟨#[44]⟩ : ByteArray)) ++ t268) ++ (⟨#[44]⟩ : ByteArray)) ++ t269) ++ (⟨#[44]⟩ : ByteArray)) ++ t270)) else (none))) else (none)) else (none)) = some r := H
  have A7 := Aside0.mk A70
  clear A70
  by_cases c8 : (((t267 ++ (⟨#[44]⟩ : ByteArray)) ++ t268) ++ (⟨#[44]⟩ : ByteArray)).size + t269.size ≤ 9223372036854775807
  rotate_left
  · rw [if_neg c8] at H
    exact absurd H (by simp)
  rw [if_pos c8] at H
  have c8b0 := eq_true c8
  (try (have c8b0s_ := c8b0; simp only [ByteArray.size_append, Int.natCast_add, show (⟨#[44]⟩ : ByteArray).size = 1 from rfl] at c8b0s_))
  have c8b1 : decide ((((t267 ++ (⟨#[44]⟩ : ByteArray)) ++ t268) ++ (⟨#[44]⟩ : ByteArray)).size + t269.size ≤ 9223372036854775807) = true := decide_eq_true c8
  (try (have c8b1s_ := c8b1; simp only [ByteArray.size_append, Int.natCast_add, show (⟨#[44]⟩ : ByteArray).size = 1 from rfl] at c8b1s_))
  try have c8b2 : (9223372036854775807 < (((t267 ++ (⟨#[44]⟩ : ByteArray)) ++ t268) ++ (⟨#[44]⟩ : ByteArray)).size + t269.size) = False := eq_false (Nat.not_lt.2 c8)
  (try (have c8b2s_ := c8b2; simp only [ByteArray.size_append, Int.natCast_add, show (⟨#[44]⟩ : ByteArray).size = 1 from rfl] at c8b2s_))
  by_cases c9 : ((((t267 ++ (⟨#[44]⟩ : ByteArray)) ++ t268) ++ (⟨#[44]⟩ : ByteArray)) ++ t269).size + 1 ≤ 9223372036854775807
  rotate_left
  · rw [if_neg c9] at H
    exact absurd H (by simp)
  rw [if_pos c9] at H
  have c9b0 := eq_true c9
  (try (have c9b0s_ := c9b0; simp only [ByteArray.size_append, Int.natCast_add, show (⟨#[44]⟩ : ByteArray).size = 1 from rfl] at c9b0s_))
  have c9b1 : decide (((((t267 ++ (⟨#[44]⟩ : ByteArray)) ++ t268) ++ (⟨#[44]⟩ : ByteArray)) ++ t269).size + 1 ≤ 9223372036854775807) = true := decide_eq_true c9
  (try (have c9b1s_ := c9b1; simp only [ByteArray.size_append, Int.natCast_add, show (⟨#[44]⟩ : ByteArray).size = 1 from rfl] at c9b1s_))
  try have c9b2 : (9223372036854775807 < ((((t267 ++ (⟨#[44]⟩ : ByteArray)) ++ t268) ++ (⟨#[44]⟩ : ByteArray)) ++ t269).size + 1) = False := eq_false (Nat.not_lt.2 c9)
  (try (have c9b2s_ := c9b2; simp only [ByteArray.size_append, Int.natCast_add, show (⟨#[44]⟩ : ByteArray).size = 1 from rfl] at c9b2s_))
  replace H := Option.bind_eq_some_iff.mp H
  obtain ⟨t270, A100, H⟩ := H
  replace H : (if (((((t267 ++ (⟨#[44]⟩ : ByteArray)) ++ t268) ++ (⟨#[44]⟩ : ByteArray)) ++ t269) ++ (⟨#[44]⟩ : ByteArray)).size + t270.size ≤ 9223372036854775807 then (some ((((((t267 ++ (⟨#[44]⟩ : ByteArray)) ++ t268) ++ (⟨#[44]⟩ : ByteArray)) ++ t269) ++ (⟨#[44]⟩ : ByteArray)) ++ t270)) else (none)) = some r := H
  have A10 := Aside0.mk A100
  clear A100
  by_cases c11 : (((((t267 ++ (⟨#[44]⟩ : ByteArray)) ++ t268) ++ (⟨#[44]⟩ : ByteArray)) ++ t269) ++ (⟨#[44]⟩ : ByteArray)).size + t270.size ≤ 9223372036854775807
  rotate_left
  · rw [if_neg c11] at H
    exact absurd H (by simp)
  rw [if_pos c11] at H
  have c11b0 := eq_true c11
  (try (have c11b0s_ := c11b0; simp only [ByteArray.size_append, Int.natCast_add, show (⟨#[44]⟩ : ByteArray).size = 1 from rfl] at c11b0s_))
  have c11b1 : decide ((((((t267 ++ (⟨#[44]⟩ : ByteArray)) ++ t268) ++ (⟨#[44]⟩ : ByteArray)) ++ t269) ++ (⟨#[44]⟩ : ByteArray)).size + t270.size ≤ 9223372036854775807) = true := decide_eq_true c11
  (try (have c11b1s_ := c11b1; simp only [ByteArray.size_append, Int.natCast_add, show (⟨#[44]⟩ : ByteArray).size = 1 from rfl] at c11b1s_))
  try have c11b2 : (9223372036854775807 < (((((t267 ++ (⟨#[44]⟩ : ByteArray)) ++ t268) ++ (⟨#[44]⟩ : ByteArray)) ++ t269) ++ (⟨#[44]⟩ : ByteArray)).size + t270.size) = False := eq_false (Nat.not_lt.2 c11)
  (try (have c11b2s_ := c11b2; simp only [ByteArray.size_append, Int.natCast_add, show (⟨#[44]⟩ : ByteArray).size = 1 from rfl] at c11b2s_))
  obtain rfl := Option.some.inj H
  go_enter Tryd.func54, Tryd.ntmps54
  try go_wp2_with (first | ((with_reducible refine gate_dst (N := 1) rfl ?_); refine box_event ?hg (N := 1) ?hd (cs := #[.int .u64 a0_0, .int .u64 a0_1, .int .u64 a0_2, .int .u64 a0_3]) (t := 37) ?hr ?_; (case hd => rfl); (case hg => rfl); (case hr => first | (go_simp; done) | (go_simp; rfl)); intro gb266 hg w12 hbox hb; have BK266 := Aside0.mk (hbox); have GW266 := Kw_ HB hg; have GE266 := GW266; replace HB := Ks_ HB hb; clear hb hbox hg))
  replace BK266 := Kd_ BK266
  replace HB := Aside0.mk (below_drew1 HB.out)
  refine start_ (n := 19) (S := fun w' => w'.cell? ⟨gb266, 0, none⟩ = some (.int .u64 a0_0) ∧ w'.cell? ⟨gb266, 1, none⟩ = some (.int .u64 a0_1) ∧ w'.cell? ⟨gb266, 2, none⟩ = some (.int .u64 a0_2) ∧ w'.cell? ⟨gb266, 3, none⟩ = some (.int .u64 a0_3)) (ds := []) #[false, false, false, false, false, false, false, false, false, false, false, false, false, false, false, false, false, false, false] (by kernel_rfl) rfl rfl ⟨(blk_cell BK266.out 0).trans rfl, (blk_cell BK266.out 1).trans rfl, (blk_cell BK266.out 2).trans rfl, (blk_cell BK266.out 3).trans rfl⟩ (fun hHeld => ?_); refine with_tabW tenementref06_Text.tab1 tenementref06_Text.bits1 (fun HT_ HW_ => ?_)
  generalize w12.drew = w13 at BK266 HB hHeld ⊢
  refine pure_ (i := 0) (N := some 3) (v := ?_) (a' := ?_) #[true, false, false, false, false, false, false, false, false, false, false, false, false, false, false, false, false, false, false] rfl rfl (any_of HT_.out (by kernel_rfl)) (fun _ _ _ h => h) (Or.inl ⟨by rfl, ?_⟩) ?_ ?_
  rotate_left
  · intro w'
    go_simp
    with_reducible rfl
  rotate_left
  · simp only [Act.put, List.setIfInBounds_toArray, List.set_cons_zero, List.set_cons_succ, i64_w, i32_w]
    rfl
  refine pure_ (i := 4) (N := some 7) (v := ?_) (a' := ?_) #[true, false, false, false, true, false, false, false, false, false, false, false, false, false, false, false, false, false, false] rfl rfl (any_of HT_.out (by kernel_rfl)) (fun _ _ _ h => h) (Or.inl ⟨by rfl, ?_⟩) ?_ ?_
  rotate_left
  · intro w'
    go_simp
    with_reducible rfl
  rotate_left
  · simp only [Act.put, List.setIfInBounds_toArray, List.set_cons_zero, List.set_cons_succ, i64_w, i32_w]
    rfl
  refine pure_ (i := 9) (N := some 12) (v := ?_) (a' := ?_) #[true, false, false, false, true, false, false, false, false, true, false, false, false, false, false, false, false, false, false] rfl rfl (any_of HT_.out (by kernel_rfl)) (fun _ _ _ h => h) (Or.inl ⟨by rfl, ?_⟩) ?_ ?_
  rotate_left
  · intro w'
    go_simp
    with_reducible rfl
  rotate_left
  · simp only [Act.put, List.setIfInBounds_toArray, List.set_cons_zero, List.set_cons_succ, i64_w, i32_w]
    rfl
  refine pure_ (i := 14) (N := some 17) (v := ?_) (a' := ?_) #[true, false, false, false, true, false, false, false, false, true, false, false, false, false, true, false, false, false, false] rfl rfl (any_of HT_.out (by kernel_rfl)) (fun _ _ _ h => h) (Or.inl ⟨by rfl, ?_⟩) ?_ ?_
  rotate_left
  · intro w'
    go_simp
    with_reducible rfl
  rotate_left
  · simp only [Act.put, List.setIfInBounds_toArray, List.set_cons_zero, List.set_cons_succ, i64_w, i32_w]
    rfl
  refine take_ (i := 1) (N := some 4) (v := ?_) (a' := ?_) #[true, true, false, false, true, false, false, false, false, true, false, false, false, false, true, false, false, false, false] rfl rfl (take_ofW HT_.out HW_.out (by kernel_rfl)) (fun _ _ _ h => h) (Or.inl ⟨by rfl, ?_⟩) hHeld ?_ ?_
  rotate_left
  · rintro w' ⟨s0, s1, s2, s3⟩
    go_simp
    with_reducible rfl
  rotate_left
  · simp only [Act.put, List.setIfInBounds_toArray, List.set_cons_zero, List.set_cons_succ, i64_w, i32_w]
    rfl
  refine take_ (i := 5) (N := some 8) (v := ?_) (a' := ?_) #[true, true, false, false, true, true, false, false, false, true, false, false, false, false, true, false, false, false, false] rfl rfl (take_ofW HT_.out HW_.out (by kernel_rfl)) (fun _ _ _ h => h) (Or.inl ⟨by rfl, ?_⟩) hHeld ?_ ?_
  rotate_left
  · rintro w' ⟨s0, s1, s2, s3⟩
    go_simp
    with_reducible rfl
  rotate_left
  · simp only [Act.put, List.setIfInBounds_toArray, List.set_cons_zero, List.set_cons_succ, i64_w, i32_w]
    rfl
  refine take_ (i := 10) (N := some 13) (v := ?_) (a' := ?_) #[true, true, false, false, true, true, false, false, false, true, true, false, false, false, true, false, false, false, false] rfl rfl (take_ofW HT_.out HW_.out (by kernel_rfl)) (fun _ _ _ h => h) (Or.inl ⟨by rfl, ?_⟩) hHeld ?_ ?_
  rotate_left
  · rintro w' ⟨s0, s1, s2, s3⟩
    go_simp
    with_reducible rfl
  rotate_left
  · simp only [Act.put, List.setIfInBounds_toArray, List.set_cons_zero, List.set_cons_succ, i64_w, i32_w]
    rfl
  refine take_ (i := 15) (N := some 18) (v := ?_) (a' := ?_) #[true, true, false, false, true, true, false, false, false, true, true, false, false, false, true, true, false, false, false] rfl rfl (take_ofW HT_.out HW_.out (by kernel_rfl)) (fun _ _ _ h => h) (Or.inl ⟨by rfl, ?_⟩) hHeld ?_ ?_
  rotate_left
  · rintro w' ⟨s0, s1, s2, s3⟩
    go_simp
    with_reducible rfl
  rotate_left
  · simp only [Act.put, List.setIfInBounds_toArray, List.set_cons_zero, List.set_cons_succ, i64_w, i32_w]
    rfl
  refine one_ (i := 2) (N := some 5) #[true, true, true, false, true, true, false, false, false, true, true, false, false, false, true, true, false, false, false] rfl rfl (one_of HT_.out (by kernel_rfl)) (by decide) (fun K hK => ?_)
  refine goes_ Tryd.func70 (by kernel_rfl) rfl #[.int .u64 a0_0] (by rfl) rfl rfl (by (try simp only [List.map_toArray, List.map_cons, List.map_nil]); first | done | rfl | (simp only [List.length_drop, List.length_take]; rfl)) ?_
  with_reducible refine (tenementref06_Digits.calls k a0_0 t267 _ A2.out).mono ?_
  rintro e w14 ⟨rfl, hb⟩
  refine ⟨_, rfl, ?_⟩
  replace BK266 := Kb_ BK266 hb
  replace HB := Ks_ HB hb
  (try clear hb)
  (try clear hb2)
  (try clear hk)
  (try clear hi)
  refine hK.out _ _ ⟨(blk_cell BK266.out 0).trans rfl, (blk_cell BK266.out 1).trans rfl, (blk_cell BK266.out 2).trans rfl, (blk_cell BK266.out 3).trans rfl⟩ (fun hHeld => ?_)
  clear hK K
  refine norm_ (a' := ?_) ?_ ?_
  rotate_left
  · show Act.put _ (some 5) _ = _
    simp only [Act.put, List.setIfInBounds_toArray, List.set_cons_zero, List.set_cons_succ, i64_w, i32_w]
    rfl
  refine pure_ (i := 3) (N := some 6) (v := ?_) (a' := ?_) #[true, true, true, true, true, true, false, false, false, true, true, false, false, false, true, true, false, false, false] rfl rfl (any_of HT_.out (by kernel_rfl)) (fun _ _ _ h => h) (Or.inl ⟨by rfl, ?_⟩) ?_ ?_
  rotate_left
  · intro w'
    go_simp
    with_reducible rfl
  rotate_left
  · simp only [Act.put, List.setIfInBounds_toArray, List.set_cons_zero, List.set_cons_succ, i64_w, i32_w]
    rfl
  refine one_ (i := 6) (N := some 9) #[true, true, true, true, true, true, true, false, false, true, true, false, false, false, true, true, false, false, false] rfl rfl (one_of HT_.out (by kernel_rfl)) (by decide) (fun K hK => ?_)
  refine goes_ Tryd.func70 (by kernel_rfl) rfl #[.int .u64 a0_1] (by rfl) rfl rfl (by (try simp only [List.map_toArray, List.map_cons, List.map_nil]); first | done | rfl | (simp only [List.length_drop, List.length_take]; rfl)) ?_
  with_reducible refine (tenementref06_Digits.calls k a0_1 t268 _ A4.out).mono ?_
  rintro e w15 ⟨rfl, hb⟩
  refine ⟨_, rfl, ?_⟩
  replace BK266 := Kb_ BK266 hb
  replace HB := Ks_ HB hb
  (try clear hb)
  (try clear hb2)
  (try clear hk)
  (try clear hi)
  refine hK.out _ _ ⟨(blk_cell BK266.out 0).trans rfl, (blk_cell BK266.out 1).trans rfl, (blk_cell BK266.out 2).trans rfl, (blk_cell BK266.out 3).trans rfl⟩ (fun hHeld => ?_)
  clear hK K
  refine norm_ (a' := ?_) ?_ ?_
  rotate_left
  · show Act.put _ (some 9) _ = _
    simp only [Act.put, List.setIfInBounds_toArray, List.set_cons_zero, List.set_cons_succ, i64_w, i32_w]
    rfl
  refine pure_ (i := 7) (N := some 10) (v := ?_) (a' := ?_) #[true, true, true, true, true, true, true, true, false, true, true, false, false, false, true, true, false, false, false] rfl rfl (any_of HT_.out (by kernel_rfl)) (fun _ _ _ h => h) (Or.inl ⟨by rfl, ?_⟩) ?_ ?_
  rotate_left
  · intro w'
    go_simp
    with_reducible rfl
  rotate_left
  · simp only [Act.put, List.setIfInBounds_toArray, List.set_cons_zero, List.set_cons_succ, i64_w, i32_w]
    rfl
  refine pure_ (i := 8) (N := some 11) (v := ?_) (a' := ?_) #[true, true, true, true, true, true, true, true, true, true, true, false, false, false, true, true, false, false, false] rfl rfl (any_of HT_.out (by kernel_rfl)) (fun _ _ _ h => h) (Or.inl ⟨by rfl, ?_⟩) ?_ ?_
  rotate_left
  · intro w'
    go_simp
    with_reducible rfl
  rotate_left
  · simp only [Act.put, List.setIfInBounds_toArray, List.set_cons_zero, List.set_cons_succ, i64_w, i32_w]
    rfl
  refine one_ (i := 11) (N := some 14) #[true, true, true, true, true, true, true, true, true, true, true, true, false, false, true, true, false, false, false] rfl rfl (one_of HT_.out (by kernel_rfl)) (by decide) (fun K hK => ?_)
  refine goes_ Tryd.func70 (by kernel_rfl) rfl #[.int .u64 a0_2] (by rfl) rfl rfl (by (try simp only [List.map_toArray, List.map_cons, List.map_nil]); first | done | rfl | (simp only [List.length_drop, List.length_take]; rfl)) ?_
  with_reducible refine (tenementref06_Digits.calls k a0_2 t269 _ A7.out).mono ?_
  rintro e w16 ⟨rfl, hb⟩
  refine ⟨_, rfl, ?_⟩
  replace BK266 := Kb_ BK266 hb
  replace HB := Ks_ HB hb
  (try clear hb)
  (try clear hb2)
  (try clear hk)
  (try clear hi)
  refine hK.out _ _ ⟨(blk_cell BK266.out 0).trans rfl, (blk_cell BK266.out 1).trans rfl, (blk_cell BK266.out 2).trans rfl, (blk_cell BK266.out 3).trans rfl⟩ (fun hHeld => ?_)
  clear hK K
  refine norm_ (a' := ?_) ?_ ?_
  rotate_left
  · show Act.put _ (some 14) _ = _
    simp only [Act.put, List.setIfInBounds_toArray, List.set_cons_zero, List.set_cons_succ, i64_w, i32_w]
    rfl
  refine pure_ (i := 12) (N := some 15) (v := ?_) (a' := ?_) #[true, true, true, true, true, true, true, true, true, true, true, true, true, false, true, true, false, false, false] rfl rfl (any_of HT_.out (by kernel_rfl)) (fun _ _ _ h => h) (Or.inl ⟨by rfl, ?_⟩) ?_ ?_
  rotate_left
  · intro w'
    go_simp
    with_reducible rfl
  rotate_left
  · simp only [Act.put, List.setIfInBounds_toArray, List.set_cons_zero, List.set_cons_succ, i64_w, i32_w]
    rfl
  refine pure_ (i := 13) (N := some 16) (v := ?_) (a' := ?_) #[true, true, true, true, true, true, true, true, true, true, true, true, true, true, true, true, false, false, false] rfl rfl (any_of HT_.out (by kernel_rfl)) (fun _ _ _ h => h) (Or.inl ⟨by rfl, ?_⟩) ?_ ?_
  rotate_left
  · intro w'
    go_simp
    with_reducible rfl
  rotate_left
  · simp only [Act.put, List.setIfInBounds_toArray, List.set_cons_zero, List.set_cons_succ, i64_w, i32_w]
    rfl
  refine one_ (i := 16) (N := some 19) #[true, true, true, true, true, true, true, true, true, true, true, true, true, true, true, true, true, false, false] rfl rfl (one_of HT_.out (by kernel_rfl)) (by decide) (fun K hK => ?_)
  refine goes_ Tryd.func70 (by kernel_rfl) rfl #[.int .u64 a0_3] (by rfl) rfl rfl (by (try simp only [List.map_toArray, List.map_cons, List.map_nil]); first | done | rfl | (simp only [List.length_drop, List.length_take]; rfl)) ?_
  with_reducible refine (tenementref06_Digits.calls k a0_3 t270 _ A10.out).mono ?_
  rintro e w17 ⟨rfl, hb⟩
  refine ⟨_, rfl, ?_⟩
  replace BK266 := Kb_ BK266 hb
  replace HB := Ks_ HB hb
  (try clear hb)
  (try clear hb2)
  (try clear hk)
  (try clear hi)
  refine hK.out _ _ ⟨(blk_cell BK266.out 0).trans rfl, (blk_cell BK266.out 1).trans rfl, (blk_cell BK266.out 2).trans rfl, (blk_cell BK266.out 3).trans rfl⟩ (fun hHeld => ?_)
  clear hK K
  refine norm_ (a' := ?_) ?_ ?_
  rotate_left
  · show Act.put _ (some 19) _ = _
    simp only [Act.put, List.setIfInBounds_toArray, List.set_cons_zero, List.set_cons_succ, i64_w, i32_w]
    rfl
  refine pure_ (i := 17) (N := some 20) (v := ?_) (a' := ?_) #[true, true, true, true, true, true, true, true, true, true, true, true, true, true, true, true, true, true, false] rfl rfl (any_of HT_.out (by kernel_rfl)) (fun _ _ _ h => h) (Or.inl ⟨by rfl, ?_⟩) ?_ ?_
  rotate_left
  · intro w'
    go_simp
    with_reducible rfl
  rotate_left
  · simp only [Act.put, List.setIfInBounds_toArray, List.set_cons_zero, List.set_cons_succ, i64_w, i32_w]
    rfl
  refine pure_ (i := 18) (N := some 2) (v := ?_) (a' := ?_) #[true, true, true, true, true, true, true, true, true, true, true, true, true, true, true, true, true, true, true] rfl rfl (any_of HT_.out (by kernel_rfl)) (fun _ _ _ h => h) (Or.inl ⟨by rfl, ?_⟩) ?_ ?_
  rotate_left
  · intro w'
    go_simp
    with_reducible rfl
  rotate_left
  · simp only [Act.put, List.setIfInBounds_toArray, List.set_cons_zero, List.set_cons_succ, i64_w, i32_w]
    rfl
  refine done_ (done_of HT_.out (by kernel_rfl)) ?_
  try go_wp2
  go_ret
  exact ⟨by first | rfl | (simp [errW_none, errW_some] <;> rfl) | (simp [*, errW_none, errW_some] <;> rfl), by repeat (first | (with_reducible first | exact HB.out | apply below_alloc | apply pw_below_drewN | apply below_drew1 | refine below_set ?_ GE266.out) | exact HB.out)⟩

end Go.Proofs.YtdlagefpglhdoaaDoor.Q

/- The text of a vector, by the document. -/
set_option linter.unusedVariables false
set_option linter.unusedSimpArgs false
namespace Go.Proofs.YtdlagefpglhdoaaDoor.Pure
open Go.RowKit Go.Proofs.YtdlagefpglhdoaaDoor.Q Go.Proofs.YtdlagefpglhdoaaDoorW.PrintWords Go.Proofs.YtdlagefpglhdoaaDoorW.PrintLast Go.Proofs.YtdlagefpglhdoaaDoorW.PrintMore Go.Proofs.YtdlagefpglhdoaaDoor.Plain

theorem hdig (m : Nat) : (IntKind.u64.wrap (48 + (Int.tmod (m : Int) 10))) % 256 = ((48 + m % 10 : Nat) : Int) := by
  rw [IntKind.wrap_u64, Int.tmod_eq_emod_of_nonneg (by omega)]
  omega
theorem bl_dig (m : Nat) : bl (strOfNums ([((48 + m % 10 : Nat) : Int)] : List Int)) = [48 + m % 10] := bl_str [48 + m % 10] (by intro b hb; simp at hb; omega)
theorem dig_size (m : Nat) : (strOfNums ([((48 + m % 10 : Nat) : Int)] : List Int)).size = 1 := by rw [← bl_length, bl_dig]; rfl
theorem tenth (x : Nat) (h : x < 18446744073709551616) : IntKind.u64.wrap (Int.tdiv (x : Int) 10) = ((x / 10 : Nat) : Int) := by
  rw [IntKind.wrap_u64, Int.tdiv_eq_ediv_of_nonneg (by omega)]
  omega
theorem dig_loop : ∀ (j k x : Nat) (acc : ByteArray), x < 10 ^ (j + 1) → x < 18446744073709551616 → j + 1 ≤ k → acc.size + j ≤ 1000 →
    ∃ s, tenementref06_Digits.l0 k (x : Int) acc = some s ∧ bl s = (if x ≤ 9 then [] else dl (x / 10)) ++ bl acc := by
  intro j
  induction j with
  | zero =>
    intro k x acc hx h64 hk ha
    obtain ⟨k, rfl⟩ : ∃ m, k = m + 1 := ⟨k - 1, by omega⟩
    simp at hx
    refine ⟨acc, ?_, ?_⟩
    · rw [tenementref06_Digits.l0, if_neg (by omega)]
    · rw [if_pos (by omega)]; rfl
  | succ j ih =>
    intro k x acc hx h64 hk ha
    obtain ⟨k, rfl⟩ : ∃ m, k = m + 1 := ⟨k - 1, by omega⟩
    by_cases c : x ≤ 9
    · refine ⟨acc, ?_, ?_⟩
      · rw [tenementref06_Digits.l0, if_neg (by omega)]
      · rw [if_pos c]; rfl
    · rw [Nat.pow_succ] at hx
      obtain ⟨s, hs, hb⟩ := ih k (x / 10) (strOfNums ([((48 + (x / 10) % 10 : Nat) : Int)] : List Int) ++ acc) (by omega) (by omega) (by omega) (by rw [ByteArray.size_append, dig_size]; omega)
      refine ⟨s, ?_, ?_⟩
      · rw [tenementref06_Digits.l0, if_pos (by omega), Option.bind_some, tenth x h64, hdig, dig_size, if_pos (by omega)]
        exact hs
      · rw [hb, if_neg c, bl_append, bl_dig]
        by_cases d : x / 10 ≤ 9
        · rw [if_pos d, dl_small (show x / 10 < 10 by omega), Nat.mod_eq_of_lt (show x / 10 < 10 by omega)]
          simp
        · rw [if_neg d, dl_big (show ¬ x / 10 < 10 by omega)]
          simp
theorem Digits_f {n k : Nat} (h : n < 18446744073709551616) (hk : 20 ≤ k) : tenementref06_Digits.f k (n : Int) = some (vec_Text.num n) := by
  unfold tenementref06_Digits.f
  rw [hdig]
  obtain ⟨s, hs, hb⟩ := dig_loop 19 k n (strOfNums ([((48 + n % 10 : Nat) : Int)] : List Int)) (by omega) h hk (by rw [dig_size]; omega)
  rw [hs]
  congr 1
  apply bl_inj
  rw [hb, bl_num h, bl_dig]
  by_cases c : n ≤ 9
  · rw [if_pos c, dl_small (show n < 10 by omega), Nat.mod_eq_of_lt (show n < 10 by omega)]
    rfl
  · rw [if_neg c, dl_big (show ¬ n < 10 by omega)]
theorem num_size {n : Nat} (h : n < 18446744073709551616) : (vec_Text.num n).size ≤ 20 := by
  have := vec_Text.num_len h
  rwa [Array.length_toList] at this
theorem rtext {a b c d : Nat} (ha : a < 18446744073709551616) (hb : b < 18446744073709551616) (hc : c < 18446744073709551616) (hd : d < 18446744073709551616) {k : Nat} (hk : 20 ≤ k) :
    tenementref06_Text.f k a b c d = some (vec_Text.txt a b c d) := by
  have la := num_size ha
  have lb := num_size hb
  have lc := num_size hc
  have ld := num_size hd
  unfold tenementref06_Text.f vec_Text.txt
  rw [Digits_f ha hk, Digits_f hb hk, Digits_f hc hk, Digits_f hd hk]
  generalize vec_Text.num a = x at *
  generalize vec_Text.num b = y at *
  generalize vec_Text.num c = z at *
  generalize vec_Text.num d = u at *
  have z1 : (⟨#[44]⟩ : ByteArray).size = 1 := rfl
  rw [Option.bind_some, if_pos (by omega), Option.bind_some, if_pos (by simp only [ByteArray.size_append, z1]; omega), if_pos (by simp only [ByteArray.size_append, z1]; omega), Option.bind_some,
    if_pos (by simp only [ByteArray.size_append, z1]; omega), if_pos (by simp only [ByteArray.size_append, z1]; omega), Option.bind_some, if_pos (by simp only [ByteArray.size_append, z1]; omega)]
  rfl
end Go.Proofs.YtdlagefpglhdoaaDoor.Pure

/- Stamps as they are read. -/
set_option linter.unusedVariables false
set_option linter.unusedSimpArgs false
namespace Go.Proofs.YtdlagefpglhdoaaDoor.Pure
open Go.RowKit Go.Proofs.YtdlagefpglhdoaaDoor.Q Go.Proofs.YtdlagefpglhdoaaDoorW.PrintWords Go.Proofs.YtdlagefpglhdoaaDoorW.PrintLast Go.Proofs.YtdlagefpglhdoaaDoorW.PrintMore Go.Proofs.YtdlagefpglhdoaaDoor.Plain

theorem at_sign {l r l' r' : List Nat} (h : l ++ 64 :: r = l' ++ 64 :: r') (hl : ∀ b ∈ l, 48 ≤ b ∧ b ≤ 57) (hl' : ∀ b ∈ l', 48 ≤ b ∧ b ≤ 57) : l = l' ∧ r = r' := by
  induction l generalizing l' with
  | nil =>
    cases l' with
    | nil => simp at h; exact ⟨rfl, h⟩
    | cons y t =>
      simp at h
      have := hl' y (by simp)
      omega
  | cons x s ih =>
    cases l' with
    | nil =>
      simp at h
      have := hl x (by simp)
      omega
    | cons y t =>
      simp only [List.cons_append, List.cons.injEq] at h
      obtain ⟨rfl, h⟩ := h
      obtain ⟨rfl, e⟩ := ih h (fun b hb => hl b (by simp [hb])) (fun b hb => hl' b (by simp [hb]))
      exact ⟨rfl, e⟩
theorem int_size {e : Int} (h : -9223372036854775808 ≤ e ∧ e ≤ 9223372036854775807) : (BigItoa.int e).size ≤ 21 := by
  unfold BigItoa.int
  by_cases c : e < 0
  · rw [if_pos c, ByteArray.size_append]
    have := num_size (n := e.natAbs) (by omega)
    have z1 : (⟨#[45]⟩ : ByteArray).size = 1 := rfl
    omega
  · rw [if_neg c]
    have := num_size (n := e.toNat) (by omega)
    omega
theorem int_nat (n : Nat) : BigItoa.int (n : Int) = vec_Text.num n := by
  unfold BigItoa.int
  rw [if_neg (by omega), Int.toNat_natCast]
theorem txt_size {a b c d : Nat} (ha : a < 18446744073709551616) (hb : b < 18446744073709551616) (hc : c < 18446744073709551616) (hd : d < 18446744073709551616) : (vec_Text.txt a b c d).size ≤ 83 := by
  have la := num_size ha
  have lb := num_size hb
  have lc := num_size hc
  have ld := num_size hd
  have z1 : vec_Text.com.size = 1 := rfl
  unfold vec_Text.txt
  simp only [ByteArray.size_append, z1]
  omega
def stx (a b c d : Nat) (e : Int) : ByteArray := BigItoa.int e ++ (⟨#[64]⟩ : ByteArray) ++ vec_Text.txt a b c d
theorem stext_f {a b c d : Nat} {e : Int} (ha : a < 18446744073709551616) (hb : b < 18446744073709551616) (hc : c < 18446744073709551616) (hd : d < 18446744073709551616) (he : -9223372036854775808 ≤ e ∧ e ≤ 9223372036854775807) :
    BigStamp.f a b c d e = some (stx a b c d e) := by
  have z1 : (⟨#[64]⟩ : ByteArray).size = 1 := rfl
  have h1 := int_size he
  have h2 := txt_size ha hb hc hd
  unfold BigStamp.f BigItoa.g
  rw [if_pos he, Option.bind_some, if_pos (by omega), g_f ha hb hc hd, Option.bind_some, if_pos (by rw [ByteArray.size_append, z1]; omega)]
  rfl
theorem stx_inj {a b c d m x y z u n : Nat} (ha : a < 18446744073709551616) (hb : b < 18446744073709551616) (hc : c < 18446744073709551616) (hd : d < 18446744073709551616) (hm : m < 18446744073709551616)
    (hx : x < 18446744073709551616) (hy : y < 18446744073709551616) (hz : z < 18446744073709551616) (hu : u < 18446744073709551616) (hn : n < 18446744073709551616) (h : stx a b c d (m : Int) = stx x y z u (n : Int)) : a = x ∧ b = y ∧ c = z ∧ d = u ∧ m = n := by
  unfold stx at h
  have h := congrArg bl h
  have hat : bl (⟨#[64]⟩ : ByteArray) = [64] := rfl
  rw [int_nat, int_nat, bl_append, bl_append, bl_append, bl_append, hat, bl_num hm, bl_num hn, List.append_assoc, List.append_assoc, List.singleton_append, List.singleton_append] at h
  obtain ⟨h0, h⟩ := at_sign h (dl_range _) (dl_range _)
  obtain ⟨q0, q1, q2, q3⟩ := txt_inj ha hb hc hd hx hy hz hu (bl_inj h)
  exact ⟨q0, q1, q2, q3, dl_inj _ _ h0⟩
end Go.Proofs.YtdlagefpglhdoaaDoor.Pure
