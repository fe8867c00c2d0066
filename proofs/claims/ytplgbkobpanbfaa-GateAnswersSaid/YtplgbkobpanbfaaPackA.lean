/- What the printed functions of package pack answer, in plain words: by lists of bytes. -/
import Derived.Test.YtplgbkobpanbfaaPlain
import Derived.Test.YtplgbkobpanbfaaBytes
import Derived.Test.YtplgbkobpanbfaaQxf45
import Derived.Test.YtplgbkobpanbfaaQxf51
import Derived.Test.YtplgbkobpanbfaaQxf36
import Derived.Test.YtplgbkobpanbfaaQxf37
import Derived.Test.YtplgbkobpanbfaaQxf27
import Derived.Test.YtplgbkobpanbfaaQxf26
import Derived.Test.YtplgbkobpanbfaaQxf38
import Derived.Laws.BitsAllLaws
set_option linter.unusedVariables false
set_option linter.unusedSimpArgs false
namespace Go.Proofs.Ytplgbkobpanbfaa.Pure
open Go.RowKit Go.Proofs.Ytplgbkobpanbfaa.Q Go.Proofs.YtplgbkobpanbfaaW.PrintWords Go.Proofs.YtplgbkobpanbfaaW.PrintLast Go.Proofs.YtplgbkobpanbfaaW.PrintMore Go.Proofs.Ytplgbkobpanbfaa.Plain

theorem u8_or_128 : ∀ m : Nat, m < 256 → Go.bits .or .u8 (m : Int) 128 = ((m % 128 + 128 : Nat) : Int) := by
  intro m hm
  have h : ∀ m : Fin 256, (m.val ||| 128) = m.val % 128 + 128 := by decide +kernel
  have h2 := u8_or_nat m 128 hm (by omega)
  rw [show ((128 : Nat) : Int) = 128 from rfl] at h2
  rw [h2, h ⟨m, hm⟩]
theorem u8_and_127 : ∀ m : Nat, m < 256 → Go.bits .and .u8 (m : Int) 127 = ((m % 128 : Nat) : Int) := by
  intro m hm
  have h : ∀ m : Fin 256, (m.val &&& 127) = m.val % 128 := by decide +kernel
  have h2 := u8_and_nat m 127 hm (by omega)
  rw [show ((127 : Nat) : Int) = 127 from rfl] at h2
  rw [h2, h ⟨m, hm⟩]

/-! ### Vary -/
theorem vary_tells (n : Nat) : ∀ (k : Nat) (acc : List Nat), (vary n).length < k → acc.length + (vary n).length ≤ 140737488355328 →
    pack_Vary.l0 k (n : Int) (NL acc) = some (strOfNums (NL (acc ++ vary n))) := by
  induction n using Nat.strongRecOn with
  | _ n ih =>
    intro k acc hk hl
    obtain ⟨k, rfl⟩ : ∃ m, k = m + 1 := ⟨k - 1, by omega⟩
    simp only [pack_Vary.l0]
    have hlen : (NL acc).length = acc.length := by simp [NL]
    by_cases h : n < 128
    · rw [vary_small h] at hl ⊢
      rw [if_neg (by omega), if_pos (by rw [hlen]; simp at hl; omega)]
      rw [show (n : Int) % 256 = (n : Int) by omega]
      simp [NL]
    · rw [vary_big h] at hl hk ⊢
      simp only [List.length_cons] at hl hk
      rw [if_pos (by omega), if_pos (by rw [hlen]; omega)]
      have e1 : (n : Int) / 128 = ((n / 128 : Nat) : Int) := by omega
      have e2 : (n : Int) % 256 = ((n % 256 : Nat) : Int) := by omega
      rw [e1, e2, u8_or_128 _ (by omega)]
      have e3 : NL acc ++ [((n % 256 % 128 + 128 : Nat) : Int)] = NL (acc ++ [n % 128 + 128]) := by
        rw [show n % 256 % 128 = n % 128 by omega]; simp [NL]
      rw [e3, ih (n / 128) (by omega) k _ (by omega) (by simp; omega)]
      simp
/-- what package pack puts for a number -/
def vs (n : Nat) : ByteArray := strOfNums (NL (vary n))
theorem bl_vs (n : Nat) : bl (vs n) = vary n := bl_str _ (vary_lt n)
theorem vs_size (n : Nat) : (vs n).size = (vary n).length := by rw [← bl_length, bl_vs]
theorem Vary_f {n k : Nat} (h : n < 18446744073709551616) (hk : 11 ≤ k) : pack_Vary.f k (n : Int) = some (vs n) := by
  have h1 := vary_len_ten h
  have := vary_tells n k [] (by omega) (by simp; omega)
  exact this

/-! ### reading such a number -/
/-- What a reader answers whose rest is 's': the number at its front, if one stands there. -/
inductive VaryRes (s : ByteArray) : Int × ByteArray × Bool → Prop
  | good (n : Nat) (rest : ByteArray) (hn : n < 18446744073709551616) (hs : bl s = vary n ++ bl rest) : VaryRes s ((n : Int), rest, false)
  | bad (h : ∀ n, n < 18446744073709551616 → ∀ r, bl s ≠ vary n ++ r) : VaryRes s (0, ⟨#[]⟩, true)
theorem VaryRes.unique {s : ByteArray} {a b : Int × ByteArray × Bool} (ha : VaryRes s a) (hb : VaryRes s b) : a = b := by
  cases ha with
  | good n r hn hs =>
    cases hb with
    | good m q hm ht =>
      obtain ⟨rfl, e⟩ := vary_prefix _ _ _ _ (hs.symm.trans ht)
      rw [bl_inj e]
    | bad h => exact absurd hs (h n hn _)
  | bad h =>
    cases hb with
    | good m q hm ht => exact absurd ht (h m hm _)
    | bad h => rfl
theorem acc_or (n i : Nat) (hn : n < 18446744073709551616) (hi : i < (vary n).length) :
    Go.bits .or .u64 ((n % 128 ^ i : Nat) : Int) (shl .u64 (IntKind.u64.wrap ((n / 128 ^ i % 128 : Nat) : Int)) (7 * (i : Int))) = ((n % 128 ^ (i + 1) : Nat) : Int) := by
  have h10 := vary_len_ten hn
  have hle : n % 128 ^ (i + 1) = n % 128 ^ i + 128 ^ i * (n / 128 ^ i % 128) := by rw [Nat.pow_succ, Nat.mod_mul]
  have hlt : n % 128 ^ (i + 1) ≤ n := Nat.mod_le _ _
  have hp : 0 < 128 ^ i := Nat.pow_pos (by omega)
  have hm : n % 128 ^ i < 128 ^ i := Nat.mod_lt _ hp
  have h7 : (128 : Nat) ^ i = 2 ^ (7 * i) := by rw [Nat.pow_mul]
  generalize hg : n / 128 ^ i % 128 = g at *
  have hg' : g < 128 := by omega
  generalize hc : n % 128 ^ i = c at *
  have hprod : 128 ^ i * g < 18446744073709551616 := by omega
  have hw : IntKind.u64.wrap (g : Int) = (g : Int) := wrap_u64 (by omega) (by omega)
  have hs : shl .u64 (g : Int) (7 * (i : Int)) = ((128 ^ i * g : Nat) : Int) := by
    unfold shl
    rw [show (7 * (i : Int)).toNat = 7 * i by omega, Nat.min_eq_left (by show 7 * i ≤ 64; omega)]
    have e : (g : Int) * 2 ^ (7 * i) = ((128 ^ i * g : Nat) : Int) := by rw [h7, Int.natCast_mul, Int.mul_comm]; simp
    rw [e, wrap_u64 (by omega) (by omega)]
  have hcn : c < 18446744073709551616 := by omega
  rw [hw, hs, u64_or_nat _ _ hcn hprod, hle]
  congr 1
  rw [h7] at hm ⊢
  rw [Nat.add_comm, Nat.two_pow_add_eq_or_of_lt hm, Nat.or_comm]
theorem u64_or_range (a b : Int) (h1 : 0 ≤ a) (h2 : a < 18446744073709551616) (h3 : 0 ≤ b) (h4 : b < 18446744073709551616) : 0 ≤ Go.bits .or .u64 a b ∧ Go.bits .or .u64 a b < 18446744073709551616 := by
  rw [u64_or a b h1 h2 h3 h4]
  have : a.toNat ||| b.toNat < 2 ^ 64 := Nat.or_lt_two_pow (by omega) (by omega)
  omega
theorem shl_range (x y : Int) : 0 ≤ shl .u64 x y ∧ shl .u64 x y < 18446744073709551616 := by
  unfold shl; simp only [IntKind.wrap_u64]; omega
theorem mn_lt {i n : Nat} (h : i < min n 10) : (i : Int) < mn (n : Int) 10 := by unfold mn; split <;> omega
theorem mn_ge {i n : Nat} (h : ¬ i < min n 10) : ¬ (i : Int) < mn (n : Int) 10 := by unfold mn; split <;> omega
theorem wrap_seven {i : Nat} (h : i < 10) : wrap64 (7 * (i : Int)) = 7 * (i : Int) := wrap64_id (by omega) (by omega)
theorem wrap_succ {i : Nat} (h : i < 10) : wrap64 ((i : Int) + 1) = ((i + 1 : Nat) : Int) := by rw [wrap64_id (by omega) (by omega)]; omega
/-- The loop, at any place: whatever was gathered is a number of 64 bits; and where a number stands at the front, it is its lower part. -/
theorem varyR_loop (s : ByteArray) (b : Bool) (hz : s.size ≤ 9223372036854775807) (d : Nat) : ∀ (k i : Nat) (x : Int), i + d = min s.size 10 → 0 ≤ x → x < 18446744073709551616 → d + 12 ≤ k →
    (∀ j, j < i → ∃ c, (bl s)[j]? = some c ∧ 128 ≤ c) →
    (∀ n, n < 18446744073709551616 → ∀ r, bl s = vary n ++ r → i < (vary n).length ∧ x = ((n % 128 ^ i : Nat) : Int)) →
    ∃ r, pack_Reader_Vary.l0 k x (mn (s.size : Int) 10) (i : Int) s b = some r ∧ VaryRes s r := by
  induction d with
  | zero =>
    intro k i x hi h0 h1 hk hall hn
    obtain ⟨k, rfl⟩ : ∃ m, k = m + 1 := ⟨k - 1, by omega⟩
    refine ⟨(0, ⟨#[]⟩, true), ?_, .bad fun n hn' r hs => ?_⟩
    · simp only [pack_Reader_Vary.l0]
      rw [if_neg (mn_ge (by omega))]
      rfl
    · have h2 := (hn n hn' r hs).1
      have h3 := vary_len_ten hn'
      have h4 : (vary n).length ≤ s.size := by rw [← bl_length, hs]; simp
      omega
  | succ d ih =>
    intro k i x hi h0 h1 hk hall hn
    obtain ⟨k, rfl⟩ : ∃ m, k = m + 1 := ⟨k - 1, by omega⟩
    have hlt : i < s.size := by omega
    have hi10 : i < 10 := by omega
    obtain ⟨c, hc, hbt, hc256⟩ := bt_bl s i hlt
    simp only [pack_Reader_Vary.l0]
    rw [if_pos (mn_lt (by omega)), if_pos (Int.natCast_nonneg i), if_pos (Int.ofNat_lt.2 hlt), hbt, wrap_seven hi10, if_pos (Int.mul_nonneg (by decide) (Int.natCast_nonneg i)), wrap_succ hi10, u8_and_127 _ hc256]
    clear hbt
    obtain ⟨G, hG⟩ : ∃ G, G = Go.bits .or .u64 x (shl .u64 (IntKind.u64.wrap ((c % 128 : Nat) : Int)) (7 * (i : Int))) := ⟨_, rfl⟩
    have hGr : 0 ≤ G ∧ G < 18446744073709551616 := by
      rw [hG]
      exact u64_or_range x _ h0 h1 (shl_range _ _).1 (shl_range _ _).2
    have hnext : ∀ n, n < 18446744073709551616 → ∀ r, bl s = vary n ++ r → c % 128 = n / 128 ^ i % 128 ∧ (128 ≤ c ↔ i + 1 < (vary n).length) ∧ G = ((n % 128 ^ (i + 1) : Nat) : Int) := by
      intro n hn' r hs
      obtain ⟨g1, g2⟩ := hn n hn' r hs
      have e : (bl s)[i]? = (vary n)[i]? := by rw [hs, List.getElem?_append_left g1]
      rw [hc, vary_get i n g1] at e
      have e := Option.some.inj e
      have e2 : c % 128 = n / 128 ^ i % 128 := by clear hG; rw [e]; split <;> omega
      refine ⟨e2, ?_, ?_⟩
      · clear hG; rw [e]; split <;> omega
      · rw [hG, e2, g2]; exact acc_or n i hn' g1
    rw [← hG]
    clear hG
    by_cases h128 : 128 ≤ c
    · rw [if_pos (show ((c : Nat) : Int) ≥ 128 by omega)]
      refine ih k (i + 1) _ (by omega) hGr.1 hGr.2 (by omega) ?_ ?_
      · intro j hj
        by_cases hji : j < i
        · exact hall j hji
        · obtain rfl : j = i := by omega
          exact ⟨c, hc, h128⟩
      · intro n hn' r hs
        obtain ⟨_, g2, g3⟩ := hnext n hn' r hs
        exact ⟨g2.1 h128, g3⟩
    · rw [if_neg (show ¬ ((c : Nat) : Int) ≥ 128 by omega), if_pos (show (0 : Int) ≤ ((i + 1 : Nat) : Int) by omega), if_pos (show ((i + 1 : Nat) : Int) ≤ (s.size : Int) by omega)]
      obtain ⟨m, rfl⟩ := Int.eq_ofNat_of_zero_le hGr.1
      rw [Vary_f (by omega) (by omega)]
      simp only [Option.bind_some]
      rw [show (((i + 1 : Nat) : Int)).toNat = i + 1 by omega]
      by_cases he : (s.extract 0 (i + 1)).toList = (vs m).toList
      · rw [if_pos he]
        refine ⟨_, rfl, .good m _ (by omega) ?_⟩
        have e1 : bl (s.extract 0 (i + 1)) = vary m := by rw [toList_iff.1 he, bl_vs]
        rw [bl_extract, List.drop_zero] at e1
        rw [← e1, bl_drop, List.take_append_drop]
      · rw [if_neg he]
        refine ⟨_, rfl, .bad fun n hn' r hs => he ?_⟩
        obtain ⟨g1, g2, g3⟩ := hnext n hn' r hs
        have g4 := (hn n hn' r hs).1
        have hl : (vary n).length = i + 1 := by omega
        have hnm : n % 128 ^ (i + 1) = n := Nat.mod_eq_of_lt (by
          rcases Nat.lt_or_ge n (128 ^ (i + 1)) with h | h
          · exact h
          · have := vary_len_gt (i + 1) n h; omega)
        rw [hnm] at g3
        have : m = n := by omega
        subst this
        rw [toList_iff]
        apply bl_inj
        rw [bl_vs, bl_extract, List.drop_zero, hs, ← hl, List.take_left]
theorem ReaderVary_f (s : ByteArray) (b : Bool) (hz : s.size ≤ 9223372036854775807) {k : Nat} (hk : 22 ≤ k) :
    ∃ r, pack_Reader_Vary.f k s b = some r ∧ (b = false → VaryRes s r) ∧ (b = true → r = (0, ⟨#[]⟩, true)) := by
  unfold pack_Reader_Vary.f
  cases b with
  | true => exact ⟨_, rfl, (fun h => by cases h), (fun _ => rfl)⟩
  | false =>
    obtain ⟨r, h1, h2⟩ := varyR_loop s false hz (min s.size 10) k 0 0 (by omega) (by omega) (by omega) (by omega) (fun j hj => by omega) (fun n _ r _ => ⟨vary_pos n, by simp [Nat.mod_one]⟩)
    exact ⟨r, by rw [if_neg (by simp)]; exact h1, (fun _ => h2), (fun h => by cases h)⟩
/-- From now on: enough rounds are 22. -/
theorem ReaderVary_good {s : ByteArray} {n : Nat} {rest : ByteArray} (hz : s.size ≤ 9223372036854775807) (hn : n < 18446744073709551616) (hs : bl s = vary n ++ bl rest) {k : Nat} (hk : 22 ≤ k) :
    pack_Reader_Vary.f k s false = some ((n : Int), rest, false) := by
  obtain ⟨r, h1, h2, _⟩ := ReaderVary_f s false hz hk
  rw [h1, VaryRes.unique (h2 rfl) (.good n rest hn hs)]
theorem ReaderVary_bad {s : ByteArray} (hz : s.size ≤ 9223372036854775807) (h : ∀ n, n < 18446744073709551616 → ∀ r, bl s ≠ vary n ++ r) {k : Nat} (hk : 22 ≤ k) :
    pack_Reader_Vary.f k s false = some (0, ⟨#[]⟩, true) := by
  obtain ⟨r, h1, h2, _⟩ := ReaderVary_f s false hz hk
  rw [h1, VaryRes.unique (h2 rfl) (.bad h)]
theorem ReaderVary_true {s : ByteArray} (hz : s.size ≤ 9223372036854775807) {k : Nat} (hk : 22 ≤ k) : pack_Reader_Vary.f k s true = some (0, ⟨#[]⟩, true) := by
  obtain ⟨r, h1, _, h2⟩ := ReaderVary_f s true hz hk
  rw [h1, h2 rfl]

/-! ### texts -/
theorem pow_small {n : Nat} (h : n ≤ 9223372036854775807) : n < 18446744073709551616 := by omega
theorem Text_f {s : ByteArray} (h : s.size + 10 ≤ 9223372036854775807) {k : Nat} (hk : 11 ≤ k) : pack_Text.f k s = some (vs s.size ++ s) := by
  unfold pack_Text.f
  have h10 := vary_len_ten (pow_small (show s.size ≤ 9223372036854775807 by omega))
  rw [if_pos (by omega), Vary_f (by omega) hk]
  simp only [Option.bind_some]
  rw [if_pos (by rw [vs_size]; omega)]
/-- What a reader answers that is asked for a text of at most so many bytes. -/
inductive TextRes (s : ByteArray) (most : Int) : ByteArray × ByteArray × Bool → Prop
  | good (t rest : ByteArray) (hs : bl s = vary t.size ++ bl t ++ bl rest) (hm : (t.size : Int) ≤ most) : TextRes s most (t, rest, false)
  | bad (h : ∀ t rest : ByteArray, (t.size : Int) ≤ most → bl s ≠ vary t.size ++ bl t ++ bl rest) : TextRes s most (⟨#[]⟩, ⟨#[]⟩, true)
theorem vary_text_inj {t u r q : ByteArray} (hz : t.size ≤ 9223372036854775807) (h : vary t.size ++ bl t ++ bl r = vary u.size ++ bl u ++ bl q) : t = u ∧ r = q := by
  rw [List.append_assoc, List.append_assoc] at h
  obtain ⟨e, h⟩ := vary_prefix _ _ _ _ h
  have hl : (bl t).length = (bl u).length := by rw [bl_length, bl_length, e]
  obtain ⟨e1, e2⟩ := List.append_inj h hl
  exact ⟨bl_inj e1, bl_inj e2⟩
theorem TextRes.unique {s : ByteArray} {most : Int} {a b : ByteArray × ByteArray × Bool} (hz : s.size ≤ 9223372036854775807) (ha : TextRes s most a) (hb : TextRes s most b) : a = b := by
  cases ha with
  | good t r hs hm =>
    have hl : t.size ≤ 9223372036854775807 := by
      have := congrArg List.length hs
      rw [bl_length, List.length_append, List.length_append, bl_length] at this
      omega
    cases hb with
    | good u q ht hm' =>
      obtain ⟨rfl, rfl⟩ := vary_text_inj hl (hs.symm.trans ht)
      rfl
    | bad h => exact absurd hs (h t r hm)
  | bad h =>
    cases hb with
    | good u q ht hm' => exact absurd ht (h u q hm')
    | bad h => rfl
theorem mn_cases (a b : Int) : mn a b ≤ a ∧ mn a b ≤ b ∧ (mn a b = a ∨ mn a b = b) := by unfold mn; split <;> omega
theorem ReaderText_f (s : ByteArray) (most : Int) (hz : s.size ≤ 9223372036854775807) {k : Nat} (hk : 22 ≤ k) : ∃ r, pack_Reader_Text.f k s false most = some r ∧ TextRes s most r := by
  unfold pack_Reader_Text.f
  obtain ⟨r, h1, h2, _⟩ := ReaderVary_f s false hz hk
  rw [h1]
  simp only [Option.bind_some]
  cases h2 rfl with
  | bad h =>
    refine ⟨(⟨#[]⟩, ⟨#[]⟩, true), rfl, .bad fun t rest hm hs => ?_⟩
    have hl : t.size ≤ 9223372036854775807 := by
      have := congrArg List.length hs
      rw [bl_length, List.length_append, List.length_append, bl_length] at this
      omega
    rw [List.append_assoc] at hs
    exact h t.size (by omega) _ hs
  | good n rest hn hs =>
    have hrs : rest.size ≤ s.size := by rw [← bl_length, ← bl_length, hs]; simp
    rw [if_neg (by simp)]
    dsimp only
    have none : (∀ u q : ByteArray, (u.size : Int) ≤ most → bl s = vary u.size ++ bl u ++ bl q → (n : Int) ≤ most ∧ n ≤ rest.size) := by
      intro u q hm ht
      rw [List.append_assoc] at ht
      obtain ⟨e, e2⟩ := vary_prefix _ _ _ _ (hs.symm.trans ht)
      have := congrArg List.length e2
      rw [List.length_append, bl_length, bl_length] at this
      omega
    by_cases c1 : most < 0
    · rw [if_pos c1]
      exact ⟨_, rfl, .bad fun u q hm ht => by omega⟩
    · rw [if_neg c1]
      obtain ⟨m1, m2, m3⟩ := mn_cases most (rest.size : Int)
      have hw : IntKind.u64.wrap (mn most (rest.size : Int)) = mn most (rest.size : Int) := wrap_u64 (by omega) (by omega)
      rw [hw]
      clear hw
      generalize mn most (rest.size : Int) = M at *
      by_cases c2 : (n : Int) > M
      · rw [if_pos c2]
        refine ⟨_, rfl, .bad fun u q hm ht => ?_⟩
        have := none u q hm ht
        omega
      · rw [if_neg c2, if_pos (by omega), if_pos (by omega)]
        refine ⟨_, rfl, .good _ _ ?_ ?_⟩
        · rw [show ((n : Int)).toNat = n by omega]
          have e : (rest.extract 0 n).size = n := by simp; omega
          rw [e, hs, bl_take, bl_drop, List.append_assoc, List.take_append_drop]
        · rw [show ((n : Int)).toNat = n by omega]
          have e : (rest.extract 0 n).size = n := by simp; omega
          rw [e]; omega
theorem ReaderText_true {s : ByteArray} {most : Int} (hz : s.size ≤ 9223372036854775807) {k : Nat} (hk : 22 ≤ k) : pack_Reader_Text.f k s true most = some (⟨#[]⟩, ⟨#[]⟩, true) := by
  unfold pack_Reader_Text.f
  rw [ReaderVary_true hz hk]
  rfl
theorem ReaderText_good {s t rest : ByteArray} {most : Int} (hz : s.size ≤ 9223372036854775807) (hs : bl s = vary t.size ++ bl t ++ bl rest) (hm : (t.size : Int) ≤ most) {k : Nat} (hk : 22 ≤ k) :
    pack_Reader_Text.f k s false most = some (t, rest, false) := by
  obtain ⟨r, h1, h2⟩ := ReaderText_f s most hz hk
  rw [h1, TextRes.unique hz h2 (.good t rest hs hm)]
theorem ReaderText_bad {s : ByteArray} {most : Int} (hz : s.size ≤ 9223372036854775807) (h : ∀ t rest : ByteArray, (t.size : Int) ≤ most → bl s ≠ vary t.size ++ bl t ++ bl rest) {k : Nat} (hk : 22 ≤ k) :
    pack_Reader_Text.f k s false most = some (⟨#[]⟩, ⟨#[]⟩, true) := by
  obtain ⟨r, h1, h2⟩ := ReaderText_f s most hz hk
  rw [h1, TextRes.unique hz h2 (.bad h)]

/-! ### numbers of a fixed size -/
def nb (n k : Nat) : ByteArray := strOfNums (NL (be k n))
theorem bl_nb (n k : Nat) : bl (nb n k) = be k n := bl_str _ (be_lt k n)
theorem nb_size (n k : Nat) : (nb n k).size = k := by rw [← bl_length, bl_nb, be_len]
theorem numL_be (n k : Nat) : numL (n : Int) k = NL (be k n) := by
  unfold numL NL
  have h : be k n = (List.range k).map fun j => n / 256 ^ (k - 1 - j) % 256 := by
    induction k with
    | zero => rfl
    | succ k ih =>
      rw [List.range_succ_eq_map, List.map_cons, List.map_map]
      simp only [be]
      congr 1
      rw [ih]
      apply List.map_congr_left
      intro j hj
      have := List.mem_range.1 hj
      simp only [Function.comp]
      rw [show k - 1 - j = k + 1 - 1 - (j + 1) by omega]
  rw [h, List.map_map]
  apply List.map_congr_left
  intro j hj
  simp only [Function.comp, Nat.pow_mul, Int.natCast_emod, Int.natCast_ediv]
  rfl
theorem Number_f (n : Nat) (k : Int) (h1 : 1 ≤ k) (h8 : k ≤ 8) : pack_Number.f (n : Int) k = some (nb n k.toNat) := by
  unfold pack_Number.f
  rw [if_neg (by omega), if_neg (by omega), numL_be]; rfl
theorem Number_none (x : Int) (k : Int) (h : k < 1 ∨ 8 < k) : pack_Number.f x k = some ⟨#[]⟩ := by
  unfold pack_Number.f
  by_cases h1 : k < 1
  · rw [if_pos h1]
  · rw [if_neg h1, if_pos (by omega)]
theorem rnum_bev (s : ByteArray) (k : Nat) (hk : k ≤ 8) (hs : k ≤ s.size) : rnum s k = ((bev ((bl s).take k) : Nat) : Int) := by
  induction k with
  | zero => rfl
  | succ k ih =>
    have ih := ih (by omega) (by omega)
    obtain ⟨c, hc, hbt, hc256⟩ := bt_bl s k (by omega)
    have hlt := bev_lt ((bl s).take k) (fun b hb => bl_lt s b (List.mem_of_mem_take hb))
    have hll : ((bl s).take k).length = k := by rw [List.length_take, bl_length]; omega
    rw [hll] at hlt
    have hp : 256 ^ k ≤ 256 ^ 7 := Nat.pow_le_pow_right (by omega) (by omega)
    simp only [rnum]
    rw [ih, hbt, List.take_add_one, hc]
    simp only [Option.toList]
    rw [bev_snoc]
    generalize bev ((bl s).take k) = v at *
    rw [wrap_u64 (by omega) (by omega), wrap_u64 (by omega) (by omega)]
    have e : (v : Int) * 256 = ((2 ^ 8 * v : Nat) : Int) := by omega
    rw [e, u64_or_nat _ _ (by omega) (by omega)]
    rw [Nat.mul_comm v 256]
    congr 1
    exact (Nat.two_pow_add_eq_or_of_lt (i := 8) (by omega) v).symm
/-- What a reader answers that is asked for a number of so many bytes. -/
theorem ReaderNumber_good {s : ByteArray} {k : Int} (h1 : 1 ≤ k) (h8 : k ≤ 8) (hs : k ≤ (s.size : Int)) (hz : s.size ≤ 9223372036854775807) :
    pack_Reader_Number.f s false k = some (((bev ((bl s).take k.toNat) : Nat) : Int), s.extract k.toNat s.size, false) := by
  unfold pack_Reader_Number.f
  rw [if_pos hz, if_neg (by simp), if_neg (show ¬ k < 1 by omega), if_neg (show ¬ 8 < k by omega), if_neg (show ¬ (s.size : Int) < k by omega), rnum_bev s k.toNat (by omega) (by omega)]
theorem ReaderNumber_bad {s : ByteArray} {b : Bool} {k : Int} (h : b = true ∨ k < 1 ∨ 8 < k ∨ (s.size : Int) < k) (hz : s.size ≤ 9223372036854775807) :
    pack_Reader_Number.f s b k = some (0, ⟨#[]⟩, true) := by
  unfold pack_Reader_Number.f
  rw [if_pos hz]
  cases b with
  | true => rw [if_pos rfl]
  | false =>
    rw [if_neg (by simp)]
    by_cases c1 : k < 1
    · rw [if_pos c1]
    · rw [if_neg c1]
      by_cases c2 : 8 < k
      · rw [if_pos c2]
      · rw [if_neg c2, if_pos (show (s.size : Int) < k by simp at h; omega)]
theorem Done_f (s : ByteArray) (b : Bool) : pack_Reader_Done.f s b = some (!b && decide (s = ⟨#[]⟩)) := by
  unfold pack_Reader_Done.f
  cases b with
  | true => rfl
  | false =>
    rw [if_neg (by simp)]
    congr 1
    rw [Bool.eq_iff_iff, beq_iff_eq]
    simp only [Bool.not_false, Bool.true_and, decide_eq_true_eq]
    exact ⟨fun h => toList_iff.1 (by rw [h, toList_data]), fun h => by rw [h, toList_data]⟩
end Go.Proofs.Ytplgbkobpanbfaa.Pure
