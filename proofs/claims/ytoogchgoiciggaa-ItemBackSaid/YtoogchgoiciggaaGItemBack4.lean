import Derived.Test.YtoogchgoiciggaaGItemBack3
import Derived.Test.YtoogchgoiciggaaGItemBack2
import Derived.Test.YtoogchgoiciggaaGItemBack0
import Derived.Test.YtoogchgoiciggaaGItemBack1
import Derived.Laws.BitsAllLaws
/- What the functions of package vec answer. -/
set_option linter.unusedVariables false
set_option linter.unusedSimpArgs false
namespace Go.Proofs.Ytoogchgoiciggaa.Pure
open Go.RowKit Go.Proofs.Ytoogchgoiciggaa.Q Go.Proofs.YtoogchgoiciggaaW.PrintWords Go.Proofs.YtoogchgoiciggaaW.PrintLast Go.Proofs.YtoogchgoiciggaaW.PrintMore Go.Proofs.Ytoogchgoiciggaa.Plain

theorem vright_f (a b c d : Int) : vec_Right.f a b c d = some (decide (a ≤ 1152921504606846976 ∧ b ≤ 1152921504606846976 ∧ c ≤ 1152921504606846976 ∧ d ≤ 1152921504606846976)) := by
  have h : ∀ x : Int, (mx x 1152921504606846976 == (1152921504606846976 : Int)) = decide (x ≤ 1152921504606846976) := by
    intro x
    rw [Bool.eq_iff_iff, beq_iff_eq, decide_eq_true_eq]
    unfold mx
    split <;> omega
  unfold vec_Right.f vec_Leq.f vec_Join.f
  simp only [Option.bind_some, h]
  simp only [Bool.decide_and]
theorem vput_f {a b c d : Nat} (ha : a < 18446744073709551616) (hb : b < 18446744073709551616) (hc : c < 18446744073709551616) (hd : d < 18446744073709551616) {k : Nat} (hk : 11 ≤ k) :
    vec_Put.f k a b c d = some (vs a ++ vs b ++ vs c ++ vs d) := by
  have h1 := vary_len_ten ha
  have h2 := vary_len_ten hb
  have h3 := vary_len_ten hc
  have h4 := vary_len_ten hd
  unfold vec_Put.f
  rw [Vary_f ha hk, Vary_f hb hk, Vary_f hc hk, Vary_f hd hk]
  simp only [Option.bind_some]
  rw [if_pos (by rw [vs_size, vs_size, vs_size, vs_size]; omega)]
theorem vget_step {s : ByteArray} {b : Bool} (hz : s.size ≤ 9223372036854775807) {k : Nat} (hk : 22 ≤ k) :
    ∃ v0 v1 v2 v3 t c, vec_Get.f k s b = some (v0, v1, v2, v3, t, c) ∧ t.size ≤ s.size ∧ (c = false → b = false ∧ ∃ n0 n1 n2 n3 : Nat, (n0 ≤ 1152921504606846976 ∧ n1 ≤ 1152921504606846976 ∧ n2 ≤ 1152921504606846976 ∧ n3 ≤ 1152921504606846976) ∧
      v0 = (n0 : Int) ∧ v1 = (n1 : Int) ∧ v2 = (n2 : Int) ∧ v3 = (n3 : Int) ∧ bl s = vary n0 ++ (vary n1 ++ (vary n2 ++ (vary n3 ++ bl t)))) := by
  obtain ⟨v0, t0, c0, e0, z0, h0⟩ := vary_step (s := s) (b := b) hz hk
  obtain ⟨v1, t1, c1, e1, z1, h1⟩ := vary_step (s := t0) (b := c0) (by omega) hk
  obtain ⟨v2, t2, c2, e2, z2, h2⟩ := vary_step (s := t1) (b := c1) (by omega) hk
  obtain ⟨v3, t3, c3, e3, z3, h3⟩ := vary_step (s := t2) (b := c2) (by omega) hk
  unfold vec_Get.f
  simp only [e0, e1, e2, e3, Option.bind_some, vright_f]
  cases c3 with
  | true => rw [if_pos rfl]; exact ⟨_, _, _, _, _, _, rfl, Nat.zero_le _, fun h => absurd h (by simp)⟩
  | false =>
    rw [if_neg (by simp)]
    obtain ⟨rfl, n3, l3, rfl, g3⟩ := h3 rfl
    obtain ⟨rfl, n2, l2, rfl, g2⟩ := h2 rfl
    obtain ⟨rfl, n1, l1, rfl, g1⟩ := h1 rfl
    obtain ⟨rfl, n0, l0, rfl, g0⟩ := h0 rfl
    by_cases hr : ((n0 : Int) ≤ 1152921504606846976 ∧ (n1 : Int) ≤ 1152921504606846976 ∧ (n2 : Int) ≤ 1152921504606846976 ∧ (n3 : Int) ≤ 1152921504606846976)
    · rw [if_pos (decide_eq_true hr)]
      refine ⟨_, _, _, _, _, _, rfl, by omega, fun _ => ⟨rfl, n0, n1, n2, n3, by omega, rfl, rfl, rfl, rfl, ?_⟩⟩
      rw [g0, g1, g2, g3]
    · rw [if_neg (by simpa using hr)]
      exact ⟨_, _, _, _, _, _, rfl, Nat.zero_le _, fun h => absurd h (by simp)⟩
end Go.Proofs.Ytoogchgoiciggaa.Pure

/- A vector that is read back; what is read stands there. -/
set_option linter.unusedVariables false
set_option linter.unusedSimpArgs false
namespace Go.Proofs.Ytoogchgoiciggaa.Pure
open Go.RowKit Go.Proofs.Ytoogchgoiciggaa.Q Go.Proofs.YtoogchgoiciggaaW.PrintWords Go.Proofs.YtoogchgoiciggaaW.PrintLast Go.Proofs.YtoogchgoiciggaaW.PrintMore Go.Proofs.Ytoogchgoiciggaa.Plain

/-- A vector's bytes. -/
def rv (n0 n1 n2 n3 : Nat) : List Nat := vary n0 ++ (vary n1 ++ (vary n2 ++ vary n3))
theorem rv_prefix {n0 n1 n2 n3 m0 m1 m2 m3 : Nat} {r q : List Nat} (h : rv n0 n1 n2 n3 ++ r = rv m0 m1 m2 m3 ++ q) : n0 = m0 ∧ n1 = m1 ∧ n2 = m2 ∧ n3 = m3 ∧ r = q := by
  unfold rv at h
  simp only [List.append_assoc] at h
  obtain ⟨h0, h⟩ := vary_prefix _ _ _ _ h
  obtain ⟨h1, h⟩ := vary_prefix _ _ _ _ h
  obtain ⟨h2, h⟩ := vary_prefix _ _ _ _ h
  obtain ⟨h3, h⟩ := vary_prefix _ _ _ _ h
  exact ⟨h0, h1, h2, h3, h⟩
def vv (a b c d : Nat) : ByteArray := vs a ++ vs b ++ vs c ++ vs d
theorem bl_vv (a b c d : Nat) : bl (vv a b c d) = rv a b c d := by
  unfold vv rv
  simp only [bl_append, bl_vs, List.append_assoc]
theorem vv_size {a b c d : Nat} (ha : a < 18446744073709551616) (hb : b < 18446744073709551616) (hc : c < 18446744073709551616) (hd : d < 18446744073709551616) : (vv a b c d).size ≤ 40 ∧ (vv a b c d).size ≠ 0 := by
  have h1 := vary_len_ten ha
  have h2 := vary_len_ten hb
  have h3 := vary_len_ten hc
  have h4 := vary_len_ten hd
  have p := vary_pos a
  rw [← bl_length, bl_vv]
  unfold rv
  simp only [List.length_append]
  omega
theorem vget_good {s rest : ByteArray} {n0 n1 n2 n3 : Nat} (hz : s.size ≤ 9223372036854775807) (hs : bl s = rv n0 n1 n2 n3 ++ bl rest)
    (hn : n0 ≤ 1152921504606846976 ∧ n1 ≤ 1152921504606846976 ∧ n2 ≤ 1152921504606846976 ∧ n3 ≤ 1152921504606846976) {k : Nat} (hk : 22 ≤ k) :
    vec_Get.f k s false = some ((n0 : Int), (n1 : Int), (n2 : Int), (n3 : Int), rest, false) := by
  have sub : ∀ l : List Nat, (∀ b ∈ l, b < 256) → ∃ t : ByteArray, bl t = l ∧ t.size = l.length := fun l hl => ⟨strOfNums (NL l), bl_str l hl, by rw [← bl_length, bl_str l hl]⟩
  have lv := fun n => vary_lt n
  have lr := bl_lt rest
  have mem : ∀ {p q : List Nat}, (∀ b ∈ p, b < 256) → (∀ b ∈ q, b < 256) → ∀ b ∈ p ++ q, b < 256 := fun hp hq b hb => (List.mem_append.1 hb).elim (hp b) (hq b)
  obtain ⟨t3, b3, z3⟩ := sub (vary n3 ++ bl rest) (mem (lv n3) lr)
  obtain ⟨t2, b2, z2⟩ := sub (vary n2 ++ (vary n3 ++ bl rest)) (mem (lv n2) (mem (lv n3) lr))
  obtain ⟨t1, b1, z1⟩ := sub (vary n1 ++ (vary n2 ++ (vary n3 ++ bl rest))) (mem (lv n1) (mem (lv n2) (mem (lv n3) lr)))
  have hl : s.size = (vary n0).length + ((vary n1).length + ((vary n2).length + ((vary n3).length + (bl rest).length))) := by
    rw [← bl_length, hs]; unfold rv
    simp only [List.length_append]; omega
  simp only [List.length_append] at z1 z2 z3
  have e3 : pack_Reader_Vary.f k s false = some ((n0 : Int), t1, false) := ReaderVary_good (by omega) (by omega) (by rw [hs, b1]; unfold rv; simp) hk
  have e4 : pack_Reader_Vary.f k t1 false = some ((n1 : Int), t2, false) := ReaderVary_good (by omega) (by omega) (by rw [b1, b2]) hk
  have e5 : pack_Reader_Vary.f k t2 false = some ((n2 : Int), t3, false) := ReaderVary_good (by omega) (by omega) (by rw [b2, b3]) hk
  have e6 : pack_Reader_Vary.f k t3 false = some ((n3 : Int), rest, false) := ReaderVary_good (by omega) (by omega) (by rw [b3]) hk
  unfold vec_Get.f
  simp only [e3, e4, e5, e6, Option.bind_some, vright_f]
  rw [if_neg (by simp), if_pos (decide_eq_true (by omega))]
/-- What is got without a mark stands there. -/
theorem vget_sound {s : ByteArray} (hz : s.size ≤ 9223372036854775807) {k : Nat} (hk : 22 ≤ k) : ∃ v0 v1 v2 v3 t c, vec_Get.f k s false = some (v0, v1, v2, v3, t, c) ∧
    (c = false → ∃ n0 n1 n2 n3 : Nat, (n0 ≤ 1152921504606846976 ∧ n1 ≤ 1152921504606846976 ∧ n2 ≤ 1152921504606846976 ∧ n3 ≤ 1152921504606846976) ∧ bl s = rv n0 n1 n2 n3 ++ bl t) := by
  obtain ⟨v0, v1, v2, v3, t, c, e, _, h⟩ := vget_step (s := s) (b := false) hz hk
  refine ⟨v0, v1, v2, v3, t, c, e, fun hc => ?_⟩
  obtain ⟨_, n0, n1, n2, n3, hb, _, _, _, _, hs⟩ := h hc
  exact ⟨n0, n1, n2, n3, hb, by rw [hs]; unfold rv; simp⟩
theorem vget_cut {n0 n1 n2 n3 m : Nat} {s : ByteArray} (hz : s.size ≤ 9223372036854775807) (hs : bl s = rv n0 n1 n2 n3) (hm : m < s.size) {k : Nat} (hk : 22 ≤ k) :
    ∃ v0 v1 v2 v3 t, vec_Get.f k (s.extract 0 m) false = some (v0, v1, v2, v3, t, true) := by
  obtain ⟨v0, v1, v2, v3, t, c, e, h⟩ := vget_sound (s := s.extract 0 m) (by simp; omega) hk
  cases c with
  | true => exact ⟨v0, v1, v2, v3, t, e⟩
  | false =>
    exfalso
    obtain ⟨m0, m1, m2, m3, _, hq⟩ := h rfl
    have e : rv n0 n1 n2 n3 ++ [] = rv m0 m1 m2 m3 ++ (bl t ++ (bl s).drop m) := by
      rw [← List.append_assoc, ← hq, bl_take, List.take_append_drop, List.append_nil, hs]
    have := (rv_prefix e).2.2.2.2
    have := congrArg List.length this
    simp only [List.length_nil, List.length_append, List.length_drop, bl_length] at this
    omega
theorem vget_bad {n0 n1 n2 n3 : Nat} {s rest : ByteArray} (hz : s.size ≤ 9223372036854775807) (hs : bl s = rv n0 n1 n2 n3 ++ bl rest)
    (hn : ¬ (n0 ≤ 1152921504606846976 ∧ n1 ≤ 1152921504606846976 ∧ n2 ≤ 1152921504606846976 ∧ n3 ≤ 1152921504606846976)) {k : Nat} (hk : 22 ≤ k) :
    ∃ v0 v1 v2 v3 t, vec_Get.f k s false = some (v0, v1, v2, v3, t, true) := by
  obtain ⟨v0, v1, v2, v3, t, c, e, h⟩ := vget_sound (s := s) hz hk
  cases c with
  | true => exact ⟨v0, v1, v2, v3, t, e⟩
  | false =>
    exfalso
    obtain ⟨m0, m1, m2, m3, hb, hq⟩ := h rfl
    obtain ⟨rfl, rfl, rfl, rfl, _⟩ := rv_prefix (hs.symm.trans hq)
    exact hn hb
end Go.Proofs.Ytoogchgoiciggaa.Pure

/- What the printed functions of package pack answer, in plain words: by lists of bytes. -/
set_option linter.unusedVariables false
set_option linter.unusedSimpArgs false
namespace Go.Proofs.Ytoogchgoiciggaa.Pure
open Go.RowKit Go.Proofs.Ytoogchgoiciggaa.Q Go.Proofs.YtoogchgoiciggaaW.PrintWords Go.Proofs.YtoogchgoiciggaaW.PrintLast Go.Proofs.YtoogchgoiciggaaW.PrintMore Go.Proofs.Ytoogchgoiciggaa.Plain

theorem pow_small {n : Nat} (h : n ≤ 9223372036854775807) : n < 18446744073709551616 := by omega
theorem Text_f {s : ByteArray} (h : s.size + 10 ≤ 9223372036854775807) {k : Nat} (hk : 11 ≤ k) : pack_Text.f k s = some (vs s.size ++ s) := by
  unfold pack_Text.f
  have h10 := vary_len_ten (pow_small (show s.size ≤ 9223372036854775807 by omega))
  rw [if_pos (by omega), Vary_f (by omega) hk]
  simp only [Option.bind_some]
  rw [if_pos (by rw [vs_size]; omega)]
/-- What a reader answers that is asked for a text of at most so many bytes. -/
inductive TextRes (s : ByteArray) (most : Int) : ByteArray × ByteArray × Bool → Prop
  | good (t rest : ByteArray) (hs : bl s = vary t.size ++ bl t ++ bl rest) (hm : (t.size : Int) ≤ most) : TextRes s most (t, rest, false)
  | bad (h : ∀ t rest : ByteArray, (t.size : Int) ≤ most → bl s ≠ vary t.size ++ bl t ++ bl rest) : TextRes s most (⟨#[]⟩, ⟨#[]⟩, true)
theorem vary_text_inj {t u r q : ByteArray} (hz : t.size ≤ 9223372036854775807) (h : vary t.size ++ bl t ++ bl r = vary u.size ++ bl u ++ bl q) : t = u ∧ r = q := by
  rw [List.append_assoc, List.append_assoc] at h
  obtain ⟨e, h⟩ := vary_prefix _ _ _ _ h
  have hl : (bl t).length = (bl u).length := by rw [bl_length, bl_length, e]
  obtain ⟨e1, e2⟩ := List.append_inj h hl
  exact ⟨bl_inj e1, bl_inj e2⟩
theorem TextRes.unique {s : ByteArray} {most : Int} {a b : ByteArray × ByteArray × Bool} (hz : s.size ≤ 9223372036854775807) (ha : TextRes s most a) (hb : TextRes s most b) : a = b := by
  cases ha with
  | good t r hs hm =>
    have hl : t.size ≤ 9223372036854775807 := by
      have := congrArg List.length hs
      rw [bl_length, List.length_append, List.length_append, bl_length] at this
      omega
    cases hb with
    | good u q ht hm' =>
      obtain ⟨rfl, rfl⟩ := vary_text_inj hl (hs.symm.trans ht)
      rfl
    | bad h => exact absurd hs (h t r hm)
  | bad h =>
    cases hb with
    | good u q ht hm' => exact absurd ht (h u q hm')
    | bad h => rfl
theorem mn_cases (a b : Int) : mn a b ≤ a ∧ mn a b ≤ b ∧ (mn a b = a ∨ mn a b = b) := by unfold mn; split <;> omega
theorem ReaderText_f (s : ByteArray) (most : Int) (hz : s.size ≤ 9223372036854775807) {k : Nat} (hk : 22 ≤ k) : ∃ r, pack_Reader_Text.f k s false most = some r ∧ TextRes s most r := by
  unfold pack_Reader_Text.f
  obtain ⟨r, h1, h2, _⟩ := ReaderVary_f s false hz hk
  rw [h1]
  simp only [Option.bind_some]
  cases h2 rfl with
  | bad h =>
    refine ⟨(⟨#[]⟩, ⟨#[]⟩, true), rfl, .bad fun t rest hm hs => ?_⟩
    have hl : t.size ≤ 9223372036854775807 := by
      have := congrArg List.length hs
      rw [bl_length, List.length_append, List.length_append, bl_length] at this
      omega
    rw [List.append_assoc] at hs
    exact h t.size (by omega) _ hs
  | good n rest hn hs =>
    have hrs : rest.size ≤ s.size := by rw [← bl_length, ← bl_length, hs]; simp
    rw [if_neg (by simp)]
    dsimp only
    have none : (∀ u q : ByteArray, (u.size : Int) ≤ most → bl s = vary u.size ++ bl u ++ bl q → (n : Int) ≤ most ∧ n ≤ rest.size) := by
      intro u q hm ht
      rw [List.append_assoc] at ht
      obtain ⟨e, e2⟩ := vary_prefix _ _ _ _ (hs.symm.trans ht)
      have := congrArg List.length e2
      rw [List.length_append, bl_length, bl_length] at this
      omega
    by_cases c1 : most < 0
    · rw [if_pos c1]
      exact ⟨_, rfl, .bad fun u q hm ht => by omega⟩
    · rw [if_neg c1]
      obtain ⟨m1, m2, m3⟩ := mn_cases most (rest.size : Int)
      have hw : IntKind.u64.wrap (mn most (rest.size : Int)) = mn most (rest.size : Int) := wrap_u64 (by omega) (by omega)
      rw [hw]
      clear hw
      generalize mn most (rest.size : Int) = M at *
      by_cases c2 : (n : Int) > M
      · rw [if_pos c2]
        refine ⟨_, rfl, .bad fun u q hm ht => ?_⟩
        have := none u q hm ht
        omega
      · rw [if_neg c2, if_pos (by omega), if_pos (by omega)]
        refine ⟨_, rfl, .good _ _ ?_ ?_⟩
        · rw [show ((n : Int)).toNat = n by omega]
          have e : (rest.extract 0 n).size = n := by simp; omega
          rw [e, hs, bl_take, bl_drop, List.append_assoc, List.take_append_drop]
        · rw [show ((n : Int)).toNat = n by omega]
          have e : (rest.extract 0 n).size = n := by simp; omega
          rw [e]; omega
theorem ReaderText_true {s : ByteArray} {most : Int} (hz : s.size ≤ 9223372036854775807) {k : Nat} (hk : 22 ≤ k) : pack_Reader_Text.f k s true most = some (⟨#[]⟩, ⟨#[]⟩, true) := by
  unfold pack_Reader_Text.f
  rw [ReaderVary_true hz hk]
  rfl
theorem ReaderText_good {s t rest : ByteArray} {most : Int} (hz : s.size ≤ 9223372036854775807) (hs : bl s = vary t.size ++ bl t ++ bl rest) (hm : (t.size : Int) ≤ most) {k : Nat} (hk : 22 ≤ k) :
    pack_Reader_Text.f k s false most = some (t, rest, false) := by
  obtain ⟨r, h1, h2⟩ := ReaderText_f s most hz hk
  rw [h1, TextRes.unique hz h2 (.good t rest hs hm)]
theorem ReaderText_bad {s : ByteArray} {most : Int} (hz : s.size ≤ 9223372036854775807) (h : ∀ t rest : ByteArray, (t.size : Int) ≤ most → bl s ≠ vary t.size ++ bl t ++ bl rest) {k : Nat} (hk : 22 ≤ k) :
    pack_Reader_Text.f k s false most = some (⟨#[]⟩, ⟨#[]⟩, true) := by
  obtain ⟨r, h1, h2⟩ := ReaderText_f s most hz hk
  rw [h1, TextRes.unique hz h2 (.bad h)]

/-! ### numbers of a fixed size -/
def nb (n k : Nat) : ByteArray := strOfNums (NL (be k n))
theorem bl_nb (n k : Nat) : bl (nb n k) = be k n := bl_str _ (be_lt k n)
theorem nb_size (n k : Nat) : (nb n k).size = k := by rw [← bl_length, bl_nb, be_len]
theorem numL_be (n k : Nat) : numL (n : Int) k = NL (be k n) := by
  unfold numL NL
  have h : be k n = (List.range k).map fun j => n / 256 ^ (k - 1 - j) % 256 := by
    induction k with
    | zero => rfl
    | succ k ih =>
      rw [List.range_succ_eq_map, List.map_cons, List.map_map]
      simp only [be]
      congr 1
      rw [ih]
      apply List.map_congr_left
      intro j hj
      have := List.mem_range.1 hj
      simp only [Function.comp]
      rw [show k - 1 - j = k + 1 - 1 - (j + 1) by omega]
  rw [h, List.map_map]
  apply List.map_congr_left
  intro j hj
  simp only [Function.comp, Nat.pow_mul, Int.natCast_emod, Int.natCast_ediv]
  rfl
theorem Number_f (n : Nat) (k : Int) (h1 : 1 ≤ k) (h8 : k ≤ 8) : pack_Number.f (n : Int) k = some (nb n k.toNat) := by
  unfold pack_Number.f
  rw [if_neg (by omega), if_neg (by omega), numL_be]; rfl
theorem Number_none (x : Int) (k : Int) (h : k < 1 ∨ 8 < k) : pack_Number.f x k = some ⟨#[]⟩ := by
  unfold pack_Number.f
  by_cases h1 : k < 1
  · rw [if_pos h1]
  · rw [if_neg h1, if_pos (by omega)]
theorem rnum_bev (s : ByteArray) (k : Nat) (hk : k ≤ 8) (hs : k ≤ s.size) : rnum s k = ((bev ((bl s).take k) : Nat) : Int) := by
  induction k with
  | zero => rfl
  | succ k ih =>
    have ih := ih (by omega) (by omega)
    obtain ⟨c, hc, hbt, hc256⟩ := bt_bl s k (by omega)
    have hlt := bev_lt ((bl s).take k) (fun b hb => bl_lt s b (List.mem_of_mem_take hb))
    have hll : ((bl s).take k).length = k := by rw [List.length_take, bl_length]; omega
    rw [hll] at hlt
    have hp : 256 ^ k ≤ 256 ^ 7 := Nat.pow_le_pow_right (by omega) (by omega)
    simp only [rnum]
    rw [ih, hbt, List.take_add_one, hc]
    simp only [Option.toList]
    rw [bev_snoc]
    generalize bev ((bl s).take k) = v at *
    rw [wrap_u64 (by omega) (by omega), wrap_u64 (by omega) (by omega)]
    have e : (v : Int) * 256 = ((2 ^ 8 * v : Nat) : Int) := by omega
    rw [e, u64_or_nat _ _ (by omega) (by omega)]
    rw [Nat.mul_comm v 256]
    congr 1
    exact (Nat.two_pow_add_eq_or_of_lt (i := 8) (by omega) v).symm
/-- What a reader answers that is asked for a number of so many bytes. -/
theorem ReaderNumber_good {s : ByteArray} {k : Int} (h1 : 1 ≤ k) (h8 : k ≤ 8) (hs : k ≤ (s.size : Int)) (hz : s.size ≤ 9223372036854775807) :
    pack_Reader_Number.f s false k = some (((bev ((bl s).take k.toNat) : Nat) : Int), s.extract k.toNat s.size, false) := by
  unfold pack_Reader_Number.f
  rw [if_pos hz, if_neg (by simp), if_neg (show ¬ k < 1 by omega), if_neg (show ¬ 8 < k by omega), if_neg (show ¬ (s.size : Int) < k by omega), rnum_bev s k.toNat (by omega) (by omega)]
theorem ReaderNumber_bad {s : ByteArray} {b : Bool} {k : Int} (h : b = true ∨ k < 1 ∨ 8 < k ∨ (s.size : Int) < k) (hz : s.size ≤ 9223372036854775807) :
    pack_Reader_Number.f s b k = some (0, ⟨#[]⟩, true) := by
  unfold pack_Reader_Number.f
  rw [if_pos hz]
  cases b with
  | true => rw [if_pos rfl]
  | false =>
    rw [if_neg (by simp)]
    by_cases c1 : k < 1
    · rw [if_pos c1]
    · rw [if_neg c1]
      by_cases c2 : 8 < k
      · rw [if_pos c2]
      · rw [if_neg c2, if_pos (show (s.size : Int) < k by simp at h; omega)]
theorem Done_f (s : ByteArray) (b : Bool) : pack_Reader_Done.f s b = some (!b && decide (s = ⟨#[]⟩)) := by
  unfold pack_Reader_Done.f
  cases b with
  | true => rfl
  | false =>
    rw [if_neg (by simp)]
    congr 1
    rw [Bool.eq_iff_iff, beq_iff_eq]
    simp only [Bool.not_false, Bool.true_and, decide_eq_true_eq]
    exact ⟨fun h => toList_iff.1 (by rw [h, toList_data]), fun h => by rw [h, toList_data]⟩
end Go.Proofs.Ytoogchgoiciggaa.Pure
