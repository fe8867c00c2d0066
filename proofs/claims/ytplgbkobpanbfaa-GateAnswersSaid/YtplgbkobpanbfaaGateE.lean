/- Chapter 19: responses. -/
import Derived.Test.YtplgbkobpanbfaaGateA
import Derived.Test.YtplgbkobpanbfaaQxf17
import Derived.Test.YtplgbkobpanbfaaQxf23
import Derived.Test.YtplgbkobpanbfaaQxf42
import Derived.Test.YtplgbkobpanbfaaQxf34
import Derived.Test.YtplgbkobpanbfaaQxf25
import Derived.Test.YtplgbkobpanbfaaQxf44
import Derived.Test.YtplgbkobpanbfaaQxf55
set_option linter.unusedVariables false
set_option linter.unusedSimpArgs false
namespace Go.Proofs.Ytplgbkobpanbfaa.Pure
open Go.RowKit Go.Proofs.Ytplgbkobpanbfaa.Q Go.Proofs.YtplgbkobpanbfaaW.PrintWords Go.Proofs.YtplgbkobpanbfaaW.PrintLast Go.Proofs.YtplgbkobpanbfaaW.PrintMore Go.Proofs.Ytplgbkobpanbfaa.Plain

theorem vright_f (a b c d : Int) : vec_Right.f a b c d = some (decide (a ≤ 1152921504606846976 ∧ b ≤ 1152921504606846976 ∧ c ≤ 1152921504606846976 ∧ d ≤ 1152921504606846976)) := by
  have h : ∀ x : Int, (mx x 1152921504606846976 == (1152921504606846976 : Int)) = decide (x ≤ 1152921504606846976) := by
    intro x
    rw [Bool.eq_iff_iff, beq_iff_eq, decide_eq_true_eq]
    unfold mx
    split <;> omega
  unfold vec_Right.f vec_Leq.f vec_Join.f
  simp only [Option.bind_some, h]
  simp only [Bool.decide_and]
theorem vput_f {a b c d : Nat} (ha : a < 18446744073709551616) (hb : b < 18446744073709551616) (hc : c < 18446744073709551616) (hd : d < 18446744073709551616) {k : Nat} (hk : 11 ≤ k) :
    vec_Put.f k a b c d = some (vs a ++ vs b ++ vs c ++ vs d) := by
  have h1 := vary_len_ten ha
  have h2 := vary_len_ten hb
  have h3 := vary_len_ten hc
  have h4 := vary_len_ten hd
  unfold vec_Put.f
  rw [Vary_f ha hk, Vary_f hb hk, Vary_f hc hk, Vary_f hd hk]
  simp only [Option.bind_some]
  rw [if_pos (by rw [vs_size, vs_size, vs_size, vs_size]; omega)]
/-- A response's bytes. -/
def rs (c f : Nat) (v : ByteArray) (n0 n1 n2 n3 : Nat) : List Nat := c :: f :: (tx v ++ (vary n0 ++ (vary n1 ++ (vary n2 ++ vary n3))))
theorem rs_prefix {c f c' f' : Nat} {v v' : ByteArray} {n0 n1 n2 n3 m0 m1 m2 m3 : Nat} {r q : List Nat} (h : rs c f v n0 n1 n2 n3 ++ r = rs c' f' v' m0 m1 m2 m3 ++ q) :
    c = c' ∧ f = f' ∧ v = v' ∧ n0 = m0 ∧ n1 = m1 ∧ n2 = m2 ∧ n3 = m3 ∧ r = q := by
  unfold rs at h
  simp only [List.append_assoc, List.cons_append, List.cons.injEq] at h
  obtain ⟨e0, e1, h⟩ := h
  obtain ⟨e2, h⟩ := tx_inj h
  obtain ⟨e3, h⟩ := vary_prefix _ _ _ _ h
  obtain ⟨e4, h⟩ := vary_prefix _ _ _ _ h
  obtain ⟨e5, h⟩ := vary_prefix _ _ _ _ h
  obtain ⟨e6, h⟩ := vary_prefix _ _ _ _ h
  exact ⟨e0, e1, e2, e3, e4, e5, e6, h⟩
theorem answer_f (c : Int) {v : ByteArray} (hv : v.size ≤ 140737488351232) (f : Bool) {a b c' d : Nat} (ha : a < 18446744073709551616) (hb : b < 18446744073709551616) (hc : c' < 18446744073709551616) (hd : d < 18446744073709551616) {k : Nat} (hk : 12 ≤ k) :
    ∃ s, gate_Answer.f k c v f a b c' d = some s ∧ bl s = rs ((c % 256).toNat) (if f = true then 1 else 0) v a b c' d := by
  have h1 := vary_len_ten ha
  have h2 := vary_len_ten hb
  have h3 := vary_len_ten hc
  have h4 := vary_len_ten hd
  have h5 := vary_len_ten (show v.size < 18446744073709551616 by omega)
  obtain ⟨k, rfl⟩ : ∃ m, k = m + 1 := ⟨k - 1, by omega⟩
  obtain ⟨m, hm, hm2⟩ : ∃ m : Nat, IntKind.u64.wrap c = (m : Int) ∧ m % 256 = (c % 256).toNat := by
    have h : 0 ≤ IntKind.u64.wrap c ∧ IntKind.u64.wrap c % 256 = c % 256 := by simp only [IntKind.wrap_u64]; omega
    exact ⟨(IntKind.u64.wrap c).toNat, by omega, by omega⟩
  have hj : ∀ y : Nat, y < 2 → gate_Answer.j0 (k + 1) (y : Int) c v f a b c' d = some (nb m 1 ++ nb y 1 ++ (vs v.size ++ v) ++ (vs a ++ vs b ++ vs c' ++ vs d)) := by
    intro y hy
    rw [gate_Answer.j0]
    rw [hm, Number_f m 1 (by omega) (by omega), Number_f y 1 (by omega) (by omega), Text_f (by omega) (by omega), vput_f ha hb hc hd (by omega)]
    simp only [Option.bind_some]
    have e1 : (1 : Int).toNat = 1 := rfl
    rw [e1]
    have w1 : (nb m 1).size + (nb y 1).size ≤ 9223372036854775807 := by rw [nb_size, nb_size]; omega
    have w2 : (nb m 1 ++ nb y 1).size + (vs v.size ++ v).size ≤ 9223372036854775807 := by simp only [ByteArray.size_append, nb_size, vs_size]; omega
    have w3 : (nb m 1 ++ nb y 1 ++ (vs v.size ++ v)).size + (vs a ++ vs b ++ vs c' ++ vs d).size ≤ 9223372036854775807 := by simp only [ByteArray.size_append, nb_size, vs_size]; omega
    rw [if_pos w1, if_pos w2, if_pos w3]
  have hb1 : ∀ n : Nat, bl (nb n 1) = [n % 256] := by intro n; rw [bl_nb]; simp [be]
  unfold gate_Answer.f
  cases f with
  | true =>
    refine ⟨_, by rw [if_pos rfl]; exact hj 1 (by omega), ?_⟩
    simp only [bl_append, hb1, bl_vs, hm2]
    unfold rs tx
    simp
  | false =>
    refine ⟨_, by rw [if_neg (by simp)]; exact hj 0 (by omega), ?_⟩
    simp only [bl_append, hb1, bl_vs, hm2]
    unfold rs tx
    simp
theorem vget_step {s : ByteArray} {b : Bool} (hz : s.size ≤ 9223372036854775807) {k : Nat} (hk : 22 ≤ k) :
    ∃ v0 v1 v2 v3 t c, vec_Get.f k s b = some (v0, v1, v2, v3, t, c) ∧ t.size ≤ s.size ∧ (c = false → b = false ∧ ∃ n0 n1 n2 n3 : Nat, (n0 ≤ 1152921504606846976 ∧ n1 ≤ 1152921504606846976 ∧ n2 ≤ 1152921504606846976 ∧ n3 ≤ 1152921504606846976) ∧
      v0 = (n0 : Int) ∧ v1 = (n1 : Int) ∧ v2 = (n2 : Int) ∧ v3 = (n3 : Int) ∧ bl s = vary n0 ++ (vary n1 ++ (vary n2 ++ (vary n3 ++ bl t)))) := by
  obtain ⟨v0, t0, c0, e0, z0, h0⟩ := vary_step (s := s) (b := b) hz hk
  obtain ⟨v1, t1, c1, e1, z1, h1⟩ := vary_step (s := t0) (b := c0) (by omega) hk
  obtain ⟨v2, t2, c2, e2, z2, h2⟩ := vary_step (s := t1) (b := c1) (by omega) hk
  obtain ⟨v3, t3, c3, e3, z3, h3⟩ := vary_step (s := t2) (b := c2) (by omega) hk
  unfold vec_Get.f
  simp only [e0, e1, e2, e3, Option.bind_some, vright_f]
  cases c3 with
  | true => rw [if_pos rfl]; exact ⟨_, _, _, _, _, _, rfl, Nat.zero_le _, fun h => absurd h (by simp)⟩
  | false =>
    rw [if_neg (by simp)]
    obtain ⟨rfl, n3, l3, rfl, g3⟩ := h3 rfl
    obtain ⟨rfl, n2, l2, rfl, g2⟩ := h2 rfl
    obtain ⟨rfl, n1, l1, rfl, g1⟩ := h1 rfl
    obtain ⟨rfl, n0, l0, rfl, g0⟩ := h0 rfl
    by_cases hr : ((n0 : Int) ≤ 1152921504606846976 ∧ (n1 : Int) ≤ 1152921504606846976 ∧ (n2 : Int) ≤ 1152921504606846976 ∧ (n3 : Int) ≤ 1152921504606846976)
    · rw [if_pos (decide_eq_true hr)]
      refine ⟨_, _, _, _, _, _, rfl, by omega, fun _ => ⟨rfl, n0, n1, n2, n3, by omega, rfl, rfl, rfl, rfl, ?_⟩⟩
      rw [g0, g1, g2, g3]
    · rw [if_neg (by simpa using hr)]
      exact ⟨_, _, _, _, _, _, rfl, Nat.zero_le _, fun h => absurd h (by simp)⟩
/-- Whatever is read stands there, byte by byte; else nothing is read. -/
theorem read_sound {s : ByteArray} (hz : s.size ≤ 9223372036854775807) {k : Nat} (hk : 22 ≤ k) :
    (∃ (c : Nat) (v : ByteArray) (f : Bool) (n0 n1 n2 n3 : Nat), gate_Read.f k s = some ((c : Int), v, f, (n0 : Int), (n1 : Int), (n2 : Int), (n3 : Int), true) ∧ c < 256 ∧ v.size ≤ 64 ∧
      (n0 ≤ 1152921504606846976 ∧ n1 ≤ 1152921504606846976 ∧ n2 ≤ 1152921504606846976 ∧ n3 ≤ 1152921504606846976) ∧ bl s = rs c (if f = true then 1 else 0) v n0 n1 n2 n3) ∨
    gate_Read.f k s = some (0, ⟨#[]⟩, false, 0, 0, 0, 0, false) := by
  obtain ⟨v0, t0, c0, e0, z0, h0⟩ := num_step (s := s) (b := false) hz
  obtain ⟨v1, t1, c1, e1, z1, h1⟩ := num_step (s := t0) (b := c0) (by omega)
  obtain ⟨v2, t2, c2, e2, z2, h2⟩ := text_step (s := t1) (b := c1) (most := 64) (by omega) hk
  obtain ⟨w0, w1, w2, w3, t3, c3, e3, z3, h3⟩ := vget_step (s := t2) (b := c2) (by omega) hk
  unfold gate_Read.f
  simp only [e0, e1, e2, e3, Option.bind_some, Done_f]
  by_cases hd : (!c3 && decide (t3 = ⟨#[]⟩)) = true
  · rw [if_pos hd]
    simp only [Bool.and_eq_true, Bool.not_eq_true', decide_eq_true_eq] at hd
    obtain ⟨rfl, rfl⟩ := hd
    obtain ⟨rfl, n0, n1, n2, n3, hb, rfl, rfl, rfl, rfl, g3⟩ := h3 rfl
    obtain ⟨rfl, g2, m2⟩ := h2 rfl
    obtain ⟨rfl, f, lf, rfl, g1⟩ := h1 rfl
    obtain ⟨_, c, lc, rfl, g0⟩ := h0 rfl
    by_cases hf : ((f : Nat) : Int) > 1
    · rw [if_pos hf]; exact Or.inr rfl
    · rw [if_neg hf]
      left
      have w : wrap64 (c : Int) = (c : Int) := wrap64_id (by omega) (by omega)
      rw [w]
      refine ⟨c, v2, ((f : Int) == 1), n0, n1, n2, n3, rfl, lc, by omega, hb, ?_⟩
      rw [g0, g1, g2, g3, bl_empty]
      have : f = if ((f : Int) == 1) = true then 1 else 0 := by
        by_cases e : f = 1
        · subst e; rfl
        · obtain rfl : f = 0 := by omega
          rfl
      unfold rs tx
      rw [← this]
      simp
  · rw [if_neg hd]; exact Or.inr rfl
theorem read_good {s : ByteArray} {c : Nat} {v : ByteArray} {f : Bool} {n0 n1 n2 n3 : Nat} (hs : bl s = rs c (if f = true then 1 else 0) v n0 n1 n2 n3) (hc : c < 256) (hv : v.size ≤ 64)
    (hn : n0 ≤ 1152921504606846976 ∧ n1 ≤ 1152921504606846976 ∧ n2 ≤ 1152921504606846976 ∧ n3 ≤ 1152921504606846976) {k : Nat} (hk : 22 ≤ k) :
    gate_Read.f k s = some ((c : Int), v, f, (n0 : Int), (n1 : Int), (n2 : Int), (n3 : Int), true) := by
  have h0 := vary_len_ten (show n0 < 18446744073709551616 by omega)
  have h1 := vary_len_ten (show n1 < 18446744073709551616 by omega)
  have h2 := vary_len_ten (show n2 < 18446744073709551616 by omega)
  have h3 := vary_len_ten (show n3 < 18446744073709551616 by omega)
  have hx := tx_len v (by omega)
  have sub : ∀ l : List Nat, (∀ b ∈ l, b < 256) → ∃ t : ByteArray, bl t = l ∧ t.size = l.length := fun l hl => ⟨strOfNums (NL l), bl_str l hl, by rw [← bl_length, bl_str l hl]⟩
  obtain ⟨y, hy⟩ : ∃ y : Nat, y = if f = true then 1 else 0 := ⟨_, rfl⟩
  have hy2 : y < 2 := by rw [hy]; split <;> omega
  rw [← hy] at hs
  have lv := fun n => vary_lt n
  have lx := tx_lt v
  have mem : ∀ {p q : List Nat}, (∀ b ∈ p, b < 256) → (∀ b ∈ q, b < 256) → ∀ b ∈ p ++ q, b < 256 := fun hp hq b hb => (List.mem_append.1 hb).elim (hp b) (hq b)
  obtain ⟨t6, b6, z6⟩ := sub [] (by simp)
  obtain ⟨t5, b5, z5⟩ := sub (vary n3) (lv n3)
  obtain ⟨t4, b4, z4⟩ := sub (vary n2 ++ vary n3) (mem (lv n2) (lv n3))
  obtain ⟨t3, b3, z3⟩ := sub (vary n1 ++ (vary n2 ++ vary n3)) (mem (lv n1) (mem (lv n2) (lv n3)))
  obtain ⟨t2, b2, z2⟩ := sub (vary n0 ++ (vary n1 ++ (vary n2 ++ vary n3))) (mem (lv n0) (mem (lv n1) (mem (lv n2) (lv n3))))
  obtain ⟨t1, b1, z1⟩ := sub (tx v ++ (vary n0 ++ (vary n1 ++ (vary n2 ++ vary n3)))) (mem lx (mem (lv n0) (mem (lv n1) (mem (lv n2) (lv n3)))))
  obtain ⟨t0, b0, z0⟩ := sub (y :: (tx v ++ (vary n0 ++ (vary n1 ++ (vary n2 ++ vary n3))))) (fun b hb => by
    rcases List.mem_cons.1 hb with rfl | hb
    · omega
    · exact mem lx (mem (lv n0) (mem (lv n1) (mem (lv n2) (lv n3)))) b hb)
  simp only [List.length_append, List.length_cons, List.length_nil] at z0 z1 z2 z3 z4 z5 z6
  have hz : s.size ≤ 1000 := by
    rw [← bl_length, hs]; unfold rs
    simp only [List.length_append, List.length_cons]; omega
  have e0 : pack_Reader_Number.f s false 1 = some ((c : Int), t0, false) := num_good (by omega) (by rw [hs, b0]; rfl)
  have e1 : pack_Reader_Number.f t0 false 1 = some ((y : Int), t1, false) := num_good (by omega) (by rw [b0, b1])
  have e2 : pack_Reader_Text.f k t1 false 64 = some (v, t2, false) := ReaderText_good (by omega) (by rw [b1, b2]; rfl) (by omega) hk
  have e3 : pack_Reader_Vary.f k t2 false = some ((n0 : Int), t3, false) := ReaderVary_good (by omega) (by omega) (by rw [b2, b3]) hk
  have e4 : pack_Reader_Vary.f k t3 false = some ((n1 : Int), t4, false) := ReaderVary_good (by omega) (by omega) (by rw [b3, b4]) hk
  have e5 : pack_Reader_Vary.f k t4 false = some ((n2 : Int), t5, false) := ReaderVary_good (by omega) (by omega) (by rw [b4, b5]) hk
  have e6 : pack_Reader_Vary.f k t5 false = some ((n3 : Int), t6, false) := ReaderVary_good (by omega) (by omega) (by rw [b5, b6]; simp) hk
  have eg : vec_Get.f k t2 false = some ((n0 : Int), (n1 : Int), (n2 : Int), (n3 : Int), t6, false) := by
    unfold vec_Get.f
    simp only [e3, e4, e5, e6, Option.bind_some, vright_f]
    rw [if_neg (by simp), if_pos (decide_eq_true (by omega))]
  have et : t6 = ⟨#[]⟩ := bl_nil.1 b6
  unfold gate_Read.f
  simp only [e0, e1, e2, eg, Option.bind_some, Done_f, et]
  rw [if_pos (by simp), if_neg (by omega), wrap64_id (by omega) (by omega)]
  have : ((y : Int) == 1) = f := by
    cases f with
    | true => rw [hy]; rfl
    | false => rw [hy]; rfl
  rw [this]
end Go.Proofs.Ytplgbkobpanbfaa.Pure
