/- A vector that is read back; what is read stands there. -/
import Derived.Test.YtdlagefpglhdoaaDoorVecA
set_option linter.unusedVariables false
set_option linter.unusedSimpArgs false
namespace Go.Proofs.YtdlagefpglhdoaaDoor.Pure
open Go.RowKit Go.Proofs.YtdlagefpglhdoaaDoor.Q Go.Proofs.YtdlagefpglhdoaaDoorW.PrintWords Go.Proofs.YtdlagefpglhdoaaDoorW.PrintLast Go.Proofs.YtdlagefpglhdoaaDoorW.PrintMore Go.Proofs.YtdlagefpglhdoaaDoor.Plain

/-- A vector's bytes. -/
def rv (n0 n1 n2 n3 : Nat) : List Nat := vary n0 ++ (vary n1 ++ (vary n2 ++ vary n3))
theorem rv_prefix {n0 n1 n2 n3 m0 m1 m2 m3 : Nat} {r q : List Nat} (h : rv n0 n1 n2 n3 ++ r = rv m0 m1 m2 m3 ++ q) : n0 = m0 ∧ n1 = m1 ∧ n2 = m2 ∧ n3 = m3 ∧ r = q := by
  unfold rv at h
  simp only [List.append_assoc] at h
  obtain ⟨h0, h⟩ := vary_prefix _ _ _ _ h
  obtain ⟨h1, h⟩ := vary_prefix _ _ _ _ h
  obtain ⟨h2, h⟩ := vary_prefix _ _ _ _ h
  obtain ⟨h3, h⟩ := vary_prefix _ _ _ _ h
  exact ⟨h0, h1, h2, h3, h⟩
def vv (a b c d : Nat) : ByteArray := vs a ++ vs b ++ vs c ++ vs d
theorem bl_vv (a b c d : Nat) : bl (vv a b c d) = rv a b c d := by
  unfold vv rv
  simp only [bl_append, bl_vs, List.append_assoc]
theorem vv_size {a b c d : Nat} (ha : a < 18446744073709551616) (hb : b < 18446744073709551616) (hc : c < 18446744073709551616) (hd : d < 18446744073709551616) : (vv a b c d).size ≤ 40 ∧ (vv a b c d).size ≠ 0 := by
  have h1 := vary_len_ten ha
  have h2 := vary_len_ten hb
  have h3 := vary_len_ten hc
  have h4 := vary_len_ten hd
  have p := vary_pos a
  rw [← bl_length, bl_vv]
  unfold rv
  simp only [List.length_append]
  omega
theorem vget_good {s rest : ByteArray} {n0 n1 n2 n3 : Nat} (hz : s.size ≤ 9223372036854775807) (hs : bl s = rv n0 n1 n2 n3 ++ bl rest)
    (hn : n0 ≤ 1152921504606846976 ∧ n1 ≤ 1152921504606846976 ∧ n2 ≤ 1152921504606846976 ∧ n3 ≤ 1152921504606846976) {k : Nat} (hk : 22 ≤ k) :
    vec_Get.f k s false = some ((n0 : Int), (n1 : Int), (n2 : Int), (n3 : Int), rest, false) := by
  have sub : ∀ l : List Nat, (∀ b ∈ l, b < 256) → ∃ t : ByteArray, bl t = l ∧ t.size = l.length := fun l hl => ⟨strOfNums (NL l), bl_str l hl, by rw [← bl_length, bl_str l hl]⟩
  have lv := fun n => vary_lt n
  have lr := bl_lt rest
  have mem : ∀ {p q : List Nat}, (∀ b ∈ p, b < 256) → (∀ b ∈ q, b < 256) → ∀ b ∈ p ++ q, b < 256 := fun hp hq b hb => (List.mem_append.1 hb).elim (hp b) (hq b)
  obtain ⟨t3, b3, z3⟩ := sub (vary n3 ++ bl rest) (mem (lv n3) lr)
  obtain ⟨t2, b2, z2⟩ := sub (vary n2 ++ (vary n3 ++ bl rest)) (mem (lv n2) (mem (lv n3) lr))
  obtain ⟨t1, b1, z1⟩ := sub (vary n1 ++ (vary n2 ++ (vary n3 ++ bl rest))) (mem (lv n1) (mem (lv n2) (mem (lv n3) lr)))
  have hl : s.size = (vary n0).length + ((vary n1).length + ((vary n2).length + ((vary n3).length + (bl rest).length))) := by
    rw [← bl_length, hs]; unfold rv
    simp only [List.length_append]; omega
  simp only [List.length_append] at z1 z2 z3
  have e3 : pack_Reader_Vary.f k s false = some ((n0 : Int), t1, false) := ReaderVary_good (by omega) (by omega) (by rw [hs, b1]; unfold rv; simp) hk
  have e4 : pack_Reader_Vary.f k t1 false = some ((n1 : Int), t2, false) := ReaderVary_good (by omega) (by omega) (by rw [b1, b2]) hk
  have e5 : pack_Reader_Vary.f k t2 false = some ((n2 : Int), t3, false) := ReaderVary_good (by omega) (by omega) (by rw [b2, b3]) hk
  have e6 : pack_Reader_Vary.f k t3 false = some ((n3 : Int), rest, false) := ReaderVary_good (by omega) (by omega) (by rw [b3]) hk
  unfold vec_Get.f
  simp only [e3, e4, e5, e6, Option.bind_some, vright_f]
  rw [if_neg (by simp), if_pos (decide_eq_true (by omega))]
/-- What is got without a mark stands there. -/
theorem vget_sound {s : ByteArray} (hz : s.size ≤ 9223372036854775807) {k : Nat} (hk : 22 ≤ k) : ∃ v0 v1 v2 v3 t c, vec_Get.f k s false = some (v0, v1, v2, v3, t, c) ∧
    (c = false → ∃ n0 n1 n2 n3 : Nat, (n0 ≤ 1152921504606846976 ∧ n1 ≤ 1152921504606846976 ∧ n2 ≤ 1152921504606846976 ∧ n3 ≤ 1152921504606846976) ∧ bl s = rv n0 n1 n2 n3 ++ bl t) := by
  obtain ⟨v0, v1, v2, v3, t, c, e, _, h⟩ := vget_step (s := s) (b := false) hz hk
  refine ⟨v0, v1, v2, v3, t, c, e, fun hc => ?_⟩
  obtain ⟨_, n0, n1, n2, n3, hb, _, _, _, _, hs⟩ := h hc
  exact ⟨n0, n1, n2, n3, hb, by rw [hs]; unfold rv; simp⟩
theorem vget_cut {n0 n1 n2 n3 m : Nat} {s : ByteArray} (hz : s.size ≤ 9223372036854775807) (hs : bl s = rv n0 n1 n2 n3) (hm : m < s.size) {k : Nat} (hk : 22 ≤ k) :
    ∃ v0 v1 v2 v3 t, vec_Get.f k (s.extract 0 m) false = some (v0, v1, v2, v3, t, true) := by
  obtain ⟨v0, v1, v2, v3, t, c, e, h⟩ := vget_sound (s := s.extract 0 m) (by simp; omega) hk
  cases c with
  | true => exact ⟨v0, v1, v2, v3, t, e⟩
  | false =>
    exfalso
    obtain ⟨m0, m1, m2, m3, _, hq⟩ := h rfl
    have e : rv n0 n1 n2 n3 ++ [] = rv m0 m1 m2 m3 ++ (bl t ++ (bl s).drop m) := by
      rw [← List.append_assoc, ← hq, bl_take, List.take_append_drop, List.append_nil, hs]
    have := (rv_prefix e).2.2.2.2
    have := congrArg List.length this
    simp only [List.length_nil, List.length_append, List.length_drop, bl_length] at this
    omega
theorem vget_bad {n0 n1 n2 n3 : Nat} {s rest : ByteArray} (hz : s.size ≤ 9223372036854775807) (hs : bl s = rv n0 n1 n2 n3 ++ bl rest)
    (hn : ¬ (n0 ≤ 1152921504606846976 ∧ n1 ≤ 1152921504606846976 ∧ n2 ≤ 1152921504606846976 ∧ n3 ≤ 1152921504606846976)) {k : Nat} (hk : 22 ≤ k) :
    ∃ v0 v1 v2 v3 t, vec_Get.f k s false = some (v0, v1, v2, v3, t, true) := by
  obtain ⟨v0, v1, v2, v3, t, c, e, h⟩ := vget_sound (s := s) hz hk
  cases c with
  | true => exact ⟨v0, v1, v2, v3, t, e⟩
  | false =>
    exfalso
    obtain ⟨m0, m1, m2, m3, hb, hq⟩ := h rfl
    obtain ⟨rfl, rfl, rfl, rfl, _⟩ := rv_prefix (hs.symm.trans hq)
    exact hn hb
end Go.Proofs.YtdlagefpglhdoaaDoor.Pure
