/- Chapter 19 in plain words: requests and responses as lists of bytes; what is put, what is got; the laws' requests; the chapter's examples. -/
import Derived.Test.YtplgbkobpanbfaaPackA
import Derived.Test.YtplgbkobpanbfaaQxf15
import Derived.Test.YtplgbkobpanbfaaQxf11
import Derived.Test.YtplgbkobpanbfaaQxf21
import Derived.Test.YtplgbkobpanbfaaQxf17
import Derived.Test.YtplgbkobpanbfaaQxf23
import Derived.Test.YtplgbkobpanbfaaQxf42
import Derived.Test.YtplgbkobpanbfaaQxf34
import Derived.Test.YtplgbkobpanbfaaQxf25
import Derived.Test.YtplgbkobpanbfaaQxf10
import Derived.Test.YtplgbkobpanbfaaQxf9
set_option linter.unusedVariables false
set_option linter.unusedSimpArgs false
namespace Go.Proofs.Ytplgbkobpanbfaa.Pure
open Go.RowKit Go.Proofs.Ytplgbkobpanbfaa.Q Go.Proofs.YtplgbkobpanbfaaW.PrintWords Go.Proofs.YtplgbkobpanbfaaW.PrintLast Go.Proofs.YtplgbkobpanbfaaW.PrintMore Go.Proofs.Ytplgbkobpanbfaa.Plain

/-! ### one step of a reader -/
theorem text_step {s : ByteArray} {b : Bool} {most : Int} (hz : s.size ≤ 9223372036854775807) {k : Nat} (hk : 22 ≤ k) :
    ∃ v t c, pack_Reader_Text.f k s b most = some (v, t, c) ∧ t.size ≤ s.size ∧ (c = false → b = false ∧ bl s = vary v.size ++ bl v ++ bl t ∧ (v.size : Int) ≤ most) := by
  cases b with
  | true => exact ⟨_, _, _, ReaderText_true hz hk, Nat.zero_le _, fun h => absurd h (by simp)⟩
  | false =>
    obtain ⟨r, h1, h2⟩ := ReaderText_f s most hz hk
    cases h2 with
    | good t rest hs hm =>
      refine ⟨_, _, _, h1, ?_, fun _ => ⟨rfl, hs, hm⟩⟩
      rw [← bl_length, ← bl_length, hs]; simp; omega
    | bad h => exact ⟨_, _, _, h1, Nat.zero_le _, fun h => absurd h (by simp)⟩
theorem num_good {s t : ByteArray} {n : Nat} (hz : s.size ≤ 9223372036854775807) (hs : bl s = n :: bl t) : pack_Reader_Number.f s false 1 = some ((n : Int), t, false) := by
  have hl : s.size = t.size + 1 := by rw [← bl_length, hs, List.length_cons, bl_length]
  rw [ReaderNumber_good (by omega) (by omega) (by omega) hz]
  have e1 : (bl s).take ((1 : Int).toNat) = [n] := by rw [hs]; rfl
  have e2 : s.extract (1 : Int).toNat s.size = t := bl_inj (by rw [bl_drop, hs]; rfl)
  rw [e1, e2]
  simp [bev]
theorem num_step {s : ByteArray} {b : Bool} (hz : s.size ≤ 9223372036854775807) :
    ∃ v t c, pack_Reader_Number.f s b 1 = some (v, t, c) ∧ t.size ≤ s.size ∧ (c = false → b = false ∧ ∃ n, n < 256 ∧ v = (n : Nat) ∧ bl s = n :: bl t) := by
  by_cases h : b = true ∨ s.size = 0
  · refine ⟨_, _, _, ReaderNumber_bad (by rcases h with h | h; · exact Or.inl h
                                          · exact Or.inr (Or.inr (Or.inr (by omega)))) hz, Nat.zero_le _, fun h => absurd h (by simp)⟩
  · have hb : b = false := by cases b with | true => exact absurd (Or.inl rfl) h | false => rfl
    subst hb
    have h0 : s.size ≠ 0 := fun e => h (Or.inr e)
    obtain ⟨n, l, hl⟩ : ∃ n l, bl s = n :: l := by
      cases e : bl s with
      | nil => exact absurd (by rw [← bl_length, e]; rfl) h0
      | cons n l => exact ⟨n, l, rfl⟩
    have hs : bl s = n :: bl (s.extract 1 s.size) := by rw [bl_drop, hl]; rfl
    refine ⟨_, _, _, num_good hz hs, by simp, fun _ => ⟨rfl, n, ?_, rfl, hs⟩⟩
    exact bl_lt s n (by rw [hl]; exact List.mem_cons_self)
theorem vary_step {s : ByteArray} {b : Bool} (hz : s.size ≤ 9223372036854775807) {k : Nat} (hk : 22 ≤ k) :
    ∃ v t c, pack_Reader_Vary.f k s b = some (v, t, c) ∧ t.size ≤ s.size ∧ (c = false → b = false ∧ ∃ n, n < 18446744073709551616 ∧ v = (n : Nat) ∧ bl s = vary n ++ bl t) := by
  cases b with
  | true => exact ⟨_, _, _, ReaderVary_true hz hk, Nat.zero_le _, fun h => absurd h (by simp)⟩
  | false =>
    obtain ⟨r, h1, h2, _⟩ := ReaderVary_f s false hz hk
    cases h2 rfl with
    | good n rest hn hs =>
      refine ⟨_, _, _, h1, ?_, fun _ => ⟨rfl, n, hn, rfl, hs⟩⟩
      rw [← bl_length, ← bl_length, hs]; simp
    | bad h => exact ⟨_, _, _, h1, Nat.zero_le _, fun h => absurd h (by simp)⟩
theorem done_true {s : ByteArray} {b : Bool} : pack_Reader_Done.f s b = some (!b && decide (s = ⟨#[]⟩)) := Done_f s b

/-! ### requests -/
/-- What is put of a text: how long it is, and it. -/
def tx (s : ByteArray) : List Nat := vary s.size ++ bl s
theorem tx_inj {s t : ByteArray} {r q : List Nat} (h : tx s ++ r = tx t ++ q) : s = t ∧ r = q := by
  unfold tx at h
  rw [List.append_assoc, List.append_assoc] at h
  obtain ⟨e, h⟩ := vary_prefix _ _ _ _ h
  obtain ⟨e1, e2⟩ := List.append_inj h (by rw [bl_length, bl_length, e])
  exact ⟨bl_inj e1, e2⟩
/-- A request's bytes. -/
def rq (a0 : ByteArray) (n1 n2 n3 n4 : Nat) (a5 a6 a7 : ByteArray) : List Nat := tx a0 ++ (n1 :: n2 :: n3 :: n4 :: (tx a5 ++ (tx a6 ++ tx a7)))
theorem rq_prefix {a0 b0 a5 b5 a6 b6 a7 b7 : ByteArray} {n1 n2 n3 n4 m1 m2 m3 m4 : Nat} {r q : List Nat} (h : rq a0 n1 n2 n3 n4 a5 a6 a7 ++ r = rq b0 m1 m2 m3 m4 b5 b6 b7 ++ q) :
    a0 = b0 ∧ n1 = m1 ∧ n2 = m2 ∧ n3 = m3 ∧ n4 = m4 ∧ a5 = b5 ∧ a6 = b6 ∧ a7 = b7 ∧ r = q := by
  unfold rq at h
  simp only [List.append_assoc, List.cons_append] at h
  obtain ⟨e0, h⟩ := tx_inj h
  simp only [List.cons.injEq] at h
  obtain ⟨e1, e2, e3, e4, h⟩ := h
  obtain ⟨e5, h⟩ := tx_inj h
  obtain ⟨e6, h⟩ := tx_inj h
  obtain ⟨e7, h⟩ := tx_inj h
  exact ⟨e0, e1, e2, e3, e4, e5, e6, e7, h⟩
/-- Is a request right? -/
def ok19 (a0 : ByteArray) (n1 n2 n3 n4 : Int) (a5 a6 a7 : ByteArray) : Prop :=
  a0.size ≤ 128 ∧ (0 ≤ n1 ∧ n1 ≤ 255) ∧ (0 ≤ n2 ∧ n2 ≤ 255) ∧ (0 ≤ n3 ∧ n3 ≤ 255) ∧ (0 ≤ n4 ∧ n4 ≤ 255) ∧ a5.size ≤ 64 ∧ a6.size ≤ 64 ∧ a7.size ≤ 64
instance (a0 : ByteArray) (n1 n2 n3 n4 : Int) (a5 a6 a7 : ByteArray) : Decidable (ok19 a0 n1 n2 n3 n4 a5 a6 a7) := by unfold ok19; infer_instance
theorem right_f (a0 : ByteArray) (n1 n2 n3 n4 : Int) (a5 a6 a7 : ByteArray) : gate_Right.f a0 n1 n2 n3 n4 a5 a6 a7 = some (decide (ok19 a0 n1 n2 n3 n4 a5 a6 a7)) := by
  unfold gate_Right.f
  congr 1
  by_cases h : ok19 a0 n1 n2 n3 n4 a5 a6 a7
  · rw [decide_eq_true h]
    unfold ok19 at h
    simp only [gate_Right.all_i, gate_Right.all_s, gate_Right.ti, gate_Right.ts, Bool.and_eq_true, decide_eq_true_eq]
    omega
  · rw [decide_eq_false h, Bool.eq_false_iff]
    intro hh
    apply h
    unfold ok19
    simp only [gate_Right.all_i, gate_Right.all_s, gate_Right.ti, gate_Right.ts, Bool.and_eq_true, decide_eq_true_eq] at hh
    omega

theorem be_one (n : Nat) (h : n < 256) : be 1 n = [n] := by simp [be]; omega
theorem nb_one (n : Nat) (h : n < 256) : bl (nb n 1) = [n] := by rw [bl_nb, be_one n h]
theorem byte_f (n : Nat) (h : n < 256) : pack_Number.f (IntKind.u64.wrap (n : Int)) 1 = some (nb n 1) := by
  rw [wrap_u64 (by omega) (by omega)]
  exact Number_f n 1 (by omega) (by omega)
theorem put_step {k : Nat} {x : ByteArray} {l : List Int} {i m : Nat} {z0 : ByteArray} {z1 z2 z3 z4 : Int} {z5 z6 z7 : ByteArray} (hl : l.length = 4) (hi : i < 4) (hm : m < 256) (hr : rd l (i : Int) = (m : Int)) (hx : x.size ≤ 140737488351232) :
    gate_Put.l0 (k + 1) x l 4 (i : Int) z0 z1 z2 z3 z4 z5 z6 z7 = gate_Put.l0 k (x ++ nb m 1) l 4 ((i + 1 : Nat) : Int) z0 z1 z2 z3 z4 z5 z6 z7 := by
  rw [gate_Put.l0]
  rw [if_pos (by omega), if_pos (by omega), if_pos (by rw [hl]; omega), hr, byte_f m hm]
  simp only [Option.bind_some]
  rw [if_pos (by rw [nb_size]; omega), wrap64_id (by omega) (by omega), show (i : Int) + 1 = ((i + 1 : Nat) : Int) by omega]
theorem put_turn {k : Nat} {x : ByteArray} {l : List Int} {z0 : ByteArray} {z1 z2 z3 z4 : Int} {z5 z6 z7 : ByteArray} :
    gate_Put.l0 (k + 1) x l 4 4 z0 z1 z2 z3 z4 z5 z6 z7 = gate_Put.l1 k x [z5, z6, z7] 3 0 := by
  rw [gate_Put.l0]
  rw [if_neg (by omega)]
  rfl
theorem put_text {k : Nat} (hk : 11 ≤ k) {x : ByteArray} {l : List ByteArray} {i : Nat} {t : ByteArray} (hl : l.length = 3) (hi : i < 3) (hr : rdOf ByteArray.empty l (i : Int) = t) (ht : t.size ≤ 140737488351232) (hx : x.size ≤ 140737488351232) :
    gate_Put.l1 (k + 1) x l 3 (i : Int) = gate_Put.l1 k (x ++ (vs t.size ++ t)) l 3 ((i + 1 : Nat) : Int) := by
  have h10 := vary_len_ten (show t.size < 18446744073709551616 by omega)
  rw [gate_Put.l1]
  rw [if_pos (by omega), if_pos (by omega), if_pos (by rw [hl]; omega), hr, Text_f (by omega) hk]
  simp only [Option.bind_some]
  rw [if_pos (by rw [ByteArray.size_append, vs_size]; omega), wrap64_id (by omega) (by omega), show (i : Int) + 1 = ((i + 1 : Nat) : Int) by omega]
theorem put_end {k : Nat} {x : ByteArray} {l : List ByteArray} : gate_Put.l1 (k + 1) x l 3 3 = some (x, true) := by
  rw [gate_Put.l1]
  rw [if_neg (by omega)]
theorem bl_tx (s : ByteArray) : bl (vs s.size ++ s) = tx s := by rw [bl_append, bl_vs]; rfl
theorem tx_len (s : ByteArray) (h : s.size < 18446744073709551616) : (tx s).length ≤ s.size + 10 := by
  unfold tx; rw [List.length_append, bl_length]; have := vary_len_ten h; omega
/-- What is put of a request, byte by byte. -/
def rqs (a0 : ByteArray) (n1 n2 n3 n4 : Nat) (a5 a6 a7 : ByteArray) : ByteArray := strOfNums (NL (rq a0 n1 n2 n3 n4 a5 a6 a7))
theorem tx_lt (s : ByteArray) : ∀ b ∈ tx s, b < 256 := by
  intro b hb
  unfold tx at hb
  rcases List.mem_append.1 hb with h | h
  · exact vary_lt _ _ h
  · exact bl_lt _ _ h
theorem rq_lt {a0 a5 a6 a7 : ByteArray} {n1 n2 n3 n4 : Nat} (h1 : n1 < 256) (h2 : n2 < 256) (h3 : n3 < 256) (h4 : n4 < 256) : ∀ b ∈ rq a0 n1 n2 n3 n4 a5 a6 a7, b < 256 := by
  intro b hb
  unfold rq at hb
  simp only [List.mem_append, List.mem_cons] at hb
  rcases hb with h | rfl | rfl | rfl | rfl | h | h | h
  · exact tx_lt _ _ h
  · exact h1
  · exact h2
  · exact h3
  · exact h4
  · exact tx_lt _ _ h
  · exact tx_lt _ _ h
  · exact tx_lt _ _ h
theorem bl_rqs {a0 a5 a6 a7 : ByteArray} {n1 n2 n3 n4 : Nat} (h1 : n1 < 256) (h2 : n2 < 256) (h3 : n3 < 256) (h4 : n4 < 256) : bl (rqs a0 n1 n2 n3 n4 a5 a6 a7) = rq a0 n1 n2 n3 n4 a5 a6 a7 := bl_str _ (rq_lt h1 h2 h3 h4)
theorem put_ok {a0 a5 a6 a7 : ByteArray} {n1 n2 n3 n4 : Nat} (h : ok19 a0 n1 n2 n3 n4 a5 a6 a7) {k : Nat} (hk : 22 ≤ k) :
    gate_Put.f k a0 n1 n2 n3 n4 a5 a6 a7 = some (rqs a0 n1 n2 n3 n4 a5 a6 a7, true) := by
  have hd := right_f a0 n1 n2 n3 n4 a5 a6 a7
  rw [decide_eq_true h] at hd
  unfold ok19 at h
  have t0 := tx_len a0 (by omega)
  have z0 : (vs a0.size ++ a0).size ≤ 200 := by rw [← bl_length, bl_tx]; omega
  unfold gate_Put.f
  rw [hd]
  simp only [Option.bind_some]
  rw [if_pos trivial, Text_f (by omega) (by omega)]
  simp only [Option.bind_some]
  obtain ⟨k, rfl⟩ : ∃ m, k = m + 9 := ⟨k - 9, by omega⟩
  show gate_Put.l0 (k + 9) (vs a0.size ++ a0) [(n1 : Int), n2, n3, n4] 4 ((0 : Nat) : Int) a0 n1 n2 n3 n4 a5 a6 a7 = _
  have zn : ∀ m : Nat, (nb m 1).size = 1 := fun m => nb_size m 1
  rw [put_step (m := n1) rfl (by omega) (by omega) rfl (by omega), put_step (m := n2) rfl (by omega) (by omega) rfl (by rw [ByteArray.size_append, zn]; omega),
    put_step (m := n3) rfl (by omega) (by omega) rfl (by rw [ByteArray.size_append, ByteArray.size_append, zn, zn]; omega), put_step (m := n4) rfl (by omega) (by omega) rfl (by rw [ByteArray.size_append, ByteArray.size_append, ByteArray.size_append, zn, zn, zn]; omega)]
  show gate_Put.l0 (k + 5) _ [(n1 : Int), n2, n3, n4] 4 4 a0 n1 n2 n3 n4 a5 a6 a7 = _
  rw [put_turn]
  have t5 := tx_len a5 (by omega)
  have t6 := tx_len a6 (by omega)
  have t7 := tx_len a7 (by omega)
  have z5 : (vs a5.size ++ a5).size ≤ 200 := by rw [← bl_length, bl_tx]; omega
  have z6 : (vs a6.size ++ a6).size ≤ 200 := by rw [← bl_length, bl_tx]; omega
  generalize hx : vs a0.size ++ a0 ++ nb n1 1 ++ nb n2 1 ++ nb n3 1 ++ nb n4 1 = x
  have hxs : x.size ≤ 1000 := by rw [← hx]; simp only [ByteArray.size_append, zn] at z0 ⊢; omega
  show gate_Put.l1 (k + 4) x [a5, a6, a7] 3 ((0 : Nat) : Int) = _
  rw [put_text (t := a5) (by omega) rfl (by omega) rfl (by omega) (by omega), put_text (t := a6) (by omega) rfl (by omega) rfl (by omega) (by rw [ByteArray.size_append]; omega), put_text (t := a7) (by omega) rfl (by omega) rfl (by omega) (by rw [ByteArray.size_append, ByteArray.size_append]; omega)]
  show gate_Put.l1 (k + 1) _ [a5, a6, a7] 3 3 = _
  rw [put_end]
  congr 2
  apply bl_inj
  rw [bl_rqs (by omega) (by omega) (by omega) (by omega), ← hx]
  simp only [bl_append, bl_tx, nb_one n1 (by omega), nb_one n2 (by omega), nb_one n3 (by omega), nb_one n4 (by omega), bl_vs]
  unfold rq tx
  simp
theorem put_no {a0 a5 a6 a7 : ByteArray} {n1 n2 n3 n4 : Int} (h : ¬ ok19 a0 n1 n2 n3 n4 a5 a6 a7) {k : Nat} :
    gate_Put.f k a0 n1 n2 n3 n4 a5 a6 a7 = some (⟨#[]⟩, false) := by
  unfold gate_Put.f
  rw [right_f, decide_eq_false h]
  rfl

/-- Whatever is got without an error stands there, byte by byte; else nothing is got. -/
theorem get_sound {s : ByteArray} (hz : s.size ≤ 9223372036854775807) {k : Nat} (hk : 22 ≤ k) :
    (∃ (a0 a5 a6 a7 : ByteArray) (n1 n2 n3 n4 : Nat), gate_Get.f k s = some (a0, (n1 : Int), (n2 : Int), (n3 : Int), (n4 : Int), a5, a6, a7, 0) ∧ ok19 a0 n1 n2 n3 n4 a5 a6 a7 ∧ bl s = rq a0 n1 n2 n3 n4 a5 a6 a7) ∨
    gate_Get.f k s = some (⟨#[]⟩, 0, 0, 0, 0, ⟨#[]⟩, ⟨#[]⟩, ⟨#[]⟩, 2) := by
  obtain ⟨v0, t0, c0, e0, z0, h0⟩ := text_step (s := s) (b := false) (most := 128) hz hk
  obtain ⟨v1, t1, c1, e1, z1, h1⟩ := num_step (s := t0) (b := c0) (by omega)
  obtain ⟨v2, t2, c2, e2, z2, h2⟩ := num_step (s := t1) (b := c1) (by omega)
  obtain ⟨v3, t3, c3, e3, z3, h3⟩ := num_step (s := t2) (b := c2) (by omega)
  obtain ⟨v4, t4, c4, e4, z4, h4⟩ := num_step (s := t3) (b := c3) (by omega)
  obtain ⟨v5, t5, c5, e5, z5, h5⟩ := text_step (s := t4) (b := c4) (most := 64) (by omega) hk
  obtain ⟨v6, t6, c6, e6, z6, h6⟩ := text_step (s := t5) (b := c5) (most := 64) (by omega) hk
  obtain ⟨v7, t7, c7, e7, z7, h7⟩ := text_step (s := t6) (b := c6) (most := 64) (by omega) hk
  have hf : gate_Get.f k s = if (!c7 && decide (t7 = ⟨#[]⟩)) = true then some (v0, wrap64 v1, wrap64 v2, wrap64 v3, wrap64 v4, v5, v6, v7, 0) else some (⟨#[]⟩, 0, 0, 0, 0, ⟨#[]⟩, ⟨#[]⟩, ⟨#[]⟩, 2) := by
    unfold gate_Get.f
    simp only [e0, e1, e2, e3, e4, e5, e6, e7, Option.bind_some, Done_f]
  by_cases hd : (!c7 && decide (t7 = ⟨#[]⟩)) = true
  · rw [if_pos hd] at hf
    left
    simp only [Bool.and_eq_true, Bool.not_eq_true', decide_eq_true_eq] at hd
    obtain ⟨rfl, rfl⟩ := hd
    obtain ⟨rfl, g7, m7⟩ := h7 rfl
    obtain ⟨rfl, g6, m6⟩ := h6 rfl
    obtain ⟨rfl, g5, m5⟩ := h5 rfl
    obtain ⟨rfl, n4, l4, rfl, g4⟩ := h4 rfl
    obtain ⟨rfl, n3, l3, rfl, g3⟩ := h3 rfl
    obtain ⟨rfl, n2, l2, rfl, g2⟩ := h2 rfl
    obtain ⟨rfl, n1, l1, rfl, g1⟩ := h1 rfl
    obtain ⟨_, g0, m0⟩ := h0 rfl
    have w : ∀ n : Nat, n < 256 → wrap64 (n : Int) = (n : Int) := fun n h => wrap64_id (by omega) (by omega)
    rw [w n1 l1, w n2 l2, w n3 l3, w n4 l4] at hf
    refine ⟨v0, v5, v6, v7, n1, n2, n3, n4, hf, ?_, ?_⟩
    · unfold ok19; omega
    · rw [g0, g1, g2, g3, g4, g5, g6, g7]
      unfold rq tx
      rw [bl_empty]
      simp
  · rw [if_neg hd] at hf
    exact Or.inr hf
theorem get_good {s a0 a5 a6 a7 : ByteArray} {n1 n2 n3 n4 : Nat} (hs : bl s = rq a0 n1 n2 n3 n4 a5 a6 a7) (h : ok19 a0 n1 n2 n3 n4 a5 a6 a7) {k : Nat} (hk : 22 ≤ k) :
    gate_Get.f k s = some (a0, (n1 : Int), (n2 : Int), (n3 : Int), (n4 : Int), a5, a6, a7, 0) := by
  unfold ok19 at h
  have hsz : s.size ≤ 1000 := by
    have t0 := tx_len a0 (by omega)
    have t5 := tx_len a5 (by omega)
    have t6 := tx_len a6 (by omega)
    have t7 := tx_len a7 (by omega)
    rw [← bl_length, hs]
    unfold rq
    simp only [List.length_append, List.length_cons]
    omega
  have sub : ∀ l : List Nat, (∀ b ∈ l, b < 256) → ∃ t : ByteArray, bl t = l ∧ t.size = l.length := fun l hl => ⟨strOfNums (NL l), bl_str l hl, by rw [← bl_length, bl_str l hl]⟩
  have hall := rq_lt (a0 := a0) (a5 := a5) (a6 := a6) (a7 := a7) (n1 := n1) (n2 := n2) (n3 := n3) (n4 := n4) (by omega) (by omega) (by omega) (by omega)
  have hlen : (rq a0 n1 n2 n3 n4 a5 a6 a7).length ≤ 1000 := by rw [← hs, bl_length]; exact hsz
  unfold rq at hs hall hlen
  simp only [List.length_append, List.length_cons] at hlen
  obtain ⟨t7, b7, z7⟩ := sub [] (by simp)
  obtain ⟨t6, b6, z6⟩ := sub (tx a7) (fun b hb => hall b (by simp [hb]))
  obtain ⟨t5, b5, z5⟩ := sub (tx a6 ++ tx a7) (fun b hb => hall b (by simp only [List.mem_append, List.mem_cons] at hb ⊢; rcases hb with h | h <;> simp [h]))
  obtain ⟨t4, b4, z4⟩ := sub (tx a5 ++ (tx a6 ++ tx a7)) (fun b hb => hall b (by simp only [List.mem_append, List.mem_cons] at hb ⊢; rcases hb with h | h | h <;> simp [h]))
  obtain ⟨t3, b3, z3⟩ := sub (n4 :: (tx a5 ++ (tx a6 ++ tx a7))) (fun b hb => hall b (by simp only [List.mem_append, List.mem_cons] at hb ⊢; rcases hb with h | h | h | h <;> simp [h]))
  obtain ⟨t2, b2, z2⟩ := sub (n3 :: n4 :: (tx a5 ++ (tx a6 ++ tx a7))) (fun b hb => hall b (by simp only [List.mem_append, List.mem_cons] at hb ⊢; rcases hb with h | h | h | h | h <;> simp [h]))
  obtain ⟨t1, b1, z1⟩ := sub (n2 :: n3 :: n4 :: (tx a5 ++ (tx a6 ++ tx a7))) (fun b hb => hall b (by simp only [List.mem_append, List.mem_cons] at hb ⊢; rcases hb with h | h | h | h | h | h <;> simp [h]))
  obtain ⟨t0, b0, z0⟩ := sub (n1 :: n2 :: n3 :: n4 :: (tx a5 ++ (tx a6 ++ tx a7))) (fun b hb => hall b (by simp only [List.mem_append, List.mem_cons] at hb ⊢; rcases hb with h | h | h | h | h | h | h <;> simp [h]))
  have zt : ∀ {t : ByteArray} {l : List Nat}, t.size = l.length → l.length ≤ 1000 → t.size ≤ 9223372036854775807 := fun h1 h2 => by omega
  have e0 : pack_Reader_Text.f k s false 128 = some (a0, t0, false) := ReaderText_good (by omega) (by rw [hs, b0]; rfl) (by omega) hk
  have e1 : pack_Reader_Number.f t0 false 1 = some ((n1 : Int), t1, false) := num_good (zt z0 (by simp only [List.length_append, List.length_cons]; omega)) (by rw [b0, b1])
  have e2 : pack_Reader_Number.f t1 false 1 = some ((n2 : Int), t2, false) := num_good (zt z1 (by simp only [List.length_append, List.length_cons]; omega)) (by rw [b1, b2])
  have e3 : pack_Reader_Number.f t2 false 1 = some ((n3 : Int), t3, false) := num_good (zt z2 (by simp only [List.length_append, List.length_cons]; omega)) (by rw [b2, b3])
  have e4 : pack_Reader_Number.f t3 false 1 = some ((n4 : Int), t4, false) := num_good (zt z3 (by simp only [List.length_append, List.length_cons]; omega)) (by rw [b3, b4])
  have e5 : pack_Reader_Text.f k t4 false 64 = some (a5, t5, false) := ReaderText_good (zt z4 (by simp only [List.length_append, List.length_cons]; omega)) (by rw [b4, b5]; unfold tx; simp) (by omega) hk
  have e6 : pack_Reader_Text.f k t5 false 64 = some (a6, t6, false) := ReaderText_good (zt z5 (by simp only [List.length_append, List.length_cons]; omega)) (by rw [b5, b6]; unfold tx; simp) (by omega) hk
  have e7 : pack_Reader_Text.f k t6 false 64 = some (a7, t7, false) := ReaderText_good (zt z6 (by omega)) (by rw [b6, b7]; unfold tx; simp) (by omega) hk
  have w : ∀ n : Nat, n < 256 → wrap64 (n : Int) = (n : Int) := fun n h => wrap64_id (by omega) (by omega)
  have et : t7 = ⟨#[]⟩ := bl_nil.1 b7
  unfold gate_Get.f
  simp only [e0, e1, e2, e3, e4, e5, e6, e7, Option.bind_some, Done_f, et]
  rw [w n1 (by omega), w n2 (by omega), w n3 (by omega), w n4 (by omega)]
  rfl

theorem examples_60 : tenementlaw19_examples.f 60 = some true := by decide +kernel
theorem examples_f {k : Nat} (hk : 60 ≤ k) : tenementlaw19_examples.f k = some true := at_rounds tenementlaw19_examples.mono hk examples_60
theorem small_num (a : Int) : ∃ n : Nat, n < 256 ∧ wrap64 (Int.tmod (IntKind.u64.wrap a) 256) = (n : Int) := by
  have h : 0 ≤ IntKind.u64.wrap a ∧ IntKind.u64.wrap a < 18446744073709551616 := by simp only [IntKind.wrap_u64]; omega
  generalize IntKind.u64.wrap a = u at *
  rw [Int.tmod_eq_emod_of_nonneg h.1]
  refine ⟨(u % 256).toNat, by omega, ?_⟩
  rw [wrap64_id (by omega) (by omega)]
  omega
theorem request_own {a0 a5 a6 a7 : ByteArray} {m1 m2 m3 m4 : Int} (z0 : a0.size ≤ 140737488351232) (z5 : a5.size ≤ 140737488351232) (z6 : a6.size ≤ 140737488351232) (z7 : a7.size ≤ 140737488351232) :
    ∃ (b0 b5 b6 b7 : ByteArray) (n1 n2 n3 n4 : Nat), tenementlaw19_Asked_request.f a0 m1 m2 m3 m4 a5 a6 a7 true = some (b0, (n1 : Int), (n2 : Int), (n3 : Int), (n4 : Int), b5, b6, b7) ∧ ok19 b0 n1 n2 n3 n4 b5 b6 b7 := by
  obtain ⟨n1, h1, e1⟩ := small_num m1
  obtain ⟨n2, h2, e2⟩ := small_num m2
  obtain ⟨n3, h3, e3⟩ := small_num m3
  obtain ⟨n4, h4, e4⟩ := small_num m4
  refine ⟨a0.extract 0 (min a0.size 128), a5.extract 0 (min a5.size 64), a6.extract 0 (min a6.size 64), a7.extract 0 (min a7.size 64), n1, n2, n3, n4, ?_, ?_⟩
  · unfold tenementlaw19_Asked_request.f
    rw [if_pos rfl, if_pos ⟨by omega, by omega, by omega, by omega⟩, e1, e2, e3, e4]
  · unfold ok19
    simp only [ByteArray.size_extract]
    omega
theorem eq8 {a0 a5 a6 a7 b0 b5 b6 b7 : ByteArray} {n1 n2 n3 n4 m1 m2 m3 m4 : Int} :
    ((a0.toList == b0.toList && (n1 == m1 && (n2 == m2 && (n3 == m3 && (n4 == m4 && (a5.toList == b5.toList && (a6.toList == b6.toList && (a7.toList == b7.toList)))))))) = true) ↔ (a0 = b0 ∧ n1 = m1 ∧ n2 = m2 ∧ n3 = m3 ∧ n4 = m4 ∧ a5 = b5 ∧ a6 = b6 ∧ a7 = b7) := by
  simp only [Bool.and_eq_true, beq_iff_eq, toList_iff]
theorem cut_bounds {n z : Nat} (hz : z ≠ 0) {c : Int} (h0 : 0 ≤ c) (h1 : c ≤ 65535) : ∃ m : Nat, Int.tmod (wrap64 c) (z : Int) = (m : Int) ∧ m < z := by
  rw [wrap64_id (by omega) (by omega), Int.tmod_eq_emod_of_nonneg h0]
  have e1 := Int.emod_nonneg c (show (z : Int) ≠ 0 by omega)
  have e2 := Int.emod_lt_of_pos c (show 0 < (z : Int) by omega)
  exact ⟨(c % (z : Int)).toNat, by omega, by omega⟩
end Go.Proofs.Ytplgbkobpanbfaa.Pure
