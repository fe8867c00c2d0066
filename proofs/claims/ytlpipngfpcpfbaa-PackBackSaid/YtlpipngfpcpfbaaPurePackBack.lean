/- What was put one behind the other is read so, and what stands behind it is left; cut anywhere it is bad, and stays so: for every two numbers, size, text (of which at most 300 bytes are put), what stands behind, and cut. -/
import Derived.Test.YtlpipngfpcpfbaaPackA
import Derived.Test.YtlpipngfpcpfbaaQx24
import Derived.Test.YtlpipngfpcpfbaaQx9
set_option linter.unusedVariables false
namespace Go.Proofs.Ytlpipngfpcpfbaa.Pure
open Go.RowKit Go.Proofs.Ytlpipngfpcpfbaa.Q Go.Proofs.YtlpipngfpcpfbaaW.PrintWords Go.Proofs.YtlpipngfpcpfbaaW.PrintLast Go.Proofs.YtlpipngfpcpfbaaW.PrintMore Go.Proofs.Ytlpipngfpcpfbaa.Plain

theorem back_examples : tenementlaw02_examples.f 40 = some true := by decide +kernel
theorem u64_nat {a : Int} (h : (Lit.int .u64 a).wf = true) : ∃ n : Nat, a = (n : Int) ∧ n < 18446744073709551616 := by
  have hb : 0 ≤ a ∧ a ≤ 18446744073709551615 := by
    simp only [Lit.wf, Bool.and_eq_true, decide_eq_true_eq] at h; exact h
  exact ⟨a.toNat, by omega, by omega⟩
theorem size_k {a2 : Int} (h : (Lit.int .u8 a2).wf = true) : ∃ k : Nat, 1 ≤ k ∧ k ≤ 8 ∧ wrap64 (1 + wrap64 (Int.tmod a2 8)) = (k : Int) := by
  have hb : 0 ≤ a2 ∧ a2 ≤ 255 := by
    simp only [Lit.wf, Bool.and_eq_true, decide_eq_true_eq] at h; exact h
  have hm : Int.tmod a2 8 = a2 % 8 := Int.tmod_eq_emod_of_nonneg hb.1
  rw [hm, wrap64_id (x := a2 % 8) (by omega) (by omega), wrap64_id (by omega) (by omega)]
  exact ⟨(1 + a2 % 8).toNat, by omega, by omega, by omega⟩
theorem shl_k {k : Nat} (h1 : 1 ≤ k) (h8 : k < 8) : shl .u64 1 (wrap64 (8 * (k : Int))) = ((256 ^ k : Nat) : Int) := by
  rw [wrap64_id (by omega) (by omega)]
  obtain rfl | rfl | rfl | rfl | rfl | rfl | rfl : k = 1 ∨ k = 2 ∨ k = 3 ∨ k = 4 ∨ k = 5 ∨ k = 6 ∨ k = 7 := by omega
  all_goals decide +kernel
/-- What is cut is bad in the end. -/
theorem cut_bad (a b k : Nat) (hk1 : 1 ≤ k) (hk8 : k ≤ 8) (hb : b < 18446744073709551616) (t p : ByteArray) (more : List Nat) (ht : t.size ≤ 300) (hm : more ≠ [])
    (hp : be k a ++ vary b ++ (vary t.size ++ bl t) = bl p ++ more) (hz : p.size ≤ 9223372036854775807) :
    ∃ x1 x2 x3 y1 y2 y3 z1, pack_Reader_Number.f p false (k : Int) = some (x1, x2, x3) ∧ pack_Reader_Vary.f 40 x2 x3 = some (y1, y2, y3) ∧ pack_Reader_Text.f 40 y2 y3 300 = some (z1, ⟨#[]⟩, true) := by
  have he : (⟨#[]⟩ : ByteArray).size ≤ 9223372036854775807 := by decide
  by_cases c1 : (p.size : Int) < (k : Int)
  · exact ⟨_, _, _, _, _, _, _, ReaderNumber_bad (.inr (.inr (.inr c1))) hz, ReaderVary_true he (by omega), ReaderText_true he (by omega)⟩
  · have hq := ReaderNumber_good (s := p) (k := (k : Int)) (by omega) (by omega) (by omega) hz
    rw [Int.toNat_natCast] at hq
    have hqz : (p.extract k p.size).size ≤ 9223372036854775807 := by simp; omega
    have hd : vary b ++ (vary t.size ++ bl t) = bl (p.extract k p.size) ++ more := by
      have h2 := congrArg (List.drop k) hp
      rw [List.append_assoc, List.drop_left' (be_len k a), List.drop_append_of_le_length (by rw [bl_length]; omega), ← bl_drop] at h2
      exact h2
    obtain ⟨r, h1, h2, _⟩ := ReaderVary_f (p.extract k p.size) false hqz (k := 40) (by omega)
    cases h2 rfl with
    | bad h => exact ⟨_, _, _, _, _, _, _, hq, h1, ReaderText_true he (by omega)⟩
    | good n rest hn hs =>
      rw [hs, List.append_assoc] at hd
      obtain ⟨rfl, hd2⟩ := vary_prefix _ _ _ _ hd
      have hrz : rest.size ≤ 9223372036854775807 := by
        have := congrArg List.length hs
        rw [bl_length, List.length_append, bl_length] at this
        omega
      refine ⟨_, _, _, _, _, _, _, hq, h1, ReaderText_bad hrz (fun u q hu hc => ?_) (by omega)⟩
      rw [hc, List.append_assoc, List.append_assoc] at hd2
      obtain ⟨e1, hd3⟩ := vary_prefix _ _ _ _ hd2
      have hlen := congrArg List.length hd3
      rw [List.length_append, List.length_append, bl_length, bl_length, e1] at hlen
      have : more.length = 0 := by omega
      exact hm (List.eq_nil_of_length_eq_zero this)
theorem back_in (a b k : Nat) (s rest : ByteArray) (cut : Int) (hk1 : 1 ≤ k) (hk8 : k ≤ 8) (ha : a < 256 ^ k) (hb : b < 18446744073709551616) (hs : s.size ≤ 140737488351232) (hr : rest.size ≤ 140737488351232) (hc0 : 0 ≤ cut) (hc1 : cut ≤ 65535) :
    tenementlaw02_PackBack.j0 41 (a : Int) (b : Int) s rest cut true (k : Int) = some true := by
  have he : (⟨#[]⟩ : ByteArray).size ≤ 9223372036854775807 := by decide
  obtain ⟨m1, m2, m3⟩ := mn_cases (s.size : Int) 300
  obtain ⟨M, hM⟩ : ∃ M : Nat, mn (s.size : Int) 300 = (M : Int) := ⟨(mn (s.size : Int) 300).toNat, by omega⟩
  rw [hM] at m1 m2
  clear m3
  simp only [tenementlaw02_PackBack.j0, hM]
  clear hM
  rw [if_pos (by omega), if_pos (by omega), Int.toNat_natCast]
  obtain ⟨t, ht⟩ : ∃ t, t = s.extract 0 M := ⟨_, rfl⟩
  have htz : t.size ≤ 300 := by rw [ht]; simp; omega
  rw [← ht]
  clear ht
  rw [Number_f a k (by omega) (by omega), Vary_f hb (by omega), Text_f (by omega) (by omega), Int.toNat_natCast]
  simp only [Option.bind_some]
  have z1 := nb_size a k
  have z2 := vs_size b
  have z3 := vary_len_ten hb
  have z4 := vs_size t.size
  have z5 := vary_len_ten (show t.size < 18446744073709551616 by omega)
  have z6 : (vs t.size ++ t).size = (vary t.size).length + t.size := by rw [ByteArray.size_append, z4]
  obtain ⟨all, hall⟩ : ∃ all, all = nb a k ++ vs b ++ (vs t.size ++ t) := ⟨_, rfl⟩
  have hab : bl all = be k a ++ vary b ++ (vary t.size ++ bl t) := by rw [hall, bl_append, bl_append, bl_append, bl_nb, bl_vs, bl_vs]
  have haz : all.size = k + (vary b).length + ((vary t.size).length + t.size) := by rw [hall, ByteArray.size_append, ByteArray.size_append, z6, z1, z2]
  have hv := vary_pos b
  rw [if_pos (by rw [z1, z2]; omega), if_pos (by rw [ByteArray.size_append, z1, z2, z6]; omega), ← hall]
  clear hall
  have hne : ¬ all.toList = ([] : List UInt8) := by
    intro h
    have : all = ⟨#[]⟩ := toList_iff.1 (by rw [h, toList_data])
    rw [this] at haz
    have : (⟨#[]⟩ : ByteArray).size = 0 := rfl
    omega
  rw [if_neg hne, if_pos (by omega)]
  clear hne
  -- what is whole
  have w1 := ReaderNumber_good (s := all ++ rest) (k := (k : Int)) (by omega) (by omega) (by rw [ByteArray.size_append]; omega) (by rw [ByteArray.size_append]; omega)
  rw [Int.toNat_natCast] at w1
  have w2 : bl (all ++ rest) = be k a ++ (vary b ++ (vary t.size ++ (bl t ++ bl rest))) := by rw [bl_append, hab]; simp only [List.append_assoc]
  rw [w2, List.take_left' (be_len k a), bev_be, Nat.mod_eq_of_lt ha] at w1
  obtain ⟨r1, hr1⟩ : ∃ r1, r1 = (all ++ rest).extract k (all ++ rest).size := ⟨_, rfl⟩
  have hr1b : bl r1 = vary b ++ (vary t.size ++ (bl t ++ bl rest)) := by rw [hr1, bl_drop, w2, List.drop_left' (be_len k a)]
  have hr1z : r1.size ≤ 9223372036854775807 := by rw [hr1]; simp; omega
  rw [← hr1] at w1
  clear hr1
  rw [w1]
  simp only [Option.bind_some]
  obtain ⟨r2, hr2⟩ : ∃ r2 : ByteArray, bl r2 = vary t.size ++ (bl t ++ bl rest) := ⟨vs t.size ++ (t ++ rest), by rw [bl_append, bl_append, bl_vs]⟩
  have hr2z : r2.size ≤ 9223372036854775807 := by rw [← bl_length, hr2]; simp [bl_length]; omega
  rw [ReaderVary_good hr1z hb (hr1b.trans (by rw [hr2])) (by omega)]
  simp only [Option.bind_some]
  rw [ReaderText_good (t := t) (rest := rest) hr2z (by rw [hr2, List.append_assoc]) (by omega) (by omega)]
  simp only [Option.bind_some]
  -- the cut
  rw [wrap64_id (by omega) (by omega)]
  rw [if_neg (by omega), Int.tmod_eq_emod_of_nonneg hc0]
  have hmod0 : 0 ≤ cut % (all.size : Int) := Int.emod_nonneg _ (by omega)
  have hmod1 : cut % (all.size : Int) < all.size := Int.emod_lt_of_pos _ (by omega)
  obtain ⟨c, hc⟩ : ∃ c : Nat, cut % (all.size : Int) = (c : Int) := ⟨_, Int.eq_ofNat_of_zero_le hmod0 |>.choose_spec⟩
  rw [hc] at hmod1 ⊢
  rw [if_pos (by omega), if_pos (by omega), Int.toNat_natCast]
  have hpz : (all.extract 0 c).size ≤ 9223372036854775807 := by simp; omega
  obtain ⟨x1, x2, x3, y1, y2, y3, q1, g1, g2, g3⟩ := cut_bad a b k hk1 hk8 hb t (all.extract 0 c) ((bl all).drop c) htz
    (by intro h; have := congrArg List.length h; rw [List.length_drop, bl_length] at this; simp at this; omega)
    (by rw [← hab, bl_take, List.take_append_drop]) hpz
  rw [g1]
  simp only [Option.bind_some]
  rw [g2]
  simp only [Option.bind_some]
  rw [g3]
  simp only [Option.bind_some]
  rw [ReaderVary_true he (by omega)]
  simp only [Option.bind_some, if_true, Done_f]
  have e0 : (⟨#[]⟩ : ByteArray).toList = ([] : List UInt8) := by decide +kernel
  simp only [e0, if_true, Bool.not_true, Bool.false_and, Bool.not_false, Bool.true_and, decide_eq_true_eq]
  have hi : rest.toList = ([] : List UInt8) ↔ rest = ⟨#[]⟩ := by
    constructor
    · intro h; exact toList_iff.1 (by rw [h, e0])
    · rintro rfl; exact e0
  simp only [hi]
  by_cases c9 : rest = ⟨#[]⟩
  · simp [c9]
  · simp [c9]
theorem PackBack : tenementlaw02_PackBack.Pure := by
  intro a0 a1 a2 a3 a4 a5 h0 h1 h2 h3 h4 h5
  refine ⟨41, ?_⟩
  unfold tenementlaw02_PackBack.f
  rw [at_rounds tenementlaw02_examples.mono (show 40 ≤ 41 by omega) back_examples]
  simp only [Option.bind_some, if_true]
  obtain ⟨k, hk1, hk8, hk⟩ := size_k h2
  obtain ⟨a, rfl, ha⟩ := u64_nat h0
  obtain ⟨b, rfl, hb⟩ := u64_nat h1
  have hb5 : 0 ≤ a5 ∧ a5 ≤ 65535 := by
    simp only [Lit.wf, Bool.and_eq_true, decide_eq_true_eq] at h5; exact h5
  rw [hk]
  by_cases c : k < 8
  · have hp : 0 < 256 ^ k := Nat.pow_pos (by omega)
    rw [if_pos (by omega), if_pos (by rw [wrap64_id (by omega) (by omega)]; omega), shl_k hk1 c, if_neg (by omega)]
    rw [← Int.ofNat_tmod]
    exact back_in _ b k a3 a4 a5 hk1 hk8 (Nat.mod_lt _ hp) hb h3 h4 hb5.1 hb5.2
  · obtain rfl : k = 8 := by omega
    rw [if_neg (by omega)]
    exact back_in a b 8 a3 a4 a5 hk1 hk8 (by simpa using ha) hb h3 h4 hb5.1 hb5.2
end Go.Proofs.Ytlpipngfpcpfbaa.Pure
