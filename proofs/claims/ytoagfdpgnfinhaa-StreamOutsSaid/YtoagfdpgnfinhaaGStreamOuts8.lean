import Derived.Test.YtoagfdpgnfinhaaGStreamOuts7
import Derived.Test.YtoagfdpgnfinhaaGStreamOuts2
import Derived.Test.YtoagfdpgnfinhaaGStreamOuts0
set_option linter.unusedVariables false
set_option linter.unusedSimpArgs false
namespace Go.Proofs.Ytoagfdpgnfinhaa.Pure
open Go.RowKit Go.Proofs.Ytoagfdpgnfinhaa.Q Go.Proofs.YtoagfdpgnfinhaaW.PrintWords Go.Proofs.YtoagfdpgnfinhaaW.PrintLast Go.Proofs.YtoagfdpgnfinhaaW.PrintMore Go.Proofs.Ytoagfdpgnfinhaa.Plain
theorem be_take (K : Nat) (n : Nat) : ∀ i, i < K → (be K n)[i]? = some (n / 256 ^ (K - 1 - i) % 256) := by
 induction K with
 | zero => intro i hi; omega
 | succ K ih =>
  intro i hi
  simp only [be]
  cases i with
  | zero => simp
  | succ i =>
   rw [List.getElem?_cons_succ, ih i (by omega), show K + 1 - 1 - (i + 1) = K - 1 - i by omega]
theorem rput_loop (n : Nat) (hn : n < 18446744073709551616) (K : Nat) (h8 : K ≤ 8) (d : Nat) : ∀ (k i : Nat), i + d = K → d < k →
  tenementref02_Number.l0 k (n : Int) (NL ((be K n).take i)) ((d : Int) - 1) = some (strOfNums (NL (be K n))) := by
 induction d with
 | zero =>
  intro k i hi hk
  obtain ⟨k, rfl⟩ : ∃ m, k = m + 1 := ⟨k - 1, by omega⟩
  simp only [tenementref02_Number.l0]
  rw [if_neg (by omega), show i = K by omega, List.take_of_length_le (by rw [be_len]; exact Nat.le_refl _)]
 | succ d ih =>
  intro k i hi hk
  obtain ⟨k, rfl⟩ : ∃ m, k = m + 1 := ⟨k - 1, by omega⟩
  simp only [tenementref02_Number.l0]
  have e1 : ((d + 1 : Nat) : Int) - 1 = (d : Int) := by omega
  have hl : (NL ((be K n).take i)).length = i := by unfold NL; rw [List.length_map, List.length_take, be_len]; omega
  have e2 : wrap64 (8 * (d : Int)) = ((8 * d : Nat) : Int) := by rw [wrap64_id (by omega) (by omega)]; omega
  have e3 : wrap64 ((d : Int) - 1) = (d : Int) - 1 := wrap64_id (by omega) (by omega)
  have e4 : shr .u64 (n : Int) ((8 * d : Nat) : Int) % 256 = ((n / 256 ^ d % 256 : Nat) : Int) := by
   unfold shr
   rw [show (((8 * d : Nat) : Int)).toNat = 8 * d by omega, Nat.min_eq_left (by show 8 * d ≤ 64; omega)]
   rw [Int.pow_mul]
   simp only [Int.natCast_emod, Int.natCast_ediv, Int.natCast_pow]
   rfl
  have e5 : NL ((be K n).take i) ++ [((n / 256 ^ d % 256 : Nat) : Int)] = NL ((be K n).take (i + 1)) := by
   rw [List.take_add_one, be_take K n i (by omega), show K - 1 - i = d by omega]
   simp [NL]
  rw [e1, if_pos (by omega), e2, if_pos (by omega), if_pos (by rw [hl]; omega), e4, e5, e3]
  exact ih k (i + 1) (by omega) (by omega)
theorem put_same {n : Nat} (hn : n < 18446744073709551616) {K : Int} (hK : (Lit.int .i64 K).wf = true) {k : Nat} (hk : 34 ≤ k) :
  ∃ r, pack_Number.f (n : Int) K = some r ∧ tenementref02_Number.f k (n : Int) K = some r := by
 obtain ⟨k, rfl⟩ : ∃ m, k = m + 1 := ⟨k - 1, by omega⟩
 unfold tenementref02_Number.f
 simp only [tenementref02_Number.j0]
 by_cases c1 : K < 1
 ·rw [if_pos c1, if_pos trivial]; exact ⟨_, Number_none _ _ (Or.inl c1), rfl⟩
 ·rw [if_neg c1]
  by_cases c2 : K > 8
  ·rw [if_pos (decide_eq_true c2)]; exact ⟨_, Number_none _ _ (Or.inr c2), rfl⟩
  ·rw [if_neg (by simp; omega)]
   refine ⟨_, Number_f n K (by omega) (by omega), ?_⟩
   have := rput_loop n hn K.toNat (by omega) K.toNat k 0 (by omega) (by omega)
   rw [show ((K.toNat : Nat) : Int) = K by omega] at this
   rw [wrap64_id (by omega) (by omega)]
   exact this
end Go.Proofs.Ytoagfdpgnfinhaa.Pure

namespace Go.Proofs.Ytoagfdpgnfinhaa.Q
open Go.RowKit Go.Proofs.YtoagfdpgnfinhaaW.PrintWords Go.Proofs.YtoagfdpgnfinhaaW.PrintLast Go.Proofs.YtoagfdpgnfinhaaW.PrintMore
attribute [local go_sem] max2_int min2_int max_two min_two max_three min_three max_four min_four   -- for this text's walks alone
set_option linter.unusedVariables false
set_option linter.unusedSimpArgs false
def tenementref06_Put.f (k : Nat) (a0_0 : Int) (a0_1 : Int) (a0_2 : Int) (a0_3 : Int) : Option (ByteArray) := (tenementref02_Vary.f k a0_0).bind fun t392 => ((tenementref02_Vary.f k a0_1).bind fun t393 => (if t392.size + t393.size ≤ 9223372036854775807 then ((tenementref02_Vary.f k a0_2).bind fun t394 => (if (t392 ++ t393).size + t394.size ≤ 9223372036854775807 then ((tenementref02_Vary.f k a0_3).bind fun t395 => (if ((t392 ++ t393) ++ t394).size + t395.size ≤ 9223372036854775807 then (some (((t392 ++ t393) ++ t394) ++ t395)) else (none))) else (none))) else (none)))
def tenementref06_Put.T1 : Bool × List (List Nat × List Nat) := (true, [([], []), ([0], [0]), ([1], [1]), ([], []), ([3], [3]), ([4, 2], [4]), ([2, 5], [2, 5]), ([], []), ([7], [7]), ([8, 5], [8]), ([6, 9], [6, 9]), ([], []), ([11], [11]), ([12, 9], [12]), ([10, 13], [10, 13]), ([14, 13, 0, 1, 2, 3, 4, 5, 6, 7, 8, 9, 10, 11, 12, 13, 14], [14])])
def tenementref06_Put.B1 : List Nat := [0, 1, 3, 0, 8, 31, 63, 0, 128, 447, 1023, 0, 2048, 7103, 16383, 32767]
theorem tenementref06_Put.tab1 : rtab .any (opsOf Try.f103 1) = tenementref06_Put.T1 := by kernel_rfl
theorem tenementref06_Put.bits1 : waitsOk tenementref06_Put.T1.2 tenementref06_Put.B1 = true := by kernel_rfl
set_option maxHeartbeats 8000000 in
set_option maxRecDepth 100000 in
theorem tenementref06_Put.calls (k : Nat) (a0_0 : Int) (a0_1 : Int) (a0_2 : Int) (a0_3 : Int) (r : ByteArray) (w : World) (h : tenementref06_Put.f k a0_0 a0_1 a0_2 a0_3 = some r) :
  Calls Try.prog 103 #[.agg #[.int .u64 a0_0, .int .u64 a0_1, .int .u64 a0_2, .int .u64 a0_3]] w fun e w' => e = .returned (.string r) ∧ Below w.heap.size w w' := by
 have hu50 := Try.underlying50
 have HB := Aside0.mk (Below.refl w.heap.size w)
 have H : ((tenementref02_Vary.f k a0_0).bind fun t392 => ((tenementref02_Vary.f k a0_1).bind fun t393 => (if t392.size + t393.size ≤ 9223372036854775807 then ((tenementref02_Vary.f k a0_2).bind fun t394 => (if (t392 ++ t393).size + t394.size ≤ 9223372036854775807 then ((tenementref02_Vary.f k a0_3).bind fun t395 => (if ((t392 ++ t393) ++ t394).size + t395.size ≤ 9223372036854775807 then (some (((t392 ++ t393) ++ t394) ++ t395)) else (none))) else (none))) else (none)))) = some r := h
 (try (have Hs_ := H; simp only [ByteArray.size_append, Int.natCast_add] at Hs_))
 clear h
 replace H := Option.bind_eq_some_iff.mp H
 obtain ⟨t392, A20, H⟩ := H
 replace H : ((tenementref02_Vary.f k a0_1).bind fun t393 => (if t392.size + t393.size ≤ 9223372036854775807 then ((tenementref02_Vary.f k a0_2).bind fun t394 => (if (t392 ++ t393).size + t394.size ≤ 9223372036854775807 then ((tenementref02_Vary.f k a0_3).bind fun t395 => (if ((t392 ++ t393) ++ t394).size + t395.size ≤ 9223372036854775807 then (some (((t392 ++ t393) ++ t394) ++ t395)) else (none))) else (none))) else (none))) = some r := H
 have A2 := Aside0.mk A20
 clear A20
 replace H := Option.bind_eq_some_iff.mp H
 obtain ⟨t393, A30, H⟩ := H
 replace H : (if t392.size + t393.size ≤ 9223372036854775807 then ((tenementref02_Vary.f k a0_2).bind fun t394 => (if (t392 ++ t393).size + t394.size ≤ 9223372036854775807 then ((tenementref02_Vary.f k a0_3).bind fun t395 => (if ((t392 ++ t393) ++ t394).size + t395.size ≤ 9223372036854775807 then (some (((t392 ++ t393) ++ t394) ++ t395)) else (none))) else (none))) else (none)) = some r := H
 have A3 := Aside0.mk A30
 clear A30
 by_cases c4 : t392.size + t393.size ≤ 9223372036854775807
 rotate_left
 ·rw [if_neg c4] at H
  exact absurd H (by simp)
 rw [if_pos c4] at H
 have c4b0 := eq_true c4
 have c4b1 : decide (t392.size + t393.size ≤ 9223372036854775807) = true := decide_eq_true c4
 try have c4b2 : (9223372036854775807 < t392.size + t393.size) = False := eq_false (Nat.not_lt.2 c4)
 replace H := Option.bind_eq_some_iff.mp H
 obtain ⟨t394, A50, H⟩ := H
 replace H : (if (t392 ++ t393).size + t394.size ≤ 9223372036854775807 then ((tenementref02_Vary.f k a0_3).bind fun t395 => (if ((t392 ++ t393) ++ t394).size + t395.size ≤ 9223372036854775807 then (some (((t392 ++ t393) ++ t394) ++ t395)) else (none))) else (none)) = some r := H
 have A5 := Aside0.mk A50
 clear A50
 by_cases c6 : (t392 ++ t393).size + t394.size ≤ 9223372036854775807
 rotate_left
 ·rw [if_neg c6] at H
  exact absurd H (by simp)
 rw [if_pos c6] at H
 have c6b0 := eq_true c6
 (try (have c6b0s_ := c6b0; simp only [ByteArray.size_append, Int.natCast_add] at c6b0s_))
 have c6b1 : decide ((t392 ++ t393).size + t394.size ≤ 9223372036854775807) = true := decide_eq_true c6
 (try (have c6b1s_ := c6b1; simp only [ByteArray.size_append, Int.natCast_add] at c6b1s_))
 try have c6b2 : (9223372036854775807 < (t392 ++ t393).size + t394.size) = False := eq_false (Nat.not_lt.2 c6)
 (try (have c6b2s_ := c6b2; simp only [ByteArray.size_append, Int.natCast_add] at c6b2s_))
 replace H := Option.bind_eq_some_iff.mp H
 obtain ⟨t395, A70, H⟩ := H
 replace H : (if ((t392 ++ t393) ++ t394).size + t395.size ≤ 9223372036854775807 then (some (((t392 ++ t393) ++ t394) ++ t395)) else (none)) = some r := H
 have A7 := Aside0.mk A70
 clear A70
 by_cases c8 : ((t392 ++ t393) ++ t394).size + t395.size ≤ 9223372036854775807
 rotate_left
 ·rw [if_neg c8] at H
  exact absurd H (by simp)
 rw [if_pos c8] at H
 have c8b0 := eq_true c8
 (try (have c8b0s_ := c8b0; simp only [ByteArray.size_append, Int.natCast_add] at c8b0s_))
 have c8b1 : decide (((t392 ++ t393) ++ t394).size + t395.size ≤ 9223372036854775807) = true := decide_eq_true c8
 (try (have c8b1s_ := c8b1; simp only [ByteArray.size_append, Int.natCast_add] at c8b1s_))
 try have c8b2 : (9223372036854775807 < ((t392 ++ t393) ++ t394).size + t395.size) = False := eq_false (Nat.not_lt.2 c8)
 (try (have c8b2s_ := c8b2; simp only [ByteArray.size_append, Int.natCast_add] at c8b2s_))
 obtain rfl := Option.some.inj H
 go_enter Try.func103, Try.ntmps103
 try go_wp2_with (first | ((with_reducible refine gate_dst (N := 1) rfl ?_); refine Ka_ 1 #[.int .u64 a0_0, .int .u64 a0_1, .int .u64 a0_2, .int .u64 a0_3] 50 ?_; intro gb391 hg w9 hbox hb; have BK391 := Aside0.mk (hbox); have GW391 := Kw_ HB hg; have GE391 := GW391; replace HB := Ks_ HB hb; clear hb hbox hg))
 replace BK391 := Kd_ BK391
 replace HB := Aside0.mk (below_drew1 HB.out)
 refine start_ (n := 16) (S := fun w' => w'.cell? ⟨gb391, 0, none⟩ = some (.int .u64 a0_0) ∧ w'.cell? ⟨gb391, 1, none⟩ = some (.int .u64 a0_1) ∧ w'.cell? ⟨gb391, 2, none⟩ = some (.int .u64 a0_2) ∧ w'.cell? ⟨gb391, 3, none⟩ = some (.int .u64 a0_3)) (ds := []) (mB_ 16 0) (by kernel_rfl) rfl rfl (Kc4_ BK391.out) (fun hHeld => ?_); refine with_tabW tenementref06_Put.tab1 tenementref06_Put.bits1 (fun HT_ HW_ => ?_)
 generalize w9.drew = w10 at BK391 HB hHeld ⊢
 refine Kp_ 0 3 (mB_ 16 1) (any_of HT_.out (by kernel_rfl)) ?_
 refine Kp_ 3 6 (mB_ 16 9) (any_of HT_.out (by kernel_rfl)) ?_
 refine Kp_ 7 10 (mB_ 16 137) (any_of HT_.out (by kernel_rfl)) ?_
 refine Kp_ 11 14 (mB_ 16 2185) (any_of HT_.out (by kernel_rfl)) ?_
 refine Ko_ 1 4 (mB_ 16 2187) (take_ofW HT_.out HW_.out (by kernel_rfl)) hHeld ?_
 refine Ko_ 4 7 (mB_ 16 2203) (take_ofW HT_.out HW_.out (by kernel_rfl)) hHeld ?_
 refine Ko_ 8 11 (mB_ 16 2459) (take_ofW HT_.out HW_.out (by kernel_rfl)) hHeld ?_
 refine Ko_ 12 15 (mB_ 16 6555) (take_ofW HT_.out HW_.out (by kernel_rfl)) hHeld ?_
 refine one_ (i := 2) (N := some 5) (mB_ 16 6559) rfl rfl (one_of HT_.out (by kernel_rfl)) (by decide) (fun K hK => ?_)
 refine goes_ Try.func65 (by kernel_rfl) rfl #[.int .u64 a0_0] (by rfl) rfl rfl (by (try simp only [List.map_toArray, List.map_cons, List.map_nil]); first | done | rfl | (simp only [List.length_drop, List.length_take]; rfl)) ?_
 with_reducible refine (tenementref02_Vary.calls k a0_0 t392 _ A2.out).mono ?_
 rintro e w11 ⟨rfl, hb⟩
 refine ⟨_, rfl, ?_⟩
 replace BK391 := Kb_ BK391 hb
 replace HB := Ks_ HB hb
 (try clear hb)
 (try clear hb2)
 (try clear hk)
 (try clear hi)
 refine hK.out _ _ (Kc4_ BK391.out) (fun hHeld => ?_)
 clear hK K
 refine Kn_ 5 ?_
 refine one_ (i := 5) (N := some 8) (mB_ 16 6591) rfl rfl (one_of HT_.out (by kernel_rfl)) (by decide) (fun K hK => ?_)
 refine goes_ Try.func65 (by kernel_rfl) rfl #[.int .u64 a0_1] (by rfl) rfl rfl (by (try simp only [List.map_toArray, List.map_cons, List.map_nil]); first | done | rfl | (simp only [List.length_drop, List.length_take]; rfl)) ?_
 with_reducible refine (tenementref02_Vary.calls k a0_1 t393 _ A3.out).mono ?_
 rintro e w12 ⟨rfl, hb⟩
 refine ⟨_, rfl, ?_⟩
 replace BK391 := Kb_ BK391 hb
 replace HB := Ks_ HB hb
 (try clear hb)
 (try clear hb2)
 (try clear hk)
 (try clear hi)
 refine hK.out _ _ (Kc4_ BK391.out) (fun hHeld => ?_)
 clear hK K
 refine Kn_ 8 ?_
 refine Kp_ 6 9 (mB_ 16 6655) (any_of HT_.out (by kernel_rfl)) ?_
 refine one_ (i := 9) (N := some 12) (mB_ 16 7167) rfl rfl (one_of HT_.out (by kernel_rfl)) (by decide) (fun K hK => ?_)
 refine goes_ Try.func65 (by kernel_rfl) rfl #[.int .u64 a0_2] (by rfl) rfl rfl (by (try simp only [List.map_toArray, List.map_cons, List.map_nil]); first | done | rfl | (simp only [List.length_drop, List.length_take]; rfl)) ?_
 with_reducible refine (tenementref02_Vary.calls k a0_2 t394 _ A5.out).mono ?_
 rintro e w13 ⟨rfl, hb⟩
 refine ⟨_, rfl, ?_⟩
 replace BK391 := Kb_ BK391 hb
 replace HB := Ks_ HB hb
 (try clear hb)
 (try clear hb2)
 (try clear hk)
 (try clear hi)
 refine hK.out _ _ (Kc4_ BK391.out) (fun hHeld => ?_)
 clear hK K
 refine Kn_ 12 ?_
 refine Kp_ 10 13 (mB_ 16 8191) (any_of HT_.out (by kernel_rfl)) ?_
 refine one_ (i := 13) (N := some 16) (mB_ 16 16383) rfl rfl (one_of HT_.out (by kernel_rfl)) (by decide) (fun K hK => ?_)
 refine goes_ Try.func65 (by kernel_rfl) rfl #[.int .u64 a0_3] (by rfl) rfl rfl (by (try simp only [List.map_toArray, List.map_cons, List.map_nil]); first | done | rfl | (simp only [List.length_drop, List.length_take]; rfl)) ?_
 with_reducible refine (tenementref02_Vary.calls k a0_3 t395 _ A7.out).mono ?_
 rintro e w14 ⟨rfl, hb⟩
 refine ⟨_, rfl, ?_⟩
 replace BK391 := Kb_ BK391 hb
 replace HB := Ks_ HB hb
 (try clear hb)
 (try clear hb2)
 (try clear hk)
 (try clear hi)
 refine hK.out _ _ (Kc4_ BK391.out) (fun hHeld => ?_)
 clear hK K
 refine Kn_ 16 ?_
 refine Kp_ 14 17 (mB_ 16 32767) (any_of HT_.out (by kernel_rfl)) ?_
 refine Kp_ 15 2 (mB_ 16 65535) (any_of HT_.out (by kernel_rfl)) ?_
 refine done_ (done_of HT_.out (by kernel_rfl)) ?_
 try go_wp2
 go_ret
 exact ⟨Kh_, Kz_ HB GE391⟩
end Go.Proofs.Ytoagfdpgnfinhaa.Q

set_option linter.unusedVariables false
set_option linter.unusedSimpArgs false
namespace Go.Proofs.Ytoagfdpgnfinhaa.Pure
open Go.RowKit Go.Proofs.Ytoagfdpgnfinhaa.Q Go.Proofs.YtoagfdpgnfinhaaW.PrintWords Go.Proofs.YtoagfdpgnfinhaaW.PrintLast Go.Proofs.YtoagfdpgnfinhaaW.PrintMore Go.Proofs.Ytoagfdpgnfinhaa.Plain

end Go.Proofs.Ytoagfdpgnfinhaa.Pure

namespace Go.Proofs.Ytoagfdpgnfinhaa.Q
open Go.RowKit Go.Proofs.YtoagfdpgnfinhaaW.PrintWords Go.Proofs.YtoagfdpgnfinhaaW.PrintLast Go.Proofs.YtoagfdpgnfinhaaW.PrintMore
attribute [local go_sem] max2_int min2_int max_two min_two max_three min_three max_four min_four   -- for this text's walks alone
set_option linter.unusedVariables false
set_option linter.unusedSimpArgs false
def tenementref06_Right.l0 : Nat → Int → Int → Int → Int → Int → Option (Bool)
 | 0, _, _, _, _, _ => none
 | k + 1, x3, x108, x109, x110, x111 => if x3 < 4 then (if x3 = 0 then (if x108 > 1152921504606846976 then (some false) else (tenementref06_Right.l0 k (wrap64 (x3 + 1)) x108 x109 x110 x111)) else (if x3 = 1 then (if x109 > 1152921504606846976 then (some false) else (tenementref06_Right.l0 k (wrap64 (x3 + 1)) x108 x109 x110 x111)) else (if x3 = 2 then (if x110 > 1152921504606846976 then (some false) else (tenementref06_Right.l0 k (wrap64 (x3 + 1)) x108 x109 x110 x111)) else (if x3 = 3 then (if x111 > 1152921504606846976 then (some false) else (tenementref06_Right.l0 k (wrap64 (x3 + 1)) x108 x109 x110 x111)) else (none))))) else (some true)
def tenementref06_Right.f (k : Nat) (a0_0 : Int) (a0_1 : Int) (a0_2 : Int) (a0_3 : Int) : Option (Bool) := tenementref06_Right.l0 k 0 a0_0 a0_1 a0_2 a0_3
set_option maxHeartbeats 8000000 in
set_option maxRecDepth 100000 in
theorem tenementref06_Right.calls (k : Nat) (a0_0 : Int) (a0_1 : Int) (a0_2 : Int) (a0_3 : Int) (r : Bool) (w : World) (h : tenementref06_Right.f k a0_0 a0_1 a0_2 a0_3 = some r) :
  Calls Try.prog 93 #[.agg #[.int .u64 a0_0, .int .u64 a0_1, .int .u64 a0_2, .int .u64 a0_3]] w fun e w' => e = .returned (.bool r) ∧ Below w.heap.size w w' := by
 have hu50 := Try.underlying50
 have HB := Aside0.mk (Below.refl w.heap.size w)
 have H : (tenementref06_Right.l0 k 0 a0_0 a0_1 a0_2 a0_3) = some r := h
 clear h
 have H' := Aside0.mk H
 clear H
 go_enter Try.func93, Try.ntmps93
 go_wp2_with (first | ((with_reducible refine gate_dst (N := 1) rfl ?_); refine Ka_ 1 #[.int .u64 a0_0, .int .u64 a0_1, .int .u64 a0_2, .int .u64 a0_3] 50 ?_; intro gb365 hg w2 hbox hb; have BK365 := Aside0.mk (hbox); have GW365 := Kw_ HB hg; have GE365 := GW365; replace HB := Ks_ HB hb; clear hb hbox hg))
 go_loopg [3] k (fun kq v3 w' => ∃ (x3_1 : Int), v3 = .int .i64 x3_1 ∧ Aside0 (tenementref06_Right.l0 kq x3_1 a0_0 a0_1 a0_2 a0_3 = some r) ∧ Aside0 (kq ≤ k) ∧ Aside0 (w'.heap[gb365]? = some (.cells #[.int .u64 a0_0, .int .u64 a0_1, .int .u64 a0_2, .int .u64 a0_3] 50 (0, 0))) ∧ Aside0 (Below w.heap.size w w'))
 case atStart => exact ⟨(0), (by first | rfl | (simp; done) | (simp [*]; done)), H', ⟨Nat.le_refl _⟩, ⟨by exact Kq_ BK365⟩, ⟨Kz_ HB GE365⟩⟩
 case round =>
  clear H'
  try clear p2
  obtain ⟨x3_1, rfl, HA, HK1, BK365, HB⟩ := hrel
  cases gk with
  | zero => exact absurd HA.out (by simp [tenementref06_Right.l0])
  | succ k1 =>
   have H := HA.out
   clear HA
   simp only [tenementref06_Right.l0] at H
   by_cases c3 : x3_1 < 4
   rotate_left
   ·rw [if_neg c3] at H
    have c3b0 : decide (x3_1 < 4) = false := decide_eq_false c3
    clear c3
    obtain rfl := Option.some.inj H
    go_wp2
    go_ret
    exact ⟨Kh_, Kz_ HB GE365⟩
   rw [if_pos c3] at H
   have c3b0 : decide (x3_1 < 4) = true := decide_eq_true c3
   clear c3
   by_cases c4 : x3_1 = 0
   ·subst c4
    have H1 : (if a0_0 > 1152921504606846976 then (some false) else (tenementref06_Right.l0 k1 1 a0_0 a0_1 a0_2 a0_3)) = some r := by rw [if_pos rfl] at H; (try simp only [show wrap64 ((0 : Int) + 1) = 1 from by first | rfl | decide | (unfold wrap64; omega), show wrap64 ((0 : Int) - 1) = -1 from by first | rfl | decide | (unfold wrap64; omega)] at H); exact H
    clear H
    have H := H1
    clear H1
    by_cases c5 : a0_0 > 1152921504606846976
    ·rw [if_pos c5] at H
     have c5b0 : decide (1152921504606846976 < a0_0) = true := decide_eq_true c5
     clear c5
     obtain rfl := Option.some.inj H
     obtain ⟨hcz6_0, hcz6_1, hcz6_2, hcz6_3, hfz6_0, hfz6_1, hfz6_2, hfz6_3⟩ := Ke4_ BK365.out
     go_wp2
     go_ret
     exact ⟨Kh_, Kz_ HB GE365⟩
    rw [if_neg c5] at H
    have c5b0 : decide (1152921504606846976 < a0_0) = false := decide_eq_false c5
    clear c5
    have H' := Aside0.mk H
    clear H
    obtain ⟨hcz7_0, hcz7_1, hcz7_2, hcz7_3, hfz7_0, hfz7_1, hfz7_2, hfz7_3⟩ := Ke4_ BK365.out
    go_wp2
    go_roundg k1
    case measure => have := HK1.out; omega
    case rel => exact ⟨(1), (by first | rfl | (simp; done) | (simp [*]; done)), H', ⟨by have := HK1.out; omega⟩, ⟨by exact Kq_ BK365⟩, ⟨Kz_ HB GE365⟩⟩
   rw [if_neg c4] at H
   by_cases c8 : x3_1 = 1
   ·subst c8
    have H1 : (if a0_1 > 1152921504606846976 then (some false) else (tenementref06_Right.l0 k1 2 a0_0 a0_1 a0_2 a0_3)) = some r := by rw [if_pos rfl] at H; (try simp only [show wrap64 ((1 : Int) + 1) = 2 from by first | rfl | decide | (unfold wrap64; omega), show wrap64 ((1 : Int) - 1) = 0 from by first | rfl | decide | (unfold wrap64; omega)] at H); exact H
    clear H
    have H := H1
    clear H1
    by_cases c9 : a0_1 > 1152921504606846976
    ·rw [if_pos c9] at H
     have c9b0 : decide (1152921504606846976 < a0_1) = true := decide_eq_true c9
     clear c9
     obtain rfl := Option.some.inj H
     obtain ⟨hcz10_0, hcz10_1, hcz10_2, hcz10_3, hfz10_0, hfz10_1, hfz10_2, hfz10_3⟩ := Ke4_ BK365.out
     go_wp2
     go_ret
     exact ⟨Kh_, Kz_ HB GE365⟩
    rw [if_neg c9] at H
    have c9b0 : decide (1152921504606846976 < a0_1) = false := decide_eq_false c9
    clear c9
    have H' := Aside0.mk H
    clear H
    obtain ⟨hcz11_0, hcz11_1, hcz11_2, hcz11_3, hfz11_0, hfz11_1, hfz11_2, hfz11_3⟩ := Ke4_ BK365.out
    go_wp2
    go_roundg k1
    case measure => have := HK1.out; omega
    case rel => exact ⟨(2), (by first | rfl | (simp; done) | (simp [*]; done)), H', ⟨by have := HK1.out; omega⟩, ⟨by exact Kq_ BK365⟩, ⟨Kz_ HB GE365⟩⟩
   rw [if_neg c8] at H
   by_cases c12 : x3_1 = 2
   ·subst c12
    have H1 : (if a0_2 > 1152921504606846976 then (some false) else (tenementref06_Right.l0 k1 3 a0_0 a0_1 a0_2 a0_3)) = some r := by rw [if_pos rfl] at H; (try simp only [show wrap64 ((2 : Int) + 1) = 3 from by first | rfl | decide | (unfold wrap64; omega), show wrap64 ((2 : Int) - 1) = 1 from by first | rfl | decide | (unfold wrap64; omega)] at H); exact H
    clear H
    have H := H1
    clear H1
    by_cases c13 : a0_2 > 1152921504606846976
    ·rw [if_pos c13] at H
     have c13b0 : decide (1152921504606846976 < a0_2) = true := decide_eq_true c13
     clear c13
     obtain rfl := Option.some.inj H
     obtain ⟨hcz14_0, hcz14_1, hcz14_2, hcz14_3, hfz14_0, hfz14_1, hfz14_2, hfz14_3⟩ := Ke4_ BK365.out
     go_wp2
     go_ret
     exact ⟨Kh_, Kz_ HB GE365⟩
    rw [if_neg c13] at H
    have c13b0 : decide (1152921504606846976 < a0_2) = false := decide_eq_false c13
    clear c13
    have H' := Aside0.mk H
    clear H
    obtain ⟨hcz15_0, hcz15_1, hcz15_2, hcz15_3, hfz15_0, hfz15_1, hfz15_2, hfz15_3⟩ := Ke4_ BK365.out
    go_wp2
    go_roundg k1
    case measure => have := HK1.out; omega
    case rel => exact ⟨(3), (by first | rfl | (simp; done) | (simp [*]; done)), H', ⟨by have := HK1.out; omega⟩, ⟨by exact Kq_ BK365⟩, ⟨Kz_ HB GE365⟩⟩
   rw [if_neg c12] at H
   by_cases c16 : x3_1 = 3
   rotate_left
   ·rw [if_neg c16] at H
    exact absurd H (by simp)
   subst c16
   have H1 : (if a0_3 > 1152921504606846976 then (some false) else (tenementref06_Right.l0 k1 4 a0_0 a0_1 a0_2 a0_3)) = some r := by rw [if_pos rfl] at H; (try simp only [show wrap64 ((3 : Int) + 1) = 4 from by first | rfl | decide | (unfold wrap64; omega), show wrap64 ((3 : Int) - 1) = 2 from by first | rfl | decide | (unfold wrap64; omega)] at H); exact H
   clear H
   have H := H1
   clear H1
   by_cases c17 : a0_3 > 1152921504606846976
   ·rw [if_pos c17] at H
    have c17b0 : decide (1152921504606846976 < a0_3) = true := decide_eq_true c17
    clear c17
    obtain rfl := Option.some.inj H
    obtain ⟨hcz18_0, hcz18_1, hcz18_2, hcz18_3, hfz18_0, hfz18_1, hfz18_2, hfz18_3⟩ := Ke4_ BK365.out
    go_wp2
    go_ret
    exact ⟨Kh_, Kz_ HB GE365⟩
   rw [if_neg c17] at H
   have c17b0 : decide (1152921504606846976 < a0_3) = false := decide_eq_false c17
   clear c17
   have H' := Aside0.mk H
   clear H
   obtain ⟨hcz19_0, hcz19_1, hcz19_2, hcz19_3, hfz19_0, hfz19_1, hfz19_2, hfz19_3⟩ := Ke4_ BK365.out
   go_wp2
   go_roundg k1
   case measure => have := HK1.out; omega
   case rel => exact ⟨(4), (by first | rfl | (simp; done) | (simp [*]; done)), H', ⟨by have := HK1.out; omega⟩, ⟨by exact Kq_ BK365⟩, ⟨Kz_ HB GE365⟩⟩
end Go.Proofs.Ytoagfdpgnfinhaa.Q

set_option linter.unusedVariables false
set_option linter.unusedSimpArgs false
namespace Go.Proofs.Ytoagfdpgnfinhaa.Pure
open Go.RowKit Go.Proofs.Ytoagfdpgnfinhaa.Q Go.Proofs.YtoagfdpgnfinhaaW.PrintWords Go.Proofs.YtoagfdpgnfinhaaW.PrintLast Go.Proofs.YtoagfdpgnfinhaaW.PrintMore Go.Proofs.Ytoagfdpgnfinhaa.Plain

end Go.Proofs.Ytoagfdpgnfinhaa.Pure

namespace Go.Proofs.Ytoagfdpgnfinhaa.Q
open Go.RowKit Go.Proofs.YtoagfdpgnfinhaaW.PrintWords Go.Proofs.YtoagfdpgnfinhaaW.PrintLast Go.Proofs.YtoagfdpgnfinhaaW.PrintMore
attribute [local go_sem] max2_int min2_int max_two min_two max_three min_three max_four min_four   -- for this text's walks alone
set_option linter.unusedVariables false
set_option linter.unusedSimpArgs false
def tenementref06_At.f (a0_0 a0_1 a0_2 a0_3 n : Int) : Option Int := some (if n = 1 then a0_0 else if n = 2 then a0_1 else if n = 3 then a0_2 else if n = 4 then a0_3 else 0)
set_option maxHeartbeats 8000000 in
set_option maxRecDepth 100000 in
theorem tenementref06_At.calls (a0_0 a0_1 a0_2 a0_3 n : Int) (r : Int) (w : World) (h : tenementref06_At.f a0_0 a0_1 a0_2 a0_3 n = some r) :
  Calls Try.prog 71 #[.agg #[.int .u64 a0_0, .int .u64 a0_1, .int .u64 a0_2, .int .u64 a0_3], .int .i64 n] w fun e w' => e = .returned (.int .u64 r) ∧ Below w.heap.size w w' := by
 unfold tenementref06_At.f at h
 obtain rfl := Option.some.inj h
 clear h
 have hu := Try.underlying50
 by_cases c0 : n = 1
 ·subst c0
  go_enter Try.func71, Try.ntmps71
  go_wp2
  go_ret
  exact ⟨by first | rfl | simp, by first | exact below_alloc (Below.refl _ _) _ | (repeat (first | exact Below.refl _ _ | apply below_alloc | apply pw_below_drewN | apply below_drew1))⟩
 by_cases c1 : n = 2
 ·subst c1
  go_enter Try.func71, Try.ntmps71
  go_wp2
  go_ret
  exact ⟨by first | rfl | simp, by first | exact below_alloc (Below.refl _ _) _ | (repeat (first | exact Below.refl _ _ | apply below_alloc | apply pw_below_drewN | apply below_drew1))⟩
 by_cases c2 : n = 3
 ·subst c2
  go_enter Try.func71, Try.ntmps71
  go_wp2
  go_ret
  exact ⟨by first | rfl | simp, by first | exact below_alloc (Below.refl _ _) _ | (repeat (first | exact Below.refl _ _ | apply below_alloc | apply pw_below_drewN | apply below_drew1))⟩
 by_cases c3 : n = 4
 ·subst c3
  go_enter Try.func71, Try.ntmps71
  go_wp2
  go_ret
  exact ⟨by first | rfl | simp, by first | exact below_alloc (Below.refl _ _) _ | (repeat (first | exact Below.refl _ _ | apply below_alloc | apply pw_below_drewN | apply below_drew1))⟩
 rw [if_neg c0, if_neg c1, if_neg c2, if_neg c3]
 have b1 : (decide (1 ≤ n) = false ∧ decide (n < 1) = true) ∨ (decide (1 ≤ n) = true ∧ decide (n < 1) = false ∧ decide (n ≤ 4) = false ∧ decide (4 < n) = true) := by
  by_cases h : 1 ≤ n
  ·exact Or.inr ⟨decide_eq_true h, decide_eq_false (by omega), decide_eq_false (by omega), decide_eq_true (by omega)⟩
  ·exact Or.inl ⟨decide_eq_false h, decide_eq_true (by omega)⟩
 clear c0 c1 c2 c3
 rcases b1 with ⟨b1, b2⟩ | ⟨b1, b2, b3, b4⟩
 ·go_enter Try.func71, Try.ntmps71
  go_wp2
  go_ret
  exact ⟨by first | rfl | simp, by first | exact below_alloc (Below.refl _ _) _ | (repeat (first | exact Below.refl _ _ | apply below_alloc | apply pw_below_drewN | apply below_drew1))⟩
 ·go_enter Try.func71, Try.ntmps71
  go_wp2
  go_ret
  exact ⟨by first | rfl | simp, by first | exact below_alloc (Below.refl _ _) _ | (repeat (first | exact Below.refl _ _ | apply below_alloc | apply pw_below_drewN | apply below_drew1))⟩
def tenementref07_Stamp_N.f (a0_0 : Int) (a0_1 : Int) (a0_2 : Int) (a0_3 : Int) (a0_4 : Int) : Option (Int) := (tenementref06_At.f a0_0 a0_1 a0_2 a0_3 a0_4).bind fun t364 => (some t364)
set_option maxHeartbeats 8000000 in
set_option maxRecDepth 100000 in
theorem tenementref07_Stamp_N.calls (a0_0 : Int) (a0_1 : Int) (a0_2 : Int) (a0_3 : Int) (a0_4 : Int) (r : Int) (w : World) (h : tenementref07_Stamp_N.f a0_0 a0_1 a0_2 a0_3 a0_4 = some r) :
  Calls Try.prog 72 #[.agg #[.int .u64 a0_0, .int .u64 a0_1, .int .u64 a0_2, .int .u64 a0_3, .int .i64 a0_4]] w fun e w' => e = .returned (.int .u64 r) ∧ Below w.heap.size w w' := by
 have hu52 := Try.underlying52
 have hu50 := Try.underlying50
 have HB := Aside0.mk (Below.refl w.heap.size w)
 have H : ((tenementref06_At.f a0_0 a0_1 a0_2 a0_3 a0_4).bind fun t364 => (some t364)) = some r := h
 clear h
 replace H := Option.bind_eq_some_iff.mp H
 obtain ⟨t364, A20, H⟩ := H
 replace H : (some t364) = some r := H
 have A2 := Aside0.mk A20
 clear A20
 obtain rfl := Option.some.inj H
 go_enter Try.func72, Try.ntmps72
 go_wp2_with (first | ((with_reducible refine gate_dst (N := 1) rfl ?_); refine Ka_ 1 #[.int .u64 a0_0, .int .u64 a0_1, .int .u64 a0_2, .int .u64 a0_3, .int .i64 a0_4] 52 ?_; intro gb363 hg w3 hbox hb; have BK363 := Aside0.mk (hbox); have GW363 := Kw_ HB hg; have GE363 := GW363; replace HB := Ks_ HB hb; clear hb hbox hg; obtain ⟨hcz4_0, hcz4_1, hcz4_2, hcz4_3, hcz4_4, hfz4_0, hfz4_1, hfz4_2, hfz4_3, hfz4_4⟩ := Ke5_ BK363.out) | ((with_reducible refine gate_callee (f := 71) rfl ?_); refine Kg_ (some 7) rfl rfl Try.func71 (by kernel_rfl) rfl #[.agg #[.int .u64 a0_0, .int .u64 a0_1, .int .u64 a0_2, .int .u64 a0_3], .int .i64 a0_4] rfl ?_; (with_reducible refine (tenementref06_At.calls a0_0 a0_1 a0_2 a0_3 a0_4 t364 _ A2.out).mono ?_); rintro e w5 ⟨rfl, hb⟩; refine ⟨_, rfl, ?_⟩; replace BK363 := Kb_ BK363 hb; replace HB := Ks_ HB hb; (try clear hb); (try clear hb2); (try clear hk); (try clear hi)))
 go_ret
 exact ⟨Kh_, Kz_ HB GE363⟩
def tenementref07_Right.f (k : Nat) (a0_0 : Int) (a0_1 : Int) (a0_2 : Int) (a0_3 : Int) (a0_4 : Int) : Option (Bool) := (tenementref06_Right.f k a0_0 a0_1 a0_2 a0_3).bind fun t367 => (if t367 = true then ((tenementref07_Stamp_N.f a0_0 a0_1 a0_2 a0_3 a0_4).bind fun t368 => (some (decide (t368 ≥ 1)))) else (some false))
set_option maxHeartbeats 8000000 in
set_option maxRecDepth 100000 in
theorem tenementref07_Right.calls (k : Nat) (a0_0 : Int) (a0_1 : Int) (a0_2 : Int) (a0_3 : Int) (a0_4 : Int) (r : Bool) (w : World) (h : tenementref07_Right.f k a0_0 a0_1 a0_2 a0_3 a0_4 = some r) :
  Calls Try.prog 70 #[.agg #[.int .u64 a0_0, .int .u64 a0_1, .int .u64 a0_2, .int .u64 a0_3, .int .i64 a0_4]] w fun e w' => e = .returned (.bool r) ∧ Below w.heap.size w w' := by
 have hu52 := Try.underlying52
 have hu50 := Try.underlying50
 have HB := Aside0.mk (Below.refl w.heap.size w)
 have H : ((tenementref06_Right.f k a0_0 a0_1 a0_2 a0_3).bind fun t367 => (if t367 = true then ((tenementref07_Stamp_N.f a0_0 a0_1 a0_2 a0_3 a0_4).bind fun t368 => (some (decide (t368 ≥ 1)))) else (some false))) = some r := h
 clear h
 replace H := Option.bind_eq_some_iff.mp H
 obtain ⟨t367, A20, H⟩ := H
 replace H : (if t367 = true then ((tenementref07_Stamp_N.f a0_0 a0_1 a0_2 a0_3 a0_4).bind fun t368 => (some (decide (t368 ≥ 1)))) else (some false)) = some r := H
 have A2 := Aside0.mk A20
 clear A20
 by_cases c3 : t367 = true
 rotate_left
 ·replace c3 := Bool.eq_false_iff.mpr c3
  subst c3
  have H1 : (some false) = some r := by rw [if_neg (show ¬ (false = true) by decide)] at H; exact H
  clear H
  have H := H1
  clear H1
  obtain rfl := Option.some.inj H
  go_enter Try.func70, Try.ntmps70
  go_wp2_with (first | ((with_reducible refine gate_dst (N := 1) rfl ?_); refine Ka_ 1 #[.int .u64 a0_0, .int .u64 a0_1, .int .u64 a0_2, .int .u64 a0_3, .int .i64 a0_4] 52 ?_; intro gb366 hg w10 hbox hb; have BK366 := Aside0.mk (hbox); have GW366 := Kw_ HB hg; have GE366 := GW366; replace HB := Ks_ HB hb; clear hb hbox hg; obtain ⟨hcz11_0, hcz11_1, hcz11_2, hcz11_3, hcz11_4, hfz11_0, hfz11_1, hfz11_2, hfz11_3, hfz11_4⟩ := Ke5_ BK366.out) | ((with_reducible refine gate_callee (f := 93) rfl ?_); refine Kg_ (some 5) rfl rfl Try.func93 (by kernel_rfl) rfl #[.agg #[.int .u64 a0_0, .int .u64 a0_1, .int .u64 a0_2, .int .u64 a0_3]] rfl ?_; (with_reducible refine (tenementref06_Right.calls k a0_0 a0_1 a0_2 a0_3 false _ A2.out).mono ?_); rintro e w12 ⟨rfl, hb⟩; refine ⟨_, rfl, ?_⟩; replace BK366 := Kb_ BK366 hb; replace HB := Ks_ HB hb; (try clear hb); (try clear hb2); (try clear hk); (try clear hi)))
  go_ret
  exact ⟨Kh_, Kz_ HB GE366⟩
 subst c3
 have H1 : ((tenementref07_Stamp_N.f a0_0 a0_1 a0_2 a0_3 a0_4).bind fun t368 => (some (decide (t368 ≥ 1)))) = some r := by rw [if_pos rfl] at H; exact H
 clear H
 have H := H1
 clear H1
 replace H := Option.bind_eq_some_iff.mp H
 obtain ⟨t368, A40, H⟩ := H
 replace H : (some (decide (t368 ≥ 1))) = some r := H
 have A4 := Aside0.mk A40
 clear A40
 obtain rfl := Option.some.inj H
 go_enter Try.func70, Try.ntmps70
 go_wp2_with (first | ((with_reducible refine gate_dst (N := 1) rfl ?_); refine Ka_ 1 #[.int .u64 a0_0, .int .u64 a0_1, .int .u64 a0_2, .int .u64 a0_3, .int .i64 a0_4] 52 ?_; intro gb366 hg w5 hbox hb; have BK366 := Aside0.mk (hbox); have GW366 := Kw_ HB hg; have GE366 := GW366; replace HB := Ks_ HB hb; clear hb hbox hg; obtain ⟨hcz6_0, hcz6_1, hcz6_2, hcz6_3, hcz6_4, hfz6_0, hfz6_1, hfz6_2, hfz6_3, hfz6_4⟩ := Ke5_ BK366.out) | ((with_reducible refine gate_callee (f := 93) rfl ?_); refine Kg_ (some 5) rfl rfl Try.func93 (by kernel_rfl) rfl #[.agg #[.int .u64 a0_0, .int .u64 a0_1, .int .u64 a0_2, .int .u64 a0_3]] rfl ?_; (with_reducible refine (tenementref06_Right.calls k a0_0 a0_1 a0_2 a0_3 true _ A2.out).mono ?_); rintro e w7 ⟨rfl, hb⟩; refine ⟨_, rfl, ?_⟩; replace BK366 := Kb_ BK366 hb; replace HB := Ks_ HB hb; (try clear hb); (try clear hb2); (try clear hk); (try clear hi); obtain ⟨hcz8_0, hcz8_1, hcz8_2, hcz8_3, hcz8_4, hfz8_0, hfz8_1, hfz8_2, hfz8_3, hfz8_4⟩ := Ke5_ BK366.out) | (go_at_call 72; (with_reducible refine (tenementref07_Stamp_N.calls a0_0 a0_1 a0_2 a0_3 a0_4 t368 _ A4.out).mono ?_); rintro e w9 ⟨rfl, hb⟩; replace BK366 := Kb_ BK366 hb; replace HB := Ks_ HB hb; (try clear hb); (try clear hb2); (try clear hk); (try clear hi)))
 go_ret
 exact ⟨Kh_, Kz_ HB GE366⟩
def tenementref07_Put.f (k : Nat) (a0_0 : Int) (a0_1 : Int) (a0_2 : Int) (a0_3 : Int) (a0_4 : Int) : Option (ByteArray × Bool) := (tenementref07_Right.f k a0_0 a0_1 a0_2 a0_3 a0_4).bind fun t397 => (if t397 = true then ((tenementref02_Number.f k (IntKind.u64.wrap (a0_4)) 1).bind fun t398 => ((tenementref06_Put.f k a0_0 a0_1 a0_2 a0_3).bind fun t399 => (if t398.size + t399.size ≤ 9223372036854775807 then (some (t398 ++ t399, true)) else (none)))) else (some ((⟨#[]⟩ : ByteArray), false)))
def tenementref07_Put.T3 : Bool × List (List Nat × List Nat) := (true, [([], []), ([0], [0]), ([1], [1]), ([2], [2]), ([], []), ([4], [4]), ([5, 3], [5]), ([3, 6], [3, 6]), ([7, 6, 0, 1, 2, 3, 4, 5, 6, 7], [7]), ([8, 0, 1, 2, 3, 4, 5, 6, 7, 8], [])])
def tenementref07_Put.B3 : List Nat := [0, 1, 3, 7, 0, 16, 63, 127, 255, 511]
theorem tenementref07_Put.tab3 : rtab .any (opsOf Try.f90 3) = tenementref07_Put.T3 := by kernel_rfl
theorem tenementref07_Put.bits3 : waitsOk tenementref07_Put.T3.2 tenementref07_Put.B3 = true := by kernel_rfl
set_option maxHeartbeats 8000000 in
set_option maxRecDepth 100000 in
theorem tenementref07_Put.calls (k : Nat) (a0_0 : Int) (a0_1 : Int) (a0_2 : Int) (a0_3 : Int) (a0_4 : Int) (r1 : ByteArray) (r2 : Bool) (w : World) (h : tenementref07_Put.f k a0_0 a0_1 a0_2 a0_3 a0_4 = some (r1, r2)) :
  Calls Try.prog 90 #[.agg #[.int .u64 a0_0, .int .u64 a0_1, .int .u64 a0_2, .int .u64 a0_3, .int .i64 a0_4]] w fun e w' => e = .returned (.tuple #[.string r1, .bool r2]) ∧ Below w.heap.size w w' := by
 have hu52 := Try.underlying52
 have hu50 := Try.underlying50
 have HB := Aside0.mk (Below.refl w.heap.size w)
 have H : ((tenementref07_Right.f k a0_0 a0_1 a0_2 a0_3 a0_4).bind fun t397 => (if t397 = true then ((tenementref02_Number.f k (IntKind.u64.wrap (a0_4)) 1).bind fun t398 => ((tenementref06_Put.f k a0_0 a0_1 a0_2 a0_3).bind fun t399 => (if t398.size + t399.size ≤ 9223372036854775807 then (some (t398 ++ t399, true)) else (none)))) else (some ((⟨#[]⟩ : ByteArray), false)))) = some (r1, r2) := h
 (try (have Hs_ := H; simp only [ByteArray.size_append, Int.natCast_add] at Hs_))
 clear h
 replace H := Option.bind_eq_some_iff.mp H
 obtain ⟨t397, A20, H⟩ := H
 replace H : (if t397 = true then ((tenementref02_Number.f k (IntKind.u64.wrap (a0_4)) 1).bind fun t398 => ((tenementref06_Put.f k a0_0 a0_1 a0_2 a0_3).bind fun t399 => (if t398.size + t399.size ≤ 9223372036854775807 then (some (t398 ++ t399, true)) else (none)))) else (some ((⟨#[]⟩ : ByteArray), false))) = some (r1, r2) := H
 have A2 := Aside0.mk A20
 clear A20
 by_cases c3 : t397 = true
 rotate_left
 ·replace c3 := Bool.eq_false_iff.mpr c3
  subst c3
  have H1 : (some ((⟨#[]⟩ : ByteArray), false)) = some (r1, r2) := by rw [if_neg (show ¬ (false = true) by decide)] at H; exact H
  clear H
  have H := H1
  clear H1
  simp only [Option.some.injEq, Prod.mk.injEq] at H
  obtain ⟨rfl, rfl⟩ := H
  go_enter Try.func90, Try.ntmps90
  go_wp2_with (first | ((with_reducible refine gate_dst (N := 1) rfl ?_); refine Ka_ 1 #[.int .u64 a0_0, .int .u64 a0_1, .int .u64 a0_2, .int .u64 a0_3, .int .i64 a0_4] 52 ?_; intro gb396 hg w13 hbox hb; have BK396 := Aside0.mk (hbox); have GW396 := Kw_ HB hg; have GE396 := GW396; replace HB := Ks_ HB hb; clear hb hbox hg; obtain ⟨hcz14_0, hcz14_1, hcz14_2, hcz14_3, hcz14_4, hfz14_0, hfz14_1, hfz14_2, hfz14_3, hfz14_4⟩ := Ke5_ BK396.out) | ((with_reducible refine gate_callee (f := 70) rfl ?_); refine Kg_ (some 5) rfl rfl Try.func70 (by kernel_rfl) rfl #[.agg #[.int .u64 a0_0, .int .u64 a0_1, .int .u64 a0_2, .int .u64 a0_3, .int .i64 a0_4]] rfl ?_; (with_reducible refine (tenementref07_Right.calls k a0_0 a0_1 a0_2 a0_3 a0_4 false _ A2.out).mono ?_); rintro e w15 ⟨rfl, hb⟩; refine ⟨_, rfl, ?_⟩; replace BK396 := Kb_ BK396 hb; replace HB := Ks_ HB hb; (try clear hb); (try clear hb2); (try clear hk); (try clear hi)))
  go_ret2
  exact ⟨Kh_, Kz_ HB GE396⟩
 subst c3
 have H1 : ((tenementref02_Number.f k (IntKind.u64.wrap (a0_4)) 1).bind fun t398 => ((tenementref06_Put.f k a0_0 a0_1 a0_2 a0_3).bind fun t399 => (if t398.size + t399.size ≤ 9223372036854775807 then (some (t398 ++ t399, true)) else (none)))) = some (r1, r2) := by rw [if_pos rfl] at H; exact H
 clear H
 have H := H1
 clear H1
 replace H := Option.bind_eq_some_iff.mp H
 obtain ⟨t398, A40, H⟩ := H
 replace H : ((tenementref06_Put.f k a0_0 a0_1 a0_2 a0_3).bind fun t399 => (if t398.size + t399.size ≤ 9223372036854775807 then (some (t398 ++ t399, true)) else (none))) = some (r1, r2) := H
 have A4 := Aside0.mk A40
 clear A40
 replace H := Option.bind_eq_some_iff.mp H
 obtain ⟨t399, A50, H⟩ := H
 replace H : (if t398.size + t399.size ≤ 9223372036854775807 then (some (t398 ++ t399, true)) else (none)) = some (r1, r2) := H
 have A5 := Aside0.mk A50
 clear A50
 by_cases c6 : t398.size + t399.size ≤ 9223372036854775807
 rotate_left
 ·rw [if_neg c6] at H
  exact absurd H (by simp)
 rw [if_pos c6] at H
 have c6b0 := eq_true c6
 have c6b1 : decide (t398.size + t399.size ≤ 9223372036854775807) = true := decide_eq_true c6
 try have c6b2 : (9223372036854775807 < t398.size + t399.size) = False := eq_false (Nat.not_lt.2 c6)
 simp only [Option.some.injEq, Prod.mk.injEq] at H
 obtain ⟨rfl, rfl⟩ := H
 go_enter Try.func90, Try.ntmps90
 try go_wp2_with (first | ((with_reducible refine gate_dst (N := 1) rfl ?_); refine Ka_ 1 #[.int .u64 a0_0, .int .u64 a0_1, .int .u64 a0_2, .int .u64 a0_3, .int .i64 a0_4] 52 ?_; intro gb396 hg w7 hbox hb; have BK396 := Aside0.mk (hbox); have GW396 := Kw_ HB hg; have GE396 := GW396; replace HB := Ks_ HB hb; clear hb hbox hg; obtain ⟨hcz8_0, hcz8_1, hcz8_2, hcz8_3, hcz8_4, hfz8_0, hfz8_1, hfz8_2, hfz8_3, hfz8_4⟩ := Ke5_ BK396.out) | ((with_reducible refine gate_callee (f := 70) rfl ?_); refine Kg_ (some 5) rfl rfl Try.func70 (by kernel_rfl) rfl #[.agg #[.int .u64 a0_0, .int .u64 a0_1, .int .u64 a0_2, .int .u64 a0_3, .int .i64 a0_4]] rfl ?_; (with_reducible refine (tenementref07_Right.calls k a0_0 a0_1 a0_2 a0_3 a0_4 true _ A2.out).mono ?_); rintro e w9 ⟨rfl, hb⟩; refine ⟨_, rfl, ?_⟩; replace BK396 := Kb_ BK396 hb; replace HB := Ks_ HB hb; (try clear hb); (try clear hb2); (try clear hk); (try clear hi)))
 replace BK396 := Kd_ BK396
 replace HB := Aside0.mk (below_drew1 HB.out)
 refine start_ (n := 10) (S := fun w' => w'.cell? ⟨gb396, 0, none⟩ = some (.int .u64 a0_0) ∧ w'.cell? ⟨gb396, 1, none⟩ = some (.int .u64 a0_1) ∧ w'.cell? ⟨gb396, 2, none⟩ = some (.int .u64 a0_2) ∧ w'.cell? ⟨gb396, 3, none⟩ = some (.int .u64 a0_3) ∧ w'.cell? ⟨gb396, 4, none⟩ = some (.int .i64 a0_4)) (ds := []) (mB_ 10 0) (by kernel_rfl) rfl rfl (Kc5_ BK396.out) (fun hHeld => ?_); refine with_tabW tenementref07_Put.tab3 tenementref07_Put.bits3 (fun HT_ HW_ => ?_)
 generalize w9.drew = w10 at BK396 HB hHeld ⊢
 refine Kp_ 0 7 (mB_ 10 1) (any_of HT_.out (by kernel_rfl)) ?_
 refine Kp_ 4 11 (mB_ 10 17) (any_of HT_.out (by kernel_rfl)) ?_
 refine Ko_ 1 8 (mB_ 10 19) (take_ofW HT_.out HW_.out (by kernel_rfl)) hHeld ?_
 refine Kp_ 2 9 (mB_ 10 23) (any_of HT_.out (by kernel_rfl)) ?_
 refine Ko_ 5 12 (mB_ 10 55) (take_ofW HT_.out HW_.out (by kernel_rfl)) hHeld ?_
 refine one_ (i := 3) (N := some 10) (mB_ 10 63) rfl rfl (one_of HT_.out (by kernel_rfl)) (by decide) (fun K hK => ?_)
 refine goes_ Try.func64 (by kernel_rfl) rfl #[.int .u64 (IntKind.u64.wrap (a0_4)), .int .i64 1] (by rfl) rfl rfl (by (try simp only [List.map_toArray, List.map_cons, List.map_nil]); first | done | rfl | (simp only [List.length_drop, List.length_take]; rfl)) ?_
 with_reducible refine (tenementref02_Number.calls k (IntKind.u64.wrap (a0_4)) 1 t398 _ A4.out).mono ?_
 rintro e w11 ⟨rfl, hb⟩
 refine ⟨_, rfl, ?_⟩
 replace BK396 := Kb_ BK396 hb
 replace HB := Ks_ HB hb
 (try clear hb)
 (try clear hb2)
 (try clear hk)
 (try clear hi)
 refine hK.out _ _ (Kc5_ BK396.out) (fun hHeld => ?_)
 clear hK K
 refine Kn_ 10 ?_
 refine one_ (i := 6) (N := some 13) (mB_ 10 127) rfl rfl (one_of HT_.out (by kernel_rfl)) (by decide) (fun K hK => ?_)
 refine goes_ Try.func103 (by kernel_rfl) rfl #[.agg #[.int .u64 a0_0, .int .u64 a0_1, .int .u64 a0_2, .int .u64 a0_3]] (by rfl) rfl rfl (by (try simp only [List.map_toArray, List.map_cons, List.map_nil]); first | done | rfl | (simp only [List.length_drop, List.length_take]; rfl)) ?_
 with_reducible refine (tenementref06_Put.calls k a0_0 a0_1 a0_2 a0_3 t399 _ A5.out).mono ?_
 rintro e w12 ⟨rfl, hb⟩
 refine ⟨_, rfl, ?_⟩
 replace BK396 := Kb_ BK396 hb
 replace HB := Ks_ HB hb
 (try clear hb)
 (try clear hb2)
 (try clear hk)
 (try clear hi)
 refine hK.out _ _ (Kc5_ BK396.out) (fun hHeld => ?_)
 clear hK K
 refine Kn_ 13 ?_
 refine Kp_ 7 14 (mB_ 10 255) (any_of HT_.out (by kernel_rfl)) ?_
 refine Kp_ 8 2 (mB_ 10 511) (any_of HT_.out (by kernel_rfl)) ?_
 refine Kp_ 9 3 (mB_ 10 1023) (any_of HT_.out (by kernel_rfl)) ?_
 refine done_ (done_of HT_.out (by kernel_rfl)) ?_
 try go_wp2
 go_ret2
 exact ⟨Kh_, Kz_ HB GE396⟩
end Go.Proofs.Ytoagfdpgnfinhaa.Q

set_option linter.unusedVariables false
set_option linter.unusedSimpArgs false
namespace Go.Proofs.Ytoagfdpgnfinhaa.Pure
open Go.RowKit Go.Proofs.Ytoagfdpgnfinhaa.Q Go.Proofs.YtoagfdpgnfinhaaW.PrintWords Go.Proofs.YtoagfdpgnfinhaaW.PrintLast Go.Proofs.YtoagfdpgnfinhaaW.PrintMore Go.Proofs.Ytoagfdpgnfinhaa.Plain

end Go.Proofs.Ytoagfdpgnfinhaa.Pure

namespace Go.Proofs.Ytoagfdpgnfinhaa.Q
open Go.RowKit Go.Proofs.YtoagfdpgnfinhaaW.PrintWords Go.Proofs.YtoagfdpgnfinhaaW.PrintLast Go.Proofs.YtoagfdpgnfinhaaW.PrintMore
attribute [local go_sem] max2_int min2_int max_two min_two max_three min_three max_four min_four   -- for this text's walks alone
set_option linter.unusedVariables false
set_option linter.unusedSimpArgs false
def tenementref08_Right.f (a0_0 : ByteArray) (a0_1 : ByteArray) (a0_2 : ByteArray) (a0_3 : Bool) : Option (Bool) := if (a0_0.size : Int) ≥ 1 then (if (a0_0.size : Int) ≤ 16 then (if (a0_1.size : Int) ≥ 1 then (if (a0_1.size : Int) ≤ 16 then (if (a0_2.size : Int) ≤ 32 then (if a0_3 = true then (some (a0_2.toList == ([] : List UInt8))) else (some true)) else (some false)) else (some false)) else (some false)) else (some false)) else (some false)
set_option maxHeartbeats 8000000 in
set_option maxRecDepth 100000 in
theorem tenementref08_Right.calls (a0_0 : ByteArray) (a0_1 : ByteArray) (a0_2 : ByteArray) (a0_3 : Bool) (r : Bool) (w : World) (h : tenementref08_Right.f a0_0 a0_1 a0_2 a0_3 = some r) :
  Calls Try.prog 97 #[.agg #[.string a0_0, .string a0_1, .string a0_2, .bool a0_3]] w fun e w' => e = .returned (.bool r) ∧ Below w.heap.size w w' := by
 have hu117 := Try.underlying117
 have HB := Aside0.mk (Below.refl w.heap.size w)
 have H : (if (a0_0.size : Int) ≥ 1 then (if (a0_0.size : Int) ≤ 16 then (if (a0_1.size : Int) ≥ 1 then (if (a0_1.size : Int) ≤ 16 then (if (a0_2.size : Int) ≤ 32 then (if a0_3 = true then (some (a0_2.toList == ([] : List UInt8))) else (some true)) else (some false)) else (some false)) else (some false)) else (some false)) else (some false)) = some r := h
 clear h
 by_cases c2 : (a0_0.size : Int) ≥ 1
 rotate_left
 ·rw [if_neg c2] at H
  have c2b0 : decide (1 ≤ (a0_0.size : Int)) = false := decide_eq_false c2
  have c2b1 : decide (1 ≤ a0_0.size) = false := decide_eq_false (by omega)
  clear c2
  obtain rfl := Option.some.inj H
  go_enter Try.func97, Try.ntmps97
  go_wp2_with (first | ((with_reducible refine gate_dst (N := 1) rfl ?_); refine Ka_ 1 #[.string a0_0, .string a0_1, .string a0_2, .bool a0_3] 117 ?_; intro gb369 hg w20 hbox hb; have BK369 := Aside0.mk (hbox); have GW369 := Kw_ HB hg; have GE369 := GW369; replace HB := Ks_ HB hb; clear hb hbox hg; obtain ⟨hcz21_0, hcz21_1, hcz21_2, hcz21_3, hfz21_0, hfz21_1, hfz21_2, hfz21_3⟩ := Ke4_ BK369.out))
  go_ret
  exact ⟨Kh_, Kz_ HB GE369⟩
 rw [if_pos c2] at H
 have c2b0 : decide (1 ≤ (a0_0.size : Int)) = true := decide_eq_true c2
 have c2b1 : decide (1 ≤ a0_0.size) = true := decide_eq_true (by omega)
 clear c2
 by_cases c3 : (a0_0.size : Int) ≤ 16
 rotate_left
 ·rw [if_neg c3] at H
  have c3b0 : decide ((a0_0.size : Int) ≤ 16) = false := decide_eq_false c3
  have c3b1 : decide (a0_0.size ≤ 16) = false := decide_eq_false (by omega)
  clear c3
  obtain rfl := Option.some.inj H
  go_enter Try.func97, Try.ntmps97
  go_wp2_with (first | ((with_reducible refine gate_dst (N := 1) rfl ?_); refine Ka_ 1 #[.string a0_0, .string a0_1, .string a0_2, .bool a0_3] 117 ?_; intro gb369 hg w18 hbox hb; have BK369 := Aside0.mk (hbox); have GW369 := Kw_ HB hg; have GE369 := GW369; replace HB := Ks_ HB hb; clear hb hbox hg; obtain ⟨hcz19_0, hcz19_1, hcz19_2, hcz19_3, hfz19_0, hfz19_1, hfz19_2, hfz19_3⟩ := Ke4_ BK369.out))
  go_ret
  exact ⟨Kh_, Kz_ HB GE369⟩
 rw [if_pos c3] at H
 have c3b0 : decide ((a0_0.size : Int) ≤ 16) = true := decide_eq_true c3
 have c3b1 : decide (a0_0.size ≤ 16) = true := decide_eq_true (by omega)
 clear c3
 by_cases c4 : (a0_1.size : Int) ≥ 1
 rotate_left
 ·rw [if_neg c4] at H
  have c4b0 : decide (1 ≤ (a0_1.size : Int)) = false := decide_eq_false c4
  have c4b1 : decide (1 ≤ a0_1.size) = false := decide_eq_false (by omega)
  clear c4
  obtain rfl := Option.some.inj H
  go_enter Try.func97, Try.ntmps97
  go_wp2_with (first | ((with_reducible refine gate_dst (N := 1) rfl ?_); refine Ka_ 1 #[.string a0_0, .string a0_1, .string a0_2, .bool a0_3] 117 ?_; intro gb369 hg w16 hbox hb; have BK369 := Aside0.mk (hbox); have GW369 := Kw_ HB hg; have GE369 := GW369; replace HB := Ks_ HB hb; clear hb hbox hg; obtain ⟨hcz17_0, hcz17_1, hcz17_2, hcz17_3, hfz17_0, hfz17_1, hfz17_2, hfz17_3⟩ := Ke4_ BK369.out))
  go_ret
  exact ⟨Kh_, Kz_ HB GE369⟩
 rw [if_pos c4] at H
 have c4b0 : decide (1 ≤ (a0_1.size : Int)) = true := decide_eq_true c4
 have c4b1 : decide (1 ≤ a0_1.size) = true := decide_eq_true (by omega)
 clear c4
 by_cases c5 : (a0_1.size : Int) ≤ 16
 rotate_left
 ·rw [if_neg c5] at H
  have c5b0 : decide ((a0_1.size : Int) ≤ 16) = false := decide_eq_false c5
  have c5b1 : decide (a0_1.size ≤ 16) = false := decide_eq_false (by omega)
  clear c5
  obtain rfl := Option.some.inj H
  go_enter Try.func97, Try.ntmps97
  go_wp2_with (first | ((with_reducible refine gate_dst (N := 1) rfl ?_); refine Ka_ 1 #[.string a0_0, .string a0_1, .string a0_2, .bool a0_3] 117 ?_; intro gb369 hg w14 hbox hb; have BK369 := Aside0.mk (hbox); have GW369 := Kw_ HB hg; have GE369 := GW369; replace HB := Ks_ HB hb; clear hb hbox hg; obtain ⟨hcz15_0, hcz15_1, hcz15_2, hcz15_3, hfz15_0, hfz15_1, hfz15_2, hfz15_3⟩ := Ke4_ BK369.out))
  go_ret
  exact ⟨Kh_, Kz_ HB GE369⟩
 rw [if_pos c5] at H
 have c5b0 : decide ((a0_1.size : Int) ≤ 16) = true := decide_eq_true c5
 have c5b1 : decide (a0_1.size ≤ 16) = true := decide_eq_true (by omega)
 clear c5
 by_cases c6 : (a0_2.size : Int) ≤ 32
 rotate_left
 ·rw [if_neg c6] at H
  have c6b0 : decide ((a0_2.size : Int) ≤ 32) = false := decide_eq_false c6
  have c6b1 : decide (a0_2.size ≤ 32) = false := decide_eq_false (by omega)
  clear c6
  obtain rfl := Option.some.inj H
  go_enter Try.func97, Try.ntmps97
  go_wp2_with (first | ((with_reducible refine gate_dst (N := 1) rfl ?_); refine Ka_ 1 #[.string a0_0, .string a0_1, .string a0_2, .bool a0_3] 117 ?_; intro gb369 hg w12 hbox hb; have BK369 := Aside0.mk (hbox); have GW369 := Kw_ HB hg; have GE369 := GW369; replace HB := Ks_ HB hb; clear hb hbox hg; obtain ⟨hcz13_0, hcz13_1, hcz13_2, hcz13_3, hfz13_0, hfz13_1, hfz13_2, hfz13_3⟩ := Ke4_ BK369.out))
  go_ret
  exact ⟨Kh_, Kz_ HB GE369⟩
 rw [if_pos c6] at H
 have c6b0 : decide ((a0_2.size : Int) ≤ 32) = true := decide_eq_true c6
 have c6b1 : decide (a0_2.size ≤ 32) = true := decide_eq_true (by omega)
 clear c6
 by_cases c7 : a0_3 = true
 ·subst c7
  have H1 : (some (a0_2.toList == ([] : List UInt8))) = some r := by rw [if_pos rfl] at H; exact H
  clear H
  have H := H1
  clear H1
  obtain rfl := Option.some.inj H
  go_enter Try.func97, Try.ntmps97
  go_wp2_with (first | ((with_reducible refine gate_dst (N := 1) rfl ?_); refine Ka_ 1 #[.string a0_0, .string a0_1, .string a0_2, .bool true] 117 ?_; intro gb369 hg w8 hbox hb; have BK369 := Aside0.mk (hbox); have GW369 := Kw_ HB hg; have GE369 := GW369; replace HB := Ks_ HB hb; clear hb hbox hg; obtain ⟨hcz9_0, hcz9_1, hcz9_2, hcz9_3, hfz9_0, hfz9_1, hfz9_2, hfz9_3⟩ := Ke4_ BK369.out))
  go_ret
  exact ⟨Kh_, Kz_ HB GE369⟩
 replace c7 := Bool.eq_false_iff.mpr c7
 subst c7
 have H1 : (some true) = some r := by rw [if_neg (show ¬ (false = true) by decide)] at H; exact H
 clear H
 have H := H1
 clear H1
 obtain rfl := Option.some.inj H
 go_enter Try.func97, Try.ntmps97
 go_wp2_with (first | ((with_reducible refine gate_dst (N := 1) rfl ?_); refine Ka_ 1 #[.string a0_0, .string a0_1, .string a0_2, .bool false] 117 ?_; intro gb369 hg w10 hbox hb; have BK369 := Aside0.mk (hbox); have GW369 := Kw_ HB hg; have GE369 := GW369; replace HB := Ks_ HB hb; clear hb hbox hg; obtain ⟨hcz11_0, hcz11_1, hcz11_2, hcz11_3, hfz11_0, hfz11_1, hfz11_2, hfz11_3⟩ := Ke4_ BK369.out))
 go_ret
 exact ⟨Kh_, Kz_ HB GE369⟩
mutual
def tenementref08_Whole.j0 : Nat → Bool → Int → Int → Int → Int → Int → List (S117) → Option (Bool)
 | 0, _, _, _, _, _, _, _ => none
 | k + 1, x20, x101, x102, x104, x105, x106, x100 => if x20 = true then (some false) else (tenementref08_Whole.l0 k 0 x101 x102 x104 x105 x106 x100)
def tenementref08_Whole.l0 : Nat → Int → Int → Int → Int → Int → Int → List (S117) → Option (Bool)
 | 0, _, _, _, _, _, _, _ => none
 | k + 1, x3, x101, x102, x104, x105, x106, x100 => if x3 < (x100.length : Int) then (if 0 ≤ x3 then ((tenementref08_Right.f ((rd_T117 x100 x3).f0) ((rd_T117 x100 x3).f1) ((rd_T117 x100 x3).f2) ((rd_T117 x100 x3).f3)).bind fun t373 => (if t373 = true then (tenementref08_Whole.l1 k x3 0 x101 x102 x104 x105 x106 x100) else (some false))) else (none)) else (some true)
def tenementref08_Whole.l1 : Nat → Int → Int → Int → Int → Int → Int → Int → List (S117) → Option (Bool)
 | 0, _, _, _, _, _, _, _, _ => none
 | k + 1, x3, x4, x101, x102, x104, x105, x106, x100 => if x4 < x3 then (if 0 ≤ x4 then (if x4 < (x100.length : Int) then (if 0 ≤ x3 then (if x3 < (x100.length : Int) then (if ((rd_T117 x100 x4).f0).toList = ((rd_T117 x100 x3).f0).toList then (if ((rd_T117 x100 x4).f1).toList = ((rd_T117 x100 x3).f1).toList then (some false) else (tenementref08_Whole.l1 k x3 (wrap64 (x4 + 1)) x101 x102 x104 x105 x106 x100)) else (tenementref08_Whole.l1 k x3 (wrap64 (x4 + 1)) x101 x102 x104 x105 x106 x100)) else (none)) else (none)) else (none)) else (none)) else (tenementref08_Whole.l0 k (wrap64 (x3 + 1)) x101 x102 x104 x105 x106 x100)
end
def tenementref08_Whole.f (k : Nat) (a0_0 : Int) (a0_1 : Int) (a0_2 : Int) (a0_3 : Int) (a0_4 : Int) (l0_5 : List (S117)) : Option (Bool) := (tenementref07_Right.f k a0_0 a0_1 a0_2 a0_3 a0_4).bind fun t371 => (if t371 = true then (if (l0_5.length : Int) < 1 then (tenementref08_Whole.j0 k true a0_0 a0_1 a0_2 a0_3 a0_4 l0_5) else (tenementref08_Whole.j0 k (decide ((l0_5.length : Int) > 8)) a0_0 a0_1 a0_2 a0_3 a0_4 l0_5)) else (tenementref08_Whole.j0 k true a0_0 a0_1 a0_2 a0_3 a0_4 l0_5))
set_option maxHeartbeats 8000000 in
set_option maxRecDepth 100000 in
theorem tenementref08_Whole.calls (k : Nat) (a0_0 : Int) (a0_1 : Int) (a0_2 : Int) (a0_3 : Int) (a0_4 : Int) (A0_5 : Option Addr) (c0_5 : Nat) (l0_5 : List (S117)) (r : Bool) (w : World) (hr0_5 : Kd.C k117 w A0_5 l0_5.length l0_5) (hc0_5 : l0_5.length ≤ c0_5) (h : tenementref08_Whole.f k a0_0 a0_1 a0_2 a0_3 a0_4 l0_5 = some r) :
  Calls Try.prog 74 #[.agg #[.int .u64 a0_0, .int .u64 a0_1, .int .u64 a0_2, .int .u64 a0_3, .int .i64 a0_4, .slice A0_5 l0_5.length c0_5]] w fun e w' => e = .returned (.bool r) ∧ Below w.heap.size w w' := by
 have hu55 := Try.underlying55
 have hu52 := Try.underlying52
 have hu117 := Try.underlying117
 have HR0_5 := Aside0.mk hr0_5
 have HC0_5 := Aside0.mk hc0_5
 clear hr0_5 hc0_5
 have HB := Aside0.mk (Below.refl w.heap.size w)
 have H : ((tenementref07_Right.f k a0_0 a0_1 a0_2 a0_3 a0_4).bind fun t371 => (if t371 = true then (if (l0_5.length : Int) < 1 then (tenementref08_Whole.j0 k true a0_0 a0_1 a0_2 a0_3 a0_4 l0_5) else (tenementref08_Whole.j0 k (decide ((l0_5.length : Int) > 8)) a0_0 a0_1 a0_2 a0_3 a0_4 l0_5)) else (tenementref08_Whole.j0 k true a0_0 a0_1 a0_2 a0_3 a0_4 l0_5))) = some r := h
 clear h
 have HC2 := Aside0.mk H
 clear H
 go_enter Try.func74, Try.ntmps74
 go_upto_region 1 with (first | ((with_reducible refine gate_dst (N := 1) rfl ?_); refine Ka_ 1 #[.int .u64 a0_0, .int .u64 a0_1, .int .u64 a0_2, .int .u64 a0_3, .int .i64 a0_4, .slice A0_5 l0_5.length c0_5] 55 ?_; intro gb370 hg w3 hbox hb; have BK370 := Aside0.mk (hbox); have GW370 := Kw_ HB hg; have GE370 := GW370; replace HB := Ks_ HB hb; clear hb hbox hg))
 repeat (go_quiet (first | ((with_reducible refine gate_dst (N := 1) rfl ?_); refine Ka_ 1 #[.int .u64 a0_0, .int .u64 a0_1, .int .u64 a0_2, .int .u64 a0_3, .int .i64 a0_4, .slice A0_5 l0_5.length c0_5] 55 ?_; intro gb370 hg w3 hbox hb; have BK370 := Aside0.mk (hbox); have GW370 := Kw_ HB hg; have GE370 := GW370; replace HB := Ks_ HB hb; clear hb hbox hg)); go_upto_region 1 with (first | ((with_reducible refine gate_dst (N := 1) rfl ?_); refine Ka_ 1 #[.int .u64 a0_0, .int .u64 a0_1, .int .u64 a0_2, .int .u64 a0_3, .int .i64 a0_4, .slice A0_5 l0_5.length c0_5] 55 ?_; intro gb370 hg w3 hbox hb; have BK370 := Aside0.mk (hbox); have GW370 := Kw_ HB hg; have GE370 := GW370; replace HB := Ks_ HB hb; clear hb hbox hg)))
 (try simp only [Act.put, List.setIfInBounds_toArray, List.set_cons_zero, List.set_cons_succ])
 go_cut [20] (fun v20 wc => ∃ (kq : Nat) (x20_1 : Bool), v20 = .bool x20_1 ∧ Aside0 (tenementref08_Whole.j0 kq x20_1 a0_0 a0_1 a0_2 a0_3 a0_4 l0_5 = some r) ∧ Aside0 (kq ≤ k) ∧ Aside0 (wc.heap[gb370]? = some (.cells #[.int .u64 a0_0, .int .u64 a0_1, .int .u64 a0_2, .int .u64 a0_3, .int .i64 a0_4, (.slice A0_5 l0_5.length c0_5)] 55 (0, 0))) ∧ Aside0 (Below w.heap.size w wc))
 case first =>
  have H := HC2.out
  clear HC2
  replace H := Option.bind_eq_some_iff.mp H
  obtain ⟨t371, A40, H⟩ := H
  replace H : (if t371 = true then (if (l0_5.length : Int) < 1 then (tenementref08_Whole.j0 k true a0_0 a0_1 a0_2 a0_3 a0_4 l0_5) else (tenementref08_Whole.j0 k (decide ((l0_5.length : Int) > 8)) a0_0 a0_1 a0_2 a0_3 a0_4 l0_5)) else (tenementref08_Whole.j0 k true a0_0 a0_1 a0_2 a0_3 a0_4 l0_5)) = some r := H
  have A4 := Aside0.mk A40
  clear A40
  by_cases c5 : t371 = true
  rotate_left
  ·replace c5 := Bool.eq_false_iff.mpr c5
   subst c5
   have H1 : (tenementref08_Whole.j0 k true a0_0 a0_1 a0_2 a0_3 a0_4 l0_5) = some r := by rw [if_neg (show ¬ (false = true) by decide)] at H; exact H
   clear H
   have H := H1
   clear H1
   have H' := Aside0.mk H
   clear H
   obtain ⟨hcz13_0, hcz13_1, hcz13_2, hcz13_3, hcz13_4, hcz13_5, hfz13_0, hfz13_1, hfz13_2, hfz13_3, hfz13_4, hfz13_5⟩ := Ke6_ BK370.out
   go_wp2_with (first | (go_at_call 70; (with_reducible refine (tenementref07_Right.calls k a0_0 a0_1 a0_2 a0_3 a0_4 false _ A4.out).mono ?_); rintro e w14 ⟨rfl, hb⟩; replace BK370 := Kb_ BK370 hb; replace HB := Ks_ HB hb; (try clear hb); (try clear hb2); (try clear hk); (try clear hi)))
   repeat (go_quiet (first | (go_at_call 70; (with_reducible refine (tenementref07_Right.calls k a0_0 a0_1 a0_2 a0_3 a0_4 false _ A4.out).mono ?_); rintro e w14 ⟨rfl, hb⟩; replace BK370 := Kb_ BK370 hb; replace HB := Ks_ HB hb; (try clear hb); (try clear hb2); (try clear hk); (try clear hi))); try go_wp2_with (first | (go_at_call 70; (with_reducible refine (tenementref07_Right.calls k a0_0 a0_1 a0_2 a0_3 a0_4 false _ A4.out).mono ?_); rintro e w14 ⟨rfl, hb⟩; replace BK370 := Kb_ BK370 hb; replace HB := Ks_ HB hb; (try clear hb); (try clear hb2); (try clear hk); (try clear hi))))
   go_meet
   case rel => exact ⟨_, (true), (by first | rfl | (simp; done) | (simp [*]; done)), H', ⟨by first | omega | exact Nat.le_refl _⟩, ⟨by exact Kq_ BK370⟩, ⟨Kz_ HB GE370⟩⟩
  subst c5
  have H1 : (if (l0_5.length : Int) < 1 then (tenementref08_Whole.j0 k true a0_0 a0_1 a0_2 a0_3 a0_4 l0_5) else (tenementref08_Whole.j0 k (decide ((l0_5.length : Int) > 8)) a0_0 a0_1 a0_2 a0_3 a0_4 l0_5)) = some r := by rw [if_pos rfl] at H; exact H
  clear H
  have H := H1
  clear H1
  by_cases c6 : (l0_5.length : Int) < 1
  ·rw [if_pos c6] at H
   have c6b0 : decide ((l0_5.length : Int) < 1) = true := decide_eq_true c6
   have c6b1 : decide (l0_5.length < 1) = true := decide_eq_true (by omega)
   clear c6
   (first | rw [c6b0] | (simp only [i64_w, i32_w]; rw [c6b0]) | skip)
   have H' := Aside0.mk H
   clear H
   obtain ⟨hcz7_0, hcz7_1, hcz7_2, hcz7_3, hcz7_4, hcz7_5, hfz7_0, hfz7_1, hfz7_2, hfz7_3, hfz7_4, hfz7_5⟩ := Ke6_ BK370.out
   go_wp2_with (first | (go_at_call 70; (with_reducible refine (tenementref07_Right.calls k a0_0 a0_1 a0_2 a0_3 a0_4 true _ A4.out).mono ?_); rintro e w8 ⟨rfl, hb⟩; replace BK370 := Kb_ BK370 hb; replace HB := Ks_ HB hb; (try clear hb); (try clear hb2); (try clear hk); (try clear hi); obtain ⟨hcz9_0, hcz9_1, hcz9_2, hcz9_3, hcz9_4, hcz9_5, hfz9_0, hfz9_1, hfz9_2, hfz9_3, hfz9_4, hfz9_5⟩ := Ke6_ BK370.out))
   repeat (go_quiet (first | (go_at_call 70; (with_reducible refine (tenementref07_Right.calls k a0_0 a0_1 a0_2 a0_3 a0_4 true _ A4.out).mono ?_); rintro e w8 ⟨rfl, hb⟩; replace BK370 := Kb_ BK370 hb; replace HB := Ks_ HB hb; (try clear hb); (try clear hb2); (try clear hk); (try clear hi); obtain ⟨hcz9_0, hcz9_1, hcz9_2, hcz9_3, hcz9_4, hcz9_5, hfz9_0, hfz9_1, hfz9_2, hfz9_3, hfz9_4, hfz9_5⟩ := Ke6_ BK370.out)); try go_wp2_with (first | (go_at_call 70; (with_reducible refine (tenementref07_Right.calls k a0_0 a0_1 a0_2 a0_3 a0_4 true _ A4.out).mono ?_); rintro e w8 ⟨rfl, hb⟩; replace BK370 := Kb_ BK370 hb; replace HB := Ks_ HB hb; (try clear hb); (try clear hb2); (try clear hk); (try clear hi); obtain ⟨hcz9_0, hcz9_1, hcz9_2, hcz9_3, hcz9_4, hcz9_5, hfz9_0, hfz9_1, hfz9_2, hfz9_3, hfz9_4, hfz9_5⟩ := Ke6_ BK370.out)))
   go_meet
   case rel => exact ⟨_, (true), (by first | rfl | (simp; done) | (simp [*]; done)), H', ⟨by first | omega | exact Nat.le_refl _⟩, ⟨by exact Kq_ BK370⟩, ⟨Kz_ HB GE370⟩⟩
  rw [if_neg c6] at H
  have c6b0 : decide ((l0_5.length : Int) < 1) = false := decide_eq_false c6
  have c6b1 : decide (l0_5.length < 1) = false := decide_eq_false (by omega)
  clear c6
  (first | rw [c6b0] | (simp only [i64_w, i32_w]; rw [c6b0]) | skip)
  have H' := Aside0.mk H
  clear H
  obtain ⟨hcz10_0, hcz10_1, hcz10_2, hcz10_3, hcz10_4, hcz10_5, hfz10_0, hfz10_1, hfz10_2, hfz10_3, hfz10_4, hfz10_5⟩ := Ke6_ BK370.out
  go_wp2_with (first | (go_at_call 70; (with_reducible refine (tenementref07_Right.calls k a0_0 a0_1 a0_2 a0_3 a0_4 true _ A4.out).mono ?_); rintro e w11 ⟨rfl, hb⟩; replace BK370 := Kb_ BK370 hb; replace HB := Ks_ HB hb; (try clear hb); (try clear hb2); (try clear hk); (try clear hi); obtain ⟨hcz12_0, hcz12_1, hcz12_2, hcz12_3, hcz12_4, hcz12_5, hfz12_0, hfz12_1, hfz12_2, hfz12_3, hfz12_4, hfz12_5⟩ := Ke6_ BK370.out))
  repeat (go_quiet (first | (go_at_call 70; (with_reducible refine (tenementref07_Right.calls k a0_0 a0_1 a0_2 a0_3 a0_4 true _ A4.out).mono ?_); rintro e w11 ⟨rfl, hb⟩; replace BK370 := Kb_ BK370 hb; replace HB := Ks_ HB hb; (try clear hb); (try clear hb2); (try clear hk); (try clear hi); obtain ⟨hcz12_0, hcz12_1, hcz12_2, hcz12_3, hcz12_4, hcz12_5, hfz12_0, hfz12_1, hfz12_2, hfz12_3, hfz12_4, hfz12_5⟩ := Ke6_ BK370.out)); try go_wp2_with (first | (go_at_call 70; (with_reducible refine (tenementref07_Right.calls k a0_0 a0_1 a0_2 a0_3 a0_4 true _ A4.out).mono ?_); rintro e w11 ⟨rfl, hb⟩; replace BK370 := Kb_ BK370 hb; replace HB := Ks_ HB hb; (try clear hb); (try clear hb2); (try clear hk); (try clear hi); obtain ⟨hcz12_0, hcz12_1, hcz12_2, hcz12_3, hcz12_4, hcz12_5, hfz12_0, hfz12_1, hfz12_2, hfz12_3, hfz12_4, hfz12_5⟩ := Ke6_ BK370.out)))
  go_meet
  case rel => exact ⟨_, (decide ((l0_5.length : Int) > 8)), (by first | rfl | (simp; done) | (simp [*]; done)), H', ⟨by first | omega | exact Nat.le_refl _⟩, ⟨by exact Kq_ BK370⟩, ⟨Kz_ HB GE370⟩⟩
 case rest =>
  clear HC2
  try clear p2
  try clear c5
  try clear c6
  try clear c6b0
  try clear c6b1
  try clear c7
  try clear hcz10_0
  try clear hcz10_1
  try clear hcz10_2
  try clear hcz10_3
  try clear hcz10_4
  try clear hcz10_5
  try clear hcz12_0
  try clear hcz12_1
  try clear hcz12_2
  try clear hcz12_3
  try clear hcz12_4
  try clear hcz12_5
  try clear hcz13_0
  try clear hcz13_1
  try clear hcz13_2
  try clear hcz13_3
  try clear hcz13_4
  try clear hcz13_5
  try clear hcz7_0
  try clear hcz7_1
  try clear hcz7_2
  try clear hcz7_3
  try clear hcz7_4
  try clear hcz7_5
  try clear hcz9_0
  try clear hcz9_1
  try clear hcz9_2
  try clear hcz9_3
  try clear hcz9_4
  try clear hcz9_5
  try clear hfz10_0
  try clear hfz10_1
  try clear hfz10_2
  try clear hfz10_3
  try clear hfz10_4
  try clear hfz10_5
  try clear hfz12_0
  try clear hfz12_1
  try clear hfz12_2
  try clear hfz12_3
  try clear hfz12_4
  try clear hfz12_5
  try clear hfz13_0
  try clear hfz13_1
  try clear hfz13_2
  try clear hfz13_3
  try clear hfz13_4
  try clear hfz13_5
  try clear hfz7_0
  try clear hfz7_1
  try clear hfz7_2
  try clear hfz7_3
  try clear hfz7_4
  try clear hfz7_5
  try clear hfz9_0
  try clear hfz9_1
  try clear hfz9_2
  try clear hfz9_3
  try clear hfz9_4
  try clear hfz9_5
  obtain ⟨kq, x20_1, rfl, HA, HJ1, BK370, HB⟩ := hcut
  cases kq with
  | zero => exact absurd HA.out (by simp [tenementref08_Whole.j0])
  | succ kj1 =>
   have H := HA.out
   clear HA
   simp only [tenementref08_Whole.j0] at H
   by_cases c15 : x20_1 = true
   ·subst c15
    have H1 : (some false) = some r := by rw [if_pos rfl] at H; exact H
    clear H
    have H := H1
    clear H1
    obtain rfl := Option.some.inj H
    go_wp2
    repeat (go_quiet (fail); try go_wp2)
    go_ret
    exact ⟨Kh_, Kz_ HB GE370⟩
   replace c15 := Bool.eq_false_iff.mpr c15
   subst c15
   have H1 : (tenementref08_Whole.l0 kj1 0 a0_0 a0_1 a0_2 a0_3 a0_4 l0_5) = some r := by rw [if_neg (show ¬ (false = true) by decide)] at H; exact H
   clear H
   have H := H1
   clear H1
   have H' := Aside0.mk H
   clear H
   go_wp2
   repeat (go_quiet (fail); try go_wp2)
   go_loopg [3] kj1 (fun kq v3 w' => ∃ (x3_2 : Int), v3 = .int .i64 x3_2 ∧ Aside0 (tenementref08_Whole.l0 kq x3_2 a0_0 a0_1 a0_2 a0_3 a0_4 l0_5 = some r) ∧ Aside0 (kq ≤ kj1) ∧ Aside0 (w'.heap[gb370]? = some (.cells #[.int .u64 a0_0, .int .u64 a0_1, .int .u64 a0_2, .int .u64 a0_3, .int .i64 a0_4, (.slice A0_5 l0_5.length c0_5)] 55 (0, 0))) ∧ Aside0 (Below w.heap.size w w'))
   case atStart => exact ⟨(0), (by first | rfl | (simp; done) | (simp [*]; done)), H', ⟨Nat.le_refl _⟩, ⟨by exact Kq_ BK370⟩, ⟨Kz_ HB GE370⟩⟩
   case round =>
    clear H'
    try clear c1
    try clear p2
    try clear c5
    try clear c6
    try clear c6b0
    try clear c6b1
    try clear c7
    try clear c15
    try clear hcz10_0
    try clear hcz10_1
    try clear hcz10_2
    try clear hcz10_3
    try clear hcz10_4
    try clear hcz10_5
    try clear hcz12_0
    try clear hcz12_1
    try clear hcz12_2
    try clear hcz12_3
    try clear hcz12_4
    try clear hcz12_5
    try clear hcz13_0
    try clear hcz13_1
    try clear hcz13_2
    try clear hcz13_3
    try clear hcz13_4
    try clear hcz13_5
    try clear hcz7_0
    try clear hcz7_1
    try clear hcz7_2
    try clear hcz7_3
    try clear hcz7_4
    try clear hcz7_5
    try clear hcz9_0
    try clear hcz9_1
    try clear hcz9_2
    try clear hcz9_3
    try clear hcz9_4
    try clear hcz9_5
    try clear hfz10_0
    try clear hfz10_1
    try clear hfz10_2
    try clear hfz10_3
    try clear hfz10_4
    try clear hfz10_5
    try clear hfz12_0
    try clear hfz12_1
    try clear hfz12_2
    try clear hfz12_3
    try clear hfz12_4
    try clear hfz12_5
    try clear hfz13_0
    try clear hfz13_1
    try clear hfz13_2
    try clear hfz13_3
    try clear hfz13_4
    try clear hfz13_5
    try clear hfz7_0
    try clear hfz7_1
    try clear hfz7_2
    try clear hfz7_3
    try clear hfz7_4
    try clear hfz7_5
    try clear hfz9_0
    try clear hfz9_1
    try clear hfz9_2
    try clear hfz9_3
    try clear hfz9_4
    try clear hfz9_5
    try clear p2
    obtain ⟨x3_2, rfl, HA, HK2, BK370, HB⟩ := hrel
    cases gk with
    | zero => exact absurd HA.out (by simp [tenementref08_Whole.l0])
    | succ k2 =>
     have H := HA.out
     clear HA
     simp only [tenementref08_Whole.l0] at H
     by_cases c16 : x3_2 < (l0_5.length : Int)
     rotate_left
     ·rw [if_neg c16] at H
      have c16b0 : decide (x3_2 < (l0_5.length : Int)) = false := decide_eq_false c16
      clear c16
      obtain rfl := Option.some.inj H
      obtain ⟨hcz34_0, hcz34_1, hcz34_2, hcz34_3, hcz34_4, hcz34_5, hfz34_0, hfz34_1, hfz34_2, hfz34_3, hfz34_4, hfz34_5⟩ := Ke6_ BK370.out
      go_wp2
      repeat (go_quiet (fail); try go_wp2)
      go_ret
      exact ⟨Kh_, Kz_ HB GE370⟩
     rw [if_pos c16] at H
     have c16b0 : decide (x3_2 < (l0_5.length : Int)) = true := decide_eq_true c16
     clear c16
     by_cases c17 : 0 ≤ x3_2
     rotate_left
     ·rw [if_neg c17] at H
      exact absurd H (by simp)
     rw [if_pos c17] at H
     have c17b0 : decide (0 ≤ x3_2) = true := decide_eq_true c17
     clear c17
     replace H := Option.bind_eq_some_iff.mp H
     obtain ⟨t373, A180, H⟩ := H
     replace H : (if t373 = true then (tenementref08_Whole.l1 k2 x3_2 0 a0_0 a0_1 a0_2 a0_3 a0_4 l0_5) else (some false)) = some r := H
     have A18 := Aside0.mk A180
     clear A180
     by_cases c19 : t373 = true
     rotate_left
     ·replace c19 := Bool.eq_false_iff.mpr c19
      subst c19
      have H1 : (some false) = some r := by rw [if_neg (show ¬ (false = true) by decide)] at H; exact H
      clear H
      have H := H1
      clear H1
      obtain rfl := Option.some.inj H
      obtain ⟨hcz32_0, hcz32_1, hcz32_2, hcz32_3, hcz32_4, hcz32_5, hfz32_0, hfz32_1, hfz32_2, hfz32_3, hfz32_4, hfz32_5⟩ := Ke6_ BK370.out
      have p372 : 0 ≤ (x3_2 : Int) := of_decide_eq_true (by first | (with_reducible assumption) | assumption)
      have q372 : x3_2 < (l0_5.length : Int) := of_decide_eq_true (by first | (with_reducible assumption) | assumption)
      obtain ⟨ad372, e372, hx372_0, hx372_1, hx372_2, hx372_3⟩ := at_T117 HR0_5.out x3_2 p372 q372
      cases e372
      replace hx372_0 := (HB.out.cell (World.block_lt_of_cell? w _ hx372_0)).trans hx372_0
      replace hx372_1 := (HB.out.cell (World.block_lt_of_cell? w _ hx372_1)).trans hx372_1
      replace hx372_2 := (HB.out.cell (World.block_lt_of_cell? w _ hx372_2)).trans hx372_2
      replace hx372_3 := (HB.out.cell (World.block_lt_of_cell? w _ hx372_3)).trans hx372_3
      replace p372 := eq_true p372
      replace q372 := eq_true q372
      go_wp2_with (first | (go_at_call 97; (with_reducible refine (tenementref08_Right.calls ((rd_T117 l0_5 x3_2).f0) ((rd_T117 l0_5 x3_2).f1) ((rd_T117 l0_5 x3_2).f2) ((rd_T117 l0_5 x3_2).f3) false _ A18.out).mono ?_); rintro e w33 ⟨rfl, hb⟩; replace BK370 := Kb_ BK370 hb; replace HB := Ks_ HB hb; (try clear hb); (try clear hb2); (try clear hk); (try clear hi)))
      repeat (go_quiet (first | (go_at_call 97; (with_reducible refine (tenementref08_Right.calls ((rd_T117 l0_5 x3_2).f0) ((rd_T117 l0_5 x3_2).f1) ((rd_T117 l0_5 x3_2).f2) ((rd_T117 l0_5 x3_2).f3) false _ A18.out).mono ?_); rintro e w33 ⟨rfl, hb⟩; replace BK370 := Kb_ BK370 hb; replace HB := Ks_ HB hb; (try clear hb); (try clear hb2); (try clear hk); (try clear hi))); try go_wp2_with (first | (go_at_call 97; (with_reducible refine (tenementref08_Right.calls ((rd_T117 l0_5 x3_2).f0) ((rd_T117 l0_5 x3_2).f1) ((rd_T117 l0_5 x3_2).f2) ((rd_T117 l0_5 x3_2).f3) false _ A18.out).mono ?_); rintro e w33 ⟨rfl, hb⟩; replace BK370 := Kb_ BK370 hb; replace HB := Ks_ HB hb; (try clear hb); (try clear hb2); (try clear hk); (try clear hi))))
      go_ret
      exact ⟨Kh_, Kz_ HB GE370⟩
     subst c19
     have H1 : (tenementref08_Whole.l1 k2 x3_2 0 a0_0 a0_1 a0_2 a0_3 a0_4 l0_5) = some r := by rw [if_pos rfl] at H; exact H
     clear H
     have H := H1
     clear H1
     have H' := Aside0.mk H
     clear H
     obtain ⟨hcz20_0, hcz20_1, hcz20_2, hcz20_3, hcz20_4, hcz20_5, hfz20_0, hfz20_1, hfz20_2, hfz20_3, hfz20_4, hfz20_5⟩ := Ke6_ BK370.out
     have p372 : 0 ≤ (x3_2 : Int) := of_decide_eq_true (by first | (with_reducible assumption) | assumption)
     have q372 : x3_2 < (l0_5.length : Int) := of_decide_eq_true (by first | (with_reducible assumption) | assumption)
     obtain ⟨ad372, e372, hx372_0, hx372_1, hx372_2, hx372_3⟩ := at_T117 HR0_5.out x3_2 p372 q372
     cases e372
     replace hx372_0 := (HB.out.cell (World.block_lt_of_cell? w _ hx372_0)).trans hx372_0
     replace hx372_1 := (HB.out.cell (World.block_lt_of_cell? w _ hx372_1)).trans hx372_1
     replace hx372_2 := (HB.out.cell (World.block_lt_of_cell? w _ hx372_2)).trans hx372_2
     replace hx372_3 := (HB.out.cell (World.block_lt_of_cell? w _ hx372_3)).trans hx372_3
     replace p372 := eq_true p372
     replace q372 := eq_true q372
     go_wp2_with (first | (go_at_call 97; (with_reducible refine (tenementref08_Right.calls ((rd_T117 l0_5 x3_2).f0) ((rd_T117 l0_5 x3_2).f1) ((rd_T117 l0_5 x3_2).f2) ((rd_T117 l0_5 x3_2).f3) true _ A18.out).mono ?_); rintro e w21 ⟨rfl, hb⟩; replace BK370 := Kb_ BK370 hb; replace HB := Ks_ HB hb; (try clear hb); (try clear hb2); (try clear hk); (try clear hi)))
     repeat (go_quiet (first | (go_at_call 97; (with_reducible refine (tenementref08_Right.calls ((rd_T117 l0_5 x3_2).f0) ((rd_T117 l0_5 x3_2).f1) ((rd_T117 l0_5 x3_2).f2) ((rd_T117 l0_5 x3_2).f3) true _ A18.out).mono ?_); rintro e w21 ⟨rfl, hb⟩; replace BK370 := Kb_ BK370 hb; replace HB := Ks_ HB hb; (try clear hb); (try clear hb2); (try clear hk); (try clear hi))); try go_wp2_with (first | (go_at_call 97; (with_reducible refine (tenementref08_Right.calls ((rd_T117 l0_5 x3_2).f0) ((rd_T117 l0_5 x3_2).f1) ((rd_T117 l0_5 x3_2).f2) ((rd_T117 l0_5 x3_2).f3) true _ A18.out).mono ?_); rintro e w21 ⟨rfl, hb⟩; replace BK370 := Kb_ BK370 hb; replace HB := Ks_ HB hb; (try clear hb); (try clear hb2); (try clear hk); (try clear hi))))
     go_loopg [4] k2 (fun kq v4 w' => ∃ (x4_3 : Int), v4 = .int .i64 x4_3 ∧ Aside0 (tenementref08_Whole.l1 kq x3_2 x4_3 a0_0 a0_1 a0_2 a0_3 a0_4 l0_5 = some r) ∧ Aside0 (kq ≤ k2) ∧ Aside0 (w'.heap[gb370]? = some (.cells #[.int .u64 a0_0, .int .u64 a0_1, .int .u64 a0_2, .int .u64 a0_3, .int .i64 a0_4, (.slice (some ad372) l0_5.length c0_5)] 55 (0, 0))) ∧ Aside0 (Below w.heap.size w w'))
     case atStart => exact ⟨(0), (by first | rfl | (simp; done) | (simp [*]; done)), H', ⟨Nat.le_refl _⟩, ⟨by exact Kq_ BK370⟩, ⟨Kz_ HB GE370⟩⟩
     case round =>
      clear H'
      try clear c1
      try clear p2
      try clear p3
      try clear q3
      try clear hx3
      try clear c5
      try clear c6
      try clear c6b0
      try clear c6b1
      try clear c7
      try clear c15
      try clear c16
      try clear c16b0
      try clear c17
      try clear c17b0
      try clear c19
      try clear hcz10_0
      try clear hcz10_1
      try clear hcz10_2
      try clear hcz10_3
      try clear hcz10_4
      try clear hcz10_5
      try clear hcz12_0
      try clear hcz12_1
      try clear hcz12_2
      try clear hcz12_3
      try clear hcz12_4
      try clear hcz12_5
      try clear hcz13_0
      try clear hcz13_1
      try clear hcz13_2
      try clear hcz13_3
      try clear hcz13_4
      try clear hcz13_5
      try clear hcz20_0
      try clear hcz20_1
      try clear hcz20_2
      try clear hcz20_3
      try clear hcz20_4
      try clear hcz20_5
      try clear hcz7_0
      try clear hcz7_1
      try clear hcz7_2
      try clear hcz7_3
      try clear hcz7_4
      try clear hcz7_5
      try clear hcz9_0
      try clear hcz9_1
      try clear hcz9_2
      try clear hcz9_3
      try clear hcz9_4
      try clear hcz9_5
      try clear hfz10_0
      try clear hfz10_1
      try clear hfz10_2
      try clear hfz10_3
      try clear hfz10_4
      try clear hfz10_5
      try clear hfz12_0
      try clear hfz12_1
      try clear hfz12_2
      try clear hfz12_3
      try clear hfz12_4
      try clear hfz12_5
      try clear hfz13_0
      try clear hfz13_1
      try clear hfz13_2
      try clear hfz13_3
      try clear hfz13_4
      try clear hfz13_5
      try clear hfz20_0
      try clear hfz20_1
      try clear hfz20_2
      try clear hfz20_3
      try clear hfz20_4
      try clear hfz20_5
      try clear hfz7_0
      try clear hfz7_1
      try clear hfz7_2
      try clear hfz7_3
      try clear hfz7_4
      try clear hfz7_5
      try clear hfz9_0
      try clear hfz9_1
      try clear hfz9_2
      try clear hfz9_3
      try clear hfz9_4
      try clear hfz9_5
      try clear hx372_0
      try clear hx372_1
      try clear hx372_2
      try clear hx372_3
      try clear p2
      try clear p372
      try clear q372
      obtain ⟨x4_3, rfl, HA, HK3, BK370, HB⟩ := hrel
      cases gk with
      | zero => exact absurd HA.out (by simp [tenementref08_Whole.l1])
      | succ k3 =>
       have H := HA.out
       clear HA
       simp only [tenementref08_Whole.l1] at H
       by_cases c22 : x4_3 < x3_2
       rotate_left
       ·rw [if_neg c22] at H
        have c22b0 : decide (x4_3 < x3_2) = false := decide_eq_false c22
        clear c22
        have H' := Aside0.mk H
        clear H
        go_wp2
        repeat (go_quiet (fail); try go_wp2)
        go_roundg k3
        case measure => have := HJ1.out; have := HK2.out; have := HK3.out; omega
        case rel => exact ⟨(wrap64 (x3_2 + 1)), (by first | rfl | (simp; done) | (simp [*]; done)), H', ⟨by have := HJ1.out; have := HK2.out; have := HK3.out; omega⟩, ⟨by exact Kq_ BK370⟩, ⟨Kz_ HB GE370⟩⟩
       rw [if_pos c22] at H
       have c22b0 : decide (x4_3 < x3_2) = true := decide_eq_true c22
       clear c22
       by_cases c23 : 0 ≤ x4_3
       rotate_left
       ·rw [if_neg c23] at H
        exact absurd H (by simp)
       rw [if_pos c23] at H
       have c23b0 : decide (0 ≤ x4_3) = true := decide_eq_true c23
       clear c23
       by_cases c24 : x4_3 < (l0_5.length : Int)
       rotate_left
       ·rw [if_neg c24] at H
        exact absurd H (by simp)
       rw [if_pos c24] at H
       have c24b0 : decide (x4_3 < (l0_5.length : Int)) = true := decide_eq_true c24
       clear c24
       by_cases c25 : 0 ≤ x3_2
       rotate_left
       ·rw [if_neg c25] at H
        exact absurd H (by simp)
       rw [if_pos c25] at H
       have c25b0 : decide (0 ≤ x3_2) = true := decide_eq_true c25
       clear c25
       by_cases c26 : x3_2 < (l0_5.length : Int)
       rotate_left
       ·rw [if_neg c26] at H
        exact absurd H (by simp)
       rw [if_pos c26] at H
       have c26b0 : decide (x3_2 < (l0_5.length : Int)) = true := decide_eq_true c26
       clear c26
       by_cases c27 : ((rd_T117 l0_5 x4_3).f0).toList = ((rd_T117 l0_5 x3_2).f0).toList
       rotate_left
       ·rw [if_neg c27] at H
        have c27b0 : (((rd_T117 l0_5 x4_3).f0).toList == ((rd_T117 l0_5 x3_2).f0).toList) = false := beq_eq_false_iff_ne.mpr c27
        have c27b1 : (((rd_T117 l0_5 x4_3).f0).toList != ((rd_T117 l0_5 x3_2).f0).toList) = true := bne_iff_ne.mpr c27
        have H' := Aside0.mk H
        clear H
        obtain ⟨hcz31_0, hcz31_1, hcz31_2, hcz31_3, hcz31_4, hcz31_5, hfz31_0, hfz31_1, hfz31_2, hfz31_3, hfz31_4, hfz31_5⟩ := Ke6_ BK370.out
        have p374 : 0 ≤ (x4_3 : Int) := of_decide_eq_true (by first | (with_reducible assumption) | assumption)
        have q374 : x4_3 < (l0_5.length : Int) := of_decide_eq_true (by first | (with_reducible assumption) | assumption)
        obtain ⟨ad374, e374, hx374_0, hx374_1, hx374_2, hx374_3⟩ := at_T117 HR0_5.out x4_3 p374 q374
        obtain rfl : ad372 = ad374 := (by injection e374)
        replace hx374_0 := (HB.out.cell (World.block_lt_of_cell? w _ hx374_0)).trans hx374_0
        replace hx374_1 := (HB.out.cell (World.block_lt_of_cell? w _ hx374_1)).trans hx374_1
        replace hx374_2 := (HB.out.cell (World.block_lt_of_cell? w _ hx374_2)).trans hx374_2
        replace hx374_3 := (HB.out.cell (World.block_lt_of_cell? w _ hx374_3)).trans hx374_3
        replace p374 := eq_true p374
        replace q374 := eq_true q374
        have p375 : 0 ≤ (x3_2 : Int) := of_decide_eq_true (by first | (with_reducible assumption) | assumption)
        have q375 : x3_2 < (l0_5.length : Int) := of_decide_eq_true (by first | (with_reducible assumption) | assumption)
        obtain ⟨ad375, e375, hx375_0, hx375_1, hx375_2, hx375_3⟩ := at_T117 HR0_5.out x3_2 p375 q375
        obtain rfl : ad372 = ad375 := (by injection e375)
        replace hx375_0 := (HB.out.cell (World.block_lt_of_cell? w _ hx375_0)).trans hx375_0
        replace hx375_1 := (HB.out.cell (World.block_lt_of_cell? w _ hx375_1)).trans hx375_1
        replace hx375_2 := (HB.out.cell (World.block_lt_of_cell? w _ hx375_2)).trans hx375_2
        replace hx375_3 := (HB.out.cell (World.block_lt_of_cell? w _ hx375_3)).trans hx375_3
        replace p375 := eq_true p375
        replace q375 := eq_true q375
        go_wp2
        repeat (go_quiet (fail); try go_wp2)
        go_roundg k3
        case measure => have := HJ1.out; have := HK2.out; have := HK3.out; omega
        case rel => exact ⟨(wrap64 (x4_3 + 1)), (by first | rfl | (simp; done) | (simp [*]; done)), H', ⟨by have := HJ1.out; have := HK2.out; have := HK3.out; omega⟩, ⟨by exact Kq_ BK370⟩, ⟨Kz_ HB GE370⟩⟩
       rw [if_pos c27] at H
       have c27b0 : (((rd_T117 l0_5 x4_3).f0).toList == ((rd_T117 l0_5 x3_2).f0).toList) = true := beq_iff_eq.mpr c27
       have c27b1 : (((rd_T117 l0_5 x4_3).f0).toList != ((rd_T117 l0_5 x3_2).f0).toList) = false := bne_eq_false_iff_eq.mpr c27
       clear c27
       by_cases c28 : ((rd_T117 l0_5 x4_3).f1).toList = ((rd_T117 l0_5 x3_2).f1).toList
       ·rw [if_pos c28] at H
        have c28b0 : (((rd_T117 l0_5 x4_3).f1).toList == ((rd_T117 l0_5 x3_2).f1).toList) = true := beq_iff_eq.mpr c28
        have c28b1 : (((rd_T117 l0_5 x4_3).f1).toList != ((rd_T117 l0_5 x3_2).f1).toList) = false := bne_eq_false_iff_eq.mpr c28
        clear c28
        obtain rfl := Option.some.inj H
        obtain ⟨hcz29_0, hcz29_1, hcz29_2, hcz29_3, hcz29_4, hcz29_5, hfz29_0, hfz29_1, hfz29_2, hfz29_3, hfz29_4, hfz29_5⟩ := Ke6_ BK370.out
        have p374 : 0 ≤ (x4_3 : Int) := of_decide_eq_true (by first | (with_reducible assumption) | assumption)
        have q374 : x4_3 < (l0_5.length : Int) := of_decide_eq_true (by first | (with_reducible assumption) | assumption)
        obtain ⟨ad374, e374, hx374_0, hx374_1, hx374_2, hx374_3⟩ := at_T117 HR0_5.out x4_3 p374 q374
        obtain rfl : ad372 = ad374 := (by injection e374)
        replace hx374_0 := (HB.out.cell (World.block_lt_of_cell? w _ hx374_0)).trans hx374_0
        replace hx374_1 := (HB.out.cell (World.block_lt_of_cell? w _ hx374_1)).trans hx374_1
        replace hx374_2 := (HB.out.cell (World.block_lt_of_cell? w _ hx374_2)).trans hx374_2
        replace hx374_3 := (HB.out.cell (World.block_lt_of_cell? w _ hx374_3)).trans hx374_3
        replace p374 := eq_true p374
        replace q374 := eq_true q374
        have p375 : 0 ≤ (x3_2 : Int) := of_decide_eq_true (by first | (with_reducible assumption) | assumption)
        have q375 : x3_2 < (l0_5.length : Int) := of_decide_eq_true (by first | (with_reducible assumption) | assumption)
        obtain ⟨ad375, e375, hx375_0, hx375_1, hx375_2, hx375_3⟩ := at_T117 HR0_5.out x3_2 p375 q375
        obtain rfl : ad372 = ad375 := (by injection e375)
        replace hx375_0 := (HB.out.cell (World.block_lt_of_cell? w _ hx375_0)).trans hx375_0
        replace hx375_1 := (HB.out.cell (World.block_lt_of_cell? w _ hx375_1)).trans hx375_1
        replace hx375_2 := (HB.out.cell (World.block_lt_of_cell? w _ hx375_2)).trans hx375_2
        replace hx375_3 := (HB.out.cell (World.block_lt_of_cell? w _ hx375_3)).trans hx375_3
        replace p375 := eq_true p375
        replace q375 := eq_true q375
        have p376 : 0 ≤ (x4_3 : Int) := of_decide_eq_true (by first | (with_reducible assumption) | assumption)
        have q376 : x4_3 < (l0_5.length : Int) := of_decide_eq_true (by first | (with_reducible assumption) | assumption)
        obtain ⟨ad376, e376, hx376_0, hx376_1, hx376_2, hx376_3⟩ := at_T117 HR0_5.out x4_3 p376 q376
        obtain rfl : ad372 = ad376 := (by injection e376)
        replace hx376_0 := (HB.out.cell (World.block_lt_of_cell? w _ hx376_0)).trans hx376_0
        replace hx376_1 := (HB.out.cell (World.block_lt_of_cell? w _ hx376_1)).trans hx376_1
        replace hx376_2 := (HB.out.cell (World.block_lt_of_cell? w _ hx376_2)).trans hx376_2
        replace hx376_3 := (HB.out.cell (World.block_lt_of_cell? w _ hx376_3)).trans hx376_3
        replace p376 := eq_true p376
        replace q376 := eq_true q376
        have p377 : 0 ≤ (x3_2 : Int) := of_decide_eq_true (by first | (with_reducible assumption) | assumption)
        have q377 : x3_2 < (l0_5.length : Int) := of_decide_eq_true (by first | (with_reducible assumption) | assumption)
        obtain ⟨ad377, e377, hx377_0, hx377_1, hx377_2, hx377_3⟩ := at_T117 HR0_5.out x3_2 p377 q377
        obtain rfl : ad372 = ad377 := (by injection e377)
        replace hx377_0 := (HB.out.cell (World.block_lt_of_cell? w _ hx377_0)).trans hx377_0
        replace hx377_1 := (HB.out.cell (World.block_lt_of_cell? w _ hx377_1)).trans hx377_1
        replace hx377_2 := (HB.out.cell (World.block_lt_of_cell? w _ hx377_2)).trans hx377_2
        replace hx377_3 := (HB.out.cell (World.block_lt_of_cell? w _ hx377_3)).trans hx377_3
        replace p377 := eq_true p377
        replace q377 := eq_true q377
        go_wp2
        repeat (go_quiet (fail); try go_wp2)
        go_ret
        exact ⟨Kh_, Kz_ HB GE370⟩
       rw [if_neg c28] at H
       have c28b0 : (((rd_T117 l0_5 x4_3).f1).toList == ((rd_T117 l0_5 x3_2).f1).toList) = false := beq_eq_false_iff_ne.mpr c28
       have c28b1 : (((rd_T117 l0_5 x4_3).f1).toList != ((rd_T117 l0_5 x3_2).f1).toList) = true := bne_iff_ne.mpr c28
       have H' := Aside0.mk H
       clear H
       obtain ⟨hcz30_0, hcz30_1, hcz30_2, hcz30_3, hcz30_4, hcz30_5, hfz30_0, hfz30_1, hfz30_2, hfz30_3, hfz30_4, hfz30_5⟩ := Ke6_ BK370.out
       have p374 : 0 ≤ (x4_3 : Int) := of_decide_eq_true (by first | (with_reducible assumption) | assumption)
       have q374 : x4_3 < (l0_5.length : Int) := of_decide_eq_true (by first | (with_reducible assumption) | assumption)
       obtain ⟨ad374, e374, hx374_0, hx374_1, hx374_2, hx374_3⟩ := at_T117 HR0_5.out x4_3 p374 q374
       obtain rfl : ad372 = ad374 := (by injection e374)
       replace hx374_0 := (HB.out.cell (World.block_lt_of_cell? w _ hx374_0)).trans hx374_0
       replace hx374_1 := (HB.out.cell (World.block_lt_of_cell? w _ hx374_1)).trans hx374_1
       replace hx374_2 := (HB.out.cell (World.block_lt_of_cell? w _ hx374_2)).trans hx374_2
       replace hx374_3 := (HB.out.cell (World.block_lt_of_cell? w _ hx374_3)).trans hx374_3
       replace p374 := eq_true p374
       replace q374 := eq_true q374
       have p375 : 0 ≤ (x3_2 : Int) := of_decide_eq_true (by first | (with_reducible assumption) | assumption)
       have q375 : x3_2 < (l0_5.length : Int) := of_decide_eq_true (by first | (with_reducible assumption) | assumption)
       obtain ⟨ad375, e375, hx375_0, hx375_1, hx375_2, hx375_3⟩ := at_T117 HR0_5.out x3_2 p375 q375
       obtain rfl : ad372 = ad375 := (by injection e375)
       replace hx375_0 := (HB.out.cell (World.block_lt_of_cell? w _ hx375_0)).trans hx375_0
       replace hx375_1 := (HB.out.cell (World.block_lt_of_cell? w _ hx375_1)).trans hx375_1
       replace hx375_2 := (HB.out.cell (World.block_lt_of_cell? w _ hx375_2)).trans hx375_2
       replace hx375_3 := (HB.out.cell (World.block_lt_of_cell? w _ hx375_3)).trans hx375_3
       replace p375 := eq_true p375
       replace q375 := eq_true q375
       have p376 : 0 ≤ (x4_3 : Int) := of_decide_eq_true (by first | (with_reducible assumption) | assumption)
       have q376 : x4_3 < (l0_5.length : Int) := of_decide_eq_true (by first | (with_reducible assumption) | assumption)
       obtain ⟨ad376, e376, hx376_0, hx376_1, hx376_2, hx376_3⟩ := at_T117 HR0_5.out x4_3 p376 q376
       obtain rfl : ad372 = ad376 := (by injection e376)
       replace hx376_0 := (HB.out.cell (World.block_lt_of_cell? w _ hx376_0)).trans hx376_0
       replace hx376_1 := (HB.out.cell (World.block_lt_of_cell? w _ hx376_1)).trans hx376_1
       replace hx376_2 := (HB.out.cell (World.block_lt_of_cell? w _ hx376_2)).trans hx376_2
       replace hx376_3 := (HB.out.cell (World.block_lt_of_cell? w _ hx376_3)).trans hx376_3
       replace p376 := eq_true p376
       replace q376 := eq_true q376
       have p377 : 0 ≤ (x3_2 : Int) := of_decide_eq_true (by first | (with_reducible assumption) | assumption)
       have q377 : x3_2 < (l0_5.length : Int) := of_decide_eq_true (by first | (with_reducible assumption) | assumption)
       obtain ⟨ad377, e377, hx377_0, hx377_1, hx377_2, hx377_3⟩ := at_T117 HR0_5.out x3_2 p377 q377
       obtain rfl : ad372 = ad377 := (by injection e377)
       replace hx377_0 := (HB.out.cell (World.block_lt_of_cell? w _ hx377_0)).trans hx377_0
       replace hx377_1 := (HB.out.cell (World.block_lt_of_cell? w _ hx377_1)).trans hx377_1
       replace hx377_2 := (HB.out.cell (World.block_lt_of_cell? w _ hx377_2)).trans hx377_2
       replace hx377_3 := (HB.out.cell (World.block_lt_of_cell? w _ hx377_3)).trans hx377_3
       replace p377 := eq_true p377
       replace q377 := eq_true q377
       go_wp2
       repeat (go_quiet (fail); try go_wp2)
       go_roundg k3
       case measure => have := HJ1.out; have := HK2.out; have := HK3.out; omega
       case rel => exact ⟨(wrap64 (x4_3 + 1)), (by first | rfl | (simp; done) | (simp [*]; done)), H', ⟨by have := HJ1.out; have := HK2.out; have := HK3.out; omega⟩, ⟨by exact Kq_ BK370⟩, ⟨Kz_ HB GE370⟩⟩
def tenementref08_Bytes.l0 : Nat → ByteArray → Int → Int → Int → Int → Int → Int → List (S117) → Option (ByteArray × Bool)
 | 0, _, _, _, _, _, _, _, _ => none
 | k + 1, x4, x6, x112, x113, x114, x115, x116, x107 => if x6 < (x107.length : Int) then (if 0 ≤ x6 then ((tenementref02_Text.f k ((rd_T117 x107 x6).f0)).bind fun t407 => (if x4.size + t407.size ≤ 9223372036854775807 then ((tenementref02_Text.f k ((rd_T117 x107 x6).f1)).bind fun t408 => (if (x4 ++ t407).size + t408.size ≤ 9223372036854775807 then (if (rd_T117 x107 x6).f3 = true then (if ((x4 ++ t407) ++ t408).size + 1 ≤ 9223372036854775807 then (tenementref08_Bytes.l0 k (((x4 ++ t407) ++ t408) ++ (⟨#[1]⟩ : ByteArray)) (wrap64 (x6 + 1)) x112 x113 x114 x115 x116 x107) else (none)) else (if ((x4 ++ t407) ++ t408).size + 1 ≤ 9223372036854775807 then ((tenementref02_Text.f k ((rd_T117 x107 x6).f2)).bind fun t409 => (if (((x4 ++ t407) ++ t408) ++ (⟨#[0]⟩ : ByteArray)).size + t409.size ≤ 9223372036854775807 then (tenementref08_Bytes.l0 k ((((x4 ++ t407) ++ t408) ++ (⟨#[0]⟩ : ByteArray)) ++ t409) (wrap64 (x6 + 1)) x112 x113 x114 x115 x116 x107) else (none))) else (none))) else (none))) else (none))) else (none)) else (some (x4, true))
def tenementref08_Bytes.f (k : Nat) (a0_0 : Int) (a0_1 : Int) (a0_2 : Int) (a0_3 : Int) (a0_4 : Int) (l0_5 : List (S117)) : Option (ByteArray × Bool) := (tenementref08_Whole.f k a0_0 a0_1 a0_2 a0_3 a0_4 l0_5).bind fun t401 => (if t401 = true then ((tenementref07_Put.f k a0_0 a0_1 a0_2 a0_3 a0_4).bind fun bt402 => ((tenementref02_Number.f k (IntKind.u64.wrap ((l0_5.length : Int))) 1).bind fun t404 => (if bt402.1.size + t404.size ≤ 9223372036854775807 then (tenementref08_Bytes.l0 k (bt402.1 ++ t404) 0 a0_0 a0_1 a0_2 a0_3 a0_4 l0_5) else (none)))) else (some ((⟨#[]⟩ : ByteArray), false)))
def tenementref08_Bytes.T9 : Bool × List (List Nat × List Nat) := (true, [([], []), ([], []), ([1], [1]), ([2], [2]), ([0, 3], [0, 3]), ([], []), ([5], [5]), ([6, 3], [6]), ([4, 7], [4, 7]), ([8, 7, 0, 1, 2, 3, 4, 5, 6, 7, 8], [0, 8])])
def tenementref08_Bytes.B9 : List Nat := [0, 0, 2, 6, 15, 0, 32, 110, 255, 511]
theorem tenementref08_Bytes.tab9 : rtab .any (opsOf Try.f66 9) = tenementref08_Bytes.T9 := by kernel_rfl
theorem tenementref08_Bytes.bits9 : waitsOk tenementref08_Bytes.T9.2 tenementref08_Bytes.B9 = true := by kernel_rfl
set_option maxHeartbeats 8000000 in
set_option maxRecDepth 100000 in
theorem tenementref08_Bytes.calls (k : Nat) (a0_0 : Int) (a0_1 : Int) (a0_2 : Int) (a0_3 : Int) (a0_4 : Int) (A0_5 : Option Addr) (c0_5 : Nat) (l0_5 : List (S117)) (r1 : ByteArray) (r2 : Bool) (w : World) (hr0_5 : Kd.C k117 w A0_5 l0_5.length l0_5) (hc0_5 : l0_5.length ≤ c0_5) (h : tenementref08_Bytes.f k a0_0 a0_1 a0_2 a0_3 a0_4 l0_5 = some (r1, r2)) :
  Calls Try.prog 66 #[.agg #[.int .u64 a0_0, .int .u64 a0_1, .int .u64 a0_2, .int .u64 a0_3, .int .i64 a0_4, .slice A0_5 l0_5.length c0_5]] w fun e w' => e = .returned (.tuple #[.string r1, .bool r2]) ∧ Below w.heap.size w w' := by
 have hu55 := Try.underlying55
 have hu52 := Try.underlying52
 have hu117 := Try.underlying117
 have HR0_5 := Aside0.mk hr0_5
 have HC0_5 := Aside0.mk hc0_5
 clear hr0_5 hc0_5
 have HB := Aside0.mk (Below.refl w.heap.size w)
 have H : ((tenementref08_Whole.f k a0_0 a0_1 a0_2 a0_3 a0_4 l0_5).bind fun t401 => (if t401 = true then ((tenementref07_Put.f k a0_0 a0_1 a0_2 a0_3 a0_4).bind fun bt402 => ((tenementref02_Number.f k (IntKind.u64.wrap ((l0_5.length : Int))) 1).bind fun t404 => (if bt402.1.size + t404.size ≤ 9223372036854775807 then (tenementref08_Bytes.l0 k (bt402.1 ++ t404) 0 a0_0 a0_1 a0_2 a0_3 a0_4 l0_5) else (none)))) else (some ((⟨#[]⟩ : ByteArray), false)))) = some (r1, r2) := h
 (try (have Hs_ := H; simp only [ByteArray.size_append, Int.natCast_add] at Hs_))
 clear h
 replace H := Option.bind_eq_some_iff.mp H
 obtain ⟨t401, A20, H⟩ := H
 replace H : (if t401 = true then ((tenementref07_Put.f k a0_0 a0_1 a0_2 a0_3 a0_4).bind fun bt402 => ((tenementref02_Number.f k (IntKind.u64.wrap ((l0_5.length : Int))) 1).bind fun t404 => (if bt402.1.size + t404.size ≤ 9223372036854775807 then (tenementref08_Bytes.l0 k (bt402.1 ++ t404) 0 a0_0 a0_1 a0_2 a0_3 a0_4 l0_5) else (none)))) else (some ((⟨#[]⟩ : ByteArray), false))) = some (r1, r2) := H
 have A2 := Aside0.mk A20
 clear A20
 by_cases c3 : t401 = true
 rotate_left
 ·replace c3 := Bool.eq_false_iff.mpr c3
  subst c3
  have H1 : (some ((⟨#[]⟩ : ByteArray), false)) = some (r1, r2) := by rw [if_neg (show ¬ (false = true) by decide)] at H; exact H
  clear H
  have H := H1
  clear H1
  simp only [Option.some.injEq, Prod.mk.injEq] at H
  obtain ⟨rfl, rfl⟩ := H
  go_enter Try.func66, Try.ntmps66
  go_wp2_with (first | ((with_reducible refine gate_dst (N := 1) rfl ?_); refine Ka_ 1 #[.int .u64 a0_0, .int .u64 a0_1, .int .u64 a0_2, .int .u64 a0_3, .int .i64 a0_4, .slice A0_5 l0_5.length c0_5] 55 ?_; intro gb400 hg w46 hbox hb; have BK400 := Aside0.mk (hbox); have GW400 := Kw_ HB hg; have GE400 := GW400; replace HB := Ks_ HB hb; clear hb hbox hg; obtain ⟨hcz47_0, hcz47_1, hcz47_2, hcz47_3, hcz47_4, hcz47_5, hfz47_0, hfz47_1, hfz47_2, hfz47_3, hfz47_4, hfz47_5⟩ := Ke6_ BK400.out) | ((with_reducible refine gate_callee (f := 74) rfl ?_); refine Kg_ (some 9) rfl rfl Try.func74 (by kernel_rfl) rfl #[.agg #[.int .u64 a0_0, .int .u64 a0_1, .int .u64 a0_2, .int .u64 a0_3, .int .i64 a0_4, .slice A0_5 l0_5.length c0_5]] rfl ?_; (with_reducible refine (tenementref08_Whole.calls k a0_0 a0_1 a0_2 a0_3 a0_4 _ _ l0_5 false _ ?side1 ?side2 A2.out).mono ?_); (case side1 => repeat (first | exact (Kd.C_below HR0_5.out HB.out) | (with_reducible refine Kd.C_alloc ?_ _) | (with_reducible refine Kd.C_drewN ?_ _) | (with_reducible refine Kd.C_drew ?_))); (case side2 => exact HC0_5.out); rintro e w48 ⟨rfl, hb⟩; refine ⟨_, rfl, ?_⟩; replace BK400 := Kb_ BK400 hb; replace HB := Ks_ HB hb; (try clear hb); (try clear hb2); (try clear hk); (try clear hi)))
  go_ret2
  exact ⟨Kh_, Kz_ HB GE400⟩
 subst c3
 have H1 : ((tenementref07_Put.f k a0_0 a0_1 a0_2 a0_3 a0_4).bind fun bt402 => ((tenementref02_Number.f k (IntKind.u64.wrap ((l0_5.length : Int))) 1).bind fun t404 => (if bt402.1.size + t404.size ≤ 9223372036854775807 then (tenementref08_Bytes.l0 k (bt402.1 ++ t404) 0 a0_0 a0_1 a0_2 a0_3 a0_4 l0_5) else (none)))) = some (r1, r2) := by rw [if_pos rfl] at H; exact H
 clear H
 have H := H1
 clear H1
 replace H := Option.bind_eq_some_iff.mp H
 obtain ⟨⟨t402, t403⟩, A40, H⟩ := H
 replace H : ((tenementref02_Number.f k (IntKind.u64.wrap ((l0_5.length : Int))) 1).bind fun t404 => (if t402.size + t404.size ≤ 9223372036854775807 then (tenementref08_Bytes.l0 k (t402 ++ t404) 0 a0_0 a0_1 a0_2 a0_3 a0_4 l0_5) else (none))) = some (r1, r2) := H
 have A4 := Aside0.mk A40
 clear A40
 replace H := Option.bind_eq_some_iff.mp H
 obtain ⟨t404, A50, H⟩ := H
 replace H : (if t402.size + t404.size ≤ 9223372036854775807 then (tenementref08_Bytes.l0 k (t402 ++ t404) 0 a0_0 a0_1 a0_2 a0_3 a0_4 l0_5) else (none)) = some (r1, r2) := H
 have A5 := Aside0.mk A50
 clear A50
 by_cases c6 : t402.size + t404.size ≤ 9223372036854775807
 rotate_left
 ·rw [if_neg c6] at H
  exact absurd H (by simp)
 rw [if_pos c6] at H
 have c6b0 := eq_true c6
 have c6b1 : decide (t402.size + t404.size ≤ 9223372036854775807) = true := decide_eq_true c6
 try have c6b2 : (9223372036854775807 < t402.size + t404.size) = False := eq_false (Nat.not_lt.2 c6)
 have H' := Aside0.mk H
 clear H
 go_enter Try.func66, Try.ntmps66
 go_wp2_with (first | ((with_reducible refine gate_dst (N := 1) rfl ?_); refine Ka_ 1 #[.int .u64 a0_0, .int .u64 a0_1, .int .u64 a0_2, .int .u64 a0_3, .int .i64 a0_4, .slice A0_5 l0_5.length c0_5] 55 ?_; intro gb400 hg w7 hbox hb; have BK400 := Aside0.mk (hbox); have GW400 := Kw_ HB hg; have GE400 := GW400; replace HB := Ks_ HB hb; clear hb hbox hg; obtain ⟨hcz8_0, hcz8_1, hcz8_2, hcz8_3, hcz8_4, hcz8_5, hfz8_0, hfz8_1, hfz8_2, hfz8_3, hfz8_4, hfz8_5⟩ := Ke6_ BK400.out) | ((with_reducible refine gate_callee (f := 74) rfl ?_); refine Kg_ (some 9) rfl rfl Try.func74 (by kernel_rfl) rfl #[.agg #[.int .u64 a0_0, .int .u64 a0_1, .int .u64 a0_2, .int .u64 a0_3, .int .i64 a0_4, .slice A0_5 l0_5.length c0_5]] rfl ?_; (with_reducible refine (tenementref08_Whole.calls k a0_0 a0_1 a0_2 a0_3 a0_4 _ _ l0_5 true _ ?side1 ?side2 A2.out).mono ?_); (case side1 => repeat (first | exact (Kd.C_below HR0_5.out HB.out) | (with_reducible refine Kd.C_alloc ?_ _) | (with_reducible refine Kd.C_drewN ?_ _) | (with_reducible refine Kd.C_drew ?_))); (case side2 => exact HC0_5.out); rintro e w9 ⟨rfl, hb⟩; refine ⟨_, rfl, ?_⟩; replace BK400 := Kb_ BK400 hb; replace HB := Ks_ HB hb; (try clear hb); (try clear hb2); (try clear hk); (try clear hi); obtain ⟨hcz10_0, hcz10_1, hcz10_2, hcz10_3, hcz10_4, hcz10_5, hfz10_0, hfz10_1, hfz10_2, hfz10_3, hfz10_4, hfz10_5⟩ := Ke6_ BK400.out) | ((with_reducible refine gate_callee (f := 90) rfl ?_); refine Kg_ (some 14) rfl rfl Try.func90 (by kernel_rfl) rfl #[.agg #[.int .u64 a0_0, .int .u64 a0_1, .int .u64 a0_2, .int .u64 a0_3, .int .i64 a0_4]] rfl ?_; (with_reducible refine (tenementref07_Put.calls k a0_0 a0_1 a0_2 a0_3 a0_4 t402 t403 _ A4.out).mono ?_); rintro e w11 ⟨rfl, hb⟩; refine ⟨_, rfl, ?_⟩; replace BK400 := Kb_ BK400 hb; replace HB := Ks_ HB hb; (try clear hb); (try clear hb2); (try clear hk); (try clear hi); obtain ⟨hcz12_0, hcz12_1, hcz12_2, hcz12_3, hcz12_4, hcz12_5, hfz12_0, hfz12_1, hfz12_2, hfz12_3, hfz12_4, hfz12_5⟩ := Ke6_ BK400.out) | ((with_reducible refine gate_callee (f := 64) rfl ?_); refine Kg_ (some 22) rfl rfl Try.func64 (by kernel_rfl) rfl #[.int .u64 (IntKind.u64.wrap ((l0_5.length : Int))), .int .i64 1] rfl ?_; (with_reducible refine (tenementref02_Number.calls k (IntKind.u64.wrap ((l0_5.length : Int))) 1 t404 _ A5.out).mono ?_); rintro e w13 ⟨rfl, hb⟩; refine ⟨_, rfl, ?_⟩; replace BK400 := Kb_ BK400 hb; replace HB := Ks_ HB hb; (try clear hb); (try clear hb2); (try clear hk); (try clear hi)))
 go_loopg [4, 6] k (fun kq v4 v6 w' => ∃ (x4_1 : ByteArray) (x6_1 : Int), v4 = .string x4_1 ∧ v6 = .int .i64 x6_1 ∧ Aside0 (tenementref08_Bytes.l0 kq x4_1 x6_1 a0_0 a0_1 a0_2 a0_3 a0_4 l0_5 = some (r1, r2)) ∧ Aside0 (kq ≤ k) ∧ Aside0 (w'.heap[gb400]? = some (.cells #[.int .u64 a0_0, .int .u64 a0_1, .int .u64 a0_2, .int .u64 a0_3, .int .i64 a0_4, (.slice A0_5 l0_5.length c0_5)] 55 (0, 0))) ∧ Aside0 (Below w.heap.size w w'))
 case atStart => exact ⟨(t402 ++ t404), (0), (by first | rfl | (simp; done) | (simp [*]; done)), (by first | rfl | (simp; done) | (simp [*]; done)), H', ⟨Nat.le_refl _⟩, ⟨by exact Kq_ BK400⟩, ⟨Kz_ HB GE400⟩⟩
 case round =>
  clear H'
  try clear p2
  try clear c3
  try clear c6
  try clear c6b0
  try clear c6b1
  try clear c6b2
  try clear c7
  try clear c9
  try clear hcz10_0
  try clear hcz10_1
  try clear hcz10_2
  try clear hcz10_3
  try clear hcz10_4
  try clear hcz10_5
  try clear hcz12_0
  try clear hcz12_1
  try clear hcz12_2
  try clear hcz12_3
  try clear hcz12_4
  try clear hcz12_5
  try clear hcz8_0
  try clear hcz8_1
  try clear hcz8_2
  try clear hcz8_3
  try clear hcz8_4
  try clear hcz8_5
  try clear hfz10_0
  try clear hfz10_1
  try clear hfz10_2
  try clear hfz10_3
  try clear hfz10_4
  try clear hfz10_5
  try clear hfz12_0
  try clear hfz12_1
  try clear hfz12_2
  try clear hfz12_3
  try clear hfz12_4
  try clear hfz12_5
  try clear hfz8_0
  try clear hfz8_1
  try clear hfz8_2
  try clear hfz8_3
  try clear hfz8_4
  try clear hfz8_5
  obtain ⟨x4_1, x6_1, rfl, rfl, HA, HK1, BK400, HB⟩ := hrel
  cases gk with
  | zero => exact absurd HA.out (by simp [tenementref08_Bytes.l0])
  | succ k1 =>
   have H := HA.out
   clear HA
   simp only [tenementref08_Bytes.l0] at H
   by_cases c14 : x6_1 < (l0_5.length : Int)
   rotate_left
   ·rw [if_neg c14] at H
    have c14b0 : decide (x6_1 < (l0_5.length : Int)) = false := decide_eq_false c14
    clear c14
    simp only [Option.some.injEq, Prod.mk.injEq] at H
    obtain ⟨rfl, rfl⟩ := H
    obtain ⟨hcz45_0, hcz45_1, hcz45_2, hcz45_3, hcz45_4, hcz45_5, hfz45_0, hfz45_1, hfz45_2, hfz45_3, hfz45_4, hfz45_5⟩ := Ke6_ BK400.out
    go_wp2
    go_ret2
    exact ⟨Kh_, Kz_ HB GE400⟩
   rw [if_pos c14] at H
   have c14b0 : decide (x6_1 < (l0_5.length : Int)) = true := decide_eq_true c14
   clear c14
   by_cases c15 : 0 ≤ x6_1
   rotate_left
   ·rw [if_neg c15] at H
    exact absurd H (by simp)
   rw [if_pos c15] at H
   have c15b0 : decide (0 ≤ x6_1) = true := decide_eq_true c15
   clear c15
   replace H := Option.bind_eq_some_iff.mp H
   obtain ⟨t407, A160, H⟩ := H
   replace H : (if x4_1.size + t407.size ≤ 9223372036854775807 then ((tenementref02_Text.f k1 ((rd_T117 l0_5 x6_1).f1)).bind fun t408 => (if (x4_1 ++ t407).size + t408.size ≤ 9223372036854775807 then (if (rd_T117 l0_5 x6_1).f3 = true then (if ((x4_1 ++ t407) ++ t408).size + 1 ≤ 9223372036854775807 then (tenementref08_Bytes.l0 k1 (((x4_1 ++ t407) ++ t408) ++ (⟨#[1]⟩ : ByteArray)) (wrap64 (x6_1 + 1)) a0_0 a0_1 a0_2 a0_3 a0_4 l0_5) else (none)) else (if ((x4_1 ++ t407) ++ t408).size + 1 ≤ 9223372036854775807 then ((tenementref02_Text.f k1 ((rd_T117 l0_5 x6_1).f2)).bind fun t409 => (if (((x4_1 ++ t407) ++ t408) ++ (⟨#[0]⟩ : ByteArray)).size + t409.size ≤ 9223372036854775807 then (tenementref08_Bytes.l0 k1 ((((x4_1 ++ t407) ++ t408) ++ (⟨#[0]⟩ : ByteArray)) ++ t409) (wrap64 (x6_1 + 1)) a0_0 a0_1 a0_2 a0_3 a0_4 l0_5) else (none))) else (none))) else (none))) else (none)) = some (r1, r2) := H
   have A16 := Aside0.mk A160
   clear A160
   by_cases c17 : x4_1.size + t407.size ≤ 9223372036854775807
   rotate_left
   ·rw [if_neg c17] at H
    exact absurd H (by simp)
   rw [if_pos c17] at H
   have c17b0 := eq_true c17
   have c17b1 : decide (x4_1.size + t407.size ≤ 9223372036854775807) = true := decide_eq_true c17
   try have c17b2 : (9223372036854775807 < x4_1.size + t407.size) = False := eq_false (Nat.not_lt.2 c17)
   replace H := Option.bind_eq_some_iff.mp H
   obtain ⟨t408, A180, H⟩ := H
   replace H : (if (x4_1 ++ t407).size + t408.size ≤ 9223372036854775807 then (if (rd_T117 l0_5 x6_1).f3 = true then (if ((x4_1 ++ t407) ++ t408).size + 1 ≤ 9223372036854775807 then (tenementref08_Bytes.l0 k1 (((x4_1 ++ t407) ++ t408) ++ (⟨#[1]⟩ : ByteArray)) (wrap64 (x6_1 + 1)) a0_0 a0_1 a0_2 a0_3 a0_4 l0_5) else (none)) else (if ((x4_1 ++ t407) ++ t408).size + 1 ≤ 9223372036854775807 then ((tenementref02_Text.f k1 ((rd_T117 l0_5 x6_1).f2)).bind fun t409 => (if (((x4_1 ++ t407) ++ t408) ++ (⟨#[0]⟩ : ByteArray)).size + t409.size ≤ 9223372036854775807 then (tenementref08_Bytes.l0 k1 ((((x4_1 ++ t407) ++ t408) ++ (⟨#[0]⟩ : ByteArray)) ++ t409) (wrap64 (x6_1 + 1)) a0_0 a0_1 a0_2 a0_3 a0_4 l0_5) else (none))) else (none))) else (none)) = some (r1, r2) := H
   have A18 := Aside0.mk A180
   clear A180
   by_cases c19 : (x4_1 ++ t407).size + t408.size ≤ 9223372036854775807
   rotate_left
   ·rw [if_neg c19] at H
    exact absurd H (by simp)
   rw [if_pos c19] at H
   have c19b0 := eq_true c19
   (try (have c19b0s_ := c19b0; simp only [ByteArray.size_append, Int.natCast_add, show (⟨#[0]⟩ : ByteArray).size = 1 from rfl, show (⟨#[1]⟩ : ByteArray).size = 1 from rfl] at c19b0s_))
   have c19b1 : decide ((x4_1 ++ t407).size + t408.size ≤ 9223372036854775807) = true := decide_eq_true c19
   (try (have c19b1s_ := c19b1; simp only [ByteArray.size_append, Int.natCast_add, show (⟨#[0]⟩ : ByteArray).size = 1 from rfl, show (⟨#[1]⟩ : ByteArray).size = 1 from rfl] at c19b1s_))
   try have c19b2 : (9223372036854775807 < (x4_1 ++ t407).size + t408.size) = False := eq_false (Nat.not_lt.2 c19)
   (try (have c19b2s_ := c19b2; simp only [ByteArray.size_append, Int.natCast_add, show (⟨#[0]⟩ : ByteArray).size = 1 from rfl, show (⟨#[1]⟩ : ByteArray).size = 1 from rfl] at c19b2s_))
   obtain ⟨bq20, hbq20⟩ : ∃ b_ : Bool, b_ = ((rd_T117 l0_5 x6_1).f3) := ⟨_, rfl⟩
   replace H : (if bq20 = true then (if ((x4_1 ++ t407) ++ t408).size + 1 ≤ 9223372036854775807 then (tenementref08_Bytes.l0 k1 (((x4_1 ++ t407) ++ t408) ++ (⟨#[1]⟩ : ByteArray)) (wrap64 (x6_1 + 1)) a0_0 a0_1 a0_2 a0_3 a0_4 l0_5) else (none)) else (if ((x4_1 ++ t407) ++ t408).size + 1 ≤ 9223372036854775807 then ((tenementref02_Text.f k1 ((rd_T117 l0_5 x6_1).f2)).bind fun t409 => (if (((x4_1 ++ t407) ++ t408) ++ (⟨#[0]⟩ : ByteArray)).size + t409.size ≤ 9223372036854775807 then (tenementref08_Bytes.l0 k1 ((((x4_1 ++ t407) ++ t408) ++ (⟨#[0]⟩ : ByteArray)) ++ t409) (wrap64 (x6_1 + 1)) a0_0 a0_1 a0_2 a0_3 a0_4 l0_5) else (none))) else (none))) = some (r1, r2) := by rw [← hbq20] at H; exact H
   have Nbq20 := Aside0.mk hbq20
   clear hbq20
   by_cases c21 : bq20 = true
   ·subst c21
    have H1 : (if ((x4_1 ++ t407) ++ t408).size + 1 ≤ 9223372036854775807 then (tenementref08_Bytes.l0 k1 (((x4_1 ++ t407) ++ t408) ++ (⟨#[1]⟩ : ByteArray)) (wrap64 (x6_1 + 1)) a0_0 a0_1 a0_2 a0_3 a0_4 l0_5) else (none)) = some (r1, r2) := by rw [if_pos rfl] at H; exact H
    clear H
    have H := H1
    clear H1
    by_cases c22 : ((x4_1 ++ t407) ++ t408).size + 1 ≤ 9223372036854775807
    rotate_left
    ·rw [if_neg c22] at H
     exact absurd H (by simp)
    rw [if_pos c22] at H
    have c22b0 := eq_true c22
    (try (have c22b0s_ := c22b0; simp only [ByteArray.size_append, Int.natCast_add, show (⟨#[0]⟩ : ByteArray).size = 1 from rfl, show (⟨#[1]⟩ : ByteArray).size = 1 from rfl] at c22b0s_))
    have c22b1 : decide (((x4_1 ++ t407) ++ t408).size + 1 ≤ 9223372036854775807) = true := decide_eq_true c22
    (try (have c22b1s_ := c22b1; simp only [ByteArray.size_append, Int.natCast_add, show (⟨#[0]⟩ : ByteArray).size = 1 from rfl, show (⟨#[1]⟩ : ByteArray).size = 1 from rfl] at c22b1s_))
    try have c22b2 : (9223372036854775807 < ((x4_1 ++ t407) ++ t408).size + 1) = False := eq_false (Nat.not_lt.2 c22)
    (try (have c22b2s_ := c22b2; simp only [ByteArray.size_append, Int.natCast_add, show (⟨#[0]⟩ : ByteArray).size = 1 from rfl, show (⟨#[1]⟩ : ByteArray).size = 1 from rfl] at c22b2s_))
    have H' := Aside0.mk H
    clear H
    obtain ⟨hcz23_0, hcz23_1, hcz23_2, hcz23_3, hcz23_4, hcz23_5, hfz23_0, hfz23_1, hfz23_2, hfz23_3, hfz23_4, hfz23_5⟩ := Ke6_ BK400.out
    have p405 : 0 ≤ (x6_1 : Int) := of_decide_eq_true (by first | (with_reducible assumption) | assumption)
    have q405 : x6_1 < (l0_5.length : Int) := of_decide_eq_true (by first | (with_reducible assumption) | assumption)
    obtain ⟨ad405, e405, hx405_0, hx405_1, hx405_2, hx405_3⟩ := at_T117 HR0_5.out x6_1 p405 q405
    (try rw [← Nbq20.out] at hx405_3)
    cases e405
    replace hx405_0 := (HB.out.cell (World.block_lt_of_cell? w _ hx405_0)).trans hx405_0
    replace hx405_1 := (HB.out.cell (World.block_lt_of_cell? w _ hx405_1)).trans hx405_1
    replace hx405_2 := (HB.out.cell (World.block_lt_of_cell? w _ hx405_2)).trans hx405_2
    replace hx405_3 := (HB.out.cell (World.block_lt_of_cell? w _ hx405_3)).trans hx405_3
    replace p405 := eq_true p405
    replace q405 := eq_true q405
    try go_wp2_with (first | ((with_reducible refine gate_dst (N := 7) rfl ?_); refine Ka_ 7 #[.string (⟨#[]⟩ : ByteArray), .string (⟨#[]⟩ : ByteArray), .string (⟨#[]⟩ : ByteArray), .bool false] 117 ?_; intro gb406 hg w24 hbox hb; have BK406 := Aside0.mk (hbox); have GW406 := Kw_ HB hg; have GE406 := GW406; have NB400_406 := Kl_ BK400 hg; have NB406_400 := Kr_ BK400 hg; replace BK400 := Kb_ BK400 hb; replace HB := Ks_ HB hb; clear hb hbox hg; have hnb25 := NB406_400.out; have hnc25 := NB400_406.out; obtain ⟨hcz26_0, hcz26_1, hcz26_2, hcz26_3, hfz26_0, hfz26_1, hfz26_2, hfz26_3⟩ := Ke4_ BK406.out))
    have n0_ : Aside0 (((((w24.setCell ⟨gb406, 0, none⟩ (.string ((rd_T117 l0_5 x6_1).f0))).setCell ⟨gb406, 1, none⟩ (.string ((rd_T117 l0_5 x6_1).f1))).setCell ⟨gb406, 2, none⟩ (.string ((rd_T117 l0_5 x6_1).f2))).setCell ⟨gb406, 3, none⟩ (.bool true)).heap[gb400]? = some (.cells #[.int .u64 a0_0, .int .u64 a0_1, .int .u64 a0_2, .int .u64 a0_3, .int .i64 a0_4, .slice (some ad405) l0_5.length c0_5] 55 (0, 0))) := ⟨by exact K1b_ BK400 NB400_406⟩
    have n1_ : Aside0 (((((w24.setCell ⟨gb406, 0, none⟩ (.string ((rd_T117 l0_5 x6_1).f0))).setCell ⟨gb406, 1, none⟩ (.string ((rd_T117 l0_5 x6_1).f1))).setCell ⟨gb406, 2, none⟩ (.string ((rd_T117 l0_5 x6_1).f2))).setCell ⟨gb406, 3, none⟩ (.bool true)).heap[gb406]? = some (.cells #[.string ((rd_T117 l0_5 x6_1).f0), .string ((rd_T117 l0_5 x6_1).f1), .string ((rd_T117 l0_5 x6_1).f2), .bool true] 117 (0, 0))) := ⟨by refine Kv_ ?_; refine blk_put (cs := #[.string ((rd_T117 l0_5 x6_1).f0), .string ((rd_T117 l0_5 x6_1).f1), .string ((rd_T117 l0_5 x6_1).f2), .bool false]) ?_ 3 _ rfl; refine Kv_ ?_; refine blk_put (cs := #[.string ((rd_T117 l0_5 x6_1).f0), .string ((rd_T117 l0_5 x6_1).f1), .string (⟨#[]⟩ : ByteArray), .bool false]) ?_ 2 _ rfl; refine Kv_ ?_; refine blk_put (cs := #[.string ((rd_T117 l0_5 x6_1).f0), .string (⟨#[]⟩ : ByteArray), .string (⟨#[]⟩ : ByteArray), .bool false]) ?_ 1 _ rfl; refine Kv_ ?_; refine blk_put (cs := #[.string (⟨#[]⟩ : ByteArray), .string (⟨#[]⟩ : ByteArray), .string (⟨#[]⟩ : ByteArray), .bool false]) ?_ 0 _ rfl; exact Kq_ BK406⟩
    have n2_ : Aside0 (Below w.heap.size w ((((w24.setCell ⟨gb406, 0, none⟩ (.string ((rd_T117 l0_5 x6_1).f0))).setCell ⟨gb406, 1, none⟩ (.string ((rd_T117 l0_5 x6_1).f1))).setCell ⟨gb406, 2, none⟩ (.string ((rd_T117 l0_5 x6_1).f2))).setCell ⟨gb406, 3, none⟩ (.bool true))) := ⟨K2a_ HB GE400 GE406⟩
    (try clear BK400)
    (try clear BK406)
    (try clear HB)
    generalize ((((w24.setCell ⟨gb406, 0, none⟩ (.string ((rd_T117 l0_5 x6_1).f0))).setCell ⟨gb406, 1, none⟩ (.string ((rd_T117 l0_5 x6_1).f1))).setCell ⟨gb406, 2, none⟩ (.string ((rd_T117 l0_5 x6_1).f2))).setCell ⟨gb406, 3, none⟩ (.bool true)) = w27 at n0_ n1_ n2_ ⊢
    have BK400 := n0_
    have BK406 := n1_
    have HB := n2_
    clear n0_ n1_ n2_
    replace BK400 := Kd_ BK400
    replace BK406 := Kd_ BK406
    replace HB := Aside0.mk (below_drew1 HB.out)
    refine start_ (n := 10) (S := fun w' => w'.cell? ⟨gb406, 0, none⟩ = some (.string ((rd_T117 l0_5 x6_1).f0)) ∧ w'.cell? ⟨gb406, 1, none⟩ = some (.string ((rd_T117 l0_5 x6_1).f1)) ∧ w'.cell? ⟨gb406, 2, none⟩ = some (.string ((rd_T117 l0_5 x6_1).f2)) ∧ w'.cell? ⟨gb406, 3, none⟩ = some (.bool true)) (ds := []) (mB_ 10 0) (by kernel_rfl) rfl rfl (Kc4_ BK406.out) (fun hHeld => ?_); refine with_tabW tenementref08_Bytes.tab9 tenementref08_Bytes.bits9 (fun HT_ HW_ => ?_)
    generalize w27.drew = w28 at BK400 BK406 HB hHeld ⊢
    refine Kp_ 0 36 (mB_ 10 1) (any_of HT_.out (by kernel_rfl)) ?_
    refine Kp_ 1 37 (mB_ 10 3) (any_of HT_.out (by kernel_rfl)) ?_
    refine Kp_ 5 41 (mB_ 10 35) (any_of HT_.out (by kernel_rfl)) ?_
    refine Ko_ 2 38 (mB_ 10 39) (take_ofW HT_.out HW_.out (by kernel_rfl)) hHeld ?_
    refine Ko_ 6 42 (mB_ 10 103) (take_ofW HT_.out HW_.out (by kernel_rfl)) hHeld ?_
    refine one_ (i := 3) (N := some 39) (mB_ 10 111) rfl rfl (one_of HT_.out (by kernel_rfl)) (by decide) (fun K hK => ?_)
    refine goes_ Try.func67 (by kernel_rfl) rfl #[.string ((rd_T117 l0_5 x6_1).f0)] (by rfl) rfl rfl (by (try simp only [List.map_toArray, List.map_cons, List.map_nil]); first | done | rfl | (simp only [List.length_drop, List.length_take]; rfl)) ?_
    with_reducible refine (tenementref02_Text.calls k1 ((rd_T117 l0_5 x6_1).f0) t407 _ A16.out).mono ?_
    rintro e w29 ⟨rfl, hb⟩
    refine ⟨_, rfl, ?_⟩
    replace BK400 := Kb_ BK400 hb
    replace BK406 := Kb_ BK406 hb
    replace HB := Ks_ HB hb
    (try clear hb)
    (try clear hb2)
    (try clear hk)
    (try clear hi)
    refine hK.out _ _ (Kc4_ BK406.out) (fun hHeld => ?_)
    clear hK K
    refine Kn_ 39 ?_
    refine Kp_ 4 40 (mB_ 10 127) (any_of HT_.out (by kernel_rfl)) ?_
    refine one_ (i := 7) (N := some 43) (mB_ 10 255) rfl rfl (one_of HT_.out (by kernel_rfl)) (by decide) (fun K hK => ?_)
    refine goes_ Try.func67 (by kernel_rfl) rfl #[.string ((rd_T117 l0_5 x6_1).f1)] (by rfl) rfl rfl (by (try simp only [List.map_toArray, List.map_cons, List.map_nil]); first | done | rfl | (simp only [List.length_drop, List.length_take]; rfl)) ?_
    with_reducible refine (tenementref02_Text.calls k1 ((rd_T117 l0_5 x6_1).f1) t408 _ A18.out).mono ?_
    rintro e w30 ⟨rfl, hb⟩
    refine ⟨_, rfl, ?_⟩
    replace BK400 := Kb_ BK400 hb
    replace BK406 := Kb_ BK406 hb
    replace HB := Ks_ HB hb
    (try clear hb)
    (try clear hb2)
    (try clear hk)
    (try clear hi)
    refine hK.out _ _ (Kc4_ BK406.out) (fun hHeld => ?_)
    clear hK K
    refine Kn_ 43 ?_
    refine Kp_ 8 44 (mB_ 10 511) (any_of HT_.out (by kernel_rfl)) ?_
    refine Kp_ 9 4 (mB_ 10 1023) (any_of HT_.out (by kernel_rfl)) ?_
    refine done_ (done_of HT_.out (by kernel_rfl)) ?_
    obtain ⟨hcz31_0, hcz31_1, hcz31_2, hcz31_3, hfz31_0, hfz31_1, hfz31_2, hfz31_3⟩ := Ke4_ BK406.out
    try go_wp2
    go_roundg k1
    case measure => have := HK1.out; omega
    case rel => exact ⟨(((x4_1 ++ t407) ++ t408) ++ (⟨#[1]⟩ : ByteArray)), (wrap64 (x6_1 + 1)), (by first | rfl | (simp; done) | (simp [*]; done)), (by first | rfl | (simp; done) | (simp [*]; done)), H', ⟨by have := HK1.out; omega⟩, ⟨by exact Kq_ BK400⟩, ⟨K2a_ HB GE400 GE406⟩⟩
   replace c21 := Bool.eq_false_iff.mpr c21
   subst c21
   have H1 : (if ((x4_1 ++ t407) ++ t408).size + 1 ≤ 9223372036854775807 then ((tenementref02_Text.f k1 ((rd_T117 l0_5 x6_1).f2)).bind fun t409 => (if (((x4_1 ++ t407) ++ t408) ++ (⟨#[0]⟩ : ByteArray)).size + t409.size ≤ 9223372036854775807 then (tenementref08_Bytes.l0 k1 ((((x4_1 ++ t407) ++ t408) ++ (⟨#[0]⟩ : ByteArray)) ++ t409) (wrap64 (x6_1 + 1)) a0_0 a0_1 a0_2 a0_3 a0_4 l0_5) else (none))) else (none)) = some (r1, r2) := by rw [if_neg (show ¬ (false = true) by decide)] at H; exact H
   clear H
   have H := H1
   clear H1
   by_cases c32 : ((x4_1 ++ t407) ++ t408).size + 1 ≤ 9223372036854775807
   rotate_left
   ·rw [if_neg c32] at H
    exact absurd H (by simp)
   rw [if_pos c32] at H
   have c32b0 := eq_true c32
   (try (have c32b0s_ := c32b0; simp only [ByteArray.size_append, Int.natCast_add, show (⟨#[0]⟩ : ByteArray).size = 1 from rfl, show (⟨#[1]⟩ : ByteArray).size = 1 from rfl] at c32b0s_))
   have c32b1 : decide (((x4_1 ++ t407) ++ t408).size + 1 ≤ 9223372036854775807) = true := decide_eq_true c32
   (try (have c32b1s_ := c32b1; simp only [ByteArray.size_append, Int.natCast_add, show (⟨#[0]⟩ : ByteArray).size = 1 from rfl, show (⟨#[1]⟩ : ByteArray).size = 1 from rfl] at c32b1s_))
   try have c32b2 : (9223372036854775807 < ((x4_1 ++ t407) ++ t408).size + 1) = False := eq_false (Nat.not_lt.2 c32)
   (try (have c32b2s_ := c32b2; simp only [ByteArray.size_append, Int.natCast_add, show (⟨#[0]⟩ : ByteArray).size = 1 from rfl, show (⟨#[1]⟩ : ByteArray).size = 1 from rfl] at c32b2s_))
   replace H := Option.bind_eq_some_iff.mp H
   obtain ⟨t409, A330, H⟩ := H
   replace H : (if (((x4_1 ++ t407) ++ t408) ++ (⟨#[0]⟩ : ByteArray)).size + t409.size ≤ 9223372036854775807 then (tenementref08_Bytes.l0 k1 ((((x4_1 ++ t407) ++ t408) ++ (⟨#[0]⟩ : ByteArray)) ++ t409) (wrap64 (x6_1 + 1)) a0_0 a0_1 a0_2 a0_3 a0_4 l0_5) else (none)) = some (r1, r2) := H
   have A33 := Aside0.mk A330
   clear A330
   by_cases c34 : (((x4_1 ++ t407) ++ t408) ++ (⟨#[0]⟩ : ByteArray)).size + t409.size ≤ 9223372036854775807
   rotate_left
   ·rw [if_neg c34] at H
    exact absurd H (by simp)
   rw [if_pos c34] at H
   have c34b0 := eq_true c34
   (try (have c34b0s_ := c34b0; simp only [ByteArray.size_append, Int.natCast_add, show (⟨#[0]⟩ : ByteArray).size = 1 from rfl, show (⟨#[1]⟩ : ByteArray).size = 1 from rfl] at c34b0s_))
   have c34b1 : decide ((((x4_1 ++ t407) ++ t408) ++ (⟨#[0]⟩ : ByteArray)).size + t409.size ≤ 9223372036854775807) = true := decide_eq_true c34
   (try (have c34b1s_ := c34b1; simp only [ByteArray.size_append, Int.natCast_add, show (⟨#[0]⟩ : ByteArray).size = 1 from rfl, show (⟨#[1]⟩ : ByteArray).size = 1 from rfl] at c34b1s_))
   try have c34b2 : (9223372036854775807 < (((x4_1 ++ t407) ++ t408) ++ (⟨#[0]⟩ : ByteArray)).size + t409.size) = False := eq_false (Nat.not_lt.2 c34)
   (try (have c34b2s_ := c34b2; simp only [ByteArray.size_append, Int.natCast_add, show (⟨#[0]⟩ : ByteArray).size = 1 from rfl, show (⟨#[1]⟩ : ByteArray).size = 1 from rfl] at c34b2s_))
   have H' := Aside0.mk H
   clear H
   obtain ⟨hcz35_0, hcz35_1, hcz35_2, hcz35_3, hcz35_4, hcz35_5, hfz35_0, hfz35_1, hfz35_2, hfz35_3, hfz35_4, hfz35_5⟩ := Ke6_ BK400.out
   have p405 : 0 ≤ (x6_1 : Int) := of_decide_eq_true (by first | (with_reducible assumption) | assumption)
   have q405 : x6_1 < (l0_5.length : Int) := of_decide_eq_true (by first | (with_reducible assumption) | assumption)
   obtain ⟨ad405, e405, hx405_0, hx405_1, hx405_2, hx405_3⟩ := at_T117 HR0_5.out x6_1 p405 q405
   (try rw [← Nbq20.out] at hx405_3)
   cases e405
   replace hx405_0 := (HB.out.cell (World.block_lt_of_cell? w _ hx405_0)).trans hx405_0
   replace hx405_1 := (HB.out.cell (World.block_lt_of_cell? w _ hx405_1)).trans hx405_1
   replace hx405_2 := (HB.out.cell (World.block_lt_of_cell? w _ hx405_2)).trans hx405_2
   replace hx405_3 := (HB.out.cell (World.block_lt_of_cell? w _ hx405_3)).trans hx405_3
   replace p405 := eq_true p405
   replace q405 := eq_true q405
   try go_wp2_with (first | ((with_reducible refine gate_dst (N := 7) rfl ?_); refine Ka_ 7 #[.string (⟨#[]⟩ : ByteArray), .string (⟨#[]⟩ : ByteArray), .string (⟨#[]⟩ : ByteArray), .bool false] 117 ?_; intro gb406 hg w36 hbox hb; have BK406 := Aside0.mk (hbox); have GW406 := Kw_ HB hg; have GE406 := GW406; have NB400_406 := Kl_ BK400 hg; have NB406_400 := Kr_ BK400 hg; replace BK400 := Kb_ BK400 hb; replace HB := Ks_ HB hb; clear hb hbox hg; have hnb37 := NB406_400.out; have hnc37 := NB400_406.out; obtain ⟨hcz38_0, hcz38_1, hcz38_2, hcz38_3, hfz38_0, hfz38_1, hfz38_2, hfz38_3⟩ := Ke4_ BK406.out))
   have n0_ : Aside0 (((((w36.setCell ⟨gb406, 0, none⟩ (.string ((rd_T117 l0_5 x6_1).f0))).setCell ⟨gb406, 1, none⟩ (.string ((rd_T117 l0_5 x6_1).f1))).setCell ⟨gb406, 2, none⟩ (.string ((rd_T117 l0_5 x6_1).f2))).setCell ⟨gb406, 3, none⟩ (.bool false)).heap[gb400]? = some (.cells #[.int .u64 a0_0, .int .u64 a0_1, .int .u64 a0_2, .int .u64 a0_3, .int .i64 a0_4, .slice (some ad405) l0_5.length c0_5] 55 (0, 0))) := ⟨by exact K1b_ BK400 NB400_406⟩
   have n1_ : Aside0 (((((w36.setCell ⟨gb406, 0, none⟩ (.string ((rd_T117 l0_5 x6_1).f0))).setCell ⟨gb406, 1, none⟩ (.string ((rd_T117 l0_5 x6_1).f1))).setCell ⟨gb406, 2, none⟩ (.string ((rd_T117 l0_5 x6_1).f2))).setCell ⟨gb406, 3, none⟩ (.bool false)).heap[gb406]? = some (.cells #[.string ((rd_T117 l0_5 x6_1).f0), .string ((rd_T117 l0_5 x6_1).f1), .string ((rd_T117 l0_5 x6_1).f2), .bool false] 117 (0, 0))) := ⟨by refine Kv_ ?_; refine blk_put (cs := #[.string ((rd_T117 l0_5 x6_1).f0), .string ((rd_T117 l0_5 x6_1).f1), .string ((rd_T117 l0_5 x6_1).f2), .bool false]) ?_ 3 _ rfl; refine Kv_ ?_; refine blk_put (cs := #[.string ((rd_T117 l0_5 x6_1).f0), .string ((rd_T117 l0_5 x6_1).f1), .string (⟨#[]⟩ : ByteArray), .bool false]) ?_ 2 _ rfl; refine Kv_ ?_; refine blk_put (cs := #[.string ((rd_T117 l0_5 x6_1).f0), .string (⟨#[]⟩ : ByteArray), .string (⟨#[]⟩ : ByteArray), .bool false]) ?_ 1 _ rfl; refine Kv_ ?_; refine blk_put (cs := #[.string (⟨#[]⟩ : ByteArray), .string (⟨#[]⟩ : ByteArray), .string (⟨#[]⟩ : ByteArray), .bool false]) ?_ 0 _ rfl; exact Kq_ BK406⟩
   have n2_ : Aside0 (Below w.heap.size w ((((w36.setCell ⟨gb406, 0, none⟩ (.string ((rd_T117 l0_5 x6_1).f0))).setCell ⟨gb406, 1, none⟩ (.string ((rd_T117 l0_5 x6_1).f1))).setCell ⟨gb406, 2, none⟩ (.string ((rd_T117 l0_5 x6_1).f2))).setCell ⟨gb406, 3, none⟩ (.bool false))) := ⟨K2a_ HB GE400 GE406⟩
   (try clear BK400)
   (try clear BK406)
   (try clear HB)
   generalize ((((w36.setCell ⟨gb406, 0, none⟩ (.string ((rd_T117 l0_5 x6_1).f0))).setCell ⟨gb406, 1, none⟩ (.string ((rd_T117 l0_5 x6_1).f1))).setCell ⟨gb406, 2, none⟩ (.string ((rd_T117 l0_5 x6_1).f2))).setCell ⟨gb406, 3, none⟩ (.bool false)) = w39 at n0_ n1_ n2_ ⊢
   have BK400 := n0_
   have BK406 := n1_
   have HB := n2_
   clear n0_ n1_ n2_
   replace BK400 := Kd_ BK400
   replace BK406 := Kd_ BK406
   replace HB := Aside0.mk (below_drew1 HB.out)
   refine start_ (n := 10) (S := fun w' => w'.cell? ⟨gb406, 0, none⟩ = some (.string ((rd_T117 l0_5 x6_1).f0)) ∧ w'.cell? ⟨gb406, 1, none⟩ = some (.string ((rd_T117 l0_5 x6_1).f1)) ∧ w'.cell? ⟨gb406, 2, none⟩ = some (.string ((rd_T117 l0_5 x6_1).f2)) ∧ w'.cell? ⟨gb406, 3, none⟩ = some (.bool false)) (ds := []) (mB_ 10 0) (by kernel_rfl) rfl rfl (Kc4_ BK406.out) (fun hHeld => ?_); refine with_tabW tenementref08_Bytes.tab9 tenementref08_Bytes.bits9 (fun HT_ HW_ => ?_)
   generalize w39.drew = w40 at BK400 BK406 HB hHeld ⊢
   refine Kp_ 0 36 (mB_ 10 1) (any_of HT_.out (by kernel_rfl)) ?_
   refine Kp_ 1 37 (mB_ 10 3) (any_of HT_.out (by kernel_rfl)) ?_
   refine Kp_ 5 41 (mB_ 10 35) (any_of HT_.out (by kernel_rfl)) ?_
   refine Ko_ 2 38 (mB_ 10 39) (take_ofW HT_.out HW_.out (by kernel_rfl)) hHeld ?_
   refine Ko_ 6 42 (mB_ 10 103) (take_ofW HT_.out HW_.out (by kernel_rfl)) hHeld ?_
   refine one_ (i := 3) (N := some 39) (mB_ 10 111) rfl rfl (one_of HT_.out (by kernel_rfl)) (by decide) (fun K hK => ?_)
   refine goes_ Try.func67 (by kernel_rfl) rfl #[.string ((rd_T117 l0_5 x6_1).f0)] (by rfl) rfl rfl (by (try simp only [List.map_toArray, List.map_cons, List.map_nil]); first | done | rfl | (simp only [List.length_drop, List.length_take]; rfl)) ?_
   with_reducible refine (tenementref02_Text.calls k1 ((rd_T117 l0_5 x6_1).f0) t407 _ A16.out).mono ?_
   rintro e w41 ⟨rfl, hb⟩
   refine ⟨_, rfl, ?_⟩
   replace BK400 := Kb_ BK400 hb
   replace BK406 := Kb_ BK406 hb
   replace HB := Ks_ HB hb
   (try clear hb)
   (try clear hb2)
   (try clear hk)
   (try clear hi)
   refine hK.out _ _ (Kc4_ BK406.out) (fun hHeld => ?_)
   clear hK K
   refine Kn_ 39 ?_
   refine Kp_ 4 40 (mB_ 10 127) (any_of HT_.out (by kernel_rfl)) ?_
   refine one_ (i := 7) (N := some 43) (mB_ 10 255) rfl rfl (one_of HT_.out (by kernel_rfl)) (by decide) (fun K hK => ?_)
   refine goes_ Try.func67 (by kernel_rfl) rfl #[.string ((rd_T117 l0_5 x6_1).f1)] (by rfl) rfl rfl (by (try simp only [List.map_toArray, List.map_cons, List.map_nil]); first | done | rfl | (simp only [List.length_drop, List.length_take]; rfl)) ?_
   with_reducible refine (tenementref02_Text.calls k1 ((rd_T117 l0_5 x6_1).f1) t408 _ A18.out).mono ?_
   rintro e w42 ⟨rfl, hb⟩
   refine ⟨_, rfl, ?_⟩
   replace BK400 := Kb_ BK400 hb
   replace BK406 := Kb_ BK406 hb
   replace HB := Ks_ HB hb
   (try clear hb)
   (try clear hb2)
   (try clear hk)
   (try clear hi)
   refine hK.out _ _ (Kc4_ BK406.out) (fun hHeld => ?_)
   clear hK K
   refine Kn_ 43 ?_
   refine Kp_ 8 44 (mB_ 10 511) (any_of HT_.out (by kernel_rfl)) ?_
   refine Kp_ 9 4 (mB_ 10 1023) (any_of HT_.out (by kernel_rfl)) ?_
   refine done_ (done_of HT_.out (by kernel_rfl)) ?_
   obtain ⟨hcz43_0, hcz43_1, hcz43_2, hcz43_3, hfz43_0, hfz43_1, hfz43_2, hfz43_3⟩ := Ke4_ BK406.out
   try go_wp2_with (first | ((with_reducible refine gate_callee (f := 67) rfl ?_); refine Kg_ (some 53) rfl rfl Try.func67 (by kernel_rfl) rfl #[.string ((rd_T117 l0_5 x6_1).f2)] rfl ?_; (with_reducible refine (tenementref02_Text.calls k1 ((rd_T117 l0_5 x6_1).f2) t409 _ A33.out).mono ?_); rintro e w44 ⟨rfl, hb⟩; refine ⟨_, rfl, ?_⟩; replace BK400 := Kb_ BK400 hb; replace BK406 := Kb_ BK406 hb; replace HB := Ks_ HB hb; (try clear hb); (try clear hb2); (try clear hk); (try clear hi)))
   go_roundg k1
   case measure => have := HK1.out; omega
   case rel => exact ⟨((((x4_1 ++ t407) ++ t408) ++ (⟨#[0]⟩ : ByteArray)) ++ t409), (wrap64 (x6_1 + 1)), (by first | rfl | (simp; done) | (simp [*]; done)), (by first | rfl | (simp; done) | (simp [*]; done)), H', ⟨by have := HK1.out; omega⟩, ⟨by exact Kq_ BK400⟩, ⟨K2a_ HB GE400 GE406⟩⟩
end Go.Proofs.Ytoagfdpgnfinhaa.Q
