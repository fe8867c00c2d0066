import Derived.Test.YtoagfdpgnfinhaaGStreamTells2
import Derived.Test.YtoagfdpgnfinhaaGStreamTells6
namespace Go.Proofs.Ytoagfdpgnfinhaa.Q
open Go.RowKit Go.Proofs.YtoagfdpgnfinhaaW.PrintWords Go.Proofs.YtoagfdpgnfinhaaW.PrintLast Go.Proofs.YtoagfdpgnfinhaaW.PrintMore
attribute [local go_sem] max2_int min2_int max_two min_two max_three min_three max_four min_four   -- for this text's walks alone
set_option linter.unusedVariables false
set_option linter.unusedSimpArgs false
def tenementref02_Text.f (k : Nat) (a0 : ByteArray) : Option (ByteArray) := if a0.size ≤ 9223372036854775807 then ((tenementref02_Vary.f k (a0.size : Int)).bind fun t395 => (if t395.size + a0.size ≤ 9223372036854775807 then (some (t395 ++ a0)) else (none))) else (none)
set_option maxHeartbeats 8000000 in
set_option maxRecDepth 100000 in
theorem tenementref02_Text.calls (k : Nat) (a0 : ByteArray) (r : ByteArray) (w : World) (h : tenementref02_Text.f k a0 = some r) :
  Calls Try.prog 67 #[.string a0] w fun e w' => e = .returned (.string r) ∧ Below w.heap.size w w' := by
 have HB := Aside0.mk (Below.refl w.heap.size w)
 have H : (if a0.size ≤ 9223372036854775807 then ((tenementref02_Vary.f k (a0.size : Int)).bind fun t395 => (if t395.size + a0.size ≤ 9223372036854775807 then (some (t395 ++ a0)) else (none))) else (none)) = some r := h
 (try (have Hs_ := H; simp only [ByteArray.size_append, Int.natCast_add] at Hs_))
 clear h
 by_cases c2 : a0.size ≤ 9223372036854775807
 rotate_left
 ·rw [if_neg c2] at H
  exact absurd H (by simp)
 rw [if_pos c2] at H
 have c2b0 := eq_true c2
 have c2b1 : decide (a0.size ≤ 9223372036854775807) = true := decide_eq_true c2
 try have c2b2 : (9223372036854775807 < a0.size) = False := eq_false (Nat.not_lt.2 c2)
 replace H := Option.bind_eq_some_iff.mp H
 obtain ⟨t395, A30, H⟩ := H
 replace H : (if t395.size + a0.size ≤ 9223372036854775807 then (some (t395 ++ a0)) else (none)) = some r := H
 have A3 := Aside0.mk A30
 clear A30
 by_cases c4 : t395.size + a0.size ≤ 9223372036854775807
 rotate_left
 ·rw [if_neg c4] at H
  exact absurd H (by simp)
 rw [if_pos c4] at H
 have c4b0 := eq_true c4
 have c4b1 : decide (t395.size + a0.size ≤ 9223372036854775807) = true := decide_eq_true c4
 try have c4b2 : (9223372036854775807 < t395.size + a0.size) = False := eq_false (Nat.not_lt.2 c4)
 obtain rfl := Option.some.inj H
 go_enter Try.func67, Try.ntmps67
 go_wp2_with (first | ((with_reducible refine gate_callee (f := 65) rfl ?_); refine Kg_ (some 6) rfl rfl Try.func65 (by kernel_rfl) rfl #[.int .u64 (a0.size : Int)] rfl ?_; (with_reducible refine (tenementref02_Vary.calls k (a0.size : Int) t395 _ A3.out).mono ?_); rintro e w5 ⟨rfl, hb⟩; refine ⟨_, rfl, ?_⟩; replace HB := Ks_ HB hb; (try clear hb); (try clear hb2); (try clear hk); (try clear hi)))
 go_ret
 exact ⟨Kh_, Ky_ HB⟩
def tenementref06_Put.f (k : Nat) (a0_0 : Int) (a0_1 : Int) (a0_2 : Int) (a0_3 : Int) : Option (ByteArray) := (tenementref02_Vary.f k a0_0).bind fun t397 => ((tenementref02_Vary.f k a0_1).bind fun t398 => (if t397.size + t398.size ≤ 9223372036854775807 then ((tenementref02_Vary.f k a0_2).bind fun t399 => (if (t397 ++ t398).size + t399.size ≤ 9223372036854775807 then ((tenementref02_Vary.f k a0_3).bind fun t400 => (if ((t397 ++ t398) ++ t399).size + t400.size ≤ 9223372036854775807 then (some (((t397 ++ t398) ++ t399) ++ t400)) else (none))) else (none))) else (none)))
def tenementref06_Put.T1 : Bool × List (List Nat × List Nat) := (true, [([], []), ([0], [0]), ([1], [1]), ([], []), ([3], [3]), ([4, 2], [4]), ([2, 5], [2, 5]), ([], []), ([7], [7]), ([8, 5], [8]), ([6, 9], [6, 9]), ([], []), ([11], [11]), ([12, 9], [12]), ([10, 13], [10, 13]), ([14, 13, 0, 1, 2, 3, 4, 5, 6, 7, 8, 9, 10, 11, 12, 13, 14], [14])])
def tenementref06_Put.B1 : List Nat := [0, 1, 3, 0, 8, 31, 63, 0, 128, 447, 1023, 0, 2048, 7103, 16383, 32767]
theorem tenementref06_Put.tab1 : rtab .any (opsOf Try.f103 1) = tenementref06_Put.T1 := by kernel_rfl
theorem tenementref06_Put.bits1 : waitsOk tenementref06_Put.T1.2 tenementref06_Put.B1 = true := by kernel_rfl
set_option maxHeartbeats 8000000 in
set_option maxRecDepth 100000 in
theorem tenementref06_Put.calls (k : Nat) (a0_0 : Int) (a0_1 : Int) (a0_2 : Int) (a0_3 : Int) (r : ByteArray) (w : World) (h : tenementref06_Put.f k a0_0 a0_1 a0_2 a0_3 = some r) :
  Calls Try.prog 103 #[.agg #[.int .u64 a0_0, .int .u64 a0_1, .int .u64 a0_2, .int .u64 a0_3]] w fun e w' => e = .returned (.string r) ∧ Below w.heap.size w w' := by
 have hu50 := Try.underlying50
 have HB := Aside0.mk (Below.refl w.heap.size w)
 have H : ((tenementref02_Vary.f k a0_0).bind fun t397 => ((tenementref02_Vary.f k a0_1).bind fun t398 => (if t397.size + t398.size ≤ 9223372036854775807 then ((tenementref02_Vary.f k a0_2).bind fun t399 => (if (t397 ++ t398).size + t399.size ≤ 9223372036854775807 then ((tenementref02_Vary.f k a0_3).bind fun t400 => (if ((t397 ++ t398) ++ t399).size + t400.size ≤ 9223372036854775807 then (some (((t397 ++ t398) ++ t399) ++ t400)) else (none))) else (none))) else (none)))) = some r := h
 (try (have Hs_ := H; simp only [ByteArray.size_append, Int.natCast_add] at Hs_))
 clear h
 replace H := Option.bind_eq_some_iff.mp H
 obtain ⟨t397, A20, H⟩ := H
 replace H : ((tenementref02_Vary.f k a0_1).bind fun t398 => (if t397.size + t398.size ≤ 9223372036854775807 then ((tenementref02_Vary.f k a0_2).bind fun t399 => (if (t397 ++ t398).size + t399.size ≤ 9223372036854775807 then ((tenementref02_Vary.f k a0_3).bind fun t400 => (if ((t397 ++ t398) ++ t399).size + t400.size ≤ 9223372036854775807 then (some (((t397 ++ t398) ++ t399) ++ t400)) else (none))) else (none))) else (none))) = some r := H
 have A2 := Aside0.mk A20
 clear A20
 replace H := Option.bind_eq_some_iff.mp H
 obtain ⟨t398, A30, H⟩ := H
 replace H : (if t397.size + t398.size ≤ 9223372036854775807 then ((tenementref02_Vary.f k a0_2).bind fun t399 => (if (t397 ++ t398).size + t399.size ≤ 9223372036854775807 then ((tenementref02_Vary.f k a0_3).bind fun t400 => (if ((t397 ++ t398) ++ t399).size + t400.size ≤ 9223372036854775807 then (some (((t397 ++ t398) ++ t399) ++ t400)) else (none))) else (none))) else (none)) = some r := H
 have A3 := Aside0.mk A30
 clear A30
 by_cases c4 : t397.size + t398.size ≤ 9223372036854775807
 rotate_left
 ·rw [if_neg c4] at H
  exact absurd H (by simp)
 rw [if_pos c4] at H
 have c4b0 := eq_true c4
 have c4b1 : decide (t397.size + t398.size ≤ 9223372036854775807) = true := decide_eq_true c4
 try have c4b2 : (9223372036854775807 < t397.size + t398.size) = False := eq_false (Nat.not_lt.2 c4)
 replace H := Option.bind_eq_some_iff.mp H
 obtain ⟨t399, A50, H⟩ := H
 replace H : (if (t397 ++ t398).size + t399.size ≤ 9223372036854775807 then ((tenementref02_Vary.f k a0_3).bind fun t400 => (if ((t397 ++ t398) ++ t399).size + t400.size ≤ 9223372036854775807 then (some (((t397 ++ t398) ++ t399) ++ t400)) else (none))) else (none)) = some r := H
 have A5 := Aside0.mk A50
 clear A50
 by_cases c6 : (t397 ++ t398).size + t399.size ≤ 9223372036854775807
 rotate_left
 ·rw [if_neg c6] at H
  exact absurd H (by simp)
 rw [if_pos c6] at H
 have c6b0 := eq_true c6
 (try (have c6b0s_ := c6b0; simp only [ByteArray.size_append, Int.natCast_add] at c6b0s_))
 have c6b1 : decide ((t397 ++ t398).size + t399.size ≤ 9223372036854775807) = true := decide_eq_true c6
 (try (have c6b1s_ := c6b1; simp only [ByteArray.size_append, Int.natCast_add] at c6b1s_))
 try have c6b2 : (9223372036854775807 < (t397 ++ t398).size + t399.size) = False := eq_false (Nat.not_lt.2 c6)
 (try (have c6b2s_ := c6b2; simp only [ByteArray.size_append, Int.natCast_add] at c6b2s_))
 replace H := Option.bind_eq_some_iff.mp H
 obtain ⟨t400, A70, H⟩ := H
 replace H : (if ((t397 ++ t398) ++ t399).size + t400.size ≤ 9223372036854775807 then (some (((t397 ++ t398) ++ t399) ++ t400)) else (none)) = some r := H
 have A7 := Aside0.mk A70
 clear A70
 by_cases c8 : ((t397 ++ t398) ++ t399).size + t400.size ≤ 9223372036854775807
 rotate_left
 ·rw [if_neg c8] at H
  exact absurd H (by simp)
 rw [if_pos c8] at H
 have c8b0 := eq_true c8
 (try (have c8b0s_ := c8b0; simp only [ByteArray.size_append, Int.natCast_add] at c8b0s_))
 have c8b1 : decide (((t397 ++ t398) ++ t399).size + t400.size ≤ 9223372036854775807) = true := decide_eq_true c8
 (try (have c8b1s_ := c8b1; simp only [ByteArray.size_append, Int.natCast_add] at c8b1s_))
 try have c8b2 : (9223372036854775807 < ((t397 ++ t398) ++ t399).size + t400.size) = False := eq_false (Nat.not_lt.2 c8)
 (try (have c8b2s_ := c8b2; simp only [ByteArray.size_append, Int.natCast_add] at c8b2s_))
 obtain rfl := Option.some.inj H
 go_enter Try.func103, Try.ntmps103
 try go_wp2_with (first | ((with_reducible refine gate_dst (N := 1) rfl ?_); refine Ka_ 1 #[.int .u64 a0_0, .int .u64 a0_1, .int .u64 a0_2, .int .u64 a0_3] 50 ?_; intro gb396 hg w9 hbox hb; have BK396 := Aside0.mk (hbox); have GW396 := Kw_ HB hg; have GE396 := GW396; replace HB := Ks_ HB hb; clear hb hbox hg))
 replace BK396 := Kd_ BK396
 replace HB := Aside0.mk (below_drew1 HB.out)
 refine start_ (n := 16) (S := fun w' => w'.cell? ⟨gb396, 0, none⟩ = some (.int .u64 a0_0) ∧ w'.cell? ⟨gb396, 1, none⟩ = some (.int .u64 a0_1) ∧ w'.cell? ⟨gb396, 2, none⟩ = some (.int .u64 a0_2) ∧ w'.cell? ⟨gb396, 3, none⟩ = some (.int .u64 a0_3)) (ds := []) (mB_ 16 0) (by kernel_rfl) rfl rfl (Kc4_ BK396.out) (fun hHeld => ?_); refine with_tabW tenementref06_Put.tab1 tenementref06_Put.bits1 (fun HT_ HW_ => ?_)
 generalize w9.drew = w10 at BK396 HB hHeld ⊢
 refine Kp_ 0 3 (mB_ 16 1) (any_of HT_.out (by kernel_rfl)) ?_
 refine Kp_ 3 6 (mB_ 16 9) (any_of HT_.out (by kernel_rfl)) ?_
 refine Kp_ 7 10 (mB_ 16 137) (any_of HT_.out (by kernel_rfl)) ?_
 refine Kp_ 11 14 (mB_ 16 2185) (any_of HT_.out (by kernel_rfl)) ?_
 refine Ko_ 1 4 (mB_ 16 2187) (take_ofW HT_.out HW_.out (by kernel_rfl)) hHeld ?_
 refine Ko_ 4 7 (mB_ 16 2203) (take_ofW HT_.out HW_.out (by kernel_rfl)) hHeld ?_
 refine Ko_ 8 11 (mB_ 16 2459) (take_ofW HT_.out HW_.out (by kernel_rfl)) hHeld ?_
 refine Ko_ 12 15 (mB_ 16 6555) (take_ofW HT_.out HW_.out (by kernel_rfl)) hHeld ?_
 refine one_ (i := 2) (N := some 5) (mB_ 16 6559) rfl rfl (one_of HT_.out (by kernel_rfl)) (by decide) (fun K hK => ?_)
 refine goes_ Try.func65 (by kernel_rfl) rfl #[.int .u64 a0_0] (by rfl) rfl rfl (by (try simp only [List.map_toArray, List.map_cons, List.map_nil]); first | done | rfl | (simp only [List.length_drop, List.length_take]; rfl)) ?_
 with_reducible refine (tenementref02_Vary.calls k a0_0 t397 _ A2.out).mono ?_
 rintro e w11 ⟨rfl, hb⟩
 refine ⟨_, rfl, ?_⟩
 replace BK396 := Kb_ BK396 hb
 replace HB := Ks_ HB hb
 (try clear hb)
 (try clear hb2)
 (try clear hk)
 (try clear hi)
 refine hK.out _ _ (Kc4_ BK396.out) (fun hHeld => ?_)
 clear hK K
 refine Kn_ 5 ?_
 refine one_ (i := 5) (N := some 8) (mB_ 16 6591) rfl rfl (one_of HT_.out (by kernel_rfl)) (by decide) (fun K hK => ?_)
 refine goes_ Try.func65 (by kernel_rfl) rfl #[.int .u64 a0_1] (by rfl) rfl rfl (by (try simp only [List.map_toArray, List.map_cons, List.map_nil]); first | done | rfl | (simp only [List.length_drop, List.length_take]; rfl)) ?_
 with_reducible refine (tenementref02_Vary.calls k a0_1 t398 _ A3.out).mono ?_
 rintro e w12 ⟨rfl, hb⟩
 refine ⟨_, rfl, ?_⟩
 replace BK396 := Kb_ BK396 hb
 replace HB := Ks_ HB hb
 (try clear hb)
 (try clear hb2)
 (try clear hk)
 (try clear hi)
 refine hK.out _ _ (Kc4_ BK396.out) (fun hHeld => ?_)
 clear hK K
 refine Kn_ 8 ?_
 refine Kp_ 6 9 (mB_ 16 6655) (any_of HT_.out (by kernel_rfl)) ?_
 refine one_ (i := 9) (N := some 12) (mB_ 16 7167) rfl rfl (one_of HT_.out (by kernel_rfl)) (by decide) (fun K hK => ?_)
 refine goes_ Try.func65 (by kernel_rfl) rfl #[.int .u64 a0_2] (by rfl) rfl rfl (by (try simp only [List.map_toArray, List.map_cons, List.map_nil]); first | done | rfl | (simp only [List.length_drop, List.length_take]; rfl)) ?_
 with_reducible refine (tenementref02_Vary.calls k a0_2 t399 _ A5.out).mono ?_
 rintro e w13 ⟨rfl, hb⟩
 refine ⟨_, rfl, ?_⟩
 replace BK396 := Kb_ BK396 hb
 replace HB := Ks_ HB hb
 (try clear hb)
 (try clear hb2)
 (try clear hk)
 (try clear hi)
 refine hK.out _ _ (Kc4_ BK396.out) (fun hHeld => ?_)
 clear hK K
 refine Kn_ 12 ?_
 refine Kp_ 10 13 (mB_ 16 8191) (any_of HT_.out (by kernel_rfl)) ?_
 refine one_ (i := 13) (N := some 16) (mB_ 16 16383) rfl rfl (one_of HT_.out (by kernel_rfl)) (by decide) (fun K hK => ?_)
 refine goes_ Try.func65 (by kernel_rfl) rfl #[.int .u64 a0_3] (by rfl) rfl rfl (by (try simp only [List.map_toArray, List.map_cons, List.map_nil]); first | done | rfl | (simp only [List.length_drop, List.length_take]; rfl)) ?_
 with_reducible refine (tenementref02_Vary.calls k a0_3 t400 _ A7.out).mono ?_
 rintro e w14 ⟨rfl, hb⟩
 refine ⟨_, rfl, ?_⟩
 replace BK396 := Kb_ BK396 hb
 replace HB := Ks_ HB hb
 (try clear hb)
 (try clear hb2)
 (try clear hk)
 (try clear hi)
 refine hK.out _ _ (Kc4_ BK396.out) (fun hHeld => ?_)
 clear hK K
 refine Kn_ 16 ?_
 refine Kp_ 14 17 (mB_ 16 32767) (any_of HT_.out (by kernel_rfl)) ?_
 refine Kp_ 15 2 (mB_ 16 65535) (any_of HT_.out (by kernel_rfl)) ?_
 refine done_ (done_of HT_.out (by kernel_rfl)) ?_
 try go_wp2
 go_ret
 exact ⟨Kh_, Kz_ HB GE396⟩
def tenementref07_Put.f (k : Nat) (a0_0 : Int) (a0_1 : Int) (a0_2 : Int) (a0_3 : Int) (a0_4 : Int) : Option (ByteArray × Bool) := (tenementref07_Right.f k a0_0 a0_1 a0_2 a0_3 a0_4).bind fun t402 => (if t402 = true then ((tenementref02_Number.f k (IntKind.u64.wrap (a0_4)) 1).bind fun t403 => ((tenementref06_Put.f k a0_0 a0_1 a0_2 a0_3).bind fun t404 => (if t403.size + t404.size ≤ 9223372036854775807 then (some (t403 ++ t404, true)) else (none)))) else (some ((⟨#[]⟩ : ByteArray), false)))
def tenementref07_Put.T3 : Bool × List (List Nat × List Nat) := (true, [([], []), ([0], [0]), ([1], [1]), ([2], [2]), ([], []), ([4], [4]), ([5, 3], [5]), ([3, 6], [3, 6]), ([7, 6, 0, 1, 2, 3, 4, 5, 6, 7], [7]), ([8, 0, 1, 2, 3, 4, 5, 6, 7, 8], [])])
def tenementref07_Put.B3 : List Nat := [0, 1, 3, 7, 0, 16, 63, 127, 255, 511]
theorem tenementref07_Put.tab3 : rtab .any (opsOf Try.f90 3) = tenementref07_Put.T3 := by kernel_rfl
theorem tenementref07_Put.bits3 : waitsOk tenementref07_Put.T3.2 tenementref07_Put.B3 = true := by kernel_rfl
set_option maxHeartbeats 8000000 in
set_option maxRecDepth 100000 in
theorem tenementref07_Put.calls (k : Nat) (a0_0 : Int) (a0_1 : Int) (a0_2 : Int) (a0_3 : Int) (a0_4 : Int) (r1 : ByteArray) (r2 : Bool) (w : World) (h : tenementref07_Put.f k a0_0 a0_1 a0_2 a0_3 a0_4 = some (r1, r2)) :
  Calls Try.prog 90 #[.agg #[.int .u64 a0_0, .int .u64 a0_1, .int .u64 a0_2, .int .u64 a0_3, .int .i64 a0_4]] w fun e w' => e = .returned (.tuple #[.string r1, .bool r2]) ∧ Below w.heap.size w w' := by
 have hu52 := Try.underlying52
 have hu50 := Try.underlying50
 have HB := Aside0.mk (Below.refl w.heap.size w)
 have H : ((tenementref07_Right.f k a0_0 a0_1 a0_2 a0_3 a0_4).bind fun t402 => (if t402 = true then ((tenementref02_Number.f k (IntKind.u64.wrap (a0_4)) 1).bind fun t403 => ((tenementref06_Put.f k a0_0 a0_1 a0_2 a0_3).bind fun t404 => (if t403.size + t404.size ≤ 9223372036854775807 then (some (t403 ++ t404, true)) else (none)))) else (some ((⟨#[]⟩ : ByteArray), false)))) = some (r1, r2) := h
 (try (have Hs_ := H; simp only [ByteArray.size_append, Int.natCast_add] at Hs_))
 clear h
 replace H := Option.bind_eq_some_iff.mp H
 obtain ⟨t402, A20, H⟩ := H
 replace H : (if t402 = true then ((tenementref02_Number.f k (IntKind.u64.wrap (a0_4)) 1).bind fun t403 => ((tenementref06_Put.f k a0_0 a0_1 a0_2 a0_3).bind fun t404 => (if t403.size + t404.size ≤ 9223372036854775807 then (some (t403 ++ t404, true)) else (none)))) else (some ((⟨#[]⟩ : ByteArray), false))) = some (r1, r2) := H
 have A2 := Aside0.mk A20
 clear A20
 by_cases c3 : t402 = true
 rotate_left
 ·replace c3 := Bool.eq_false_iff.mpr c3
  subst c3
  have H1 : (some ((⟨#[]⟩ : ByteArray), false)) = some (r1, r2) := by rw [if_neg (show ¬ (false = true) by decide)] at H; exact H
  clear H
  have H := H1
  clear H1
  simp only [Option.some.injEq, Prod.mk.injEq] at H
  obtain ⟨rfl, rfl⟩ := H
  go_enter Try.func90, Try.ntmps90
  go_wp2_with (first | ((with_reducible refine gate_dst (N := 1) rfl ?_); refine Ka_ 1 #[.int .u64 a0_0, .int .u64 a0_1, .int .u64 a0_2, .int .u64 a0_3, .int .i64 a0_4] 52 ?_; intro gb401 hg w13 hbox hb; have BK401 := Aside0.mk (hbox); have GW401 := Kw_ HB hg; have GE401 := GW401; replace HB := Ks_ HB hb; clear hb hbox hg; obtain ⟨hcz14_0, hcz14_1, hcz14_2, hcz14_3, hcz14_4, hfz14_0, hfz14_1, hfz14_2, hfz14_3, hfz14_4⟩ := Ke5_ BK401.out) | ((with_reducible refine gate_callee (f := 70) rfl ?_); refine Kg_ (some 5) rfl rfl Try.func70 (by kernel_rfl) rfl #[.agg #[.int .u64 a0_0, .int .u64 a0_1, .int .u64 a0_2, .int .u64 a0_3, .int .i64 a0_4]] rfl ?_; (with_reducible refine (tenementref07_Right.calls k a0_0 a0_1 a0_2 a0_3 a0_4 false _ A2.out).mono ?_); rintro e w15 ⟨rfl, hb⟩; refine ⟨_, rfl, ?_⟩; replace BK401 := Kb_ BK401 hb; replace HB := Ks_ HB hb; (try clear hb); (try clear hb2); (try clear hk); (try clear hi)))
  go_ret2
  exact ⟨Kh_, Kz_ HB GE401⟩
 subst c3
 have H1 : ((tenementref02_Number.f k (IntKind.u64.wrap (a0_4)) 1).bind fun t403 => ((tenementref06_Put.f k a0_0 a0_1 a0_2 a0_3).bind fun t404 => (if t403.size + t404.size ≤ 9223372036854775807 then (some (t403 ++ t404, true)) else (none)))) = some (r1, r2) := by rw [if_pos rfl] at H; exact H
 clear H
 have H := H1
 clear H1
 replace H := Option.bind_eq_some_iff.mp H
 obtain ⟨t403, A40, H⟩ := H
 replace H : ((tenementref06_Put.f k a0_0 a0_1 a0_2 a0_3).bind fun t404 => (if t403.size + t404.size ≤ 9223372036854775807 then (some (t403 ++ t404, true)) else (none))) = some (r1, r2) := H
 have A4 := Aside0.mk A40
 clear A40
 replace H := Option.bind_eq_some_iff.mp H
 obtain ⟨t404, A50, H⟩ := H
 replace H : (if t403.size + t404.size ≤ 9223372036854775807 then (some (t403 ++ t404, true)) else (none)) = some (r1, r2) := H
 have A5 := Aside0.mk A50
 clear A50
 by_cases c6 : t403.size + t404.size ≤ 9223372036854775807
 rotate_left
 ·rw [if_neg c6] at H
  exact absurd H (by simp)
 rw [if_pos c6] at H
 have c6b0 := eq_true c6
 have c6b1 : decide (t403.size + t404.size ≤ 9223372036854775807) = true := decide_eq_true c6
 try have c6b2 : (9223372036854775807 < t403.size + t404.size) = False := eq_false (Nat.not_lt.2 c6)
 simp only [Option.some.injEq, Prod.mk.injEq] at H
 obtain ⟨rfl, rfl⟩ := H
 go_enter Try.func90, Try.ntmps90
 try go_wp2_with (first | ((with_reducible refine gate_dst (N := 1) rfl ?_); refine Ka_ 1 #[.int .u64 a0_0, .int .u64 a0_1, .int .u64 a0_2, .int .u64 a0_3, .int .i64 a0_4] 52 ?_; intro gb401 hg w7 hbox hb; have BK401 := Aside0.mk (hbox); have GW401 := Kw_ HB hg; have GE401 := GW401; replace HB := Ks_ HB hb; clear hb hbox hg; obtain ⟨hcz8_0, hcz8_1, hcz8_2, hcz8_3, hcz8_4, hfz8_0, hfz8_1, hfz8_2, hfz8_3, hfz8_4⟩ := Ke5_ BK401.out) | ((with_reducible refine gate_callee (f := 70) rfl ?_); refine Kg_ (some 5) rfl rfl Try.func70 (by kernel_rfl) rfl #[.agg #[.int .u64 a0_0, .int .u64 a0_1, .int .u64 a0_2, .int .u64 a0_3, .int .i64 a0_4]] rfl ?_; (with_reducible refine (tenementref07_Right.calls k a0_0 a0_1 a0_2 a0_3 a0_4 true _ A2.out).mono ?_); rintro e w9 ⟨rfl, hb⟩; refine ⟨_, rfl, ?_⟩; replace BK401 := Kb_ BK401 hb; replace HB := Ks_ HB hb; (try clear hb); (try clear hb2); (try clear hk); (try clear hi)))
 replace BK401 := Kd_ BK401
 replace HB := Aside0.mk (below_drew1 HB.out)
 refine start_ (n := 10) (S := fun w' => w'.cell? ⟨gb401, 0, none⟩ = some (.int .u64 a0_0) ∧ w'.cell? ⟨gb401, 1, none⟩ = some (.int .u64 a0_1) ∧ w'.cell? ⟨gb401, 2, none⟩ = some (.int .u64 a0_2) ∧ w'.cell? ⟨gb401, 3, none⟩ = some (.int .u64 a0_3) ∧ w'.cell? ⟨gb401, 4, none⟩ = some (.int .i64 a0_4)) (ds := []) (mB_ 10 0) (by kernel_rfl) rfl rfl (Kc5_ BK401.out) (fun hHeld => ?_); refine with_tabW tenementref07_Put.tab3 tenementref07_Put.bits3 (fun HT_ HW_ => ?_)
 generalize w9.drew = w10 at BK401 HB hHeld ⊢
 refine Kp_ 0 7 (mB_ 10 1) (any_of HT_.out (by kernel_rfl)) ?_
 refine Kp_ 4 11 (mB_ 10 17) (any_of HT_.out (by kernel_rfl)) ?_
 refine Ko_ 1 8 (mB_ 10 19) (take_ofW HT_.out HW_.out (by kernel_rfl)) hHeld ?_
 refine Kp_ 2 9 (mB_ 10 23) (any_of HT_.out (by kernel_rfl)) ?_
 refine Ko_ 5 12 (mB_ 10 55) (take_ofW HT_.out HW_.out (by kernel_rfl)) hHeld ?_
 refine one_ (i := 3) (N := some 10) (mB_ 10 63) rfl rfl (one_of HT_.out (by kernel_rfl)) (by decide) (fun K hK => ?_)
 refine goes_ Try.func64 (by kernel_rfl) rfl #[.int .u64 (IntKind.u64.wrap (a0_4)), .int .i64 1] (by rfl) rfl rfl (by (try simp only [List.map_toArray, List.map_cons, List.map_nil]); first | done | rfl | (simp only [List.length_drop, List.length_take]; rfl)) ?_
 with_reducible refine (tenementref02_Number.calls k (IntKind.u64.wrap (a0_4)) 1 t403 _ A4.out).mono ?_
 rintro e w11 ⟨rfl, hb⟩
 refine ⟨_, rfl, ?_⟩
 replace BK401 := Kb_ BK401 hb
 replace HB := Ks_ HB hb
 (try clear hb)
 (try clear hb2)
 (try clear hk)
 (try clear hi)
 refine hK.out _ _ (Kc5_ BK401.out) (fun hHeld => ?_)
 clear hK K
 refine Kn_ 10 ?_
 refine one_ (i := 6) (N := some 13) (mB_ 10 127) rfl rfl (one_of HT_.out (by kernel_rfl)) (by decide) (fun K hK => ?_)
 refine goes_ Try.func103 (by kernel_rfl) rfl #[.agg #[.int .u64 a0_0, .int .u64 a0_1, .int .u64 a0_2, .int .u64 a0_3]] (by rfl) rfl rfl (by (try simp only [List.map_toArray, List.map_cons, List.map_nil]); first | done | rfl | (simp only [List.length_drop, List.length_take]; rfl)) ?_
 with_reducible refine (tenementref06_Put.calls k a0_0 a0_1 a0_2 a0_3 t404 _ A5.out).mono ?_
 rintro e w12 ⟨rfl, hb⟩
 refine ⟨_, rfl, ?_⟩
 replace BK401 := Kb_ BK401 hb
 replace HB := Ks_ HB hb
 (try clear hb)
 (try clear hb2)
 (try clear hk)
 (try clear hi)
 refine hK.out _ _ (Kc5_ BK401.out) (fun hHeld => ?_)
 clear hK K
 refine Kn_ 13 ?_
 refine Kp_ 7 14 (mB_ 10 255) (any_of HT_.out (by kernel_rfl)) ?_
 refine Kp_ 8 2 (mB_ 10 511) (any_of HT_.out (by kernel_rfl)) ?_
 refine Kp_ 9 3 (mB_ 10 1023) (any_of HT_.out (by kernel_rfl)) ?_
 refine done_ (done_of HT_.out (by kernel_rfl)) ?_
 try go_wp2
 go_ret2
 exact ⟨Kh_, Kz_ HB GE401⟩
def tenementref08_Bytes.l0 : Nat → ByteArray → Int → Int → Int → Int → Int → Int → List (S117) → Option (ByteArray × Bool)
 | 0, _, _, _, _, _, _, _, _ => none
 | k + 1, x4, x6, x102, x104, x105, x106, x108, x101 => if x6 < (x101.length : Int) then (if 0 ≤ x6 then ((tenementref02_Text.f k ((rd_T117 x101 x6).f0)).bind fun t412 => (if x4.size + t412.size ≤ 9223372036854775807 then ((tenementref02_Text.f k ((rd_T117 x101 x6).f1)).bind fun t413 => (if (x4 ++ t412).size + t413.size ≤ 9223372036854775807 then (if (rd_T117 x101 x6).f3 = true then (if ((x4 ++ t412) ++ t413).size + 1 ≤ 9223372036854775807 then (tenementref08_Bytes.l0 k (((x4 ++ t412) ++ t413) ++ (⟨#[1]⟩ : ByteArray)) (wrap64 (x6 + 1)) x102 x104 x105 x106 x108 x101) else (none)) else (if ((x4 ++ t412) ++ t413).size + 1 ≤ 9223372036854775807 then ((tenementref02_Text.f k ((rd_T117 x101 x6).f2)).bind fun t414 => (if (((x4 ++ t412) ++ t413) ++ (⟨#[0]⟩ : ByteArray)).size + t414.size ≤ 9223372036854775807 then (tenementref08_Bytes.l0 k ((((x4 ++ t412) ++ t413) ++ (⟨#[0]⟩ : ByteArray)) ++ t414) (wrap64 (x6 + 1)) x102 x104 x105 x106 x108 x101) else (none))) else (none))) else (none))) else (none))) else (none)) else (some (x4, true))
def tenementref08_Bytes.f (k : Nat) (a0_0 : Int) (a0_1 : Int) (a0_2 : Int) (a0_3 : Int) (a0_4 : Int) (l0_5 : List (S117)) : Option (ByteArray × Bool) := (tenementref08_Whole.f k a0_0 a0_1 a0_2 a0_3 a0_4 l0_5).bind fun t406 => (if t406 = true then ((tenementref07_Put.f k a0_0 a0_1 a0_2 a0_3 a0_4).bind fun bt407 => ((tenementref02_Number.f k (IntKind.u64.wrap ((l0_5.length : Int))) 1).bind fun t409 => (if bt407.1.size + t409.size ≤ 9223372036854775807 then (tenementref08_Bytes.l0 k (bt407.1 ++ t409) 0 a0_0 a0_1 a0_2 a0_3 a0_4 l0_5) else (none)))) else (some ((⟨#[]⟩ : ByteArray), false)))
def tenementref08_Bytes.T9 : Bool × List (List Nat × List Nat) := (true, [([], []), ([], []), ([1], [1]), ([2], [2]), ([0, 3], [0, 3]), ([], []), ([5], [5]), ([6, 3], [6]), ([4, 7], [4, 7]), ([8, 7, 0, 1, 2, 3, 4, 5, 6, 7, 8], [0, 8])])
def tenementref08_Bytes.B9 : List Nat := [0, 0, 2, 6, 15, 0, 32, 110, 255, 511]
theorem tenementref08_Bytes.tab9 : rtab .any (opsOf Try.f66 9) = tenementref08_Bytes.T9 := by kernel_rfl
theorem tenementref08_Bytes.bits9 : waitsOk tenementref08_Bytes.T9.2 tenementref08_Bytes.B9 = true := by kernel_rfl
set_option maxHeartbeats 8000000 in
set_option maxRecDepth 100000 in
theorem tenementref08_Bytes.calls (k : Nat) (a0_0 : Int) (a0_1 : Int) (a0_2 : Int) (a0_3 : Int) (a0_4 : Int) (A0_5 : Option Addr) (c0_5 : Nat) (l0_5 : List (S117)) (r1 : ByteArray) (r2 : Bool) (w : World) (hr0_5 : Kd.C k117 w A0_5 l0_5.length l0_5) (hc0_5 : l0_5.length ≤ c0_5) (h : tenementref08_Bytes.f k a0_0 a0_1 a0_2 a0_3 a0_4 l0_5 = some (r1, r2)) :
  Calls Try.prog 66 #[.agg #[.int .u64 a0_0, .int .u64 a0_1, .int .u64 a0_2, .int .u64 a0_3, .int .i64 a0_4, .slice A0_5 l0_5.length c0_5]] w fun e w' => e = .returned (.tuple #[.string r1, .bool r2]) ∧ Below w.heap.size w w' := by
 have hu55 := Try.underlying55
 have hu52 := Try.underlying52
 have hu117 := Try.underlying117
 have HR0_5 := Aside0.mk hr0_5
 have HC0_5 := Aside0.mk hc0_5
 clear hr0_5 hc0_5
 have HB := Aside0.mk (Below.refl w.heap.size w)
 have H : ((tenementref08_Whole.f k a0_0 a0_1 a0_2 a0_3 a0_4 l0_5).bind fun t406 => (if t406 = true then ((tenementref07_Put.f k a0_0 a0_1 a0_2 a0_3 a0_4).bind fun bt407 => ((tenementref02_Number.f k (IntKind.u64.wrap ((l0_5.length : Int))) 1).bind fun t409 => (if bt407.1.size + t409.size ≤ 9223372036854775807 then (tenementref08_Bytes.l0 k (bt407.1 ++ t409) 0 a0_0 a0_1 a0_2 a0_3 a0_4 l0_5) else (none)))) else (some ((⟨#[]⟩ : ByteArray), false)))) = some (r1, r2) := h
 (try (have Hs_ := H; simp only [ByteArray.size_append, Int.natCast_add] at Hs_))
 clear h
 replace H := Option.bind_eq_some_iff.mp H
 obtain ⟨t406, A20, H⟩ := H
 replace H : (if t406 = true then ((tenementref07_Put.f k a0_0 a0_1 a0_2 a0_3 a0_4).bind fun bt407 => ((tenementref02_Number.f k (IntKind.u64.wrap ((l0_5.length : Int))) 1).bind fun t409 => (if bt407.1.size + t409.size ≤ 9223372036854775807 then (tenementref08_Bytes.l0 k (bt407.1 ++ t409) 0 a0_0 a0_1 a0_2 a0_3 a0_4 l0_5) else (none)))) else (some ((⟨#[]⟩ : ByteArray), false))) = some (r1, r2) := H
 have A2 := Aside0.mk A20
 clear A20
 by_cases c3 : t406 = true
 rotate_left
 ·replace c3 := Bool.eq_false_iff.mpr c3
  subst c3
  have H1 : (some ((⟨#[]⟩ : ByteArray), false)) = some (r1, r2) := by rw [if_neg (show ¬ (false = true) by decide)] at H; exact H
  clear H
  have H := H1
  clear H1
  simp only [Option.some.injEq, Prod.mk.injEq] at H
  obtain ⟨rfl, rfl⟩ := H
  go_enter Try.func66, Try.ntmps66
  go_wp2_with (first | ((with_reducible refine gate_dst (N := 1) rfl ?_); refine Ka_ 1 #[.int .u64 a0_0, .int .u64 a0_1, .int .u64 a0_2, .int .u64 a0_3, .int .i64 a0_4, .slice A0_5 l0_5.length c0_5] 55 ?_; intro gb405 hg w46 hbox hb; have BK405 := Aside0.mk (hbox); have GW405 := Kw_ HB hg; have GE405 := GW405; replace HB := Ks_ HB hb; clear hb hbox hg; obtain ⟨hcz47_0, hcz47_1, hcz47_2, hcz47_3, hcz47_4, hcz47_5, hfz47_0, hfz47_1, hfz47_2, hfz47_3, hfz47_4, hfz47_5⟩ := Ke6_ BK405.out) | ((with_reducible refine gate_callee (f := 74) rfl ?_); refine Kg_ (some 9) rfl rfl Try.func74 (by kernel_rfl) rfl #[.agg #[.int .u64 a0_0, .int .u64 a0_1, .int .u64 a0_2, .int .u64 a0_3, .int .i64 a0_4, .slice A0_5 l0_5.length c0_5]] rfl ?_; (with_reducible refine (tenementref08_Whole.calls k a0_0 a0_1 a0_2 a0_3 a0_4 _ _ l0_5 false _ ?side1 ?side2 A2.out).mono ?_); (case side1 => repeat (first | exact (Kd.C_below HR0_5.out HB.out) | (with_reducible refine Kd.C_alloc ?_ _) | (with_reducible refine Kd.C_drewN ?_ _) | (with_reducible refine Kd.C_drew ?_))); (case side2 => exact HC0_5.out); rintro e w48 ⟨rfl, hb⟩; refine ⟨_, rfl, ?_⟩; replace BK405 := Kb_ BK405 hb; replace HB := Ks_ HB hb; (try clear hb); (try clear hb2); (try clear hk); (try clear hi)))
  go_ret2
  exact ⟨Kh_, Kz_ HB GE405⟩
 subst c3
 have H1 : ((tenementref07_Put.f k a0_0 a0_1 a0_2 a0_3 a0_4).bind fun bt407 => ((tenementref02_Number.f k (IntKind.u64.wrap ((l0_5.length : Int))) 1).bind fun t409 => (if bt407.1.size + t409.size ≤ 9223372036854775807 then (tenementref08_Bytes.l0 k (bt407.1 ++ t409) 0 a0_0 a0_1 a0_2 a0_3 a0_4 l0_5) else (none)))) = some (r1, r2) := by rw [if_pos rfl] at H; exact H
 clear H
 have H := H1
 clear H1
 replace H := Option.bind_eq_some_iff.mp H
 obtain ⟨⟨t407, t408⟩, A40, H⟩ := H
 replace H : ((tenementref02_Number.f k (IntKind.u64.wrap ((l0_5.length : Int))) 1).bind fun t409 => (if t407.size + t409.size ≤ 9223372036854775807 then (tenementref08_Bytes.l0 k (t407 ++ t409) 0 a0_0 a0_1 a0_2 a0_3 a0_4 l0_5) else (none))) = some (r1, r2) := H
 have A4 := Aside0.mk A40
 clear A40
 replace H := Option.bind_eq_some_iff.mp H
 obtain ⟨t409, A50, H⟩ := H
 replace H : (if t407.size + t409.size ≤ 9223372036854775807 then (tenementref08_Bytes.l0 k (t407 ++ t409) 0 a0_0 a0_1 a0_2 a0_3 a0_4 l0_5) else (none)) = some (r1, r2) := H
 have A5 := Aside0.mk A50
 clear A50
 by_cases c6 : t407.size + t409.size ≤ 9223372036854775807
 rotate_left
 ·rw [if_neg c6] at H
  exact absurd H (by simp)
 rw [if_pos c6] at H
 have c6b0 := eq_true c6
 have c6b1 : decide (t407.size + t409.size ≤ 9223372036854775807) = true := decide_eq_true c6
 try have c6b2 : (9223372036854775807 < t407.size + t409.size) = False := eq_false (Nat.not_lt.2 c6)
 have H' := Aside0.mk H
 clear H
 go_enter Try.func66, Try.ntmps66
 go_wp2_with (first | ((with_reducible refine gate_dst (N := 1) rfl ?_); refine Ka_ 1 #[.int .u64 a0_0, .int .u64 a0_1, .int .u64 a0_2, .int .u64 a0_3, .int .i64 a0_4, .slice A0_5 l0_5.length c0_5] 55 ?_; intro gb405 hg w7 hbox hb; have BK405 := Aside0.mk (hbox); have GW405 := Kw_ HB hg; have GE405 := GW405; replace HB := Ks_ HB hb; clear hb hbox hg; obtain ⟨hcz8_0, hcz8_1, hcz8_2, hcz8_3, hcz8_4, hcz8_5, hfz8_0, hfz8_1, hfz8_2, hfz8_3, hfz8_4, hfz8_5⟩ := Ke6_ BK405.out) | ((with_reducible refine gate_callee (f := 74) rfl ?_); refine Kg_ (some 9) rfl rfl Try.func74 (by kernel_rfl) rfl #[.agg #[.int .u64 a0_0, .int .u64 a0_1, .int .u64 a0_2, .int .u64 a0_3, .int .i64 a0_4, .slice A0_5 l0_5.length c0_5]] rfl ?_; (with_reducible refine (tenementref08_Whole.calls k a0_0 a0_1 a0_2 a0_3 a0_4 _ _ l0_5 true _ ?side1 ?side2 A2.out).mono ?_); (case side1 => repeat (first | exact (Kd.C_below HR0_5.out HB.out) | (with_reducible refine Kd.C_alloc ?_ _) | (with_reducible refine Kd.C_drewN ?_ _) | (with_reducible refine Kd.C_drew ?_))); (case side2 => exact HC0_5.out); rintro e w9 ⟨rfl, hb⟩; refine ⟨_, rfl, ?_⟩; replace BK405 := Kb_ BK405 hb; replace HB := Ks_ HB hb; (try clear hb); (try clear hb2); (try clear hk); (try clear hi); obtain ⟨hcz10_0, hcz10_1, hcz10_2, hcz10_3, hcz10_4, hcz10_5, hfz10_0, hfz10_1, hfz10_2, hfz10_3, hfz10_4, hfz10_5⟩ := Ke6_ BK405.out) | ((with_reducible refine gate_callee (f := 90) rfl ?_); refine Kg_ (some 14) rfl rfl Try.func90 (by kernel_rfl) rfl #[.agg #[.int .u64 a0_0, .int .u64 a0_1, .int .u64 a0_2, .int .u64 a0_3, .int .i64 a0_4]] rfl ?_; (with_reducible refine (tenementref07_Put.calls k a0_0 a0_1 a0_2 a0_3 a0_4 t407 t408 _ A4.out).mono ?_); rintro e w11 ⟨rfl, hb⟩; refine ⟨_, rfl, ?_⟩; replace BK405 := Kb_ BK405 hb; replace HB := Ks_ HB hb; (try clear hb); (try clear hb2); (try clear hk); (try clear hi); obtain ⟨hcz12_0, hcz12_1, hcz12_2, hcz12_3, hcz12_4, hcz12_5, hfz12_0, hfz12_1, hfz12_2, hfz12_3, hfz12_4, hfz12_5⟩ := Ke6_ BK405.out) | ((with_reducible refine gate_callee (f := 64) rfl ?_); refine Kg_ (some 22) rfl rfl Try.func64 (by kernel_rfl) rfl #[.int .u64 (IntKind.u64.wrap ((l0_5.length : Int))), .int .i64 1] rfl ?_; (with_reducible refine (tenementref02_Number.calls k (IntKind.u64.wrap ((l0_5.length : Int))) 1 t409 _ A5.out).mono ?_); rintro e w13 ⟨rfl, hb⟩; refine ⟨_, rfl, ?_⟩; replace BK405 := Kb_ BK405 hb; replace HB := Ks_ HB hb; (try clear hb); (try clear hb2); (try clear hk); (try clear hi)))
 go_loopg [4, 6] k (fun kq v4 v6 w' => ∃ (x4_1 : ByteArray) (x6_1 : Int), v4 = .string x4_1 ∧ v6 = .int .i64 x6_1 ∧ Aside0 (tenementref08_Bytes.l0 kq x4_1 x6_1 a0_0 a0_1 a0_2 a0_3 a0_4 l0_5 = some (r1, r2)) ∧ Aside0 (kq ≤ k) ∧ Aside0 (w'.heap[gb405]? = some (.cells #[.int .u64 a0_0, .int .u64 a0_1, .int .u64 a0_2, .int .u64 a0_3, .int .i64 a0_4, (.slice A0_5 l0_5.length c0_5)] 55 (0, 0))) ∧ Aside0 (Below w.heap.size w w'))
 case atStart => exact ⟨(t407 ++ t409), (0), (by first | rfl | (simp; done) | (simp [*]; done)), (by first | rfl | (simp; done) | (simp [*]; done)), H', ⟨Nat.le_refl _⟩, ⟨by exact Kq_ BK405⟩, ⟨Kz_ HB GE405⟩⟩
 case round =>
  clear H'
  try clear p2
  try clear c3
  try clear c6
  try clear c6b0
  try clear c6b1
  try clear c6b2
  try clear c7
  try clear c9
  try clear hcz10_0
  try clear hcz10_1
  try clear hcz10_2
  try clear hcz10_3
  try clear hcz10_4
  try clear hcz10_5
  try clear hcz12_0
  try clear hcz12_1
  try clear hcz12_2
  try clear hcz12_3
  try clear hcz12_4
  try clear hcz12_5
  try clear hcz8_0
  try clear hcz8_1
  try clear hcz8_2
  try clear hcz8_3
  try clear hcz8_4
  try clear hcz8_5
  try clear hfz10_0
  try clear hfz10_1
  try clear hfz10_2
  try clear hfz10_3
  try clear hfz10_4
  try clear hfz10_5
  try clear hfz12_0
  try clear hfz12_1
  try clear hfz12_2
  try clear hfz12_3
  try clear hfz12_4
  try clear hfz12_5
  try clear hfz8_0
  try clear hfz8_1
  try clear hfz8_2
  try clear hfz8_3
  try clear hfz8_4
  try clear hfz8_5
  obtain ⟨x4_1, x6_1, rfl, rfl, HA, HK1, BK405, HB⟩ := hrel
  cases gk with
  | zero => exact absurd HA.out (by simp [tenementref08_Bytes.l0])
  | succ k1 =>
   have H := HA.out
   clear HA
   simp only [tenementref08_Bytes.l0] at H
   by_cases c14 : x6_1 < (l0_5.length : Int)
   rotate_left
   ·rw [if_neg c14] at H
    have c14b0 : decide (x6_1 < (l0_5.length : Int)) = false := decide_eq_false c14
    clear c14
    simp only [Option.some.injEq, Prod.mk.injEq] at H
    obtain ⟨rfl, rfl⟩ := H
    obtain ⟨hcz45_0, hcz45_1, hcz45_2, hcz45_3, hcz45_4, hcz45_5, hfz45_0, hfz45_1, hfz45_2, hfz45_3, hfz45_4, hfz45_5⟩ := Ke6_ BK405.out
    go_wp2
    go_ret2
    exact ⟨Kh_, Kz_ HB GE405⟩
   rw [if_pos c14] at H
   have c14b0 : decide (x6_1 < (l0_5.length : Int)) = true := decide_eq_true c14
   clear c14
   by_cases c15 : 0 ≤ x6_1
   rotate_left
   ·rw [if_neg c15] at H
    exact absurd H (by simp)
   rw [if_pos c15] at H
   have c15b0 : decide (0 ≤ x6_1) = true := decide_eq_true c15
   clear c15
   replace H := Option.bind_eq_some_iff.mp H
   obtain ⟨t412, A160, H⟩ := H
   replace H : (if x4_1.size + t412.size ≤ 9223372036854775807 then ((tenementref02_Text.f k1 ((rd_T117 l0_5 x6_1).f1)).bind fun t413 => (if (x4_1 ++ t412).size + t413.size ≤ 9223372036854775807 then (if (rd_T117 l0_5 x6_1).f3 = true then (if ((x4_1 ++ t412) ++ t413).size + 1 ≤ 9223372036854775807 then (tenementref08_Bytes.l0 k1 (((x4_1 ++ t412) ++ t413) ++ (⟨#[1]⟩ : ByteArray)) (wrap64 (x6_1 + 1)) a0_0 a0_1 a0_2 a0_3 a0_4 l0_5) else (none)) else (if ((x4_1 ++ t412) ++ t413).size + 1 ≤ 9223372036854775807 then ((tenementref02_Text.f k1 ((rd_T117 l0_5 x6_1).f2)).bind fun t414 => (if (((x4_1 ++ t412) ++ t413) ++ (⟨#[0]⟩ : ByteArray)).size + t414.size ≤ 9223372036854775807 then (tenementref08_Bytes.l0 k1 ((((x4_1 ++ t412) ++ t413) ++ (⟨#[0]⟩ : ByteArray)) ++ t414) (wrap64 (x6_1 + 1)) a0_0 a0_1 a0_2 a0_3 a0_4 l0_5) else (none))) else (none))) else (none))) else (none)) = some (r1, r2) := H
   have A16 := Aside0.mk A160
   clear A160
   by_cases c17 : x4_1.size + t412.size ≤ 9223372036854775807
   rotate_left
   ·rw [if_neg c17] at H
    exact absurd H (by simp)
   rw [if_pos c17] at H
   have c17b0 := eq_true c17
   have c17b1 : decide (x4_1.size + t412.size ≤ 9223372036854775807) = true := decide_eq_true c17
   try have c17b2 : (9223372036854775807 < x4_1.size + t412.size) = False := eq_false (Nat.not_lt.2 c17)
   replace H := Option.bind_eq_some_iff.mp H
   obtain ⟨t413, A180, H⟩ := H
   replace H : (if (x4_1 ++ t412).size + t413.size ≤ 9223372036854775807 then (if (rd_T117 l0_5 x6_1).f3 = true then (if ((x4_1 ++ t412) ++ t413).size + 1 ≤ 9223372036854775807 then (tenementref08_Bytes.l0 k1 (((x4_1 ++ t412) ++ t413) ++ (⟨#[1]⟩ : ByteArray)) (wrap64 (x6_1 + 1)) a0_0 a0_1 a0_2 a0_3 a0_4 l0_5) else (none)) else (if ((x4_1 ++ t412) ++ t413).size + 1 ≤ 9223372036854775807 then ((tenementref02_Text.f k1 ((rd_T117 l0_5 x6_1).f2)).bind fun t414 => (if (((x4_1 ++ t412) ++ t413) ++ (⟨#[0]⟩ : ByteArray)).size + t414.size ≤ 9223372036854775807 then (tenementref08_Bytes.l0 k1 ((((x4_1 ++ t412) ++ t413) ++ (⟨#[0]⟩ : ByteArray)) ++ t414) (wrap64 (x6_1 + 1)) a0_0 a0_1 a0_2 a0_3 a0_4 l0_5) else (none))) else (none))) else (none)) = some (r1, r2) := H
   have A18 := Aside0.mk A180
   clear A180
   by_cases c19 : (x4_1 ++ t412).size + t413.size ≤ 9223372036854775807
   rotate_left
   ·rw [if_neg c19] at H
    exact absurd H (by simp)
   rw [if_pos c19] at H
   have c19b0 := eq_true c19
   (try (have c19b0s_ := c19b0; simp only [ByteArray.size_append, Int.natCast_add, show (⟨#[0]⟩ : ByteArray).size = 1 from rfl, show (⟨#[1]⟩ : ByteArray).size = 1 from rfl] at c19b0s_))
   have c19b1 : decide ((x4_1 ++ t412).size + t413.size ≤ 9223372036854775807) = true := decide_eq_true c19
   (try (have c19b1s_ := c19b1; simp only [ByteArray.size_append, Int.natCast_add, show (⟨#[0]⟩ : ByteArray).size = 1 from rfl, show (⟨#[1]⟩ : ByteArray).size = 1 from rfl] at c19b1s_))
   try have c19b2 : (9223372036854775807 < (x4_1 ++ t412).size + t413.size) = False := eq_false (Nat.not_lt.2 c19)
   (try (have c19b2s_ := c19b2; simp only [ByteArray.size_append, Int.natCast_add, show (⟨#[0]⟩ : ByteArray).size = 1 from rfl, show (⟨#[1]⟩ : ByteArray).size = 1 from rfl] at c19b2s_))
   obtain ⟨bq20, hbq20⟩ : ∃ b_ : Bool, b_ = ((rd_T117 l0_5 x6_1).f3) := ⟨_, rfl⟩
   replace H : (if bq20 = true then (if ((x4_1 ++ t412) ++ t413).size + 1 ≤ 9223372036854775807 then (tenementref08_Bytes.l0 k1 (((x4_1 ++ t412) ++ t413) ++ (⟨#[1]⟩ : ByteArray)) (wrap64 (x6_1 + 1)) a0_0 a0_1 a0_2 a0_3 a0_4 l0_5) else (none)) else (if ((x4_1 ++ t412) ++ t413).size + 1 ≤ 9223372036854775807 then ((tenementref02_Text.f k1 ((rd_T117 l0_5 x6_1).f2)).bind fun t414 => (if (((x4_1 ++ t412) ++ t413) ++ (⟨#[0]⟩ : ByteArray)).size + t414.size ≤ 9223372036854775807 then (tenementref08_Bytes.l0 k1 ((((x4_1 ++ t412) ++ t413) ++ (⟨#[0]⟩ : ByteArray)) ++ t414) (wrap64 (x6_1 + 1)) a0_0 a0_1 a0_2 a0_3 a0_4 l0_5) else (none))) else (none))) = some (r1, r2) := by rw [← hbq20] at H; exact H
   have Nbq20 := Aside0.mk hbq20
   clear hbq20
   by_cases c21 : bq20 = true
   ·subst c21
    have H1 : (if ((x4_1 ++ t412) ++ t413).size + 1 ≤ 9223372036854775807 then (tenementref08_Bytes.l0 k1 (((x4_1 ++ t412) ++ t413) ++ (⟨#[1]⟩ : ByteArray)) (wrap64 (x6_1 + 1)) a0_0 a0_1 a0_2 a0_3 a0_4 l0_5) else (none)) = some (r1, r2) := by rw [if_pos rfl] at H; exact H
    clear H
    have H := H1
    clear H1
    by_cases c22 : ((x4_1 ++ t412) ++ t413).size + 1 ≤ 9223372036854775807
    rotate_left
    ·rw [if_neg c22] at H
     exact absurd H (by simp)
    rw [if_pos c22] at H
    have c22b0 := eq_true c22
    (try (have c22b0s_ := c22b0; simp only [ByteArray.size_append, Int.natCast_add, show (⟨#[0]⟩ : ByteArray).size = 1 from rfl, show (⟨#[1]⟩ : ByteArray).size = 1 from rfl] at c22b0s_))
    have c22b1 : decide (((x4_1 ++ t412) ++ t413).size + 1 ≤ 9223372036854775807) = true := decide_eq_true c22
    (try (have c22b1s_ := c22b1; simp only [ByteArray.size_append, Int.natCast_add, show (⟨#[0]⟩ : ByteArray).size = 1 from rfl, show (⟨#[1]⟩ : ByteArray).size = 1 from rfl] at c22b1s_))
    try have c22b2 : (9223372036854775807 < ((x4_1 ++ t412) ++ t413).size + 1) = False := eq_false (Nat.not_lt.2 c22)
    (try (have c22b2s_ := c22b2; simp only [ByteArray.size_append, Int.natCast_add, show (⟨#[0]⟩ : ByteArray).size = 1 from rfl, show (⟨#[1]⟩ : ByteArray).size = 1 from rfl] at c22b2s_))
    have H' := Aside0.mk H
    clear H
    obtain ⟨hcz23_0, hcz23_1, hcz23_2, hcz23_3, hcz23_4, hcz23_5, hfz23_0, hfz23_1, hfz23_2, hfz23_3, hfz23_4, hfz23_5⟩ := Ke6_ BK405.out
    have p410 : 0 ≤ (x6_1 : Int) := of_decide_eq_true (by first | (with_reducible assumption) | assumption)
    have q410 : x6_1 < (l0_5.length : Int) := of_decide_eq_true (by first | (with_reducible assumption) | assumption)
    obtain ⟨ad410, e410, hx410_0, hx410_1, hx410_2, hx410_3⟩ := at_T117 HR0_5.out x6_1 p410 q410
    (try rw [← Nbq20.out] at hx410_3)
    cases e410
    replace hx410_0 := (HB.out.cell (World.block_lt_of_cell? w _ hx410_0)).trans hx410_0
    replace hx410_1 := (HB.out.cell (World.block_lt_of_cell? w _ hx410_1)).trans hx410_1
    replace hx410_2 := (HB.out.cell (World.block_lt_of_cell? w _ hx410_2)).trans hx410_2
    replace hx410_3 := (HB.out.cell (World.block_lt_of_cell? w _ hx410_3)).trans hx410_3
    replace p410 := eq_true p410
    replace q410 := eq_true q410
    try go_wp2_with (first | ((with_reducible refine gate_dst (N := 7) rfl ?_); refine Ka_ 7 #[.string (⟨#[]⟩ : ByteArray), .string (⟨#[]⟩ : ByteArray), .string (⟨#[]⟩ : ByteArray), .bool false] 117 ?_; intro gb411 hg w24 hbox hb; have BK411 := Aside0.mk (hbox); have GW411 := Kw_ HB hg; have GE411 := GW411; have NB405_411 := Kl_ BK405 hg; have NB411_405 := Kr_ BK405 hg; replace BK405 := Kb_ BK405 hb; replace HB := Ks_ HB hb; clear hb hbox hg; have hnb25 := NB411_405.out; have hnc25 := NB405_411.out; obtain ⟨hcz26_0, hcz26_1, hcz26_2, hcz26_3, hfz26_0, hfz26_1, hfz26_2, hfz26_3⟩ := Ke4_ BK411.out))
    have n0_ : Aside0 (((((w24.setCell ⟨gb411, 0, none⟩ (.string ((rd_T117 l0_5 x6_1).f0))).setCell ⟨gb411, 1, none⟩ (.string ((rd_T117 l0_5 x6_1).f1))).setCell ⟨gb411, 2, none⟩ (.string ((rd_T117 l0_5 x6_1).f2))).setCell ⟨gb411, 3, none⟩ (.bool true)).heap[gb405]? = some (.cells #[.int .u64 a0_0, .int .u64 a0_1, .int .u64 a0_2, .int .u64 a0_3, .int .i64 a0_4, .slice (some ad410) l0_5.length c0_5] 55 (0, 0))) := ⟨by exact K1b_ BK405 NB405_411⟩
    have n1_ : Aside0 (((((w24.setCell ⟨gb411, 0, none⟩ (.string ((rd_T117 l0_5 x6_1).f0))).setCell ⟨gb411, 1, none⟩ (.string ((rd_T117 l0_5 x6_1).f1))).setCell ⟨gb411, 2, none⟩ (.string ((rd_T117 l0_5 x6_1).f2))).setCell ⟨gb411, 3, none⟩ (.bool true)).heap[gb411]? = some (.cells #[.string ((rd_T117 l0_5 x6_1).f0), .string ((rd_T117 l0_5 x6_1).f1), .string ((rd_T117 l0_5 x6_1).f2), .bool true] 117 (0, 0))) := ⟨by refine Kv_ ?_; refine blk_put (cs := #[.string ((rd_T117 l0_5 x6_1).f0), .string ((rd_T117 l0_5 x6_1).f1), .string ((rd_T117 l0_5 x6_1).f2), .bool false]) ?_ 3 _ rfl; refine Kv_ ?_; refine blk_put (cs := #[.string ((rd_T117 l0_5 x6_1).f0), .string ((rd_T117 l0_5 x6_1).f1), .string (⟨#[]⟩ : ByteArray), .bool false]) ?_ 2 _ rfl; refine Kv_ ?_; refine blk_put (cs := #[.string ((rd_T117 l0_5 x6_1).f0), .string (⟨#[]⟩ : ByteArray), .string (⟨#[]⟩ : ByteArray), .bool false]) ?_ 1 _ rfl; refine Kv_ ?_; refine blk_put (cs := #[.string (⟨#[]⟩ : ByteArray), .string (⟨#[]⟩ : ByteArray), .string (⟨#[]⟩ : ByteArray), .bool false]) ?_ 0 _ rfl; exact Kq_ BK411⟩
    have n2_ : Aside0 (Below w.heap.size w ((((w24.setCell ⟨gb411, 0, none⟩ (.string ((rd_T117 l0_5 x6_1).f0))).setCell ⟨gb411, 1, none⟩ (.string ((rd_T117 l0_5 x6_1).f1))).setCell ⟨gb411, 2, none⟩ (.string ((rd_T117 l0_5 x6_1).f2))).setCell ⟨gb411, 3, none⟩ (.bool true))) := ⟨K2a_ HB GE405 GE411⟩
    (try clear BK405)
    (try clear BK411)
    (try clear HB)
    generalize ((((w24.setCell ⟨gb411, 0, none⟩ (.string ((rd_T117 l0_5 x6_1).f0))).setCell ⟨gb411, 1, none⟩ (.string ((rd_T117 l0_5 x6_1).f1))).setCell ⟨gb411, 2, none⟩ (.string ((rd_T117 l0_5 x6_1).f2))).setCell ⟨gb411, 3, none⟩ (.bool true)) = w27 at n0_ n1_ n2_ ⊢
    have BK405 := n0_
    have BK411 := n1_
    have HB := n2_
    clear n0_ n1_ n2_
    replace BK405 := Kd_ BK405
    replace BK411 := Kd_ BK411
    replace HB := Aside0.mk (below_drew1 HB.out)
    refine start_ (n := 10) (S := fun w' => w'.cell? ⟨gb411, 0, none⟩ = some (.string ((rd_T117 l0_5 x6_1).f0)) ∧ w'.cell? ⟨gb411, 1, none⟩ = some (.string ((rd_T117 l0_5 x6_1).f1)) ∧ w'.cell? ⟨gb411, 2, none⟩ = some (.string ((rd_T117 l0_5 x6_1).f2)) ∧ w'.cell? ⟨gb411, 3, none⟩ = some (.bool true)) (ds := []) (mB_ 10 0) (by kernel_rfl) rfl rfl (Kc4_ BK411.out) (fun hHeld => ?_); refine with_tabW tenementref08_Bytes.tab9 tenementref08_Bytes.bits9 (fun HT_ HW_ => ?_)
    generalize w27.drew = w28 at BK405 BK411 HB hHeld ⊢
    refine Kp_ 0 36 (mB_ 10 1) (any_of HT_.out (by kernel_rfl)) ?_
    refine Kp_ 1 37 (mB_ 10 3) (any_of HT_.out (by kernel_rfl)) ?_
    refine Kp_ 5 41 (mB_ 10 35) (any_of HT_.out (by kernel_rfl)) ?_
    refine Ko_ 2 38 (mB_ 10 39) (take_ofW HT_.out HW_.out (by kernel_rfl)) hHeld ?_
    refine Ko_ 6 42 (mB_ 10 103) (take_ofW HT_.out HW_.out (by kernel_rfl)) hHeld ?_
    refine one_ (i := 3) (N := some 39) (mB_ 10 111) rfl rfl (one_of HT_.out (by kernel_rfl)) (by decide) (fun K hK => ?_)
    refine goes_ Try.func67 (by kernel_rfl) rfl #[.string ((rd_T117 l0_5 x6_1).f0)] (by rfl) rfl rfl (by (try simp only [List.map_toArray, List.map_cons, List.map_nil]); first | done | rfl | (simp only [List.length_drop, List.length_take]; rfl)) ?_
    with_reducible refine (tenementref02_Text.calls k1 ((rd_T117 l0_5 x6_1).f0) t412 _ A16.out).mono ?_
    rintro e w29 ⟨rfl, hb⟩
    refine ⟨_, rfl, ?_⟩
    replace BK405 := Kb_ BK405 hb
    replace BK411 := Kb_ BK411 hb
    replace HB := Ks_ HB hb
    (try clear hb)
    (try clear hb2)
    (try clear hk)
    (try clear hi)
    refine hK.out _ _ (Kc4_ BK411.out) (fun hHeld => ?_)
    clear hK K
    refine Kn_ 39 ?_
    refine Kp_ 4 40 (mB_ 10 127) (any_of HT_.out (by kernel_rfl)) ?_
    refine one_ (i := 7) (N := some 43) (mB_ 10 255) rfl rfl (one_of HT_.out (by kernel_rfl)) (by decide) (fun K hK => ?_)
    refine goes_ Try.func67 (by kernel_rfl) rfl #[.string ((rd_T117 l0_5 x6_1).f1)] (by rfl) rfl rfl (by (try simp only [List.map_toArray, List.map_cons, List.map_nil]); first | done | rfl | (simp only [List.length_drop, List.length_take]; rfl)) ?_
    with_reducible refine (tenementref02_Text.calls k1 ((rd_T117 l0_5 x6_1).f1) t413 _ A18.out).mono ?_
    rintro e w30 ⟨rfl, hb⟩
    refine ⟨_, rfl, ?_⟩
    replace BK405 := Kb_ BK405 hb
    replace BK411 := Kb_ BK411 hb
    replace HB := Ks_ HB hb
    (try clear hb)
    (try clear hb2)
    (try clear hk)
    (try clear hi)
    refine hK.out _ _ (Kc4_ BK411.out) (fun hHeld => ?_)
    clear hK K
    refine Kn_ 43 ?_
    refine Kp_ 8 44 (mB_ 10 511) (any_of HT_.out (by kernel_rfl)) ?_
    refine Kp_ 9 4 (mB_ 10 1023) (any_of HT_.out (by kernel_rfl)) ?_
    refine done_ (done_of HT_.out (by kernel_rfl)) ?_
    obtain ⟨hcz31_0, hcz31_1, hcz31_2, hcz31_3, hfz31_0, hfz31_1, hfz31_2, hfz31_3⟩ := Ke4_ BK411.out
    try go_wp2
    go_roundg k1
    case measure => have := HK1.out; omega
    case rel => exact ⟨(((x4_1 ++ t412) ++ t413) ++ (⟨#[1]⟩ : ByteArray)), (wrap64 (x6_1 + 1)), (by first | rfl | (simp; done) | (simp [*]; done)), (by first | rfl | (simp; done) | (simp [*]; done)), H', ⟨by have := HK1.out; omega⟩, ⟨by exact Kq_ BK405⟩, ⟨K2a_ HB GE405 GE411⟩⟩
   replace c21 := Bool.eq_false_iff.mpr c21
   subst c21
   have H1 : (if ((x4_1 ++ t412) ++ t413).size + 1 ≤ 9223372036854775807 then ((tenementref02_Text.f k1 ((rd_T117 l0_5 x6_1).f2)).bind fun t414 => (if (((x4_1 ++ t412) ++ t413) ++ (⟨#[0]⟩ : ByteArray)).size + t414.size ≤ 9223372036854775807 then (tenementref08_Bytes.l0 k1 ((((x4_1 ++ t412) ++ t413) ++ (⟨#[0]⟩ : ByteArray)) ++ t414) (wrap64 (x6_1 + 1)) a0_0 a0_1 a0_2 a0_3 a0_4 l0_5) else (none))) else (none)) = some (r1, r2) := by rw [if_neg (show ¬ (false = true) by decide)] at H; exact H
   clear H
   have H := H1
   clear H1
   by_cases c32 : ((x4_1 ++ t412) ++ t413).size + 1 ≤ 9223372036854775807
   rotate_left
   ·rw [if_neg c32] at H
    exact absurd H (by simp)
   rw [if_pos c32] at H
   have c32b0 := eq_true c32
   (try (have c32b0s_ := c32b0; simp only [ByteArray.size_append, Int.natCast_add, show (⟨#[0]⟩ : ByteArray).size = 1 from rfl, show (⟨#[1]⟩ : ByteArray).size = 1 from rfl] at c32b0s_))
   have c32b1 : decide (((x4_1 ++ t412) ++ t413).size + 1 ≤ 9223372036854775807) = true := decide_eq_true c32
   (try (have c32b1s_ := c32b1; simp only [ByteArray.size_append, Int.natCast_add, show (⟨#[0]⟩ : ByteArray).size = 1 from rfl, show (⟨#[1]⟩ : ByteArray).size = 1 from rfl] at c32b1s_))
   try have c32b2 : (9223372036854775807 < ((x4_1 ++ t412) ++ t413).size + 1) = False := eq_false (Nat.not_lt.2 c32)
   (try (have c32b2s_ := c32b2; simp only [ByteArray.size_append, Int.natCast_add, show (⟨#[0]⟩ : ByteArray).size = 1 from rfl, show (⟨#[1]⟩ : ByteArray).size = 1 from rfl] at c32b2s_))
   replace H := Option.bind_eq_some_iff.mp H
   obtain ⟨t414, A330, H⟩ := H
   replace H : (if (((x4_1 ++ t412) ++ t413) ++ (⟨#[0]⟩ : ByteArray)).size + t414.size ≤ 9223372036854775807 then (tenementref08_Bytes.l0 k1 ((((x4_1 ++ t412) ++ t413) ++ (⟨#[0]⟩ : ByteArray)) ++ t414) (wrap64 (x6_1 + 1)) a0_0 a0_1 a0_2 a0_3 a0_4 l0_5) else (none)) = some (r1, r2) := H
   have A33 := Aside0.mk A330
   clear A330
   by_cases c34 : (((x4_1 ++ t412) ++ t413) ++ (⟨#[0]⟩ : ByteArray)).size + t414.size ≤ 9223372036854775807
   rotate_left
   ·rw [if_neg c34] at H
    exact absurd H (by simp)
   rw [if_pos c34] at H
   have c34b0 := eq_true c34
   (try (have c34b0s_ := c34b0; simp only [ByteArray.size_append, Int.natCast_add, show (⟨#[0]⟩ : ByteArray).size = 1 from rfl, show (⟨#[1]⟩ : ByteArray).size = 1 from rfl] at c34b0s_))
   have c34b1 : decide ((((x4_1 ++ t412) ++ t413) ++ (⟨#[0]⟩ : ByteArray)).size + t414.size ≤ 9223372036854775807) = true := decide_eq_true c34
   (try (have c34b1s_ := c34b1; simp only [ByteArray.size_append, Int.natCast_add, show (⟨#[0]⟩ : ByteArray).size = 1 from rfl, show (⟨#[1]⟩ : ByteArray).size = 1 from rfl] at c34b1s_))
   try have c34b2 : (9223372036854775807 < (((x4_1 ++ t412) ++ t413) ++ (⟨#[0]⟩ : ByteArray)).size + t414.size) = False := eq_false (Nat.not_lt.2 c34)
   (try (have c34b2s_ := c34b2; simp only [ByteArray.size_append, Int.natCast_add, show (⟨#[0]⟩ : ByteArray).size = 1 from rfl, show (⟨#[1]⟩ : ByteArray).size = 1 from rfl] at c34b2s_))
   have H' := Aside0.mk H
   clear H
   obtain ⟨hcz35_0, hcz35_1, hcz35_2, hcz35_3, hcz35_4, hcz35_5, hfz35_0, hfz35_1, hfz35_2, hfz35_3, hfz35_4, hfz35_5⟩ := Ke6_ BK405.out
   have p410 : 0 ≤ (x6_1 : Int) := of_decide_eq_true (by first | (with_reducible assumption) | assumption)
   have q410 : x6_1 < (l0_5.length : Int) := of_decide_eq_true (by first | (with_reducible assumption) | assumption)
   obtain ⟨ad410, e410, hx410_0, hx410_1, hx410_2, hx410_3⟩ := at_T117 HR0_5.out x6_1 p410 q410
   (try rw [← Nbq20.out] at hx410_3)
   cases e410
   replace hx410_0 := (HB.out.cell (World.block_lt_of_cell? w _ hx410_0)).trans hx410_0
   replace hx410_1 := (HB.out.cell (World.block_lt_of_cell? w _ hx410_1)).trans hx410_1
   replace hx410_2 := (HB.out.cell (World.block_lt_of_cell? w _ hx410_2)).trans hx410_2
   replace hx410_3 := (HB.out.cell (World.block_lt_of_cell? w _ hx410_3)).trans hx410_3
   replace p410 := eq_true p410
   replace q410 := eq_true q410
   try go_wp2_with (first | ((with_reducible refine gate_dst (N := 7) rfl ?_); refine Ka_ 7 #[.string (⟨#[]⟩ : ByteArray), .string (⟨#[]⟩ : ByteArray), .string (⟨#[]⟩ : ByteArray), .bool false] 117 ?_; intro gb411 hg w36 hbox hb; have BK411 := Aside0.mk (hbox); have GW411 := Kw_ HB hg; have GE411 := GW411; have NB405_411 := Kl_ BK405 hg; have NB411_405 := Kr_ BK405 hg; replace BK405 := Kb_ BK405 hb; replace HB := Ks_ HB hb; clear hb hbox hg; have hnb37 := NB411_405.out; have hnc37 := NB405_411.out; obtain ⟨hcz38_0, hcz38_1, hcz38_2, hcz38_3, hfz38_0, hfz38_1, hfz38_2, hfz38_3⟩ := Ke4_ BK411.out))
   have n0_ : Aside0 (((((w36.setCell ⟨gb411, 0, none⟩ (.string ((rd_T117 l0_5 x6_1).f0))).setCell ⟨gb411, 1, none⟩ (.string ((rd_T117 l0_5 x6_1).f1))).setCell ⟨gb411, 2, none⟩ (.string ((rd_T117 l0_5 x6_1).f2))).setCell ⟨gb411, 3, none⟩ (.bool false)).heap[gb405]? = some (.cells #[.int .u64 a0_0, .int .u64 a0_1, .int .u64 a0_2, .int .u64 a0_3, .int .i64 a0_4, .slice (some ad410) l0_5.length c0_5] 55 (0, 0))) := ⟨by exact K1b_ BK405 NB405_411⟩
   have n1_ : Aside0 (((((w36.setCell ⟨gb411, 0, none⟩ (.string ((rd_T117 l0_5 x6_1).f0))).setCell ⟨gb411, 1, none⟩ (.string ((rd_T117 l0_5 x6_1).f1))).setCell ⟨gb411, 2, none⟩ (.string ((rd_T117 l0_5 x6_1).f2))).setCell ⟨gb411, 3, none⟩ (.bool false)).heap[gb411]? = some (.cells #[.string ((rd_T117 l0_5 x6_1).f0), .string ((rd_T117 l0_5 x6_1).f1), .string ((rd_T117 l0_5 x6_1).f2), .bool false] 117 (0, 0))) := ⟨by refine Kv_ ?_; refine blk_put (cs := #[.string ((rd_T117 l0_5 x6_1).f0), .string ((rd_T117 l0_5 x6_1).f1), .string ((rd_T117 l0_5 x6_1).f2), .bool false]) ?_ 3 _ rfl; refine Kv_ ?_; refine blk_put (cs := #[.string ((rd_T117 l0_5 x6_1).f0), .string ((rd_T117 l0_5 x6_1).f1), .string (⟨#[]⟩ : ByteArray), .bool false]) ?_ 2 _ rfl; refine Kv_ ?_; refine blk_put (cs := #[.string ((rd_T117 l0_5 x6_1).f0), .string (⟨#[]⟩ : ByteArray), .string (⟨#[]⟩ : ByteArray), .bool false]) ?_ 1 _ rfl; refine Kv_ ?_; refine blk_put (cs := #[.string (⟨#[]⟩ : ByteArray), .string (⟨#[]⟩ : ByteArray), .string (⟨#[]⟩ : ByteArray), .bool false]) ?_ 0 _ rfl; exact Kq_ BK411⟩
   have n2_ : Aside0 (Below w.heap.size w ((((w36.setCell ⟨gb411, 0, none⟩ (.string ((rd_T117 l0_5 x6_1).f0))).setCell ⟨gb411, 1, none⟩ (.string ((rd_T117 l0_5 x6_1).f1))).setCell ⟨gb411, 2, none⟩ (.string ((rd_T117 l0_5 x6_1).f2))).setCell ⟨gb411, 3, none⟩ (.bool false))) := ⟨K2a_ HB GE405 GE411⟩
   (try clear BK405)
   (try clear BK411)
   (try clear HB)
   generalize ((((w36.setCell ⟨gb411, 0, none⟩ (.string ((rd_T117 l0_5 x6_1).f0))).setCell ⟨gb411, 1, none⟩ (.string ((rd_T117 l0_5 x6_1).f1))).setCell ⟨gb411, 2, none⟩ (.string ((rd_T117 l0_5 x6_1).f2))).setCell ⟨gb411, 3, none⟩ (.bool false)) = w39 at n0_ n1_ n2_ ⊢
   have BK405 := n0_
   have BK411 := n1_
   have HB := n2_
   clear n0_ n1_ n2_
   replace BK405 := Kd_ BK405
   replace BK411 := Kd_ BK411
   replace HB := Aside0.mk (below_drew1 HB.out)
   refine start_ (n := 10) (S := fun w' => w'.cell? ⟨gb411, 0, none⟩ = some (.string ((rd_T117 l0_5 x6_1).f0)) ∧ w'.cell? ⟨gb411, 1, none⟩ = some (.string ((rd_T117 l0_5 x6_1).f1)) ∧ w'.cell? ⟨gb411, 2, none⟩ = some (.string ((rd_T117 l0_5 x6_1).f2)) ∧ w'.cell? ⟨gb411, 3, none⟩ = some (.bool false)) (ds := []) (mB_ 10 0) (by kernel_rfl) rfl rfl (Kc4_ BK411.out) (fun hHeld => ?_); refine with_tabW tenementref08_Bytes.tab9 tenementref08_Bytes.bits9 (fun HT_ HW_ => ?_)
   generalize w39.drew = w40 at BK405 BK411 HB hHeld ⊢
   refine Kp_ 0 36 (mB_ 10 1) (any_of HT_.out (by kernel_rfl)) ?_
   refine Kp_ 1 37 (mB_ 10 3) (any_of HT_.out (by kernel_rfl)) ?_
   refine Kp_ 5 41 (mB_ 10 35) (any_of HT_.out (by kernel_rfl)) ?_
   refine Ko_ 2 38 (mB_ 10 39) (take_ofW HT_.out HW_.out (by kernel_rfl)) hHeld ?_
   refine Ko_ 6 42 (mB_ 10 103) (take_ofW HT_.out HW_.out (by kernel_rfl)) hHeld ?_
   refine one_ (i := 3) (N := some 39) (mB_ 10 111) rfl rfl (one_of HT_.out (by kernel_rfl)) (by decide) (fun K hK => ?_)
   refine goes_ Try.func67 (by kernel_rfl) rfl #[.string ((rd_T117 l0_5 x6_1).f0)] (by rfl) rfl rfl (by (try simp only [List.map_toArray, List.map_cons, List.map_nil]); first | done | rfl | (simp only [List.length_drop, List.length_take]; rfl)) ?_
   with_reducible refine (tenementref02_Text.calls k1 ((rd_T117 l0_5 x6_1).f0) t412 _ A16.out).mono ?_
   rintro e w41 ⟨rfl, hb⟩
   refine ⟨_, rfl, ?_⟩
   replace BK405 := Kb_ BK405 hb
   replace BK411 := Kb_ BK411 hb
   replace HB := Ks_ HB hb
   (try clear hb)
   (try clear hb2)
   (try clear hk)
   (try clear hi)
   refine hK.out _ _ (Kc4_ BK411.out) (fun hHeld => ?_)
   clear hK K
   refine Kn_ 39 ?_
   refine Kp_ 4 40 (mB_ 10 127) (any_of HT_.out (by kernel_rfl)) ?_
   refine one_ (i := 7) (N := some 43) (mB_ 10 255) rfl rfl (one_of HT_.out (by kernel_rfl)) (by decide) (fun K hK => ?_)
   refine goes_ Try.func67 (by kernel_rfl) rfl #[.string ((rd_T117 l0_5 x6_1).f1)] (by rfl) rfl rfl (by (try simp only [List.map_toArray, List.map_cons, List.map_nil]); first | done | rfl | (simp only [List.length_drop, List.length_take]; rfl)) ?_
   with_reducible refine (tenementref02_Text.calls k1 ((rd_T117 l0_5 x6_1).f1) t413 _ A18.out).mono ?_
   rintro e w42 ⟨rfl, hb⟩
   refine ⟨_, rfl, ?_⟩
   replace BK405 := Kb_ BK405 hb
   replace BK411 := Kb_ BK411 hb
   replace HB := Ks_ HB hb
   (try clear hb)
   (try clear hb2)
   (try clear hk)
   (try clear hi)
   refine hK.out _ _ (Kc4_ BK411.out) (fun hHeld => ?_)
   clear hK K
   refine Kn_ 43 ?_
   refine Kp_ 8 44 (mB_ 10 511) (any_of HT_.out (by kernel_rfl)) ?_
   refine Kp_ 9 4 (mB_ 10 1023) (any_of HT_.out (by kernel_rfl)) ?_
   refine done_ (done_of HT_.out (by kernel_rfl)) ?_
   obtain ⟨hcz43_0, hcz43_1, hcz43_2, hcz43_3, hfz43_0, hfz43_1, hfz43_2, hfz43_3⟩ := Ke4_ BK411.out
   try go_wp2_with (first | ((with_reducible refine gate_callee (f := 67) rfl ?_); refine Kg_ (some 53) rfl rfl Try.func67 (by kernel_rfl) rfl #[.string ((rd_T117 l0_5 x6_1).f2)] rfl ?_; (with_reducible refine (tenementref02_Text.calls k1 ((rd_T117 l0_5 x6_1).f2) t414 _ A33.out).mono ?_); rintro e w44 ⟨rfl, hb⟩; refine ⟨_, rfl, ?_⟩; replace BK405 := Kb_ BK405 hb; replace BK411 := Kb_ BK411 hb; replace HB := Ks_ HB hb; (try clear hb); (try clear hb2); (try clear hk); (try clear hi)))
   go_roundg k1
   case measure => have := HK1.out; omega
   case rel => exact ⟨((((x4_1 ++ t412) ++ t413) ++ (⟨#[0]⟩ : ByteArray)) ++ t414), (wrap64 (x6_1 + 1)), (by first | rfl | (simp; done) | (simp [*]; done)), (by first | rfl | (simp; done) | (simp [*]; done)), H', ⟨by have := HK1.out; omega⟩, ⟨by exact Kq_ BK405⟩, ⟨K2a_ HB GE405 GE411⟩⟩
def tenementref01_step.l0 : Nat → Int → Int → Option (Int)
 | 0, _, _ => none
 | k + 1, x0, x5 => if x5 < 8 then (if (Int.tmod x0 2) = 1 then (tenementref01_step.l0 k (Go.bits .xor .u32 (x0 / 2) 3988292384) (wrap64 (x5 + 1))) else (tenementref01_step.l0 k (x0 / 2) (wrap64 (x5 + 1)))) else (some x0)
def tenementref01_step.f (k : Nat) (a0 : Int) (a1 : Int) : Option (Int) := tenementref01_step.l0 k (Go.bits .xor .u32 a0 ((a1) % 4294967296)) 0
set_option maxHeartbeats 8000000 in
set_option maxRecDepth 100000 in
theorem tenementref01_step.calls (k : Nat) (a0 : Int) (a1 : Int) (r : Int) (w : World) (h : tenementref01_step.f k a0 a1 = some r) :
  Calls Try.prog 91 #[.int .u32 a0, .int .u8 a1] w fun e w' => e = .returned (.int .u32 r) ∧ Drawn0 w w' := by
 have H : (tenementref01_step.l0 k (Go.bits .xor .u32 a0 ((a1) % 4294967296)) 0) = some r := h
 clear h
 have H' := Aside0.mk H
 clear H
 go_enter Try.func91, Try.ntmps91
 go_wp2
 go_loopg [0, 5] k (fun kq v0 v5 w' => ∃ (x0_1 : Int) (x5_1 : Int), v0 = .int .u32 x0_1 ∧ v5 = .int .i64 x5_1 ∧ Aside0 (tenementref01_step.l0 kq x0_1 x5_1 = some r) ∧ Aside0 (kq ≤ k) ∧ Drawn0 w w')
 case atStart => exact ⟨(Go.bits .xor .u32 a0 ((a1) % 4294967296)), (0), (by first | rfl | (simp; done) | (simp [*]; done)), (by first | rfl | (simp; done) | (simp [*]; done)), H', ⟨Nat.le_refl _⟩, by repeat (first | exact Drawn0.refl _ | apply Drawn0.step)⟩
 case round =>
  clear H'
  try clear p2
  obtain ⟨x0_1, x5_1, rfl, rfl, HA, HK1, ⟨m1, rfl⟩⟩ := hrel
  cases gk with
  | zero => exact absurd HA.out (by simp [tenementref01_step.l0])
  | succ k1 =>
   have H := HA.out
   clear HA
   simp only [tenementref01_step.l0] at H
   by_cases c3 : x5_1 < 8
   rotate_left
   ·rw [if_neg c3] at H
    have c3b0 : decide (x5_1 < 8) = false := decide_eq_false c3
    clear c3
    obtain rfl := Option.some.inj H
    go_wp2
    go_ret
    exact ⟨by first | rfl | (simp; done) | (simp [*]; done), by repeat (first | exact Drawn0.refl _ | apply Drawn0.step)⟩
   rw [if_pos c3] at H
   have c3b0 : decide (x5_1 < 8) = true := decide_eq_true c3
   clear c3
   by_cases c4 : (Int.tmod x0_1 2) = 1
   rotate_left
   ·rw [if_neg c4] at H
    have c4b0 : ((Int.tmod x0_1 2) == 1) = false := beq_eq_false_iff_ne.mpr c4
    have c4b1 : ((Int.tmod x0_1 2) != 1) = true := bne_iff_ne.mpr c4
    have H' := Aside0.mk H
    clear H
    go_wp2
    go_roundg k1
    case measure => have := HK1.out; omega
    case rel => exact ⟨(x0_1 / 2), (wrap64 (x5_1 + 1)), (by first | rfl | (simp; done) | (simp [*]; done)), (by first | rfl | (simp; done) | (simp [*]; done)), H', ⟨by have := HK1.out; omega⟩, by repeat (first | exact Drawn0.refl _ | apply Drawn0.step)⟩
   rw [if_pos c4] at H
   have c4b0 : ((Int.tmod x0_1 2) == 1) = true := beq_iff_eq.mpr c4
   have c4b1 : ((Int.tmod x0_1 2) != 1) = false := bne_eq_false_iff_eq.mpr c4
   clear c4
   have H' := Aside0.mk H
   clear H
   go_wp2
   go_roundg k1
   case measure => have := HK1.out; omega
   case rel => exact ⟨(Go.bits .xor .u32 (x0_1 / 2) 3988292384), (wrap64 (x5_1 + 1)), (by first | rfl | (simp; done) | (simp [*]; done)), (by first | rfl | (simp; done) | (simp [*]; done)), H', ⟨by have := HK1.out; omega⟩, by repeat (first | exact Drawn0.refl _ | apply Drawn0.step)⟩
def tenementref01_Sum.l0 : Nat → ByteArray → Int → Int → Option (Int)
 | 0, _, _, _ => none
 | k + 1, x0, x3, x4 => if x4 < (x0.size : Int) then (if 0 ≤ x4 then ((tenementref01_step.f k x3 (bt x0 x4)).bind fun t415 => (tenementref01_Sum.l0 k x0 t415 (wrap64 (x4 + 1)))) else (none)) else (some (Go.bits .xor .u32 4294967295 x3))
def tenementref01_Sum.f (k : Nat) (a0 : ByteArray) : Option (Int) := tenementref01_Sum.l0 k a0 4294967295 0
set_option maxHeartbeats 8000000 in
set_option maxRecDepth 100000 in
theorem tenementref01_Sum.calls (k : Nat) (a0 : ByteArray) (r : Int) (w : World) (h : tenementref01_Sum.f k a0 = some r) :
  Calls Try.prog 68 #[.string a0] w fun e w' => e = .returned (.int .u32 r) ∧ Drawn0 w w' := by
 have H : (tenementref01_Sum.l0 k a0 4294967295 0) = some r := h
 clear h
 have H' := Aside0.mk H
 clear H
 go_enter Try.func68, Try.ntmps68
 go_wp2
 go_loopg [3, 4] k (fun kq v3 v4 w' => ∃ (x3_1 : Int) (x4_1 : Int), v3 = .int .u32 x3_1 ∧ v4 = .int .i64 x4_1 ∧ Aside0 (tenementref01_Sum.l0 kq a0 x3_1 x4_1 = some r) ∧ Aside0 (kq ≤ k) ∧ Drawn0 w w')
 case atStart => exact ⟨(4294967295), (0), (by first | rfl | (simp; done) | (simp [*]; done)), (by first | rfl | (simp; done) | (simp [*]; done)), H', ⟨Nat.le_refl _⟩, by repeat (first | exact Drawn0.refl _ | apply Drawn0.step)⟩
 case round =>
  clear H'
  obtain ⟨x3_1, x4_1, rfl, rfl, HA, HK1, ⟨m1, rfl⟩⟩ := hrel
  cases gk with
  | zero => exact absurd HA.out (by simp [tenementref01_Sum.l0])
  | succ k1 =>
   have H := HA.out
   clear HA
   simp only [tenementref01_Sum.l0] at H
   by_cases c2 : x4_1 < (a0.size : Int)
   rotate_left
   ·rw [if_neg c2] at H
    have c2b0 : decide (x4_1 < (a0.size : Int)) = false := decide_eq_false c2
    clear c2
    obtain rfl := Option.some.inj H
    go_wp2
    go_ret
    exact ⟨by first | rfl | (simp; done) | (simp [*]; done), by repeat (first | exact Drawn0.refl _ | apply Drawn0.step)⟩
   rw [if_pos c2] at H
   have c2b0 : decide (x4_1 < (a0.size : Int)) = true := decide_eq_true c2
   clear c2
   by_cases c3 : 0 ≤ x4_1
   rotate_left
   ·rw [if_neg c3] at H
    exact absurd H (by simp)
   rw [if_pos c3] at H
   have c3b0 : decide (0 ≤ x4_1) = true := decide_eq_true c3
   clear c3
   replace H := Option.bind_eq_some_iff.mp H
   obtain ⟨t415, A50, H⟩ := H
   replace H : (tenementref01_Sum.l0 k1 a0 t415 (wrap64 (x4_1 + 1))) = some r := H
   have A5 := Aside0.mk A50
   clear A50
   have H' := Aside0.mk H
   clear H
   have p4 : 0 ≤ (x4_1 : Int) := of_decide_eq_true (by first | (with_reducible assumption) | assumption)
   have q4 : x4_1 < (a0.size : Int) := of_decide_eq_true (by first | (with_reducible assumption) | assumption)
   have hx4 := bt_at a0 x4_1
   replace p4 := eq_true p4
   replace q4 := eq_true q4
   go_wp2_with (first | ((with_reducible refine gate_callee (f := 91) rfl ?_); refine Kg_ (some 15) rfl rfl Try.func91 (by kernel_rfl) rfl #[.int .u32 x3_1, .int .u8 (bt a0 x4_1)] rfl ?_; (with_reducible refine (tenementref01_step.calls k1 x3_1 (bt a0 x4_1) t415 _ A5.out).mono ?_); rintro e w' ⟨rfl, ⟨nd, rfl⟩⟩; refine ⟨_, rfl, ?_⟩))
   go_roundg k1
   case measure => have := HK1.out; omega
   case rel => exact ⟨(t415), (wrap64 (x4_1 + 1)), (by first | rfl | (simp; done) | (simp [*]; done)), (by first | rfl | (simp; done) | (simp [*]; done)), H', ⟨by have := HK1.out; omega⟩, by repeat (first | exact Drawn0.refl _ | apply Drawn0.step)⟩
def tenementref15_Put.f (k : Nat) (a0_0 : Int) (a0_1 : Int) (a0_2 : Int) (a0_3 : Int) (a0_4 : Int) (a0_5 : Int) (a0_6 : Int) (a0_7 : Int) (l0_8 : List (S117)) : Option (ByteArray × Bool) := (tenementref15_Right.f k a0_0 a0_1 a0_2 a0_3 a0_4 a0_5 a0_6 a0_7 l0_8).bind fun t417 => (if t417 = true then ((tenementref02_Number.f k (IntKind.u64.wrap (a0_0)) 1).bind fun t418 => ((tenementref02_Number.f k (IntKind.u64.wrap (a0_1)) 1).bind fun t419 => (if t418.size + t419.size ≤ 9223372036854775807 then ((tenementref02_Vary.f k a0_2).bind fun t420 => (if (t418 ++ t419).size + t420.size ≤ 9223372036854775807 then (if a0_0 = 1 then ((tenementref08_Bytes.f k a0_3 a0_4 a0_5 a0_6 a0_7 l0_8).bind fun bt421 => ((tenementref02_Text.f k bt421.1).bind fun t423 => (if ((t418 ++ t419) ++ t420).size + t423.size ≤ 9223372036854775807 then ((tenementref01_Sum.f k (((t418 ++ t419) ++ t420) ++ t423)).bind fun t424 => ((tenementref02_Number.f k (IntKind.u64.wrap (t424)) 4).bind fun t425 => (if (((t418 ++ t419) ++ t420) ++ t423).size + t425.size ≤ 9223372036854775807 then (some ((((t418 ++ t419) ++ t420) ++ t423) ++ t425, true)) else (none)))) else (none)))) else ((tenementref01_Sum.f k ((t418 ++ t419) ++ t420)).bind fun t426 => ((tenementref02_Number.f k (IntKind.u64.wrap (t426)) 4).bind fun t427 => (if ((t418 ++ t419) ++ t420).size + t427.size ≤ 9223372036854775807 then (some (((t418 ++ t419) ++ t420) ++ t427, true)) else (none))))) else (none))) else (none)))) else (some ((⟨#[]⟩ : ByteArray), false)))
def tenementref15_Put.T3 : Bool × List (List Nat × List Nat) := (true, [([], []), ([0], [0]), ([1], [1]), ([2], [2]), ([], []), ([4], [4]), ([5], [5]), ([6, 3], [6]), ([3, 7], [3, 7]), ([], []), ([9], [9]), ([10, 7], [10]), ([8, 11], [8, 11]), ([12, 11, 0, 1, 2, 3, 4, 5, 6, 7, 8, 9, 10, 11, 12], [12])])
def tenementref15_Put.B3 : List Nat := [0, 1, 3, 7, 0, 16, 48, 127, 255, 0, 512, 1791, 4095, 8191]
theorem tenementref15_Put.tab3 : rtab .any (opsOf Try.f28 3) = tenementref15_Put.T3 := by kernel_rfl
theorem tenementref15_Put.bits3 : waitsOk tenementref15_Put.T3.2 tenementref15_Put.B3 = true := by kernel_rfl
set_option maxHeartbeats 8000000 in
set_option maxRecDepth 100000 in
theorem tenementref15_Put.calls (k : Nat) (a0_0 : Int) (a0_1 : Int) (a0_2 : Int) (a0_3 : Int) (a0_4 : Int) (a0_5 : Int) (a0_6 : Int) (a0_7 : Int) (A0_8 : Option Addr) (c0_8 : Nat) (l0_8 : List (S117)) (r1 : ByteArray) (r2 : Bool) (w : World) (hr0_8 : Kd.C k117 w A0_8 l0_8.length l0_8) (hc0_8 : l0_8.length ≤ c0_8) (h : tenementref15_Put.f k a0_0 a0_1 a0_2 a0_3 a0_4 a0_5 a0_6 a0_7 l0_8 = some (r1, r2)) :
  Calls Try.prog 28 #[.agg #[.int .i64 a0_0, .int .i64 a0_1, .int .u64 a0_2, .int .u64 a0_3, .int .u64 a0_4, .int .u64 a0_5, .int .u64 a0_6, .int .i64 a0_7, .slice A0_8 l0_8.length c0_8]] w fun e w' => e = .returned (.tuple #[.string r1, .bool r2]) ∧ Below w.heap.size w w' := by
 have hu75 := Try.underlying75
 have hu55 := Try.underlying55
 have HR0_8 := Aside0.mk hr0_8
 have HC0_8 := Aside0.mk hc0_8
 clear hr0_8 hc0_8
 have HB := Aside0.mk (Below.refl w.heap.size w)
 have H : ((tenementref15_Right.f k a0_0 a0_1 a0_2 a0_3 a0_4 a0_5 a0_6 a0_7 l0_8).bind fun t417 => (if t417 = true then ((tenementref02_Number.f k (IntKind.u64.wrap (a0_0)) 1).bind fun t418 => ((tenementref02_Number.f k (IntKind.u64.wrap (a0_1)) 1).bind fun t419 => (if t418.size + t419.size ≤ 9223372036854775807 then ((tenementref02_Vary.f k a0_2).bind fun t420 => (if (t418 ++ t419).size + t420.size ≤ 9223372036854775807 then (if a0_0 = 1 then ((tenementref08_Bytes.f k a0_3 a0_4 a0_5 a0_6 a0_7 l0_8).bind fun bt421 => ((tenementref02_Text.f k bt421.1).bind fun t423 => (if ((t418 ++ t419) ++ t420).size + t423.size ≤ 9223372036854775807 then ((tenementref01_Sum.f k (((t418 ++ t419) ++ t420) ++ t423)).bind fun t424 => ((tenementref02_Number.f k (IntKind.u64.wrap (t424)) 4).bind fun t425 => (if (((t418 ++ t419) ++ t420) ++ t423).size + t425.size ≤ 9223372036854775807 then (some ((((t418 ++ t419) ++ t420) ++ t423) ++ t425, true)) else (none)))) else (none)))) else ((tenementref01_Sum.f k ((t418 ++ t419) ++ t420)).bind fun t426 => ((tenementref02_Number.f k (IntKind.u64.wrap (t426)) 4).bind fun t427 => (if ((t418 ++ t419) ++ t420).size + t427.size ≤ 9223372036854775807 then (some (((t418 ++ t419) ++ t420) ++ t427, true)) else (none))))) else (none))) else (none)))) else (some ((⟨#[]⟩ : ByteArray), false)))) = some (r1, r2) := h
 (try (have Hs_ := H; simp only [ByteArray.size_append, Int.natCast_add] at Hs_))
 clear h
 replace H := Option.bind_eq_some_iff.mp H
 obtain ⟨t417, A20, H⟩ := H
 replace H : (if t417 = true then ((tenementref02_Number.f k (IntKind.u64.wrap (a0_0)) 1).bind fun t418 => ((tenementref02_Number.f k (IntKind.u64.wrap (a0_1)) 1).bind fun t419 => (if t418.size + t419.size ≤ 9223372036854775807 then ((tenementref02_Vary.f k a0_2).bind fun t420 => (if (t418 ++ t419).size + t420.size ≤ 9223372036854775807 then (if a0_0 = 1 then ((tenementref08_Bytes.f k a0_3 a0_4 a0_5 a0_6 a0_7 l0_8).bind fun bt421 => ((tenementref02_Text.f k bt421.1).bind fun t423 => (if ((t418 ++ t419) ++ t420).size + t423.size ≤ 9223372036854775807 then ((tenementref01_Sum.f k (((t418 ++ t419) ++ t420) ++ t423)).bind fun t424 => ((tenementref02_Number.f k (IntKind.u64.wrap (t424)) 4).bind fun t425 => (if (((t418 ++ t419) ++ t420) ++ t423).size + t425.size ≤ 9223372036854775807 then (some ((((t418 ++ t419) ++ t420) ++ t423) ++ t425, true)) else (none)))) else (none)))) else ((tenementref01_Sum.f k ((t418 ++ t419) ++ t420)).bind fun t426 => ((tenementref02_Number.f k (IntKind.u64.wrap (t426)) 4).bind fun t427 => (if ((t418 ++ t419) ++ t420).size + t427.size ≤ 9223372036854775807 then (some (((t418 ++ t419) ++ t420) ++ t427, true)) else (none))))) else (none))) else (none)))) else (some ((⟨#[]⟩ : ByteArray), false))) = some (r1, r2) := H
 have A2 := Aside0.mk A20
 clear A20
 by_cases c3 : t417 = true
 rotate_left
 ·replace c3 := Bool.eq_false_iff.mpr c3
  subst c3
  have H1 : (some ((⟨#[]⟩ : ByteArray), false)) = some (r1, r2) := by rw [if_neg (show ¬ (false = true) by decide)] at H; exact H
  clear H
  have H := H1
  clear H1
  simp only [Option.some.injEq, Prod.mk.injEq] at H
  obtain ⟨rfl, rfl⟩ := H
  go_enter Try.func28, Try.ntmps28
  go_wp2_with (first | ((with_reducible refine gate_dst (N := 1) rfl ?_); refine Ka_ 1 #[.int .i64 a0_0, .int .i64 a0_1, .int .u64 a0_2, .int .u64 a0_3, .int .u64 a0_4, .int .u64 a0_5, .int .u64 a0_6, .int .i64 a0_7, .slice A0_8 l0_8.length c0_8] 75 ?_; intro gb416 hg w39 hbox hb; have BK416 := Aside0.mk (hbox); have GW416 := Kw_ HB hg; have GE416 := GW416; replace HB := Ks_ HB hb; clear hb hbox hg; obtain ⟨hcz40_0, hcz40_1, hcz40_2, hcz40_3, hcz40_4, hcz40_5, hcz40_6, hcz40_7, hcz40_8, hfz40_0, hfz40_1, hfz40_2, hfz40_3, hfz40_4, hfz40_5, hfz40_6, hfz40_7, hfz40_8⟩ := Ke9_ BK416.out) | ((with_reducible refine gate_callee (f := 34) rfl ?_); refine Kg_ (some 8) rfl rfl Try.func34 (by kernel_rfl) rfl #[.agg #[.int .i64 a0_0, .int .i64 a0_1, .int .u64 a0_2, .int .u64 a0_3, .int .u64 a0_4, .int .u64 a0_5, .int .u64 a0_6, .int .i64 a0_7, .slice A0_8 l0_8.length c0_8]] rfl ?_; (with_reducible refine (tenementref15_Right.calls k a0_0 a0_1 a0_2 a0_3 a0_4 a0_5 a0_6 a0_7 _ _ l0_8 false _ ?side1 ?side2 A2.out).mono ?_); (case side1 => repeat (first | exact (Kd.C_below HR0_8.out HB.out) | (with_reducible refine Kd.C_alloc ?_ _) | (with_reducible refine Kd.C_drewN ?_ _) | (with_reducible refine Kd.C_drew ?_))); (case side2 => exact HC0_8.out); rintro e w41 ⟨rfl, hb⟩; refine ⟨_, rfl, ?_⟩; replace BK416 := Kb_ BK416 hb; replace HB := Ks_ HB hb; (try clear hb); (try clear hb2); (try clear hk); (try clear hi)))
  go_ret2
  exact ⟨Kh_, Kz_ HB GE416⟩
 subst c3
 have H1 : ((tenementref02_Number.f k (IntKind.u64.wrap (a0_0)) 1).bind fun t418 => ((tenementref02_Number.f k (IntKind.u64.wrap (a0_1)) 1).bind fun t419 => (if t418.size + t419.size ≤ 9223372036854775807 then ((tenementref02_Vary.f k a0_2).bind fun t420 => (if (t418 ++ t419).size + t420.size ≤ 9223372036854775807 then (if a0_0 = 1 then ((tenementref08_Bytes.f k a0_3 a0_4 a0_5 a0_6 a0_7 l0_8).bind fun bt421 => ((tenementref02_Text.f k bt421.1).bind fun t423 => (if ((t418 ++ t419) ++ t420).size + t423.size ≤ 9223372036854775807 then ((tenementref01_Sum.f k (((t418 ++ t419) ++ t420) ++ t423)).bind fun t424 => ((tenementref02_Number.f k (IntKind.u64.wrap (t424)) 4).bind fun t425 => (if (((t418 ++ t419) ++ t420) ++ t423).size + t425.size ≤ 9223372036854775807 then (some ((((t418 ++ t419) ++ t420) ++ t423) ++ t425, true)) else (none)))) else (none)))) else ((tenementref01_Sum.f k ((t418 ++ t419) ++ t420)).bind fun t426 => ((tenementref02_Number.f k (IntKind.u64.wrap (t426)) 4).bind fun t427 => (if ((t418 ++ t419) ++ t420).size + t427.size ≤ 9223372036854775807 then (some (((t418 ++ t419) ++ t420) ++ t427, true)) else (none))))) else (none))) else (none)))) = some (r1, r2) := by rw [if_pos rfl] at H; exact H
 clear H
 have H := H1
 clear H1
 replace H := Option.bind_eq_some_iff.mp H
 obtain ⟨t418, A40, H⟩ := H
 replace H : ((tenementref02_Number.f k (IntKind.u64.wrap (a0_1)) 1).bind fun t419 => (if t418.size + t419.size ≤ 9223372036854775807 then ((tenementref02_Vary.f k a0_2).bind fun t420 => (if (t418 ++ t419).size + t420.size ≤ 9223372036854775807 then (if a0_0 = 1 then ((tenementref08_Bytes.f k a0_3 a0_4 a0_5 a0_6 a0_7 l0_8).bind fun bt421 => ((tenementref02_Text.f k bt421.1).bind fun t423 => (if ((t418 ++ t419) ++ t420).size + t423.size ≤ 9223372036854775807 then ((tenementref01_Sum.f k (((t418 ++ t419) ++ t420) ++ t423)).bind fun t424 => ((tenementref02_Number.f k (IntKind.u64.wrap (t424)) 4).bind fun t425 => (if (((t418 ++ t419) ++ t420) ++ t423).size + t425.size ≤ 9223372036854775807 then (some ((((t418 ++ t419) ++ t420) ++ t423) ++ t425, true)) else (none)))) else (none)))) else ((tenementref01_Sum.f k ((t418 ++ t419) ++ t420)).bind fun t426 => ((tenementref02_Number.f k (IntKind.u64.wrap (t426)) 4).bind fun t427 => (if ((t418 ++ t419) ++ t420).size + t427.size ≤ 9223372036854775807 then (some (((t418 ++ t419) ++ t420) ++ t427, true)) else (none))))) else (none))) else (none))) = some (r1, r2) := H
 have A4 := Aside0.mk A40
 clear A40
 replace H := Option.bind_eq_some_iff.mp H
 obtain ⟨t419, A50, H⟩ := H
 replace H : (if t418.size + t419.size ≤ 9223372036854775807 then ((tenementref02_Vary.f k a0_2).bind fun t420 => (if (t418 ++ t419).size + t420.size ≤ 9223372036854775807 then (if a0_0 = 1 then ((tenementref08_Bytes.f k a0_3 a0_4 a0_5 a0_6 a0_7 l0_8).bind fun bt421 => ((tenementref02_Text.f k bt421.1).bind fun t423 => (if ((t418 ++ t419) ++ t420).size + t423.size ≤ 9223372036854775807 then ((tenementref01_Sum.f k (((t418 ++ t419) ++ t420) ++ t423)).bind fun t424 => ((tenementref02_Number.f k (IntKind.u64.wrap (t424)) 4).bind fun t425 => (if (((t418 ++ t419) ++ t420) ++ t423).size + t425.size ≤ 9223372036854775807 then (some ((((t418 ++ t419) ++ t420) ++ t423) ++ t425, true)) else (none)))) else (none)))) else ((tenementref01_Sum.f k ((t418 ++ t419) ++ t420)).bind fun t426 => ((tenementref02_Number.f k (IntKind.u64.wrap (t426)) 4).bind fun t427 => (if ((t418 ++ t419) ++ t420).size + t427.size ≤ 9223372036854775807 then (some (((t418 ++ t419) ++ t420) ++ t427, true)) else (none))))) else (none))) else (none)) = some (r1, r2) := H
 have A5 := Aside0.mk A50
 clear A50
 by_cases c6 : t418.size + t419.size ≤ 9223372036854775807
 rotate_left
 ·rw [if_neg c6] at H
  exact absurd H (by simp)
 rw [if_pos c6] at H
 have c6b0 := eq_true c6
 have c6b1 : decide (t418.size + t419.size ≤ 9223372036854775807) = true := decide_eq_true c6
 try have c6b2 : (9223372036854775807 < t418.size + t419.size) = False := eq_false (Nat.not_lt.2 c6)
 replace H := Option.bind_eq_some_iff.mp H
 obtain ⟨t420, A70, H⟩ := H
 replace H : (if (t418 ++ t419).size + t420.size ≤ 9223372036854775807 then (if a0_0 = 1 then ((tenementref08_Bytes.f k a0_3 a0_4 a0_5 a0_6 a0_7 l0_8).bind fun bt421 => ((tenementref02_Text.f k bt421.1).bind fun t423 => (if ((t418 ++ t419) ++ t420).size + t423.size ≤ 9223372036854775807 then ((tenementref01_Sum.f k (((t418 ++ t419) ++ t420) ++ t423)).bind fun t424 => ((tenementref02_Number.f k (IntKind.u64.wrap (t424)) 4).bind fun t425 => (if (((t418 ++ t419) ++ t420) ++ t423).size + t425.size ≤ 9223372036854775807 then (some ((((t418 ++ t419) ++ t420) ++ t423) ++ t425, true)) else (none)))) else (none)))) else ((tenementref01_Sum.f k ((t418 ++ t419) ++ t420)).bind fun t426 => ((tenementref02_Number.f k (IntKind.u64.wrap (t426)) 4).bind fun t427 => (if ((t418 ++ t419) ++ t420).size + t427.size ≤ 9223372036854775807 then (some (((t418 ++ t419) ++ t420) ++ t427, true)) else (none))))) else (none)) = some (r1, r2) := H
 have A7 := Aside0.mk A70
 clear A70
 by_cases c8 : (t418 ++ t419).size + t420.size ≤ 9223372036854775807
 rotate_left
 ·rw [if_neg c8] at H
  exact absurd H (by simp)
 rw [if_pos c8] at H
 have c8b0 := eq_true c8
 (try (have c8b0s_ := c8b0; simp only [ByteArray.size_append, Int.natCast_add] at c8b0s_))
 have c8b1 : decide ((t418 ++ t419).size + t420.size ≤ 9223372036854775807) = true := decide_eq_true c8
 (try (have c8b1s_ := c8b1; simp only [ByteArray.size_append, Int.natCast_add] at c8b1s_))
 try have c8b2 : (9223372036854775807 < (t418 ++ t419).size + t420.size) = False := eq_false (Nat.not_lt.2 c8)
 (try (have c8b2s_ := c8b2; simp only [ByteArray.size_append, Int.natCast_add] at c8b2s_))
 by_cases c9 : a0_0 = 1
 rotate_left
 ·rw [if_neg c9] at H
  have c9b0 : (a0_0 == 1) = false := beq_eq_false_iff_ne.mpr c9
  have c9b1 : (a0_0 != 1) = true := bne_iff_ne.mpr c9
  replace H := Option.bind_eq_some_iff.mp H
  obtain ⟨t426, A270, H⟩ := H
  replace H : ((tenementref02_Number.f k (IntKind.u64.wrap (t426)) 4).bind fun t427 => (if ((t418 ++ t419) ++ t420).size + t427.size ≤ 9223372036854775807 then (some (((t418 ++ t419) ++ t420) ++ t427, true)) else (none))) = some (r1, r2) := H
  have A27 := Aside0.mk A270
  clear A270
  replace H := Option.bind_eq_some_iff.mp H
  obtain ⟨t427, A280, H⟩ := H
  replace H : (if ((t418 ++ t419) ++ t420).size + t427.size ≤ 9223372036854775807 then (some (((t418 ++ t419) ++ t420) ++ t427, true)) else (none)) = some (r1, r2) := H
  have A28 := Aside0.mk A280
  clear A280
  by_cases c29 : ((t418 ++ t419) ++ t420).size + t427.size ≤ 9223372036854775807
  rotate_left
  ·rw [if_neg c29] at H
   exact absurd H (by simp)
  rw [if_pos c29] at H
  have c29b0 := eq_true c29
  (try (have c29b0s_ := c29b0; simp only [ByteArray.size_append, Int.natCast_add] at c29b0s_))
  have c29b1 : decide (((t418 ++ t419) ++ t420).size + t427.size ≤ 9223372036854775807) = true := decide_eq_true c29
  (try (have c29b1s_ := c29b1; simp only [ByteArray.size_append, Int.natCast_add] at c29b1s_))
  try have c29b2 : (9223372036854775807 < ((t418 ++ t419) ++ t420).size + t427.size) = False := eq_false (Nat.not_lt.2 c29)
  (try (have c29b2s_ := c29b2; simp only [ByteArray.size_append, Int.natCast_add] at c29b2s_))
  simp only [Option.some.injEq, Prod.mk.injEq] at H
  obtain ⟨rfl, rfl⟩ := H
  go_enter Try.func28, Try.ntmps28
  try go_wp2_with (first | ((with_reducible refine gate_dst (N := 1) rfl ?_); refine Ka_ 1 #[.int .i64 a0_0, .int .i64 a0_1, .int .u64 a0_2, .int .u64 a0_3, .int .u64 a0_4, .int .u64 a0_5, .int .u64 a0_6, .int .i64 a0_7, .slice A0_8 l0_8.length c0_8] 75 ?_; intro gb416 hg w30 hbox hb; have BK416 := Aside0.mk (hbox); have GW416 := Kw_ HB hg; have GE416 := GW416; replace HB := Ks_ HB hb; clear hb hbox hg; obtain ⟨hcz31_0, hcz31_1, hcz31_2, hcz31_3, hcz31_4, hcz31_5, hcz31_6, hcz31_7, hcz31_8, hfz31_0, hfz31_1, hfz31_2, hfz31_3, hfz31_4, hfz31_5, hfz31_6, hfz31_7, hfz31_8⟩ := Ke9_ BK416.out) | ((with_reducible refine gate_callee (f := 34) rfl ?_); refine Kg_ (some 8) rfl rfl Try.func34 (by kernel_rfl) rfl #[.agg #[.int .i64 a0_0, .int .i64 a0_1, .int .u64 a0_2, .int .u64 a0_3, .int .u64 a0_4, .int .u64 a0_5, .int .u64 a0_6, .int .i64 a0_7, .slice A0_8 l0_8.length c0_8]] rfl ?_; (with_reducible refine (tenementref15_Right.calls k a0_0 a0_1 a0_2 a0_3 a0_4 a0_5 a0_6 a0_7 _ _ l0_8 true _ ?side1 ?side2 A2.out).mono ?_); (case side1 => repeat (first | exact (Kd.C_below HR0_8.out HB.out) | (with_reducible refine Kd.C_alloc ?_ _) | (with_reducible refine Kd.C_drewN ?_ _) | (with_reducible refine Kd.C_drew ?_))); (case side2 => exact HC0_8.out); rintro e w32 ⟨rfl, hb⟩; refine ⟨_, rfl, ?_⟩; replace BK416 := Kb_ BK416 hb; replace HB := Ks_ HB hb; (try clear hb); (try clear hb2); (try clear hk); (try clear hi)))
  replace BK416 := Kd_ BK416
  replace HB := Aside0.mk (below_drew1 HB.out)
  refine start_ (n := 14) (S := fun w' => w'.cell? ⟨gb416, 0, none⟩ = some (.int .i64 a0_0) ∧ w'.cell? ⟨gb416, 1, none⟩ = some (.int .i64 a0_1) ∧ w'.cell? ⟨gb416, 2, none⟩ = some (.int .u64 a0_2) ∧ w'.cell? ⟨gb416, 3, none⟩ = some (.int .u64 a0_3) ∧ w'.cell? ⟨gb416, 4, none⟩ = some (.int .u64 a0_4) ∧ w'.cell? ⟨gb416, 5, none⟩ = some (.int .u64 a0_5) ∧ w'.cell? ⟨gb416, 6, none⟩ = some (.int .u64 a0_6) ∧ w'.cell? ⟨gb416, 7, none⟩ = some (.int .i64 a0_7) ∧ w'.cell? ⟨gb416, 8, none⟩ = some (.slice A0_8 l0_8.length c0_8)) (ds := []) (mB_ 14 0) (by kernel_rfl) rfl rfl (Kc9_ BK416.out) (fun hHeld => ?_); refine with_tabW tenementref15_Put.tab3 tenementref15_Put.bits3 (fun HT_ HW_ => ?_)
  generalize w32.drew = w33 at BK416 HB hHeld ⊢
  refine Kp_ 0 10 (mB_ 14 1) (any_of HT_.out (by kernel_rfl)) ?_
  refine Kp_ 4 14 (mB_ 14 17) (any_of HT_.out (by kernel_rfl)) ?_
  refine Kp_ 9 19 (mB_ 14 529) (any_of HT_.out (by kernel_rfl)) ?_
  refine Ko_ 1 11 (mB_ 14 531) (take_ofW HT_.out HW_.out (by kernel_rfl)) hHeld ?_
  refine Kp_ 2 12 (mB_ 14 535) (any_of HT_.out (by kernel_rfl)) ?_
  refine Ko_ 5 15 (mB_ 14 567) (take_ofW HT_.out HW_.out (by kernel_rfl)) hHeld ?_
  refine Kp_ 6 16 (mB_ 14 631) (any_of HT_.out (by kernel_rfl)) ?_
  refine Ko_ 10 20 (mB_ 14 1655) (take_ofW HT_.out HW_.out (by kernel_rfl)) hHeld ?_
  refine one_ (i := 3) (N := some 13) (mB_ 14 1663) rfl rfl (one_of HT_.out (by kernel_rfl)) (by decide) (fun K hK => ?_)
  refine goes_ Try.func64 (by kernel_rfl) rfl #[.int .u64 (IntKind.u64.wrap (a0_0)), .int .i64 1] (by rfl) rfl rfl (by (try simp only [List.map_toArray, List.map_cons, List.map_nil]); first | done | rfl | (simp only [List.length_drop, List.length_take]; rfl)) ?_
  with_reducible refine (tenementref02_Number.calls k (IntKind.u64.wrap (a0_0)) 1 t418 _ A4.out).mono ?_
  rintro e w34 ⟨rfl, hb⟩
  refine ⟨_, rfl, ?_⟩
  replace BK416 := Kb_ BK416 hb
  replace HB := Ks_ HB hb
  (try clear hb)
  (try clear hb2)
  (try clear hk)
  (try clear hi)
  refine hK.out _ _ (Kc9_ BK416.out) (fun hHeld => ?_)
  clear hK K
  refine Kn_ 13 ?_
  refine one_ (i := 7) (N := some 17) (mB_ 14 1791) rfl rfl (one_of HT_.out (by kernel_rfl)) (by decide) (fun K hK => ?_)
  refine goes_ Try.func64 (by kernel_rfl) rfl #[.int .u64 (IntKind.u64.wrap (a0_1)), .int .i64 1] (by rfl) rfl rfl (by (try simp only [List.map_toArray, List.map_cons, List.map_nil]); first | done | rfl | (simp only [List.length_drop, List.length_take]; rfl)) ?_
  with_reducible refine (tenementref02_Number.calls k (IntKind.u64.wrap (a0_1)) 1 t419 _ A5.out).mono ?_
  rintro e w35 ⟨rfl, hb⟩
  refine ⟨_, rfl, ?_⟩
  replace BK416 := Kb_ BK416 hb
  replace HB := Ks_ HB hb
  (try clear hb)
  (try clear hb2)
  (try clear hk)
  (try clear hi)
  refine hK.out _ _ (Kc9_ BK416.out) (fun hHeld => ?_)
  clear hK K
  refine Kn_ 17 ?_
  refine Kp_ 8 18 (mB_ 14 2047) (any_of HT_.out (by kernel_rfl)) ?_
  refine one_ (i := 11) (N := some 21) (mB_ 14 4095) rfl rfl (one_of HT_.out (by kernel_rfl)) (by decide) (fun K hK => ?_)
  refine goes_ Try.func65 (by kernel_rfl) rfl #[.int .u64 a0_2] (by rfl) rfl rfl (by (try simp only [List.map_toArray, List.map_cons, List.map_nil]); first | done | rfl | (simp only [List.length_drop, List.length_take]; rfl)) ?_
  with_reducible refine (tenementref02_Vary.calls k a0_2 t420 _ A7.out).mono ?_
  rintro e w36 ⟨rfl, hb⟩
  refine ⟨_, rfl, ?_⟩
  replace BK416 := Kb_ BK416 hb
  replace HB := Ks_ HB hb
  (try clear hb)
  (try clear hb2)
  (try clear hk)
  (try clear hi)
  refine hK.out _ _ (Kc9_ BK416.out) (fun hHeld => ?_)
  clear hK K
  refine Kn_ 21 ?_
  refine Kp_ 12 22 (mB_ 14 8191) (any_of HT_.out (by kernel_rfl)) ?_
  refine Kp_ 13 4 (mB_ 14 16383) (any_of HT_.out (by kernel_rfl)) ?_
  refine done_ (done_of HT_.out (by kernel_rfl)) ?_
  obtain ⟨hcz37_0, hcz37_1, hcz37_2, hcz37_3, hcz37_4, hcz37_5, hcz37_6, hcz37_7, hcz37_8, hfz37_0, hfz37_1, hfz37_2, hfz37_3, hfz37_4, hfz37_5, hfz37_6, hfz37_7, hfz37_8⟩ := Ke9_ BK416.out
  try go_wp2_with (first | ((with_reducible refine gate_callee (f := 68) rfl ?_); refine Kg_ (some 38) rfl rfl Try.func68 (by kernel_rfl) rfl #[.string ((t418 ++ t419) ++ t420)] rfl ?_; (with_reducible refine (tenementref01_Sum.calls k ((t418 ++ t419) ++ t420) t426 _ A27.out).mono ?_); rintro e w' ⟨rfl, ⟨nd, rfl⟩⟩; refine ⟨_, rfl, ?_⟩) | ((with_reducible refine gate_callee (f := 64) rfl ?_); refine Kg_ (some 40) rfl rfl Try.func64 (by kernel_rfl) rfl #[.int .u64 (IntKind.u64.wrap (t426)), .int .i64 4] rfl ?_; (with_reducible refine (tenementref02_Number.calls k (IntKind.u64.wrap (t426)) 4 t427 _ A28.out).mono ?_); rintro e w38 ⟨rfl, hb⟩; refine ⟨_, rfl, ?_⟩; replace BK416 := Kb_ BK416 hb; replace HB := Ks_ HB hb; (try clear hb); (try clear hb2); (try clear hk); (try clear hi)))
  go_ret2
  exact ⟨Kh_, Kz_ HB GE416⟩
 rw [if_pos c9] at H
 have c9b0 : (a0_0 == 1) = true := beq_iff_eq.mpr c9
 have c9b1 : (a0_0 != 1) = false := bne_eq_false_iff_eq.mpr c9
 clear c9
 replace H := Option.bind_eq_some_iff.mp H
 obtain ⟨⟨t421, t422⟩, A100, H⟩ := H
 replace H : ((tenementref02_Text.f k t421).bind fun t423 => (if ((t418 ++ t419) ++ t420).size + t423.size ≤ 9223372036854775807 then ((tenementref01_Sum.f k (((t418 ++ t419) ++ t420) ++ t423)).bind fun t424 => ((tenementref02_Number.f k (IntKind.u64.wrap (t424)) 4).bind fun t425 => (if (((t418 ++ t419) ++ t420) ++ t423).size + t425.size ≤ 9223372036854775807 then (some ((((t418 ++ t419) ++ t420) ++ t423) ++ t425, true)) else (none)))) else (none))) = some (r1, r2) := H
 have A10 := Aside0.mk A100
 clear A100
 replace H := Option.bind_eq_some_iff.mp H
 obtain ⟨t423, A110, H⟩ := H
 replace H : (if ((t418 ++ t419) ++ t420).size + t423.size ≤ 9223372036854775807 then ((tenementref01_Sum.f k (((t418 ++ t419) ++ t420) ++ t423)).bind fun t424 => ((tenementref02_Number.f k (IntKind.u64.wrap (t424)) 4).bind fun t425 => (if (((t418 ++ t419) ++ t420) ++ t423).size + t425.size ≤ 9223372036854775807 then (some ((((t418 ++ t419) ++ t420) ++ t423) ++ t425, true)) else (none)))) else (none)) = some (r1, r2) := H
 have A11 := Aside0.mk A110
 clear A110
 by_cases c12 : ((t418 ++ t419) ++ t420).size + t423.size ≤ 9223372036854775807
 rotate_left
 ·rw [if_neg c12] at H
  exact absurd H (by simp)
 rw [if_pos c12] at H
 have c12b0 := eq_true c12
 (try (have c12b0s_ := c12b0; simp only [ByteArray.size_append, Int.natCast_add] at c12b0s_))
 have c12b1 : decide (((t418 ++ t419) ++ t420).size + t423.size ≤ 9223372036854775807) = true := decide_eq_true c12
 (try (have c12b1s_ := c12b1; simp only [ByteArray.size_append, Int.natCast_add] at c12b1s_))
 try have c12b2 : (9223372036854775807 < ((t418 ++ t419) ++ t420).size + t423.size) = False := eq_false (Nat.not_lt.2 c12)
 (try (have c12b2s_ := c12b2; simp only [ByteArray.size_append, Int.natCast_add] at c12b2s_))
 replace H := Option.bind_eq_some_iff.mp H
 obtain ⟨t424, A130, H⟩ := H
 replace H : ((tenementref02_Number.f k (IntKind.u64.wrap (t424)) 4).bind fun t425 => (if (((t418 ++ t419) ++ t420) ++ t423).size + t425.size ≤ 9223372036854775807 then (some ((((t418 ++ t419) ++ t420) ++ t423) ++ t425, true)) else (none))) = some (r1, r2) := H
 have A13 := Aside0.mk A130
 clear A130
 replace H := Option.bind_eq_some_iff.mp H
 obtain ⟨t425, A140, H⟩ := H
 replace H : (if (((t418 ++ t419) ++ t420) ++ t423).size + t425.size ≤ 9223372036854775807 then (some ((((t418 ++ t419) ++ t420) ++ t423) ++ t425, true)) else (none)) = some (r1, r2) := H
 have A14 := Aside0.mk A140
 clear A140
 by_cases c15 : (((t418 ++ t419) ++ t420) ++ t423).size + t425.size ≤ 9223372036854775807
 rotate_left
 ·rw [if_neg c15] at H
  exact absurd H (by simp)
 rw [if_pos c15] at H
 have c15b0 := eq_true c15
 (try (have c15b0s_ := c15b0; simp only [ByteArray.size_append, Int.natCast_add] at c15b0s_))
 have c15b1 : decide ((((t418 ++ t419) ++ t420) ++ t423).size + t425.size ≤ 9223372036854775807) = true := decide_eq_true c15
 (try (have c15b1s_ := c15b1; simp only [ByteArray.size_append, Int.natCast_add] at c15b1s_))
 try have c15b2 : (9223372036854775807 < (((t418 ++ t419) ++ t420) ++ t423).size + t425.size) = False := eq_false (Nat.not_lt.2 c15)
 (try (have c15b2s_ := c15b2; simp only [ByteArray.size_append, Int.natCast_add] at c15b2s_))
 simp only [Option.some.injEq, Prod.mk.injEq] at H
 obtain ⟨rfl, rfl⟩ := H
 go_enter Try.func28, Try.ntmps28
 try go_wp2_with (first | ((with_reducible refine gate_dst (N := 1) rfl ?_); refine Ka_ 1 #[.int .i64 a0_0, .int .i64 a0_1, .int .u64 a0_2, .int .u64 a0_3, .int .u64 a0_4, .int .u64 a0_5, .int .u64 a0_6, .int .i64 a0_7, .slice A0_8 l0_8.length c0_8] 75 ?_; intro gb416 hg w16 hbox hb; have BK416 := Aside0.mk (hbox); have GW416 := Kw_ HB hg; have GE416 := GW416; replace HB := Ks_ HB hb; clear hb hbox hg; obtain ⟨hcz17_0, hcz17_1, hcz17_2, hcz17_3, hcz17_4, hcz17_5, hcz17_6, hcz17_7, hcz17_8, hfz17_0, hfz17_1, hfz17_2, hfz17_3, hfz17_4, hfz17_5, hfz17_6, hfz17_7, hfz17_8⟩ := Ke9_ BK416.out) | ((with_reducible refine gate_callee (f := 34) rfl ?_); refine Kg_ (some 8) rfl rfl Try.func34 (by kernel_rfl) rfl #[.agg #[.int .i64 a0_0, .int .i64 a0_1, .int .u64 a0_2, .int .u64 a0_3, .int .u64 a0_4, .int .u64 a0_5, .int .u64 a0_6, .int .i64 a0_7, .slice A0_8 l0_8.length c0_8]] rfl ?_; (with_reducible refine (tenementref15_Right.calls k a0_0 a0_1 a0_2 a0_3 a0_4 a0_5 a0_6 a0_7 _ _ l0_8 true _ ?side1 ?side2 A2.out).mono ?_); (case side1 => repeat (first | exact (Kd.C_below HR0_8.out HB.out) | (with_reducible refine Kd.C_alloc ?_ _) | (with_reducible refine Kd.C_drewN ?_ _) | (with_reducible refine Kd.C_drew ?_))); (case side2 => exact HC0_8.out); rintro e w18 ⟨rfl, hb⟩; refine ⟨_, rfl, ?_⟩; replace BK416 := Kb_ BK416 hb; replace HB := Ks_ HB hb; (try clear hb); (try clear hb2); (try clear hk); (try clear hi)))
 replace BK416 := Kd_ BK416
 replace HB := Aside0.mk (below_drew1 HB.out)
 refine start_ (n := 14) (S := fun w' => w'.cell? ⟨gb416, 0, none⟩ = some (.int .i64 a0_0) ∧ w'.cell? ⟨gb416, 1, none⟩ = some (.int .i64 a0_1) ∧ w'.cell? ⟨gb416, 2, none⟩ = some (.int .u64 a0_2) ∧ w'.cell? ⟨gb416, 3, none⟩ = some (.int .u64 a0_3) ∧ w'.cell? ⟨gb416, 4, none⟩ = some (.int .u64 a0_4) ∧ w'.cell? ⟨gb416, 5, none⟩ = some (.int .u64 a0_5) ∧ w'.cell? ⟨gb416, 6, none⟩ = some (.int .u64 a0_6) ∧ w'.cell? ⟨gb416, 7, none⟩ = some (.int .i64 a0_7) ∧ w'.cell? ⟨gb416, 8, none⟩ = some (.slice A0_8 l0_8.length c0_8)) (ds := []) (mB_ 14 0) (by kernel_rfl) rfl rfl (Kc9_ BK416.out) (fun hHeld => ?_); refine with_tabW tenementref15_Put.tab3 tenementref15_Put.bits3 (fun HT_ HW_ => ?_)
 generalize w18.drew = w19 at BK416 HB hHeld ⊢
 refine Kp_ 0 10 (mB_ 14 1) (any_of HT_.out (by kernel_rfl)) ?_
 refine Kp_ 4 14 (mB_ 14 17) (any_of HT_.out (by kernel_rfl)) ?_
 refine Kp_ 9 19 (mB_ 14 529) (any_of HT_.out (by kernel_rfl)) ?_
 refine Ko_ 1 11 (mB_ 14 531) (take_ofW HT_.out HW_.out (by kernel_rfl)) hHeld ?_
 refine Kp_ 2 12 (mB_ 14 535) (any_of HT_.out (by kernel_rfl)) ?_
 refine Ko_ 5 15 (mB_ 14 567) (take_ofW HT_.out HW_.out (by kernel_rfl)) hHeld ?_
 refine Kp_ 6 16 (mB_ 14 631) (any_of HT_.out (by kernel_rfl)) ?_
 refine Ko_ 10 20 (mB_ 14 1655) (take_ofW HT_.out HW_.out (by kernel_rfl)) hHeld ?_
 refine one_ (i := 3) (N := some 13) (mB_ 14 1663) rfl rfl (one_of HT_.out (by kernel_rfl)) (by decide) (fun K hK => ?_)
 refine goes_ Try.func64 (by kernel_rfl) rfl #[.int .u64 (IntKind.u64.wrap (a0_0)), .int .i64 1] (by rfl) rfl rfl (by (try simp only [List.map_toArray, List.map_cons, List.map_nil]); first | done | rfl | (simp only [List.length_drop, List.length_take]; rfl)) ?_
 with_reducible refine (tenementref02_Number.calls k (IntKind.u64.wrap (a0_0)) 1 t418 _ A4.out).mono ?_
 rintro e w20 ⟨rfl, hb⟩
 refine ⟨_, rfl, ?_⟩
 replace BK416 := Kb_ BK416 hb
 replace HB := Ks_ HB hb
 (try clear hb)
 (try clear hb2)
 (try clear hk)
 (try clear hi)
 refine hK.out _ _ (Kc9_ BK416.out) (fun hHeld => ?_)
 clear hK K
 refine Kn_ 13 ?_
 refine one_ (i := 7) (N := some 17) (mB_ 14 1791) rfl rfl (one_of HT_.out (by kernel_rfl)) (by decide) (fun K hK => ?_)
 refine goes_ Try.func64 (by kernel_rfl) rfl #[.int .u64 (IntKind.u64.wrap (a0_1)), .int .i64 1] (by rfl) rfl rfl (by (try simp only [List.map_toArray, List.map_cons, List.map_nil]); first | done | rfl | (simp only [List.length_drop, List.length_take]; rfl)) ?_
 with_reducible refine (tenementref02_Number.calls k (IntKind.u64.wrap (a0_1)) 1 t419 _ A5.out).mono ?_
 rintro e w21 ⟨rfl, hb⟩
 refine ⟨_, rfl, ?_⟩
 replace BK416 := Kb_ BK416 hb
 replace HB := Ks_ HB hb
 (try clear hb)
 (try clear hb2)
 (try clear hk)
 (try clear hi)
 refine hK.out _ _ (Kc9_ BK416.out) (fun hHeld => ?_)
 clear hK K
 refine Kn_ 17 ?_
 refine Kp_ 8 18 (mB_ 14 2047) (any_of HT_.out (by kernel_rfl)) ?_
 refine one_ (i := 11) (N := some 21) (mB_ 14 4095) rfl rfl (one_of HT_.out (by kernel_rfl)) (by decide) (fun K hK => ?_)
 refine goes_ Try.func65 (by kernel_rfl) rfl #[.int .u64 a0_2] (by rfl) rfl rfl (by (try simp only [List.map_toArray, List.map_cons, List.map_nil]); first | done | rfl | (simp only [List.length_drop, List.length_take]; rfl)) ?_
 with_reducible refine (tenementref02_Vary.calls k a0_2 t420 _ A7.out).mono ?_
 rintro e w22 ⟨rfl, hb⟩
 refine ⟨_, rfl, ?_⟩
 replace BK416 := Kb_ BK416 hb
 replace HB := Ks_ HB hb
 (try clear hb)
 (try clear hb2)
 (try clear hk)
 (try clear hi)
 refine hK.out _ _ (Kc9_ BK416.out) (fun hHeld => ?_)
 clear hK K
 refine Kn_ 21 ?_
 refine Kp_ 12 22 (mB_ 14 8191) (any_of HT_.out (by kernel_rfl)) ?_
 refine Kp_ 13 4 (mB_ 14 16383) (any_of HT_.out (by kernel_rfl)) ?_
 refine done_ (done_of HT_.out (by kernel_rfl)) ?_
 obtain ⟨hcz23_0, hcz23_1, hcz23_2, hcz23_3, hcz23_4, hcz23_5, hcz23_6, hcz23_7, hcz23_8, hfz23_0, hfz23_1, hfz23_2, hfz23_3, hfz23_4, hfz23_5, hfz23_6, hfz23_7, hfz23_8⟩ := Ke9_ BK416.out
 try go_wp2_with (first | ((with_reducible refine gate_callee (f := 66) rfl ?_); refine Kg_ (some 29) rfl rfl Try.func66 (by kernel_rfl) rfl #[.agg #[.int .u64 a0_3, .int .u64 a0_4, .int .u64 a0_5, .int .u64 a0_6, .int .i64 a0_7, .slice A0_8 l0_8.length c0_8]] rfl ?_; (with_reducible refine (tenementref08_Bytes.calls k a0_3 a0_4 a0_5 a0_6 a0_7 _ _ l0_8 t421 t422 _ ?side1 ?side2 A10.out).mono ?_); (case side1 => repeat (first | exact (Kd.C_below HR0_8.out HB.out) | (with_reducible refine Kd.C_alloc ?_ _) | (with_reducible refine Kd.C_drewN ?_ _) | (with_reducible refine Kd.C_drew ?_))); (case side2 => exact HC0_8.out); rintro e w24 ⟨rfl, hb⟩; refine ⟨_, rfl, ?_⟩; replace BK416 := Kb_ BK416 hb; replace HB := Ks_ HB hb; (try clear hb); (try clear hb2); (try clear hk); (try clear hi)) | ((with_reducible refine gate_callee (f := 67) rfl ?_); refine Kg_ (some 34) rfl rfl Try.func67 (by kernel_rfl) rfl #[.string t421] rfl ?_; (with_reducible refine (tenementref02_Text.calls k t421 t423 _ A11.out).mono ?_); rintro e w25 ⟨rfl, hb⟩; refine ⟨_, rfl, ?_⟩; replace BK416 := Kb_ BK416 hb; replace HB := Ks_ HB hb; (try clear hb); (try clear hb2); (try clear hk); (try clear hi)) | ((with_reducible refine gate_callee (f := 68) rfl ?_); refine Kg_ (some 38) rfl rfl Try.func68 (by kernel_rfl) rfl #[.string (((t418 ++ t419) ++ t420) ++ t423)] rfl ?_; (with_reducible refine (tenementref01_Sum.calls k (((t418 ++ t419) ++ t420) ++ t423) t424 _ A13.out).mono ?_); rintro e w' ⟨rfl, ⟨nd, rfl⟩⟩; refine ⟨_, rfl, ?_⟩) | ((with_reducible refine gate_callee (f := 64) rfl ?_); refine Kg_ (some 40) rfl rfl Try.func64 (by kernel_rfl) rfl #[.int .u64 (IntKind.u64.wrap (t424)), .int .i64 4] rfl ?_; (with_reducible refine (tenementref02_Number.calls k (IntKind.u64.wrap (t424)) 4 t425 _ A14.out).mono ?_); rintro e w26 ⟨rfl, hb⟩; refine ⟨_, rfl, ?_⟩; replace BK416 := Kb_ BK416 hb; replace HB := Ks_ HB hb; (try clear hb); (try clear hb2); (try clear hk); (try clear hi)))
 go_ret2
 exact ⟨Kh_, Kz_ HB GE416⟩
def tenementlaw15_refWrites.l0 : Nat → List (S107) → List (S117) → Int → Option ((List (S117)))
 | 0, _, _, _ => none
 | k + 1, x0, x3, x4 => if x4 < (x0.length : Int) then (if 0 ≤ x4 then (if x3.length < 2513169434916 then (tenementlaw15_refWrites.l0 k x0 (x3 ++ [(⟨(rd_T107 x0 x4).f0, (rd_T107 x0 x4).f1, (rd_T107 x0 x4).f2, (rd_T107 x0 x4).f3⟩ : S117)]) (wrap64 (x4 + 1))) else (none)) else (none)) else (some x3)
def tenementlaw15_refWrites.f (k : Nat) (l0 : List (S107)) : Option ((List (S117))) := tenementlaw15_refWrites.l0 k l0 ([] : List (S117)) 0
def tenementlaw15_refWrites.T5 : Bool × List (List Nat × List Nat) := (true, [([], []), ([], []), ([], []), ([1, 2], [1, 2]), ([3], [3]), ([4], [4]), ([], []), ([], []), ([6, 7], [6, 7]), ([8], [8]), ([9], [9]), ([], []), ([], []), ([11, 12], [11, 12]), ([13], [13]), ([14], [14]), ([], []), ([], []), ([16, 17], [16, 17]), ([18], [18]), ([19], [19]), ([5, 10, 15, 20], [5, 10, 15, 20]), ([21], [21]), ([0, 22], [0, 22]), ([23, 23, 0, 1, 2, 3, 4, 5, 6, 7, 8, 9, 10, 11, 12, 13, 14, 15, 16, 17, 18, 19, 20, 21, 22, 23], [0, 23])])
def tenementlaw15_refWrites.B5 : List Nat := [0, 0, 0, 6, 14, 30, 0, 0, 192, 448, 960, 0, 0, 6144, 14336, 30720, 0, 0, 196608, 458752, 983040, 2097150, 4194302, 8388607, 16777215]
theorem tenementlaw15_refWrites.tab5 : rtab .any (opsOf Try.f57 5) = tenementlaw15_refWrites.T5 := by kernel_rfl
theorem tenementlaw15_refWrites.bits5 : waitsOk tenementlaw15_refWrites.T5.2 tenementlaw15_refWrites.B5 = true := by kernel_rfl
set_option maxHeartbeats 8000000 in
set_option maxRecDepth 100000 in
theorem tenementlaw15_refWrites.calls (k : Nat) (A0 : Option Addr) (c0 : Nat) (l0 : List (S107)) (r : List (S117)) (w : World) (hr0 : Kd.C k107 w A0 l0.length l0) (hc0 : l0.length ≤ c0) (h : tenementlaw15_refWrites.f k l0 = some r) :
  Calls Try.prog 57 #[.slice A0 l0.length c0] w fun e w' => ∃ v0_ : Value, e = .returned (v0_) ∧ Kd.R k117 117 w' w.heap.size (fun _ => True) v0_ r ∧ Below w.heap.size w w' := by
 have hu117 := Try.underlying117
 have HR0 := Aside0.mk hr0
 have HC0 := Aside0.mk hc0
 clear hr0 hc0
 have HB := Aside0.mk (Below.refl w.heap.size w)
 have H : (tenementlaw15_refWrites.l0 k l0 ([] : List (S117)) 0) = some r := h
 clear h
 have H' := Aside0.mk H
 clear H
 go_enter Try.func57, Try.ntmps57
 go_wp2
 go_loopg [3, 4] k (fun kq v3 v4 w' => ∃ (x3_1 : List (S117)) (x4_1 : Int), v4 = .int .i64 x4_1 ∧ Aside0 (tenementlaw15_refWrites.l0 kq l0 x3_1 x4_1 = some r) ∧ Aside0 (kq ≤ k) ∧ Aside0 (Kd.R k117 117 w' w.heap.size (fun _ => True) v3 x3_1) ∧ Aside0 (Below w.heap.size w w'))
 case atStart => exact ⟨(([] : List (S117))), (0), (by first | rfl | (simp; done) | (simp [*]; done)), H', ⟨Nat.le_refl _⟩, ⟨by first | exact Kd.R_nil _ _ _ _ _ | exact Kd.N_nil _ _ _ _ _ | exact Kd.V_nil _ _ _ _ _ | exact Kd.Q_nil _ _ _ _ _ | exact Kd.S_nil _ _ _ _ _⟩, ⟨Ky_ HB⟩⟩
 case round =>
  clear H'
  obtain ⟨x3_1, x4_1, rfl, HA, HK1, HO_3, HB⟩ := hrel
  cases gk with
  | zero => exact absurd HA.out (by simp [tenementlaw15_refWrites.l0])
  | succ k1 =>
   have H := HA.out
   clear HA
   simp only [tenementlaw15_refWrites.l0] at H
   by_cases c2 : x4_1 < (l0.length : Int)
   rotate_left
   ·rw [if_neg c2] at H
    have c2b0 : decide (x4_1 < (l0.length : Int)) = false := decide_eq_false c2
    clear c2
    obtain rfl := Option.some.inj H
    go_wp2
    go_ret
    exact ⟨_, by first | rfl | (simp [errW_none, errW_some] <;> rfl) | (simp [*, errW_none, errW_some] <;> rfl), by (with_reducible repeat (first | apply Kd.R_alloc | apply Kd.R_drewN | apply Kd.R_drew)); exact HO_3.out, Ky_ HB⟩
   rw [if_pos c2] at H
   have c2b0 : decide (x4_1 < (l0.length : Int)) = true := decide_eq_true c2
   clear c2
   by_cases c3 : 0 ≤ x4_1
   rotate_left
   ·rw [if_neg c3] at H
    exact absurd H (by simp)
   rw [if_pos c3] at H
   have c3b0 : decide (0 ≤ x4_1) = true := decide_eq_true c3
   clear c3
   by_cases c4 : x3_1.length < 2513169434916
   rotate_left
   ·rw [if_neg c4] at H
    exact absurd H (by simp)
   rw [if_pos c4] at H
   have LMc4 := Aside0.mk c4
   clear c4
   obtain ⟨y286, hy286⟩ : ∃ y_ : List (S117), y_ = (x3_1 ++ [(⟨(rd_T107 l0 x4_1).f0, (rd_T107 l0 x4_1).f1, (rd_T107 l0 x4_1).f2, (rd_T107 l0 x4_1).f3⟩ : S117)]) := ⟨_, rfl⟩
   replace H : (tenementlaw15_refWrites.l0 k1 l0 y286 (wrap64 (x4_1 + 1))) = some r := by first | (rw [hy286]; with_reducible exact H) | (have H2_ := (Option.bind_some _ _).symm.trans H; rw [hy286]; with_reducible exact H2_) | (have H2_ := (Option.bind_some _ _).symm.trans H; with_reducible exact H2_) | with_reducible exact H | (rw [hy286]; exact H) | exact H
   have Ny286 := Aside0.mk hy286
   clear hy286
   have H' := Aside0.mk H
   clear H
   try go_wp2
   replace HO_3 := Aside0.mk (Kd.R_drew HO_3.out)
   replace HB := Aside0.mk (below_drew1 HB.out)
   have p282 : 0 ≤ (x4_1 : Int) := of_decide_eq_true (by first | (with_reducible assumption) | assumption)
   have q282 : x4_1 < (l0.length : Int) := of_decide_eq_true (by first | (with_reducible assumption) | assumption)
   obtain ⟨ad282, e282, hx282_0, hx282_1, hx282_2, hx282_3⟩ := at_T107 HR0.out x4_1 p282 q282
   have hw282_3 := hx282_3
   have hw282_2 := hx282_2
   have hw282_1 := hx282_1
   have hw282_0 := hx282_0
   cases e282
   replace hx282_0 := (HB.out.cell (World.block_lt_of_cell? w _ hx282_0)).trans hx282_0
   replace hx282_1 := (HB.out.cell (World.block_lt_of_cell? w _ hx282_1)).trans hx282_1
   replace hx282_2 := (HB.out.cell (World.block_lt_of_cell? w _ hx282_2)).trans hx282_2
   replace hx282_3 := (HB.out.cell (World.block_lt_of_cell? w _ hx282_3)).trans hx282_3
   replace p282 := eq_true p282
   replace q282 := eq_true q282
   have p283 : 0 ≤ (x4_1 : Int) := of_decide_eq_true (by first | (with_reducible assumption) | assumption)
   have q283 : x4_1 < (l0.length : Int) := of_decide_eq_true (by first | (with_reducible assumption) | assumption)
   obtain ⟨ad283, e283, hx283_0, hx283_1, hx283_2, hx283_3⟩ := at_T107 HR0.out x4_1 p283 q283
   have hw283_3 := hx283_3
   have hw283_2 := hx283_2
   have hw283_1 := hx283_1
   have hw283_0 := hx283_0
   obtain rfl : ad282 = ad283 := (by injection e283)
   replace hx283_0 := (HB.out.cell (World.block_lt_of_cell? w _ hx283_0)).trans hx283_0
   replace hx283_1 := (HB.out.cell (World.block_lt_of_cell? w _ hx283_1)).trans hx283_1
   replace hx283_2 := (HB.out.cell (World.block_lt_of_cell? w _ hx283_2)).trans hx283_2
   replace hx283_3 := (HB.out.cell (World.block_lt_of_cell? w _ hx283_3)).trans hx283_3
   replace p283 := eq_true p283
   replace q283 := eq_true q283
   have p284 : 0 ≤ (x4_1 : Int) := of_decide_eq_true (by first | (with_reducible assumption) | assumption)
   have q284 : x4_1 < (l0.length : Int) := of_decide_eq_true (by first | (with_reducible assumption) | assumption)
   obtain ⟨ad284, e284, hx284_0, hx284_1, hx284_2, hx284_3⟩ := at_T107 HR0.out x4_1 p284 q284
   have hw284_3 := hx284_3
   have hw284_2 := hx284_2
   have hw284_1 := hx284_1
   have hw284_0 := hx284_0
   obtain rfl : ad282 = ad284 := (by injection e284)
   replace hx284_0 := (HB.out.cell (World.block_lt_of_cell? w _ hx284_0)).trans hx284_0
   replace hx284_1 := (HB.out.cell (World.block_lt_of_cell? w _ hx284_1)).trans hx284_1
   replace hx284_2 := (HB.out.cell (World.block_lt_of_cell? w _ hx284_2)).trans hx284_2
   replace hx284_3 := (HB.out.cell (World.block_lt_of_cell? w _ hx284_3)).trans hx284_3
   replace p284 := eq_true p284
   replace q284 := eq_true q284
   have p285 : 0 ≤ (x4_1 : Int) := of_decide_eq_true (by first | (with_reducible assumption) | assumption)
   have q285 : x4_1 < (l0.length : Int) := of_decide_eq_true (by first | (with_reducible assumption) | assumption)
   obtain ⟨ad285, e285, hx285_0, hx285_1, hx285_2, hx285_3⟩ := at_T107 HR0.out x4_1 p285 q285
   have hw285_3 := hx285_3
   have hw285_2 := hx285_2
   have hw285_1 := hx285_1
   have hw285_0 := hx285_0
   obtain rfl : ad282 = ad285 := (by injection e285)
   replace hx285_0 := (HB.out.cell (World.block_lt_of_cell? w _ hx285_0)).trans hx285_0
   replace hx285_1 := (HB.out.cell (World.block_lt_of_cell? w _ hx285_1)).trans hx285_1
   replace hx285_2 := (HB.out.cell (World.block_lt_of_cell? w _ hx285_2)).trans hx285_2
   replace hx285_3 := (HB.out.cell (World.block_lt_of_cell? w _ hx285_3)).trans hx285_3
   replace p285 := eq_true p285
   replace q285 := eq_true q285
   refine start_ (n := 25) (S := fun w' => w'.cell? (ad282.add ((x4_1).toNat * 4)) = some (.string ((rd_T107 l0 x4_1).f0)) ∧ w'.cell? ⟨(ad282.add ((x4_1).toNat * 4)).block, (ad282.add ((x4_1).toNat * 4)).off + 1, none⟩ = some (.string ((rd_T107 l0 x4_1).f1)) ∧ w'.cell? ⟨(ad282.add ((x4_1).toNat * 4)).block, (ad282.add ((x4_1).toNat * 4)).off + 2, none⟩ = some (.string ((rd_T107 l0 x4_1).f2)) ∧ w'.cell? ⟨(ad282.add ((x4_1).toNat * 4)).block, (ad282.add ((x4_1).toNat * 4)).off + 3, none⟩ = some (.bool ((rd_T107 l0 x4_1).f3)) ∧ w'.cell? (ad282.add ((x4_1).toNat * 4)) = some (.string ((rd_T107 l0 x4_1).f0)) ∧ w'.cell? ⟨(ad282.add ((x4_1).toNat * 4)).block, (ad282.add ((x4_1).toNat * 4)).off + 1, none⟩ = some (.string ((rd_T107 l0 x4_1).f1)) ∧ w'.cell? ⟨(ad282.add ((x4_1).toNat * 4)).block, (ad282.add ((x4_1).toNat * 4)).off + 2, none⟩ = some (.string ((rd_T107 l0 x4_1).f2)) ∧ w'.cell? ⟨(ad282.add ((x4_1).toNat * 4)).block, (ad282.add ((x4_1).toNat * 4)).off + 3, none⟩ = some (.bool ((rd_T107 l0 x4_1).f3)) ∧ w'.cell? (ad282.add ((x4_1).toNat * 4)) = some (.string ((rd_T107 l0 x4_1).f0)) ∧ w'.cell? ⟨(ad282.add ((x4_1).toNat * 4)).block, (ad282.add ((x4_1).toNat * 4)).off + 1, none⟩ = some (.string ((rd_T107 l0 x4_1).f1)) ∧ w'.cell? ⟨(ad282.add ((x4_1).toNat * 4)).block, (ad282.add ((x4_1).toNat * 4)).off + 2, none⟩ = some (.string ((rd_T107 l0 x4_1).f2)) ∧ w'.cell? ⟨(ad282.add ((x4_1).toNat * 4)).block, (ad282.add ((x4_1).toNat * 4)).off + 3, none⟩ = some (.bool ((rd_T107 l0 x4_1).f3)) ∧ w'.cell? (ad282.add ((x4_1).toNat * 4)) = some (.string ((rd_T107 l0 x4_1).f0)) ∧ w'.cell? ⟨(ad282.add ((x4_1).toNat * 4)).block, (ad282.add ((x4_1).toNat * 4)).off + 1, none⟩ = some (.string ((rd_T107 l0 x4_1).f1)) ∧ w'.cell? ⟨(ad282.add ((x4_1).toNat * 4)).block, (ad282.add ((x4_1).toNat * 4)).off + 2, none⟩ = some (.string ((rd_T107 l0 x4_1).f2)) ∧ w'.cell? ⟨(ad282.add ((x4_1).toNat * 4)).block, (ad282.add ((x4_1).toNat * 4)).off + 3, none⟩ = some (.bool ((rd_T107 l0 x4_1).f3))) (ds := []) (mB_ 25 0) (by kernel_rfl) rfl rfl ⟨((HB.out.cell (World.block_lt_of_cell? w _ hw282_0)).trans hw282_0), ((HB.out.cell (World.block_lt_of_cell? w _ hw282_1)).trans hw282_1), ((HB.out.cell (World.block_lt_of_cell? w _ hw282_2)).trans hw282_2), ((HB.out.cell (World.block_lt_of_cell? w _ hw282_3)).trans hw282_3), ((HB.out.cell (World.block_lt_of_cell? w _ hw283_0)).trans hw283_0), ((HB.out.cell (World.block_lt_of_cell? w _ hw283_1)).trans hw283_1), ((HB.out.cell (World.block_lt_of_cell? w _ hw283_2)).trans hw283_2), ((HB.out.cell (World.block_lt_of_cell? w _ hw283_3)).trans hw283_3), ((HB.out.cell (World.block_lt_of_cell? w _ hw284_0)).trans hw284_0), ((HB.out.cell (World.block_lt_of_cell? w _ hw284_1)).trans hw284_1), ((HB.out.cell (World.block_lt_of_cell? w _ hw284_2)).trans hw284_2), ((HB.out.cell (World.block_lt_of_cell? w _ hw284_3)).trans hw284_3), ((HB.out.cell (World.block_lt_of_cell? w _ hw285_0)).trans hw285_0), ((HB.out.cell (World.block_lt_of_cell? w _ hw285_1)).trans hw285_1), ((HB.out.cell (World.block_lt_of_cell? w _ hw285_2)).trans hw285_2), ((HB.out.cell (World.block_lt_of_cell? w _ hw285_3)).trans hw285_3)⟩ (fun hHeld => ?_); refine with_tabW tenementlaw15_refWrites.tab5 tenementlaw15_refWrites.bits5 (fun HT_ HW_ => ?_)
   generalize wr.drew = w5 at HO_3 HB hx282_0 hx282_1 hx282_2 hx282_3 hx283_0 hx283_1 hx283_2 hx283_3 hx284_0 hx284_1 hx284_2 hx284_3 hx285_0 hx285_1 hx285_2 hx285_3 hHeld ⊢
   refine Kp_ 0 11 (Bz 25 1) (any_of HT_.out (by kernel_rfl)) ?_
   refine Kp_ 1 12 (Bz 25 3) (any_of HT_.out (by kernel_rfl)) ?_
   refine Kp_ 2 13 (Bz 25 7) (any_of HT_.out (by kernel_rfl)) ?_
   refine Kp_ 3 14 (Bz 25 15) (any_of HT_.out (by kernel_rfl)) ?_
   refine Kp_ 4 15 (Bz 25 31) (any_of HT_.out (by kernel_rfl)) ?_
   refine Kp_ 6 17 (Bz 25 95) (any_of HT_.out (by kernel_rfl)) ?_
   refine Kp_ 7 18 (Bz 25 223) (any_of HT_.out (by kernel_rfl)) ?_
   refine Kp_ 8 19 (Bz 25 479) (any_of HT_.out (by kernel_rfl)) ?_
   refine Kp_ 9 20 (Bz 25 991) (any_of HT_.out (by kernel_rfl)) ?_
   refine Kp_ 11 22 (Bz 25 3039) (any_of HT_.out (by kernel_rfl)) ?_
   refine Kp_ 12 23 (Bz 25 7135) (any_of HT_.out (by kernel_rfl)) ?_
   refine Kp_ 13 24 (Bz 25 15327) (any_of HT_.out (by kernel_rfl)) ?_
   refine Kp_ 14 25 (Bz 25 31711) (any_of HT_.out (by kernel_rfl)) ?_
   refine Kp_ 16 27 (Bz 25 97247) (any_of HT_.out (by kernel_rfl)) ?_
   refine Kp_ 17 28 (Bz 25 228319) (any_of HT_.out (by kernel_rfl)) ?_
   refine Kp_ 18 29 (Bz 25 490463) (any_of HT_.out (by kernel_rfl)) ?_
   refine Kp_ 19 30 (Bz 25 1014751) (any_of HT_.out (by kernel_rfl)) ?_
   refine Ko_ 5 16 (Bz 25 1014783) (take_ofW HT_.out HW_.out (by kernel_rfl)) hHeld ?_
   refine Ko_ 10 21 (Bz 25 1015807) (take_ofW HT_.out HW_.out (by kernel_rfl)) hHeld ?_
   refine Ko_ 15 26 (Bz 25 1048575) (take_ofW HT_.out HW_.out (by kernel_rfl)) hHeld ?_
   refine Ko_ 20 31 (Bz 25 2097151) (take_ofW HT_.out HW_.out (by kernel_rfl)) hHeld ?_
   refine Kp_ 21 32 (Bz 25 4194303) (any_of HT_.out (by kernel_rfl)) ?_
   refine one_ (i := 22) (N := some 33) (Bz 25 8388607) rfl rfl (one_of HT_.out (by kernel_rfl)) (by decide) (fun K hK => ?_)
   refine value_ (w1 := ?_) (v := ?_) (by rfl) rfl ?_ ?_
   rotate_left 2
   ·go_simp
    constructor
    ·rfl
    ·rfl
   refine hK.out _ _ ⟨(World.cell?_alloc_lt _ _ _ (World.block_lt_of_cell? _ _ (((HB.out.cell (World.block_lt_of_cell? w _ hw282_0)).trans hw282_0)))).trans (((HB.out.cell (World.block_lt_of_cell? w _ hw282_0)).trans hw282_0)), (World.cell?_alloc_lt _ _ _ (World.block_lt_of_cell? _ _ (((HB.out.cell (World.block_lt_of_cell? w _ hw282_1)).trans hw282_1)))).trans (((HB.out.cell (World.block_lt_of_cell? w _ hw282_1)).trans hw282_1)), (World.cell?_alloc_lt _ _ _ (World.block_lt_of_cell? _ _ (((HB.out.cell (World.block_lt_of_cell? w _ hw282_2)).trans hw282_2)))).trans (((HB.out.cell (World.block_lt_of_cell? w _ hw282_2)).trans hw282_2)), (World.cell?_alloc_lt _ _ _ (World.block_lt_of_cell? _ _ (((HB.out.cell (World.block_lt_of_cell? w _ hw282_3)).trans hw282_3)))).trans (((HB.out.cell (World.block_lt_of_cell? w _ hw282_3)).trans hw282_3)), (World.cell?_alloc_lt _ _ _ (World.block_lt_of_cell? _ _ (((HB.out.cell (World.block_lt_of_cell? w _ hw283_0)).trans hw283_0)))).trans (((HB.out.cell (World.block_lt_of_cell? w _ hw283_0)).trans hw283_0)), (World.cell?_alloc_lt _ _ _ (World.block_lt_of_cell? _ _ (((HB.out.cell (World.block_lt_of_cell? w _ hw283_1)).trans hw283_1)))).trans (((HB.out.cell (World.block_lt_of_cell? w _ hw283_1)).trans hw283_1)), (World.cell?_alloc_lt _ _ _ (World.block_lt_of_cell? _ _ (((HB.out.cell (World.block_lt_of_cell? w _ hw283_2)).trans hw283_2)))).trans (((HB.out.cell (World.block_lt_of_cell? w _ hw283_2)).trans hw283_2)), (World.cell?_alloc_lt _ _ _ (World.block_lt_of_cell? _ _ (((HB.out.cell (World.block_lt_of_cell? w _ hw283_3)).trans hw283_3)))).trans (((HB.out.cell (World.block_lt_of_cell? w _ hw283_3)).trans hw283_3)), (World.cell?_alloc_lt _ _ _ (World.block_lt_of_cell? _ _ (((HB.out.cell (World.block_lt_of_cell? w _ hw284_0)).trans hw284_0)))).trans (((HB.out.cell (World.block_lt_of_cell? w _ hw284_0)).trans hw284_0)), (World.cell?_alloc_lt _ _ _ (World.block_lt_of_cell? _ _ (((HB.out.cell (World.block_lt_of_cell? w _ hw284_1)).trans hw284_1)))).trans (((HB.out.cell (World.block_lt_of_cell? w _ hw284_1)).trans hw284_1)), (World.cell?_alloc_lt _ _ _ (World.block_lt_of_cell? _ _ (((HB.out.cell (World.block_lt_of_cell? w _ hw284_2)).trans hw284_2)))).trans (((HB.out.cell (World.block_lt_of_cell? w _ hw284_2)).trans hw284_2)), (World.cell?_alloc_lt _ _ _ (World.block_lt_of_cell? _ _ (((HB.out.cell (World.block_lt_of_cell? w _ hw284_3)).trans hw284_3)))).trans (((HB.out.cell (World.block_lt_of_cell? w _ hw284_3)).trans hw284_3)), (World.cell?_alloc_lt _ _ _ (World.block_lt_of_cell? _ _ (((HB.out.cell (World.block_lt_of_cell? w _ hw285_0)).trans hw285_0)))).trans (((HB.out.cell (World.block_lt_of_cell? w _ hw285_0)).trans hw285_0)), (World.cell?_alloc_lt _ _ _ (World.block_lt_of_cell? _ _ (((HB.out.cell (World.block_lt_of_cell? w _ hw285_1)).trans hw285_1)))).trans (((HB.out.cell (World.block_lt_of_cell? w _ hw285_1)).trans hw285_1)), (World.cell?_alloc_lt _ _ _ (World.block_lt_of_cell? _ _ (((HB.out.cell (World.block_lt_of_cell? w _ hw285_2)).trans hw285_2)))).trans (((HB.out.cell (World.block_lt_of_cell? w _ hw285_2)).trans hw285_2)), (World.cell?_alloc_lt _ _ _ (World.block_lt_of_cell? _ _ (((HB.out.cell (World.block_lt_of_cell? w _ hw285_3)).trans hw285_3)))).trans (((HB.out.cell (World.block_lt_of_cell? w _ hw285_3)).trans hw285_3))⟩ (fun hHeld => ?_)
   clear hK K
   refine Kn_ 33 ?_
   refine one_ (i := 23) (N := some 34) (Bz 25 16777215) rfl rfl (one_of HT_.out (by kernel_rfl)) (by decide) (fun K hK => ?_)
   refine Kd.R_append_step k117 (w0 := w) w.heap.size (by rfl) (.tmp 11) (.tmp 33) 53 117 (.agg #[(.string ⟨#[]⟩), (.string ⟨#[]⟩), (.string ⟨#[]⟩), (.bool false)]) 56 rfl Try.underlying53 info117 rfl (by decide) (by omega) u3 x3_1 (⟨(rd_T107 l0 x4_1).f0, (rd_T107 l0 x4_1).f1, (rd_T107 l0 x4_1).f2, (rd_T107 l0 x4_1).f3⟩ : S117) [.string ((rd_T107 l0 x4_1).f0), .string ((rd_T107 l0 x4_1).f1), .string ((rd_T107 l0 x4_1).f2), .bool ((rd_T107 l0 x4_1).f3)] (fun _ => True) (fun _ => False) rfl rfl ?aP (fun _ hk => hk.elim) ?aF ?aO ?aB ?aS ?aL ?_
   (case aP => exact k117_mkM _ _ _ (⟨(rd_T107 l0 x4_1).f0, (rd_T107 l0 x4_1).f1, (rd_T107 l0 x4_1).f2, (rd_T107 l0 x4_1).f3⟩ : S117))
   (case aB => exact (Ky_ HB))
   (case aF => exact (fun _ _ => trivial))
   (case aO => exact (Ku_ HO_3))
   (case aS => exact (below_size (Ky_ HB)))
   (case aL => have := LMc4.out; omega)
   intro v287 w6 ho hb hg hat
   rw [← Ny286.out] at ho
   have HO288 := Aside0.mk (ho)
   replace HB := Aside0.mk (hb)
   clear HO_3
   clear ho hb hg hat
   refine hK.out _ _ ⟨((HB.out.cell (World.block_lt_of_cell? w _ hw282_0)).trans hw282_0), ((HB.out.cell (World.block_lt_of_cell? w _ hw282_1)).trans hw282_1), ((HB.out.cell (World.block_lt_of_cell? w _ hw282_2)).trans hw282_2), ((HB.out.cell (World.block_lt_of_cell? w _ hw282_3)).trans hw282_3), ((HB.out.cell (World.block_lt_of_cell? w _ hw283_0)).trans hw283_0), ((HB.out.cell (World.block_lt_of_cell? w _ hw283_1)).trans hw283_1), ((HB.out.cell (World.block_lt_of_cell? w _ hw283_2)).trans hw283_2), ((HB.out.cell (World.block_lt_of_cell? w _ hw283_3)).trans hw283_3), ((HB.out.cell (World.block_lt_of_cell? w _ hw284_0)).trans hw284_0), ((HB.out.cell (World.block_lt_of_cell? w _ hw284_1)).trans hw284_1), ((HB.out.cell (World.block_lt_of_cell? w _ hw284_2)).trans hw284_2), ((HB.out.cell (World.block_lt_of_cell? w _ hw284_3)).trans hw284_3), ((HB.out.cell (World.block_lt_of_cell? w _ hw285_0)).trans hw285_0), ((HB.out.cell (World.block_lt_of_cell? w _ hw285_1)).trans hw285_1), ((HB.out.cell (World.block_lt_of_cell? w _ hw285_2)).trans hw285_2), ((HB.out.cell (World.block_lt_of_cell? w _ hw285_3)).trans hw285_3)⟩ (fun hHeld => ?_)
   clear hK K
   refine Kn_ 34 ?_
   refine Kp_ 24 3 (Bz 25 33554431) (any_of HT_.out (by kernel_rfl)) ?_
   refine done_ (done_of HT_.out (by kernel_rfl)) ?_
   try go_wp2
   go_roundg k1
   case measure => have := HK1.out; omega
   case rel => exact ⟨(y286), (wrap64 (x4_1 + 1)), (by first | rfl | (simp; done) | (simp [*]; done)), H', ⟨by have := HK1.out; omega⟩, ⟨by (with_reducible repeat (first | apply Kd.R_alloc | apply Kd.R_drewN | apply Kd.R_drew)); exact HO288.out⟩, ⟨Ky_ HB⟩⟩
end Go.Proofs.Ytoagfdpgnfinhaa.Q
