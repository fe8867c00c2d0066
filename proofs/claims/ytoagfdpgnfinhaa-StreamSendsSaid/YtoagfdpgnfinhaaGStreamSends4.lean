import Derived.Test.YtoagfdpgnfinhaaGStreamSends2
import Derived.Test.YtoagfdpgnfinhaaGStreamSends3
namespace Go.Proofs.Ytoagfdpgnfinhaa.Q
open Go.RowKit Go.Proofs.YtoagfdpgnfinhaaW.PrintWords Go.Proofs.YtoagfdpgnfinhaaW.PrintLast Go.Proofs.YtoagfdpgnfinhaaW.PrintMore
attribute [local go_sem] max2_int min2_int max_two min_two max_three min_three max_four min_four   -- for this text's walks alone
set_option linter.unusedVariables false
set_option linter.unusedSimpArgs false
def vec_With.f (a0_0 a0_1 a0_2 a0_3 n x : Int) : Option (Int × Int × Int × Int) := some (if n = 1 then x else a0_0, if n = 2 then x else a0_1, if n = 3 then x else a0_2, if n = 4 then x else a0_3)
set_option maxHeartbeats 8000000 in
set_option maxRecDepth 100000 in
theorem vec_With.calls (a0_0 a0_1 a0_2 a0_3 n x : Int) (r0 r1 r2 r3 : Int) (w : World) (h : vec_With.f a0_0 a0_1 a0_2 a0_3 n x = some (r0, r1, r2, r3)) :
  Calls Try.prog 46 #[.agg #[.int .u64 a0_0, .int .u64 a0_1, .int .u64 a0_2, .int .u64 a0_3], .int .i64 n, .int .u64 x] w fun e w' => e = .returned (.agg #[.int .u64 r0, .int .u64 r1, .int .u64 r2, .int .u64 r3]) ∧ Below w.heap.size w w' := by
 unfold vec_With.f at h
 have h := Option.some.inj h
 simp only [Prod.mk.injEq] at h
 obtain ⟨rfl, rfl, rfl, rfl⟩ := h
 have hu := Try.underlying28
 have hu2 := Try.underlying26
 by_cases c0 : n = 1
 ·subst c0
  go_enter Try.func46, Try.ntmps46
  go_wp2
  refine bodyPost_ret (v := .agg #[.int .u64 x, .int .u64 a0_1, .int .u64 a0_2, .int .u64 a0_3]) (by simp [results, Try.results46, go_sem, hu, hu2]) rfl ⟨rfl, by first | exact below_alloc (Below.refl _ _) _ | (repeat (first | exact Below.refl _ _ | apply below_alloc | apply pw_below_drewN | apply below_drew1 | (refine below_set ?_ (by simp)) | (refine below_set ?_ (by simp; omega))))⟩
 by_cases c1 : n = 2
 ·subst c1
  go_enter Try.func46, Try.ntmps46
  go_wp2
  refine bodyPost_ret (v := .agg #[.int .u64 a0_0, .int .u64 x, .int .u64 a0_2, .int .u64 a0_3]) (by simp [results, Try.results46, go_sem, hu, hu2]) rfl ⟨rfl, by first | exact below_alloc (Below.refl _ _) _ | (repeat (first | exact Below.refl _ _ | apply below_alloc | apply pw_below_drewN | apply below_drew1 | (refine below_set ?_ (by simp)) | (refine below_set ?_ (by simp; omega))))⟩
 by_cases c2 : n = 3
 ·subst c2
  go_enter Try.func46, Try.ntmps46
  go_wp2
  refine bodyPost_ret (v := .agg #[.int .u64 a0_0, .int .u64 a0_1, .int .u64 x, .int .u64 a0_3]) (by simp [results, Try.results46, go_sem, hu, hu2]) rfl ⟨rfl, by first | exact below_alloc (Below.refl _ _) _ | (repeat (first | exact Below.refl _ _ | apply below_alloc | apply pw_below_drewN | apply below_drew1 | (refine below_set ?_ (by simp)) | (refine below_set ?_ (by simp; omega))))⟩
 by_cases c3 : n = 4
 ·subst c3
  go_enter Try.func46, Try.ntmps46
  go_wp2
  refine bodyPost_ret (v := .agg #[.int .u64 a0_0, .int .u64 a0_1, .int .u64 a0_2, .int .u64 x]) (by simp [results, Try.results46, go_sem, hu, hu2]) rfl ⟨rfl, by first | exact below_alloc (Below.refl _ _) _ | (repeat (first | exact Below.refl _ _ | apply below_alloc | apply pw_below_drewN | apply below_drew1 | (refine below_set ?_ (by simp)) | (refine below_set ?_ (by simp; omega))))⟩
 rw [if_neg c0, if_neg c1, if_neg c2, if_neg c3]
 have b1 : (decide (1 ≤ n) = false ∧ decide (n < 1) = true) ∨ (decide (1 ≤ n) = true ∧ decide (n < 1) = false ∧ decide (n ≤ 4) = false ∧ decide (4 < n) = true) := by
  by_cases h : 1 ≤ n
  ·exact Or.inr ⟨decide_eq_true h, decide_eq_false (by omega), decide_eq_false (by omega), decide_eq_true (by omega)⟩
  ·exact Or.inl ⟨decide_eq_false h, decide_eq_true (by omega)⟩
 clear c0 c1 c2 c3
 rcases b1 with ⟨b1, b2⟩ | ⟨b1, b2, b3, b4⟩
 ·go_enter Try.func46, Try.ntmps46
  go_wp2
  refine bodyPost_ret (v := .agg #[.int .u64 a0_0, .int .u64 a0_1, .int .u64 a0_2, .int .u64 a0_3]) (by simp [results, Try.results46, go_sem, hu, hu2]) rfl ⟨rfl, by first | exact below_alloc (Below.refl _ _) _ | (repeat (first | exact Below.refl _ _ | apply below_alloc | apply pw_below_drewN | apply below_drew1 | (refine below_set ?_ (by simp)) | (refine below_set ?_ (by simp; omega))))⟩
 ·go_enter Try.func46, Try.ntmps46
  go_wp2
  refine bodyPost_ret (v := .agg #[.int .u64 a0_0, .int .u64 a0_1, .int .u64 a0_2, .int .u64 a0_3]) (by simp [results, Try.results46, go_sem, hu, hu2]) rfl ⟨rfl, by first | exact below_alloc (Below.refl _ _) _ | (repeat (first | exact Below.refl _ _ | apply below_alloc | apply pw_below_drewN | apply below_drew1 | (refine below_set ?_ (by simp)) | (refine below_set ?_ (by simp; omega))))⟩
def stream_Ready.f (a0_0 : Int) (a0_1 : Int) (a0_2 : Int) (a0_3 : Int) (a1_0 : Int) (a1_1 : Int) (a1_2 : Int) (a1_3 : Int) (a1_4 : Int) : Option (Int) := (vec_At.f a0_0 a0_1 a0_2 a0_3 a1_4).bind fun t163 => ((stamp_Right.f a1_0 a1_1 a1_2 a1_3 a1_4).bind fun t164 => (if t164 = true then ((stamp_Stamp_N.f a1_0 a1_1 a1_2 a1_3 a1_4).bind fun t165 => (if t165 ≤ t163 then (some (-1)) else ((vec_With.f a0_0 a0_1 a0_2 a0_3 a1_4 (IntKind.u64.wrap (t163 + 1))).bind fun bt166 => ((vec_Leq.f a1_0 a1_1 a1_2 a1_3 bt166.1 bt166.2.1 bt166.2.2.1 bt166.2.2.2).bind fun t170 => (if t170 = true then (some 1) else (some 0)))))) else (some 0)))
def stream_Ready.T6 : Bool × List (List Nat × List Nat) := (true, [([], []), ([0], [0]), ([], []), ([], []), ([3], [3]), ([], []), ([5], [5]), ([2, 4, 6], [2, 4, 6]), ([1, 7, 7], [1, 7]), ([8, 8], [8])])
def stream_Ready.B6 : List Nat := [0, 1, 0, 0, 8, 0, 32, 124, 255, 511]
theorem stream_Ready.tab6 : rtab .any (opsOf Try.f30 6) = stream_Ready.T6 := by kernel_rfl
theorem stream_Ready.bits6 : waitsOk stream_Ready.T6.2 stream_Ready.B6 = true := by kernel_rfl
set_option maxHeartbeats 8000000 in
set_option maxRecDepth 100000 in
theorem stream_Ready.calls (a0_0 : Int) (a0_1 : Int) (a0_2 : Int) (a0_3 : Int) (a1_0 : Int) (a1_1 : Int) (a1_2 : Int) (a1_3 : Int) (a1_4 : Int) (r : Int) (w : World) (h : stream_Ready.f a0_0 a0_1 a0_2 a0_3 a1_0 a1_1 a1_2 a1_3 a1_4 = some r) :
  Calls Try.prog 30 #[.agg #[.int .u64 a0_0, .int .u64 a0_1, .int .u64 a0_2, .int .u64 a0_3], .agg #[.int .u64 a1_0, .int .u64 a1_1, .int .u64 a1_2, .int .u64 a1_3, .int .i64 a1_4]] w fun e w' => e = .returned (.int .i64 r) ∧ Below w.heap.size w w' := by
 have hu28 := Try.underlying28
 have hu30 := Try.underlying30
 have HB := Aside0.mk (Below.refl w.heap.size w)
 have H : ((vec_At.f a0_0 a0_1 a0_2 a0_3 a1_4).bind fun t163 => ((stamp_Right.f a1_0 a1_1 a1_2 a1_3 a1_4).bind fun t164 => (if t164 = true then ((stamp_Stamp_N.f a1_0 a1_1 a1_2 a1_3 a1_4).bind fun t165 => (if t165 ≤ t163 then (some (-1)) else ((vec_With.f a0_0 a0_1 a0_2 a0_3 a1_4 (IntKind.u64.wrap (t163 + 1))).bind fun bt166 => ((vec_Leq.f a1_0 a1_1 a1_2 a1_3 bt166.1 bt166.2.1 bt166.2.2.1 bt166.2.2.2).bind fun t170 => (if t170 = true then (some 1) else (some 0)))))) else (some 0)))) = some r := h
 clear h
 replace H := Option.bind_eq_some_iff.mp H
 obtain ⟨t163, A30, H⟩ := H
 replace H : ((stamp_Right.f a1_0 a1_1 a1_2 a1_3 a1_4).bind fun t164 => (if t164 = true then ((stamp_Stamp_N.f a1_0 a1_1 a1_2 a1_3 a1_4).bind fun t165 => (if t165 ≤ t163 then (some (-1)) else ((vec_With.f a0_0 a0_1 a0_2 a0_3 a1_4 (IntKind.u64.wrap (t163 + 1))).bind fun bt166 => ((vec_Leq.f a1_0 a1_1 a1_2 a1_3 bt166.1 bt166.2.1 bt166.2.2.1 bt166.2.2.2).bind fun t170 => (if t170 = true then (some 1) else (some 0)))))) else (some 0))) = some r := H
 have A3 := Aside0.mk A30
 clear A30
 replace H := Option.bind_eq_some_iff.mp H
 obtain ⟨t164, A40, H⟩ := H
 replace H : (if t164 = true then ((stamp_Stamp_N.f a1_0 a1_1 a1_2 a1_3 a1_4).bind fun t165 => (if t165 ≤ t163 then (some (-1)) else ((vec_With.f a0_0 a0_1 a0_2 a0_3 a1_4 (IntKind.u64.wrap (t163 + 1))).bind fun bt166 => ((vec_Leq.f a1_0 a1_1 a1_2 a1_3 bt166.1 bt166.2.1 bt166.2.2.1 bt166.2.2.2).bind fun t170 => (if t170 = true then (some 1) else (some 0)))))) else (some 0)) = some r := H
 have A4 := Aside0.mk A40
 clear A40
 by_cases c5 : t164 = true
 rotate_left
 ·replace c5 := Bool.eq_false_iff.mpr c5
  subst c5
  have H1 : (some 0) = some r := by rw [if_neg (show ¬ (false = true) by decide)] at H; exact H
  clear H
  have H := H1
  clear H1
  obtain rfl := Option.some.inj H
  go_enter Try.func30, Try.ntmps30
  go_wp2_with (first | ((with_reducible refine gate_dst (N := 2) rfl ?_); refine Ka_ 2 #[.int .u64 a0_0, .int .u64 a0_1, .int .u64 a0_2, .int .u64 a0_3] 28 ?_; intro gb161 hg w47 hbox hb; have BK161 := Aside0.mk (hbox); have GW161 := Kw_ HB hg; have GE161 := GW161; replace HB := Ks_ HB hb; clear hb hbox hg) | ((with_reducible refine gate_dst (N := 3) rfl ?_); refine Ka_ 3 #[.int .u64 a1_0, .int .u64 a1_1, .int .u64 a1_2, .int .u64 a1_3, .int .i64 a1_4] 30 ?_; intro gb162 hg w48 hbox hb; have BK162 := Aside0.mk (hbox); have GW162 := Kw_ HB hg; have GE162 := GW162; have NB161_162 := Kl_ BK161 hg; have NB162_161 := Kr_ BK161 hg; replace BK161 := Kb_ BK161 hb; replace HB := Ks_ HB hb; clear hb hbox hg; have hnb49 := NB161_162.out; have hnc49 := NB162_161.out; obtain ⟨hcz50_0, hcz50_1, hcz50_2, hcz50_3, hfz50_0, hfz50_1, hfz50_2, hfz50_3⟩ := Ke4_ BK161.out; obtain ⟨hcz51_0, hcz51_1, hcz51_2, hcz51_3, hcz51_4, hfz51_0, hfz51_1, hfz51_2, hfz51_3, hfz51_4⟩ := Ke5_ BK162.out) | ((with_reducible refine gate_callee (f := 48) rfl ?_); refine Kg_ (some 9) rfl rfl Try.func48 (by kernel_rfl) rfl #[.agg #[.int .u64 a0_0, .int .u64 a0_1, .int .u64 a0_2, .int .u64 a0_3], .int .i64 a1_4] rfl ?_; (with_reducible refine (vec_At.calls a0_0 a0_1 a0_2 a0_3 a1_4 t163 _ A3.out).mono ?_); rintro e w52 ⟨rfl, hb⟩; refine ⟨_, rfl, ?_⟩; replace BK161 := Kb_ BK161 hb; replace BK162 := Kb_ BK162 hb; replace HB := Ks_ HB hb; (try clear hb); (try clear hb2); (try clear hk); (try clear hi); obtain ⟨hcz53_0, hcz53_1, hcz53_2, hcz53_3, hcz53_4, hfz53_0, hfz53_1, hfz53_2, hfz53_3, hfz53_4⟩ := Ke5_ BK162.out) | ((with_reducible refine gate_callee (f := 69) rfl ?_); refine Kg_ (some 12) rfl rfl Try.func69 (by kernel_rfl) rfl #[.agg #[.int .u64 a1_0, .int .u64 a1_1, .int .u64 a1_2, .int .u64 a1_3, .int .i64 a1_4]] rfl ?_; (with_reducible refine (stamp_Right.calls a1_0 a1_1 a1_2 a1_3 a1_4 false _ A4.out).mono ?_); rintro e w54 ⟨rfl, hb⟩; refine ⟨_, rfl, ?_⟩; replace BK161 := Kb_ BK161 hb; replace BK162 := Kb_ BK162 hb; replace HB := Ks_ HB hb; (try clear hb); (try clear hb2); (try clear hk); (try clear hi)))
  go_ret
  exact ⟨Kh_, K2a_ HB GE161 GE162⟩
 subst c5
 have H1 : ((stamp_Stamp_N.f a1_0 a1_1 a1_2 a1_3 a1_4).bind fun t165 => (if t165 ≤ t163 then (some (-1)) else ((vec_With.f a0_0 a0_1 a0_2 a0_3 a1_4 (IntKind.u64.wrap (t163 + 1))).bind fun bt166 => ((vec_Leq.f a1_0 a1_1 a1_2 a1_3 bt166.1 bt166.2.1 bt166.2.2.1 bt166.2.2.2).bind fun t170 => (if t170 = true then (some 1) else (some 0)))))) = some r := by rw [if_pos rfl] at H; exact H
 clear H
 have H := H1
 clear H1
 replace H := Option.bind_eq_some_iff.mp H
 obtain ⟨t165, A60, H⟩ := H
 replace H : (if t165 ≤ t163 then (some (-1)) else ((vec_With.f a0_0 a0_1 a0_2 a0_3 a1_4 (IntKind.u64.wrap (t163 + 1))).bind fun bt166 => ((vec_Leq.f a1_0 a1_1 a1_2 a1_3 bt166.1 bt166.2.1 bt166.2.2.1 bt166.2.2.2).bind fun t170 => (if t170 = true then (some 1) else (some 0))))) = some r := H
 have A6 := Aside0.mk A60
 clear A60
 by_cases c7 : t165 ≤ t163
 ·rw [if_pos c7] at H
  have c7b0 : decide (t165 ≤ t163) = true := decide_eq_true c7
  clear c7
  obtain rfl := Option.some.inj H
  go_enter Try.func30, Try.ntmps30
  go_wp2_with (first | ((with_reducible refine gate_dst (N := 2) rfl ?_); refine Ka_ 2 #[.int .u64 a0_0, .int .u64 a0_1, .int .u64 a0_2, .int .u64 a0_3] 28 ?_; intro gb161 hg w8 hbox hb; have BK161 := Aside0.mk (hbox); have GW161 := Kw_ HB hg; have GE161 := GW161; replace HB := Ks_ HB hb; clear hb hbox hg) | ((with_reducible refine gate_dst (N := 3) rfl ?_); refine Ka_ 3 #[.int .u64 a1_0, .int .u64 a1_1, .int .u64 a1_2, .int .u64 a1_3, .int .i64 a1_4] 30 ?_; intro gb162 hg w9 hbox hb; have BK162 := Aside0.mk (hbox); have GW162 := Kw_ HB hg; have GE162 := GW162; have NB161_162 := Kl_ BK161 hg; have NB162_161 := Kr_ BK161 hg; replace BK161 := Kb_ BK161 hb; replace HB := Ks_ HB hb; clear hb hbox hg; have hnb10 := NB161_162.out; have hnc10 := NB162_161.out; obtain ⟨hcz11_0, hcz11_1, hcz11_2, hcz11_3, hfz11_0, hfz11_1, hfz11_2, hfz11_3⟩ := Ke4_ BK161.out; obtain ⟨hcz12_0, hcz12_1, hcz12_2, hcz12_3, hcz12_4, hfz12_0, hfz12_1, hfz12_2, hfz12_3, hfz12_4⟩ := Ke5_ BK162.out) | ((with_reducible refine gate_callee (f := 48) rfl ?_); refine Kg_ (some 9) rfl rfl Try.func48 (by kernel_rfl) rfl #[.agg #[.int .u64 a0_0, .int .u64 a0_1, .int .u64 a0_2, .int .u64 a0_3], .int .i64 a1_4] rfl ?_; (with_reducible refine (vec_At.calls a0_0 a0_1 a0_2 a0_3 a1_4 t163 _ A3.out).mono ?_); rintro e w13 ⟨rfl, hb⟩; refine ⟨_, rfl, ?_⟩; replace BK161 := Kb_ BK161 hb; replace BK162 := Kb_ BK162 hb; replace HB := Ks_ HB hb; (try clear hb); (try clear hb2); (try clear hk); (try clear hi); obtain ⟨hcz14_0, hcz14_1, hcz14_2, hcz14_3, hcz14_4, hfz14_0, hfz14_1, hfz14_2, hfz14_3, hfz14_4⟩ := Ke5_ BK162.out) | ((with_reducible refine gate_callee (f := 69) rfl ?_); refine Kg_ (some 12) rfl rfl Try.func69 (by kernel_rfl) rfl #[.agg #[.int .u64 a1_0, .int .u64 a1_1, .int .u64 a1_2, .int .u64 a1_3, .int .i64 a1_4]] rfl ?_; (with_reducible refine (stamp_Right.calls a1_0 a1_1 a1_2 a1_3 a1_4 true _ A4.out).mono ?_); rintro e w15 ⟨rfl, hb⟩; refine ⟨_, rfl, ?_⟩; replace BK161 := Kb_ BK161 hb; replace BK162 := Kb_ BK162 hb; replace HB := Ks_ HB hb; (try clear hb); (try clear hb2); (try clear hk); (try clear hi); obtain ⟨hcz16_0, hcz16_1, hcz16_2, hcz16_3, hcz16_4, hfz16_0, hfz16_1, hfz16_2, hfz16_3, hfz16_4⟩ := Ke5_ BK162.out) | ((with_reducible refine gate_callee (f := 47) rfl ?_); refine Kg_ (some 16) rfl rfl Try.func47 (by kernel_rfl) rfl #[.agg #[.int .u64 a1_0, .int .u64 a1_1, .int .u64 a1_2, .int .u64 a1_3, .int .i64 a1_4]] rfl ?_; (with_reducible refine (stamp_Stamp_N.calls a1_0 a1_1 a1_2 a1_3 a1_4 t165 _ A6.out).mono ?_); rintro e w17 ⟨rfl, hb⟩; refine ⟨_, rfl, ?_⟩; replace BK161 := Kb_ BK161 hb; replace BK162 := Kb_ BK162 hb; replace HB := Ks_ HB hb; (try clear hb); (try clear hb2); (try clear hk); (try clear hi)))
  go_ret
  exact ⟨Kh_, K2a_ HB GE161 GE162⟩
 rw [if_neg c7] at H
 have c7b0 : decide (t165 ≤ t163) = false := decide_eq_false c7
 clear c7
 replace H := Option.bind_eq_some_iff.mp H
 obtain ⟨⟨t166, t167, t168, t169⟩, A180, H⟩ := H
 replace H : ((vec_Leq.f a1_0 a1_1 a1_2 a1_3 t166 t167 t168 t169).bind fun t170 => (if t170 = true then (some 1) else (some 0))) = some r := H
 have A18 := Aside0.mk A180
 clear A180
 replace H := Option.bind_eq_some_iff.mp H
 obtain ⟨t170, A190, H⟩ := H
 replace H : (if t170 = true then (some 1) else (some 0)) = some r := H
 have A19 := Aside0.mk A190
 clear A190
 by_cases c20 : t170 = true
 ·subst c20
  have H1 : (some 1) = some r := by rw [if_pos rfl] at H; exact H
  clear H
  have H := H1
  clear H1
  obtain rfl := Option.some.inj H
  go_enter Try.func30, Try.ntmps30
  try go_wp2_with (first | ((with_reducible refine gate_dst (N := 2) rfl ?_); refine Ka_ 2 #[.int .u64 a0_0, .int .u64 a0_1, .int .u64 a0_2, .int .u64 a0_3] 28 ?_; intro gb161 hg w21 hbox hb; have BK161 := Aside0.mk (hbox); have GW161 := Kw_ HB hg; have GE161 := GW161; replace HB := Ks_ HB hb; clear hb hbox hg) | ((with_reducible refine gate_dst (N := 3) rfl ?_); refine Ka_ 3 #[.int .u64 a1_0, .int .u64 a1_1, .int .u64 a1_2, .int .u64 a1_3, .int .i64 a1_4] 30 ?_; intro gb162 hg w22 hbox hb; have BK162 := Aside0.mk (hbox); have GW162 := Kw_ HB hg; have GE162 := GW162; have NB161_162 := Kl_ BK161 hg; have NB162_161 := Kr_ BK161 hg; replace BK161 := Kb_ BK161 hb; replace HB := Ks_ HB hb; clear hb hbox hg; have hnb23 := NB161_162.out; have hnc23 := NB162_161.out; obtain ⟨hcz24_0, hcz24_1, hcz24_2, hcz24_3, hfz24_0, hfz24_1, hfz24_2, hfz24_3⟩ := Ke4_ BK161.out; obtain ⟨hcz25_0, hcz25_1, hcz25_2, hcz25_3, hcz25_4, hfz25_0, hfz25_1, hfz25_2, hfz25_3, hfz25_4⟩ := Ke5_ BK162.out) | ((with_reducible refine gate_callee (f := 48) rfl ?_); refine Kg_ (some 9) rfl rfl Try.func48 (by kernel_rfl) rfl #[.agg #[.int .u64 a0_0, .int .u64 a0_1, .int .u64 a0_2, .int .u64 a0_3], .int .i64 a1_4] rfl ?_; (with_reducible refine (vec_At.calls a0_0 a0_1 a0_2 a0_3 a1_4 t163 _ A3.out).mono ?_); rintro e w26 ⟨rfl, hb⟩; refine ⟨_, rfl, ?_⟩; replace BK161 := Kb_ BK161 hb; replace BK162 := Kb_ BK162 hb; replace HB := Ks_ HB hb; (try clear hb); (try clear hb2); (try clear hk); (try clear hi); obtain ⟨hcz27_0, hcz27_1, hcz27_2, hcz27_3, hcz27_4, hfz27_0, hfz27_1, hfz27_2, hfz27_3, hfz27_4⟩ := Ke5_ BK162.out) | ((with_reducible refine gate_callee (f := 69) rfl ?_); refine Kg_ (some 12) rfl rfl Try.func69 (by kernel_rfl) rfl #[.agg #[.int .u64 a1_0, .int .u64 a1_1, .int .u64 a1_2, .int .u64 a1_3, .int .i64 a1_4]] rfl ?_; (with_reducible refine (stamp_Right.calls a1_0 a1_1 a1_2 a1_3 a1_4 true _ A4.out).mono ?_); rintro e w28 ⟨rfl, hb⟩; refine ⟨_, rfl, ?_⟩; replace BK161 := Kb_ BK161 hb; replace BK162 := Kb_ BK162 hb; replace HB := Ks_ HB hb; (try clear hb); (try clear hb2); (try clear hk); (try clear hi); obtain ⟨hcz29_0, hcz29_1, hcz29_2, hcz29_3, hcz29_4, hfz29_0, hfz29_1, hfz29_2, hfz29_3, hfz29_4⟩ := Ke5_ BK162.out) | ((with_reducible refine gate_callee (f := 47) rfl ?_); refine Kg_ (some 16) rfl rfl Try.func47 (by kernel_rfl) rfl #[.agg #[.int .u64 a1_0, .int .u64 a1_1, .int .u64 a1_2, .int .u64 a1_3, .int .i64 a1_4]] rfl ?_; (with_reducible refine (stamp_Stamp_N.calls a1_0 a1_1 a1_2 a1_3 a1_4 t165 _ A6.out).mono ?_); rintro e w30 ⟨rfl, hb⟩; refine ⟨_, rfl, ?_⟩; replace BK161 := Kb_ BK161 hb; replace BK162 := Kb_ BK162 hb; replace HB := Ks_ HB hb; (try clear hb); (try clear hb2); (try clear hk); (try clear hi)))
  replace BK161 := Kd_ BK161
  replace BK162 := Kd_ BK162
  replace HB := Aside0.mk (below_drew1 HB.out)
  refine start_ (n := 10) (S := fun w' => w'.cell? ⟨gb162, 0, none⟩ = some (.int .u64 a1_0) ∧ w'.cell? ⟨gb162, 1, none⟩ = some (.int .u64 a1_1) ∧ w'.cell? ⟨gb162, 2, none⟩ = some (.int .u64 a1_2) ∧ w'.cell? ⟨gb162, 3, none⟩ = some (.int .u64 a1_3) ∧ w'.cell? ⟨gb162, 4, none⟩ = some (.int .i64 a1_4) ∧ w'.cell? ⟨gb161, 0, none⟩ = some (.int .u64 a0_0) ∧ w'.cell? ⟨gb161, 1, none⟩ = some (.int .u64 a0_1) ∧ w'.cell? ⟨gb161, 2, none⟩ = some (.int .u64 a0_2) ∧ w'.cell? ⟨gb161, 3, none⟩ = some (.int .u64 a0_3)) (ds := []) (mB_ 10 0) (by kernel_rfl) rfl rfl ⟨Km_ BK162 0, Km_ BK162 1, Km_ BK162 2, Km_ BK162 3, Km_ BK162 4, Km_ BK161 0, Km_ BK161 1, Km_ BK161 2, Km_ BK161 3⟩ (fun hHeld => ?_); refine with_tabW stream_Ready.tab6 stream_Ready.bits6 (fun HT_ HW_ => ?_)
  generalize w30.drew = w31 at BK161 BK162 HB hHeld ⊢
  refine Kp_ 0 20 (mB_ 10 1) (any_of HT_.out (by kernel_rfl)) ?_
  refine Kp_ 3 23 (mB_ 10 9) (any_of HT_.out (by kernel_rfl)) ?_
  refine Kp_ 5 25 (mB_ 10 41) (any_of HT_.out (by kernel_rfl)) ?_
  refine Kp_ 6 26 (mB_ 10 105) (any_of HT_.out (by kernel_rfl)) ?_
  refine Ko_ 1 21 (mB_ 10 107) (take_ofW HT_.out HW_.out (by kernel_rfl)) hHeld ?_
  refine Ko_ 2 22 (mB_ 10 111) (take_ofW HT_.out HW_.out (by kernel_rfl)) hHeld ?_
  refine Ko_ 4 24 (mB_ 10 127) (take_ofW HT_.out HW_.out (by kernel_rfl)) hHeld ?_
  refine one_ (i := 7) (N := some 27) (mB_ 10 255) rfl rfl (one_of HT_.out (by kernel_rfl)) (by decide) (fun K hK => ?_)
  refine goes_ Try.func46 (by kernel_rfl) rfl #[.agg #[.int .u64 a0_0, .int .u64 a0_1, .int .u64 a0_2, .int .u64 a0_3], .int .i64 a1_4, .int .u64 (IntKind.u64.wrap (t163 + 1))] (by rfl) rfl rfl (by (try simp only [List.map_toArray, List.map_cons, List.map_nil]); first | done | rfl | (simp only [List.length_drop, List.length_take]; rfl)) ?_
  with_reducible refine (vec_With.calls a0_0 a0_1 a0_2 a0_3 a1_4 (IntKind.u64.wrap (t163 + 1)) t166 t167 t168 t169 _ A18.out).mono ?_
  rintro e w32 ⟨rfl, hb⟩
  refine ⟨_, rfl, ?_⟩
  replace BK161 := Kb_ BK161 hb
  replace BK162 := Kb_ BK162 hb
  replace HB := Ks_ HB hb
  (try clear hb)
  (try clear hb2)
  (try clear hk)
  (try clear hi)
  refine hK.out _ _ ⟨Km_ BK162 0, Km_ BK162 1, Km_ BK162 2, Km_ BK162 3, Km_ BK162 4, Km_ BK161 0, Km_ BK161 1, Km_ BK161 2, Km_ BK161 3⟩ (fun hHeld => ?_)
  clear hK K
  refine Kn_ 27 ?_
  refine one_ (i := 8) (N := some 28) (mB_ 10 511) rfl rfl (one_of HT_.out (by kernel_rfl)) (by decide) (fun K hK => ?_)
  refine goes_ Try.func49 (by kernel_rfl) rfl #[.agg #[.int .u64 a1_0, .int .u64 a1_1, .int .u64 a1_2, .int .u64 a1_3], .agg #[.int .u64 t166, .int .u64 t167, .int .u64 t168, .int .u64 t169]] (by rfl) rfl rfl (by (try simp only [List.map_toArray, List.map_cons, List.map_nil]); first | done | rfl | (simp only [List.length_drop, List.length_take]; rfl)) ?_
  with_reducible refine (vec_Leq.calls a1_0 a1_1 a1_2 a1_3 t166 t167 t168 t169 true _ A19.out).mono ?_
  rintro e w33 ⟨rfl, hb⟩
  refine ⟨_, rfl, ?_⟩
  replace BK161 := Kb_ BK161 hb
  replace BK162 := Kb_ BK162 hb
  replace HB := Ks_ HB hb
  (try clear hb)
  (try clear hb2)
  (try clear hk)
  (try clear hi)
  refine hK.out _ _ ⟨Km_ BK162 0, Km_ BK162 1, Km_ BK162 2, Km_ BK162 3, Km_ BK162 4, Km_ BK161 0, Km_ BK161 1, Km_ BK161 2, Km_ BK161 3⟩ (fun hHeld => ?_)
  clear hK K
  refine Kn_ 28 ?_
  refine Kp_ 9 19 (mB_ 10 1023) (any_of HT_.out (by kernel_rfl)) ?_
  refine done_ (done_of HT_.out (by kernel_rfl)) ?_
  try go_wp2
  go_ret
  exact ⟨Kh_, K2a_ HB GE161 GE162⟩
 replace c20 := Bool.eq_false_iff.mpr c20
 subst c20
 have H1 : (some 0) = some r := by rw [if_neg (show ¬ (false = true) by decide)] at H; exact H
 clear H
 have H := H1
 clear H1
 obtain rfl := Option.some.inj H
 go_enter Try.func30, Try.ntmps30
 try go_wp2_with (first | ((with_reducible refine gate_dst (N := 2) rfl ?_); refine Ka_ 2 #[.int .u64 a0_0, .int .u64 a0_1, .int .u64 a0_2, .int .u64 a0_3] 28 ?_; intro gb161 hg w34 hbox hb; have BK161 := Aside0.mk (hbox); have GW161 := Kw_ HB hg; have GE161 := GW161; replace HB := Ks_ HB hb; clear hb hbox hg) | ((with_reducible refine gate_dst (N := 3) rfl ?_); refine Ka_ 3 #[.int .u64 a1_0, .int .u64 a1_1, .int .u64 a1_2, .int .u64 a1_3, .int .i64 a1_4] 30 ?_; intro gb162 hg w35 hbox hb; have BK162 := Aside0.mk (hbox); have GW162 := Kw_ HB hg; have GE162 := GW162; have NB161_162 := Kl_ BK161 hg; have NB162_161 := Kr_ BK161 hg; replace BK161 := Kb_ BK161 hb; replace HB := Ks_ HB hb; clear hb hbox hg; have hnb36 := NB161_162.out; have hnc36 := NB162_161.out; obtain ⟨hcz37_0, hcz37_1, hcz37_2, hcz37_3, hfz37_0, hfz37_1, hfz37_2, hfz37_3⟩ := Ke4_ BK161.out; obtain ⟨hcz38_0, hcz38_1, hcz38_2, hcz38_3, hcz38_4, hfz38_0, hfz38_1, hfz38_2, hfz38_3, hfz38_4⟩ := Ke5_ BK162.out) | ((with_reducible refine gate_callee (f := 48) rfl ?_); refine Kg_ (some 9) rfl rfl Try.func48 (by kernel_rfl) rfl #[.agg #[.int .u64 a0_0, .int .u64 a0_1, .int .u64 a0_2, .int .u64 a0_3], .int .i64 a1_4] rfl ?_; (with_reducible refine (vec_At.calls a0_0 a0_1 a0_2 a0_3 a1_4 t163 _ A3.out).mono ?_); rintro e w39 ⟨rfl, hb⟩; refine ⟨_, rfl, ?_⟩; replace BK161 := Kb_ BK161 hb; replace BK162 := Kb_ BK162 hb; replace HB := Ks_ HB hb; (try clear hb); (try clear hb2); (try clear hk); (try clear hi); obtain ⟨hcz40_0, hcz40_1, hcz40_2, hcz40_3, hcz40_4, hfz40_0, hfz40_1, hfz40_2, hfz40_3, hfz40_4⟩ := Ke5_ BK162.out) | ((with_reducible refine gate_callee (f := 69) rfl ?_); refine Kg_ (some 12) rfl rfl Try.func69 (by kernel_rfl) rfl #[.agg #[.int .u64 a1_0, .int .u64 a1_1, .int .u64 a1_2, .int .u64 a1_3, .int .i64 a1_4]] rfl ?_; (with_reducible refine (stamp_Right.calls a1_0 a1_1 a1_2 a1_3 a1_4 true _ A4.out).mono ?_); rintro e w41 ⟨rfl, hb⟩; refine ⟨_, rfl, ?_⟩; replace BK161 := Kb_ BK161 hb; replace BK162 := Kb_ BK162 hb; replace HB := Ks_ HB hb; (try clear hb); (try clear hb2); (try clear hk); (try clear hi); obtain ⟨hcz42_0, hcz42_1, hcz42_2, hcz42_3, hcz42_4, hfz42_0, hfz42_1, hfz42_2, hfz42_3, hfz42_4⟩ := Ke5_ BK162.out) | ((with_reducible refine gate_callee (f := 47) rfl ?_); refine Kg_ (some 16) rfl rfl Try.func47 (by kernel_rfl) rfl #[.agg #[.int .u64 a1_0, .int .u64 a1_1, .int .u64 a1_2, .int .u64 a1_3, .int .i64 a1_4]] rfl ?_; (with_reducible refine (stamp_Stamp_N.calls a1_0 a1_1 a1_2 a1_3 a1_4 t165 _ A6.out).mono ?_); rintro e w43 ⟨rfl, hb⟩; refine ⟨_, rfl, ?_⟩; replace BK161 := Kb_ BK161 hb; replace BK162 := Kb_ BK162 hb; replace HB := Ks_ HB hb; (try clear hb); (try clear hb2); (try clear hk); (try clear hi)))
 replace BK161 := Kd_ BK161
 replace BK162 := Kd_ BK162
 replace HB := Aside0.mk (below_drew1 HB.out)
 refine start_ (n := 10) (S := fun w' => w'.cell? ⟨gb162, 0, none⟩ = some (.int .u64 a1_0) ∧ w'.cell? ⟨gb162, 1, none⟩ = some (.int .u64 a1_1) ∧ w'.cell? ⟨gb162, 2, none⟩ = some (.int .u64 a1_2) ∧ w'.cell? ⟨gb162, 3, none⟩ = some (.int .u64 a1_3) ∧ w'.cell? ⟨gb162, 4, none⟩ = some (.int .i64 a1_4) ∧ w'.cell? ⟨gb161, 0, none⟩ = some (.int .u64 a0_0) ∧ w'.cell? ⟨gb161, 1, none⟩ = some (.int .u64 a0_1) ∧ w'.cell? ⟨gb161, 2, none⟩ = some (.int .u64 a0_2) ∧ w'.cell? ⟨gb161, 3, none⟩ = some (.int .u64 a0_3)) (ds := []) (mB_ 10 0) (by kernel_rfl) rfl rfl ⟨Km_ BK162 0, Km_ BK162 1, Km_ BK162 2, Km_ BK162 3, Km_ BK162 4, Km_ BK161 0, Km_ BK161 1, Km_ BK161 2, Km_ BK161 3⟩ (fun hHeld => ?_); refine with_tabW stream_Ready.tab6 stream_Ready.bits6 (fun HT_ HW_ => ?_)
 generalize w43.drew = w44 at BK161 BK162 HB hHeld ⊢
 refine Kp_ 0 20 (mB_ 10 1) (any_of HT_.out (by kernel_rfl)) ?_
 refine Kp_ 3 23 (mB_ 10 9) (any_of HT_.out (by kernel_rfl)) ?_
 refine Kp_ 5 25 (mB_ 10 41) (any_of HT_.out (by kernel_rfl)) ?_
 refine Kp_ 6 26 (mB_ 10 105) (any_of HT_.out (by kernel_rfl)) ?_
 refine Ko_ 1 21 (mB_ 10 107) (take_ofW HT_.out HW_.out (by kernel_rfl)) hHeld ?_
 refine Ko_ 2 22 (mB_ 10 111) (take_ofW HT_.out HW_.out (by kernel_rfl)) hHeld ?_
 refine Ko_ 4 24 (mB_ 10 127) (take_ofW HT_.out HW_.out (by kernel_rfl)) hHeld ?_
 refine one_ (i := 7) (N := some 27) (mB_ 10 255) rfl rfl (one_of HT_.out (by kernel_rfl)) (by decide) (fun K hK => ?_)
 refine goes_ Try.func46 (by kernel_rfl) rfl #[.agg #[.int .u64 a0_0, .int .u64 a0_1, .int .u64 a0_2, .int .u64 a0_3], .int .i64 a1_4, .int .u64 (IntKind.u64.wrap (t163 + 1))] (by rfl) rfl rfl (by (try simp only [List.map_toArray, List.map_cons, List.map_nil]); first | done | rfl | (simp only [List.length_drop, List.length_take]; rfl)) ?_
 with_reducible refine (vec_With.calls a0_0 a0_1 a0_2 a0_3 a1_4 (IntKind.u64.wrap (t163 + 1)) t166 t167 t168 t169 _ A18.out).mono ?_
 rintro e w45 ⟨rfl, hb⟩
 refine ⟨_, rfl, ?_⟩
 replace BK161 := Kb_ BK161 hb
 replace BK162 := Kb_ BK162 hb
 replace HB := Ks_ HB hb
 (try clear hb)
 (try clear hb2)
 (try clear hk)
 (try clear hi)
 refine hK.out _ _ ⟨Km_ BK162 0, Km_ BK162 1, Km_ BK162 2, Km_ BK162 3, Km_ BK162 4, Km_ BK161 0, Km_ BK161 1, Km_ BK161 2, Km_ BK161 3⟩ (fun hHeld => ?_)
 clear hK K
 refine Kn_ 27 ?_
 refine one_ (i := 8) (N := some 28) (mB_ 10 511) rfl rfl (one_of HT_.out (by kernel_rfl)) (by decide) (fun K hK => ?_)
 refine goes_ Try.func49 (by kernel_rfl) rfl #[.agg #[.int .u64 a1_0, .int .u64 a1_1, .int .u64 a1_2, .int .u64 a1_3], .agg #[.int .u64 t166, .int .u64 t167, .int .u64 t168, .int .u64 t169]] (by rfl) rfl rfl (by (try simp only [List.map_toArray, List.map_cons, List.map_nil]); first | done | rfl | (simp only [List.length_drop, List.length_take]; rfl)) ?_
 with_reducible refine (vec_Leq.calls a1_0 a1_1 a1_2 a1_3 t166 t167 t168 t169 false _ A19.out).mono ?_
 rintro e w46 ⟨rfl, hb⟩
 refine ⟨_, rfl, ?_⟩
 replace BK161 := Kb_ BK161 hb
 replace BK162 := Kb_ BK162 hb
 replace HB := Ks_ HB hb
 (try clear hb)
 (try clear hb2)
 (try clear hk)
 (try clear hi)
 refine hK.out _ _ ⟨Km_ BK162 0, Km_ BK162 1, Km_ BK162 2, Km_ BK162 3, Km_ BK162 4, Km_ BK161 0, Km_ BK161 1, Km_ BK161 2, Km_ BK161 3⟩ (fun hHeld => ?_)
 clear hK K
 refine Kn_ 28 ?_
 refine Kp_ 9 19 (mB_ 10 1023) (any_of HT_.out (by kernel_rfl)) ?_
 refine done_ (done_of HT_.out (by kernel_rfl)) ?_
 try go_wp2
 go_ret
 exact ⟨Kh_, K2a_ HB GE161 GE162⟩
theorem pack_Reader_Number.bytesWorld_frozen (w : World) (e : TypeId) (s : ByteArray) (a : Addr) (ha : a.block < w.heap.size) : (Lib.bytesWorld w e s).frozen? a = w.frozen? a :=
 (bytes_below (Below.refl _ _) (Nat.le_refl _) e s).frozen ha
theorem pack_Reader_Number.bt_extract0 (s : ByteArray) (n k : Nat) (hk : k < n) (hs : n ≤ s.size) : bt (s.extract 0 n) k = bt s k := by
 unfold bt
 rw [dif_pos (by simp; omega), dif_pos (by simp; omega)]
 simp [ByteArray.getElem_extract]
def rnum (s : ByteArray) : Nat → Int
 | 0 => 0
 | k + 1 => Go.bits .or .u64 (IntKind.u64.wrap (rnum s k * 256)) (IntKind.u64.wrap (bt s k))
def pack_Reader_Number.f (a0_0 : ByteArray) (a0_1 : Bool) (a1 : Int) : Option (Int × ByteArray × Bool) :=
 if a0_0.size ≤ 9223372036854775807 then
  (if a0_1 = true then some (0, (⟨#[]⟩ : ByteArray), true) else if a1 < 1 then some (0, (⟨#[]⟩ : ByteArray), true) else if 8 < a1 then some (0, (⟨#[]⟩ : ByteArray), true)
   else if (a0_0.size : Int) < a1 then some (0, (⟨#[]⟩ : ByteArray), true) else some (rnum a0_0 a1.toNat, a0_0.extract a1.toNat a0_0.size, false))
 else none
theorem pack_Reader_Number.some_ (s : ByteArray) (n : Nat) (h1 : 1 ≤ n) (h8 : n ≤ 8) (hs : n ≤ s.size) (hm : s.size ≤ 9223372036854775807) (w : World) :
  Calls Try.prog 75 #[.agg #[.string s, .bool false], .int .i64 n] w fun e w' => e = .returned (.tuple #[.int .u64 (rnum s n), .agg #[.string (s.extract n s.size), .bool false]]) ∧ Below w.heap.size w w' := by
 have hcv := fun W t => Lib.run_convert_string_bytes (P := Try.prog) W 9 91 5 t Try.underlying9 Try.underlying91 Try.underlying5
 have b1 : decide ((n : Int) < 1) = false := by simp; omega
 have b2 : decide ((8 : Int) < (n : Int)) = false := by simp; omega
 have b3 : decide (s.size < n) = false := by simp; omega
 go_enter Try.func75, Try.ntmps75
 go_wp2
 obtain ⟨W, hW⟩ : ∃ W, W = Lib.bytesWorld ((w.alloc (Obj.cells #[Value.string s, Value.bool false] 134)).alloc (Obj.cells #[Value.string { data := #[] }, Value.bool false] 134)) 5 (s.extract 0 n) := ⟨_, rfl⟩
 have hbel : Below w.heap.size w W := by
  rw [hW]
  exact bytes_below (((Below.refl _ _).alloc (Nat.le_refl _) _).alloc (by simp) _) (by simp; omega) _ _
 have hsz : W.heap.size = w.heap.size + 3 := by rw [hW, Lib.bytesWorld_size]; simp
 have hc0 : W.cell? ⟨w.heap.size, 0, none⟩ = some (.string s) := by
  rw [hW, Lib.bytesWorld_old _ _ _ _ (by simp; omega)]; simp [go_sem]
 have hc2 : W.cell? ⟨w.heap.size + 1, 0, none⟩ = some (.string ⟨#[]⟩) := by
  rw [hW, Lib.bytesWorld_old _ _ _ _ (by simp)]; simp [go_sem]
 have hc3 : W.cell? ⟨w.heap.size + 1, 1, none⟩ = some (.bool false) := by
  rw [hW, Lib.bytesWorld_old _ _ _ _ (by simp)]; simp [go_sem]
 have hf2 : W.frozen? ⟨w.heap.size + 1, 0, none⟩ = false := by
  rw [hW, pack_Reader_Number.bytesWorld_frozen _ _ _ _ (by simp)]; simp [go_sem]
 have hf3 : W.frozen? ⟨w.heap.size + 1, 1, none⟩ = false := by
  rw [hW, pack_Reader_Number.bytesWorld_frozen _ _ _ _ (by simp)]; simp [go_sem]
 have hel : ∀ k : Nat, k < n → W.cell? ⟨w.heap.size + 1 + 1, k, none⟩ = some (.int .u8 (bt s k)) := by
  intro k hk
  obtain ⟨_, _, hr⟩ := bytes_reads ((w.alloc (Obj.cells #[Value.string s, Value.bool false] 134)).alloc (Obj.cells #[Value.string { data := #[] }, Value.bool false] 134)) 5 (s.extract 0 n) (by simp; omega)
  rw [← hW] at hr
  obtain ⟨ad, had, hr⟩ := hr (by simp; omega)
  have hr := hr k (by simp; omega)
  simp at had
  subst had
  rw [add_plain] at hr
  rw [hr]
  have e1 : (bytesOf (s.extract 0 n)).getD k 0 = bt (s.extract 0 n) k := rd_bytesOf (s.extract 0 n) k
  rw [e1, pack_Reader_Number.bt_extract0 _ _ _ hk hs]
 rw [← hW]
 clear hW hcv
 go_loop [32, 4] (fun i v => ∃ k : Nat, k ≤ n ∧ i = .int .i64 k ∧ v = .int .u64 (rnum s k)) (fun i _ => n - (intOf i).toNat)
 case atStart => exact ⟨0, Nat.zero_le _, rfl, rfl⟩
 case round =>
  obtain ⟨k, hk, rfl, rfl⟩ := hrel
  by_cases hlt : k < n
  ·have hcell := hel k hlt
   clear hel
   go_wp2
   go_round
   case rel => exact ⟨k + 1, by omega, by go_num, rfl⟩
   case measure => simp [intOf]; omega
  ·obtain rfl : k = n := by omega
   clear hel
   go_wp2
   go_region
   all_goals go_wp2
   refine bodyPost_ret (v := .tuple #[.int .u64 (rnum s k), .agg #[.string (s.extract k s.size), .bool false]]) (by simp [results, Try.results75, go_sem, hc2, hc3, hf2, hf3]) rfl ⟨rfl, ?_⟩
   exact ((hbel.setCell (by simp) _).setCell (by simp) _).drew
theorem pack_Reader_Number.bad_ (s : ByteArray) (b : Bool) (a1 : Int) (h : b = true ∨ b = false ∧ (a1 < 1 ∨ 8 < a1 ∨ (s.size : Int) < a1)) (w : World) :
  Calls Try.prog 75 #[.agg #[.string s, .bool b], .int .i64 a1] w fun e w' => e = .returned (.tuple #[.int .u64 0, .agg #[.string ⟨#[]⟩, .bool true]]) ∧ Below w.heap.size w w' := by
 rcases h with rfl | ⟨rfl, h⟩
 ·go_enter Try.func75, Try.ntmps75
  go_wp2
  refine bodyPost_ret (v := .agg #[.string ⟨#[]⟩, .bool true]) (by simp [results, Try.results98, go_sem]) rfl ?_
  go_wp2
  refine bodyPost_ret (v := .tuple #[.int .u64 0, .agg #[.string ⟨#[]⟩, .bool true]]) (by simp [results, Try.results75, go_sem]) rfl ⟨rfl, ?_⟩
  repeat (first | exact Below.refl _ _ | apply below_alloc | apply below_drew | refine Below.setCell ?_ (by simp) _)
 ·rcases h with h | h | h
  ·have b1 : decide (a1 < 1) = true := decide_eq_true h
   go_enter Try.func75, Try.ntmps75
   go_wp2
   refine bodyPost_ret (v := .agg #[.string ⟨#[]⟩, .bool true]) (by simp [results, Try.results98, go_sem]) rfl ?_
   go_wp2
   refine bodyPost_ret (v := .tuple #[.int .u64 0, .agg #[.string ⟨#[]⟩, .bool true]]) (by simp [results, Try.results75, go_sem]) rfl ⟨rfl, ?_⟩
   repeat (first | exact Below.refl _ _ | apply below_alloc | apply below_drew | refine Below.setCell ?_ (by simp) _)
  ·have b1 : decide (8 < a1) = true := decide_eq_true h
   have b2 : decide (a1 < 1) = false := decide_eq_false (by omega)
   go_enter Try.func75, Try.ntmps75
   go_wp2
   refine bodyPost_ret (v := .agg #[.string ⟨#[]⟩, .bool true]) (by simp [results, Try.results98, go_sem]) rfl ?_
   go_wp2
   refine bodyPost_ret (v := .tuple #[.int .u64 0, .agg #[.string ⟨#[]⟩, .bool true]]) (by simp [results, Try.results75, go_sem]) rfl ⟨rfl, ?_⟩
   repeat (first | exact Below.refl _ _ | apply below_alloc | apply below_drew | refine Below.setCell ?_ (by simp) _)
  ·by_cases h1 : a1 < 1
   ·have b1 : decide (a1 < 1) = true := decide_eq_true h1
    clear h
    go_enter Try.func75, Try.ntmps75
    go_wp2
    refine bodyPost_ret (v := .agg #[.string ⟨#[]⟩, .bool true]) (by simp [results, Try.results98, go_sem]) rfl ?_
    go_wp2
    refine bodyPost_ret (v := .tuple #[.int .u64 0, .agg #[.string ⟨#[]⟩, .bool true]]) (by simp [results, Try.results75, go_sem]) rfl ⟨rfl, ?_⟩
    repeat (first | exact Below.refl _ _ | apply below_alloc | apply below_drew | refine Below.setCell ?_ (by simp) _)
   ·by_cases h8 : 8 < a1
    ·have b1 : decide (8 < a1) = true := decide_eq_true h8
     clear h
     have b2 : decide (a1 < 1) = false := decide_eq_false (by omega)
     go_enter Try.func75, Try.ntmps75
     go_wp2
     refine bodyPost_ret (v := .agg #[.string ⟨#[]⟩, .bool true]) (by simp [results, Try.results98, go_sem]) rfl ?_
     go_wp2
     refine bodyPost_ret (v := .tuple #[.int .u64 0, .agg #[.string ⟨#[]⟩, .bool true]]) (by simp [results, Try.results75, go_sem]) rfl ⟨rfl, ?_⟩
     repeat (first | exact Below.refl _ _ | apply below_alloc | apply below_drew | refine Below.setCell ?_ (by simp) _)
    ·have b1 : decide (8 < a1) = false := decide_eq_false (by omega)
     have b2 : decide (a1 < 1) = false := decide_eq_false (by omega)
     have b3 : decide ((s.size : Int) < a1) = true := decide_eq_true h
     go_enter Try.func75, Try.ntmps75
     go_wp2
     refine bodyPost_ret (v := .agg #[.string ⟨#[]⟩, .bool true]) (by simp [results, Try.results98, go_sem]) rfl ?_
     go_wp2
     refine bodyPost_ret (v := .tuple #[.int .u64 0, .agg #[.string ⟨#[]⟩, .bool true]]) (by simp [results, Try.results75, go_sem]) rfl ⟨rfl, ?_⟩
     repeat (first | exact Below.refl _ _ | apply below_alloc | apply below_drew | refine Below.setCell ?_ (by simp) _)
theorem pack_Reader_Number.calls (a0_0 : ByteArray) (a0_1 : Bool) (a1 : Int) (r1 : Int) (r2 : ByteArray) (r3 : Bool) (w : World) (h : pack_Reader_Number.f a0_0 a0_1 a1 = some (r1, r2, r3)) :
  Calls Try.prog 75 #[.agg #[.string a0_0, .bool a0_1], .int .i64 a1] w fun e w' => e = .returned (.tuple #[.int .u64 r1, .agg #[.string r2, .bool r3]]) ∧ Below w.heap.size w w' := by
 unfold pack_Reader_Number.f at h
 by_cases hm : a0_0.size ≤ 9223372036854775807
 ·rw [if_pos hm] at h
  by_cases c0 : a0_1 = true
  ·rw [if_pos c0] at h
   simp only [Option.some.injEq, Prod.mk.injEq] at h
   obtain ⟨rfl, rfl, rfl⟩ := h
   exact pack_Reader_Number.bad_ _ _ _ (.inl c0) w
  ·rw [if_neg c0] at h
   have c0' : a0_1 = false := by simpa using c0
   by_cases c1 : a1 < 1
   ·rw [if_pos c1] at h
    simp only [Option.some.injEq, Prod.mk.injEq] at h
    obtain ⟨rfl, rfl, rfl⟩ := h
    exact pack_Reader_Number.bad_ _ _ _ (.inr ⟨c0', .inl c1⟩) w
   ·rw [if_neg c1] at h
    by_cases c2 : 8 < a1
    ·rw [if_pos c2] at h
     simp only [Option.some.injEq, Prod.mk.injEq] at h
     obtain ⟨rfl, rfl, rfl⟩ := h
     exact pack_Reader_Number.bad_ _ _ _ (.inr ⟨c0', .inr (.inl c2)⟩) w
    ·rw [if_neg c2] at h
     by_cases c3 : (a0_0.size : Int) < a1
     ·rw [if_pos c3] at h
      simp only [Option.some.injEq, Prod.mk.injEq] at h
      obtain ⟨rfl, rfl, rfl⟩ := h
      exact pack_Reader_Number.bad_ _ _ _ (.inr ⟨c0', .inr (.inr c3)⟩) w
     ·rw [if_neg c3] at h
      simp only [Option.some.injEq, Prod.mk.injEq] at h
      obtain ⟨rfl, rfl, rfl⟩ := h
      obtain ⟨n, rfl⟩ := Int.eq_ofNat_of_zero_le (show 0 ≤ a1 by omega)
      subst c0'
      rw [Int.toNat_natCast]
      exact pack_Reader_Number.some_ a0_0 n (by omega) (by omega) (by omega) hm w
 ·rw [if_neg hm] at h
  exact absurd h (by simp)
def pack_bad.f  : Option (ByteArray × Bool) := some ((⟨#[]⟩ : ByteArray), true)
set_option maxHeartbeats 8000000 in
set_option maxRecDepth 100000 in
theorem pack_bad.calls  (r1 : ByteArray) (r2 : Bool) (w : World) (h : pack_bad.f  = some (r1, r2)) :
  Calls Try.prog 98 #[] w fun e w' => e = .returned (.agg #[.string r1, .bool r2]) ∧ Below w.heap.size w w' := by
 have hu134 := Try.underlying134
 have HB := Aside0.mk (Below.refl w.heap.size w)
 have H : (some ((⟨#[]⟩ : ByteArray), true)) = some (r1, r2) := h
 clear h
 simp only [Option.some.injEq, Prod.mk.injEq] at H
 obtain ⟨rfl, rfl⟩ := H
 go_enter Try.func98, Try.ntmps98
 go_wp2_with (first | ((with_reducible refine gate_dst (N := 0) rfl ?_); refine Ka_ 0 #[.string (⟨#[]⟩ : ByteArray), .bool false] 134 ?_; intro gb171 hg w1 hbox hb; have BK171 := Aside0.mk (hbox); have GW171 := Kw_ HB hg; have GE171 := GW171; replace HB := Ks_ HB hb; clear hb hbox hg; obtain ⟨hcz2_0, hcz2_1, hfz2_0, hfz2_1⟩ := Ke2_ BK171.out))
 refine bodyPost_ret (results_cell_row rfl _ _ gb171 134 #[.string (⟨#[]⟩ : ByteArray), .bool true] (0, 0) _ rfl (by refine Kv_ ?_; refine blk_put (cs := #[.string (⟨#[]⟩ : ByteArray), .bool false]) ?_ 1 _ rfl; refine Kv_ ?_; refine blk_put (cs := #[.string (⟨#[]⟩ : ByteArray), .bool false]) ?_ 0 _ rfl; exact Kq_ BK171) Try.underlying134 rfl (by kernel_rfl)) rfl ?_
 exact ⟨Kh_, Kz_ HB GE171⟩
def pack_Reader_Vary.l0 : Nat → Int → Int → Int → ByteArray → Bool → Option (Int × ByteArray × Bool)
 | 0, _, _, _, _, _ => none
 | k + 1, x4, x13, x14, x100, x103 => if x14 < x13 then (if 0 ≤ x14 then (if x14 < (x100.size : Int) then (if 0 ≤ (wrap64 (7 * x14)) then (if (bt x100 x14) ≥ 128 then (pack_Reader_Vary.l0 k (Go.bits .or .u64 x4 (shl .u64 (IntKind.u64.wrap (Go.bits .and .u8 (bt x100 x14) 127)) (wrap64 (7 * x14)))) x13 (wrap64 (x14 + 1)) x100 x103) else (if 0 ≤ (wrap64 (x14 + 1)) then (if (wrap64 (x14 + 1)) ≤ (x100.size : Int) then ((pack_Vary.f k (Go.bits .or .u64 x4 (shl .u64 (IntKind.u64.wrap (Go.bits .and .u8 (bt x100 x14) 127)) (wrap64 (7 * x14))))).bind fun t178 => (if (x100.extract 0 ((wrap64 (x14 + 1)) : Int).toNat).toList = t178.toList then (some (Go.bits .or .u64 x4 (shl .u64 (IntKind.u64.wrap (Go.bits .and .u8 (bt x100 x14) 127)) (wrap64 (7 * x14))), x100.extract ((wrap64 (x14 + 1)) : Int).toNat x100.size, false)) else ((pack_bad.f).bind fun bt179 => (some (0, bt179.1, bt179.2))))) else (none)) else (none))) else (none)) else (none)) else (none)) else ((pack_bad.f).bind fun bt176 => (some (0, bt176.1, bt176.2)))
def pack_Reader_Vary.f (k : Nat) (a0_0 : ByteArray) (a0_1 : Bool) : Option (Int × ByteArray × Bool) := if a0_1 = true then ((pack_bad.f).bind fun bt174 => (some (0, bt174.1, bt174.2))) else (pack_Reader_Vary.l0 k 0 (mn (a0_0.size : Int) 10) 0 a0_0 a0_1)
def pack_Reader_Vary.T10 : Bool × List (List Nat × List Nat) := (true, [([], []), ([0], [0]), ([], []), ([2], [2]), ([1, 3], [1, 3]), ([], []), ([5], [5]), ([4, 6], [4, 6])])
def pack_Reader_Vary.B10 : List Nat := [0, 1, 0, 4, 15, 0, 32, 127]
theorem pack_Reader_Vary.tab10 : rtab .any (opsOf Try.f76 10) = pack_Reader_Vary.T10 := by kernel_rfl
theorem pack_Reader_Vary.bits10 : waitsOk pack_Reader_Vary.T10.2 pack_Reader_Vary.B10 = true := by kernel_rfl
def pack_Reader_Vary.T11 : Bool × List (List Nat × List Nat) := (true, [([], []), ([], []), ([1], [1]), ([], []), ([3], [3]), ([2, 4], [2, 4]), ([5], [5]), ([0, 0], [0]), ([6, 7, 0, 1, 2, 3, 4, 5, 6, 7], [6])])
def pack_Reader_Vary.B11 : List Nat := [0, 0, 2, 0, 8, 30, 62, 1, 255]
theorem pack_Reader_Vary.tab11 : rtab .any (opsOf Try.f76 11) = pack_Reader_Vary.T11 := by kernel_rfl
theorem pack_Reader_Vary.bits11 : waitsOk pack_Reader_Vary.T11.2 pack_Reader_Vary.B11 = true := by kernel_rfl
set_option maxHeartbeats 8000000 in
set_option maxRecDepth 100000 in
theorem pack_Reader_Vary.calls (k : Nat) (a0_0 : ByteArray) (a0_1 : Bool) (r1 : Int) (r2 : ByteArray) (r3 : Bool) (w : World) (h : pack_Reader_Vary.f k a0_0 a0_1 = some (r1, r2, r3)) :
  Calls Try.prog 76 #[.agg #[.string a0_0, .bool a0_1]] w fun e w' => e = .returned (.tuple #[.int .u64 r1, .agg #[.string r2, .bool r3]]) ∧ Below w.heap.size w w' := by
 have hu134 := Try.underlying134
 have HB := Aside0.mk (Below.refl w.heap.size w)
 have H : (if a0_1 = true then ((pack_bad.f).bind fun bt174 => (some (0, bt174.1, bt174.2))) else (pack_Reader_Vary.l0 k 0 (mn (a0_0.size : Int) 10) 0 a0_0 a0_1)) = some (r1, r2, r3) := h
 clear h
 by_cases c2 : a0_1 = true
 ·subst c2
  have H1 : ((pack_bad.f).bind fun bt174 => (some (0, bt174.1, bt174.2))) = some (r1, r2, r3) := by rw [if_pos rfl] at H; exact H
  clear H
  have H := H1
  clear H1
  replace H := Option.bind_eq_some_iff.mp H
  obtain ⟨⟨t174, t175⟩, A30, H⟩ := H
  replace H : (some (0, t174, t175)) = some (r1, r2, r3) := H
  have A3 := Aside0.mk A30
  clear A30
  simp only [Option.some.injEq, Prod.mk.injEq] at H
  obtain ⟨rfl, rfl, rfl⟩ := H
  go_enter Try.func76, Try.ntmps76
  go_wp2_with (first | ((with_reducible refine gate_dst (N := 1) rfl ?_); refine Ka_ 1 #[.string a0_0, .bool true] 134 ?_; intro gb172 hg w4 hbox hb; have BK172 := Aside0.mk (hbox); have GW172 := Kw_ HB hg; have GE172 := GW172; replace HB := Ks_ HB hb; clear hb hbox hg) | ((with_reducible refine gate_dst (N := 3) rfl ?_); refine Ka_ 3 #[.string (⟨#[]⟩ : ByteArray), .bool false] 134 ?_; intro gb173 hg w5 hbox hb; have BK173 := Aside0.mk (hbox); have GW173 := Kw_ HB hg; have GE173 := GW173; have NB172_173 := Kl_ BK172 hg; have NB173_172 := Kr_ BK172 hg; replace BK172 := Kb_ BK172 hb; replace HB := Ks_ HB hb; clear hb hbox hg; have hnb6 := NB172_173.out; have hnc6 := NB173_172.out; obtain ⟨hcz7_0, hcz7_1, hfz7_0, hfz7_1⟩ := Ke2_ BK172.out) | ((with_reducible refine gate_callee (f := 98) rfl ?_); refine Kg_ (some 9) rfl rfl Try.func98 (by kernel_rfl) rfl #[] rfl ?_; (with_reducible refine (pack_bad.calls  t174 t175 _ A3.out).mono ?_); rintro e w8 ⟨rfl, hb⟩; refine ⟨_, rfl, ?_⟩; replace BK172 := Kb_ BK172 hb; replace BK173 := Kb_ BK173 hb; replace HB := Ks_ HB hb; (try clear hb); (try clear hb2); (try clear hk); (try clear hi); obtain ⟨hcz9_0, hcz9_1, hfz9_0, hfz9_1⟩ := Ke2_ BK173.out))
  refine bodyPost_ret (results_tc rfl _ _ gb173 134 #[.string t174, .bool t175] (0, 0) _ rfl (by refine Kv_ ?_; refine blk_put (cs := #[.string t174, .bool false]) ?_ 1 _ rfl; refine Kv_ ?_; refine blk_put (cs := #[.string (⟨#[]⟩ : ByteArray), .bool false]) ?_ 0 _ rfl; exact Kq_ BK173) Try.underlying134 rfl (by kernel_rfl)) rfl ?_
  exact ⟨Kh_, K2a_ HB GE172 GE173⟩
 replace c2 := Bool.eq_false_iff.mpr c2
 subst c2
 have H1 : (pack_Reader_Vary.l0 k 0 (mn (a0_0.size : Int) 10) 0 a0_0 false) = some (r1, r2, r3) := by rw [if_neg (show ¬ (false = true) by decide)] at H; exact H
 clear H
 have H := H1
 clear H1
 obtain ⟨ji10, hji10⟩ : ∃ j_ : Int, (mn (a0_0.size : Int) 10) = j_ := ⟨_, rfl⟩
 replace H : (pack_Reader_Vary.l0 k 0 ji10 0 a0_0 false) = some (r1, r2, r3) := by first | (rw [hji10] at H; exact H) | (simp only [hji10] at H ⊢; exact H)
 (try (have hji10h : ji10 ≤ 10 := by (rw [← hji10]; unfold mn; (repeat' split) <;> omega)))
 (try (have hji10g : ji10 ≤ 64 := by omega))
 (try (have hji10l : 0 ≤ ji10 := by (rw [← hji10]; unfold mn; (repeat' split) <;> omega)))
 (try (have hji10m : 0 ≤ ji10 := by omega))
 have hji10_ : (if 10 < (a0_0.size : Int) then 10 else (a0_0.size : Int)) = ji10 := hji10
 have H' := Aside0.mk H
 clear H
 go_enter Try.func76, Try.ntmps76
 go_wp2_with (first | ((with_reducible refine gate_dst (N := 1) rfl ?_); refine Ka_ 1 #[.string a0_0, .bool false] 134 ?_; intro gb172 hg w11 hbox hb; have BK172 := Aside0.mk (hbox); have GW172 := Kw_ HB hg; have GE172 := GW172; replace HB := Ks_ HB hb; clear hb hbox hg) | ((with_reducible refine gate_dst (N := 3) rfl ?_); refine Ka_ 3 #[.string (⟨#[]⟩ : ByteArray), .bool false] 134 ?_; intro gb173 hg w12 hbox hb; have BK173 := Aside0.mk (hbox); have GW173 := Kw_ HB hg; have GE173 := GW173; have NB172_173 := Kl_ BK172 hg; have NB173_172 := Kr_ BK172 hg; replace BK172 := Kb_ BK172 hb; replace HB := Ks_ HB hb; clear hb hbox hg; have hnb13 := NB172_173.out; have hnc13 := NB173_172.out; obtain ⟨hcz14_0, hcz14_1, hfz14_0, hfz14_1⟩ := Ke2_ BK172.out))
 go_loopg [4, 14] k (fun kq v4 v14 w' => ∃ (x4_1 : Int) (x14_1 : Int) (x102_1 : ByteArray) (x101_1 : Bool), v4 = .int .u64 x4_1 ∧ v14 = .int .i64 x14_1 ∧ Aside0 (pack_Reader_Vary.l0 kq x4_1 ji10 x14_1 a0_0 false = some (r1, r2, r3)) ∧ Aside0 (kq ≤ k) ∧ Aside0 (w'.heap[gb172]? = some (.cells #[.string a0_0, .bool false] 134 (0, 0))) ∧ Aside0 (w'.heap[gb173]? = some (.cells #[.string x102_1, .bool x101_1] 134 (0, 0))) ∧ Aside0 (Below w.heap.size w w'))
 case atStart => exact ⟨(0), (0), ((⟨#[]⟩ : ByteArray)), (false), (by first | rfl | (simp; done) | (simp [*]; done)), (by first | rfl | (simp; done) | (simp [*]; done)), H', ⟨Nat.le_refl _⟩, ⟨by exact Kq_ BK172⟩, ⟨by exact Kq_ BK173⟩, ⟨K2a_ HB GE172 GE173⟩⟩
 case round =>
  clear H'
  try clear c1
  try clear c2
  try clear p2
  try clear c6
  try clear c7
  try clear c9
  try clear c13
  try clear hcz14_0
  try clear hcz14_1
  try clear hcz7_0
  try clear hcz7_1
  try clear hcz9_0
  try clear hcz9_1
  try clear hfz14_0
  try clear hfz14_1
  try clear hfz7_0
  try clear hfz7_1
  try clear hfz9_0
  try clear hfz9_1
  obtain ⟨x4_1, x14_1, x102_1, x101_1, rfl, rfl, HA, HK1, BK172, BK173, HB⟩ := hrel
  cases gk with
  | zero => exact absurd HA.out (by simp [pack_Reader_Vary.l0])
  | succ k1 =>
   have H := HA.out
   clear HA
   simp only [pack_Reader_Vary.l0] at H
   by_cases c15 : x14_1 < ji10
   rotate_left
   ·rw [if_neg c15] at H
    have c15b0 : decide (x14_1 < ji10) = false := decide_eq_false c15
    clear c15
    replace H := Option.bind_eq_some_iff.mp H
    obtain ⟨⟨t176, t177⟩, A460, H⟩ := H
    replace H : (some (0, t176, t177)) = some (r1, r2, r3) := H
    have A46 := Aside0.mk A460
    clear A460
    simp only [Option.some.injEq, Prod.mk.injEq] at H
    obtain ⟨rfl, rfl, rfl⟩ := H
    go_wp2_with (first | ((with_reducible refine gate_callee (f := 98) rfl ?_); refine Kg_ (some 47) rfl rfl Try.func98 (by kernel_rfl) rfl #[] rfl ?_; (with_reducible refine (pack_bad.calls  t176 t177 _ A46.out).mono ?_); rintro e w47 ⟨rfl, hb⟩; refine ⟨_, rfl, ?_⟩; replace BK172 := Kb_ BK172 hb; replace BK173 := Kb_ BK173 hb; replace HB := Ks_ HB hb; (try clear hb); (try clear hb2); (try clear hk); (try clear hi); have hnb48 := NB173_172.out; have hnc48 := NB172_173.out; obtain ⟨hcz49_0, hcz49_1, hfz49_0, hfz49_1⟩ := Ke2_ BK173.out))
    refine bodyPost_ret (results_tc rfl _ _ gb173 134 #[.string t176, .bool t177] (0, 0) _ rfl (by refine Kv_ ?_; refine blk_put (cs := #[.string t176, .bool x101_1]) ?_ 1 _ rfl; refine Kv_ ?_; refine blk_put (cs := #[.string x102_1, .bool x101_1]) ?_ 0 _ rfl; exact Kq_ BK173) Try.underlying134 rfl (by kernel_rfl)) rfl ?_
    exact ⟨by first | rfl | (simp [errW_none, errW_some] <;> rfl) | (simp only [← hji10]; first | rfl | (simp [errW_none, errW_some] <;> rfl)) | (simp [*, errW_none, errW_some] <;> rfl), K2a_ HB GE172 GE173⟩
   rw [if_pos c15] at H
   have c15b0 : decide (x14_1 < ji10) = true := decide_eq_true c15
   clear c15
   by_cases c16 : 0 ≤ x14_1
   rotate_left
   ·rw [if_neg c16] at H
    exact absurd H (by simp)
   rw [if_pos c16] at H
   have c16b0 : decide (0 ≤ x14_1) = true := decide_eq_true c16
   clear c16
   by_cases c17 : x14_1 < (a0_0.size : Int)
   rotate_left
   ·rw [if_neg c17] at H
    exact absurd H (by simp)
   rw [if_pos c17] at H
   have c17b0 : decide (x14_1 < (a0_0.size : Int)) = true := decide_eq_true c17
   clear c17
   obtain ⟨ji19, hji19⟩ : ∃ j_ : Int, (wrap64 (7 * x14_1)) = j_ := ⟨_, rfl⟩
   replace H : (if 0 ≤ (ji19) then (if (bt a0_0 x14_1) ≥ 128 then (pack_Reader_Vary.l0 k1 (Go.bits .or .u64 x4_1 (shl .u64 (IntKind.u64.wrap (Go.bits .and .u8 (bt a0_0 x14_1) 127)) (ji19))) ji10 (wrap64 (x14_1 + 1)) a0_0 false) else (if 0 ≤ (wrap64 (x14_1 + 1)) then (if (wrap64 (x14_1 + 1)) ≤ (a0_0.size : Int) then ((pack_Vary.f k1 (Go.bits .or .u64 x4_1 (shl .u64 (IntKind.u64.wrap (Go.bits .and .u8 (bt a0_0 x14_1) 127)) (ji19)))).bind fun t178 => (if (a0_0.extract 0 ((wrap64 (x14_1 + 1)) : Int).toNat).toList = t178.toList then (some (Go.bits .or .u64 x4_1 (shl .u64 (IntKind.u64.wrap (Go.bits .and .u8 (bt a0_0 x14_1) 127)) (ji19)), a0_0.extract ((wrap64 (x14_1 + 1)) : Int).toNat a0_0.size, false)) else ((pack_bad.f).bind fun bt179 => (some (0, bt179.1, bt179.2))))) else (none)) else (none))) else (none)) = some (r1, r2, r3) := by first | (rw [hji19] at H; exact H) | (simp only [hji19] at H ⊢; exact H)
   have hji19w : (IntKind.i64.wrap (7 * x14_1)) = ji19 := (i64_w _).trans hji19
   by_cases c20 : 0 ≤ (ji19)
   rotate_left
   ·rw [if_neg c20] at H
    exact absurd H (by simp)
   rw [if_pos c20] at H
   have c20b0 := eq_true c20
   have c20b1 : decide (0 ≤ (ji19)) = true := decide_eq_true c20
   clear c20
   obtain ⟨ji21, hji21⟩ : ∃ j_ : Int, (shl .u64 (IntKind.u64.wrap (Go.bits .and .u8 (bt a0_0 x14_1) 127)) (ji19)) = j_ := ⟨_, rfl⟩
   replace H : (if (bt a0_0 x14_1) ≥ 128 then (pack_Reader_Vary.l0 k1 (Go.bits .or .u64 x4_1 (ji21)) ji10 (wrap64 (x14_1 + 1)) a0_0 false) else (if 0 ≤ (wrap64 (x14_1 + 1)) then (if (wrap64 (x14_1 + 1)) ≤ (a0_0.size : Int) then ((pack_Vary.f k1 (Go.bits .or .u64 x4_1 (ji21))).bind fun t178 => (if (a0_0.extract 0 ((wrap64 (x14_1 + 1)) : Int).toNat).toList = t178.toList then (some (Go.bits .or .u64 x4_1 (ji21), a0_0.extract ((wrap64 (x14_1 + 1)) : Int).toNat a0_0.size, false)) else ((pack_bad.f).bind fun bt179 => (some (0, bt179.1, bt179.2))))) else (none)) else (none))) = some (r1, r2, r3) := by first | (rw [hji21] at H; exact H) | (simp only [hji21] at H ⊢; exact H)
   have hji21_ : (IntKind.u64.wrap ((IntKind.u64.wrap (Go.bits .and .u8 (bt a0_0 x14_1) 127)) * 2 ^ min (ji19).toNat 64)) = ji21 := hji21
   have hji21z : (ji19) ≤ 64 → (IntKind.u64.wrap ((IntKind.u64.wrap (Go.bits .and .u8 (bt a0_0 x14_1) 127)) * 2 ^ (ji19).toNat)) = ji21 := shl_small hji21
   by_cases c22 : (bt a0_0 x14_1) ≥ 128
   ·rw [if_pos c22] at H
    have c22b0 : decide (128 ≤ (bt a0_0 x14_1)) = true := decide_eq_true c22
    clear c22
    have H' := Aside0.mk H
    clear H
    have hnb23 := NB172_173.out
    have hnc23 := NB173_172.out
    obtain ⟨hcz24_0, hcz24_1, hfz24_0, hfz24_1⟩ := Ke2_ BK172.out
    have p18 : 0 ≤ (x14_1 : Int) := of_decide_eq_true (by first | (with_reducible assumption) | assumption)
    have q18 : x14_1 < (a0_0.size : Int) := of_decide_eq_true (by first | (with_reducible assumption) | assumption)
    have hx18 := bt_at a0_0 x14_1
    replace p18 := eq_true p18
    replace q18 := eq_true q18
    go_wp2
    go_roundg k1
    case measure => have := HK1.out; omega
    case rel => exact ⟨(Go.bits .or .u64 x4_1 (ji21)), (wrap64 (x14_1 + 1)), (x102_1), (x101_1), (by first | rfl | (simp; done) | (simp only [← hji21] <;> (first | rfl | simp)) | (simp [*]; done)), (by first | rfl | (simp; done) | (simp [*]; done)), H', ⟨by have := HK1.out; omega⟩, ⟨by exact Kq_ BK172⟩, ⟨by exact Kq_ BK173⟩, ⟨K2a_ HB GE172 GE173⟩⟩
   rw [if_neg c22] at H
   have c22b0 : decide (128 ≤ (bt a0_0 x14_1)) = false := decide_eq_false c22
   clear c22
   obtain ⟨ji25, hji25⟩ : ∃ j_ : Int, (wrap64 (x14_1 + 1)) = j_ := ⟨_, rfl⟩
   replace H : (if 0 ≤ (ji25) then (if (ji25) ≤ (a0_0.size : Int) then ((pack_Vary.f k1 (Go.bits .or .u64 x4_1 (ji21))).bind fun t178 => (if (a0_0.extract 0 ((ji25) : Int).toNat).toList = t178.toList then (some (Go.bits .or .u64 x4_1 (ji21), a0_0.extract ((ji25) : Int).toNat a0_0.size, false)) else ((pack_bad.f).bind fun bt179 => (some (0, bt179.1, bt179.2))))) else (none)) else (none)) = some (r1, r2, r3) := by first | (rw [hji25] at H; exact H) | (simp only [hji25] at H ⊢; exact H)
   have hji25w : (IntKind.i64.wrap (x14_1 + 1)) = ji25 := (i64_w _).trans hji25
   by_cases c26 : 0 ≤ (ji25)
   rotate_left
   ·rw [if_neg c26] at H
    exact absurd H (by simp)
   rw [if_pos c26] at H
   have c26b0 := eq_true c26
   have c26b1 : decide (0 ≤ (ji25)) = true := decide_eq_true c26
   clear c26
   by_cases c27 : (ji25) ≤ (a0_0.size : Int)
   rotate_left
   ·rw [if_neg c27] at H
    exact absurd H (by simp)
   rw [if_pos c27] at H
   have c27b0 := eq_true c27
   have c27b1 : decide ((ji25) ≤ (a0_0.size : Int)) = true := decide_eq_true c27
   clear c27
   replace H := Option.bind_eq_some_iff.mp H
   obtain ⟨t178, A280, H⟩ := H
   replace H : (if (a0_0.extract 0 ((ji25) : Int).toNat).toList = t178.toList then (some (Go.bits .or .u64 x4_1 (ji21), a0_0.extract ((ji25) : Int).toNat a0_0.size, false)) else ((pack_bad.f).bind fun bt179 => (some (0, bt179.1, bt179.2)))) = some (r1, r2, r3) := H
   have A28 := Aside0.mk A280
   clear A280
   by_cases c29 : (a0_0.extract 0 ((ji25) : Int).toNat).toList = t178.toList
   rotate_left
   ·rw [if_neg c29] at H
    have c29b0 : ((a0_0.extract 0 ((ji25) : Int).toNat).toList == t178.toList) = false := beq_eq_false_iff_ne.mpr c29
    have c29b1 : ((a0_0.extract 0 ((ji25) : Int).toNat).toList != t178.toList) = true := bne_iff_ne.mpr c29
    replace H := Option.bind_eq_some_iff.mp H
    obtain ⟨⟨t179, t180⟩, A390, H⟩ := H
    replace H : (some (0, t179, t180)) = some (r1, r2, r3) := H
    have A39 := Aside0.mk A390
    clear A390
    simp only [Option.some.injEq, Prod.mk.injEq] at H
    obtain ⟨rfl, rfl, rfl⟩ := H
    have hnb40 := NB172_173.out
    have hnc40 := NB173_172.out
    obtain ⟨hcz41_0, hcz41_1, hfz41_0, hfz41_1⟩ := Ke2_ BK172.out
    have p18 : 0 ≤ (x14_1 : Int) := of_decide_eq_true (by first | (with_reducible assumption) | assumption)
    have q18 : x14_1 < (a0_0.size : Int) := of_decide_eq_true (by first | (with_reducible assumption) | assumption)
    have hx18 := bt_at a0_0 x14_1
    replace p18 := eq_true p18
    replace q18 := eq_true q18
    try go_wp2
    replace BK172 := Kd_ BK172
    replace BK173 := Kd_ BK173
    replace HB := Aside0.mk (below_drew1 HB.out)
    refine start_ (n := 8) (S := fun w' => w'.cell? ⟨gb172, 0, none⟩ = some (.string a0_0) ∧ w'.cell? ⟨gb172, 1, none⟩ = some (.bool false)) (ds := []) (mB_ 8 0) (by kernel_rfl) rfl rfl (Kc2_ BK172.out) (fun hHeld => ?_); refine with_tabW pack_Reader_Vary.tab10 pack_Reader_Vary.bits10 (fun HT_ HW_ => ?_)
    generalize wr.drew = w42 at BK172 BK173 HB hHeld ⊢
    refine Kp_ 0 31 (mB_ 8 1) (any_of HT_.out (by kernel_rfl)) ?_
    refine Kp_ 2 33 (mB_ 8 5) (any_of HT_.out (by kernel_rfl)) ?_
    refine Kp_ 3 34 (mB_ 8 13) (any_of HT_.out (by kernel_rfl)) ?_
    refine Kp_ 5 36 (mB_ 8 45) (any_of HT_.out (by kernel_rfl)) ?_
    refine Ko_ 1 32 (mB_ 8 47) (take_ofW HT_.out HW_.out (by kernel_rfl)) hHeld ?_
    refine Kp_ 4 35 (mB_ 8 63) (any_of HT_.out (by kernel_rfl)) ?_
    refine one_ (i := 6) (N := some 37) (mB_ 8 127) rfl rfl (one_of HT_.out (by kernel_rfl)) (by decide) (fun K hK => ?_)
    refine goes_ Try.func60 (by kernel_rfl) rfl #[.int .u64 (Go.bits .or .u64 x4_1 (ji21))] (by rfl) rfl rfl (by (try simp only [List.map_toArray, List.map_cons, List.map_nil]); first | done | (simp only [hji21]; rfl) | rfl | (simp only [List.length_drop, List.length_take]; rfl)) ?_
    with_reducible refine (pack_Vary.calls k1 (Go.bits .or .u64 x4_1 (ji21)) t178 _ A28.out).mono ?_
    rintro e w43 ⟨rfl, hb⟩
    refine ⟨_, rfl, ?_⟩
    replace BK172 := Kb_ BK172 hb
    replace BK173 := Kb_ BK173 hb
    replace HB := Ks_ HB hb
    (try clear hb)
    (try clear hb2)
    (try clear hk)
    (try clear hi)
    refine hK.out _ _ (Kc2_ BK172.out) (fun hHeld => ?_)
    clear hK K
    refine Kn_ 37 ?_
    refine Kp_ 7 38 (mB_ 8 255) (any_of HT_.out (by kernel_rfl)) ?_
    refine done_ (done_of HT_.out (by kernel_rfl)) ?_
    try go_wp2_with (first | ((with_reducible refine gate_callee (f := 98) rfl ?_); refine Kg_ (some 47) rfl rfl Try.func98 (by kernel_rfl) rfl #[] rfl ?_; (with_reducible refine (pack_bad.calls  t179 t180 _ A39.out).mono ?_); rintro e w44 ⟨rfl, hb⟩; refine ⟨_, rfl, ?_⟩; replace BK172 := Kb_ BK172 hb; replace BK173 := Kb_ BK173 hb; replace HB := Ks_ HB hb; (try clear hb); (try clear hb2); (try clear hk); (try clear hi); obtain ⟨hcz45_0, hcz45_1, hfz45_0, hfz45_1⟩ := Ke2_ BK173.out))
    refine bodyPost_ret (results_tc rfl _ _ gb173 134 #[.string t179, .bool t180] (0, 0) _ rfl (by refine Kv_ ?_; refine blk_put (cs := #[.string t179, .bool x101_1]) ?_ 1 _ rfl; refine Kv_ ?_; refine blk_put (cs := #[.string x102_1, .bool x101_1]) ?_ 0 _ rfl; exact Kq_ BK173) Try.underlying134 rfl (by kernel_rfl)) rfl ?_
    exact ⟨by first | rfl | (simp [errW_none, errW_some] <;> rfl) | (simp only [← hji10, ← hji19, ← hji21, ← hji25]; first | rfl | (simp [errW_none, errW_some] <;> rfl)) | (simp [*, errW_none, errW_some] <;> rfl), K2a_ HB GE172 GE173⟩
   rw [if_pos c29] at H
   have c29b0 : ((a0_0.extract 0 ((ji25) : Int).toNat).toList == t178.toList) = true := beq_iff_eq.mpr c29
   have c29b1 : ((a0_0.extract 0 ((ji25) : Int).toNat).toList != t178.toList) = false := bne_eq_false_iff_eq.mpr c29
   clear c29
   have c30b0 := eq_true (of_decide_eq_true (by first | (with_reducible assumption) | assumption) : 0 ≤ (ji25))
   have c31b0 := eq_true (of_decide_eq_true (by first | (with_reducible assumption) | assumption) : (ji25) ≤ (a0_0.size : Int))
   simp only [Option.some.injEq, Prod.mk.injEq] at H
   obtain ⟨rfl, rfl, rfl⟩ := H
   have hnb32 := NB172_173.out
   have hnc32 := NB173_172.out
   obtain ⟨hcz33_0, hcz33_1, hfz33_0, hfz33_1⟩ := Ke2_ BK172.out
   have p18 : 0 ≤ (x14_1 : Int) := of_decide_eq_true (by first | (with_reducible assumption) | assumption)
   have q18 : x14_1 < (a0_0.size : Int) := of_decide_eq_true (by first | (with_reducible assumption) | assumption)
   have hx18 := bt_at a0_0 x14_1
   replace p18 := eq_true p18
   replace q18 := eq_true q18
   try go_wp2
   replace BK172 := Kd_ BK172
   replace BK173 := Kd_ BK173
   replace HB := Aside0.mk (below_drew1 HB.out)
   refine start_ (n := 8) (S := fun w' => w'.cell? ⟨gb172, 0, none⟩ = some (.string a0_0) ∧ w'.cell? ⟨gb172, 1, none⟩ = some (.bool false)) (ds := []) (mB_ 8 0) (by kernel_rfl) rfl rfl (Kc2_ BK172.out) (fun hHeld => ?_); refine with_tabW pack_Reader_Vary.tab10 pack_Reader_Vary.bits10 (fun HT_ HW_ => ?_)
   generalize wr.drew = w34 at BK172 BK173 HB hHeld ⊢
   refine Kp_ 0 31 (mB_ 8 1) (any_of HT_.out (by kernel_rfl)) ?_
   refine Kp_ 2 33 (mB_ 8 5) (any_of HT_.out (by kernel_rfl)) ?_
   refine Kp_ 3 34 (mB_ 8 13) (any_of HT_.out (by kernel_rfl)) ?_
   refine Kp_ 5 36 (mB_ 8 45) (any_of HT_.out (by kernel_rfl)) ?_
   refine Ko_ 1 32 (mB_ 8 47) (take_ofW HT_.out HW_.out (by kernel_rfl)) hHeld ?_
   refine Kp_ 4 35 (mB_ 8 63) (any_of HT_.out (by kernel_rfl)) ?_
   refine one_ (i := 6) (N := some 37) (mB_ 8 127) rfl rfl (one_of HT_.out (by kernel_rfl)) (by decide) (fun K hK => ?_)
   refine goes_ Try.func60 (by kernel_rfl) rfl #[.int .u64 (Go.bits .or .u64 x4_1 (ji21))] (by rfl) rfl rfl (by (try simp only [List.map_toArray, List.map_cons, List.map_nil]); first | done | (simp only [hji21]; rfl) | rfl | (simp only [List.length_drop, List.length_take]; rfl)) ?_
   with_reducible refine (pack_Vary.calls k1 (Go.bits .or .u64 x4_1 (ji21)) t178 _ A28.out).mono ?_
   rintro e w35 ⟨rfl, hb⟩
   refine ⟨_, rfl, ?_⟩
   replace BK172 := Kb_ BK172 hb
   replace BK173 := Kb_ BK173 hb
   replace HB := Ks_ HB hb
   (try clear hb)
   (try clear hb2)
   (try clear hk)
   (try clear hi)
   refine hK.out _ _ (Kc2_ BK172.out) (fun hHeld => ?_)
   clear hK K
   refine Kn_ 37 ?_
   refine Kp_ 7 38 (mB_ 8 255) (any_of HT_.out (by kernel_rfl)) ?_
   refine done_ (done_of HT_.out (by kernel_rfl)) ?_
   try go_wp2
   replace BK172 := Kd_ BK172
   replace BK173 := Kd_ BK173
   replace HB := Aside0.mk (below_drew1 HB.out)
   refine start_ (n := 9) (S := fun w' => w'.cell? ⟨gb172, 0, none⟩ = some (.string a0_0) ∧ w'.cell? ⟨gb172, 1, none⟩ = some (.bool false)) (ds := []) (mB_ 9 0) (by kernel_rfl) rfl rfl (Kc2_ BK172.out) (fun hHeld => ?_); refine with_tabW pack_Reader_Vary.tab11 pack_Reader_Vary.bits11 (fun HT_ HW_ => ?_)
   generalize w35.drew = w36 at BK172 BK173 HB hHeld ⊢
   refine Kp_ 0 39 (mB_ 9 1) (any_of HT_.out (by kernel_rfl)) ?_
   refine Kp_ 1 40 (mB_ 9 3) (any_of HT_.out (by kernel_rfl)) ?_
   refine Kp_ 3 42 (mB_ 9 11) (any_of HT_.out (by kernel_rfl)) ?_
   refine Kp_ 4 43 (mB_ 9 27) (any_of HT_.out (by kernel_rfl)) ?_
   refine Kp_ 7 2 (mB_ 9 155) (any_of HT_.out (by kernel_rfl)) ?_
   refine Ko_ 2 41 (mB_ 9 159) (take_ofW HT_.out HW_.out (by kernel_rfl)) hHeld ?_
   refine Kp_ 5 44 (mB_ 9 191) (any_of HT_.out (by kernel_rfl)) ?_
   refine Kp_ 6 45 (mB_ 9 255) (any_of HT_.out (by kernel_rfl)) ?_
   refine one_ (i := 8) (N := none) (mB_ 9 511) rfl rfl (one_of HT_.out (by kernel_rfl)) (by decide) (fun K hK => ?_)
   have hs37 : w36.cell? ⟨gb173, 0, none⟩ = some (.string x102_1) := (blk_cell BK173.out 0).trans rfl
   have hfs37 := blk_frozen BK173.out 0
   have hns37_0 := NB172_173.out
   have hms37_0 := NB173_172.out
   have hs38 : w36.cell? ⟨gb173, 1, none⟩ = some (.bool x101_1) := (blk_cell BK173.out 1).trans rfl
   have hfs38 := blk_frozen BK173.out 1
   have hns38_0 := NB172_173.out
   have hms38_0 := NB173_172.out
   refine skip_ (w1 := ?_) (by rfl) rfl ?_ ?_
   rotate_left
   ·go_simp
    rfl
   refine hK.out _ _ ⟨(Kj_ NB172_173 ((Kj_ NB172_173 (hHeld.1)))), (Kj_ NB172_173 ((Kj_ NB172_173 (hHeld.2))))⟩ (fun hHeld => ?_)
   clear hK K
   refine done_ (done_of HT_.out (by kernel_rfl)) ?_
   try go_wp2
   refine bodyPost_ret (results_tc rfl _ _ gb173 134 #[.string (a0_0.extract ((ji25) : Int).toNat a0_0.size), .bool false] (0, 0) _ rfl (by refine Kv_ ?_; refine blk_put (cs := #[.string (a0_0.extract ((ji25) : Int).toNat a0_0.size), .bool x101_1]) ?_ 1 _ rfl; refine Kv_ ?_; refine blk_put (cs := #[.string x102_1, .bool x101_1]) ?_ 0 _ rfl; exact Kq_ BK173) Try.underlying134 rfl (by kernel_rfl)) rfl ?_
   exact ⟨by first | rfl | (simp [errW_none, errW_some] <;> rfl) | (simp only [← hji10, ← hji19, ← hji21, ← hji25]; first | rfl | (simp [errW_none, errW_some] <;> rfl)) | (simp [*, errW_none, errW_some] <;> rfl), K2a_ HB GE172 GE173⟩
def pack_Reader_Text.f (k : Nat) (a0_0 : ByteArray) (a0_1 : Bool) (a1 : Int) : Option (ByteArray × ByteArray × Bool) := (pack_Reader_Vary.f k a0_0 a0_1).bind fun bt183 => (if bt183.2.2 = true then ((pack_bad.f).bind fun bt186 => (some ((⟨#[]⟩ : ByteArray), bt186.1, bt186.2))) else (if a1 < 0 then ((pack_bad.f).bind fun bt188 => (some ((⟨#[]⟩ : ByteArray), bt188.1, bt188.2))) else (if bt183.1 > (IntKind.u64.wrap (mn a1 (bt183.2.1.size : Int))) then ((pack_bad.f).bind fun bt190 => (some ((⟨#[]⟩ : ByteArray), bt190.1, bt190.2))) else (if 0 ≤ bt183.1 then (if bt183.1 ≤ (bt183.2.1.size : Int) then (some (bt183.2.1.extract 0 (bt183.1 : Int).toNat, bt183.2.1.extract (bt183.1 : Int).toNat bt183.2.1.size, false)) else (none)) else (none)))))
def pack_Reader_Text.T4 : Bool × List (List Nat × List Nat) := (true, [([], []), ([0], [0]), ([], []), ([1, 2], [1, 2]), ([], []), ([4], [4]), ([], []), ([5, 6], [5, 6]), ([7], [7]), ([3, 0, 1, 2, 3], [3]), ([8, 9, 0, 1, 2, 3, 4, 5, 6, 7, 8, 9], [8])])
def pack_Reader_Text.B4 : List Nat := [0, 1, 0, 7, 0, 16, 0, 112, 240, 15, 1023]
theorem pack_Reader_Text.tab4 : rtab .any (opsOf Try.f77 4) = pack_Reader_Text.T4 := by kernel_rfl
theorem pack_Reader_Text.bits4 : waitsOk pack_Reader_Text.T4.2 pack_Reader_Text.B4 = true := by kernel_rfl
set_option maxHeartbeats 8000000 in
set_option maxRecDepth 100000 in
theorem pack_Reader_Text.calls (k : Nat) (a0_0 : ByteArray) (a0_1 : Bool) (a1 : Int) (r1 : ByteArray) (r2 : ByteArray) (r3 : Bool) (w : World) (h : pack_Reader_Text.f k a0_0 a0_1 a1 = some (r1, r2, r3)) :
  Calls Try.prog 77 #[.agg #[.string a0_0, .bool a0_1], .int .i64 a1] w fun e w' => e = .returned (.tuple #[.string r1, .agg #[.string r2, .bool r3]]) ∧ Below w.heap.size w w' := by
 have hu134 := Try.underlying134
 have HB := Aside0.mk (Below.refl w.heap.size w)
 have H : ((pack_Reader_Vary.f k a0_0 a0_1).bind fun bt183 => (if bt183.2.2 = true then ((pack_bad.f).bind fun bt186 => (some ((⟨#[]⟩ : ByteArray), bt186.1, bt186.2))) else (if a1 < 0 then ((pack_bad.f).bind fun bt188 => (some ((⟨#[]⟩ : ByteArray), bt188.1, bt188.2))) else (if bt183.1 > (IntKind.u64.wrap (mn a1 (bt183.2.1.size : Int))) then ((pack_bad.f).bind fun bt190 => (some ((⟨#[]⟩ : ByteArray), bt190.1, bt190.2))) else (if 0 ≤ bt183.1 then (if bt183.1 ≤ (bt183.2.1.size : Int) then (some (bt183.2.1.extract 0 (bt183.1 : Int).toNat, bt183.2.1.extract (bt183.1 : Int).toNat bt183.2.1.size, false)) else (none)) else (none)))))) = some (r1, r2, r3) := h
 clear h
 replace H := Option.bind_eq_some_iff.mp H
 obtain ⟨⟨t183, t184, t185⟩, A30, H⟩ := H
 replace H : (if t185 = true then ((pack_bad.f).bind fun bt186 => (some ((⟨#[]⟩ : ByteArray), bt186.1, bt186.2))) else (if a1 < 0 then ((pack_bad.f).bind fun bt188 => (some ((⟨#[]⟩ : ByteArray), bt188.1, bt188.2))) else (if t183 > (IntKind.u64.wrap (mn a1 (t184.size : Int))) then ((pack_bad.f).bind fun bt190 => (some ((⟨#[]⟩ : ByteArray), bt190.1, bt190.2))) else (if 0 ≤ t183 then (if t183 ≤ (t184.size : Int) then (some (t184.extract 0 (t183 : Int).toNat, t184.extract (t183 : Int).toNat t184.size, false)) else (none)) else (none))))) = some (r1, r2, r3) := H
 have A3 := Aside0.mk A30
 clear A30
 by_cases c4 : t185 = true
 ·subst c4
  have H1 : ((pack_bad.f).bind fun bt186 => (some ((⟨#[]⟩ : ByteArray), bt186.1, bt186.2))) = some (r1, r2, r3) := by rw [if_pos rfl] at H; exact H
  clear H
  have H := H1
  clear H1
  replace H := Option.bind_eq_some_iff.mp H
  obtain ⟨⟨t186, t187⟩, A50, H⟩ := H
  replace H : (some ((⟨#[]⟩ : ByteArray), t186, t187)) = some (r1, r2, r3) := H
  have A5 := Aside0.mk A50
  clear A50
  simp only [Option.some.injEq, Prod.mk.injEq] at H
  obtain ⟨rfl, rfl, rfl⟩ := H
  go_enter Try.func77, Try.ntmps77
  go_wp2_with (first | ((with_reducible refine gate_dst (N := 2) rfl ?_); refine Ka_ 2 #[.string a0_0, .bool a0_1] 134 ?_; intro gb181 hg w6 hbox hb; have BK181 := Aside0.mk (hbox); have GW181 := Kw_ HB hg; have GE181 := GW181; replace HB := Ks_ HB hb; clear hb hbox hg) | ((with_reducible refine gate_dst (N := 5) rfl ?_); refine Ka_ 5 #[.string (⟨#[]⟩ : ByteArray), .bool false] 134 ?_; intro gb182 hg w7 hbox hb; have BK182 := Aside0.mk (hbox); have GW182 := Kw_ HB hg; have GE182 := GW182; have NB181_182 := Kl_ BK181 hg; have NB182_181 := Kr_ BK181 hg; replace BK181 := Kb_ BK181 hb; replace HB := Ks_ HB hb; clear hb hbox hg; have hnb8 := NB181_182.out; have hnc8 := NB182_181.out; obtain ⟨hcz9_0, hcz9_1, hfz9_0, hfz9_1⟩ := Ke2_ BK181.out) | ((with_reducible refine gate_callee (f := 76) rfl ?_); refine Kg_ (some 9) rfl rfl Try.func76 (by kernel_rfl) rfl #[.agg #[.string a0_0, .bool a0_1]] rfl ?_; (with_reducible refine (pack_Reader_Vary.calls k a0_0 a0_1 t183 t184 true _ A3.out).mono ?_); rintro e w10 ⟨rfl, hb⟩; refine ⟨_, rfl, ?_⟩; replace BK181 := Kb_ BK181 hb; replace BK182 := Kb_ BK182 hb; replace HB := Ks_ HB hb; (try clear hb); (try clear hb2); (try clear hk); (try clear hi); obtain ⟨hcz11_0, hcz11_1, hfz11_0, hfz11_1⟩ := Ke2_ BK181.out) | ((with_reducible refine gate_callee (f := 98) rfl ?_); refine Kg_ (some 28) rfl rfl Try.func98 (by kernel_rfl) rfl #[] rfl ?_; (with_reducible refine (pack_bad.calls  t186 t187 _ A5.out).mono ?_); rintro e w12 ⟨rfl, hb⟩; refine ⟨_, rfl, ?_⟩; replace BK181 := Aside0.mk (blk_below (g := gb181) (o := .cells #[.string t184, .bool true] 134 (0, 0)) (by refine Kv_ ?_; refine blk_put (cs := #[.string t184, .bool a0_1]) ?_ 1 _ rfl; refine Kv_ ?_; refine blk_put (cs := #[.string a0_0, .bool a0_1]) ?_ 0 _ rfl; exact Kq_ BK181) hb); replace BK182 := Kf_ BK182 NB182_181 hb; replace HB := Kt_ HB GE181 hb; (try clear hb); (try clear hb2); (try clear hk); (try clear hi); obtain ⟨hcz13_0, hcz13_1, hfz13_0, hfz13_1⟩ := Ke2_ BK182.out))
  refine bodyPost_ret (results_tc rfl _ _ gb182 134 #[.string t186, .bool t187] (0, 0) _ rfl (by refine Kv_ ?_; refine blk_put (cs := #[.string t186, .bool false]) ?_ 1 _ rfl; refine Kv_ ?_; refine blk_put (cs := #[.string (⟨#[]⟩ : ByteArray), .bool false]) ?_ 0 _ rfl; exact Kq_ BK182) Try.underlying134 rfl (by kernel_rfl)) rfl ?_
  exact ⟨Kh_, K2a_ HB GE181 GE182⟩
 replace c4 := Bool.eq_false_iff.mpr c4
 subst c4
 have H1 : (if a1 < 0 then ((pack_bad.f).bind fun bt188 => (some ((⟨#[]⟩ : ByteArray), bt188.1, bt188.2))) else (if t183 > (IntKind.u64.wrap (mn a1 (t184.size : Int))) then ((pack_bad.f).bind fun bt190 => (some ((⟨#[]⟩ : ByteArray), bt190.1, bt190.2))) else (if 0 ≤ t183 then (if t183 ≤ (t184.size : Int) then (some (t184.extract 0 (t183 : Int).toNat, t184.extract (t183 : Int).toNat t184.size, false)) else (none)) else (none)))) = some (r1, r2, r3) := by rw [if_neg (show ¬ (false = true) by decide)] at H; exact H
 clear H
 have H := H1
 clear H1
 by_cases c14 : a1 < 0
 ·rw [if_pos c14] at H
  have c14b0 : decide (a1 < 0) = true := decide_eq_true c14
  clear c14
  replace H := Option.bind_eq_some_iff.mp H
  obtain ⟨⟨t188, t189⟩, A150, H⟩ := H
  replace H : (some ((⟨#[]⟩ : ByteArray), t188, t189)) = some (r1, r2, r3) := H
  have A15 := Aside0.mk A150
  clear A150
  simp only [Option.some.injEq, Prod.mk.injEq] at H
  obtain ⟨rfl, rfl, rfl⟩ := H
  go_enter Try.func77, Try.ntmps77
  go_wp2_with (first | ((with_reducible refine gate_dst (N := 2) rfl ?_); refine Ka_ 2 #[.string a0_0, .bool a0_1] 134 ?_; intro gb181 hg w16 hbox hb; have BK181 := Aside0.mk (hbox); have GW181 := Kw_ HB hg; have GE181 := GW181; replace HB := Ks_ HB hb; clear hb hbox hg) | ((with_reducible refine gate_dst (N := 5) rfl ?_); refine Ka_ 5 #[.string (⟨#[]⟩ : ByteArray), .bool false] 134 ?_; intro gb182 hg w17 hbox hb; have BK182 := Aside0.mk (hbox); have GW182 := Kw_ HB hg; have GE182 := GW182; have NB181_182 := Kl_ BK181 hg; have NB182_181 := Kr_ BK181 hg; replace BK181 := Kb_ BK181 hb; replace HB := Ks_ HB hb; clear hb hbox hg; have hnb18 := NB181_182.out; have hnc18 := NB182_181.out; obtain ⟨hcz19_0, hcz19_1, hfz19_0, hfz19_1⟩ := Ke2_ BK181.out) | ((with_reducible refine gate_callee (f := 76) rfl ?_); refine Kg_ (some 9) rfl rfl Try.func76 (by kernel_rfl) rfl #[.agg #[.string a0_0, .bool a0_1]] rfl ?_; (with_reducible refine (pack_Reader_Vary.calls k a0_0 a0_1 t183 t184 false _ A3.out).mono ?_); rintro e w20 ⟨rfl, hb⟩; refine ⟨_, rfl, ?_⟩; replace BK181 := Kb_ BK181 hb; replace BK182 := Kb_ BK182 hb; replace HB := Ks_ HB hb; (try clear hb); (try clear hb2); (try clear hk); (try clear hi); obtain ⟨hcz21_0, hcz21_1, hfz21_0, hfz21_1⟩ := Ke2_ BK181.out) | ((with_reducible refine gate_callee (f := 98) rfl ?_); refine Kg_ (some 28) rfl rfl Try.func98 (by kernel_rfl) rfl #[] rfl ?_; (with_reducible refine (pack_bad.calls  t188 t189 _ A15.out).mono ?_); rintro e w22 ⟨rfl, hb⟩; refine ⟨_, rfl, ?_⟩; replace BK181 := Aside0.mk (blk_below (g := gb181) (o := .cells #[.string t184, .bool false] 134 (0, 0)) (by refine Kv_ ?_; refine blk_put (cs := #[.string t184, .bool a0_1]) ?_ 1 _ rfl; refine Kv_ ?_; refine blk_put (cs := #[.string a0_0, .bool a0_1]) ?_ 0 _ rfl; exact Kq_ BK181) hb); replace BK182 := Kf_ BK182 NB182_181 hb; replace HB := Kt_ HB GE181 hb; (try clear hb); (try clear hb2); (try clear hk); (try clear hi); obtain ⟨hcz23_0, hcz23_1, hfz23_0, hfz23_1⟩ := Ke2_ BK182.out))
  refine bodyPost_ret (results_tc rfl _ _ gb182 134 #[.string t188, .bool t189] (0, 0) _ rfl (by refine Kv_ ?_; refine blk_put (cs := #[.string t188, .bool false]) ?_ 1 _ rfl; refine Kv_ ?_; refine blk_put (cs := #[.string (⟨#[]⟩ : ByteArray), .bool false]) ?_ 0 _ rfl; exact Kq_ BK182) Try.underlying134 rfl (by kernel_rfl)) rfl ?_
  exact ⟨Kh_, K2a_ HB GE181 GE182⟩
 rw [if_neg c14] at H
 have c14b0 : decide (a1 < 0) = false := decide_eq_false c14
 clear c14
 obtain ⟨ji24, hji24⟩ : ∃ j_ : Int, (mn a1 (t184.size : Int)) = j_ := ⟨_, rfl⟩
 replace H : (if t183 > (IntKind.u64.wrap (ji24)) then ((pack_bad.f).bind fun bt190 => (some ((⟨#[]⟩ : ByteArray), bt190.1, bt190.2))) else (if 0 ≤ t183 then (if t183 ≤ (t184.size : Int) then (some (t184.extract 0 (t183 : Int).toNat, t184.extract (t183 : Int).toNat t184.size, false)) else (none)) else (none))) = some (r1, r2, r3) := by first | (rw [hji24] at H; exact H) | (simp only [hji24] at H ⊢; exact H)
 (try rw [hji24] at A3)
 have hji24_ : (if (t184.size : Int) < a1 then (t184.size : Int) else a1) = ji24 := hji24
 by_cases c25 : t183 > (IntKind.u64.wrap (ji24))
 ·rw [if_pos c25] at H
  have c25b0 : decide ((IntKind.u64.wrap (ji24)) < t183) = true := decide_eq_true c25
  clear c25
  replace H := Option.bind_eq_some_iff.mp H
  obtain ⟨⟨t190, t191⟩, A260, H⟩ := H
  replace H : (some ((⟨#[]⟩ : ByteArray), t190, t191)) = some (r1, r2, r3) := H
  have A26 := Aside0.mk A260
  clear A260
  simp only [Option.some.injEq, Prod.mk.injEq] at H
  obtain ⟨rfl, rfl, rfl⟩ := H
  go_enter Try.func77, Try.ntmps77
  go_wp2_with (first | ((with_reducible refine gate_dst (N := 2) rfl ?_); refine Ka_ 2 #[.string a0_0, .bool a0_1] 134 ?_; intro gb181 hg w27 hbox hb; have BK181 := Aside0.mk (hbox); have GW181 := Kw_ HB hg; have GE181 := GW181; replace HB := Ks_ HB hb; clear hb hbox hg) | ((with_reducible refine gate_dst (N := 5) rfl ?_); refine Ka_ 5 #[.string (⟨#[]⟩ : ByteArray), .bool false] 134 ?_; intro gb182 hg w28 hbox hb; have BK182 := Aside0.mk (hbox); have GW182 := Kw_ HB hg; have GE182 := GW182; have NB181_182 := Kl_ BK181 hg; have NB182_181 := Kr_ BK181 hg; replace BK181 := Kb_ BK181 hb; replace HB := Ks_ HB hb; clear hb hbox hg; have hnb29 := NB181_182.out; have hnc29 := NB182_181.out; obtain ⟨hcz30_0, hcz30_1, hfz30_0, hfz30_1⟩ := Ke2_ BK181.out) | ((with_reducible refine gate_callee (f := 76) rfl ?_); refine Kg_ (some 9) rfl rfl Try.func76 (by kernel_rfl) rfl #[.agg #[.string a0_0, .bool a0_1]] rfl ?_; (with_reducible refine (pack_Reader_Vary.calls k a0_0 a0_1 t183 t184 false _ A3.out).mono ?_); rintro e w31 ⟨rfl, hb⟩; refine ⟨_, rfl, ?_⟩; replace BK181 := Kb_ BK181 hb; replace BK182 := Kb_ BK182 hb; replace HB := Ks_ HB hb; (try clear hb); (try clear hb2); (try clear hk); (try clear hi); obtain ⟨hcz32_0, hcz32_1, hfz32_0, hfz32_1⟩ := Ke2_ BK181.out) | ((with_reducible refine gate_callee (f := 98) rfl ?_); refine Kg_ (some 28) rfl rfl Try.func98 (by kernel_rfl) rfl #[] rfl ?_; (with_reducible refine (pack_bad.calls  t190 t191 _ A26.out).mono ?_); rintro e w33 ⟨rfl, hb⟩; refine ⟨_, rfl, ?_⟩; replace BK181 := Aside0.mk (blk_below (g := gb181) (o := .cells #[.string t184, .bool false] 134 (0, 0)) (by refine Kv_ ?_; refine blk_put (cs := #[.string t184, .bool a0_1]) ?_ 1 _ rfl; refine Kv_ ?_; refine blk_put (cs := #[.string a0_0, .bool a0_1]) ?_ 0 _ rfl; exact Kq_ BK181) hb); replace BK182 := Kf_ BK182 NB182_181 hb; replace HB := Kt_ HB GE181 hb; (try clear hb); (try clear hb2); (try clear hk); (try clear hi); obtain ⟨hcz34_0, hcz34_1, hfz34_0, hfz34_1⟩ := Ke2_ BK182.out))
  refine bodyPost_ret (results_tc rfl _ _ gb182 134 #[.string t190, .bool t191] (0, 0) _ rfl (by refine Kv_ ?_; refine blk_put (cs := #[.string t190, .bool false]) ?_ 1 _ rfl; refine Kv_ ?_; refine blk_put (cs := #[.string (⟨#[]⟩ : ByteArray), .bool false]) ?_ 0 _ rfl; exact Kq_ BK182) Try.underlying134 rfl (by kernel_rfl)) rfl ?_
  exact ⟨by first | rfl | (simp [errW_none, errW_some] <;> rfl) | (simp only [← hji24]; first | rfl | (simp [errW_none, errW_some] <;> rfl)) | (simp [*, errW_none, errW_some] <;> rfl), K2a_ HB GE181 GE182⟩
 rw [if_neg c25] at H
 have c25b0 : decide ((IntKind.u64.wrap (ji24)) < t183) = false := decide_eq_false c25
 clear c25
 by_cases c35 : 0 ≤ t183
 rotate_left
 ·rw [if_neg c35] at H
  exact absurd H (by simp)
 rw [if_pos c35] at H
 have c35b0 := eq_true c35
 have c35b1 : decide (0 ≤ t183) = true := decide_eq_true c35
 clear c35
 by_cases c36 : t183 ≤ (t184.size : Int)
 rotate_left
 ·rw [if_neg c36] at H
  exact absurd H (by simp)
 rw [if_pos c36] at H
 have c36b0 := eq_true c36
 have c36b1 : decide (t183 ≤ (t184.size : Int)) = true := decide_eq_true c36
 clear c36
 have c37b0 := eq_true (of_decide_eq_true (by first | (with_reducible assumption) | assumption) : 0 ≤ t183)
 have c38b0 := eq_true (of_decide_eq_true (by first | (with_reducible assumption) | assumption) : t183 ≤ (t184.size : Int))
 simp only [Option.some.injEq, Prod.mk.injEq] at H
 obtain ⟨rfl, rfl, rfl⟩ := H
 go_enter Try.func77, Try.ntmps77
 try go_wp2_with (first | ((with_reducible refine gate_dst (N := 2) rfl ?_); refine Ka_ 2 #[.string a0_0, .bool a0_1] 134 ?_; intro gb181 hg w39 hbox hb; have BK181 := Aside0.mk (hbox); have GW181 := Kw_ HB hg; have GE181 := GW181; replace HB := Ks_ HB hb; clear hb hbox hg) | ((with_reducible refine gate_dst (N := 5) rfl ?_); refine Ka_ 5 #[.string (⟨#[]⟩ : ByteArray), .bool false] 134 ?_; intro gb182 hg w40 hbox hb; have BK182 := Aside0.mk (hbox); have GW182 := Kw_ HB hg; have GE182 := GW182; have NB181_182 := Kl_ BK181 hg; have NB182_181 := Kr_ BK181 hg; replace BK181 := Kb_ BK181 hb; replace HB := Ks_ HB hb; clear hb hbox hg; have hnb41 := NB181_182.out; have hnc41 := NB182_181.out; obtain ⟨hcz42_0, hcz42_1, hfz42_0, hfz42_1⟩ := Ke2_ BK181.out) | ((with_reducible refine gate_callee (f := 76) rfl ?_); refine Kg_ (some 9) rfl rfl Try.func76 (by kernel_rfl) rfl #[.agg #[.string a0_0, .bool a0_1]] rfl ?_; (with_reducible refine (pack_Reader_Vary.calls k a0_0 a0_1 t183 t184 false _ A3.out).mono ?_); rintro e w43 ⟨rfl, hb⟩; refine ⟨_, rfl, ?_⟩; replace BK181 := Kb_ BK181 hb; replace BK182 := Kb_ BK182 hb; replace HB := Ks_ HB hb; (try clear hb); (try clear hb2); (try clear hk); (try clear hi); obtain ⟨hcz44_0, hcz44_1, hfz44_0, hfz44_1⟩ := Ke2_ BK181.out))
 have n0_ : Aside0 (((w43.setCell ⟨gb181, 0, none⟩ (.string t184)).setCell ⟨gb181, 1, none⟩ (.bool false)).heap[gb181]? = some (.cells #[.string t184, .bool false] 134 (0, 0))) := ⟨by refine Kv_ ?_; refine blk_put (cs := #[.string t184, .bool a0_1]) ?_ 1 _ rfl; refine Kv_ ?_; refine blk_put (cs := #[.string a0_0, .bool a0_1]) ?_ 0 _ rfl; exact Kq_ BK181⟩
 have n1_ : Aside0 (((w43.setCell ⟨gb181, 0, none⟩ (.string t184)).setCell ⟨gb181, 1, none⟩ (.bool false)).heap[gb182]? = some (.cells #[.string (⟨#[]⟩ : ByteArray), .bool false] 134 (0, 0))) := ⟨by exact K1b_ BK182 NB182_181⟩
 have n2_ : Aside0 (Below w.heap.size w ((w43.setCell ⟨gb181, 0, none⟩ (.string t184)).setCell ⟨gb181, 1, none⟩ (.bool false))) := ⟨K2a_ HB GE181 GE182⟩
 (try clear BK181)
 (try clear BK182)
 (try clear HB)
 generalize ((w43.setCell ⟨gb181, 0, none⟩ (.string t184)).setCell ⟨gb181, 1, none⟩ (.bool false)) = w45 at n0_ n1_ n2_ ⊢
 have BK181 := n0_
 have BK182 := n1_
 have HB := n2_
 clear n0_ n1_ n2_
 replace BK181 := Kd_ BK181
 replace BK182 := Kd_ BK182
 replace HB := Aside0.mk (below_drew1 HB.out)
 refine start_ (n := 11) (S := fun w' => w'.cell? ⟨gb181, 0, none⟩ = some (.string t184) ∧ w'.cell? ⟨gb181, 1, none⟩ = some (.bool false)) (ds := []) (mB_ 11 0) (by kernel_rfl) rfl rfl (Kc2_ BK181.out) (fun hHeld => ?_); refine with_tabW pack_Reader_Text.tab4 pack_Reader_Text.bits4 (fun HT_ HW_ => ?_)
 generalize w45.drew = w46 at BK181 BK182 HB hHeld ⊢
 refine Kp_ 0 29 (mB_ 11 1) (any_of HT_.out (by kernel_rfl)) ?_
 refine Kp_ 2 31 (mB_ 11 5) (any_of HT_.out (by kernel_rfl)) ?_
 refine Kp_ 4 33 (mB_ 11 21) (any_of HT_.out (by kernel_rfl)) ?_
 refine Kp_ 6 35 (mB_ 11 85) (any_of HT_.out (by kernel_rfl)) ?_
 refine Ko_ 1 30 (mB_ 11 87) (take_ofW HT_.out HW_.out (by kernel_rfl)) hHeld ?_
 refine Kp_ 3 32 (mB_ 11 95) (any_of HT_.out (by kernel_rfl)) ?_
 refine Kp_ 9 4 (mB_ 11 607) (any_of HT_.out (by kernel_rfl)) ?_
 refine Ko_ 5 34 (mB_ 11 639) (take_ofW HT_.out HW_.out (by kernel_rfl)) hHeld ?_
 refine Kp_ 7 36 (mB_ 11 767) (any_of HT_.out (by kernel_rfl)) ?_
 refine Kp_ 8 37 (mB_ 11 1023) (any_of HT_.out (by kernel_rfl)) ?_
 refine one_ (i := 10) (N := none) (mB_ 11 2047) rfl rfl (one_of HT_.out (by kernel_rfl)) (by decide) (fun K hK => ?_)
 have hs47 : w46.cell? ⟨gb182, 0, none⟩ = some (.string (⟨#[]⟩ : ByteArray)) := (blk_cell BK182.out 0).trans rfl
 have hfs47 := blk_frozen BK182.out 0
 have hns47_0 := NB181_182.out
 have hms47_0 := NB182_181.out
 have hs48 : w46.cell? ⟨gb182, 1, none⟩ = some (.bool false) := (blk_cell BK182.out 1).trans rfl
 have hfs48 := blk_frozen BK182.out 1
 have hns48_0 := NB181_182.out
 have hms48_0 := NB182_181.out
 refine skip_ (w1 := ?_) (by rfl) rfl ?_ ?_
 rotate_left
 ·go_simp
  rfl
 refine hK.out _ _ ⟨(Kj_ NB181_182 ((Kj_ NB181_182 (hHeld.1)))), (Kj_ NB181_182 ((Kj_ NB181_182 (hHeld.2))))⟩ (fun hHeld => ?_)
 clear hK K
 refine done_ (done_of HT_.out (by kernel_rfl)) ?_
 try go_wp2
 refine bodyPost_ret (results_tc rfl _ _ gb182 134 #[.string (t184.extract (t183 : Int).toNat t184.size), .bool false] (0, 0) _ rfl (by refine Kv_ ?_; refine blk_put (cs := #[.string (t184.extract (t183 : Int).toNat t184.size), .bool false]) ?_ 1 _ rfl; refine Kv_ ?_; refine blk_put (cs := #[.string (⟨#[]⟩ : ByteArray), .bool false]) ?_ 0 _ rfl; exact Kq_ BK182) Try.underlying134 rfl (by kernel_rfl)) rfl ?_
 exact ⟨by first | rfl | (simp [errW_none, errW_some] <;> rfl) | (simp only [← hji24]; first | rfl | (simp [errW_none, errW_some] <;> rfl)) | (simp [*, errW_none, errW_some] <;> rfl), K2a_ HB GE181 GE182⟩
def vec_Get.f (k : Nat) (a0_0 : ByteArray) (a0_1 : Bool) : Option (Int × Int × Int × Int × ByteArray × Bool) :=
 (pack_Reader_Vary.f k a0_0 a0_1).bind fun r0 => (pack_Reader_Vary.f k r0.2.1 r0.2.2).bind fun r1 => (pack_Reader_Vary.f k r1.2.1 r1.2.2).bind fun r2 => (pack_Reader_Vary.f k r2.2.1 r2.2.2).bind fun r3 =>
  if r3.2.2 = true then some (0, 0, 0, 0, (⟨#[]⟩ : ByteArray), true) else (vec_Right.f r0.1 r1.1 r2.1 r3.1).bind fun t => if t = true then some (r0.1, r1.1, r2.1, r3.1, r3.2.1, false) else some (0, 0, 0, 0, (⟨#[]⟩ : ByteArray), true)
theorem vec_Get.boxes3 (w : World) (xs ys zs : Array Value) (t1 t2 t3 : TypeId) (W : World) (h : ((w.alloc (.cells xs t1)).alloc (.cells ys t2)).alloc (.cells zs t3) = W) :
  W.heap[w.heap.size]? = some (.cells xs t1 (0,0)) ∧ W.heap[w.heap.size+1]? = some (.cells ys t2 (0,0)) ∧ W.heap[w.heap.size+1+1]? = some (.cells zs t3 (0,0)) ∧ Below w.heap.size w W := by
 subst h
 have s1 : (w.alloc (.cells xs t1)).heap.size = w.heap.size + 1 := by simp [World.alloc, -World.alloc_eq]
 have s2 : ((w.alloc (.cells xs t1)).alloc (.cells ys t2)).heap.size = w.heap.size + 1 + 1 := by simp [World.alloc, -World.alloc_eq]
 refine ⟨blk_alloc (blk_alloc (blk_new _ _) _) _, ?_, ?_, below_alloc (below_alloc (below_alloc (Below.refl _ _) _) _) _⟩
 ·rw [← s1]; exact blk_alloc (blk_new _ _) _
 ·rw [← s2]; exact blk_new _ _
set_option maxHeartbeats 8000000 in
set_option maxRecDepth 100000 in
theorem vec_Get.calls (k : Nat) (a0_0 : ByteArray) (a0_1 : Bool) (r1 r2 r3 r4 : Int) (r5 : ByteArray) (r6 : Bool) (w : World) (h : vec_Get.f k a0_0 a0_1 = some (r1, r2, r3, r4, r5, r6)) :
  Calls Try.prog 106 #[.agg #[.string a0_0, .bool a0_1]] w fun e w' => e = .returned (.tuple #[.agg #[.int .u64 r1, .int .u64 r2, .int .u64 r3, .int .u64 r4], .agg #[.string r5, .bool r6]]) ∧ Below w.heap.size w w' := by
 unfold vec_Get.f at h
 obtain ⟨⟨n0, s1, b1⟩, A0, h⟩ := Option.bind_eq_some_iff.1 h
 obtain ⟨⟨n1, s2, b2⟩, A1, h⟩ := Option.bind_eq_some_iff.1 h
 obtain ⟨⟨n2, s3, b3⟩, A2, h⟩ := Option.bind_eq_some_iff.1 h
 obtain ⟨⟨n3, s4, b4⟩, A3, h⟩ := Option.bind_eq_some_iff.1 h
 replace A0 := Aside0.mk A0
 replace A1 := Aside0.mk A1
 replace A2 := Aside0.mk A2
 replace A3 := Aside0.mk A3
 simp only at h
 have HH := Aside0.mk h
 clear h
 have hu := Try.underlying28
 have hu2 := Try.underlying26
 have hu3 := Try.underlying134
 go_enter Try.func106, Try.ntmps106
 go_wp2
 generalize hW : (((w.alloc (Obj.cells #[.string a0_0, .bool a0_1] 134)).alloc (Obj.cells _ 28)).alloc (Obj.cells _ 134)) = W0
 obtain ⟨hA, hB, hC, HB⟩ := vec_Get.boxes3 _ _ _ _ _ _ _ _ hW
 replace HB := Aside0.mk HB
 clear hW
 obtain ⟨B0, hB0⟩ : ∃ B0, B0 = w.heap.size := ⟨_, rfl⟩
 obtain ⟨B1, hB1⟩ : ∃ B1, B1 = w.heap.size + 1 := ⟨_, rfl⟩
 obtain ⟨B2, hB2⟩ : ∃ B2, B2 = w.heap.size + 1 + 1 := ⟨_, rfl⟩
 rw [← hB2, ← hB1, ← hB0]
 rw [← hB0] at hA
 rw [← hB1] at hB
 rw [← hB2] at hC
 have g01 : B0 ≠ B1 := by omega
 have g02 : B0 ≠ B2 := by omega
 have g12 : B1 ≠ B2 := by omega
 have GA := Aside0.mk (show w.heap.size ≤ B0 by omega)
 have GB := Aside0.mk (show w.heap.size ≤ B1 by omega)
 have GC := Aside0.mk (show w.heap.size ≤ B2 by omega)
 clear hB0 hB1 hB2
 replace hA := Aside0.mk hA
 replace hB := Aside0.mk hB
 replace hC := Aside0.mk hC
 refine wp_loop_rounds 5 ?_
 rw [rounds_succ]
 have ca0 := (blk_cell hA.out 0).trans rfl
 have ca1 := (blk_cell hA.out 1).trans rfl
 go_wp2_with (go_at_call 76; refine (pack_Reader_Vary.calls k a0_0 a0_1 n0 s1 b1 _ A0.out).mono ?_; rintro e w1 ⟨rfl, hb⟩; clear ca0 ca1; have hA1 := Aside0.mk (blk_below hA.out hb); have hB1 := Aside0.mk (blk_below hB.out hb); have hC1 := Aside0.mk (blk_below hC.out hb); have HB1 := Aside0.mk (below_step HB.out hb); clear hA hB hC HB; clear hb; have fa0 := blk_frozen hA1.out 0; have fa1 := blk_frozen hA1.out 1; have ca0 := (blk_cell hA1.out 0).trans rfl; have ca1 := (blk_cell hA1.out 1).trans rfl; have fb := blk_frozen hB1.out 0; have cb := (blk_cell hB1.out 0).trans rfl)
 clear ca0 ca1 cb fa0 fa1 fb
 have hA := Aside0.mk (blk_put (blk_put (blk_far hA1.out (p := ⟨B1, 0, none⟩) g01 (.int .u64 n0)) 0 (.string s1) rfl) 1 (.bool b1) (cs' := #[.string s1, .bool b1]) rfl)
 have hB := Aside0.mk (blk_far (blk_far (blk_put hB1.out 0 (.int .u64 n0) (cs' := #[.int .u64 n0, .int .u64 0, .int .u64 0, .int .u64 0]) rfl) (p := ⟨B0, 0, none⟩) (Ne.symm g01) (.string s1)) (p := ⟨B0, 1, none⟩) (Ne.symm g01) (.bool b1))
 have hC := Aside0.mk (blk_far (blk_far (blk_far hC1.out (p := ⟨B1, 0, none⟩) (Ne.symm g12) (.int .u64 n0)) (p := ⟨B0, 0, none⟩) (Ne.symm g02) (.string s1)) (p := ⟨B0, 1, none⟩) (Ne.symm g02) (.bool b1))
 have HB := Aside0.mk (below_set (j := 1) (v := .bool b1) (below_set (j := 0) (v := .string s1) (below_set (j := 0) (v := .int .u64 n0) HB1.out GB.out) GA.out) GA.out)
 clear hA1 hB1 hC1 HB1
 generalize ((w1.setCell ⟨B1, 0, none⟩ (.int .u64 n0)).setCell ⟨B0, 0, none⟩ (.string s1)).setCell ⟨B0, 1, none⟩ (.bool b1) = W1 at *
 clear w1 W0
 rw [rounds_succ]
 have ca0 := (blk_cell hA.out 0).trans rfl
 have ca1 := (blk_cell hA.out 1).trans rfl
 go_wp2_with (go_at_call 76; refine (pack_Reader_Vary.calls k s1 b1 n1 s2 b2 _ A1.out).mono ?_; rintro e w1 ⟨rfl, hb⟩; clear ca0 ca1; have hA1 := Aside0.mk (blk_below hA.out hb); have hB1 := Aside0.mk (blk_below hB.out hb); have hC1 := Aside0.mk (blk_below hC.out hb); have HB1 := Aside0.mk (below_step HB.out hb); clear hA hB hC HB; clear hb; have fa0 := blk_frozen hA1.out 0; have fa1 := blk_frozen hA1.out 1; have ca0 := (blk_cell hA1.out 0).trans rfl; have ca1 := (blk_cell hA1.out 1).trans rfl; have fb := blk_frozen hB1.out 1; have cb := (blk_cell hB1.out 1).trans rfl)
 clear ca0 ca1 cb fa0 fa1 fb
 have hA := Aside0.mk (blk_put (blk_put (blk_far hA1.out (p := ⟨B1, 1, none⟩) g01 (.int .u64 n1)) 0 (.string s2) rfl) 1 (.bool b2) (cs' := #[.string s2, .bool b2]) rfl)
 have hB := Aside0.mk (blk_far (blk_far (blk_put hB1.out 1 (.int .u64 n1) (cs' := #[.int .u64 n0, .int .u64 n1, .int .u64 0, .int .u64 0]) rfl) (p := ⟨B0, 0, none⟩) (Ne.symm g01) (.string s2)) (p := ⟨B0, 1, none⟩) (Ne.symm g01) (.bool b2))
 have hC := Aside0.mk (blk_far (blk_far (blk_far hC1.out (p := ⟨B1, 1, none⟩) (Ne.symm g12) (.int .u64 n1)) (p := ⟨B0, 0, none⟩) (Ne.symm g02) (.string s2)) (p := ⟨B0, 1, none⟩) (Ne.symm g02) (.bool b2))
 have HB := Aside0.mk (below_set (j := 1) (v := .bool b2) (below_set (j := 0) (v := .string s2) (below_set (j := 1) (v := .int .u64 n1) HB1.out GB.out) GA.out) GA.out)
 clear hA1 hB1 hC1 HB1
 generalize ((w1.setCell ⟨B1, 1, none⟩ (.int .u64 n1)).setCell ⟨B0, 0, none⟩ (.string s2)).setCell ⟨B0, 1, none⟩ (.bool b2) = W2 at *
 clear w1 W1
 rw [rounds_succ]
 have ca0 := (blk_cell hA.out 0).trans rfl
 have ca1 := (blk_cell hA.out 1).trans rfl
 go_wp2_with (go_at_call 76; refine (pack_Reader_Vary.calls k s2 b2 n2 s3 b3 _ A2.out).mono ?_; rintro e w1 ⟨rfl, hb⟩; clear ca0 ca1; have hA1 := Aside0.mk (blk_below hA.out hb); have hB1 := Aside0.mk (blk_below hB.out hb); have hC1 := Aside0.mk (blk_below hC.out hb); have HB1 := Aside0.mk (below_step HB.out hb); clear hA hB hC HB; clear hb; have fa0 := blk_frozen hA1.out 0; have fa1 := blk_frozen hA1.out 1; have ca0 := (blk_cell hA1.out 0).trans rfl; have ca1 := (blk_cell hA1.out 1).trans rfl; have fb := blk_frozen hB1.out 2; have cb := (blk_cell hB1.out 2).trans rfl)
 clear ca0 ca1 cb fa0 fa1 fb
 have hA := Aside0.mk (blk_put (blk_put (blk_far hA1.out (p := ⟨B1, 2, none⟩) g01 (.int .u64 n2)) 0 (.string s3) rfl) 1 (.bool b3) (cs' := #[.string s3, .bool b3]) rfl)
 have hB := Aside0.mk (blk_far (blk_far (blk_put hB1.out 2 (.int .u64 n2) (cs' := #[.int .u64 n0, .int .u64 n1, .int .u64 n2, .int .u64 0]) rfl) (p := ⟨B0, 0, none⟩) (Ne.symm g01) (.string s3)) (p := ⟨B0, 1, none⟩) (Ne.symm g01) (.bool b3))
 have hC := Aside0.mk (blk_far (blk_far (blk_far hC1.out (p := ⟨B1, 2, none⟩) (Ne.symm g12) (.int .u64 n2)) (p := ⟨B0, 0, none⟩) (Ne.symm g02) (.string s3)) (p := ⟨B0, 1, none⟩) (Ne.symm g02) (.bool b3))
 have HB := Aside0.mk (below_set (j := 1) (v := .bool b3) (below_set (j := 0) (v := .string s3) (below_set (j := 2) (v := .int .u64 n2) HB1.out GB.out) GA.out) GA.out)
 clear hA1 hB1 hC1 HB1
 generalize ((w1.setCell ⟨B1, 2, none⟩ (.int .u64 n2)).setCell ⟨B0, 0, none⟩ (.string s3)).setCell ⟨B0, 1, none⟩ (.bool b3) = W3 at *
 clear w1 W2
 rw [rounds_succ]
 have ca0 := (blk_cell hA.out 0).trans rfl
 have ca1 := (blk_cell hA.out 1).trans rfl
 go_wp2_with (go_at_call 76; refine (pack_Reader_Vary.calls k s3 b3 n3 s4 b4 _ A3.out).mono ?_; rintro e w1 ⟨rfl, hb⟩; clear ca0 ca1; have hA1 := Aside0.mk (blk_below hA.out hb); have hB1 := Aside0.mk (blk_below hB.out hb); have hC1 := Aside0.mk (blk_below hC.out hb); have HB1 := Aside0.mk (below_step HB.out hb); clear hA hB hC HB; clear hb; have fa0 := blk_frozen hA1.out 0; have fa1 := blk_frozen hA1.out 1; have ca0 := (blk_cell hA1.out 0).trans rfl; have ca1 := (blk_cell hA1.out 1).trans rfl; have fb := blk_frozen hB1.out 3; have cb := (blk_cell hB1.out 3).trans rfl)
 clear ca0 ca1 cb fa0 fa1 fb
 have hA := Aside0.mk (blk_put (blk_put (blk_far hA1.out (p := ⟨B1, 3, none⟩) g01 (.int .u64 n3)) 0 (.string s4) rfl) 1 (.bool b4) (cs' := #[.string s4, .bool b4]) rfl)
 have hB := Aside0.mk (blk_far (blk_far (blk_put hB1.out 3 (.int .u64 n3) (cs' := #[.int .u64 n0, .int .u64 n1, .int .u64 n2, .int .u64 n3]) rfl) (p := ⟨B0, 0, none⟩) (Ne.symm g01) (.string s4)) (p := ⟨B0, 1, none⟩) (Ne.symm g01) (.bool b4))
 have hC := Aside0.mk (blk_far (blk_far (blk_far hC1.out (p := ⟨B1, 3, none⟩) (Ne.symm g12) (.int .u64 n3)) (p := ⟨B0, 0, none⟩) (Ne.symm g02) (.string s4)) (p := ⟨B0, 1, none⟩) (Ne.symm g02) (.bool b4))
 have HB := Aside0.mk (below_set (j := 1) (v := .bool b4) (below_set (j := 0) (v := .string s4) (below_set (j := 3) (v := .int .u64 n3) HB1.out GB.out) GA.out) GA.out)
 clear hA1 hB1 hC1 HB1
 generalize ((w1.setCell ⟨B1, 3, none⟩ (.int .u64 n3)).setCell ⟨B0, 0, none⟩ (.string s4)).setCell ⟨B0, 1, none⟩ (.bool b4) = W4 at *
 clear w1 W3
 rw [rounds_succ]
 have fb0 := blk_frozen hB.out 0
 have fb1 := blk_frozen hB.out 1
 have fb2 := blk_frozen hB.out 2
 have fb3 := blk_frozen hB.out 3
 have cb0 := (blk_cell hB.out 0).trans rfl
 have cb1 := (blk_cell hB.out 1).trans rfl
 have cb2 := (blk_cell hB.out 2).trans rfl
 have cb3 := (blk_cell hB.out 3).trans rfl
 have fc0 := blk_frozen hC.out 0
 have fc1 := blk_frozen hC.out 1
 have cc0 := (blk_cell hC.out 0).trans rfl
 have cc1 := (blk_cell hC.out 1).trans rfl
 have ca0 := (blk_cell hA.out 0).trans rfl
 have ca1 := (blk_cell hA.out 1).trans rfl
 cases b4 with
 | true =>
  have h := HH.out
  rw [if_pos rfl] at h
  simp only [Option.some.injEq, Prod.mk.injEq] at h
  obtain ⟨rfl, rfl, rfl, rfl, rfl, rfl⟩ := h
  clear HH
  go_wp2
  clear fb0 fb1 fb2 fb3 cb0 cb1 cb2 cb3 fc0 fc1 cc0 cc1 ca0 ca1
  have hB1 := Aside0.mk (blk_far (blk_far (blk_put (blk_put (blk_put (blk_put hB.out 0 (.int .u64 0) rfl) 1 (.int .u64 0) rfl) 2 (.int .u64 0) rfl) 3 (.int .u64 0) (cs' := #[.int .u64 0, .int .u64 0, .int .u64 0, .int .u64 0]) rfl) (p := ⟨B2, 0, none⟩) g12 (.string (⟨#[]⟩ : ByteArray))) (p := ⟨B2, 1, none⟩) g12 (.bool true))
  have hC1 := Aside0.mk (blk_put (blk_put (blk_far (blk_far (blk_far (blk_far hC.out (p := ⟨B1, 0, none⟩) (Ne.symm g12) (.int .u64 0)) (p := ⟨B1, 1, none⟩) (Ne.symm g12) (.int .u64 0)) (p := ⟨B1, 2, none⟩) (Ne.symm g12) (.int .u64 0)) (p := ⟨B1, 3, none⟩) (Ne.symm g12) (.int .u64 0)) 0 (.string (⟨#[]⟩ : ByteArray)) rfl) 1 (.bool true) (cs' := #[.string (⟨#[]⟩ : ByteArray), .bool true]) rfl)
  have HB1 := Aside0.mk (below_set (j := 1) (v := .bool true) (below_set (j := 0) (v := .string (⟨#[]⟩ : ByteArray)) (below_set (j := 3) (v := .int .u64 0) (below_set (j := 2) (v := .int .u64 0) (below_set (j := 1) (v := .int .u64 0) (below_set (j := 0) (v := .int .u64 0) HB.out GB.out) GB.out) GB.out) GB.out) GC.out) GC.out)
  clear hA hB hC HB
  generalize ((((((W4.setCell ⟨B1, 0, none⟩ (.int .u64 0)).setCell ⟨B1, 1, none⟩ (.int .u64 0)).setCell ⟨B1, 2, none⟩ (.int .u64 0)).setCell ⟨B1, 3, none⟩ (.int .u64 0)).setCell ⟨B2, 0, none⟩ (.string (⟨#[]⟩ : ByteArray))).setCell ⟨B2, 1, none⟩ (.bool true)) = W9 at *
  have d0 := (blk_cell hB1.out 0).trans rfl
  have d1 := (blk_cell hB1.out 1).trans rfl
  have d2 := (blk_cell hB1.out 2).trans rfl
  have d3 := (blk_cell hB1.out 3).trans rfl
  have d4 := (blk_cell hC1.out 0).trans rfl
  have d5 := (blk_cell hC1.out 1).trans rfl
  refine bodyPost_ret (v := .tuple #[.agg #[.int .u64 0, .int .u64 0, .int .u64 0, .int .u64 0], .agg #[.string (⟨#[]⟩ : ByteArray), .bool true]]) (by simp [results, Try.results106, go_sem, hu, hu2, hu3, d0, d1, d2, d3, d4, d5]) rfl ⟨rfl, HB1.out⟩
 | false =>
  have h := HH.out
  rw [if_neg (by simp)] at h
  obtain ⟨t, A4, h⟩ := Option.bind_eq_some_iff.1 h
  replace A4 := Aside0.mk A4
  clear HH
  cases t with
  | false =>
   rw [if_neg (by simp)] at h
   simp only [Option.some.injEq, Prod.mk.injEq] at h
   obtain ⟨rfl, rfl, rfl, rfl, rfl, rfl⟩ := h
   go_wp2_with (go_at_call 92; refine (vec_Right.calls n0 n1 n2 n3 false _ A4.out).mono ?_; rintro e w1 ⟨rfl, hb⟩; clear fb0 fb1 fb2 fb3 cb0 cb1 cb2 cb3 fc0 fc1 cc0 cc1 ca0 ca1; have hA1 := Aside0.mk (blk_below hA.out hb); have hB1 := Aside0.mk (blk_below hB.out hb); have hC1 := Aside0.mk (blk_below hC.out hb); have HB1 := Aside0.mk (below_step HB.out hb); clear hA hB hC HB; clear hb; have hA := hA1; have hB := hB1; have hC := hC1; have HB := HB1; clear hA1 hB1 hC1 HB1; have fb0 := blk_frozen hB.out 0; have fb1 := blk_frozen hB.out 1; have fb2 := blk_frozen hB.out 2; have fb3 := blk_frozen hB.out 3; have cb0 := (blk_cell hB.out 0).trans rfl; have cb1 := (blk_cell hB.out 1).trans rfl; have cb2 := (blk_cell hB.out 2).trans rfl; have cb3 := (blk_cell hB.out 3).trans rfl; have fc0 := blk_frozen hC.out 0; have fc1 := blk_frozen hC.out 1; have cc0 := (blk_cell hC.out 0).trans rfl; have cc1 := (blk_cell hC.out 1).trans rfl; have ca0 := (blk_cell hA.out 0).trans rfl; have ca1 := (blk_cell hA.out 1).trans rfl)
   clear fb0 fb1 fb2 fb3 cb0 cb1 cb2 cb3 fc0 fc1 cc0 cc1 ca0 ca1
   have hB1 := Aside0.mk (blk_far (blk_far (blk_put (blk_put (blk_put (blk_put hB.out 0 (.int .u64 0) rfl) 1 (.int .u64 0) rfl) 2 (.int .u64 0) rfl) 3 (.int .u64 0) (cs' := #[.int .u64 0, .int .u64 0, .int .u64 0, .int .u64 0]) rfl) (p := ⟨B2, 0, none⟩) g12 (.string (⟨#[]⟩ : ByteArray))) (p := ⟨B2, 1, none⟩) g12 (.bool true))
   have hC1 := Aside0.mk (blk_put (blk_put (blk_far (blk_far (blk_far (blk_far hC.out (p := ⟨B1, 0, none⟩) (Ne.symm g12) (.int .u64 0)) (p := ⟨B1, 1, none⟩) (Ne.symm g12) (.int .u64 0)) (p := ⟨B1, 2, none⟩) (Ne.symm g12) (.int .u64 0)) (p := ⟨B1, 3, none⟩) (Ne.symm g12) (.int .u64 0)) 0 (.string (⟨#[]⟩ : ByteArray)) rfl) 1 (.bool true) (cs' := #[.string (⟨#[]⟩ : ByteArray), .bool true]) rfl)
   have HB1 := Aside0.mk (below_set (j := 1) (v := .bool true) (below_set (j := 0) (v := .string (⟨#[]⟩ : ByteArray)) (below_set (j := 3) (v := .int .u64 0) (below_set (j := 2) (v := .int .u64 0) (below_set (j := 1) (v := .int .u64 0) (below_set (j := 0) (v := .int .u64 0) HB.out GB.out) GB.out) GB.out) GB.out) GC.out) GC.out)
   clear hA hB hC HB
   generalize ((((((w1.setCell ⟨B1, 0, none⟩ (.int .u64 0)).setCell ⟨B1, 1, none⟩ (.int .u64 0)).setCell ⟨B1, 2, none⟩ (.int .u64 0)).setCell ⟨B1, 3, none⟩ (.int .u64 0)).setCell ⟨B2, 0, none⟩ (.string (⟨#[]⟩ : ByteArray))).setCell ⟨B2, 1, none⟩ (.bool true)) = W9 at *
   have d0 := (blk_cell hB1.out 0).trans rfl
   have d1 := (blk_cell hB1.out 1).trans rfl
   have d2 := (blk_cell hB1.out 2).trans rfl
   have d3 := (blk_cell hB1.out 3).trans rfl
   have d4 := (blk_cell hC1.out 0).trans rfl
   have d5 := (blk_cell hC1.out 1).trans rfl
   refine bodyPost_ret (v := .tuple #[.agg #[.int .u64 0, .int .u64 0, .int .u64 0, .int .u64 0], .agg #[.string (⟨#[]⟩ : ByteArray), .bool true]]) (by simp [results, Try.results106, go_sem, hu, hu2, hu3, d0, d1, d2, d3, d4, d5]) rfl ⟨rfl, HB1.out⟩
  | true =>
   rw [if_pos rfl] at h
   simp only [Option.some.injEq, Prod.mk.injEq] at h
   obtain ⟨rfl, rfl, rfl, rfl, rfl, rfl⟩ := h
   go_wp2_with (go_at_call 92; refine (vec_Right.calls n0 n1 n2 n3 true _ A4.out).mono ?_; rintro e w1 ⟨rfl, hb⟩; clear fb0 fb1 fb2 fb3 cb0 cb1 cb2 cb3 fc0 fc1 cc0 cc1 ca0 ca1; have hA1 := Aside0.mk (blk_below hA.out hb); have hB1 := Aside0.mk (blk_below hB.out hb); have hC1 := Aside0.mk (blk_below hC.out hb); have HB1 := Aside0.mk (below_step HB.out hb); clear hA hB hC HB; clear hb; have hA := hA1; have hB := hB1; have hC := hC1; have HB := HB1; clear hA1 hB1 hC1 HB1; have fb0 := blk_frozen hB.out 0; have fb1 := blk_frozen hB.out 1; have fb2 := blk_frozen hB.out 2; have fb3 := blk_frozen hB.out 3; have cb0 := (blk_cell hB.out 0).trans rfl; have cb1 := (blk_cell hB.out 1).trans rfl; have cb2 := (blk_cell hB.out 2).trans rfl; have cb3 := (blk_cell hB.out 3).trans rfl; have fc0 := blk_frozen hC.out 0; have fc1 := blk_frozen hC.out 1; have cc0 := (blk_cell hC.out 0).trans rfl; have cc1 := (blk_cell hC.out 1).trans rfl; have ca0 := (blk_cell hA.out 0).trans rfl; have ca1 := (blk_cell hA.out 1).trans rfl)
   go_region
   go_wp2
   clear fb0 fb1 fb2 fb3 cb0 cb1 cb2 cb3 fc0 fc1 cc0 cc1 ca0 ca1
   have hB1 := Aside0.mk (blk_drew (blk_far (blk_far (blk_put (blk_put (blk_put (blk_put hB.out 0 (.int .u64 n0) rfl) 1 (.int .u64 n1) rfl) 2 (.int .u64 n2) rfl) 3 (.int .u64 n3) (cs' := #[.int .u64 n0, .int .u64 n1, .int .u64 n2, .int .u64 n3]) rfl) (p := ⟨B2, 0, none⟩) g12 (.string s4)) (p := ⟨B2, 1, none⟩) g12 (.bool false)))
   have hC1 := Aside0.mk (blk_drew (blk_put (blk_put (blk_far (blk_far (blk_far (blk_far hC.out (p := ⟨B1, 0, none⟩) (Ne.symm g12) (.int .u64 n0)) (p := ⟨B1, 1, none⟩) (Ne.symm g12) (.int .u64 n1)) (p := ⟨B1, 2, none⟩) (Ne.symm g12) (.int .u64 n2)) (p := ⟨B1, 3, none⟩) (Ne.symm g12) (.int .u64 n3)) 0 (.string s4) rfl) 1 (.bool false) (cs' := #[.string s4, .bool false]) rfl))
   have HB1 := Aside0.mk (below_drew1 (below_set (j := 1) (v := .bool false) (below_set (j := 0) (v := .string s4) (below_set (j := 3) (v := .int .u64 n3) (below_set (j := 2) (v := .int .u64 n2) (below_set (j := 1) (v := .int .u64 n1) (below_set (j := 0) (v := .int .u64 n0) HB.out GB.out) GB.out) GB.out) GB.out) GC.out) GC.out))
   clear hA hB hC HB
   generalize ((((((w1.setCell ⟨B1, 0, none⟩ (.int .u64 n0)).setCell ⟨B1, 1, none⟩ (.int .u64 n1)).setCell ⟨B1, 2, none⟩ (.int .u64 n2)).setCell ⟨B1, 3, none⟩ (.int .u64 n3)).setCell ⟨B2, 0, none⟩ (.string s4)).setCell ⟨B2, 1, none⟩ (.bool false)).drew = W9 at *
   have d0 := (blk_cell hB1.out 0).trans rfl
   have d1 := (blk_cell hB1.out 1).trans rfl
   have d2 := (blk_cell hB1.out 2).trans rfl
   have d3 := (blk_cell hB1.out 3).trans rfl
   have d4 := (blk_cell hC1.out 0).trans rfl
   have d5 := (blk_cell hC1.out 1).trans rfl
   refine bodyPost_ret (v := .tuple #[.agg #[.int .u64 n0, .int .u64 n1, .int .u64 n2, .int .u64 n3], .agg #[.string s4, .bool false]]) (by simp [results, Try.results106, go_sem, hu, hu2, hu3, d0, d1, d2, d3, d4, d5]) rfl ⟨rfl, HB1.out⟩
def stamp_Get.f (k : Nat) (a0_0 : ByteArray) (a0_1 : Bool) : Option (Int × Int × Int × Int × Int × ByteArray × Bool) := (pack_Reader_Number.f a0_0 a0_1 1).bind fun bt195 => ((vec_Get.f k bt195.2.1 bt195.2.2).bind fun bt198 => (if bt198.2.2.2.2.2 = true then (some (0, 0, 0, 0, 0, (⟨#[]⟩ : ByteArray), true)) else ((stamp_Right.f bt198.1 bt198.2.1 bt198.2.2.1 bt198.2.2.2.1 (wrap64 (bt195.1))).bind fun t206 => (if t206 = true then (some (bt198.1, bt198.2.1, bt198.2.2.1, bt198.2.2.2.1, wrap64 (bt195.1), bt198.2.2.2.2.1, bt198.2.2.2.2.2)) else (some (0, 0, 0, 0, 0, (⟨#[]⟩ : ByteArray), true))))))
set_option maxHeartbeats 8000000 in
set_option maxRecDepth 100000 in
theorem stamp_Get.calls (k : Nat) (a0_0 : ByteArray) (a0_1 : Bool) (r1 : Int) (r2 : Int) (r3 : Int) (r4 : Int) (r5 : Int) (r6 : ByteArray) (r7 : Bool) (w : World) (h : stamp_Get.f k a0_0 a0_1 = some (r1, r2, r3, r4, r5, r6, r7)) :
  Calls Try.prog 99 #[.agg #[.string a0_0, .bool a0_1]] w fun e w' => e = .returned (.tuple #[.agg #[.int .u64 r1, .int .u64 r2, .int .u64 r3, .int .u64 r4, .int .i64 r5], .agg #[.string r6, .bool r7]]) ∧ Below w.heap.size w w' := by
 have hu134 := Try.underlying134
 have hu30 := Try.underlying30
 have hu28 := Try.underlying28
 have HB := Aside0.mk (Below.refl w.heap.size w)
 have H : ((pack_Reader_Number.f a0_0 a0_1 1).bind fun bt195 => ((vec_Get.f k bt195.2.1 bt195.2.2).bind fun bt198 => (if bt198.2.2.2.2.2 = true then (some (0, 0, 0, 0, 0, (⟨#[]⟩ : ByteArray), true)) else ((stamp_Right.f bt198.1 bt198.2.1 bt198.2.2.1 bt198.2.2.2.1 (wrap64 (bt195.1))).bind fun t206 => (if t206 = true then (some (bt198.1, bt198.2.1, bt198.2.2.1, bt198.2.2.2.1, wrap64 (bt195.1), bt198.2.2.2.2.1, bt198.2.2.2.2.2)) else (some (0, 0, 0, 0, 0, (⟨#[]⟩ : ByteArray), true))))))) = some (r1, r2, r3, r4, r5, r6, r7) := h
 clear h
 replace H := Option.bind_eq_some_iff.mp H
 obtain ⟨⟨t195, t196, t197⟩, A20, H⟩ := H
 replace H : ((vec_Get.f k t196 t197).bind fun bt198 => (if bt198.2.2.2.2.2 = true then (some (0, 0, 0, 0, 0, (⟨#[]⟩ : ByteArray), true)) else ((stamp_Right.f bt198.1 bt198.2.1 bt198.2.2.1 bt198.2.2.2.1 (wrap64 (t195))).bind fun t206 => (if t206 = true then (some (bt198.1, bt198.2.1, bt198.2.2.1, bt198.2.2.2.1, wrap64 (t195), bt198.2.2.2.2.1, bt198.2.2.2.2.2)) else (some (0, 0, 0, 0, 0, (⟨#[]⟩ : ByteArray), true)))))) = some (r1, r2, r3, r4, r5, r6, r7) := H
 have A2 := Aside0.mk A20
 clear A20
 replace H := Option.bind_eq_some_iff.mp H
 obtain ⟨⟨t198, t199, t200, t201, t202, t203⟩, A30, H⟩ := H
 replace H : (if t203 = true then (some (0, 0, 0, 0, 0, (⟨#[]⟩ : ByteArray), true)) else ((stamp_Right.f t198 t199 t200 t201 (wrap64 (t195))).bind fun t206 => (if t206 = true then (some (t198, t199, t200, t201, wrap64 (t195), t202, t203)) else (some (0, 0, 0, 0, 0, (⟨#[]⟩ : ByteArray), true))))) = some (r1, r2, r3, r4, r5, r6, r7) := H
 have A3 := Aside0.mk A30
 clear A30
 by_cases c4 : t203 = true
 ·subst c4
  have H1 : (some (0, 0, 0, 0, 0, (⟨#[]⟩ : ByteArray), true)) = some (r1, r2, r3, r4, r5, r6, r7) := by rw [if_pos rfl] at H; exact H
  clear H
  have H := H1
  clear H1
  simp only [Option.some.injEq, Prod.mk.injEq] at H
  obtain ⟨rfl, rfl, rfl, rfl, rfl, rfl, rfl⟩ := H
  go_enter Try.func99, Try.ntmps99
  go_wp2_with (first | ((with_reducible refine gate_dst (N := 1) rfl ?_); refine Ka_ 1 #[.string a0_0, .bool a0_1] 134 ?_; intro gb192 hg w5 hbox hb; have BK192 := Aside0.mk (hbox); have GW192 := Kw_ HB hg; have GE192 := GW192; replace HB := Ks_ HB hb; clear hb hbox hg) | ((with_reducible refine gate_dst (N := 2) rfl ?_); refine Ka_ 2 #[.int .u64 0, .int .u64 0, .int .u64 0, .int .u64 0, .int .i64 0] 30 ?_; intro gb193 hg w6 hbox hb; have BK193 := Aside0.mk (hbox); have GW193 := Kw_ HB hg; have GE193 := GW193; have NB192_193 := Kl_ BK192 hg; have NB193_192 := Kr_ BK192 hg; replace BK192 := Kb_ BK192 hb; replace HB := Ks_ HB hb; clear hb hbox hg) | ((with_reducible refine gate_dst (N := 3) rfl ?_); refine Ka_ 3 #[.string (⟨#[]⟩ : ByteArray), .bool false] 134 ?_; intro gb194 hg w7 hbox hb; have BK194 := Aside0.mk (hbox); have GW194 := Kw_ HB hg; have GE194 := GW194; have NB192_194 := Kl_ BK192 hg; have NB194_192 := Kr_ BK192 hg; have NB193_194 := Kl_ BK193 hg; have NB194_193 := Kr_ BK193 hg; replace BK192 := Kb_ BK192 hb; replace BK193 := Kb_ BK193 hb; replace HB := Ks_ HB hb; clear hb hbox hg; have hnb8 := NB192_193.out; have hnc8 := NB193_192.out; have hnb9 := NB192_194.out; have hnc9 := NB194_192.out; obtain ⟨hcz10_0, hcz10_1, hfz10_0, hfz10_1⟩ := Ke2_ BK192.out) | ((with_reducible refine gate_callee (f := 75) rfl ?_); refine Kg_ (some 9) rfl rfl Try.func75 (by kernel_rfl) rfl #[.agg #[.string a0_0, .bool a0_1], .int .i64 1] rfl ?_; (with_reducible refine (pack_Reader_Number.calls a0_0 a0_1 1 t195 t196 t197 _ A2.out).mono ?_); rintro e w11 ⟨rfl, hb⟩; refine ⟨_, rfl, ?_⟩; replace BK192 := Kb_ BK192 hb; replace BK193 := Kb_ BK193 hb; replace BK194 := Kb_ BK194 hb; replace HB := Ks_ HB hb; (try clear hb); (try clear hb2); (try clear hk); (try clear hi); obtain ⟨hcz12_0, hcz12_1, hfz12_0, hfz12_1⟩ := Ke2_ BK192.out) | ((with_reducible refine gate_callee (f := 106) rfl ?_); refine Kg_ (some 14) rfl rfl Try.func106 (by kernel_rfl) rfl #[.agg #[.string t196, .bool t197]] rfl ?_; (with_reducible refine (vec_Get.calls k t196 t197 t198 t199 t200 t201 t202 true _ A3.out).mono ?_); rintro e w13 ⟨rfl, hb⟩; refine ⟨_, rfl, ?_⟩; replace BK192 := Aside0.mk (blk_below (g := gb192) (o := .cells #[.string t196, .bool t197] 134 (0, 0)) (by refine Kv_ ?_; refine blk_put (cs := #[.string t196, .bool a0_1]) ?_ 1 _ rfl; refine Kv_ ?_; refine blk_put (cs := #[.string a0_0, .bool a0_1]) ?_ 0 _ rfl; exact Kq_ BK192) hb); replace BK193 := Kf_ BK193 NB193_192 hb; replace BK194 := Kf_ BK194 NB194_192 hb; replace HB := Kt_ HB GE192 hb; (try clear hb); (try clear hb2); (try clear hk); (try clear hi)) | ((with_reducible refine gate_dst (N := 5) rfl ?_); refine Ka_ 5 #[.int .u64 0, .int .u64 0, .int .u64 0, .int .u64 0] 28 ?_; intro gb204 hg w14 hbox hb; have BK204 := Aside0.mk (hbox); have GW204 := Kw_ HB hg; have GE204 := GW204; have NB192_204 := Kl_ BK192 hg; have NB204_192 := Kr_ BK192 hg; have NB193_204 := Kl_ BK193 hg; have NB204_193 := Kr_ BK193 hg; have NB194_204 := Kl_ BK194 hg; have NB204_194 := Kr_ BK194 hg; replace BK192 := Kb_ BK192 hb; replace BK193 := Kb_ BK193 hb; replace BK194 := Kb_ BK194 hb; replace HB := Ks_ HB hb; clear hb hbox hg; have hnb15 := NB204_192.out; have hnc15 := NB192_204.out; have hnb16 := NB204_193.out; have hnc16 := NB193_204.out; have hnb17 := NB204_194.out; have hnc17 := NB194_204.out; obtain ⟨hcz18_0, hcz18_1, hcz18_2, hcz18_3, hfz18_0, hfz18_1, hfz18_2, hfz18_3⟩ := Ke4_ BK204.out; obtain ⟨hcz19_0, hcz19_1, hfz19_0, hfz19_1⟩ := Ke2_ BK192.out) | ((with_reducible refine gate_dst (N := 6) rfl ?_); refine Ka_ 6 #[.int .u64 0, .int .u64 0, .int .u64 0, .int .u64 0, .int .i64 0] 30 ?_; intro gb205 hg w20 hbox hb; have BK205 := Aside0.mk (hbox); have GW205 := Aside0.mk ((by rw [hg]; exact (below_size (K4a_ HB GE192 GE193 GE194 GE204)) : w.heap.size ≤ gb205)); have GE205 := GW205; have NB192_205 := Aside0.mk ((by rw [hg]; exact Nat.ne_of_lt (blk_lt (g := gb192) (o := .cells #[.string t202, .bool true] 134 (0, 0)) (by refine Kv_ ?_; refine blk_put (cs := #[.string t202, .bool t197]) ?_ 1 _ rfl; refine Kv_ ?_; refine blk_put (cs := #[.string t196, .bool t197]) ?_ 0 _ rfl; exact K1b_ BK192 NB192_204)) : gb192 ≠ gb205)); have NB205_192 := Aside0.mk ((by rw [hg]; exact Nat.ne_of_gt (blk_lt (g := gb192) (o := .cells #[.string t202, .bool true] 134 (0, 0)) (by refine Kv_ ?_; refine blk_put (cs := #[.string t202, .bool t197]) ?_ 1 _ rfl; refine Kv_ ?_; refine blk_put (cs := #[.string t196, .bool t197]) ?_ 0 _ rfl; exact K1b_ BK192 NB192_204)) : gb205 ≠ gb192)); have NB193_205 := Aside0.mk ((by rw [hg]; exact Nat.ne_of_lt (blk_lt (g := gb193) (o := .cells #[.int .u64 0, .int .u64 0, .int .u64 0, .int .u64 0, .int .i64 0] 30 (0, 0)) (K2b_ BK193 NB193_192 NB193_204)) : gb193 ≠ gb205)); have NB205_193 := Aside0.mk ((by rw [hg]; exact Nat.ne_of_gt (blk_lt (g := gb193) (o := .cells #[.int .u64 0, .int .u64 0, .int .u64 0, .int .u64 0, .int .i64 0] 30 (0, 0)) (K2b_ BK193 NB193_192 NB193_204)) : gb205 ≠ gb193)); have NB194_205 := Aside0.mk ((by rw [hg]; exact Nat.ne_of_lt (blk_lt (g := gb194) (o := .cells #[.string (⟨#[]⟩ : ByteArray), .bool false] 134 (0, 0)) (K2b_ BK194 NB194_192 NB194_204)) : gb194 ≠ gb205)); have NB205_194 := Aside0.mk ((by rw [hg]; exact Nat.ne_of_gt (blk_lt (g := gb194) (o := .cells #[.string (⟨#[]⟩ : ByteArray), .bool false] 134 (0, 0)) (K2b_ BK194 NB194_192 NB194_204)) : gb205 ≠ gb194)); have NB204_205 := Aside0.mk ((by rw [hg]; exact Nat.ne_of_lt (blk_lt (g := gb204) (o := .cells #[.int .u64 t198, .int .u64 t199, .int .u64 t200, .int .u64 t201] 28 (0, 0)) (by (repeat (first | (with_reducible first | refine blk_drewN ?_ _ | refine blk_drew ?_ | refine blk_alloc ?_ _) | refine blk_far ?_ NB204_192.out _)); refine blk_put (cs := #[.int .u64 t198, .int .u64 t199, .int .u64 t200, .int .u64 0]) ?_ 3 _ rfl; refine Kv_ ?_; refine blk_put (cs := #[.int .u64 t198, .int .u64 t199, .int .u64 0, .int .u64 0]) ?_ 2 _ rfl; refine Kv_ ?_; refine blk_put (cs := #[.int .u64 t198, .int .u64 0, .int .u64 0, .int .u64 0]) ?_ 1 _ rfl; refine Kv_ ?_; refine blk_put (cs := #[.int .u64 0, .int .u64 0, .int .u64 0, .int .u64 0]) ?_ 0 _ rfl; exact Kq_ BK204)) : gb204 ≠ gb205)); have NB205_204 := Aside0.mk ((by rw [hg]; exact Nat.ne_of_gt (blk_lt (g := gb204) (o := .cells #[.int .u64 t198, .int .u64 t199, .int .u64 t200, .int .u64 t201] 28 (0, 0)) (by (repeat (first | (with_reducible first | refine blk_drewN ?_ _ | refine blk_drew ?_ | refine blk_alloc ?_ _) | refine blk_far ?_ NB204_192.out _)); refine blk_put (cs := #[.int .u64 t198, .int .u64 t199, .int .u64 t200, .int .u64 0]) ?_ 3 _ rfl; refine Kv_ ?_; refine blk_put (cs := #[.int .u64 t198, .int .u64 t199, .int .u64 0, .int .u64 0]) ?_ 2 _ rfl; refine Kv_ ?_; refine blk_put (cs := #[.int .u64 t198, .int .u64 0, .int .u64 0, .int .u64 0]) ?_ 1 _ rfl; refine Kv_ ?_; refine blk_put (cs := #[.int .u64 0, .int .u64 0, .int .u64 0, .int .u64 0]) ?_ 0 _ rfl; exact Kq_ BK204)) : gb205 ≠ gb204)); replace BK192 := Aside0.mk (blk_below (g := gb192) (o := .cells #[.string t202, .bool true] 134 (0, 0)) (by refine Kv_ ?_; refine blk_put (cs := #[.string t202, .bool t197]) ?_ 1 _ rfl; refine Kv_ ?_; refine blk_put (cs := #[.string t196, .bool t197]) ?_ 0 _ rfl; exact K1b_ BK192 NB192_204) hb); replace BK193 := Aside0.mk (blk_below (g := gb193) (o := .cells #[.int .u64 0, .int .u64 0, .int .u64 0, .int .u64 0, .int .i64 0] 30 (0, 0)) (K2b_ BK193 NB193_192 NB193_204) hb); replace BK194 := Aside0.mk (blk_below (g := gb194) (o := .cells #[.string (⟨#[]⟩ : ByteArray), .bool false] 134 (0, 0)) (K2b_ BK194 NB194_192 NB194_204) hb); replace BK204 := Aside0.mk (blk_below (g := gb204) (o := .cells #[.int .u64 t198, .int .u64 t199, .int .u64 t200, .int .u64 t201] 28 (0, 0)) (by (repeat (first | (with_reducible first | refine blk_drewN ?_ _ | refine blk_drew ?_ | refine blk_alloc ?_ _) | refine blk_far ?_ NB204_192.out _)); refine blk_put (cs := #[.int .u64 t198, .int .u64 t199, .int .u64 t200, .int .u64 0]) ?_ 3 _ rfl; refine Kv_ ?_; refine blk_put (cs := #[.int .u64 t198, .int .u64 t199, .int .u64 0, .int .u64 0]) ?_ 2 _ rfl; refine Kv_ ?_; refine blk_put (cs := #[.int .u64 t198, .int .u64 0, .int .u64 0, .int .u64 0]) ?_ 1 _ rfl; refine Kv_ ?_; refine blk_put (cs := #[.int .u64 0, .int .u64 0, .int .u64 0, .int .u64 0]) ?_ 0 _ rfl; exact Kq_ BK204) hb); replace HB := Aside0.mk (below_step (K4a_ HB GE192 GE193 GE194 GE204) hb); clear hb hbox hg; have hnb21 := NB205_192.out; have hnc21 := NB192_205.out; have hnb22 := NB205_193.out; have hnc22 := NB193_205.out; have hnb23 := NB205_194.out; have hnc23 := NB194_205.out; have hnb24 := NB205_204.out; have hnc24 := NB204_205.out; obtain ⟨hcz25_0, hcz25_1, hcz25_2, hcz25_3, hcz25_4, hfz25_0, hfz25_1, hfz25_2, hfz25_3, hfz25_4⟩ := Ke5_ BK205.out; obtain ⟨hcz26_0, hcz26_1, hfz26_0, hfz26_1⟩ := Ke2_ BK192.out; have hnb27 := NB193_194.out; have hnc27 := NB194_193.out; obtain ⟨hcz28_0, hcz28_1, hcz28_2, hcz28_3, hcz28_4, hfz28_0, hfz28_1, hfz28_2, hfz28_3, hfz28_4⟩ := Ke5_ BK193.out; obtain ⟨hcz29_0, hcz29_1, hfz29_0, hfz29_1⟩ := Ke2_ BK194.out))
  refine bodyPost_ret (results_cc rfl _ _ gb193 gb194 30 134 #[.int .u64 0, .int .u64 0, .int .u64 0, .int .u64 0, .int .i64 0] #[.string (⟨#[]⟩ : ByteArray), .bool true] (0, 0) (0, 0) _ _ rfl (by (repeat (first | (with_reducible first | refine blk_drewN ?_ _ | refine blk_drew ?_ | refine blk_alloc ?_ _) | refine blk_far ?_ NB193_194.out _)); refine blk_put (cs := #[.int .u64 0, .int .u64 0, .int .u64 0, .int .u64 0, .int .i64 0]) ?_ 4 _ rfl; refine Kv_ ?_; refine blk_put (cs := #[.int .u64 0, .int .u64 0, .int .u64 0, .int .u64 0, .int .i64 0]) ?_ 3 _ rfl; refine Kv_ ?_; refine blk_put (cs := #[.int .u64 0, .int .u64 0, .int .u64 0, .int .u64 0, .int .i64 0]) ?_ 2 _ rfl; refine Kv_ ?_; refine blk_put (cs := #[.int .u64 0, .int .u64 0, .int .u64 0, .int .u64 0, .int .i64 0]) ?_ 1 _ rfl; refine Kv_ ?_; refine blk_put (cs := #[.int .u64 0, .int .u64 0, .int .u64 0, .int .u64 0, .int .i64 0]) ?_ 0 _ rfl; exact K1b_ BK193 NB193_205) Try.underlying30 rfl (by kernel_rfl) rfl (by refine Kv_ ?_; refine blk_put (cs := #[.string (⟨#[]⟩ : ByteArray), .bool false]) ?_ 1 _ rfl; refine Kv_ ?_; refine blk_put (cs := #[.string (⟨#[]⟩ : ByteArray), .bool false]) ?_ 0 _ rfl; exact K2b_ BK194 NB194_193 NB194_205) Try.underlying134 rfl (by kernel_rfl)) rfl ?_
  exact ⟨Kh_, by repeat (first | (with_reducible first | exact HB.out | apply below_alloc | apply pw_below_drewN | apply below_drew1 | refine below_set ?_ GE192.out | refine below_set ?_ GE193.out | refine below_set ?_ GE194.out | refine below_set ?_ GE204.out | refine below_set ?_ GE205.out) | exact HB.out)⟩
 replace c4 := Bool.eq_false_iff.mpr c4
 subst c4
 have H1 : ((stamp_Right.f t198 t199 t200 t201 (wrap64 (t195))).bind fun t206 => (if t206 = true then (some (t198, t199, t200, t201, wrap64 (t195), t202, false)) else (some (0, 0, 0, 0, 0, (⟨#[]⟩ : ByteArray), true)))) = some (r1, r2, r3, r4, r5, r6, r7) := by rw [if_neg (show ¬ (false = true) by decide)] at H; exact H
 clear H
 have H := H1
 clear H1
 replace H := Option.bind_eq_some_iff.mp H
 obtain ⟨t206, A300, H⟩ := H
 replace H : (if t206 = true then (some (t198, t199, t200, t201, wrap64 (t195), t202, false)) else (some (0, 0, 0, 0, 0, (⟨#[]⟩ : ByteArray), true))) = some (r1, r2, r3, r4, r5, r6, r7) := H
 have A30 := Aside0.mk A300
 clear A300
 by_cases c31 : t206 = true
 rotate_left
 ·replace c31 := Bool.eq_false_iff.mpr c31
  subst c31
  have H1 : (some (0, 0, 0, 0, 0, (⟨#[]⟩ : ByteArray), true)) = some (r1, r2, r3, r4, r5, r6, r7) := by rw [if_neg (show ¬ (false = true) by decide)] at H; exact H
  clear H
  have H := H1
  clear H1
  simp only [Option.some.injEq, Prod.mk.injEq] at H
  obtain ⟨rfl, rfl, rfl, rfl, rfl, rfl, rfl⟩ := H
  go_enter Try.func99, Try.ntmps99
  go_wp2_with (first | ((with_reducible refine gate_dst (N := 1) rfl ?_); refine Ka_ 1 #[.string a0_0, .bool a0_1] 134 ?_; intro gb192 hg w63 hbox hb; have BK192 := Aside0.mk (hbox); have GW192 := Kw_ HB hg; have GE192 := GW192; replace HB := Ks_ HB hb; clear hb hbox hg) | ((with_reducible refine gate_dst (N := 2) rfl ?_); refine Ka_ 2 #[.int .u64 0, .int .u64 0, .int .u64 0, .int .u64 0, .int .i64 0] 30 ?_; intro gb193 hg w64 hbox hb; have BK193 := Aside0.mk (hbox); have GW193 := Kw_ HB hg; have GE193 := GW193; have NB192_193 := Kl_ BK192 hg; have NB193_192 := Kr_ BK192 hg; replace BK192 := Kb_ BK192 hb; replace HB := Ks_ HB hb; clear hb hbox hg) | ((with_reducible refine gate_dst (N := 3) rfl ?_); refine Ka_ 3 #[.string (⟨#[]⟩ : ByteArray), .bool false] 134 ?_; intro gb194 hg w65 hbox hb; have BK194 := Aside0.mk (hbox); have GW194 := Kw_ HB hg; have GE194 := GW194; have NB192_194 := Kl_ BK192 hg; have NB194_192 := Kr_ BK192 hg; have NB193_194 := Kl_ BK193 hg; have NB194_193 := Kr_ BK193 hg; replace BK192 := Kb_ BK192 hb; replace BK193 := Kb_ BK193 hb; replace HB := Ks_ HB hb; clear hb hbox hg; have hnb66 := NB192_193.out; have hnc66 := NB193_192.out; have hnb67 := NB192_194.out; have hnc67 := NB194_192.out; obtain ⟨hcz68_0, hcz68_1, hfz68_0, hfz68_1⟩ := Ke2_ BK192.out) | ((with_reducible refine gate_callee (f := 75) rfl ?_); refine Kg_ (some 9) rfl rfl Try.func75 (by kernel_rfl) rfl #[.agg #[.string a0_0, .bool a0_1], .int .i64 1] rfl ?_; (with_reducible refine (pack_Reader_Number.calls a0_0 a0_1 1 t195 t196 t197 _ A2.out).mono ?_); rintro e w69 ⟨rfl, hb⟩; refine ⟨_, rfl, ?_⟩; replace BK192 := Kb_ BK192 hb; replace BK193 := Kb_ BK193 hb; replace BK194 := Kb_ BK194 hb; replace HB := Ks_ HB hb; (try clear hb); (try clear hb2); (try clear hk); (try clear hi); obtain ⟨hcz70_0, hcz70_1, hfz70_0, hfz70_1⟩ := Ke2_ BK192.out) | ((with_reducible refine gate_callee (f := 106) rfl ?_); refine Kg_ (some 14) rfl rfl Try.func106 (by kernel_rfl) rfl #[.agg #[.string t196, .bool t197]] rfl ?_; (with_reducible refine (vec_Get.calls k t196 t197 t198 t199 t200 t201 t202 false _ A3.out).mono ?_); rintro e w71 ⟨rfl, hb⟩; refine ⟨_, rfl, ?_⟩; replace BK192 := Aside0.mk (blk_below (g := gb192) (o := .cells #[.string t196, .bool t197] 134 (0, 0)) (by refine Kv_ ?_; refine blk_put (cs := #[.string t196, .bool a0_1]) ?_ 1 _ rfl; refine Kv_ ?_; refine blk_put (cs := #[.string a0_0, .bool a0_1]) ?_ 0 _ rfl; exact Kq_ BK192) hb); replace BK193 := Kf_ BK193 NB193_192 hb; replace BK194 := Kf_ BK194 NB194_192 hb; replace HB := Kt_ HB GE192 hb; (try clear hb); (try clear hb2); (try clear hk); (try clear hi)) | ((with_reducible refine gate_dst (N := 5) rfl ?_); refine Ka_ 5 #[.int .u64 0, .int .u64 0, .int .u64 0, .int .u64 0] 28 ?_; intro gb204 hg w72 hbox hb; have BK204 := Aside0.mk (hbox); have GW204 := Kw_ HB hg; have GE204 := GW204; have NB192_204 := Kl_ BK192 hg; have NB204_192 := Kr_ BK192 hg; have NB193_204 := Kl_ BK193 hg; have NB204_193 := Kr_ BK193 hg; have NB194_204 := Kl_ BK194 hg; have NB204_194 := Kr_ BK194 hg; replace BK192 := Kb_ BK192 hb; replace BK193 := Kb_ BK193 hb; replace BK194 := Kb_ BK194 hb; replace HB := Ks_ HB hb; clear hb hbox hg; have hnb73 := NB204_192.out; have hnc73 := NB192_204.out; have hnb74 := NB204_193.out; have hnc74 := NB193_204.out; have hnb75 := NB204_194.out; have hnc75 := NB194_204.out; obtain ⟨hcz76_0, hcz76_1, hcz76_2, hcz76_3, hfz76_0, hfz76_1, hfz76_2, hfz76_3⟩ := Ke4_ BK204.out; obtain ⟨hcz77_0, hcz77_1, hfz77_0, hfz77_1⟩ := Ke2_ BK192.out) | ((with_reducible refine gate_dst (N := 6) rfl ?_); refine Ka_ 6 #[.int .u64 0, .int .u64 0, .int .u64 0, .int .u64 0, .int .i64 0] 30 ?_; intro gb205 hg w78 hbox hb; have BK205 := Aside0.mk (hbox); have GW205 := Aside0.mk ((by rw [hg]; exact (below_size (K4a_ HB GE192 GE193 GE194 GE204)) : w.heap.size ≤ gb205)); have GE205 := GW205; have NB192_205 := Aside0.mk ((by rw [hg]; exact Nat.ne_of_lt (blk_lt (g := gb192) (o := .cells #[.string t202, .bool false] 134 (0, 0)) (by refine Kv_ ?_; refine blk_put (cs := #[.string t202, .bool t197]) ?_ 1 _ rfl; refine Kv_ ?_; refine blk_put (cs := #[.string t196, .bool t197]) ?_ 0 _ rfl; exact K1b_ BK192 NB192_204)) : gb192 ≠ gb205)); have NB205_192 := Aside0.mk ((by rw [hg]; exact Nat.ne_of_gt (blk_lt (g := gb192) (o := .cells #[.string t202, .bool false] 134 (0, 0)) (by refine Kv_ ?_; refine blk_put (cs := #[.string t202, .bool t197]) ?_ 1 _ rfl; refine Kv_ ?_; refine blk_put (cs := #[.string t196, .bool t197]) ?_ 0 _ rfl; exact K1b_ BK192 NB192_204)) : gb205 ≠ gb192)); have NB193_205 := Aside0.mk ((by rw [hg]; exact Nat.ne_of_lt (blk_lt (g := gb193) (o := .cells #[.int .u64 0, .int .u64 0, .int .u64 0, .int .u64 0, .int .i64 0] 30 (0, 0)) (K2b_ BK193 NB193_192 NB193_204)) : gb193 ≠ gb205)); have NB205_193 := Aside0.mk ((by rw [hg]; exact Nat.ne_of_gt (blk_lt (g := gb193) (o := .cells #[.int .u64 0, .int .u64 0, .int .u64 0, .int .u64 0, .int .i64 0] 30 (0, 0)) (K2b_ BK193 NB193_192 NB193_204)) : gb205 ≠ gb193)); have NB194_205 := Aside0.mk ((by rw [hg]; exact Nat.ne_of_lt (blk_lt (g := gb194) (o := .cells #[.string (⟨#[]⟩ : ByteArray), .bool false] 134 (0, 0)) (K2b_ BK194 NB194_192 NB194_204)) : gb194 ≠ gb205)); have NB205_194 := Aside0.mk ((by rw [hg]; exact Nat.ne_of_gt (blk_lt (g := gb194) (o := .cells #[.string (⟨#[]⟩ : ByteArray), .bool false] 134 (0, 0)) (K2b_ BK194 NB194_192 NB194_204)) : gb205 ≠ gb194)); have NB204_205 := Aside0.mk ((by rw [hg]; exact Nat.ne_of_lt (blk_lt (g := gb204) (o := .cells #[.int .u64 t198, .int .u64 t199, .int .u64 t200, .int .u64 t201] 28 (0, 0)) (by (repeat (first | (with_reducible first | refine blk_drewN ?_ _ | refine blk_drew ?_ | refine blk_alloc ?_ _) | refine blk_far ?_ NB204_192.out _)); refine blk_put (cs := #[.int .u64 t198, .int .u64 t199, .int .u64 t200, .int .u64 0]) ?_ 3 _ rfl; refine Kv_ ?_; refine blk_put (cs := #[.int .u64 t198, .int .u64 t199, .int .u64 0, .int .u64 0]) ?_ 2 _ rfl; refine Kv_ ?_; refine blk_put (cs := #[.int .u64 t198, .int .u64 0, .int .u64 0, .int .u64 0]) ?_ 1 _ rfl; refine Kv_ ?_; refine blk_put (cs := #[.int .u64 0, .int .u64 0, .int .u64 0, .int .u64 0]) ?_ 0 _ rfl; exact Kq_ BK204)) : gb204 ≠ gb205)); have NB205_204 := Aside0.mk ((by rw [hg]; exact Nat.ne_of_gt (blk_lt (g := gb204) (o := .cells #[.int .u64 t198, .int .u64 t199, .int .u64 t200, .int .u64 t201] 28 (0, 0)) (by (repeat (first | (with_reducible first | refine blk_drewN ?_ _ | refine blk_drew ?_ | refine blk_alloc ?_ _) | refine blk_far ?_ NB204_192.out _)); refine blk_put (cs := #[.int .u64 t198, .int .u64 t199, .int .u64 t200, .int .u64 0]) ?_ 3 _ rfl; refine Kv_ ?_; refine blk_put (cs := #[.int .u64 t198, .int .u64 t199, .int .u64 0, .int .u64 0]) ?_ 2 _ rfl; refine Kv_ ?_; refine blk_put (cs := #[.int .u64 t198, .int .u64 0, .int .u64 0, .int .u64 0]) ?_ 1 _ rfl; refine Kv_ ?_; refine blk_put (cs := #[.int .u64 0, .int .u64 0, .int .u64 0, .int .u64 0]) ?_ 0 _ rfl; exact Kq_ BK204)) : gb205 ≠ gb204)); replace BK192 := Aside0.mk (blk_below (g := gb192) (o := .cells #[.string t202, .bool false] 134 (0, 0)) (by refine Kv_ ?_; refine blk_put (cs := #[.string t202, .bool t197]) ?_ 1 _ rfl; refine Kv_ ?_; refine blk_put (cs := #[.string t196, .bool t197]) ?_ 0 _ rfl; exact K1b_ BK192 NB192_204) hb); replace BK193 := Aside0.mk (blk_below (g := gb193) (o := .cells #[.int .u64 0, .int .u64 0, .int .u64 0, .int .u64 0, .int .i64 0] 30 (0, 0)) (K2b_ BK193 NB193_192 NB193_204) hb); replace BK194 := Aside0.mk (blk_below (g := gb194) (o := .cells #[.string (⟨#[]⟩ : ByteArray), .bool false] 134 (0, 0)) (K2b_ BK194 NB194_192 NB194_204) hb); replace BK204 := Aside0.mk (blk_below (g := gb204) (o := .cells #[.int .u64 t198, .int .u64 t199, .int .u64 t200, .int .u64 t201] 28 (0, 0)) (by (repeat (first | (with_reducible first | refine blk_drewN ?_ _ | refine blk_drew ?_ | refine blk_alloc ?_ _) | refine blk_far ?_ NB204_192.out _)); refine blk_put (cs := #[.int .u64 t198, .int .u64 t199, .int .u64 t200, .int .u64 0]) ?_ 3 _ rfl; refine Kv_ ?_; refine blk_put (cs := #[.int .u64 t198, .int .u64 t199, .int .u64 0, .int .u64 0]) ?_ 2 _ rfl; refine Kv_ ?_; refine blk_put (cs := #[.int .u64 t198, .int .u64 0, .int .u64 0, .int .u64 0]) ?_ 1 _ rfl; refine Kv_ ?_; refine blk_put (cs := #[.int .u64 0, .int .u64 0, .int .u64 0, .int .u64 0]) ?_ 0 _ rfl; exact Kq_ BK204) hb); replace HB := Aside0.mk (below_step (K4a_ HB GE192 GE193 GE194 GE204) hb); clear hb hbox hg; have hnb79 := NB205_192.out; have hnc79 := NB192_205.out; have hnb80 := NB205_193.out; have hnc80 := NB193_205.out; have hnb81 := NB205_194.out; have hnc81 := NB194_205.out; have hnb82 := NB205_204.out; have hnc82 := NB204_205.out; obtain ⟨hcz83_0, hcz83_1, hcz83_2, hcz83_3, hcz83_4, hfz83_0, hfz83_1, hfz83_2, hfz83_3, hfz83_4⟩ := Ke5_ BK205.out; obtain ⟨hcz84_0, hcz84_1, hfz84_0, hfz84_1⟩ := Ke2_ BK192.out) | (go_at_call 69; (with_reducible refine (stamp_Right.calls t198 t199 t200 t201 (wrap64 (t195)) false _ A30.out).mono ?_); rintro e w85 ⟨rfl, hb⟩; replace BK192 := Kf_ BK192 NB192_205 hb; replace BK193 := Kf_ BK193 NB193_205 hb; replace BK194 := Kf_ BK194 NB194_205 hb; replace BK204 := Kf_ BK204 NB204_205 hb; replace BK205 := Aside0.mk (blk_below (g := gb205) (o := .cells #[.int .u64 t198, .int .u64 t199, .int .u64 t200, .int .u64 t201, .int .i64 (wrap64 (t195))] 30 (0, 0)) (by refine Kv_ ?_; refine blk_put (cs := #[.int .u64 t198, .int .u64 t199, .int .u64 t200, .int .u64 t201, .int .i64 0]) ?_ 4 _ rfl; refine Kv_ ?_; refine blk_put (cs := #[.int .u64 t198, .int .u64 t199, .int .u64 t200, .int .u64 0, .int .i64 0]) ?_ 3 _ rfl; refine Kv_ ?_; refine blk_put (cs := #[.int .u64 t198, .int .u64 t199, .int .u64 0, .int .u64 0, .int .i64 0]) ?_ 2 _ rfl; refine Kv_ ?_; refine blk_put (cs := #[.int .u64 t198, .int .u64 0, .int .u64 0, .int .u64 0, .int .i64 0]) ?_ 1 _ rfl; refine Kv_ ?_; refine blk_put (cs := #[.int .u64 0, .int .u64 0, .int .u64 0, .int .u64 0, .int .i64 0]) ?_ 0 _ rfl; exact Kq_ BK205) hb); replace HB := Kt_ HB GE205 hb; (try clear hb); (try clear hb2); (try clear hk); (try clear hi); have hnb86 := NB193_194.out; have hnc86 := NB194_193.out; obtain ⟨hcz87_0, hcz87_1, hcz87_2, hcz87_3, hcz87_4, hfz87_0, hfz87_1, hfz87_2, hfz87_3, hfz87_4⟩ := Ke5_ BK193.out; obtain ⟨hcz88_0, hcz88_1, hfz88_0, hfz88_1⟩ := Ke2_ BK194.out))
  refine bodyPost_ret (results_cc rfl _ _ gb193 gb194 30 134 #[.int .u64 0, .int .u64 0, .int .u64 0, .int .u64 0, .int .i64 0] #[.string (⟨#[]⟩ : ByteArray), .bool true] (0, 0) (0, 0) _ _ rfl (by (repeat (first | (with_reducible first | refine blk_drewN ?_ _ | refine blk_drew ?_ | refine blk_alloc ?_ _) | refine blk_far ?_ NB193_194.out _)); refine blk_put (cs := #[.int .u64 0, .int .u64 0, .int .u64 0, .int .u64 0, .int .i64 0]) ?_ 4 _ rfl; refine Kv_ ?_; refine blk_put (cs := #[.int .u64 0, .int .u64 0, .int .u64 0, .int .u64 0, .int .i64 0]) ?_ 3 _ rfl; refine Kv_ ?_; refine blk_put (cs := #[.int .u64 0, .int .u64 0, .int .u64 0, .int .u64 0, .int .i64 0]) ?_ 2 _ rfl; refine Kv_ ?_; refine blk_put (cs := #[.int .u64 0, .int .u64 0, .int .u64 0, .int .u64 0, .int .i64 0]) ?_ 1 _ rfl; refine Kv_ ?_; refine blk_put (cs := #[.int .u64 0, .int .u64 0, .int .u64 0, .int .u64 0, .int .i64 0]) ?_ 0 _ rfl; exact Kq_ BK193) Try.underlying30 rfl (by kernel_rfl) rfl (by refine Kv_ ?_; refine blk_put (cs := #[.string (⟨#[]⟩ : ByteArray), .bool false]) ?_ 1 _ rfl; refine Kv_ ?_; refine blk_put (cs := #[.string (⟨#[]⟩ : ByteArray), .bool false]) ?_ 0 _ rfl; exact K1b_ BK194 NB194_193) Try.underlying134 rfl (by kernel_rfl)) rfl ?_
  exact ⟨Kh_, by repeat (first | (with_reducible first | exact HB.out | apply below_alloc | apply pw_below_drewN | apply below_drew1 | refine below_set ?_ GE192.out | refine below_set ?_ GE193.out | refine below_set ?_ GE194.out | refine below_set ?_ GE204.out | refine below_set ?_ GE205.out) | exact HB.out)⟩
 subst c31
 have H1 : (some (t198, t199, t200, t201, wrap64 (t195), t202, false)) = some (r1, r2, r3, r4, r5, r6, r7) := by rw [if_pos rfl] at H; exact H
 clear H
 have H := H1
 clear H1
 simp only [Option.some.injEq, Prod.mk.injEq] at H
 obtain ⟨rfl, rfl, rfl, rfl, rfl, rfl, rfl⟩ := H
 go_enter Try.func99, Try.ntmps99
 try go_wp2_with (first | ((with_reducible refine gate_dst (N := 1) rfl ?_); refine Ka_ 1 #[.string a0_0, .bool a0_1] 134 ?_; intro gb192 hg w32 hbox hb; have BK192 := Aside0.mk (hbox); have GW192 := Kw_ HB hg; have GE192 := GW192; replace HB := Ks_ HB hb; clear hb hbox hg) | ((with_reducible refine gate_dst (N := 2) rfl ?_); refine Ka_ 2 #[.int .u64 0, .int .u64 0, .int .u64 0, .int .u64 0, .int .i64 0] 30 ?_; intro gb193 hg w33 hbox hb; have BK193 := Aside0.mk (hbox); have GW193 := Kw_ HB hg; have GE193 := GW193; have NB192_193 := Kl_ BK192 hg; have NB193_192 := Kr_ BK192 hg; replace BK192 := Kb_ BK192 hb; replace HB := Ks_ HB hb; clear hb hbox hg) | ((with_reducible refine gate_dst (N := 3) rfl ?_); refine Ka_ 3 #[.string (⟨#[]⟩ : ByteArray), .bool false] 134 ?_; intro gb194 hg w34 hbox hb; have BK194 := Aside0.mk (hbox); have GW194 := Kw_ HB hg; have GE194 := GW194; have NB192_194 := Kl_ BK192 hg; have NB194_192 := Kr_ BK192 hg; have NB193_194 := Kl_ BK193 hg; have NB194_193 := Kr_ BK193 hg; replace BK192 := Kb_ BK192 hb; replace BK193 := Kb_ BK193 hb; replace HB := Ks_ HB hb; clear hb hbox hg; have hnb35 := NB192_193.out; have hnc35 := NB193_192.out; have hnb36 := NB192_194.out; have hnc36 := NB194_192.out; obtain ⟨hcz37_0, hcz37_1, hfz37_0, hfz37_1⟩ := Ke2_ BK192.out) | ((with_reducible refine gate_callee (f := 75) rfl ?_); refine Kg_ (some 9) rfl rfl Try.func75 (by kernel_rfl) rfl #[.agg #[.string a0_0, .bool a0_1], .int .i64 1] rfl ?_; (with_reducible refine (pack_Reader_Number.calls a0_0 a0_1 1 t195 t196 t197 _ A2.out).mono ?_); rintro e w38 ⟨rfl, hb⟩; refine ⟨_, rfl, ?_⟩; replace BK192 := Kb_ BK192 hb; replace BK193 := Kb_ BK193 hb; replace BK194 := Kb_ BK194 hb; replace HB := Ks_ HB hb; (try clear hb); (try clear hb2); (try clear hk); (try clear hi); obtain ⟨hcz39_0, hcz39_1, hfz39_0, hfz39_1⟩ := Ke2_ BK192.out) | ((with_reducible refine gate_callee (f := 106) rfl ?_); refine Kg_ (some 14) rfl rfl Try.func106 (by kernel_rfl) rfl #[.agg #[.string t196, .bool t197]] rfl ?_; (with_reducible refine (vec_Get.calls k t196 t197 t198 t199 t200 t201 t202 false _ A3.out).mono ?_); rintro e w40 ⟨rfl, hb⟩; refine ⟨_, rfl, ?_⟩; replace BK192 := Aside0.mk (blk_below (g := gb192) (o := .cells #[.string t196, .bool t197] 134 (0, 0)) (by refine Kv_ ?_; refine blk_put (cs := #[.string t196, .bool a0_1]) ?_ 1 _ rfl; refine Kv_ ?_; refine blk_put (cs := #[.string a0_0, .bool a0_1]) ?_ 0 _ rfl; exact Kq_ BK192) hb); replace BK193 := Kf_ BK193 NB193_192 hb; replace BK194 := Kf_ BK194 NB194_192 hb; replace HB := Kt_ HB GE192 hb; (try clear hb); (try clear hb2); (try clear hk); (try clear hi)) | ((with_reducible refine gate_dst (N := 5) rfl ?_); refine Ka_ 5 #[.int .u64 0, .int .u64 0, .int .u64 0, .int .u64 0] 28 ?_; intro gb204 hg w41 hbox hb; have BK204 := Aside0.mk (hbox); have GW204 := Kw_ HB hg; have GE204 := GW204; have NB192_204 := Kl_ BK192 hg; have NB204_192 := Kr_ BK192 hg; have NB193_204 := Kl_ BK193 hg; have NB204_193 := Kr_ BK193 hg; have NB194_204 := Kl_ BK194 hg; have NB204_194 := Kr_ BK194 hg; replace BK192 := Kb_ BK192 hb; replace BK193 := Kb_ BK193 hb; replace BK194 := Kb_ BK194 hb; replace HB := Ks_ HB hb; clear hb hbox hg; have hnb42 := NB204_192.out; have hnc42 := NB192_204.out; have hnb43 := NB204_193.out; have hnc43 := NB193_204.out; have hnb44 := NB204_194.out; have hnc44 := NB194_204.out; obtain ⟨hcz45_0, hcz45_1, hcz45_2, hcz45_3, hfz45_0, hfz45_1, hfz45_2, hfz45_3⟩ := Ke4_ BK204.out; obtain ⟨hcz46_0, hcz46_1, hfz46_0, hfz46_1⟩ := Ke2_ BK192.out) | ((with_reducible refine gate_dst (N := 6) rfl ?_); refine Ka_ 6 #[.int .u64 0, .int .u64 0, .int .u64 0, .int .u64 0, .int .i64 0] 30 ?_; intro gb205 hg w47 hbox hb; have BK205 := Aside0.mk (hbox); have GW205 := Aside0.mk ((by rw [hg]; exact (below_size (K4a_ HB GE192 GE193 GE194 GE204)) : w.heap.size ≤ gb205)); have GE205 := GW205; have NB192_205 := Aside0.mk ((by rw [hg]; exact Nat.ne_of_lt (blk_lt (g := gb192) (o := .cells #[.string t202, .bool false] 134 (0, 0)) (by refine Kv_ ?_; refine blk_put (cs := #[.string t202, .bool t197]) ?_ 1 _ rfl; refine Kv_ ?_; refine blk_put (cs := #[.string t196, .bool t197]) ?_ 0 _ rfl; exact K1b_ BK192 NB192_204)) : gb192 ≠ gb205)); have NB205_192 := Aside0.mk ((by rw [hg]; exact Nat.ne_of_gt (blk_lt (g := gb192) (o := .cells #[.string t202, .bool false] 134 (0, 0)) (by refine Kv_ ?_; refine blk_put (cs := #[.string t202, .bool t197]) ?_ 1 _ rfl; refine Kv_ ?_; refine blk_put (cs := #[.string t196, .bool t197]) ?_ 0 _ rfl; exact K1b_ BK192 NB192_204)) : gb205 ≠ gb192)); have NB193_205 := Aside0.mk ((by rw [hg]; exact Nat.ne_of_lt (blk_lt (g := gb193) (o := .cells #[.int .u64 0, .int .u64 0, .int .u64 0, .int .u64 0, .int .i64 0] 30 (0, 0)) (K2b_ BK193 NB193_192 NB193_204)) : gb193 ≠ gb205)); have NB205_193 := Aside0.mk ((by rw [hg]; exact Nat.ne_of_gt (blk_lt (g := gb193) (o := .cells #[.int .u64 0, .int .u64 0, .int .u64 0, .int .u64 0, .int .i64 0] 30 (0, 0)) (K2b_ BK193 NB193_192 NB193_204)) : gb205 ≠ gb193)); have NB194_205 := Aside0.mk ((by rw [hg]; exact Nat.ne_of_lt (blk_lt (g := gb194) (o := .cells #[.string (⟨#[]⟩ : ByteArray), .bool false] 134 (0, 0)) (K2b_ BK194 NB194_192 NB194_204)) : gb194 ≠ gb205)); have NB205_194 := Aside0.mk ((by rw [hg]; exact Nat.ne_of_gt (blk_lt (g := gb194) (o := .cells #[.string (⟨#[]⟩ : ByteArray), .bool false] 134 (0, 0)) (K2b_ BK194 NB194_192 NB194_204)) : gb205 ≠ gb194)); have NB204_205 := Aside0.mk ((by rw [hg]; exact Nat.ne_of_lt (blk_lt (g := gb204) (o := .cells #[.int .u64 t198, .int .u64 t199, .int .u64 t200, .int .u64 t201] 28 (0, 0)) (by (repeat (first | (with_reducible first | refine blk_drewN ?_ _ | refine blk_drew ?_ | refine blk_alloc ?_ _) | refine blk_far ?_ NB204_192.out _)); refine blk_put (cs := #[.int .u64 t198, .int .u64 t199, .int .u64 t200, .int .u64 0]) ?_ 3 _ rfl; refine Kv_ ?_; refine blk_put (cs := #[.int .u64 t198, .int .u64 t199, .int .u64 0, .int .u64 0]) ?_ 2 _ rfl; refine Kv_ ?_; refine blk_put (cs := #[.int .u64 t198, .int .u64 0, .int .u64 0, .int .u64 0]) ?_ 1 _ rfl; refine Kv_ ?_; refine blk_put (cs := #[.int .u64 0, .int .u64 0, .int .u64 0, .int .u64 0]) ?_ 0 _ rfl; exact Kq_ BK204)) : gb204 ≠ gb205)); have NB205_204 := Aside0.mk ((by rw [hg]; exact Nat.ne_of_gt (blk_lt (g := gb204) (o := .cells #[.int .u64 t198, .int .u64 t199, .int .u64 t200, .int .u64 t201] 28 (0, 0)) (by (repeat (first | (with_reducible first | refine blk_drewN ?_ _ | refine blk_drew ?_ | refine blk_alloc ?_ _) | refine blk_far ?_ NB204_192.out _)); refine blk_put (cs := #[.int .u64 t198, .int .u64 t199, .int .u64 t200, .int .u64 0]) ?_ 3 _ rfl; refine Kv_ ?_; refine blk_put (cs := #[.int .u64 t198, .int .u64 t199, .int .u64 0, .int .u64 0]) ?_ 2 _ rfl; refine Kv_ ?_; refine blk_put (cs := #[.int .u64 t198, .int .u64 0, .int .u64 0, .int .u64 0]) ?_ 1 _ rfl; refine Kv_ ?_; refine blk_put (cs := #[.int .u64 0, .int .u64 0, .int .u64 0, .int .u64 0]) ?_ 0 _ rfl; exact Kq_ BK204)) : gb205 ≠ gb204)); replace BK192 := Aside0.mk (blk_below (g := gb192) (o := .cells #[.string t202, .bool false] 134 (0, 0)) (by refine Kv_ ?_; refine blk_put (cs := #[.string t202, .bool t197]) ?_ 1 _ rfl; refine Kv_ ?_; refine blk_put (cs := #[.string t196, .bool t197]) ?_ 0 _ rfl; exact K1b_ BK192 NB192_204) hb); replace BK193 := Aside0.mk (blk_below (g := gb193) (o := .cells #[.int .u64 0, .int .u64 0, .int .u64 0, .int .u64 0, .int .i64 0] 30 (0, 0)) (K2b_ BK193 NB193_192 NB193_204) hb); replace BK194 := Aside0.mk (blk_below (g := gb194) (o := .cells #[.string (⟨#[]⟩ : ByteArray), .bool false] 134 (0, 0)) (K2b_ BK194 NB194_192 NB194_204) hb); replace BK204 := Aside0.mk (blk_below (g := gb204) (o := .cells #[.int .u64 t198, .int .u64 t199, .int .u64 t200, .int .u64 t201] 28 (0, 0)) (by (repeat (first | (with_reducible first | refine blk_drewN ?_ _ | refine blk_drew ?_ | refine blk_alloc ?_ _) | refine blk_far ?_ NB204_192.out _)); refine blk_put (cs := #[.int .u64 t198, .int .u64 t199, .int .u64 t200, .int .u64 0]) ?_ 3 _ rfl; refine Kv_ ?_; refine blk_put (cs := #[.int .u64 t198, .int .u64 t199, .int .u64 0, .int .u64 0]) ?_ 2 _ rfl; refine Kv_ ?_; refine blk_put (cs := #[.int .u64 t198, .int .u64 0, .int .u64 0, .int .u64 0]) ?_ 1 _ rfl; refine Kv_ ?_; refine blk_put (cs := #[.int .u64 0, .int .u64 0, .int .u64 0, .int .u64 0]) ?_ 0 _ rfl; exact Kq_ BK204) hb); replace HB := Aside0.mk (below_step (K4a_ HB GE192 GE193 GE194 GE204) hb); clear hb hbox hg; have hnb48 := NB205_192.out; have hnc48 := NB192_205.out; have hnb49 := NB205_193.out; have hnc49 := NB193_205.out; have hnb50 := NB205_194.out; have hnc50 := NB194_205.out; have hnb51 := NB205_204.out; have hnc51 := NB204_205.out; obtain ⟨hcz52_0, hcz52_1, hcz52_2, hcz52_3, hcz52_4, hfz52_0, hfz52_1, hfz52_2, hfz52_3, hfz52_4⟩ := Ke5_ BK205.out; obtain ⟨hcz53_0, hcz53_1, hfz53_0, hfz53_1⟩ := Ke2_ BK192.out) | (go_at_call 69; (with_reducible refine (stamp_Right.calls t198 t199 t200 t201 (wrap64 (t195)) true _ A30.out).mono ?_); rintro e w54 ⟨rfl, hb⟩; replace BK192 := Kf_ BK192 NB192_205 hb; replace BK193 := Kf_ BK193 NB193_205 hb; replace BK194 := Kf_ BK194 NB194_205 hb; replace BK204 := Kf_ BK204 NB204_205 hb; replace BK205 := Aside0.mk (blk_below (g := gb205) (o := .cells #[.int .u64 t198, .int .u64 t199, .int .u64 t200, .int .u64 t201, .int .i64 (wrap64 (t195))] 30 (0, 0)) (by refine Kv_ ?_; refine blk_put (cs := #[.int .u64 t198, .int .u64 t199, .int .u64 t200, .int .u64 t201, .int .i64 0]) ?_ 4 _ rfl; refine Kv_ ?_; refine blk_put (cs := #[.int .u64 t198, .int .u64 t199, .int .u64 t200, .int .u64 0, .int .i64 0]) ?_ 3 _ rfl; refine Kv_ ?_; refine blk_put (cs := #[.int .u64 t198, .int .u64 t199, .int .u64 0, .int .u64 0, .int .i64 0]) ?_ 2 _ rfl; refine Kv_ ?_; refine blk_put (cs := #[.int .u64 t198, .int .u64 0, .int .u64 0, .int .u64 0, .int .i64 0]) ?_ 1 _ rfl; refine Kv_ ?_; refine blk_put (cs := #[.int .u64 0, .int .u64 0, .int .u64 0, .int .u64 0, .int .i64 0]) ?_ 0 _ rfl; exact Kq_ BK205) hb); replace HB := Kt_ HB GE205 hb; (try clear hb); (try clear hb2); (try clear hk); (try clear hi)))
 replace BK192 := Kd_ BK192
 replace BK193 := Kd_ BK193
 replace BK194 := Kd_ BK194
 replace BK204 := Kd_ BK204
 replace BK205 := Kd_ BK205
 replace HB := Aside0.mk (below_drew1 HB.out)
 refine start_ (n := 4) (S := fun w' => w'.cell? ⟨gb205, 0, none⟩ = some (.int .u64 t198) ∧ w'.cell? ⟨gb205, 1, none⟩ = some (.int .u64 t199) ∧ w'.cell? ⟨gb205, 2, none⟩ = some (.int .u64 t200) ∧ w'.cell? ⟨gb205, 3, none⟩ = some (.int .u64 t201) ∧ w'.cell? ⟨gb205, 4, none⟩ = some (.int .i64 (wrap64 (t195))) ∧ w'.cell? ⟨gb192, 0, none⟩ = some (.string t202) ∧ w'.cell? ⟨gb192, 1, none⟩ = some (.bool false)) (ds := []) (mB_ 4 0) (by kernel_rfl) rfl rfl ⟨Km_ BK205 0, Km_ BK205 1, Km_ BK205 2, Km_ BK205 3, Km_ BK205 4, Km_ BK192 0, Km_ BK192 1⟩ (fun hHeld => ?_)
 generalize w54.drew = w55 at BK192 BK193 BK194 BK204 BK205 HB hHeld ⊢
 refine Ko_ 0 28 (mB_ 4 1) (by kernel_rfl) hHeld ?_
 refine Ko_ 1 29 (mB_ 4 3) (by kernel_rfl) hHeld ?_
 refine one_ (i := 2) (N := none) (mB_ 4 7) rfl rfl (by kernel_rfl) (by decide) (fun K hK => ?_)
 have hs56 : w55.cell? ⟨gb193, 0, none⟩ = some (.int .u64 0) := (blk_cell BK193.out 0).trans rfl
 have hfs56 := blk_frozen BK193.out 0
 have hns56_0 := NB192_193.out
 have hns56_2 := NB194_193.out
 have hns56_3 := NB204_193.out
 have hns56_4 := NB205_193.out
 have hms56_0 := NB193_192.out
 have hms56_2 := NB193_194.out
 have hms56_3 := NB193_204.out
 have hms56_4 := NB193_205.out
 have hs57 : w55.cell? ⟨gb193, 1, none⟩ = some (.int .u64 0) := (blk_cell BK193.out 1).trans rfl
 have hfs57 := blk_frozen BK193.out 1
 have hns57_0 := NB192_193.out
 have hns57_2 := NB194_193.out
 have hns57_3 := NB204_193.out
 have hns57_4 := NB205_193.out
 have hms57_0 := NB193_192.out
 have hms57_2 := NB193_194.out
 have hms57_3 := NB193_204.out
 have hms57_4 := NB193_205.out
 have hs58 : w55.cell? ⟨gb193, 2, none⟩ = some (.int .u64 0) := (blk_cell BK193.out 2).trans rfl
 have hfs58 := blk_frozen BK193.out 2
 have hns58_0 := NB192_193.out
 have hns58_2 := NB194_193.out
 have hns58_3 := NB204_193.out
 have hns58_4 := NB205_193.out
 have hms58_0 := NB193_192.out
 have hms58_2 := NB193_194.out
 have hms58_3 := NB193_204.out
 have hms58_4 := NB193_205.out
 have hs59 : w55.cell? ⟨gb193, 3, none⟩ = some (.int .u64 0) := (blk_cell BK193.out 3).trans rfl
 have hfs59 := blk_frozen BK193.out 3
 have hns59_0 := NB192_193.out
 have hns59_2 := NB194_193.out
 have hns59_3 := NB204_193.out
 have hns59_4 := NB205_193.out
 have hms59_0 := NB193_192.out
 have hms59_2 := NB193_194.out
 have hms59_3 := NB193_204.out
 have hms59_4 := NB193_205.out
 have hs60 : w55.cell? ⟨gb193, 4, none⟩ = some (.int .i64 0) := (blk_cell BK193.out 4).trans rfl
 have hfs60 := blk_frozen BK193.out 4
 have hns60_0 := NB192_193.out
 have hns60_2 := NB194_193.out
 have hns60_3 := NB204_193.out
 have hns60_4 := NB205_193.out
 have hms60_0 := NB193_192.out
 have hms60_2 := NB193_194.out
 have hms60_3 := NB193_204.out
 have hms60_4 := NB193_205.out
 refine skip_ (w1 := ?_) (by rfl) rfl ?_ ?_
 rotate_left
 ·go_simp
  rfl
 refine hK.out _ _ ⟨(Kj_ NB205_193 ((Kj_ NB205_193 ((Kj_ NB205_193 ((Kj_ NB205_193 ((Kj_ NB205_193 (hHeld.1)))))))))), (Kj_ NB205_193 ((Kj_ NB205_193 ((Kj_ NB205_193 ((Kj_ NB205_193 ((Kj_ NB205_193 (hHeld.2.1)))))))))), (Kj_ NB205_193 ((Kj_ NB205_193 ((Kj_ NB205_193 ((Kj_ NB205_193 ((Kj_ NB205_193 (hHeld.2.2.1)))))))))), (Kj_ NB205_193 ((Kj_ NB205_193 ((Kj_ NB205_193 ((Kj_ NB205_193 ((Kj_ NB205_193 (hHeld.2.2.2.1)))))))))), (Kj_ NB205_193 ((Kj_ NB205_193 ((Kj_ NB205_193 ((Kj_ NB205_193 ((Kj_ NB205_193 (hHeld.2.2.2.2.1)))))))))), (Kj_ NB192_193 ((Kj_ NB192_193 ((Kj_ NB192_193 ((Kj_ NB192_193 ((Kj_ NB192_193 (hHeld.2.2.2.2.2.1)))))))))), (Kj_ NB192_193 ((Kj_ NB192_193 ((Kj_ NB192_193 ((Kj_ NB192_193 ((Kj_ NB192_193 (hHeld.2.2.2.2.2.2))))))))))⟩ (fun hHeld => ?_)
 clear hK K
 refine one_ (i := 3) (N := none) (mB_ 4 15) rfl rfl (by kernel_rfl) (by decide) (fun K hK => ?_)
 have hs61 : w55.cell? ⟨gb194, 0, none⟩ = some (.string (⟨#[]⟩ : ByteArray)) := (blk_cell BK194.out 0).trans rfl
 have hfs61 := blk_frozen BK194.out 0
 have hns61_0 := NB192_194.out
 have hns61_1 := NB193_194.out
 have hns61_3 := NB204_194.out
 have hns61_4 := NB205_194.out
 have hms61_0 := NB194_192.out
 have hms61_1 := NB194_193.out
 have hms61_3 := NB194_204.out
 have hms61_4 := NB194_205.out
 have hs62 : w55.cell? ⟨gb194, 1, none⟩ = some (.bool false) := (blk_cell BK194.out 1).trans rfl
 have hfs62 := blk_frozen BK194.out 1
 have hns62_0 := NB192_194.out
 have hns62_1 := NB193_194.out
 have hns62_3 := NB204_194.out
 have hns62_4 := NB205_194.out
 have hms62_0 := NB194_192.out
 have hms62_1 := NB194_193.out
 have hms62_3 := NB194_204.out
 have hms62_4 := NB194_205.out
 refine skip_ (w1 := ?_) (by rfl) rfl ?_ ?_
 rotate_left
 ·go_simp
  rfl
 refine hK.out _ _ ⟨(Kj_ NB205_194 ((Kj_ NB205_194 (hHeld.1)))), (Kj_ NB205_194 ((Kj_ NB205_194 (hHeld.2.1)))), (Kj_ NB205_194 ((Kj_ NB205_194 (hHeld.2.2.1)))), (Kj_ NB205_194 ((Kj_ NB205_194 (hHeld.2.2.2.1)))), (Kj_ NB205_194 ((Kj_ NB205_194 (hHeld.2.2.2.2.1)))), (Kj_ NB192_194 ((Kj_ NB192_194 (hHeld.2.2.2.2.2.1)))), (Kj_ NB192_194 ((Kj_ NB192_194 (hHeld.2.2.2.2.2.2))))⟩ (fun hHeld => ?_)
 clear hK K
 refine done_ (by kernel_rfl) ?_
 try go_wp2
 refine bodyPost_ret (results_cc rfl _ _ gb193 gb194 30 134 #[.int .u64 t198, .int .u64 t199, .int .u64 t200, .int .u64 t201, .int .i64 (wrap64 (t195))] #[.string t202, .bool false] (0, 0) (0, 0) _ _ rfl (by (repeat (first | (with_reducible first | refine blk_drewN ?_ _ | refine blk_drew ?_ | refine blk_alloc ?_ _) | refine blk_far ?_ NB193_194.out _)); refine blk_put (cs := #[.int .u64 t198, .int .u64 t199, .int .u64 t200, .int .u64 t201, .int .i64 0]) ?_ 4 _ rfl; refine Kv_ ?_; refine blk_put (cs := #[.int .u64 t198, .int .u64 t199, .int .u64 t200, .int .u64 0, .int .i64 0]) ?_ 3 _ rfl; refine Kv_ ?_; refine blk_put (cs := #[.int .u64 t198, .int .u64 t199, .int .u64 0, .int .u64 0, .int .i64 0]) ?_ 2 _ rfl; refine Kv_ ?_; refine blk_put (cs := #[.int .u64 t198, .int .u64 0, .int .u64 0, .int .u64 0, .int .i64 0]) ?_ 1 _ rfl; refine Kv_ ?_; refine blk_put (cs := #[.int .u64 0, .int .u64 0, .int .u64 0, .int .u64 0, .int .i64 0]) ?_ 0 _ rfl; exact Kq_ BK193) Try.underlying30 rfl (by kernel_rfl) rfl (by refine Kv_ ?_; refine blk_put (cs := #[.string t202, .bool false]) ?_ 1 _ rfl; refine Kv_ ?_; refine blk_put (cs := #[.string (⟨#[]⟩ : ByteArray), .bool false]) ?_ 0 _ rfl; exact K1b_ BK194 NB194_193) Try.underlying134 rfl (by kernel_rfl)) rfl ?_
 exact ⟨Kh_, by repeat (first | (with_reducible first | exact HB.out | apply below_alloc | apply pw_below_drewN | apply below_drew1 | refine below_set ?_ GE192.out | refine below_set ?_ GE193.out | refine below_set ?_ GE194.out | refine below_set ?_ GE204.out | refine below_set ?_ GE205.out) | exact HB.out)⟩
end Go.Proofs.Ytoagfdpgnfinhaa.Q
