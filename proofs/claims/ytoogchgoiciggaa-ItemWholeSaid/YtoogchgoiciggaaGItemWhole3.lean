import Derived.Test.YtoogchgoiciggaaGItemWhole2
namespace Go.Proofs.Ytoogchgoiciggaa.Q
open Go.RowKit Go.Proofs.YtoogchgoiciggaaW.PrintWords Go.Proofs.YtoogchgoiciggaaW.PrintLast Go.Proofs.YtoogchgoiciggaaW.PrintMore
attribute [local go_sem] max2_int min2_int max_two min_two max_three min_three max_four min_four   -- for this text's walks alone
set_option linter.unusedVariables false
set_option linter.unusedSimpArgs false
def stamp_Put.f (k : Nat) (a0_0 : Int) (a0_1 : Int) (a0_2 : Int) (a0_3 : Int) (a0_4 : Int) : Option (ByteArray × Bool) := (stamp_Right.f a0_0 a0_1 a0_2 a0_3 a0_4).bind fun t124 => (if t124 = true then ((pack_Number.f (IntKind.u64.wrap (a0_4)) 1).bind fun t125 => ((vec_Put.f k a0_0 a0_1 a0_2 a0_3).bind fun t126 => (if t125.size + t126.size ≤ 9223372036854775807 then (some (t125 ++ t126, true)) else (none)))) else (some ((⟨#[]⟩ : ByteArray), false)))
theorem stamp_Put.mono : ∀ a0 a1 a2 a3 a4 k, LeO (stamp_Put.f k a0 a1 a2 a3 a4) (stamp_Put.f (k + 1) a0 a1 a2 a3 a4) := by
 intro a0 a1 a2 a3 a4 k
 unfold stamp_Put.f
 repeat' first
   | (with_reducible exact vec_Put.mono _ _ _ _ _)
   | (with_reducible exact LeO.refl _)
   | (with_reducible exact LeO.none _)
   | (with_reducible refine LeO.ite ?_ ?_)
   | (with_reducible refine LeO.bind ?_ (fun _ => ?_))
   | exact vec_Put.mono _ _ _ _ _
   | exact LeO.none _
   | refine LeO.ite ?_ ?_
   | refine LeO.bind ?_ (fun _ => ?_)
def stamp_Put.T3 : Bool × List (List Nat × List Nat) := (true, [([], []), ([0], [0]), ([1], [1]), ([2], [2]), ([], []), ([4], [4]), ([5, 3], [5]), ([3, 6], [3, 6]), ([7, 6, 0, 1, 2, 3, 4, 5, 6, 7], [7]), ([8, 0, 1, 2, 3, 4, 5, 6, 7, 8], [])])
def stamp_Put.B3 : List Nat := [0, 1, 3, 7, 0, 16, 63, 127, 255, 511]
theorem stamp_Put.tab3 : rtab .any (opsOf Try.f35 3) = stamp_Put.T3 := by kernel_rfl
theorem stamp_Put.bits3 : waitsOk stamp_Put.T3.2 stamp_Put.B3 = true := by kernel_rfl
set_option maxHeartbeats 8000000 in
set_option maxRecDepth 100000 in
theorem stamp_Put.calls (k : Nat) (a0_0 : Int) (a0_1 : Int) (a0_2 : Int) (a0_3 : Int) (a0_4 : Int) (r1 : ByteArray) (r2 : Bool) (w : World) (h : stamp_Put.f k a0_0 a0_1 a0_2 a0_3 a0_4 = some (r1, r2)) :
  Calls Try.prog 35 #[.agg #[.int .u64 a0_0, .int .u64 a0_1, .int .u64 a0_2, .int .u64 a0_3, .int .i64 a0_4]] w fun e w' => e = .returned (.tuple #[.string r1, .bool r2]) ∧ Below w.heap.size w w' := by
 have hu30 := Try.underlying30
 have hu28 := Try.underlying28
 have HB := Aside0.mk (Below.refl w.heap.size w)
 have H : ((stamp_Right.f a0_0 a0_1 a0_2 a0_3 a0_4).bind fun t124 => (if t124 = true then ((pack_Number.f (IntKind.u64.wrap (a0_4)) 1).bind fun t125 => ((vec_Put.f k a0_0 a0_1 a0_2 a0_3).bind fun t126 => (if t125.size + t126.size ≤ 9223372036854775807 then (some (t125 ++ t126, true)) else (none)))) else (some ((⟨#[]⟩ : ByteArray), false)))) = some (r1, r2) := h
 (try (have Hs_ := H; simp only [ByteArray.size_append, Int.natCast_add] at Hs_))
 clear h
 replace H := Option.bind_eq_some_iff.mp H
 obtain ⟨t124, A20, H⟩ := H
 replace H : (if t124 = true then ((pack_Number.f (IntKind.u64.wrap (a0_4)) 1).bind fun t125 => ((vec_Put.f k a0_0 a0_1 a0_2 a0_3).bind fun t126 => (if t125.size + t126.size ≤ 9223372036854775807 then (some (t125 ++ t126, true)) else (none)))) else (some ((⟨#[]⟩ : ByteArray), false))) = some (r1, r2) := H
 have A2 := Aside0.mk A20
 clear A20
 by_cases c3 : t124 = true
 rotate_left
 ·replace c3 := Bool.eq_false_iff.mpr c3
  subst c3
  have H1 : (some ((⟨#[]⟩ : ByteArray), false)) = some (r1, r2) := by rw [if_neg (show ¬ (false = true) by decide)] at H; exact H
  clear H
  have H := H1
  clear H1
  simp only [Option.some.injEq, Prod.mk.injEq] at H
  obtain ⟨rfl, rfl⟩ := H
  go_enter Try.func35, Try.ntmps35
  go_wp2_with (first | ((with_reducible refine gate_dst (N := 1) rfl ?_); refine Ka_ 1 #[.int .u64 a0_0, .int .u64 a0_1, .int .u64 a0_2, .int .u64 a0_3, .int .i64 a0_4] 30 ?_; intro gb123 hg w13 hbox hb; have BK123 := Aside0.mk (hbox); have GW123 := Kw_ HB hg; have GE123 := GW123; replace HB := Ks_ HB hb; clear hb hbox hg; obtain ⟨hcz14_0, hcz14_1, hcz14_2, hcz14_3, hcz14_4, hfz14_0, hfz14_1, hfz14_2, hfz14_3, hfz14_4⟩ := Ke5_ BK123.out) | ((with_reducible refine gate_callee (f := 44) rfl ?_); refine Kg_ (some 5) rfl rfl Try.func44 (by kernel_rfl) rfl #[.agg #[.int .u64 a0_0, .int .u64 a0_1, .int .u64 a0_2, .int .u64 a0_3, .int .i64 a0_4]] rfl ?_; (with_reducible refine (stamp_Right.calls a0_0 a0_1 a0_2 a0_3 a0_4 false _ A2.out).mono ?_); rintro e w15 ⟨rfl, hb⟩; refine ⟨_, rfl, ?_⟩; replace BK123 := Kb_ BK123 hb; replace HB := Ks_ HB hb; (try clear hb); (try clear hb2); (try clear hk); (try clear hi)))
  go_ret2
  exact ⟨Kh_, Kz_ HB GE123⟩
 subst c3
 have H1 : ((pack_Number.f (IntKind.u64.wrap (a0_4)) 1).bind fun t125 => ((vec_Put.f k a0_0 a0_1 a0_2 a0_3).bind fun t126 => (if t125.size + t126.size ≤ 9223372036854775807 then (some (t125 ++ t126, true)) else (none)))) = some (r1, r2) := by rw [if_pos rfl] at H; exact H
 clear H
 have H := H1
 clear H1
 replace H := Option.bind_eq_some_iff.mp H
 obtain ⟨t125, A40, H⟩ := H
 replace H : ((vec_Put.f k a0_0 a0_1 a0_2 a0_3).bind fun t126 => (if t125.size + t126.size ≤ 9223372036854775807 then (some (t125 ++ t126, true)) else (none))) = some (r1, r2) := H
 have A4 := Aside0.mk A40
 clear A40
 replace H := Option.bind_eq_some_iff.mp H
 obtain ⟨t126, A50, H⟩ := H
 replace H : (if t125.size + t126.size ≤ 9223372036854775807 then (some (t125 ++ t126, true)) else (none)) = some (r1, r2) := H
 have A5 := Aside0.mk A50
 clear A50
 by_cases c6 : t125.size + t126.size ≤ 9223372036854775807
 rotate_left
 ·rw [if_neg c6] at H
  exact absurd H (by simp)
 rw [if_pos c6] at H
 have c6b0 := eq_true c6
 have c6b1 : decide (t125.size + t126.size ≤ 9223372036854775807) = true := decide_eq_true c6
 try have c6b2 : (9223372036854775807 < t125.size + t126.size) = False := eq_false (Nat.not_lt.2 c6)
 simp only [Option.some.injEq, Prod.mk.injEq] at H
 obtain ⟨rfl, rfl⟩ := H
 go_enter Try.func35, Try.ntmps35
 try go_wp2_with (first | ((with_reducible refine gate_dst (N := 1) rfl ?_); refine Ka_ 1 #[.int .u64 a0_0, .int .u64 a0_1, .int .u64 a0_2, .int .u64 a0_3, .int .i64 a0_4] 30 ?_; intro gb123 hg w7 hbox hb; have BK123 := Aside0.mk (hbox); have GW123 := Kw_ HB hg; have GE123 := GW123; replace HB := Ks_ HB hb; clear hb hbox hg; obtain ⟨hcz8_0, hcz8_1, hcz8_2, hcz8_3, hcz8_4, hfz8_0, hfz8_1, hfz8_2, hfz8_3, hfz8_4⟩ := Ke5_ BK123.out) | ((with_reducible refine gate_callee (f := 44) rfl ?_); refine Kg_ (some 5) rfl rfl Try.func44 (by kernel_rfl) rfl #[.agg #[.int .u64 a0_0, .int .u64 a0_1, .int .u64 a0_2, .int .u64 a0_3, .int .i64 a0_4]] rfl ?_; (with_reducible refine (stamp_Right.calls a0_0 a0_1 a0_2 a0_3 a0_4 true _ A2.out).mono ?_); rintro e w9 ⟨rfl, hb⟩; refine ⟨_, rfl, ?_⟩; replace BK123 := Kb_ BK123 hb; replace HB := Ks_ HB hb; (try clear hb); (try clear hb2); (try clear hk); (try clear hi)))
 replace BK123 := Kd_ BK123
 replace HB := Aside0.mk (below_drew1 HB.out)
 refine start_ (n := 10) (S := fun w' => w'.cell? ⟨gb123, 0, none⟩ = some (.int .u64 a0_0) ∧ w'.cell? ⟨gb123, 1, none⟩ = some (.int .u64 a0_1) ∧ w'.cell? ⟨gb123, 2, none⟩ = some (.int .u64 a0_2) ∧ w'.cell? ⟨gb123, 3, none⟩ = some (.int .u64 a0_3) ∧ w'.cell? ⟨gb123, 4, none⟩ = some (.int .i64 a0_4)) (ds := []) (mB_ 10 0) (by kernel_rfl) rfl rfl (Kc5_ BK123.out) (fun hHeld => ?_); refine with_tabW stamp_Put.tab3 stamp_Put.bits3 (fun HT_ HW_ => ?_)
 generalize w9.drew = w10 at BK123 HB hHeld ⊢
 refine Kp_ 0 7 (mB_ 10 1) (any_of HT_.out (by kernel_rfl)) ?_
 refine Kp_ 4 11 (mB_ 10 17) (any_of HT_.out (by kernel_rfl)) ?_
 refine Ko_ 1 8 (mB_ 10 19) (take_ofW HT_.out HW_.out (by kernel_rfl)) hHeld ?_
 refine Kp_ 2 9 (mB_ 10 23) (any_of HT_.out (by kernel_rfl)) ?_
 refine Ko_ 5 12 (mB_ 10 55) (take_ofW HT_.out HW_.out (by kernel_rfl)) hHeld ?_
 refine one_ (i := 3) (N := some 10) (mB_ 10 63) rfl rfl (one_of HT_.out (by kernel_rfl)) (by decide) (fun K hK => ?_)
 refine goes_ Try.func36 (by kernel_rfl) rfl #[.int .u64 (IntKind.u64.wrap (a0_4)), .int .i64 1] (by rfl) rfl rfl (by (try simp only [List.map_toArray, List.map_cons, List.map_nil]); first | done | rfl | (simp only [List.length_drop, List.length_take]; rfl)) ?_
 with_reducible refine (pack_Number.calls (IntKind.u64.wrap (a0_4)) 1 t125 _ A4.out).mono ?_
 rintro e w11 ⟨rfl, hb⟩
 refine ⟨_, rfl, ?_⟩
 replace BK123 := Kb_ BK123 hb
 replace HB := Ks_ HB hb
 (try clear hb)
 (try clear hb2)
 (try clear hk)
 (try clear hi)
 refine hK.out _ _ (Kc5_ BK123.out) (fun hHeld => ?_)
 clear hK K
 refine Kn_ 10 ?_
 refine one_ (i := 6) (N := some 13) (mB_ 10 127) rfl rfl (one_of HT_.out (by kernel_rfl)) (by decide) (fun K hK => ?_)
 refine goes_ Try.func59 (by kernel_rfl) rfl #[.agg #[.int .u64 a0_0, .int .u64 a0_1, .int .u64 a0_2, .int .u64 a0_3]] (by rfl) rfl rfl (by (try simp only [List.map_toArray, List.map_cons, List.map_nil]); first | done | rfl | (simp only [List.length_drop, List.length_take]; rfl)) ?_
 with_reducible refine (vec_Put.calls k a0_0 a0_1 a0_2 a0_3 t126 _ A5.out).mono ?_
 rintro e w12 ⟨rfl, hb⟩
 refine ⟨_, rfl, ?_⟩
 replace BK123 := Kb_ BK123 hb
 replace HB := Ks_ HB hb
 (try clear hb)
 (try clear hb2)
 (try clear hk)
 (try clear hi)
 refine hK.out _ _ (Kc5_ BK123.out) (fun hHeld => ?_)
 clear hK K
 refine Kn_ 13 ?_
 refine Kp_ 7 14 (mB_ 10 255) (any_of HT_.out (by kernel_rfl)) ?_
 refine Kp_ 8 2 (mB_ 10 511) (any_of HT_.out (by kernel_rfl)) ?_
 refine Kp_ 9 3 (mB_ 10 1023) (any_of HT_.out (by kernel_rfl)) ?_
 refine done_ (done_of HT_.out (by kernel_rfl)) ?_
 try go_wp2
 go_ret2
 exact ⟨Kh_, Kz_ HB GE123⟩
def pack_Text.f (k : Nat) (a0 : ByteArray) : Option (ByteArray) := if a0.size ≤ 9223372036854775807 then ((pack_Vary.f k (a0.size : Int)).bind fun t127 => (if t127.size + a0.size ≤ 9223372036854775807 then (some (t127 ++ a0)) else (none))) else (none)
theorem pack_Text.mono : ∀ a0 k, LeO (pack_Text.f k a0) (pack_Text.f (k + 1) a0) := by
 intro a0 k
 unfold pack_Text.f
 repeat' first
   | (with_reducible exact pack_Vary.mono _ _)
   | (with_reducible exact LeO.refl _)
   | (with_reducible exact LeO.none _)
   | (with_reducible refine LeO.ite ?_ ?_)
   | (with_reducible refine LeO.bind ?_ (fun _ => ?_))
   | exact pack_Vary.mono _ _
   | exact LeO.none _
   | refine LeO.ite ?_ ?_
   | refine LeO.bind ?_ (fun _ => ?_)
set_option maxHeartbeats 8000000 in
set_option maxRecDepth 100000 in
theorem pack_Text.calls (k : Nat) (a0 : ByteArray) (r : ByteArray) (w : World) (h : pack_Text.f k a0 = some r) :
  Calls Try.prog 37 #[.string a0] w fun e w' => e = .returned (.string r) ∧ Below w.heap.size w w' := by
 have HB := Aside0.mk (Below.refl w.heap.size w)
 have H : (if a0.size ≤ 9223372036854775807 then ((pack_Vary.f k (a0.size : Int)).bind fun t127 => (if t127.size + a0.size ≤ 9223372036854775807 then (some (t127 ++ a0)) else (none))) else (none)) = some r := h
 (try (have Hs_ := H; simp only [ByteArray.size_append, Int.natCast_add] at Hs_))
 clear h
 by_cases c2 : a0.size ≤ 9223372036854775807
 rotate_left
 ·rw [if_neg c2] at H
  exact absurd H (by simp)
 rw [if_pos c2] at H
 have c2b0 := eq_true c2
 have c2b1 : decide (a0.size ≤ 9223372036854775807) = true := decide_eq_true c2
 try have c2b2 : (9223372036854775807 < a0.size) = False := eq_false (Nat.not_lt.2 c2)
 replace H := Option.bind_eq_some_iff.mp H
 obtain ⟨t127, A30, H⟩ := H
 replace H : (if t127.size + a0.size ≤ 9223372036854775807 then (some (t127 ++ a0)) else (none)) = some r := H
 have A3 := Aside0.mk A30
 clear A30
 by_cases c4 : t127.size + a0.size ≤ 9223372036854775807
 rotate_left
 ·rw [if_neg c4] at H
  exact absurd H (by simp)
 rw [if_pos c4] at H
 have c4b0 := eq_true c4
 have c4b1 : decide (t127.size + a0.size ≤ 9223372036854775807) = true := decide_eq_true c4
 try have c4b2 : (9223372036854775807 < t127.size + a0.size) = False := eq_false (Nat.not_lt.2 c4)
 obtain rfl := Option.some.inj H
 go_enter Try.func37, Try.ntmps37
 go_wp2_with (first | ((with_reducible refine gate_callee (f := 60) rfl ?_); refine Kg_ (some 6) rfl rfl Try.func60 (by kernel_rfl) rfl #[.int .u64 (a0.size : Int)] rfl ?_; (with_reducible refine (pack_Vary.calls k (a0.size : Int) t127 _ A3.out).mono ?_); rintro e w5 ⟨rfl, hb⟩; refine ⟨_, rfl, ?_⟩; replace HB := Ks_ HB hb; (try clear hb); (try clear hb2); (try clear hk); (try clear hi)))
 go_ret
 exact ⟨Kh_, Ky_ HB⟩
def item_Bytes.l0 : Nat → ByteArray → List (S23) → Int → Int → Option (ByteArray × Bool)
 | 0, _, _, _, _ => none
 | k + 1, x4, x25, x26, x27 => if x27 < x26 then (if 0 ≤ x27 then (if x27 < (x25.length : Int) then ((pack_Text.f k ((rd_T23 x25 x27).f0)).bind fun t135 => ((pack_Text.f k ((rd_T23 x25 x27).f1)).bind fun t136 => (if t135.size + t136.size ≤ 9223372036854775807 then (if x4.size + (t135 ++ t136).size ≤ 9223372036854775807 then (if (rd_T23 x25 x27).f3 = true then ((pack_Number.f 1 1).bind fun t137 => (if (x4 ++ (t135 ++ t136)).size + t137.size ≤ 9223372036854775807 then (item_Bytes.l0 k ((x4 ++ (t135 ++ t136)) ++ t137) x25 x26 (wrap64 (x27 + 1))) else (none))) else ((pack_Number.f 0 1).bind fun t138 => ((pack_Text.f k ((rd_T23 x25 x27).f2)).bind fun t139 => (if t138.size + t139.size ≤ 9223372036854775807 then (if (x4 ++ (t135 ++ t136)).size + (t138 ++ t139).size ≤ 9223372036854775807 then (item_Bytes.l0 k ((x4 ++ (t135 ++ t136)) ++ (t138 ++ t139)) x25 x26 (wrap64 (x27 + 1))) else (none)) else (none))))) else (none)) else (none)))) else (none)) else (none)) else (some (x4, true))
def item_Bytes.f (k : Nat) (a0_0 : Int) (a0_1 : Int) (a0_2 : Int) (a0_3 : Int) (a0_4 : Int) (l0_5 : List (S23)) : Option (ByteArray × Bool) := (item_Whole.f a0_0 a0_1 a0_2 a0_3 a0_4 l0_5).bind fun t129 => (if t129 = true then ((stamp_Put.f k a0_0 a0_1 a0_2 a0_3 a0_4).bind fun bt130 => ((pack_Number.f (IntKind.u64.wrap ((l0_5.length : Int))) 1).bind fun t132 => (if bt130.1.size + t132.size ≤ 9223372036854775807 then (item_Bytes.l0 k (bt130.1 ++ t132) l0_5 (l0_5.length : Int) 0) else (none)))) else (some ((⟨#[]⟩ : ByteArray), false)))
theorem item_Bytes.mono_l : ∀ k, (∀ y0 y1 y2 y3, LeO (item_Bytes.l0 k y0 y1 y2 y3) (item_Bytes.l0 (k + 1) y0 y1 y2 y3))
 | 0 => fun _ _ _ _ r h => by simp [item_Bytes.l0] at h
 | k + 1 => by
  have ih0 := item_Bytes.mono_l k
  ·intro y0 y1 y2 y3
   unfold item_Bytes.l0
   repeat' first
   | (with_reducible exact ih0 _ _ _ _)
   | (with_reducible exact pack_Text.mono _ _)
   | (with_reducible exact stamp_Put.mono _ _ _ _ _ _)
   | (with_reducible exact LeO.refl _)
   | (with_reducible exact LeO.none _)
   | (with_reducible refine LeO.ite ?_ ?_)
   | (with_reducible refine LeO.bind ?_ (fun _ => ?_))
   | exact ih0 _ _ _ _
   | exact pack_Text.mono _ _
   | exact stamp_Put.mono _ _ _ _ _ _
   | exact LeO.none _
   | refine LeO.ite ?_ ?_
   | refine LeO.bind ?_ (fun _ => ?_)
theorem item_Bytes.mono : ∀ a0 a1 a2 a3 a4 a5 k, LeO (item_Bytes.f k a0 a1 a2 a3 a4 a5) (item_Bytes.f (k + 1) a0 a1 a2 a3 a4 a5) := by
 intro a0 a1 a2 a3 a4 a5 k
 have ih0 := item_Bytes.mono_l k
 unfold item_Bytes.f
 repeat' first
   | (with_reducible exact ih0 _ _ _ _)
   | (with_reducible exact pack_Text.mono _ _)
   | (with_reducible exact stamp_Put.mono _ _ _ _ _ _)
   | (with_reducible exact LeO.refl _)
   | (with_reducible exact LeO.none _)
   | (with_reducible refine LeO.ite ?_ ?_)
   | (with_reducible refine LeO.bind ?_ (fun _ => ?_))
   | exact ih0 _ _ _ _
   | exact pack_Text.mono _ _
   | exact stamp_Put.mono _ _ _ _ _ _
   | exact LeO.none _
   | refine LeO.ite ?_ ?_
   | refine LeO.bind ?_ (fun _ => ?_)
def item_Bytes.T8 : Bool × List (List Nat × List Nat) := (true, [([], []), ([], []), ([1], [1]), ([2], [2]), ([], []), ([4], [4]), ([5, 3], [5]), ([3, 6], [3, 6]), ([0, 7], [0, 7]), ([8, 6, 0, 1, 2, 3, 4, 5, 6, 7, 8], [0, 8])])
def item_Bytes.B8 : List Nat := [0, 0, 2, 6, 0, 16, 62, 126, 255, 511]
theorem item_Bytes.tab8 : rtab .any (opsOf Try.f15 8) = item_Bytes.T8 := by kernel_rfl
theorem item_Bytes.bits8 : waitsOk item_Bytes.T8.2 item_Bytes.B8 = true := by kernel_rfl
def item_Bytes.T11 : Bool × List (List Nat × List Nat) := (true, [([], []), ([], []), ([], []), ([2], [2]), ([3, 1], [3]), ([1, 4], [1, 4]), ([0, 5], [0, 5]), ([6, 4, 0, 1, 2, 3, 4, 5, 6], [0, 6])])
def item_Bytes.B11 : List Nat := [0, 0, 0, 4, 14, 30, 63, 127]
theorem item_Bytes.tab11 : rtab .any (opsOf Try.f15 11) = item_Bytes.T11 := by kernel_rfl
theorem item_Bytes.bits11 : waitsOk item_Bytes.T11.2 item_Bytes.B11 = true := by kernel_rfl
set_option maxHeartbeats 8000000 in
set_option maxRecDepth 100000 in
theorem item_Bytes.calls (k : Nat) (a0_0 : Int) (a0_1 : Int) (a0_2 : Int) (a0_3 : Int) (a0_4 : Int) (A0_5 : Option Addr) (c0_5 : Nat) (l0_5 : List (S23)) (r1 : ByteArray) (r2 : Bool) (w : World) (hr0_5 : Kd.C k23 w A0_5 l0_5.length l0_5) (hc0_5 : l0_5.length ≤ c0_5) (h : item_Bytes.f k a0_0 a0_1 a0_2 a0_3 a0_4 l0_5 = some (r1, r2)) :
  Calls Try.prog 15 #[.agg #[.int .u64 a0_0, .int .u64 a0_1, .int .u64 a0_2, .int .u64 a0_3, .int .i64 a0_4, .slice A0_5 l0_5.length c0_5]] w fun e w' => e = .returned (.tuple #[.string r1, .bool r2]) ∧ Below w.heap.size w w' := by
 have hu43 := Try.underlying43
 have hu30 := Try.underlying30
 have hu23 := Try.underlying23
 have HR0_5 := Aside0.mk hr0_5
 have HC0_5 := Aside0.mk hc0_5
 clear hr0_5 hc0_5
 have HB := Aside0.mk (Below.refl w.heap.size w)
 have H : ((item_Whole.f a0_0 a0_1 a0_2 a0_3 a0_4 l0_5).bind fun t129 => (if t129 = true then ((stamp_Put.f k a0_0 a0_1 a0_2 a0_3 a0_4).bind fun bt130 => ((pack_Number.f (IntKind.u64.wrap ((l0_5.length : Int))) 1).bind fun t132 => (if bt130.1.size + t132.size ≤ 9223372036854775807 then (item_Bytes.l0 k (bt130.1 ++ t132) l0_5 (l0_5.length : Int) 0) else (none)))) else (some ((⟨#[]⟩ : ByteArray), false)))) = some (r1, r2) := h
 (try (have Hs_ := H; simp only [ByteArray.size_append, Int.natCast_add] at Hs_))
 clear h
 replace H := Option.bind_eq_some_iff.mp H
 obtain ⟨t129, A20, H⟩ := H
 replace H : (if t129 = true then ((stamp_Put.f k a0_0 a0_1 a0_2 a0_3 a0_4).bind fun bt130 => ((pack_Number.f (IntKind.u64.wrap ((l0_5.length : Int))) 1).bind fun t132 => (if bt130.1.size + t132.size ≤ 9223372036854775807 then (item_Bytes.l0 k (bt130.1 ++ t132) l0_5 (l0_5.length : Int) 0) else (none)))) else (some ((⟨#[]⟩ : ByteArray), false))) = some (r1, r2) := H
 have A2 := Aside0.mk A20
 clear A20
 by_cases c3 : t129 = true
 rotate_left
 ·replace c3 := Bool.eq_false_iff.mpr c3
  subst c3
  have H1 : (some ((⟨#[]⟩ : ByteArray), false)) = some (r1, r2) := by rw [if_neg (show ¬ (false = true) by decide)] at H; exact H
  clear H
  have H := H1
  clear H1
  simp only [Option.some.injEq, Prod.mk.injEq] at H
  obtain ⟨rfl, rfl⟩ := H
  go_enter Try.func15, Try.ntmps15
  go_wp2_with (first | ((with_reducible refine gate_dst (N := 1) rfl ?_); refine Ka_ 1 #[.int .u64 a0_0, .int .u64 a0_1, .int .u64 a0_2, .int .u64 a0_3, .int .i64 a0_4, .slice A0_5 l0_5.length c0_5] 43 ?_; intro gb128 hg w50 hbox hb; have BK128 := Aside0.mk (hbox); have GW128 := Kw_ HB hg; have GE128 := GW128; replace HB := Ks_ HB hb; clear hb hbox hg; obtain ⟨hcz51_0, hcz51_1, hcz51_2, hcz51_3, hcz51_4, hcz51_5, hfz51_0, hfz51_1, hfz51_2, hfz51_3, hfz51_4, hfz51_5⟩ := Ke6_ BK128.out) | ((with_reducible refine gate_callee (f := 22) rfl ?_); refine Kg_ (some 9) rfl rfl Try.func22 (by kernel_rfl) rfl #[.agg #[.int .u64 a0_0, .int .u64 a0_1, .int .u64 a0_2, .int .u64 a0_3, .int .i64 a0_4, .slice A0_5 l0_5.length c0_5]] rfl ?_; (with_reducible refine (item_Whole.calls a0_0 a0_1 a0_2 a0_3 a0_4 _ _ l0_5 false _ ?side1 ?side2 A2.out).mono ?_); (case side1 => repeat (first | exact (Kd.C_below HR0_5.out HB.out) | (with_reducible refine Kd.C_alloc ?_ _) | (with_reducible refine Kd.C_drewN ?_ _) | (with_reducible refine Kd.C_drew ?_))); (case side2 => exact HC0_5.out); rintro e w52 ⟨rfl, hb⟩; refine ⟨_, rfl, ?_⟩; replace BK128 := Kb_ BK128 hb; replace HB := Ks_ HB hb; (try clear hb); (try clear hb2); (try clear hk); (try clear hi)))
  go_ret2
  exact ⟨Kh_, Kz_ HB GE128⟩
 subst c3
 have H1 : ((stamp_Put.f k a0_0 a0_1 a0_2 a0_3 a0_4).bind fun bt130 => ((pack_Number.f (IntKind.u64.wrap ((l0_5.length : Int))) 1).bind fun t132 => (if bt130.1.size + t132.size ≤ 9223372036854775807 then (item_Bytes.l0 k (bt130.1 ++ t132) l0_5 (l0_5.length : Int) 0) else (none)))) = some (r1, r2) := by rw [if_pos rfl] at H; exact H
 clear H
 have H := H1
 clear H1
 replace H := Option.bind_eq_some_iff.mp H
 obtain ⟨⟨t130, t131⟩, A40, H⟩ := H
 replace H : ((pack_Number.f (IntKind.u64.wrap ((l0_5.length : Int))) 1).bind fun t132 => (if t130.size + t132.size ≤ 9223372036854775807 then (item_Bytes.l0 k (t130 ++ t132) l0_5 (l0_5.length : Int) 0) else (none))) = some (r1, r2) := H
 have A4 := Aside0.mk A40
 clear A40
 replace H := Option.bind_eq_some_iff.mp H
 obtain ⟨t132, A50, H⟩ := H
 replace H : (if t130.size + t132.size ≤ 9223372036854775807 then (item_Bytes.l0 k (t130 ++ t132) l0_5 (l0_5.length : Int) 0) else (none)) = some (r1, r2) := H
 have A5 := Aside0.mk A50
 clear A50
 by_cases c6 : t130.size + t132.size ≤ 9223372036854775807
 rotate_left
 ·rw [if_neg c6] at H
  exact absurd H (by simp)
 rw [if_pos c6] at H
 have c6b0 := eq_true c6
 have c6b1 : decide (t130.size + t132.size ≤ 9223372036854775807) = true := decide_eq_true c6
 try have c6b2 : (9223372036854775807 < t130.size + t132.size) = False := eq_false (Nat.not_lt.2 c6)
 have H' := Aside0.mk H
 clear H
 go_enter Try.func15, Try.ntmps15
 go_wp2_with (first | ((with_reducible refine gate_dst (N := 1) rfl ?_); refine Ka_ 1 #[.int .u64 a0_0, .int .u64 a0_1, .int .u64 a0_2, .int .u64 a0_3, .int .i64 a0_4, .slice A0_5 l0_5.length c0_5] 43 ?_; intro gb128 hg w7 hbox hb; have BK128 := Aside0.mk (hbox); have GW128 := Kw_ HB hg; have GE128 := GW128; replace HB := Ks_ HB hb; clear hb hbox hg; obtain ⟨hcz8_0, hcz8_1, hcz8_2, hcz8_3, hcz8_4, hcz8_5, hfz8_0, hfz8_1, hfz8_2, hfz8_3, hfz8_4, hfz8_5⟩ := Ke6_ BK128.out) | ((with_reducible refine gate_callee (f := 22) rfl ?_); refine Kg_ (some 9) rfl rfl Try.func22 (by kernel_rfl) rfl #[.agg #[.int .u64 a0_0, .int .u64 a0_1, .int .u64 a0_2, .int .u64 a0_3, .int .i64 a0_4, .slice A0_5 l0_5.length c0_5]] rfl ?_; (with_reducible refine (item_Whole.calls a0_0 a0_1 a0_2 a0_3 a0_4 _ _ l0_5 true _ ?side1 ?side2 A2.out).mono ?_); (case side1 => repeat (first | exact (Kd.C_below HR0_5.out HB.out) | (with_reducible refine Kd.C_alloc ?_ _) | (with_reducible refine Kd.C_drewN ?_ _) | (with_reducible refine Kd.C_drew ?_))); (case side2 => exact HC0_5.out); rintro e w9 ⟨rfl, hb⟩; refine ⟨_, rfl, ?_⟩; replace BK128 := Kb_ BK128 hb; replace HB := Ks_ HB hb; (try clear hb); (try clear hb2); (try clear hk); (try clear hi); obtain ⟨hcz10_0, hcz10_1, hcz10_2, hcz10_3, hcz10_4, hcz10_5, hfz10_0, hfz10_1, hfz10_2, hfz10_3, hfz10_4, hfz10_5⟩ := Ke6_ BK128.out) | ((with_reducible refine gate_callee (f := 35) rfl ?_); refine Kg_ (some 14) rfl rfl Try.func35 (by kernel_rfl) rfl #[.agg #[.int .u64 a0_0, .int .u64 a0_1, .int .u64 a0_2, .int .u64 a0_3, .int .i64 a0_4]] rfl ?_; (with_reducible refine (stamp_Put.calls k a0_0 a0_1 a0_2 a0_3 a0_4 t130 t131 _ A4.out).mono ?_); rintro e w11 ⟨rfl, hb⟩; refine ⟨_, rfl, ?_⟩; replace BK128 := Kb_ BK128 hb; replace HB := Ks_ HB hb; (try clear hb); (try clear hb2); (try clear hk); (try clear hi); obtain ⟨hcz12_0, hcz12_1, hcz12_2, hcz12_3, hcz12_4, hcz12_5, hfz12_0, hfz12_1, hfz12_2, hfz12_3, hfz12_4, hfz12_5⟩ := Ke6_ BK128.out) | ((with_reducible refine gate_callee (f := 36) rfl ?_); refine Kg_ (some 22) rfl rfl Try.func36 (by kernel_rfl) rfl #[.int .u64 (IntKind.u64.wrap ((l0_5.length : Int))), .int .i64 1] rfl ?_; (with_reducible refine (pack_Number.calls (IntKind.u64.wrap ((l0_5.length : Int))) 1 t132 _ A5.out).mono ?_); rintro e w13 ⟨rfl, hb⟩; refine ⟨_, rfl, ?_⟩; replace BK128 := Kb_ BK128 hb; replace HB := Ks_ HB hb; (try clear hb); (try clear hb2); (try clear hk); (try clear hi); obtain ⟨hcz14_0, hcz14_1, hcz14_2, hcz14_3, hcz14_4, hcz14_5, hfz14_0, hfz14_1, hfz14_2, hfz14_3, hfz14_4, hfz14_5⟩ := Ke6_ BK128.out))
 go_loopg [4, 27] k (fun kq v4 v27 w' => ∃ (x4_1 : ByteArray) (x27_1 : Int), v4 = .string x4_1 ∧ v27 = .int .i64 x27_1 ∧ Aside0 (item_Bytes.l0 kq x4_1 l0_5 (l0_5.length : Int) x27_1 = some (r1, r2)) ∧ Aside0 (kq ≤ k) ∧ Aside0 (w'.heap[gb128]? = some (.cells #[.int .u64 a0_0, .int .u64 a0_1, .int .u64 a0_2, .int .u64 a0_3, .int .i64 a0_4, (.slice A0_5 l0_5.length c0_5)] 43 (0, 0))) ∧ Aside0 (Below w.heap.size w w'))
 case atStart => exact ⟨(t130 ++ t132), (0), (by first | rfl | (simp; done) | (simp [*]; done)), (by first | rfl | (simp; done) | (simp [*]; done)), H', ⟨Nat.le_refl _⟩, ⟨by exact Kq_ BK128⟩, ⟨Kz_ HB GE128⟩⟩
 case round =>
  clear H'
  try clear c1
  try clear c2
  try clear p2
  try clear c3
  try clear c6
  try clear c6b0
  try clear c6b1
  try clear c6b2
  try clear hcz10_0
  try clear hcz10_1
  try clear hcz10_2
  try clear hcz10_3
  try clear hcz10_4
  try clear hcz10_5
  try clear hcz12_0
  try clear hcz12_1
  try clear hcz12_2
  try clear hcz12_3
  try clear hcz12_4
  try clear hcz12_5
  try clear hcz14_0
  try clear hcz14_1
  try clear hcz14_2
  try clear hcz14_3
  try clear hcz14_4
  try clear hcz14_5
  try clear hcz8_0
  try clear hcz8_1
  try clear hcz8_2
  try clear hcz8_3
  try clear hcz8_4
  try clear hcz8_5
  try clear hfz10_0
  try clear hfz10_1
  try clear hfz10_2
  try clear hfz10_3
  try clear hfz10_4
  try clear hfz10_5
  try clear hfz12_0
  try clear hfz12_1
  try clear hfz12_2
  try clear hfz12_3
  try clear hfz12_4
  try clear hfz12_5
  try clear hfz14_0
  try clear hfz14_1
  try clear hfz14_2
  try clear hfz14_3
  try clear hfz14_4
  try clear hfz14_5
  try clear hfz8_0
  try clear hfz8_1
  try clear hfz8_2
  try clear hfz8_3
  try clear hfz8_4
  try clear hfz8_5
  obtain ⟨x4_1, x27_1, rfl, rfl, HA, HK1, BK128, HB⟩ := hrel
  cases gk with
  | zero => exact absurd HA.out (by simp [item_Bytes.l0])
  | succ k1 =>
   have H := HA.out
   clear HA
   simp only [item_Bytes.l0] at H
   by_cases c15 : x27_1 < (l0_5.length : Int)
   rotate_left
   ·rw [if_neg c15] at H
    have c15b0 : decide (x27_1 < (l0_5.length : Int)) = false := decide_eq_false c15
    clear c15
    simp only [Option.some.injEq, Prod.mk.injEq] at H
    obtain ⟨rfl, rfl⟩ := H
    go_wp2
    go_ret2
    exact ⟨Kh_, Kz_ HB GE128⟩
   rw [if_pos c15] at H
   have c15b0 : decide (x27_1 < (l0_5.length : Int)) = true := decide_eq_true c15
   clear c15
   by_cases c16 : 0 ≤ x27_1
   rotate_left
   ·rw [if_neg c16] at H
    exact absurd H (by simp)
   rw [if_pos c16] at H
   have c16b0 : decide (0 ≤ x27_1) = true := decide_eq_true c16
   clear c16
   by_cases c17 : x27_1 < (l0_5.length : Int)
   rotate_left
   ·rw [if_neg c17] at H
    exact absurd H (by simp)
   rw [if_pos c17] at H
   have c17b0 : decide (x27_1 < (l0_5.length : Int)) = true := decide_eq_true c17
   clear c17
   replace H := Option.bind_eq_some_iff.mp H
   obtain ⟨t135, A180, H⟩ := H
   replace H : ((pack_Text.f k1 ((rd_T23 l0_5 x27_1).f1)).bind fun t136 => (if t135.size + t136.size ≤ 9223372036854775807 then (if x4_1.size + (t135 ++ t136).size ≤ 9223372036854775807 then (if (rd_T23 l0_5 x27_1).f3 = true then ((pack_Number.f 1 1).bind fun t137 => (if (x4_1 ++ (t135 ++ t136)).size + t137.size ≤ 9223372036854775807 then (item_Bytes.l0 k1 ((x4_1 ++ (t135 ++ t136)) ++ t137) l0_5 (l0_5.length : Int) (wrap64 (x27_1 + 1))) else (none))) else ((pack_Number.f 0 1).bind fun t138 => ((pack_Text.f k1 ((rd_T23 l0_5 x27_1).f2)).bind fun t139 => (if t138.size + t139.size ≤ 9223372036854775807 then (if (x4_1 ++ (t135 ++ t136)).size + (t138 ++ t139).size ≤ 9223372036854775807 then (item_Bytes.l0 k1 ((x4_1 ++ (t135 ++ t136)) ++ (t138 ++ t139)) l0_5 (l0_5.length : Int) (wrap64 (x27_1 + 1))) else (none)) else (none))))) else (none)) else (none))) = some (r1, r2) := H
   have A18 := Aside0.mk A180
   clear A180
   replace H := Option.bind_eq_some_iff.mp H
   obtain ⟨t136, A190, H⟩ := H
   replace H : (if t135.size + t136.size ≤ 9223372036854775807 then (if x4_1.size + (t135 ++ t136).size ≤ 9223372036854775807 then (if (rd_T23 l0_5 x27_1).f3 = true then ((pack_Number.f 1 1).bind fun t137 => (if (x4_1 ++ (t135 ++ t136)).size + t137.size ≤ 9223372036854775807 then (item_Bytes.l0 k1 ((x4_1 ++ (t135 ++ t136)) ++ t137) l0_5 (l0_5.length : Int) (wrap64 (x27_1 + 1))) else (none))) else ((pack_Number.f 0 1).bind fun t138 => ((pack_Text.f k1 ((rd_T23 l0_5 x27_1).f2)).bind fun t139 => (if t138.size + t139.size ≤ 9223372036854775807 then (if (x4_1 ++ (t135 ++ t136)).size + (t138 ++ t139).size ≤ 9223372036854775807 then (item_Bytes.l0 k1 ((x4_1 ++ (t135 ++ t136)) ++ (t138 ++ t139)) l0_5 (l0_5.length : Int) (wrap64 (x27_1 + 1))) else (none)) else (none))))) else (none)) else (none)) = some (r1, r2) := H
   have A19 := Aside0.mk A190
   clear A190
   by_cases c20 : t135.size + t136.size ≤ 9223372036854775807
   rotate_left
   ·rw [if_neg c20] at H
    exact absurd H (by simp)
   rw [if_pos c20] at H
   have c20b0 := eq_true c20
   have c20b1 : decide (t135.size + t136.size ≤ 9223372036854775807) = true := decide_eq_true c20
   try have c20b2 : (9223372036854775807 < t135.size + t136.size) = False := eq_false (Nat.not_lt.2 c20)
   by_cases c21 : x4_1.size + (t135 ++ t136).size ≤ 9223372036854775807
   rotate_left
   ·rw [if_neg c21] at H
    exact absurd H (by simp)
   rw [if_pos c21] at H
   have c21b0 := eq_true c21
   (try (have c21b0s_ := c21b0; simp only [ByteArray.size_append, Int.natCast_add] at c21b0s_))
   have c21b1 : decide (x4_1.size + (t135 ++ t136).size ≤ 9223372036854775807) = true := decide_eq_true c21
   (try (have c21b1s_ := c21b1; simp only [ByteArray.size_append, Int.natCast_add] at c21b1s_))
   try have c21b2 : (9223372036854775807 < x4_1.size + (t135 ++ t136).size) = False := eq_false (Nat.not_lt.2 c21)
   (try (have c21b2s_ := c21b2; simp only [ByteArray.size_append, Int.natCast_add] at c21b2s_))
   obtain ⟨bq22, hbq22⟩ : ∃ b_ : Bool, b_ = ((rd_T23 l0_5 x27_1).f3) := ⟨_, rfl⟩
   replace H : (if bq22 = true then ((pack_Number.f 1 1).bind fun t137 => (if (x4_1 ++ (t135 ++ t136)).size + t137.size ≤ 9223372036854775807 then (item_Bytes.l0 k1 ((x4_1 ++ (t135 ++ t136)) ++ t137) l0_5 (l0_5.length : Int) (wrap64 (x27_1 + 1))) else (none))) else ((pack_Number.f 0 1).bind fun t138 => ((pack_Text.f k1 ((rd_T23 l0_5 x27_1).f2)).bind fun t139 => (if t138.size + t139.size ≤ 9223372036854775807 then (if (x4_1 ++ (t135 ++ t136)).size + (t138 ++ t139).size ≤ 9223372036854775807 then (item_Bytes.l0 k1 ((x4_1 ++ (t135 ++ t136)) ++ (t138 ++ t139)) l0_5 (l0_5.length : Int) (wrap64 (x27_1 + 1))) else (none)) else (none))))) = some (r1, r2) := by rw [← hbq22] at H; exact H
   have Nbq22 := Aside0.mk hbq22
   clear hbq22
   by_cases c23 : bq22 = true
   ·subst c23
    have H1 : ((pack_Number.f 1 1).bind fun t137 => (if (x4_1 ++ (t135 ++ t136)).size + t137.size ≤ 9223372036854775807 then (item_Bytes.l0 k1 ((x4_1 ++ (t135 ++ t136)) ++ t137) l0_5 (l0_5.length : Int) (wrap64 (x27_1 + 1))) else (none))) = some (r1, r2) := by rw [if_pos rfl] at H; exact H
    clear H
    have H := H1
    clear H1
    replace H := Option.bind_eq_some_iff.mp H
    obtain ⟨t137, A240, H⟩ := H
    replace H : (if (x4_1 ++ (t135 ++ t136)).size + t137.size ≤ 9223372036854775807 then (item_Bytes.l0 k1 ((x4_1 ++ (t135 ++ t136)) ++ t137) l0_5 (l0_5.length : Int) (wrap64 (x27_1 + 1))) else (none)) = some (r1, r2) := H
    have A24 := Aside0.mk A240
    clear A240
    by_cases c25 : (x4_1 ++ (t135 ++ t136)).size + t137.size ≤ 9223372036854775807
    rotate_left
    ·rw [if_neg c25] at H
     exact absurd H (by simp)
    rw [if_pos c25] at H
    have c25b0 := eq_true c25
    (try (have c25b0s_ := c25b0; simp only [ByteArray.size_append, Int.natCast_add] at c25b0s_))
    have c25b1 : decide ((x4_1 ++ (t135 ++ t136)).size + t137.size ≤ 9223372036854775807) = true := decide_eq_true c25
    (try (have c25b1s_ := c25b1; simp only [ByteArray.size_append, Int.natCast_add] at c25b1s_))
    try have c25b2 : (9223372036854775807 < (x4_1 ++ (t135 ++ t136)).size + t137.size) = False := eq_false (Nat.not_lt.2 c25)
    (try (have c25b2s_ := c25b2; simp only [ByteArray.size_append, Int.natCast_add] at c25b2s_))
    have H' := Aside0.mk H
    clear H
    have p133 : 0 ≤ (x27_1 : Int) := of_decide_eq_true (by first | (with_reducible assumption) | assumption)
    have q133 : x27_1 < (l0_5.length : Int) := of_decide_eq_true (by first | (with_reducible assumption) | assumption)
    obtain ⟨ad133, e133, hx133_0, hx133_1, hx133_2, hx133_3⟩ := at_T23 HR0_5.out x27_1 p133 q133
    (try rw [← Nbq22.out] at hx133_3)
    cases e133
    replace hx133_0 := (HB.out.cell (World.block_lt_of_cell? w _ hx133_0)).trans hx133_0
    replace hx133_1 := (HB.out.cell (World.block_lt_of_cell? w _ hx133_1)).trans hx133_1
    replace hx133_2 := (HB.out.cell (World.block_lt_of_cell? w _ hx133_2)).trans hx133_2
    replace hx133_3 := (HB.out.cell (World.block_lt_of_cell? w _ hx133_3)).trans hx133_3
    replace p133 := eq_true p133
    replace q133 := eq_true q133
    try go_wp2_with (first | ((with_reducible refine gate_dst (N := 7) rfl ?_); refine Ka_ 7 #[.string (⟨#[]⟩ : ByteArray), .string (⟨#[]⟩ : ByteArray), .string (⟨#[]⟩ : ByteArray), .bool false] 23 ?_; intro gb134 hg w26 hbox hb; have BK134 := Aside0.mk (hbox); have GW134 := Kw_ HB hg; have GE134 := GW134; have NB128_134 := Kl_ BK128 hg; have NB134_128 := Kr_ BK128 hg; replace BK128 := Kb_ BK128 hb; replace HB := Ks_ HB hb; clear hb hbox hg; have hnb27 := NB134_128.out; have hnc27 := NB128_134.out; obtain ⟨hcz28_0, hcz28_1, hcz28_2, hcz28_3, hfz28_0, hfz28_1, hfz28_2, hfz28_3⟩ := Ke4_ BK134.out))
    have n0_ : Aside0 (((((w26.setCell ⟨gb134, 0, none⟩ (.string ((rd_T23 l0_5 x27_1).f0))).setCell ⟨gb134, 1, none⟩ (.string ((rd_T23 l0_5 x27_1).f1))).setCell ⟨gb134, 2, none⟩ (.string ((rd_T23 l0_5 x27_1).f2))).setCell ⟨gb134, 3, none⟩ (.bool true)).heap[gb128]? = some (.cells #[.int .u64 a0_0, .int .u64 a0_1, .int .u64 a0_2, .int .u64 a0_3, .int .i64 a0_4, .slice (some ad133) l0_5.length c0_5] 43 (0, 0))) := ⟨by exact K1b_ BK128 NB128_134⟩
    have n1_ : Aside0 (((((w26.setCell ⟨gb134, 0, none⟩ (.string ((rd_T23 l0_5 x27_1).f0))).setCell ⟨gb134, 1, none⟩ (.string ((rd_T23 l0_5 x27_1).f1))).setCell ⟨gb134, 2, none⟩ (.string ((rd_T23 l0_5 x27_1).f2))).setCell ⟨gb134, 3, none⟩ (.bool true)).heap[gb134]? = some (.cells #[.string ((rd_T23 l0_5 x27_1).f0), .string ((rd_T23 l0_5 x27_1).f1), .string ((rd_T23 l0_5 x27_1).f2), .bool true] 23 (0, 0))) := ⟨by refine Kv_ ?_; refine blk_put (cs := #[.string ((rd_T23 l0_5 x27_1).f0), .string ((rd_T23 l0_5 x27_1).f1), .string ((rd_T23 l0_5 x27_1).f2), .bool false]) ?_ 3 _ rfl; refine Kv_ ?_; refine blk_put (cs := #[.string ((rd_T23 l0_5 x27_1).f0), .string ((rd_T23 l0_5 x27_1).f1), .string (⟨#[]⟩ : ByteArray), .bool false]) ?_ 2 _ rfl; refine Kv_ ?_; refine blk_put (cs := #[.string ((rd_T23 l0_5 x27_1).f0), .string (⟨#[]⟩ : ByteArray), .string (⟨#[]⟩ : ByteArray), .bool false]) ?_ 1 _ rfl; refine Kv_ ?_; refine blk_put (cs := #[.string (⟨#[]⟩ : ByteArray), .string (⟨#[]⟩ : ByteArray), .string (⟨#[]⟩ : ByteArray), .bool false]) ?_ 0 _ rfl; exact Kq_ BK134⟩
    have n2_ : Aside0 (Below w.heap.size w ((((w26.setCell ⟨gb134, 0, none⟩ (.string ((rd_T23 l0_5 x27_1).f0))).setCell ⟨gb134, 1, none⟩ (.string ((rd_T23 l0_5 x27_1).f1))).setCell ⟨gb134, 2, none⟩ (.string ((rd_T23 l0_5 x27_1).f2))).setCell ⟨gb134, 3, none⟩ (.bool true))) := ⟨K2a_ HB GE128 GE134⟩
    (try clear BK128)
    (try clear BK134)
    (try clear HB)
    generalize ((((w26.setCell ⟨gb134, 0, none⟩ (.string ((rd_T23 l0_5 x27_1).f0))).setCell ⟨gb134, 1, none⟩ (.string ((rd_T23 l0_5 x27_1).f1))).setCell ⟨gb134, 2, none⟩ (.string ((rd_T23 l0_5 x27_1).f2))).setCell ⟨gb134, 3, none⟩ (.bool true)) = w29 at n0_ n1_ n2_ ⊢
    have BK128 := n0_
    have BK134 := n1_
    have HB := n2_
    clear n0_ n1_ n2_
    replace BK128 := Kd_ BK128
    replace BK134 := Kd_ BK134
    replace HB := Aside0.mk (below_drew1 HB.out)
    refine start_ (n := 10) (S := fun w' => w'.cell? ⟨gb134, 0, none⟩ = some (.string ((rd_T23 l0_5 x27_1).f0)) ∧ w'.cell? ⟨gb134, 1, none⟩ = some (.string ((rd_T23 l0_5 x27_1).f1)) ∧ w'.cell? ⟨gb134, 2, none⟩ = some (.string ((rd_T23 l0_5 x27_1).f2)) ∧ w'.cell? ⟨gb134, 3, none⟩ = some (.bool true)) (ds := []) (mB_ 10 0) (by kernel_rfl) rfl rfl (Kc4_ BK134.out) (fun hHeld => ?_); refine with_tabW item_Bytes.tab8 item_Bytes.bits8 (fun HT_ HW_ => ?_)
    generalize w29.drew = w30 at BK128 BK134 HB hHeld ⊢
    refine Kp_ 0 31 (mB_ 10 1) (any_of HT_.out (by kernel_rfl)) ?_
    refine Kp_ 1 32 (mB_ 10 3) (any_of HT_.out (by kernel_rfl)) ?_
    refine Kp_ 4 35 (mB_ 10 19) (any_of HT_.out (by kernel_rfl)) ?_
    refine Ko_ 2 33 (mB_ 10 23) (take_ofW HT_.out HW_.out (by kernel_rfl)) hHeld ?_
    refine Ko_ 5 36 (mB_ 10 55) (take_ofW HT_.out HW_.out (by kernel_rfl)) hHeld ?_
    refine one_ (i := 3) (N := some 34) (mB_ 10 63) rfl rfl (one_of HT_.out (by kernel_rfl)) (by decide) (fun K hK => ?_)
    refine goes_ Try.func37 (by kernel_rfl) rfl #[.string ((rd_T23 l0_5 x27_1).f0)] (by rfl) rfl rfl (by (try simp only [List.map_toArray, List.map_cons, List.map_nil]); first | done | rfl | (simp only [List.length_drop, List.length_take]; rfl)) ?_
    with_reducible refine (pack_Text.calls k1 ((rd_T23 l0_5 x27_1).f0) t135 _ A18.out).mono ?_
    rintro e w31 ⟨rfl, hb⟩
    refine ⟨_, rfl, ?_⟩
    replace BK128 := Kb_ BK128 hb
    replace BK134 := Kb_ BK134 hb
    replace HB := Ks_ HB hb
    (try clear hb)
    (try clear hb2)
    (try clear hk)
    (try clear hi)
    refine hK.out _ _ (Kc4_ BK134.out) (fun hHeld => ?_)
    clear hK K
    refine Kn_ 34 ?_
    refine one_ (i := 6) (N := some 37) (mB_ 10 127) rfl rfl (one_of HT_.out (by kernel_rfl)) (by decide) (fun K hK => ?_)
    refine goes_ Try.func37 (by kernel_rfl) rfl #[.string ((rd_T23 l0_5 x27_1).f1)] (by rfl) rfl rfl (by (try simp only [List.map_toArray, List.map_cons, List.map_nil]); first | done | rfl | (simp only [List.length_drop, List.length_take]; rfl)) ?_
    with_reducible refine (pack_Text.calls k1 ((rd_T23 l0_5 x27_1).f1) t136 _ A19.out).mono ?_
    rintro e w32 ⟨rfl, hb⟩
    refine ⟨_, rfl, ?_⟩
    replace BK128 := Kb_ BK128 hb
    replace BK134 := Kb_ BK134 hb
    replace HB := Ks_ HB hb
    (try clear hb)
    (try clear hb2)
    (try clear hk)
    (try clear hi)
    refine hK.out _ _ (Kc4_ BK134.out) (fun hHeld => ?_)
    clear hK K
    refine Kn_ 37 ?_
    refine Kp_ 7 38 (mB_ 10 255) (any_of HT_.out (by kernel_rfl)) ?_
    refine Kp_ 8 39 (mB_ 10 511) (any_of HT_.out (by kernel_rfl)) ?_
    refine Kp_ 9 4 (mB_ 10 1023) (any_of HT_.out (by kernel_rfl)) ?_
    refine done_ (done_of HT_.out (by kernel_rfl)) ?_
    obtain ⟨hcz33_0, hcz33_1, hcz33_2, hcz33_3, hfz33_0, hfz33_1, hfz33_2, hfz33_3⟩ := Ke4_ BK134.out
    try go_wp2_with (first | ((with_reducible refine gate_callee (f := 36) rfl ?_); refine Kg_ (some 43) rfl rfl Try.func36 (by kernel_rfl) rfl #[.int .u64 1, .int .i64 1] rfl ?_; (with_reducible refine (pack_Number.calls 1 1 t137 _ A24.out).mono ?_); rintro e w34 ⟨rfl, hb⟩; refine ⟨_, rfl, ?_⟩; replace BK128 := Kb_ BK128 hb; replace BK134 := Kb_ BK134 hb; replace HB := Ks_ HB hb; (try clear hb); (try clear hb2); (try clear hk); (try clear hi)))
    go_roundg k1
    case measure => have := HK1.out; omega
    case rel => exact ⟨((x4_1 ++ (t135 ++ t136)) ++ t137), (wrap64 (x27_1 + 1)), (by first | rfl | (simp; done) | (simp [*]; done)), (by first | rfl | (simp; done) | (simp [*]; done)), H', ⟨by have := HK1.out; omega⟩, ⟨by exact Kq_ BK128⟩, ⟨K2a_ HB GE128 GE134⟩⟩
   replace c23 := Bool.eq_false_iff.mpr c23
   subst c23
   have H1 : ((pack_Number.f 0 1).bind fun t138 => ((pack_Text.f k1 ((rd_T23 l0_5 x27_1).f2)).bind fun t139 => (if t138.size + t139.size ≤ 9223372036854775807 then (if (x4_1 ++ (t135 ++ t136)).size + (t138 ++ t139).size ≤ 9223372036854775807 then (item_Bytes.l0 k1 ((x4_1 ++ (t135 ++ t136)) ++ (t138 ++ t139)) l0_5 (l0_5.length : Int) (wrap64 (x27_1 + 1))) else (none)) else (none)))) = some (r1, r2) := by rw [if_neg (show ¬ (false = true) by decide)] at H; exact H
   clear H
   have H := H1
   clear H1
   replace H := Option.bind_eq_some_iff.mp H
   obtain ⟨t138, A350, H⟩ := H
   replace H : ((pack_Text.f k1 ((rd_T23 l0_5 x27_1).f2)).bind fun t139 => (if t138.size + t139.size ≤ 9223372036854775807 then (if (x4_1 ++ (t135 ++ t136)).size + (t138 ++ t139).size ≤ 9223372036854775807 then (item_Bytes.l0 k1 ((x4_1 ++ (t135 ++ t136)) ++ (t138 ++ t139)) l0_5 (l0_5.length : Int) (wrap64 (x27_1 + 1))) else (none)) else (none))) = some (r1, r2) := H
   have A35 := Aside0.mk A350
   clear A350
   replace H := Option.bind_eq_some_iff.mp H
   obtain ⟨t139, A360, H⟩ := H
   replace H : (if t138.size + t139.size ≤ 9223372036854775807 then (if (x4_1 ++ (t135 ++ t136)).size + (t138 ++ t139).size ≤ 9223372036854775807 then (item_Bytes.l0 k1 ((x4_1 ++ (t135 ++ t136)) ++ (t138 ++ t139)) l0_5 (l0_5.length : Int) (wrap64 (x27_1 + 1))) else (none)) else (none)) = some (r1, r2) := H
   have A36 := Aside0.mk A360
   clear A360
   by_cases c37 : t138.size + t139.size ≤ 9223372036854775807
   rotate_left
   ·rw [if_neg c37] at H
    exact absurd H (by simp)
   rw [if_pos c37] at H
   have c37b0 := eq_true c37
   have c37b1 : decide (t138.size + t139.size ≤ 9223372036854775807) = true := decide_eq_true c37
   try have c37b2 : (9223372036854775807 < t138.size + t139.size) = False := eq_false (Nat.not_lt.2 c37)
   by_cases c38 : (x4_1 ++ (t135 ++ t136)).size + (t138 ++ t139).size ≤ 9223372036854775807
   rotate_left
   ·rw [if_neg c38] at H
    exact absurd H (by simp)
   rw [if_pos c38] at H
   have c38b0 := eq_true c38
   (try (have c38b0s_ := c38b0; simp only [ByteArray.size_append, Int.natCast_add] at c38b0s_))
   have c38b1 : decide ((x4_1 ++ (t135 ++ t136)).size + (t138 ++ t139).size ≤ 9223372036854775807) = true := decide_eq_true c38
   (try (have c38b1s_ := c38b1; simp only [ByteArray.size_append, Int.natCast_add] at c38b1s_))
   try have c38b2 : (9223372036854775807 < (x4_1 ++ (t135 ++ t136)).size + (t138 ++ t139).size) = False := eq_false (Nat.not_lt.2 c38)
   (try (have c38b2s_ := c38b2; simp only [ByteArray.size_append, Int.natCast_add] at c38b2s_))
   have H' := Aside0.mk H
   clear H
   have p133 : 0 ≤ (x27_1 : Int) := of_decide_eq_true (by first | (with_reducible assumption) | assumption)
   have q133 : x27_1 < (l0_5.length : Int) := of_decide_eq_true (by first | (with_reducible assumption) | assumption)
   obtain ⟨ad133, e133, hx133_0, hx133_1, hx133_2, hx133_3⟩ := at_T23 HR0_5.out x27_1 p133 q133
   (try rw [← Nbq22.out] at hx133_3)
   cases e133
   replace hx133_0 := (HB.out.cell (World.block_lt_of_cell? w _ hx133_0)).trans hx133_0
   replace hx133_1 := (HB.out.cell (World.block_lt_of_cell? w _ hx133_1)).trans hx133_1
   replace hx133_2 := (HB.out.cell (World.block_lt_of_cell? w _ hx133_2)).trans hx133_2
   replace hx133_3 := (HB.out.cell (World.block_lt_of_cell? w _ hx133_3)).trans hx133_3
   replace p133 := eq_true p133
   replace q133 := eq_true q133
   try go_wp2_with (first | ((with_reducible refine gate_dst (N := 7) rfl ?_); refine Ka_ 7 #[.string (⟨#[]⟩ : ByteArray), .string (⟨#[]⟩ : ByteArray), .string (⟨#[]⟩ : ByteArray), .bool false] 23 ?_; intro gb134 hg w39 hbox hb; have BK134 := Aside0.mk (hbox); have GW134 := Kw_ HB hg; have GE134 := GW134; have NB128_134 := Kl_ BK128 hg; have NB134_128 := Kr_ BK128 hg; replace BK128 := Kb_ BK128 hb; replace HB := Ks_ HB hb; clear hb hbox hg; have hnb40 := NB134_128.out; have hnc40 := NB128_134.out; obtain ⟨hcz41_0, hcz41_1, hcz41_2, hcz41_3, hfz41_0, hfz41_1, hfz41_2, hfz41_3⟩ := Ke4_ BK134.out))
   have n0_ : Aside0 (((((w39.setCell ⟨gb134, 0, none⟩ (.string ((rd_T23 l0_5 x27_1).f0))).setCell ⟨gb134, 1, none⟩ (.string ((rd_T23 l0_5 x27_1).f1))).setCell ⟨gb134, 2, none⟩ (.string ((rd_T23 l0_5 x27_1).f2))).setCell ⟨gb134, 3, none⟩ (.bool false)).heap[gb128]? = some (.cells #[.int .u64 a0_0, .int .u64 a0_1, .int .u64 a0_2, .int .u64 a0_3, .int .i64 a0_4, .slice (some ad133) l0_5.length c0_5] 43 (0, 0))) := ⟨by exact K1b_ BK128 NB128_134⟩
   have n1_ : Aside0 (((((w39.setCell ⟨gb134, 0, none⟩ (.string ((rd_T23 l0_5 x27_1).f0))).setCell ⟨gb134, 1, none⟩ (.string ((rd_T23 l0_5 x27_1).f1))).setCell ⟨gb134, 2, none⟩ (.string ((rd_T23 l0_5 x27_1).f2))).setCell ⟨gb134, 3, none⟩ (.bool false)).heap[gb134]? = some (.cells #[.string ((rd_T23 l0_5 x27_1).f0), .string ((rd_T23 l0_5 x27_1).f1), .string ((rd_T23 l0_5 x27_1).f2), .bool false] 23 (0, 0))) := ⟨by refine Kv_ ?_; refine blk_put (cs := #[.string ((rd_T23 l0_5 x27_1).f0), .string ((rd_T23 l0_5 x27_1).f1), .string ((rd_T23 l0_5 x27_1).f2), .bool false]) ?_ 3 _ rfl; refine Kv_ ?_; refine blk_put (cs := #[.string ((rd_T23 l0_5 x27_1).f0), .string ((rd_T23 l0_5 x27_1).f1), .string (⟨#[]⟩ : ByteArray), .bool false]) ?_ 2 _ rfl; refine Kv_ ?_; refine blk_put (cs := #[.string ((rd_T23 l0_5 x27_1).f0), .string (⟨#[]⟩ : ByteArray), .string (⟨#[]⟩ : ByteArray), .bool false]) ?_ 1 _ rfl; refine Kv_ ?_; refine blk_put (cs := #[.string (⟨#[]⟩ : ByteArray), .string (⟨#[]⟩ : ByteArray), .string (⟨#[]⟩ : ByteArray), .bool false]) ?_ 0 _ rfl; exact Kq_ BK134⟩
   have n2_ : Aside0 (Below w.heap.size w ((((w39.setCell ⟨gb134, 0, none⟩ (.string ((rd_T23 l0_5 x27_1).f0))).setCell ⟨gb134, 1, none⟩ (.string ((rd_T23 l0_5 x27_1).f1))).setCell ⟨gb134, 2, none⟩ (.string ((rd_T23 l0_5 x27_1).f2))).setCell ⟨gb134, 3, none⟩ (.bool false))) := ⟨K2a_ HB GE128 GE134⟩
   (try clear BK128)
   (try clear BK134)
   (try clear HB)
   generalize ((((w39.setCell ⟨gb134, 0, none⟩ (.string ((rd_T23 l0_5 x27_1).f0))).setCell ⟨gb134, 1, none⟩ (.string ((rd_T23 l0_5 x27_1).f1))).setCell ⟨gb134, 2, none⟩ (.string ((rd_T23 l0_5 x27_1).f2))).setCell ⟨gb134, 3, none⟩ (.bool false)) = w42 at n0_ n1_ n2_ ⊢
   have BK128 := n0_
   have BK134 := n1_
   have HB := n2_
   clear n0_ n1_ n2_
   replace BK128 := Kd_ BK128
   replace BK134 := Kd_ BK134
   replace HB := Aside0.mk (below_drew1 HB.out)
   refine start_ (n := 10) (S := fun w' => w'.cell? ⟨gb134, 0, none⟩ = some (.string ((rd_T23 l0_5 x27_1).f0)) ∧ w'.cell? ⟨gb134, 1, none⟩ = some (.string ((rd_T23 l0_5 x27_1).f1)) ∧ w'.cell? ⟨gb134, 2, none⟩ = some (.string ((rd_T23 l0_5 x27_1).f2)) ∧ w'.cell? ⟨gb134, 3, none⟩ = some (.bool false)) (ds := []) (mB_ 10 0) (by kernel_rfl) rfl rfl (Kc4_ BK134.out) (fun hHeld => ?_); refine with_tabW item_Bytes.tab8 item_Bytes.bits8 (fun HT_ HW_ => ?_)
   generalize w42.drew = w43 at BK128 BK134 HB hHeld ⊢
   refine Kp_ 0 31 (mB_ 10 1) (any_of HT_.out (by kernel_rfl)) ?_
   refine Kp_ 1 32 (mB_ 10 3) (any_of HT_.out (by kernel_rfl)) ?_
   refine Kp_ 4 35 (mB_ 10 19) (any_of HT_.out (by kernel_rfl)) ?_
   refine Ko_ 2 33 (mB_ 10 23) (take_ofW HT_.out HW_.out (by kernel_rfl)) hHeld ?_
   refine Ko_ 5 36 (mB_ 10 55) (take_ofW HT_.out HW_.out (by kernel_rfl)) hHeld ?_
   refine one_ (i := 3) (N := some 34) (mB_ 10 63) rfl rfl (one_of HT_.out (by kernel_rfl)) (by decide) (fun K hK => ?_)
   refine goes_ Try.func37 (by kernel_rfl) rfl #[.string ((rd_T23 l0_5 x27_1).f0)] (by rfl) rfl rfl (by (try simp only [List.map_toArray, List.map_cons, List.map_nil]); first | done | rfl | (simp only [List.length_drop, List.length_take]; rfl)) ?_
   with_reducible refine (pack_Text.calls k1 ((rd_T23 l0_5 x27_1).f0) t135 _ A18.out).mono ?_
   rintro e w44 ⟨rfl, hb⟩
   refine ⟨_, rfl, ?_⟩
   replace BK128 := Kb_ BK128 hb
   replace BK134 := Kb_ BK134 hb
   replace HB := Ks_ HB hb
   (try clear hb)
   (try clear hb2)
   (try clear hk)
   (try clear hi)
   refine hK.out _ _ (Kc4_ BK134.out) (fun hHeld => ?_)
   clear hK K
   refine Kn_ 34 ?_
   refine one_ (i := 6) (N := some 37) (mB_ 10 127) rfl rfl (one_of HT_.out (by kernel_rfl)) (by decide) (fun K hK => ?_)
   refine goes_ Try.func37 (by kernel_rfl) rfl #[.string ((rd_T23 l0_5 x27_1).f1)] (by rfl) rfl rfl (by (try simp only [List.map_toArray, List.map_cons, List.map_nil]); first | done | rfl | (simp only [List.length_drop, List.length_take]; rfl)) ?_
   with_reducible refine (pack_Text.calls k1 ((rd_T23 l0_5 x27_1).f1) t136 _ A19.out).mono ?_
   rintro e w45 ⟨rfl, hb⟩
   refine ⟨_, rfl, ?_⟩
   replace BK128 := Kb_ BK128 hb
   replace BK134 := Kb_ BK134 hb
   replace HB := Ks_ HB hb
   (try clear hb)
   (try clear hb2)
   (try clear hk)
   (try clear hi)
   refine hK.out _ _ (Kc4_ BK134.out) (fun hHeld => ?_)
   clear hK K
   refine Kn_ 37 ?_
   refine Kp_ 7 38 (mB_ 10 255) (any_of HT_.out (by kernel_rfl)) ?_
   refine Kp_ 8 39 (mB_ 10 511) (any_of HT_.out (by kernel_rfl)) ?_
   refine Kp_ 9 4 (mB_ 10 1023) (any_of HT_.out (by kernel_rfl)) ?_
   refine done_ (done_of HT_.out (by kernel_rfl)) ?_
   obtain ⟨hcz46_0, hcz46_1, hcz46_2, hcz46_3, hfz46_0, hfz46_1, hfz46_2, hfz46_3⟩ := Ke4_ BK134.out
   try go_wp2
   replace BK128 := Kd_ BK128
   replace BK134 := Kd_ BK134
   replace HB := Aside0.mk (below_drew1 HB.out)
   refine start_ (n := 8) (S := fun w' => w'.cell? ⟨gb134, 0, none⟩ = some (.string ((rd_T23 l0_5 x27_1).f0)) ∧ w'.cell? ⟨gb134, 1, none⟩ = some (.string ((rd_T23 l0_5 x27_1).f1)) ∧ w'.cell? ⟨gb134, 2, none⟩ = some (.string ((rd_T23 l0_5 x27_1).f2)) ∧ w'.cell? ⟨gb134, 3, none⟩ = some (.bool false)) (ds := []) (mB_ 8 0) (by kernel_rfl) rfl rfl (Kc4_ BK134.out) (fun hHeld => ?_); refine with_tabW item_Bytes.tab11 item_Bytes.bits11 (fun HT_ HW_ => ?_)
   generalize w45.drew = w47 at BK128 BK134 HB hHeld ⊢
   refine Kp_ 0 45 (mB_ 8 1) (any_of HT_.out (by kernel_rfl)) ?_
   refine Kp_ 2 47 (mB_ 8 5) (any_of HT_.out (by kernel_rfl)) ?_
   refine Ko_ 3 48 (mB_ 8 13) (take_ofW HT_.out HW_.out (by kernel_rfl)) hHeld ?_
   refine one_ (i := 1) (N := some 46) (mB_ 8 15) rfl rfl (one_of HT_.out (by kernel_rfl)) (by decide) (fun K hK => ?_)
   refine goes_ Try.func36 (by kernel_rfl) rfl #[.int .u64 0, .int .i64 1] (by rfl) rfl rfl (by (try simp only [List.map_toArray, List.map_cons, List.map_nil]); first | done | rfl | (simp only [List.length_drop, List.length_take]; rfl)) ?_
   with_reducible refine (pack_Number.calls 0 1 t138 _ A35.out).mono ?_
   rintro e w48 ⟨rfl, hb⟩
   refine ⟨_, rfl, ?_⟩
   replace BK128 := Kb_ BK128 hb
   replace BK134 := Kb_ BK134 hb
   replace HB := Ks_ HB hb
   (try clear hb)
   (try clear hb2)
   (try clear hk)
   (try clear hi)
   refine hK.out _ _ (Kc4_ BK134.out) (fun hHeld => ?_)
   clear hK K
   refine Kn_ 46 ?_
   refine one_ (i := 4) (N := some 49) (mB_ 8 31) rfl rfl (one_of HT_.out (by kernel_rfl)) (by decide) (fun K hK => ?_)
   refine goes_ Try.func37 (by kernel_rfl) rfl #[.string ((rd_T23 l0_5 x27_1).f2)] (by rfl) rfl rfl (by (try simp only [List.map_toArray, List.map_cons, List.map_nil]); first | done | rfl | (simp only [List.length_drop, List.length_take]; rfl)) ?_
   with_reducible refine (pack_Text.calls k1 ((rd_T23 l0_5 x27_1).f2) t139 _ A36.out).mono ?_
   rintro e w49 ⟨rfl, hb⟩
   refine ⟨_, rfl, ?_⟩
   replace BK128 := Kb_ BK128 hb
   replace BK134 := Kb_ BK134 hb
   replace HB := Ks_ HB hb
   (try clear hb)
   (try clear hb2)
   (try clear hk)
   (try clear hi)
   refine hK.out _ _ (Kc4_ BK134.out) (fun hHeld => ?_)
   clear hK K
   refine Kn_ 49 ?_
   refine Kp_ 5 50 (mB_ 8 63) (any_of HT_.out (by kernel_rfl)) ?_
   refine Kp_ 6 51 (mB_ 8 127) (any_of HT_.out (by kernel_rfl)) ?_
   refine Kp_ 7 4 (mB_ 8 255) (any_of HT_.out (by kernel_rfl)) ?_
   refine done_ (done_of HT_.out (by kernel_rfl)) ?_
   try go_wp2
   go_roundg k1
   case measure => have := HK1.out; omega
   case rel => exact ⟨((x4_1 ++ (t135 ++ t136)) ++ (t138 ++ t139)), (wrap64 (x27_1 + 1)), (by first | rfl | (simp; done) | (simp [*]; done)), (by first | rfl | (simp; done) | (simp [*]; done)), H', ⟨by have := HK1.out; omega⟩, ⟨by exact Kq_ BK128⟩, ⟨K2a_ HB GE128 GE134⟩⟩
def item_Size.f (a0_0 : ByteArray) (a0_1 : ByteArray) (a0_2 : ByteArray) (a0_3 : Bool) : Option (Int) := if a0_3 = true then (some 0) else (some (wrap64 ((wrap64 ((a0_0.size : Int) + (a0_1.size : Int))) + (a0_2.size : Int))))
set_option maxHeartbeats 8000000 in
set_option maxRecDepth 100000 in
theorem item_Size.calls (a0_0 : ByteArray) (a0_1 : ByteArray) (a0_2 : ByteArray) (a0_3 : Bool) (r : Int) (w : World) (h : item_Size.f a0_0 a0_1 a0_2 a0_3 = some r) :
  Calls Try.prog 20 #[.agg #[.string a0_0, .string a0_1, .string a0_2, .bool a0_3]] w fun e w' => e = .returned (.int .i64 r) ∧ Below w.heap.size w w' := by
 have hu23 := Try.underlying23
 have HB := Aside0.mk (Below.refl w.heap.size w)
 have H : (if a0_3 = true then (some 0) else (some (wrap64 ((wrap64 ((a0_0.size : Int) + (a0_1.size : Int))) + (a0_2.size : Int))))) = some r := h
 clear h
 by_cases c2 : a0_3 = true
 ·subst c2
  have H1 : (some 0) = some r := by rw [if_pos rfl] at H; exact H
  clear H
  have H := H1
  clear H1
  obtain rfl := Option.some.inj H
  go_enter Try.func20, Try.ntmps20
  go_wp2_with (first | ((with_reducible refine gate_dst (N := 1) rfl ?_); refine Ka_ 1 #[.string a0_0, .string a0_1, .string a0_2, .bool true] 23 ?_; intro gb140 hg w3 hbox hb; have BK140 := Aside0.mk (hbox); have GW140 := Kw_ HB hg; have GE140 := GW140; replace HB := Ks_ HB hb; clear hb hbox hg; obtain ⟨hcz4_0, hcz4_1, hcz4_2, hcz4_3, hfz4_0, hfz4_1, hfz4_2, hfz4_3⟩ := Ke4_ BK140.out))
  go_ret
  exact ⟨Kh_, Kz_ HB GE140⟩
 replace c2 := Bool.eq_false_iff.mpr c2
 subst c2
 have H1 : (some (wrap64 ((wrap64 ((a0_0.size : Int) + (a0_1.size : Int))) + (a0_2.size : Int)))) = some r := by rw [if_neg (show ¬ (false = true) by decide)] at H; exact H
 clear H
 have H := H1
 clear H1
 obtain rfl := Option.some.inj H
 go_enter Try.func20, Try.ntmps20
 go_wp2_with (first | ((with_reducible refine gate_dst (N := 1) rfl ?_); refine Ka_ 1 #[.string a0_0, .string a0_1, .string a0_2, .bool false] 23 ?_; intro gb140 hg w5 hbox hb; have BK140 := Aside0.mk (hbox); have GW140 := Kw_ HB hg; have GE140 := GW140; replace HB := Ks_ HB hb; clear hb hbox hg; obtain ⟨hcz6_0, hcz6_1, hcz6_2, hcz6_3, hfz6_0, hfz6_1, hfz6_2, hfz6_3⟩ := Ke4_ BK140.out))
 go_ret
 exact ⟨Kh_, Kz_ HB GE140⟩
end Go.Proofs.Ytoogchgoiciggaa.Q

namespace Go.Proofs.Ytoogchgoiciggaa.Q
open Go.RowKit Go.Proofs.YtoogchgoiciggaaW.PrintWords Go.Proofs.YtoogchgoiciggaaW.PrintLast Go.Proofs.YtoogchgoiciggaaW.PrintMore
attribute [local go_sem] max2_int min2_int max_two min_two max_three min_three max_four min_four   -- for this text's walks alone
set_option linter.unusedVariables false
set_option linter.unusedSimpArgs false
attribute [local go_sem] ixA28_0 ixA28_1 ixA28_2 ixA28_3   -- for this text's walks alone
theorem eqA30 (d : Nat) (w : World) (x0 y0 : Int) (x1 y1 : Int) (x2 y2 : Int) (x3 y3 : Int) (x4 y4 : Int) :
  (Op.equalIn (d + 3) 30 (.agg #[.int .u64 x0, .int .u64 x1, .int .u64 x2, .int .u64 x3, .int .i64 x4]) (.agg #[.int .u64 y0, .int .u64 y1, .int .u64 y2, .int .u64 y3, .int .i64 y4])).run Try.prog w = .ok ((x0 == y0 && (x1 == y1 && (x2 == y2 && (x3 == y3)))) && (x4 == y4)) w := by
 refine eqA_of Try.underlying30 (by kernel_rfl) ?_
 refine eqf_cons (by rfl) (by go_simp) (by go_simp) (eqA28 (d + 0) w _ _ _ _ _ _ _ _) ?_
 exact eqf_last (by rfl) (by go_simp; rfl) (by go_simp; rfl) (by go_simp)
end Go.Proofs.Ytoogchgoiciggaa.Q

namespace Go.Proofs.Ytoogchgoiciggaa.Q
open Go.RowKit Go.Proofs.YtoogchgoiciggaaW.PrintWords Go.Proofs.YtoogchgoiciggaaW.PrintLast Go.Proofs.YtoogchgoiciggaaW.PrintMore
attribute [local go_sem] max2_int min2_int max_two min_two max_three min_three max_four min_four   -- for this text's walks alone
set_option linter.unusedVariables false
set_option linter.unusedSimpArgs false
theorem eqA23 (d : Nat) (w : World) (x0 y0 : ByteArray) (x1 y1 : ByteArray) (x2 y2 : ByteArray) (x3 y3 : Bool) :
  (Op.equalIn (d + 2) 23 (.agg #[.string x0, .string x1, .string x2, .bool x3]) (.agg #[.string y0, .string y1, .string y2, .bool y3])).run Try.prog w = .ok (x0.toList == y0.toList && (x1.toList == y1.toList && (x2.toList == y2.toList && (x3 == y3)))) w := by
 refine eqA_of Try.underlying23 (by kernel_rfl) ?_
 refine eqf_cons (by rfl) (by go_simp; rfl) (by go_simp; rfl) (by go_simp) ?_
 refine eqf_cons (by rfl) (by go_simp; rfl) (by go_simp; rfl) (by go_simp) ?_
 refine eqf_cons (by rfl) (by go_simp; rfl) (by go_simp; rfl) (by go_simp) ?_
 exact eqf_last (by rfl) (by go_simp; rfl) (by go_simp; rfl) (by go_simp)
attribute [local go_sem high] eqA23
def item_Write_47.l0 : Nat → List (S23) → List (S23) → Int → Int → Option (Bool)
 | 0, _, _, _, _ => none
 | k + 1, x0, x1, x12, x13 => if x13 < x12 then (if 0 ≤ x13 then (if x13 < (x0.length : Int) then (if x13 < (x1.length : Int) then (if (!((((rd_T23 x0 x13).f0).toList) == (((rd_T23 x1 x13).f0).toList)) || (!((((rd_T23 x0 x13).f1).toList) == (((rd_T23 x1 x13).f1).toList)) || (!((((rd_T23 x0 x13).f2).toList) == (((rd_T23 x1 x13).f2).toList)) || (!(((rd_T23 x0 x13).f3) == ((rd_T23 x1 x13).f3)))))) = true then (some false) else (item_Write_47.l0 k x0 x1 x12 (wrap64 (x13 + 1)))) else (none)) else (none)) else (none)) else (some true)
def item_Write_47.f (k : Nat) (l0 : List (S23)) (l1 : List (S23)) : Option (Bool) := if (l0.length : Int) = (l1.length : Int) then (item_Write_47.l0 k l0 l1 (l0.length : Int) 0) else (some false)
theorem item_Write_47.mono_l : ∀ k, (∀ y0 y1 y2 y3, LeO (item_Write_47.l0 k y0 y1 y2 y3) (item_Write_47.l0 (k + 1) y0 y1 y2 y3))
 | 0 => fun _ _ _ _ r h => by simp [item_Write_47.l0] at h
 | k + 1 => by
  have ih0 := item_Write_47.mono_l k
  ·intro y0 y1 y2 y3
   unfold item_Write_47.l0
   repeat' first
   | (with_reducible exact ih0 _ _ _ _)
   | (with_reducible exact LeO.refl _)
   | (with_reducible exact LeO.none _)
   | (with_reducible refine LeO.ite ?_ ?_)
   | (with_reducible refine LeO.bind ?_ (fun _ => ?_))
   | exact ih0 _ _ _ _
   | exact LeO.none _
   | refine LeO.ite ?_ ?_
   | refine LeO.bind ?_ (fun _ => ?_)
theorem item_Write_47.mono : ∀ a0 a1 k, LeO (item_Write_47.f k a0 a1) (item_Write_47.f (k + 1) a0 a1) := by
 intro a0 a1 k
 have ih0 := item_Write_47.mono_l k
 unfold item_Write_47.f
 repeat' first
   | (with_reducible exact ih0 _ _ _ _)
   | (with_reducible exact LeO.refl _)
   | (with_reducible exact LeO.none _)
   | (with_reducible refine LeO.ite ?_ ?_)
   | (with_reducible refine LeO.bind ?_ (fun _ => ?_))
   | exact ih0 _ _ _ _
   | exact LeO.none _
   | refine LeO.ite ?_ ?_
   | refine LeO.bind ?_ (fun _ => ?_)
set_option maxHeartbeats 8000000 in
set_option maxRecDepth 100000 in
theorem item_Write_47.calls (k : Nat) (A0 : Option Addr) (c0 : Nat) (l0 : List (S23)) (A1 : Option Addr) (c1 : Nat) (l1 : List (S23)) (r : Bool) (w : World) (hr0 : Kd.C k23 w A0 l0.length l0) (hc0 : l0.length ≤ c0) (hr1 : Kd.C k23 w A1 l1.length l1) (hc1 : l1.length ≤ c1) (h : item_Write_47.f k l0 l1 = some r) :
  Calls Try.prog 47 #[.slice A0 l0.length c0, .slice A1 l1.length c1] w fun e w' => e = .returned (.bool r) ∧ Drawn0 w w' := by
 have hu23 := Try.underlying23
 have HR0 := Aside0.mk hr0
 have HC0 := Aside0.mk hc0
 clear hr0 hc0
 have HR1 := Aside0.mk hr1
 have HC1 := Aside0.mk hc1
 clear hr1 hc1
 have H : (if (l0.length : Int) = (l1.length : Int) then (item_Write_47.l0 k l0 l1 (l0.length : Int) 0) else (some false)) = some r := h
 clear h
 by_cases c3 : (l0.length : Int) = (l1.length : Int)
 rotate_left
 ·rw [if_neg c3] at H
  have c3b0 : ((l0.length : Int) == (l1.length : Int)) = false := beq_eq_false_iff_ne.mpr c3
  have c3b1 : ((l0.length : Int) != (l1.length : Int)) = true := bne_iff_ne.mpr c3
  have c3b2 : (l0.length == l1.length) = false := by first | simpa using c3 | (simp at c3 ⊢; omega)
  obtain rfl := Option.some.inj H
  go_enter Try.func47, Try.ntmps47
  go_wp2
  repeat (go_quiet (fail); try go_wp2)
  go_ret
  exact ⟨by first | rfl | (simp; done) | (simp [*]; done), by repeat (first | exact Drawn0.refl _ | apply Drawn0.step)⟩
 rw [if_pos c3] at H
 have c3b0 : ((l0.length : Int) == (l1.length : Int)) = true := beq_iff_eq.mpr c3
 have c3b1 : ((l0.length : Int) != (l1.length : Int)) = false := bne_eq_false_iff_eq.mpr c3
 have c3b2 : (l0.length == l1.length) = true := by first | simpa using c3 | (simp at c3 ⊢; omega)
 clear c3
 have H' := Aside0.mk H
 clear H
 go_enter Try.func47, Try.ntmps47
 go_wp2
 repeat (go_quiet (fail); try go_wp2)
 go_loopg [13] k (fun kq v13 w' => ∃ (x13_1 : Int), v13 = .int .i64 x13_1 ∧ Aside0 (item_Write_47.l0 kq l0 l1 (l0.length : Int) x13_1 = some r) ∧ Aside0 (kq ≤ k) ∧ Drawn0 w w')
 case atStart => exact ⟨(0), (by first | rfl | (simp; done) | (simp [*]; done)), H', ⟨Nat.le_refl _⟩, by repeat (first | exact Drawn0.refl _ | apply Drawn0.step)⟩
 case round =>
  clear H'
  try clear c1
  try clear p2
  try clear c3
  try clear c3b0
  try clear c3b1
  try clear c3b2
  obtain ⟨x13_1, rfl, HA, HK1, ⟨m1, rfl⟩⟩ := hrel
  cases gk with
  | zero => exact absurd HA.out (by simp [item_Write_47.l0])
  | succ k1 =>
   have H := HA.out
   clear HA
   simp only [item_Write_47.l0] at H
   by_cases c4 : x13_1 < (l0.length : Int)
   rotate_left
   ·rw [if_neg c4] at H
    have c4b0 : decide (x13_1 < (l0.length : Int)) = false := decide_eq_false c4
    clear c4
    obtain rfl := Option.some.inj H
    go_wp2
    repeat (go_quiet (fail); try go_wp2)
    go_ret
    exact ⟨by first | rfl | (simp; done) | (simp [*]; done), by repeat (first | exact Drawn0.refl _ | apply Drawn0.step)⟩
   rw [if_pos c4] at H
   have c4b0 : decide (x13_1 < (l0.length : Int)) = true := decide_eq_true c4
   clear c4
   by_cases c5 : 0 ≤ x13_1
   rotate_left
   ·rw [if_neg c5] at H
    exact absurd H (by simp)
   rw [if_pos c5] at H
   have c5b0 : decide (0 ≤ x13_1) = true := decide_eq_true c5
   clear c5
   by_cases c6 : x13_1 < (l0.length : Int)
   rotate_left
   ·rw [if_neg c6] at H
    exact absurd H (by simp)
   rw [if_pos c6] at H
   have c6b0 : decide (x13_1 < (l0.length : Int)) = true := decide_eq_true c6
   clear c6
   by_cases c7 : x13_1 < (l1.length : Int)
   rotate_left
   ·rw [if_neg c7] at H
    exact absurd H (by simp)
   rw [if_pos c7] at H
   have c7b0 : decide (x13_1 < (l1.length : Int)) = true := decide_eq_true c7
   clear c7
   by_cases c8 : (!((((rd_T23 l0 x13_1).f0).toList) == (((rd_T23 l1 x13_1).f0).toList)) || (!((((rd_T23 l0 x13_1).f1).toList) == (((rd_T23 l1 x13_1).f1).toList)) || (!((((rd_T23 l0 x13_1).f2).toList) == (((rd_T23 l1 x13_1).f2).toList)) || (!(((rd_T23 l0 x13_1).f3) == ((rd_T23 l1 x13_1).f3)))))) = true
   ·rw [if_pos c8] at H
    have c8b0 : (!((((rd_T23 l0 x13_1).f0).toList) == (((rd_T23 l1 x13_1).f0).toList)) || (!((((rd_T23 l0 x13_1).f1).toList) == (((rd_T23 l1 x13_1).f1).toList)) || (!((((rd_T23 l0 x13_1).f2).toList) == (((rd_T23 l1 x13_1).f2).toList)) || (!(((rd_T23 l0 x13_1).f3) == ((rd_T23 l1 x13_1).f3)))))) = true := c8
    clear c8
    obtain rfl := Option.some.inj H
    have p141 : 0 ≤ (x13_1 : Int) := of_decide_eq_true (by first | (with_reducible assumption) | assumption)
    have q141 : x13_1 < (l0.length : Int) := of_decide_eq_true (by first | (with_reducible assumption) | assumption)
    obtain ⟨ad141, e141, hx141_0, hx141_1, hx141_2, hx141_3⟩ := at_T23 HR0.out x13_1 p141 q141
    cases e141
    replace p141 := eq_true p141
    replace q141 := eq_true q141
    have p142 : 0 ≤ (x13_1 : Int) := of_decide_eq_true (by first | (with_reducible assumption) | assumption)
    have q142 : x13_1 < (l1.length : Int) := of_decide_eq_true (by first | (with_reducible assumption) | assumption)
    obtain ⟨ad142, e142, hx142_0, hx142_1, hx142_2, hx142_3⟩ := at_T23 HR1.out x13_1 p142 q142
    cases e142
    replace p142 := eq_true p142
    replace q142 := eq_true q142
    go_wp2
    repeat (go_quiet (fail); try go_wp2)
    go_ret
    exact ⟨by first | rfl | (simp; done) | (simp [*]; done), by repeat (first | exact Drawn0.refl _ | apply Drawn0.step)⟩
   rw [if_neg c8] at H
   have c8b0 : (!((((rd_T23 l0 x13_1).f0).toList) == (((rd_T23 l1 x13_1).f0).toList)) || (!((((rd_T23 l0 x13_1).f1).toList) == (((rd_T23 l1 x13_1).f1).toList)) || (!((((rd_T23 l0 x13_1).f2).toList) == (((rd_T23 l1 x13_1).f2).toList)) || (!(((rd_T23 l0 x13_1).f3) == ((rd_T23 l1 x13_1).f3)))))) = false := by simpa using c8
   clear c8
   have H' := Aside0.mk H
   clear H
   have p141 : 0 ≤ (x13_1 : Int) := of_decide_eq_true (by first | (with_reducible assumption) | assumption)
   have q141 : x13_1 < (l0.length : Int) := of_decide_eq_true (by first | (with_reducible assumption) | assumption)
   obtain ⟨ad141, e141, hx141_0, hx141_1, hx141_2, hx141_3⟩ := at_T23 HR0.out x13_1 p141 q141
   cases e141
   replace p141 := eq_true p141
   replace q141 := eq_true q141
   have p142 : 0 ≤ (x13_1 : Int) := of_decide_eq_true (by first | (with_reducible assumption) | assumption)
   have q142 : x13_1 < (l1.length : Int) := of_decide_eq_true (by first | (with_reducible assumption) | assumption)
   obtain ⟨ad142, e142, hx142_0, hx142_1, hx142_2, hx142_3⟩ := at_T23 HR1.out x13_1 p142 q142
   cases e142
   replace p142 := eq_true p142
   replace q142 := eq_true q142
   go_wp2
   repeat (go_quiet (fail); try go_wp2)
   go_roundg k1
   case measure => have := HK1.out; omega
   case rel => exact ⟨(wrap64 (x13_1 + 1)), (by first | rfl | (simp; done) | (simp [*]; done)), H', ⟨by have := HK1.out; omega⟩, by repeat (first | exact Drawn0.refl _ | apply Drawn0.step)⟩
attribute [local go_sem high] eqA30
def item_Same.f (k : Nat) (a0_0 : Int) (a0_1 : Int) (a0_2 : Int) (a0_3 : Int) (a0_4 : Int) (l0_5 : List (S23)) (a1_0 : Int) (a1_1 : Int) (a1_2 : Int) (a1_3 : Int) (a1_4 : Int) (l1_5 : List (S23)) : Option (Bool) := if ((a0_0 == a1_0 && (a0_1 == a1_1 && (a0_2 == a1_2 && (a0_3 == a1_3)))) && (a0_4 == a1_4)) = true then ((item_Write_47.f k l0_5 l1_5).bind fun t145 => (some t145)) else (some false)
theorem item_Same.mono : ∀ a0 a1 a2 a3 a4 a5 a6 a7 a8 a9 a10 a11 k, LeO (item_Same.f k a0 a1 a2 a3 a4 a5 a6 a7 a8 a9 a10 a11) (item_Same.f (k + 1) a0 a1 a2 a3 a4 a5 a6 a7 a8 a9 a10 a11) := by
 intro a0 a1 a2 a3 a4 a5 a6 a7 a8 a9 a10 a11 k
 unfold item_Same.f
 repeat' first
   | (with_reducible exact item_Write_47.mono _ _ _)
   | (with_reducible exact LeO.refl _)
   | (with_reducible exact LeO.none _)
   | (with_reducible refine LeO.ite ?_ ?_)
   | (with_reducible refine LeO.bind ?_ (fun _ => ?_))
   | exact item_Write_47.mono _ _ _
   | exact LeO.none _
   | refine LeO.ite ?_ ?_
   | refine LeO.bind ?_ (fun _ => ?_)
set_option maxHeartbeats 8000000 in
set_option maxRecDepth 100000 in
theorem item_Same.calls (k : Nat) (a0_0 : Int) (a0_1 : Int) (a0_2 : Int) (a0_3 : Int) (a0_4 : Int) (A0_5 : Option Addr) (c0_5 : Nat) (l0_5 : List (S23)) (a1_0 : Int) (a1_1 : Int) (a1_2 : Int) (a1_3 : Int) (a1_4 : Int) (A1_5 : Option Addr) (c1_5 : Nat) (l1_5 : List (S23)) (r : Bool) (w : World) (hr0_5 : Kd.C k23 w A0_5 l0_5.length l0_5) (hc0_5 : l0_5.length ≤ c0_5) (hr1_5 : Kd.C k23 w A1_5 l1_5.length l1_5) (hc1_5 : l1_5.length ≤ c1_5) (h : item_Same.f k a0_0 a0_1 a0_2 a0_3 a0_4 l0_5 a1_0 a1_1 a1_2 a1_3 a1_4 l1_5 = some r) :
  Calls Try.prog 24 #[.agg #[.int .u64 a0_0, .int .u64 a0_1, .int .u64 a0_2, .int .u64 a0_3, .int .i64 a0_4, .slice A0_5 l0_5.length c0_5], .agg #[.int .u64 a1_0, .int .u64 a1_1, .int .u64 a1_2, .int .u64 a1_3, .int .i64 a1_4, .slice A1_5 l1_5.length c1_5]] w fun e w' => e = .returned (.bool r) ∧ Below w.heap.size w w' := by
 have hu43 := Try.underlying43
 have hu30 := Try.underlying30
 have HR0_5 := Aside0.mk hr0_5
 have HC0_5 := Aside0.mk hc0_5
 clear hr0_5 hc0_5
 have HR1_5 := Aside0.mk hr1_5
 have HC1_5 := Aside0.mk hc1_5
 clear hr1_5 hc1_5
 have HB := Aside0.mk (Below.refl w.heap.size w)
 have H : (if ((a0_0 == a1_0 && (a0_1 == a1_1 && (a0_2 == a1_2 && (a0_3 == a1_3)))) && (a0_4 == a1_4)) = true then ((item_Write_47.f k l0_5 l1_5).bind fun t145 => (some t145)) else (some false)) = some r := h
 clear h
 by_cases c3 : ((a0_0 == a1_0 && (a0_1 == a1_1 && (a0_2 == a1_2 && (a0_3 == a1_3)))) && (a0_4 == a1_4)) = true
 rotate_left
 ·rw [if_neg c3] at H
  have c3b0 : ((a0_0 == a1_0 && (a0_1 == a1_1 && (a0_2 == a1_2 && (a0_3 == a1_3)))) && (a0_4 == a1_4)) = false := by simpa using c3
  clear c3
  obtain rfl := Option.some.inj H
  go_enter Try.func24, Try.ntmps24
  go_wp2_with (first | ((with_reducible refine gate_dst (N := 2) rfl ?_); refine Ka_ 2 #[.int .u64 a0_0, .int .u64 a0_1, .int .u64 a0_2, .int .u64 a0_3, .int .i64 a0_4, .slice A0_5 l0_5.length c0_5] 43 ?_; intro gb143 hg w10 hbox hb; have BK143 := Aside0.mk (hbox); have GW143 := Kw_ HB hg; have GE143 := GW143; replace HB := Ks_ HB hb; clear hb hbox hg) | ((with_reducible refine gate_dst (N := 3) rfl ?_); refine Ka_ 3 #[.int .u64 a1_0, .int .u64 a1_1, .int .u64 a1_2, .int .u64 a1_3, .int .i64 a1_4, .slice A1_5 l1_5.length c1_5] 43 ?_; intro gb144 hg w11 hbox hb; have BK144 := Aside0.mk (hbox); have GW144 := Kw_ HB hg; have GE144 := GW144; have NB143_144 := Kl_ BK143 hg; have NB144_143 := Kr_ BK143 hg; replace BK143 := Kb_ BK143 hb; replace HB := Ks_ HB hb; clear hb hbox hg; have hnb12 := NB143_144.out; have hnc12 := NB144_143.out; obtain ⟨hcz13_0, hcz13_1, hcz13_2, hcz13_3, hcz13_4, hcz13_5, hfz13_0, hfz13_1, hfz13_2, hfz13_3, hfz13_4, hfz13_5⟩ := Ke6_ BK143.out; obtain ⟨hcz14_0, hcz14_1, hcz14_2, hcz14_3, hcz14_4, hcz14_5, hfz14_0, hfz14_1, hfz14_2, hfz14_3, hfz14_4, hfz14_5⟩ := Ke6_ BK144.out))
  go_ret
  exact ⟨Kh_, K2a_ HB GE143 GE144⟩
 rw [if_pos c3] at H
 have c3b0 : ((a0_0 == a1_0 && (a0_1 == a1_1 && (a0_2 == a1_2 && (a0_3 == a1_3)))) && (a0_4 == a1_4)) = true := c3
 clear c3
 replace H := Option.bind_eq_some_iff.mp H
 obtain ⟨t145, A40, H⟩ := H
 replace H : (some t145) = some r := H
 have A4 := Aside0.mk A40
 clear A40
 obtain rfl := Option.some.inj H
 go_enter Try.func24, Try.ntmps24
 go_wp2_with (first | ((with_reducible refine gate_dst (N := 2) rfl ?_); refine Ka_ 2 #[.int .u64 a0_0, .int .u64 a0_1, .int .u64 a0_2, .int .u64 a0_3, .int .i64 a0_4, .slice A0_5 l0_5.length c0_5] 43 ?_; intro gb143 hg w5 hbox hb; have BK143 := Aside0.mk (hbox); have GW143 := Kw_ HB hg; have GE143 := GW143; replace HB := Ks_ HB hb; clear hb hbox hg) | ((with_reducible refine gate_dst (N := 3) rfl ?_); refine Ka_ 3 #[.int .u64 a1_0, .int .u64 a1_1, .int .u64 a1_2, .int .u64 a1_3, .int .i64 a1_4, .slice A1_5 l1_5.length c1_5] 43 ?_; intro gb144 hg w6 hbox hb; have BK144 := Aside0.mk (hbox); have GW144 := Kw_ HB hg; have GE144 := GW144; have NB143_144 := Kl_ BK143 hg; have NB144_143 := Kr_ BK143 hg; replace BK143 := Kb_ BK143 hb; replace HB := Ks_ HB hb; clear hb hbox hg; have hnb7 := NB143_144.out; have hnc7 := NB144_143.out; obtain ⟨hcz8_0, hcz8_1, hcz8_2, hcz8_3, hcz8_4, hcz8_5, hfz8_0, hfz8_1, hfz8_2, hfz8_3, hfz8_4, hfz8_5⟩ := Ke6_ BK143.out; obtain ⟨hcz9_0, hcz9_1, hcz9_2, hcz9_3, hcz9_4, hcz9_5, hfz9_0, hfz9_1, hfz9_2, hfz9_3, hfz9_4, hfz9_5⟩ := Ke6_ BK144.out) | (go_at_call 47; (with_reducible refine (item_Write_47.calls k _ _ l0_5 _ _ l1_5 t145 _ ?side1 ?side2 ?side3 ?side4 A4.out).mono ?_); (case side1 => repeat (first | exact (Kd.C_below HR0_5.out HB.out) | (with_reducible refine Kd.C_alloc ?_ _) | (with_reducible refine Kd.C_drewN ?_ _) | (with_reducible refine Kd.C_drew ?_))); (case side2 => exact HC0_5.out); (case side3 => repeat (first | exact (Kd.C_below HR1_5.out HB.out) | (with_reducible refine Kd.C_alloc ?_ _) | (with_reducible refine Kd.C_drewN ?_ _) | (with_reducible refine Kd.C_drew ?_))); (case side4 => exact HC1_5.out); rintro e w' ⟨rfl, ⟨nd, rfl⟩⟩))
 go_ret
 exact ⟨Kh_, K2a_ HB GE143 GE144⟩
def crc_next.l0 : Nat → Int → Int → Option (Int)
 | 0, _, _ => none
 | k + 1, x0, x9 => if x9 < 8 then (crc_next.l0 k (Go.bits .xor .u32 (x0 / 2) (Go.bits .and .u32 3988292384 ((-(Go.bits .and .u32 x0 1)) % 4294967296))) (wrap64 (x9 + 1))) else (some x0)
def crc_next.f (k : Nat) (a0 : Int) (a1 : Int) : Option (Int) := crc_next.l0 k (Go.bits .xor .u32 a0 ((a1) % 4294967296)) 0
theorem crc_next.mono_l : ∀ k, (∀ y0 y1, LeO (crc_next.l0 k y0 y1) (crc_next.l0 (k + 1) y0 y1))
 | 0 => fun _ _ r h => by simp [crc_next.l0] at h
 | k + 1 => by
  have ih0 := crc_next.mono_l k
  ·intro y0 y1
   unfold crc_next.l0
   repeat' first
   | (with_reducible exact ih0 _ _)
   | (with_reducible exact LeO.refl _)
   | (with_reducible exact LeO.none _)
   | (with_reducible refine LeO.ite ?_ ?_)
   | (with_reducible refine LeO.bind ?_ (fun _ => ?_))
   | exact ih0 _ _
   | exact LeO.none _
   | refine LeO.ite ?_ ?_
   | refine LeO.bind ?_ (fun _ => ?_)
theorem crc_next.mono : ∀ a0 a1 k, LeO (crc_next.f k a0 a1) (crc_next.f (k + 1) a0 a1) := by
 intro a0 a1 k
 have ih0 := crc_next.mono_l k
 unfold crc_next.f
 repeat' first
   | (with_reducible exact ih0 _ _)
   | (with_reducible exact LeO.refl _)
   | (with_reducible exact LeO.none _)
   | (with_reducible refine LeO.ite ?_ ?_)
   | (with_reducible refine LeO.bind ?_ (fun _ => ?_))
   | exact ih0 _ _
   | exact LeO.none _
   | refine LeO.ite ?_ ?_
   | refine LeO.bind ?_ (fun _ => ?_)
set_option maxHeartbeats 8000000 in
set_option maxRecDepth 100000 in
theorem crc_next.calls (k : Nat) (a0 : Int) (a1 : Int) (r : Int) (w : World) (h : crc_next.f k a0 a1 = some r) :
  Calls Try.prog 68 #[.int .u32 a0, .int .u8 a1] w fun e w' => e = .returned (.int .u32 r) ∧ Drawn0 w w' := by
 have H : (crc_next.l0 k (Go.bits .xor .u32 a0 ((a1) % 4294967296)) 0) = some r := h
 clear h
 have H' := Aside0.mk H
 clear H
 go_enter Try.func68, Try.ntmps68
 go_wp2
 go_loopg [0, 9] k (fun kq v0 v9 w' => ∃ (x0_1 : Int) (x9_1 : Int), v0 = .int .u32 x0_1 ∧ v9 = .int .i64 x9_1 ∧ Aside0 (crc_next.l0 kq x0_1 x9_1 = some r) ∧ Aside0 (kq ≤ k) ∧ Drawn0 w w')
 case atStart => exact ⟨(Go.bits .xor .u32 a0 ((a1) % 4294967296)), (0), (by first | rfl | (simp; done) | (simp [*]; done)), (by first | rfl | (simp; done) | (simp [*]; done)), H', ⟨Nat.le_refl _⟩, by repeat (first | exact Drawn0.refl _ | apply Drawn0.step)⟩
 case round =>
  clear H'
  try clear p2
  obtain ⟨x0_1, x9_1, rfl, rfl, HA, HK1, ⟨m1, rfl⟩⟩ := hrel
  cases gk with
  | zero => exact absurd HA.out (by simp [crc_next.l0])
  | succ k1 =>
   have H := HA.out
   clear HA
   simp only [crc_next.l0] at H
   by_cases c3 : x9_1 < 8
   rotate_left
   ·rw [if_neg c3] at H
    have c3b0 : decide (x9_1 < 8) = false := decide_eq_false c3
    clear c3
    obtain rfl := Option.some.inj H
    go_wp2
    go_ret
    exact ⟨by first | rfl | (simp; done) | (simp [*]; done), by repeat (first | exact Drawn0.refl _ | apply Drawn0.step)⟩
   rw [if_pos c3] at H
   have c3b0 : decide (x9_1 < 8) = true := decide_eq_true c3
   clear c3
   have H' := Aside0.mk H
   clear H
   go_wp2
   go_roundg k1
   case measure => have := HK1.out; omega
   case rel => exact ⟨(Go.bits .xor .u32 (x0_1 / 2) (Go.bits .and .u32 3988292384 ((-(Go.bits .and .u32 x0_1 1)) % 4294967296))), (wrap64 (x9_1 + 1)), (by first | rfl | (simp; done) | (simp [*]; done)), (by first | rfl | (simp; done) | (simp [*]; done)), H', ⟨by have := HK1.out; omega⟩, by repeat (first | exact Drawn0.refl _ | apply Drawn0.step)⟩
def crc_Sum.fold (k : Nat) (s : ByteArray) : Nat → Option (Int)
 | 0 => some 4294967295
 | i + 1 => (crc_Sum.fold k s i).bind fun c => crc_next.f k c (bt s (i : Int))
def crc_Sum.f (k : Nat) (a0 : ByteArray) : Option (Int) :=
 if a0.size ≤ 9223372036854775807 then (crc_Sum.fold k a0 a0.size).bind fun c => some (Go.bits .xor .u32 4294967295 c) else none
theorem crc_Sum.mono_fold (s : ByteArray) (k : Nat) : ∀ n, LeO (crc_Sum.fold k s n) (crc_Sum.fold (k + 1) s n)
 | 0 => LeO.refl _
 | n + 1 => LeO.bind (crc_Sum.mono_fold s k n) (fun c => crc_next.mono _ _ _)
theorem crc_Sum.mono : ∀ a0 k, LeO (crc_Sum.f k a0) (crc_Sum.f (k + 1) a0) := by
 intro a0 k
 unfold crc_Sum.f
 exact LeO.ite (LeO.bind (crc_Sum.mono_fold _ _ _) (fun _ => LeO.refl _)) (LeO.none _)
theorem crc_Sum.fold_some {k : Nat} {s : ByteArray} : ∀ {n : Nat} {c : Int}, crc_Sum.fold k s n = some c → ∀ i, i ≤ n → ∃ d, crc_Sum.fold k s i = some d
 | 0, c, h, i, hi => by
  obtain rfl : i = 0 := by omega
  exact ⟨c, h⟩
 | n + 1, c, h, i, hi => by
  by_cases e : i = n + 1
  ·subst e; exact ⟨c, h⟩
  ·obtain ⟨d, hd, _⟩ := Option.bind_eq_some_iff.1 h
   exact crc_Sum.fold_some hd i (by omega)
set_option maxHeartbeats 1000000 in
theorem crc_Sum.calls (k : Nat) (a0 : ByteArray) (r : Int) (w : World) (h : crc_Sum.f k a0 = some r) :
  Calls Try.prog 50 #[.string a0] w fun e w' => e = .returned (.int .u32 r) ∧ Below w.heap.size w w' := by
 unfold crc_Sum.f at h
 by_cases hm : a0.size ≤ 9223372036854775807
 ·rw [if_pos hm] at h
  obtain ⟨c, hc0, hr0⟩ := Option.bind_eq_some_iff.1 h
  obtain rfl := Option.some.inj hr0
  have HC := Aside0.mk hc0
  clear h hr0 hc0
  have hcv := fun W t => Lib.run_convert_string_bytes (P := Try.prog) W 9 76 5 t Try.underlying9 Try.underlying76 Try.underlying5
  go_enter Try.func50, Try.ntmps50
  go_wp2
  obtain ⟨W, hW⟩ : ∃ W, W = Lib.bytesWorld w 5 a0 := ⟨_, rfl⟩
  have HB := Aside0.mk (show Below w.heap.size w W by rw [hW]; exact bytes_below (Below.refl _ _) (Nat.le_refl _) _ _)
  have HE := Aside0.mk (show ∀ j : Nat, j < a0.size → W.cell? ⟨w.heap.size, j, none⟩ = some (.int .u8 (bt a0 j)) by
   intro j hj
   obtain ⟨_, _, hr⟩ := bytes_reads w 5 a0 hm
   rw [← hW] at hr
   obtain ⟨ad, had, hr⟩ := hr (by omega)
   have hr := hr j hj
   simp at had
   subst had
   rw [add_plain] at hr
   rw [hr]
   have e1 : (bytesOf a0).getD j 0 = bt a0 j := rd_bytesOf a0 j
   rw [e1])
  have HS := Aside0.mk (show w.heap.size < W.heap.size by rw [hW, Lib.bytesWorld_size]; omega)
  rw [← hW]
  clear hW hcv
  go_loopw [9, 3] (fun i v wr => ∃ (j : Nat) (d : Int), j ≤ a0.size ∧ i = .int .i64 j ∧ v = .int .u32 d ∧ Aside0 (crc_Sum.fold k a0 j = some d) ∧ Aside0 (Below W.heap.size W wr)) (fun i _ _ => a0.size - (intOf i).toNat)
  case atStart => exact ⟨0, _, Nat.zero_le _, rfl, rfl, ⟨rfl⟩, ⟨Below.refl _ _⟩⟩
  case round =>
   obtain ⟨j, d, hj, rfl, rfl, HD, HW⟩ := hrel
   by_cases hlt : j < a0.size
   ·obtain ⟨d', hd'⟩ := crc_Sum.fold_some HC.out (j + 1) hlt
    have hn : crc_next.f k d (bt a0 j) = some d' := by
     have := hd'
     simp only [crc_Sum.fold] at this
     rw [HD.out] at this
     exact this
    have HN := Aside0.mk hn
    have HD' := Aside0.mk hd'
    clear hn hd'
    have hcell := (HW.out.cell (p := ⟨w.heap.size, j, none⟩) HS.out).trans (HE.out j hlt)
    go_wp2_with (go_at_call 68; refine (crc_next.calls k d (bt a0 j) d' _ HN.out).mono ?_; rintro e w1 ⟨rfl, hb1⟩; have HW1 := Aside0.mk (HW.out.trans (hb1.below.mono HW.out.size)); clear hb1)
    go_roundw
    case rel => exact ⟨j + 1, d', by omega, by go_num, rfl, HD', HW1⟩
    case measure => simp [intOf]; omega
   ·obtain rfl : j = a0.size := by omega
    obtain rfl : d = c := Option.some.inj (HD.out.symm.trans HC.out)
    go_wp2
    go_ret
    exact ⟨rfl, HB.out.trans (HW.out.mono (Nat.le_of_lt HS.out))⟩
 ·rw [if_neg hm] at h
  exact absurd h (by simp)
def item_Shard.f (k : Nat) (a0 : ByteArray) (a1 : ByteArray) (a2 : Int) : Option (Int) := if a2 < 1 then (some 1) else ((pack_Text.f k a0).bind fun t146 => ((pack_Text.f k a1).bind fun t147 => (if t146.size + t147.size ≤ 9223372036854775807 then ((crc_Sum.f k (t146 ++ t147)).bind fun t148 => (if a2 = 0 then (none) else (some (wrap64 ((Int.tmod (wrap64 (t148)) a2) + 1))))) else (none))))
theorem item_Shard.mono : ∀ a0 a1 a2 k, LeO (item_Shard.f k a0 a1 a2) (item_Shard.f (k + 1) a0 a1 a2) := by
 intro a0 a1 a2 k
 unfold item_Shard.f
 repeat' first
   | (with_reducible exact crc_Sum.mono _ _)
   | (with_reducible exact pack_Text.mono _ _)
   | (with_reducible exact LeO.refl _)
   | (with_reducible exact LeO.none _)
   | (with_reducible refine LeO.ite ?_ ?_)
   | (with_reducible refine LeO.bind ?_ (fun _ => ?_))
   | exact crc_Sum.mono _ _
   | exact pack_Text.mono _ _
   | exact LeO.none _
   | refine LeO.ite ?_ ?_
   | refine LeO.bind ?_ (fun _ => ?_)
set_option maxHeartbeats 8000000 in
set_option maxRecDepth 100000 in
theorem item_Shard.calls (k : Nat) (a0 : ByteArray) (a1 : ByteArray) (a2 : Int) (r : Int) (w : World) (h : item_Shard.f k a0 a1 a2 = some r) :
  Calls Try.prog 28 #[.string a0, .string a1, .int .i64 a2] w fun e w' => e = .returned (.int .i64 r) ∧ Below w.heap.size w w' := by
 have HB := Aside0.mk (Below.refl w.heap.size w)
 have H : (if a2 < 1 then (some 1) else ((pack_Text.f k a0).bind fun t146 => ((pack_Text.f k a1).bind fun t147 => (if t146.size + t147.size ≤ 9223372036854775807 then ((crc_Sum.f k (t146 ++ t147)).bind fun t148 => (if a2 = 0 then (none) else (some (wrap64 ((Int.tmod (wrap64 (t148)) a2) + 1))))) else (none))))) = some r := h
 (try (have Hs_ := H; simp only [ByteArray.size_append, Int.natCast_add] at Hs_))
 clear h
 by_cases c4 : a2 < 1
 ·rw [if_pos c4] at H
  have c4b0 : decide (a2 < 1) = true := decide_eq_true c4
  clear c4
  obtain rfl := Option.some.inj H
  go_enter Try.func28, Try.ntmps28
  go_wp2
  go_ret
  exact ⟨Kh_, Ky_ HB⟩
 rw [if_neg c4] at H
 have c4b0 : decide (a2 < 1) = false := decide_eq_false c4
 clear c4
 replace H := Option.bind_eq_some_iff.mp H
 obtain ⟨t146, A50, H⟩ := H
 replace H : ((pack_Text.f k a1).bind fun t147 => (if t146.size + t147.size ≤ 9223372036854775807 then ((crc_Sum.f k (t146 ++ t147)).bind fun t148 => (if a2 = 0 then (none) else (some (wrap64 ((Int.tmod (wrap64 (t148)) a2) + 1))))) else (none))) = some r := H
 have A5 := Aside0.mk A50
 clear A50
 replace H := Option.bind_eq_some_iff.mp H
 obtain ⟨t147, A60, H⟩ := H
 replace H : (if t146.size + t147.size ≤ 9223372036854775807 then ((crc_Sum.f k (t146 ++ t147)).bind fun t148 => (if a2 = 0 then (none) else (some (wrap64 ((Int.tmod (wrap64 (t148)) a2) + 1))))) else (none)) = some r := H
 have A6 := Aside0.mk A60
 clear A60
 by_cases c7 : t146.size + t147.size ≤ 9223372036854775807
 rotate_left
 ·rw [if_neg c7] at H
  exact absurd H (by simp)
 rw [if_pos c7] at H
 have c7b0 := eq_true c7
 have c7b1 : decide (t146.size + t147.size ≤ 9223372036854775807) = true := decide_eq_true c7
 try have c7b2 : (9223372036854775807 < t146.size + t147.size) = False := eq_false (Nat.not_lt.2 c7)
 replace H := Option.bind_eq_some_iff.mp H
 obtain ⟨t148, A80, H⟩ := H
 replace H : (if a2 = 0 then (none) else (some (wrap64 ((Int.tmod (wrap64 (t148)) a2) + 1)))) = some r := H
 have A8 := Aside0.mk A80
 clear A80
 by_cases c9 : a2 = 0
 ·rw [if_pos c9] at H
  exact absurd H (by simp)
 rw [if_neg c9] at H
 have c9b0 : (a2 == 0) = false := beq_eq_false_iff_ne.mpr c9
 have c9b1 : (a2 != 0) = true := bne_iff_ne.mpr c9
 obtain rfl := Option.some.inj H
 go_enter Try.func28, Try.ntmps28
 go_wp2_with (first | ((with_reducible refine gate_callee (f := 37) rfl ?_); refine Kg_ (some 10) rfl rfl Try.func37 (by kernel_rfl) rfl #[.string a0] rfl ?_; (with_reducible refine (pack_Text.calls k a0 t146 _ A5.out).mono ?_); rintro e w10 ⟨rfl, hb⟩; refine ⟨_, rfl, ?_⟩; replace HB := Ks_ HB hb; (try clear hb); (try clear hb2); (try clear hk); (try clear hi)) | ((with_reducible refine gate_callee (f := 37) rfl ?_); refine Kg_ (some 12) rfl rfl Try.func37 (by kernel_rfl) rfl #[.string a1] rfl ?_; (with_reducible refine (pack_Text.calls k a1 t147 _ A6.out).mono ?_); rintro e w11 ⟨rfl, hb⟩; refine ⟨_, rfl, ?_⟩; replace HB := Ks_ HB hb; (try clear hb); (try clear hb2); (try clear hk); (try clear hi)) | ((with_reducible refine gate_callee (f := 50) rfl ?_); refine Kg_ (some 14) rfl rfl Try.func50 (by kernel_rfl) rfl #[.string (t146 ++ t147)] rfl ?_; (with_reducible refine (crc_Sum.calls k (t146 ++ t147) t148 _ A8.out).mono ?_); rintro e w12 ⟨rfl, hb⟩; refine ⟨_, rfl, ?_⟩; replace HB := Ks_ HB hb; (try clear hb); (try clear hb2); (try clear hk); (try clear hi)))
 go_ret
 exact ⟨Kh_, Ky_ HB⟩
def item_Of.l (k : Nat) (sh n : Int) : List S23 → Option (List S23)
 | [] => some []
 | x :: xs => (item_Shard.f k x.f0 x.f1 n).bind fun t => (item_Of.l k sh n xs).bind fun r => some (if t = sh then x :: r else r)
def item_Of.f (k : Nat) (a0_0 a0_1 a0_2 a0_3 a0_4 : Int) (l0_5 : List (S23)) (a1 a2 : Int) : Option (List (S23)) := if l0_5.length < 2513169434916 then item_Of.l k a1 a2 l0_5 else none
theorem item_Of.mono_l (k : Nat) (sh n : Int) : ∀ xs, LeO (item_Of.l k sh n xs) (item_Of.l (k + 1) sh n xs)
 | [] => LeO.refl _
 | x :: xs => by
  unfold item_Of.l
  exact LeO.bind (item_Shard.mono _ _ _ _) (fun _ => LeO.bind (item_Of.mono_l k sh n xs) (fun _ => LeO.refl _))
theorem item_Of.mono : ∀ a0 a1 a2 a3 a4 a5 a6 a7 k, LeO (item_Of.f k a0 a1 a2 a3 a4 a5 a6 a7) (item_Of.f (k + 1) a0 a1 a2 a3 a4 a5 a6 a7) := by
 intro a0 a1 a2 a3 a4 a5 a6 a7 k
 unfold item_Of.f
 exact LeO.ite (item_Of.mono_l _ _ _ _) (LeO.refl _)
theorem item_Of.each (k : Nat) (sh n : Int) : ∀ (xs r : List S23), item_Of.l k sh n xs = some r → ∃ p : S23 → Int, (∀ x ∈ xs, item_Shard.f k x.f0 x.f1 n = some (p x)) ∧ r = xs.filter (fun x => decide (p x = sh))
 | [], r, h => by
  cases h
  exact ⟨fun _ => 0, fun x hx => by simp at hx, rfl⟩
 | x :: xs, r, h => by
  unfold item_Of.l at h
  obtain ⟨t, ht, h⟩ := Option.bind_eq_some_iff.1 h
  obtain ⟨r1, h1, h⟩ := Option.bind_eq_some_iff.1 h
  obtain ⟨p, hp, rfl⟩ := item_Of.each k sh n xs r1 h1
  have hq : ∀ y ∈ x :: xs, item_Shard.f k y.f0 y.f1 n = some ((item_Shard.f k y.f0 y.f1 n).getD 0) := by
   intro y hy
   rcases List.mem_cons.1 hy with rfl | hy
   ·rw [ht]; rfl
   ·rw [hp y hy]; rfl
  have hf : xs.filter (fun x => decide (p x = sh)) = xs.filter (fun x => decide ((item_Shard.f k x.f0 x.f1 n).getD 0 = sh)) := by
   apply List.filter_congr
   intro y hy
   rw [hp y hy]
   rfl
  refine ⟨fun y => (item_Shard.f k y.f0 y.f1 n).getD 0, hq, ?_⟩
  cases h
  have ht' : (item_Shard.f k x.f0 x.f1 n).getD 0 = t := by rw [ht]; rfl
  rw [hf, List.filter_cons]
  show _ = if decide ((item_Shard.f k x.f0 x.f1 n).getD 0 = sh) = true then _ else _
  rw [ht']
  by_cases c : t = sh
  ·rw [if_pos c, if_pos (decide_eq_true c)]
  ·rw [if_neg c, if_neg (by simpa using c)]
theorem item_Of.info : (Try.prog.info? 23).map (fun i => (i.zero, i.size, i.bytes)) = some (some (.agg #[(.string ⟨#[]⟩), (.string ⟨#[]⟩), (.string ⟨#[]⟩), (.bool false)]), 4, 56) := by kernel_rfl
abbrev item_Of.enc (x : S23) : Value := .agg #[.string x.f0, .string x.f1, .string x.f2, .bool x.f3]
set_option maxHeartbeats 8000000 in
set_option maxRecDepth 100000 in
theorem item_Of.pick_ (p : S23 → Bool) (g : Nat) (lb : Array Value) (eg : ∀ args w, (callFunc g args).run Try.prog w = .ok (.enter g args) w) (A : Option Addr) (c : Nat) (l : List S23) (w : World) (hl : l.length < 2513169434916) (hr : Kd.C k23 w A l.length l) (hc : l.length ≤ c)
  (hp : ∀ (W : World) (x : S23), x ∈ l → Below w.heap.size w W → Calls Try.prog g (#[item_Of.enc x] ++ lb) W fun e w' => e = .returned (.bool (p x)) ∧ Below W.heap.size W w') :
  Calls Try.prog 48 #[.slice A l.length c, .func (.func g) #[] lb] w fun e w' => ∃ v0_ : Value, e = .returned (v0_) ∧ Kd.R k23 23 w' w.heap.size (fun _ => True) v0_ (l.filter p) ∧ Below w.heap.size w w' := by
 have hu23 := Try.underlying23
 have HR0 := Aside0.mk hr
 clear hr
 have HB := Aside0.mk (Below.refl w.heap.size w)
 have HP := Aside0.mk hp
 clear hp
 go_enter Try.func48, Try.ntmps48
 go_wp2
 go_loopg [5, 10] l.length (fun kq v5 v10 w' => ∃ (j : Nat), v10 = .int .i64 j ∧ Aside0 (j ≤ l.length) ∧ Aside0 (l.length - j ≤ kq) ∧ Aside0 (Kd.R k23 23 w' w.heap.size (fun _ => True) v5 ((l.take j).filter p)) ∧ Aside0 (Below w.heap.size w w'))
 case atStart => exact ⟨0, rfl, ⟨by omega⟩, ⟨by omega⟩, ⟨Kd.R_nil _ _ _ _ _⟩, HB⟩
 case round =>
  obtain ⟨j, rfl, HJ, HK, HO, HB⟩ := hrel
  by_cases c1 : j < l.length
  rotate_left
  ·have c1b : decide ((j : Int) < (l.length : Int)) = false := decide_eq_false (by omega)
   have e : l.take j = l := List.take_of_length_le (by omega)
   rw [e] at HO
   go_wp2
   go_ret
   exact ⟨_, rfl, HO.out, HB.out⟩
  ·have c1b : decide ((j : Int) < (l.length : Int)) = true := decide_eq_true (by omega)
   have c0b : decide (0 ≤ (j : Int)) = true := decide_eq_true (by omega)
   have hx : l[j]? = .some (rd_T23 l j) := by
    unfold rd_T23
    rw [Int.toNat_natCast, List.getD_eq_getElem?_getD, List.getElem?_eq_getElem c1]
    rfl
   have hm : rd_T23 l j ∈ l := List.mem_of_getElem? hx
   obtain ⟨ad, e0, h0, h1, h2, h3⟩ := at_T23 HR0.out (j : Int) (by omega) (by omega)
   cases e0
   replace h0 := (HB.out.cell (World.block_lt_of_cell? w _ h0)).trans h0
   replace h1 := (HB.out.cell (World.block_lt_of_cell? w _ h1)).trans h1
   replace h2 := (HB.out.cell (World.block_lt_of_cell? w _ h2)).trans h2
   replace h3 := (HB.out.cell (World.block_lt_of_cell? w _ h3)).trans h3
   have HX := Aside0.mk (show (l.take (j + 1)).filter p = (l.take j).filter p ++ (if p (rd_T23 l j) = true then [rd_T23 l j] else []) by
    rw [List.take_add_one, hx, List.filter_append]
    simp only [Option.toList, List.filter_cons, List.filter_nil])
   clear hx
   generalize rd_T23 l j = x at *
   obtain ⟨x0, x1, x2, x3⟩ := x
   simp only [Int.toNat_natCast] at h0 h1 h2 h3
   have LM := Aside0.mk (show ((l.take j).filter p).length < 2513169434916 by
    have i1 := List.length_filter_le p (l.take j)
    have i2 := List.length_take_le j l
    omega)
   have HQ := Aside0.mk (below_alloc HB.out (Obj.cells #[.string x0, .string x1, .string x2, .bool x3] 23))
   have HO1 : Aside0 (Kd.R k23 23 (wr.alloc (Obj.cells #[.string x0, .string x1, .string x2, .bool x3] 23)) w.heap.size (fun _ => True) u5 ((l.take j).filter p)) := ⟨by apply Kd.R_alloc; exact HO.out⟩
   have hbk0 : (wr.alloc (Obj.cells #[.string x0, .string x1, .string x2, .bool x3] 23)).heap[wr.heap.size]? = some (Obj.cells #[.string x0, .string x1, .string x2, .bool x3] 23 (0, 0)) := blk_new _ _
   have hcall := HP.out (wr.alloc (Obj.cells #[.string x0, .string x1, .string x2, .bool x3] 23)) ⟨x0, x1, x2, x3⟩ hm HQ.out
   have hbk := Aside0.mk hbk0
   clear hbk0
   have HX' := HX.out
   clear HX HO HB hm
   cases hq : p ⟨x0, x1, x2, x3⟩ with
   | true =>
    rw [hq] at hcall HX'
    rw [if_pos rfl] at HX'
    have HC := Aside0.mk hcall
    clear hcall
    replace HX' := Aside0.mk HX'
    go_wp2_with (fail)
    refine HC.out.mono ?_
    rintro e w1 ⟨rfl, hb⟩
    have BK := blk_below hbk.out hb
    replace HO1 := Aside0.mk (Kd.R_below HO1.out hb)
    replace HQ := Aside0.mk (below_step HQ.out hb)
    clear hb hbk HC
    obtain ⟨k0, k1, k2, k3, z0, z1, z2, z3⟩ := Ke4_ BK
    clear BK
    go_wp2_with (first | ((with_reducible refine gate_builtin (b := .append) (xs := #[.tmp 17, .tmp 19]) rfl ?_); at_builtin; refine Kd.R_append k23 (w0 := w) w.heap.size rfl (.tmp 17) (.tmp 19) 41 23 (.agg #[(.string ⟨#[]⟩), (.string ⟨#[]⟩), (.string ⟨#[]⟩), (.bool false)]) 56 rfl Try.underlying41 item_Of.info rfl (by decide) (by omega) u5 ((l.take j).filter p) ⟨x0, x1, x2, x3⟩ [.string x0, .string x1, .string x2, .bool x3] (fun _ => True) (fun _ => False) rfl rfl ?aP (fun _ hk => hk.elim) ?aF ?aO ?aB ?aS ?aL ?_; (case aP => exact k23_mkM _ _ _ ⟨x0, x1, x2, x3⟩); (case aB => exact HQ.out); (case aF => exact (fun _ _ => trivial)); (case aO => exact HO1.out); (case aS => exact (below_size HQ.out)); (case aL => have := LM.out; omega); intro v1 w2 ho hb hg hat; rw [← HX'.out] at ho; have HO2 := Aside0.mk ho; have HB2 := Aside0.mk hb; clear ho hb hg hat))
    go_roundg (l.length - (j + 1))
    case measure => have := HK.out; omega
    case rel => exact ⟨j + 1, by first | rfl | (rw [show ((j + 1 : Nat) : Int) = (j : Int) + 1 by omega]; rfl) | (rw [show ((j + 1 : Nat) : Int) = (j : Int) + 1 by omega]; congr 1; exact wrap64_id (by omega) (by omega)), ⟨by omega⟩, ⟨by omega⟩, HO2, HB2⟩
   | false =>
    rw [hq] at hcall HX'
    rw [if_neg (by simp), List.append_nil] at HX'
    have HC := Aside0.mk hcall
    clear hcall
    replace HX' := Aside0.mk HX'
    go_wp2_with (fail)
    refine HC.out.mono ?_
    rintro e w1 ⟨rfl, hb⟩
    replace HO1 := Aside0.mk (Kd.R_below HO1.out hb)
    replace HQ := Aside0.mk (below_step HQ.out hb)
    clear hb hbk HC
    go_wp2
    go_roundg (l.length - (j + 1))
    case measure => have := HK.out; omega
    case rel => exact ⟨j + 1, by first | rfl | (rw [show ((j + 1 : Nat) : Int) = (j : Int) + 1 by omega]; rfl) | (rw [show ((j + 1 : Nat) : Int) = (j : Int) + 1 by omega]; congr 1; exact wrap64_id (by omega) (by omega)), ⟨by omega⟩, ⟨by omega⟩, ⟨by rw [HX'.out]; exact HO1.out⟩, HQ⟩
theorem item_Of.boxes3 (w : World) (xs ys zs : Array Value) (t1 t2 t3 : TypeId) (W : World) (h : ((w.alloc (.cells xs t1)).alloc (.cells ys t2)).alloc (.cells zs t3) = W) :
  W.heap[w.heap.size]? = some (.cells xs t1 (0,0)) ∧ W.heap[w.heap.size+1]? = some (.cells ys t2 (0,0)) ∧ W.heap[w.heap.size+1+1]? = some (.cells zs t3 (0,0)) ∧ Below w.heap.size w W := by
 subst h
 have s1 : (w.alloc (.cells xs t1)).heap.size = w.heap.size + 1 := by simp [World.alloc, -World.alloc_eq]
 have s2 : ((w.alloc (.cells xs t1)).alloc (.cells ys t2)).heap.size = w.heap.size + 1 + 1 := by simp [World.alloc, -World.alloc_eq]
 refine ⟨blk_alloc (blk_alloc (blk_new _ _) _) _, ?_, ?_, below_alloc (below_alloc (below_alloc (Below.refl _ _) _) _) _⟩
 ·rw [← s1]; exact blk_alloc (blk_new _ _) _
 ·rw [← s2]; exact blk_new _ _
theorem item_Of.keep_ {w w1 : World} {p : Addr} {v : Value} (hb : Below w.heap.size w w1) (h : w.cell? p = some v) : w1.cell? p = some v := (hb.cell (World.block_lt_of_cell? w p h)).trans h
theorem item_Of.enters_ (P : Program) {f : FuncId} {fn : Func} {c : Code} (hf : P.funcs[f]? = some fn) (hname : (fn.name == "runtime.NumGoroutine") = false) (hb : fn.body = some c) (args : Array Value) (w : World) : (callFunc f args).run P w = .ok (.enter f args) w := by
 have h1 : fn.name ≠ "runtime.NumGoroutine" := by simpa using hname
 simp [callFunc, hf, h1, hb, mark]
set_option maxHeartbeats 8000000 in
set_option maxRecDepth 100000 in
theorem item_Of.clos (k : Nat) (sh n t : Int) (B1 B2 : Nat) (x0 x1 x2 : ByteArray) (x3 : Bool) (w : World) (h : item_Shard.f k x0 x1 n = some t) (l1 : B1 < w.heap.size) (l2 : B2 < w.heap.size) (c1 : w.cell? ⟨B1, 0, none⟩ = some (.int .i64 n)) (c2 : w.cell? ⟨B2, 0, none⟩ = some (.int .i64 sh)) :
  Calls Try.prog 49 #[.agg #[.string x0, .string x1, .string x2, .bool x3], .pointer (some ⟨B1, 0, none⟩), .pointer (some ⟨B2, 0, none⟩)] w fun e w' => e = .returned (.bool (decide (t = sh))) ∧ Below w.heap.size w w' := by
 have HB := Aside0.mk (Below.refl w.heap.size w)
 have n1 : B1 ≠ w.heap.size := by omega
 have n2 : B2 ≠ w.heap.size := by omega
 go_enter Try.func49, Try.ntmps49
 go_wp2_with (fail)
 have hbk : (w.alloc (Obj.cells #[.string x0, .string x1, .string x2, .bool x3] 23)).heap[w.heap.size]? = some (Obj.cells #[.string x0, .string x1, .string x2, .bool x3] 23 (0, 0)) := blk_new _ _
 replace HB := Aside0.mk (below_alloc HB.out (Obj.cells #[.string x0, .string x1, .string x2, .bool x3] 23))
 have d1 := (World.cell?_alloc_lt w (Obj.cells #[.string x0, .string x1, .string x2, .bool x3] 23) ⟨B1, 0, none⟩ l1).trans c1
 have d2 := (World.cell?_alloc_lt w (Obj.cells #[.string x0, .string x1, .string x2, .bool x3] 23) ⟨B2, 0, none⟩ l2).trans c2
 clear c1 c2
 generalize w.alloc (Obj.cells #[.string x0, .string x1, .string x2, .bool x3] 23) = W0 at *
 obtain ⟨k0, k1, k2, k3, z0, z1, z2, z3⟩ := Ke4_ hbk
 clear hbk z0 z1 z2 z3 k2 k3
 have hb0 := Aside0.mk (rfl : w.heap.size = w.heap.size)
 generalize hg : w.heap.size = gb at k0 k1 ⊢
 replace hg := Aside0.mk hg
 go_region_held3 (fun w' => w'.cell? ⟨gb, 0, none⟩ = some (.string x0) ∧ w'.cell? ⟨gb, 1, none⟩ = some (.string x1) ∧ w'.cell? ⟨B1, 0, none⟩ = some (.int .i64 n) ∧ w'.cell? ⟨B2, 0, none⟩ = some (.int .i64 sh))
  (first | go_keep | (go_split_ands; refine ⟨?_, ?_, ?_, ?_⟩ <;> exact item_Of.keep_ hb (by assumption)))
  (first | (go_at_call 28; refine (item_Shard.calls k x0 x1 n t _ h).mono ?_; rintro e w1 ⟨rfl, hb⟩))
 go_wp2
 go_ret
 exact ⟨rfl, by first | exact below_step HB.out hb | exact below_step (below_drew1 HB.out) hb⟩
set_option maxHeartbeats 8000000 in
set_option maxRecDepth 100000 in
theorem item_Of.calls (k : Nat) (a0_0 a0_1 a0_2 a0_3 a0_4 : Int) (A0_5 : Option Addr) (c0_5 : Nat) (l0_5 : List (S23)) (a1 a2 : Int) (r : List (S23)) (w : World) (hr0_5 : Kd.C k23 w A0_5 l0_5.length l0_5) (hc0_5 : l0_5.length ≤ c0_5) (h : item_Of.f k a0_0 a0_1 a0_2 a0_3 a0_4 l0_5 a1 a2 = some r) :
  Calls Try.prog 26 #[.agg #[.int .u64 a0_0, .int .u64 a0_1, .int .u64 a0_2, .int .u64 a0_3, .int .i64 a0_4, .slice A0_5 l0_5.length c0_5], .int .i64 a1, .int .i64 a2] w fun e w' => ∃ v0_ : Value, e = .returned (v0_) ∧ Kd.R k23 23 w' w.heap.size (fun _ => True) v0_ r ∧ Below w.heap.size w w' := by
 unfold item_Of.f at h
 by_cases hl : l0_5.length < 2513169434916
 rotate_left
 ·rw [if_neg hl] at h; cases h
 rw [if_pos hl] at h
 obtain ⟨p, hp, rfl⟩ := item_Of.each k a1 a2 l0_5 r h
 clear h
 have HR := Aside0.mk hr0_5
 have HP := Aside0.mk hp
 clear hr0_5 hp
 have HB := Aside0.mk (Below.refl w.heap.size w)
 go_enter Try.func26, Try.ntmps26
 go_wp2_with (fail)
 generalize hW : (((w.alloc (Obj.cells _ 43)).alloc (Obj.cells #[Value.int IntKind.i64 a1] 3)).alloc (Obj.cells #[Value.int IntKind.i64 a2] 3)) = W0
 obtain ⟨hA, hB, hC, HB0⟩ := item_Of.boxes3 _ _ _ _ _ _ _ _ hW
 clear hW hA
 have lB := blk_lt hB
 have lC := blk_lt hC
 have HB1 := Aside0.mk HB0
 have hsz := HB0.size
 clear HB0 HB
 have hR0 := Kd.C_below HR.out HB1.out
 refine (item_Of.pick_ (fun x => decide (p x = a1)) 49 #[Value.pointer (some ⟨w.heap.size + 1 + 1, 0, none⟩), Value.pointer (some ⟨w.heap.size + 1, 0, none⟩)] (item_Of.enters_ Try.prog Try.func49 (by kernel_rfl) rfl) A0_5 c0_5 l0_5 W0 hl hR0 hc0_5 ?hp).mono ?_
 case hp =>
  intro W x hx hb
  have hs := hb.size
  obtain ⟨x0, x1, x2, x3⟩ := x
  exact item_Of.clos k a1 a2 _ (w.heap.size + 1 + 1) (w.heap.size + 1) x0 x1 x2 x3 W (HP.out _ hx) (by omega) (by omega) ((blk_cell (blk_below hC hb) 0).trans rfl) ((blk_cell (blk_below hB hb) 0).trans rfl)
 rintro e w1 ⟨v, rfl, hR, hb⟩
 have hR1 := Aside0.mk (Kd.R_lower hR hsz)
 have HB2 := Aside0.mk (below_step HB1.out hb)
 clear hR hb hB hC lB lC hR0
 go_wp2
 go_ret
 exact ⟨v, rfl, hR1.out, HB2.out⟩
theorem pack_Reader_Number.bytesWorld_frozen (w : World) (e : TypeId) (s : ByteArray) (a : Addr) (ha : a.block < w.heap.size) : (Lib.bytesWorld w e s).frozen? a = w.frozen? a :=
 (bytes_below (Below.refl _ _) (Nat.le_refl _) e s).frozen ha
theorem pack_Reader_Number.bt_extract0 (s : ByteArray) (n k : Nat) (hk : k < n) (hs : n ≤ s.size) : bt (s.extract 0 n) k = bt s k := by
 unfold bt
 rw [dif_pos (by simp; omega), dif_pos (by simp; omega)]
 simp [ByteArray.getElem_extract]
def rnum (s : ByteArray) : Nat → Int
 | 0 => 0
 | k + 1 => Go.bits .or .u64 (IntKind.u64.wrap (rnum s k * 256)) (IntKind.u64.wrap (bt s k))
def pack_Reader_Number.f (a0_0 : ByteArray) (a0_1 : Bool) (a1 : Int) : Option (Int × ByteArray × Bool) :=
 if a0_0.size ≤ 9223372036854775807 then
  (if a0_1 = true then some (0, (⟨#[]⟩ : ByteArray), true) else if a1 < 1 then some (0, (⟨#[]⟩ : ByteArray), true) else if 8 < a1 then some (0, (⟨#[]⟩ : ByteArray), true)
   else if (a0_0.size : Int) < a1 then some (0, (⟨#[]⟩ : ByteArray), true) else some (rnum a0_0 a1.toNat, a0_0.extract a1.toNat a0_0.size, false))
 else none
theorem pack_Reader_Number.some_ (s : ByteArray) (n : Nat) (h1 : 1 ≤ n) (h8 : n ≤ 8) (hs : n ≤ s.size) (hm : s.size ≤ 9223372036854775807) (w : World) :
  Calls Try.prog 53 #[.agg #[.string s, .bool false], .int .i64 n] w fun e w' => e = .returned (.tuple #[.int .u64 (rnum s n), .agg #[.string (s.extract n s.size), .bool false]]) ∧ Below w.heap.size w w' := by
 have hcv := fun W t => Lib.run_convert_string_bytes (P := Try.prog) W 9 76 5 t Try.underlying9 Try.underlying76 Try.underlying5
 have b1 : decide ((n : Int) < 1) = false := by simp; omega
 have b2 : decide ((8 : Int) < (n : Int)) = false := by simp; omega
 have b3 : decide (s.size < n) = false := by simp; omega
 go_enter Try.func53, Try.ntmps53
 go_wp2
 obtain ⟨W, hW⟩ : ∃ W, W = Lib.bytesWorld ((w.alloc (Obj.cells #[Value.string s, Value.bool false] 97)).alloc (Obj.cells #[Value.string { data := #[] }, Value.bool false] 97)) 5 (s.extract 0 n) := ⟨_, rfl⟩
 have hbel : Below w.heap.size w W := by
  rw [hW]
  exact bytes_below (((Below.refl _ _).alloc (Nat.le_refl _) _).alloc (by simp) _) (by simp; omega) _ _
 have hsz : W.heap.size = w.heap.size + 3 := by rw [hW, Lib.bytesWorld_size]; simp
 have hc0 : W.cell? ⟨w.heap.size, 0, none⟩ = some (.string s) := by
  rw [hW, Lib.bytesWorld_old _ _ _ _ (by simp; omega)]; simp [go_sem]
 have hc2 : W.cell? ⟨w.heap.size + 1, 0, none⟩ = some (.string ⟨#[]⟩) := by
  rw [hW, Lib.bytesWorld_old _ _ _ _ (by simp)]; simp [go_sem]
 have hc3 : W.cell? ⟨w.heap.size + 1, 1, none⟩ = some (.bool false) := by
  rw [hW, Lib.bytesWorld_old _ _ _ _ (by simp)]; simp [go_sem]
 have hf2 : W.frozen? ⟨w.heap.size + 1, 0, none⟩ = false := by
  rw [hW, pack_Reader_Number.bytesWorld_frozen _ _ _ _ (by simp)]; simp [go_sem]
 have hf3 : W.frozen? ⟨w.heap.size + 1, 1, none⟩ = false := by
  rw [hW, pack_Reader_Number.bytesWorld_frozen _ _ _ _ (by simp)]; simp [go_sem]
 have hel : ∀ k : Nat, k < n → W.cell? ⟨w.heap.size + 1 + 1, k, none⟩ = some (.int .u8 (bt s k)) := by
  intro k hk
  obtain ⟨_, _, hr⟩ := bytes_reads ((w.alloc (Obj.cells #[Value.string s, Value.bool false] 97)).alloc (Obj.cells #[Value.string { data := #[] }, Value.bool false] 97)) 5 (s.extract 0 n) (by simp; omega)
  rw [← hW] at hr
  obtain ⟨ad, had, hr⟩ := hr (by simp; omega)
  have hr := hr k (by simp; omega)
  simp at had
  subst had
  rw [add_plain] at hr
  rw [hr]
  have e1 : (bytesOf (s.extract 0 n)).getD k 0 = bt (s.extract 0 n) k := rd_bytesOf (s.extract 0 n) k
  rw [e1, pack_Reader_Number.bt_extract0 _ _ _ hk hs]
 rw [← hW]
 clear hW hcv
 go_loop [32, 4] (fun i v => ∃ k : Nat, k ≤ n ∧ i = .int .i64 k ∧ v = .int .u64 (rnum s k)) (fun i _ => n - (intOf i).toNat)
 case atStart => exact ⟨0, Nat.zero_le _, rfl, rfl⟩
 case round =>
  obtain ⟨k, hk, rfl, rfl⟩ := hrel
  by_cases hlt : k < n
  ·have hcell := hel k hlt
   clear hel
   go_wp2
   go_round
   case rel => exact ⟨k + 1, by omega, by go_num, rfl⟩
   case measure => simp [intOf]; omega
  ·obtain rfl : k = n := by omega
   clear hel
   go_wp2
   go_region
   all_goals go_wp2
   refine bodyPost_ret (v := .tuple #[.int .u64 (rnum s k), .agg #[.string (s.extract k s.size), .bool false]]) (by simp [results, Try.results53, go_sem, hc2, hc3, hf2, hf3]) rfl ⟨rfl, ?_⟩
   exact ((hbel.setCell (by simp) _).setCell (by simp) _).drew
theorem pack_Reader_Number.bad_ (s : ByteArray) (b : Bool) (a1 : Int) (h : b = true ∨ b = false ∧ (a1 < 1 ∨ 8 < a1 ∨ (s.size : Int) < a1)) (w : World) :
  Calls Try.prog 53 #[.agg #[.string s, .bool b], .int .i64 a1] w fun e w' => e = .returned (.tuple #[.int .u64 0, .agg #[.string ⟨#[]⟩, .bool true]]) ∧ Below w.heap.size w w' := by
 rcases h with rfl | ⟨rfl, h⟩
 ·go_enter Try.func53, Try.ntmps53
  go_wp2
  refine bodyPost_ret (v := .agg #[.string ⟨#[]⟩, .bool true]) (by simp [results, Try.results71, go_sem]) rfl ?_
  go_wp2
  refine bodyPost_ret (v := .tuple #[.int .u64 0, .agg #[.string ⟨#[]⟩, .bool true]]) (by simp [results, Try.results53, go_sem]) rfl ⟨rfl, ?_⟩
  repeat (first | exact Below.refl _ _ | apply below_alloc | apply below_drew | refine Below.setCell ?_ (by simp) _)
 ·rcases h with h | h | h
  ·have b1 : decide (a1 < 1) = true := decide_eq_true h
   go_enter Try.func53, Try.ntmps53
   go_wp2
   refine bodyPost_ret (v := .agg #[.string ⟨#[]⟩, .bool true]) (by simp [results, Try.results71, go_sem]) rfl ?_
   go_wp2
   refine bodyPost_ret (v := .tuple #[.int .u64 0, .agg #[.string ⟨#[]⟩, .bool true]]) (by simp [results, Try.results53, go_sem]) rfl ⟨rfl, ?_⟩
   repeat (first | exact Below.refl _ _ | apply below_alloc | apply below_drew | refine Below.setCell ?_ (by simp) _)
  ·have b1 : decide (8 < a1) = true := decide_eq_true h
   have b2 : decide (a1 < 1) = false := decide_eq_false (by omega)
   go_enter Try.func53, Try.ntmps53
   go_wp2
   refine bodyPost_ret (v := .agg #[.string ⟨#[]⟩, .bool true]) (by simp [results, Try.results71, go_sem]) rfl ?_
   go_wp2
   refine bodyPost_ret (v := .tuple #[.int .u64 0, .agg #[.string ⟨#[]⟩, .bool true]]) (by simp [results, Try.results53, go_sem]) rfl ⟨rfl, ?_⟩
   repeat (first | exact Below.refl _ _ | apply below_alloc | apply below_drew | refine Below.setCell ?_ (by simp) _)
  ·by_cases h1 : a1 < 1
   ·have b1 : decide (a1 < 1) = true := decide_eq_true h1
    clear h
    go_enter Try.func53, Try.ntmps53
    go_wp2
    refine bodyPost_ret (v := .agg #[.string ⟨#[]⟩, .bool true]) (by simp [results, Try.results71, go_sem]) rfl ?_
    go_wp2
    refine bodyPost_ret (v := .tuple #[.int .u64 0, .agg #[.string ⟨#[]⟩, .bool true]]) (by simp [results, Try.results53, go_sem]) rfl ⟨rfl, ?_⟩
    repeat (first | exact Below.refl _ _ | apply below_alloc | apply below_drew | refine Below.setCell ?_ (by simp) _)
   ·by_cases h8 : 8 < a1
    ·have b1 : decide (8 < a1) = true := decide_eq_true h8
     clear h
     have b2 : decide (a1 < 1) = false := decide_eq_false (by omega)
     go_enter Try.func53, Try.ntmps53
     go_wp2
     refine bodyPost_ret (v := .agg #[.string ⟨#[]⟩, .bool true]) (by simp [results, Try.results71, go_sem]) rfl ?_
     go_wp2
     refine bodyPost_ret (v := .tuple #[.int .u64 0, .agg #[.string ⟨#[]⟩, .bool true]]) (by simp [results, Try.results53, go_sem]) rfl ⟨rfl, ?_⟩
     repeat (first | exact Below.refl _ _ | apply below_alloc | apply below_drew | refine Below.setCell ?_ (by simp) _)
    ·have b1 : decide (8 < a1) = false := decide_eq_false (by omega)
     have b2 : decide (a1 < 1) = false := decide_eq_false (by omega)
     have b3 : decide ((s.size : Int) < a1) = true := decide_eq_true h
     go_enter Try.func53, Try.ntmps53
     go_wp2
     refine bodyPost_ret (v := .agg #[.string ⟨#[]⟩, .bool true]) (by simp [results, Try.results71, go_sem]) rfl ?_
     go_wp2
     refine bodyPost_ret (v := .tuple #[.int .u64 0, .agg #[.string ⟨#[]⟩, .bool true]]) (by simp [results, Try.results53, go_sem]) rfl ⟨rfl, ?_⟩
     repeat (first | exact Below.refl _ _ | apply below_alloc | apply below_drew | refine Below.setCell ?_ (by simp) _)
theorem pack_Reader_Number.calls (a0_0 : ByteArray) (a0_1 : Bool) (a1 : Int) (r1 : Int) (r2 : ByteArray) (r3 : Bool) (w : World) (h : pack_Reader_Number.f a0_0 a0_1 a1 = some (r1, r2, r3)) :
  Calls Try.prog 53 #[.agg #[.string a0_0, .bool a0_1], .int .i64 a1] w fun e w' => e = .returned (.tuple #[.int .u64 r1, .agg #[.string r2, .bool r3]]) ∧ Below w.heap.size w w' := by
 unfold pack_Reader_Number.f at h
 by_cases hm : a0_0.size ≤ 9223372036854775807
 ·rw [if_pos hm] at h
  by_cases c0 : a0_1 = true
  ·rw [if_pos c0] at h
   simp only [Option.some.injEq, Prod.mk.injEq] at h
   obtain ⟨rfl, rfl, rfl⟩ := h
   exact pack_Reader_Number.bad_ _ _ _ (.inl c0) w
  ·rw [if_neg c0] at h
   have c0' : a0_1 = false := by simpa using c0
   by_cases c1 : a1 < 1
   ·rw [if_pos c1] at h
    simp only [Option.some.injEq, Prod.mk.injEq] at h
    obtain ⟨rfl, rfl, rfl⟩ := h
    exact pack_Reader_Number.bad_ _ _ _ (.inr ⟨c0', .inl c1⟩) w
   ·rw [if_neg c1] at h
    by_cases c2 : 8 < a1
    ·rw [if_pos c2] at h
     simp only [Option.some.injEq, Prod.mk.injEq] at h
     obtain ⟨rfl, rfl, rfl⟩ := h
     exact pack_Reader_Number.bad_ _ _ _ (.inr ⟨c0', .inr (.inl c2)⟩) w
    ·rw [if_neg c2] at h
     by_cases c3 : (a0_0.size : Int) < a1
     ·rw [if_pos c3] at h
      simp only [Option.some.injEq, Prod.mk.injEq] at h
      obtain ⟨rfl, rfl, rfl⟩ := h
      exact pack_Reader_Number.bad_ _ _ _ (.inr ⟨c0', .inr (.inr c3)⟩) w
     ·rw [if_neg c3] at h
      simp only [Option.some.injEq, Prod.mk.injEq] at h
      obtain ⟨rfl, rfl, rfl⟩ := h
      obtain ⟨n, rfl⟩ := Int.eq_ofNat_of_zero_le (show 0 ≤ a1 by omega)
      subst c0'
      rw [Int.toNat_natCast]
      exact pack_Reader_Number.some_ a0_0 n (by omega) (by omega) (by omega) hm w
 ·rw [if_neg hm] at h
  exact absurd h (by simp)
end Go.Proofs.Ytoogchgoiciggaa.Q
