import Derived.Test.YtoagfdpgnfinhaaQx0
import Derived.Test.YtoagfdpgnfinhaaGStreamReady1
import Derived.Test.YtoagfdpgnfinhaaGStreamReady0
namespace Go.Proofs.Ytoagfdpgnfinhaa.Q
open Go.RowKit Go.Proofs.YtoagfdpgnfinhaaW.PrintWords Go.Proofs.YtoagfdpgnfinhaaW.PrintLast Go.Proofs.YtoagfdpgnfinhaaW.PrintMore
attribute [local go_sem] max2_int min2_int max_two min_two max_three min_three max_four min_four   -- for this text's walks alone
set_option linter.unusedVariables false
set_option linter.unusedSimpArgs false
/-! ### stream_Put: function 27 -/
def stream_Put.f (k : Nat) (a0_0 : Int) (a0_1 : Int) (a0_2 : Int) (a0_3 : Int) (a0_4 : Int) (a0_5 : Int) (a0_6 : Int) (a0_7 : Int) (l0_8 : List (S107)) : Option (ByteArray × Bool) := (stream_Right.f k a0_0 a0_1 a0_2 a0_3 a0_4 a0_5 a0_6 a0_7 l0_8).bind fun t150 => (if t150 = true then ((pack_Number.f (IntKind.u64.wrap (a0_0)) 1).bind fun t151 => ((pack_Number.f (IntKind.u64.wrap (a0_1)) 1).bind fun t152 => (if t151.size + t152.size ≤ 9223372036854775807 then ((pack_Vary.f k a0_2).bind fun t153 => (if (t151 ++ t152).size + t153.size ≤ 9223372036854775807 then ((item_Bytes.f k a0_3 a0_4 a0_5 a0_6 a0_7 l0_8).bind fun bt154 => (if bt154.2 = true then ((pack_Text.f k bt154.1).bind fun t156 => (if ((t151 ++ t152) ++ t153).size + t156.size ≤ 9223372036854775807 then ((crc_Sum.f k (((t151 ++ t152) ++ t153) ++ t156)).bind fun t157 => ((pack_Number.f (IntKind.u64.wrap (t157)) 4).bind fun t158 => (if (((t151 ++ t152) ++ t153) ++ t156).size + t158.size ≤ 9223372036854775807 then (some ((((t151 ++ t152) ++ t153) ++ t156) ++ t158, true)) else (none)))) else (none))) else ((crc_Sum.f k ((t151 ++ t152) ++ t153)).bind fun t159 => ((pack_Number.f (IntKind.u64.wrap (t159)) 4).bind fun t160 => (if ((t151 ++ t152) ++ t153).size + t160.size ≤ 9223372036854775807 then (some (((t151 ++ t152) ++ t153) ++ t160, true)) else (none)))))) else (none))) else (none)))) else (some ((⟨#[]⟩ : ByteArray), false)))
theorem stream_Put.mono : ∀ a0 a1 a2 a3 a4 a5 a6 a7 a8 k, LeO (stream_Put.f k a0 a1 a2 a3 a4 a5 a6 a7 a8) (stream_Put.f (k + 1) a0 a1 a2 a3 a4 a5 a6 a7 a8) := by
  intro a0 a1 a2 a3 a4 a5 a6 a7 a8 k
  unfold stream_Put.f
  repeat' first
      | (with_reducible exact crc_Sum.mono _ _)
      | (with_reducible exact item_Bytes.mono _ _ _ _ _ _ _)
      | (with_reducible exact pack_Text.mono _ _)
      | (with_reducible exact pack_Vary.mono _ _)
      | (with_reducible exact stream_Right.mono _ _ _ _ _ _ _ _ _ _)
      | (with_reducible exact LeO.refl _)
      | (with_reducible exact LeO.none _)
      | (with_reducible refine LeO.ite ?_ ?_)
      | (with_reducible refine LeO.bind ?_ (fun _ => ?_))
      | exact crc_Sum.mono _ _
      | exact item_Bytes.mono _ _ _ _ _ _ _
      | exact pack_Text.mono _ _
      | exact pack_Vary.mono _ _
      | exact stream_Right.mono _ _ _ _ _ _ _ _ _ _
      | exact LeO.none _
      | refine LeO.ite ?_ ?_
      | refine LeO.bind ?_ (fun _ => ?_)
def stream_Put.T3 : Bool × List (List Nat × List Nat) := (true, [([], []), ([0], [0]), ([1], [1]), ([2], [2]), ([], []), ([4], [4]), ([5], [5]), ([6, 3], [6]), ([3, 7], [3, 7]), ([], []), ([9], [9]), ([10, 7], [10]), ([8, 11], [8, 11]), ([12, 11, 0, 1, 2, 3, 4, 5, 6, 7, 8, 9, 10, 11, 12], [12])])
def stream_Put.B3 : List Nat := [0, 1, 3, 7, 0, 16, 48, 127, 255, 0, 512, 1791, 4095, 8191]
theorem stream_Put.tab3 : rtab .any (opsOf Try.f27 3) = stream_Put.T3 := by kernel_rfl
theorem stream_Put.bits3 : waitsOk stream_Put.T3.2 stream_Put.B3 = true := by kernel_rfl
set_option maxHeartbeats 8000000 in
set_option maxRecDepth 100000 in
theorem stream_Put.calls (k : Nat) (a0_0 : Int) (a0_1 : Int) (a0_2 : Int) (a0_3 : Int) (a0_4 : Int) (a0_5 : Int) (a0_6 : Int) (a0_7 : Int) (A0_8 : Option Addr) (c0_8 : Nat) (l0_8 : List (S107)) (r1 : ByteArray) (r2 : Bool) (w : World) (hr0_8 : Kd.C k107 w A0_8 l0_8.length l0_8) (hc0_8 : l0_8.length ≤ c0_8) (h : stream_Put.f k a0_0 a0_1 a0_2 a0_3 a0_4 a0_5 a0_6 a0_7 l0_8 = some (r1, r2)) :
    Calls Try.prog 27 #[.agg #[.int .i64 a0_0, .int .i64 a0_1, .int .u64 a0_2, .int .u64 a0_3, .int .u64 a0_4, .int .u64 a0_5, .int .u64 a0_6, .int .i64 a0_7, .slice A0_8 l0_8.length c0_8]] w fun e w' => e = .returned (.tuple #[.string r1, .bool r2]) ∧ Below w.heap.size w w' := by
  have hu69 := Try.underlying69
  have hu33 := Try.underlying33
  have HR0_8 := Aside0.mk hr0_8
  have HC0_8 := Aside0.mk hc0_8
  clear hr0_8 hc0_8
  have HB := Aside0.mk (Below.refl w.heap.size w)
  have H : ((stream_Right.f k a0_0 a0_1 a0_2 a0_3 a0_4 a0_5 a0_6 a0_7 l0_8).bind fun t150 => (if t150 = true then ((pack_Number.f (IntKind.u64.wrap (a0_0)) 1).bind fun t151 => ((pack_Number.f (IntKind.u64.wrap (a0_1)) 1).bind fun t152 => (if t151.size + t152.size ≤ 9223372036854775807 then ((pack_Vary.f k a0_2).bind fun t153 => (if (t151 ++ t152).size + t153.size ≤ 9223372036854775807 then ((item_Bytes.f k a0_3 a0_4 a0_5 a0_6 a0_7 l0_8).bind fun bt154 => (if bt154.2 = true then ((pack_Text.f k bt154.1).bind fun t156 => (if ((t151 ++ t152) ++ t153).size + t156.size ≤ 9223372036854775807 then ((crc_Sum.f k (((t151 ++ t152) ++ t153) ++ t156)).bind fun t157 => ((pack_Number.f (IntKind.u64.wrap (t157)) 4).bind fun t158 => (if (((t151 ++ t152) ++ t153) ++ t156).size + t158.size ≤ 9223372036854775807 then (some ((((t151 ++ t152) ++ t153) ++ t156) ++ t158, true)) else (none)))) else (none))) else ((crc_Sum.f k ((t151 ++ t152) ++ t153)).bind fun t159 => ((pack_Number.f (IntKind.u64.wrap (t159)) 4).bind fun t160 => (if ((t151 ++ t152) ++ t153).size + t160.size ≤ 9223372036854775807 then (some (((t151 ++ t152) ++ t153) ++ t160, true)) else (none)))))) else (none))) else (none)))) else (some ((⟨#[]⟩ : ByteArray), false)))) = some (r1, r2) := h
  (try (have Hs_ := H; simp only [ByteArray.size_append, Int.natCast_add] at Hs_))
  clear h
  replace H := Option.bind_eq_some_iff.mp H
  obtain ⟨t150, A20, H⟩ := H
  replace H : (if t150 = true then ((pack_Number.f (IntKind.u64.wrap (a0_0)) 1).bind fun t151 => ((pack_Number.f (IntKind.u64.wrap (a0_1)) 1).bind fun t152 => (if t151.size + t152.size ≤ 9223372036854775807 then ((pack_Vary.f k a0_2).bind fun t153 => (if (t151 ++ t152).size + t153.size ≤ 9223372036854775807 then ((item_Bytes.f k a0_3 a0_4 a0_5 a0_6 a0_7 l0_8).bind fun bt154 => (if bt154.2 = true then ((pack_Text.f k bt154.1).bind fun t156 => (if ((t151 ++ t152) ++ t153).size + t156.size ≤ 9223372036854775807 then ((crc_Sum.f k (((t151 ++ t152) ++ t153) ++ t156)).bind fun t157 => ((pack_Number.f (IntKind.u64.wrap (t157)) 4).bind fun t158 => (if (((t151 ++ t152) ++ t153) ++ t156).size + t158.size ≤ 9223372036854775807 then (some ((((t151 ++ t152) ++ t153) ++ t156) ++ t158, true)) else (none)))) else (none))) else ((crc_Sum.f k ((t151 ++ t152) ++ t153)).bind fun t159 => ((pack_Number.f (IntKind.u64.wrap (t159)) 4).bind fun t160 => (if ((t151 ++ t152) ++ t153).size + t160.size ≤ 9223372036854775807 then (some (((t151 ++ t152) ++ t153) ++ t160, true)) else (none)))))) else (none))) else (none)))) else (some ((⟨#[]⟩ : ByteArray), false))) = some (r1, r2) := H
  have A2 := Aside0.mk A20
  clear A20
  by_cases c3 : t150 = true
  rotate_left
  · replace c3 := Bool.eq_false_iff.mpr c3
    subst c3
    have H1 : (some ((⟨#[]⟩ : ByteArray), false)) = some (r1, r2) := by rw [if_neg (show ¬ (false = true) by decide)] at H; exact H
    clear H
    have H := H1
    clear H1
    simp only [Option.some.injEq, Prod.mk.injEq] at H
    obtain ⟨rfl, rfl⟩ := H
    go_enter Try.func27, Try.ntmps27
    go_wp2_with (first | ((with_reducible refine gate_dst (N := 1) rfl ?_); refine Ka_ 1 #[.int .i64 a0_0, .int .i64 a0_1, .int .u64 a0_2, .int .u64 a0_3, .int .u64 a0_4, .int .u64 a0_5, .int .u64 a0_6, .int .i64 a0_7, .slice A0_8 l0_8.length c0_8] 69 ?_; intro gb149 hg w42 hbox hb; have BK149 := Aside0.mk (hbox); have GW149 := Kw_ HB hg; have GE149 := GW149; replace HB := Ks_ HB hb; clear hb hbox hg; obtain ⟨hcz43_0, hcz43_1, hcz43_2, hcz43_3, hcz43_4, hcz43_5, hcz43_6, hcz43_7, hcz43_8, hfz43_0, hfz43_1, hfz43_2, hfz43_3, hfz43_4, hfz43_5, hfz43_6, hfz43_7, hfz43_8⟩ := Ke9_ BK149.out) | ((with_reducible refine gate_callee (f := 33) rfl ?_); refine Kg_ (some 8) rfl rfl Try.func33 (by kernel_rfl) rfl #[.agg #[.int .i64 a0_0, .int .i64 a0_1, .int .u64 a0_2, .int .u64 a0_3, .int .u64 a0_4, .int .u64 a0_5, .int .u64 a0_6, .int .i64 a0_7, .slice A0_8 l0_8.length c0_8]] rfl ?_; (with_reducible refine (stream_Right.calls k a0_0 a0_1 a0_2 a0_3 a0_4 a0_5 a0_6 a0_7 _ _ l0_8 false _ ?side1 ?side2 A2.out).mono ?_); (case side1 => repeat (first | exact (Kd.C_below HR0_8.out HB.out) | (with_reducible refine Kd.C_alloc ?_ _) | (with_reducible refine Kd.C_drewN ?_ _) | (with_reducible refine Kd.C_drew ?_))); (case side2 => exact HC0_8.out); rintro e w44 ⟨rfl, hb⟩; refine ⟨_, rfl, ?_⟩; replace BK149 := Kb_ BK149 hb; replace HB := Ks_ HB hb; (try clear hb); (try clear hb2); (try clear hk); (try clear hi)))
    go_ret2
    exact ⟨Kh_, Kz_ HB GE149⟩
  subst c3
  have H1 : ((pack_Number.f (IntKind.u64.wrap (a0_0)) 1).bind fun t151 => ((pack_Number.f (IntKind.u64.wrap (a0_1)) 1).bind fun t152 => (if t151.size + t152.size ≤ 9223372036854775807 then ((pack_Vary.f k a0_2).bind fun t153 => (if (t151 ++ t152).size + t153.size ≤ 9223372036854775807 then ((item_Bytes.f k a0_3 a0_4 a0_5 a0_6 a0_7 l0_8).bind fun bt154 => (if bt154.2 = true then ((pack_Text.f k bt154.1).bind fun t156 => (if ((t151 ++ t152) ++ t153).size + t156.size ≤ 9223372036854775807 then ((crc_Sum.f k (((t151 ++ t152) ++ t153) ++ t156)).bind fun t157 => ((pack_Number.f (IntKind.u64.wrap (t157)) 4).bind fun t158 => (if (((t151 ++ t152) ++ t153) ++ t156).size + t158.size ≤ 9223372036854775807 then (some ((((t151 ++ t152) ++ t153) ++ t156) ++ t158, true)) else (none)))) else (none))) else ((crc_Sum.f k ((t151 ++ t152) ++ t153)).bind fun t159 => ((pack_Number.f (IntKind.u64.wrap (t159)) 4).bind fun t160 => (if ((t151 ++ t152) ++ t153).size + t160.size ≤ 9223372036854775807 then (some (((t151 ++ t152) ++ t153) ++ t160, true)) else (none)))))) else (none))) else (none)))) = some (r1, r2) := by rw [if_pos rfl] at H; exact H
  clear H
  have H := H1
  clear H1
  replace H := Option.bind_eq_some_iff.mp H
  obtain ⟨t151, A40, H⟩ := H
  replace H : ((pack_Number.f (IntKind.u64.wrap (a0_1)) 1).bind fun t152 => (if t151.size + t152.size ≤ 9223372036854775807 then ((pack_Vary.f k a0_2).bind fun t153 => (if (t151 ++ t152).size + t153.size ≤ 9223372036854775807 then ((item_Bytes.f k a0_3 a0_4 a0_5 a0_6 a0_7 l0_8).bind fun bt154 => (if bt154.2 = true then ((pack_Text.f k bt154.1).bind fun t156 => (if ((t151 ++ t152) ++ t153).size + t156.size ≤ 9223372036854775807 then ((crc_Sum.f k (((t151 ++ t152) ++ t153) ++ t156)).bind fun t157 => ((pack_Number.f (IntKind.u64.wrap (t157)) 4).bind fun t158 => (if (((t151 ++ t152) ++ t153) ++ t156).size + t158.size ≤ 9223372036854775807 then (some ((((t151 ++ t152) ++ t153) ++ t156) ++ t158, true)) else (none)))) else (none))) else ((crc_Sum.f k ((t151 ++ t152) ++ t153)).bind fun t159 => ((pack_Number.f (IntKind.u64.wrap (t159)) 4).bind fun t160 => (if ((t151 ++ t152) ++ t153).size + t160.size ≤ 9223372036854775807 then (some (((t151 ++ t152) ++ t153) ++ t160, true)) else (none)))))) else (none))) else (none))) = some (r1, r2) := H
  have A4 := Aside0.mk A40
  clear A40
  replace H := Option.bind_eq_some_iff.mp H
  obtain ⟨t152, A50, H⟩ := H
  replace H : (if t151.size + t152.size ≤ 9223372036854775807 then ((pack_Vary.f k a0_2).bind fun t153 => (if (t151 ++ t152).size + t153.size ≤ 9223372036854775807 then ((item_Bytes.f k a0_3 a0_4 a0_5 a0_6 a0_7 l0_8).bind fun bt154 => (if bt154.2 = true then ((pack_Text.f k bt154.1).bind fun t156 => (if ((t151 ++ t152) ++ t153).size + t156.size ≤ 9223372036854775807 then ((crc_Sum.f k (((t151 ++ t152) ++ t153) ++ t156)).bind fun t157 => ((pack_Number.f (IntKind.u64.wrap (t157)) 4).bind fun t158 => (if (((t151 ++ t152) ++ t153) ++ t156).size + t158.size ≤ 9223372036854775807 then (some ((((t151 ++ t152) ++ t153) ++ t156) ++ t158, true)) else (none)))) else (none))) else ((crc_Sum.f k ((t151 ++ t152) ++ t153)).bind fun t159 => ((pack_Number.f (IntKind.u64.wrap (t159)) 4).bind fun t160 => (if ((t151 ++ t152) ++ t153).size + t160.size ≤ 9223372036854775807 then (some (((t151 ++ t152) ++ t153) ++ t160, true)) else (none)))))) else (none))) else (none)) = some (r1, r2) := H
  have A5 := Aside0.mk A50
  clear A50
  by_cases c6 : t151.size + t152.size ≤ 9223372036854775807
  rotate_left
  · rw [if_neg c6] at H
    exact absurd H (by simp)
  rw [if_pos c6] at H
  have c6b0 := eq_true c6
  have c6b1 : decide (t151.size + t152.size ≤ 9223372036854775807) = true := decide_eq_true c6
  try have c6b2 : (9223372036854775807 < t151.size + t152.size) = False := eq_false (Nat.not_lt.2 c6)
  replace H := Option.bind_eq_some_iff.mp H
  obtain ⟨t153, A70, H⟩ := H
  replace H : (if (t151 ++ t152).size + t153.size ≤ 9223372036854775807 then ((item_Bytes.f k a0_3 a0_4 a0_5 a0_6 a0_7 l0_8).bind fun bt154 => (if bt154.2 = true then ((pack_Text.f k bt154.1).bind fun t156 => (if ((t151 ++ t152) ++ t153).size + t156.size ≤ 9223372036854775807 then ((crc_Sum.f k (((t151 ++ t152) ++ t153) ++ t156)).bind fun t157 => ((pack_Number.f (IntKind.u64.wrap (t157)) 4).bind fun t158 => (if (((t151 ++ t152) ++ t153) ++ t156).size + t158.size ≤ 9223372036854775807 then (some ((((t151 ++ t152) ++ t153) ++ t156) ++ t158, true)) else (none)))) else (none))) else ((crc_Sum.f k ((t151 ++ t152) ++ t153)).bind fun t159 => ((pack_Number.f (IntKind.u64.wrap (t159)) 4).bind fun t160 => (if ((t151 ++ t152) ++ t153).size + t160.size ≤ 9223372036854775807 then (some (((t151 ++ t152) ++ t153) ++ t160, true)) else (none)))))) else (none)) = some (r1, r2) := H
  have A7 := Aside0.mk A70
  clear A70
  by_cases c8 : (t151 ++ t152).size + t153.size ≤ 9223372036854775807
  rotate_left
  · rw [if_neg c8] at H
    exact absurd H (by simp)
  rw [if_pos c8] at H
  have c8b0 := eq_true c8
  (try (have c8b0s_ := c8b0; simp only [ByteArray.size_append, Int.natCast_add] at c8b0s_))
  have c8b1 : decide ((t151 ++ t152).size + t153.size ≤ 9223372036854775807) = true := decide_eq_true c8
  (try (have c8b1s_ := c8b1; simp only [ByteArray.size_append, Int.natCast_add] at c8b1s_))
  try have c8b2 : (9223372036854775807 < (t151 ++ t152).size + t153.size) = False := eq_false (Nat.not_lt.2 c8)
  (try (have c8b2s_ := c8b2; simp only [ByteArray.size_append, Int.natCast_add] at c8b2s_))
  replace H := Option.bind_eq_some_iff.mp H
  obtain ⟨⟨t154, t155⟩, A90, H⟩ := H
  replace H : (if t155 = true then ((pack_Text.f k t154).bind fun t156 => (if ((t151 ++ t152) ++ t153).size + t156.size ≤ 9223372036854775807 then ((crc_Sum.f k (((t151 ++ t152) ++ t153) ++ t156)).bind fun t157 => ((pack_Number.f (IntKind.u64.wrap (t157)) 4).bind fun t158 => (if (((t151 ++ t152) ++ t153) ++ t156).size + t158.size ≤ 9223372036854775807 then (some ((((t151 ++ t152) ++ t153) ++ t156) ++ t158, true)) else (none)))) else (none))) else ((crc_Sum.f k ((t151 ++ t152) ++ t153)).bind fun t159 => ((pack_Number.f (IntKind.u64.wrap (t159)) 4).bind fun t160 => (if ((t151 ++ t152) ++ t153).size + t160.size ≤ 9223372036854775807 then (some (((t151 ++ t152) ++ t153) ++ t160, true)) else (none))))) = some (r1, r2) := H
  have A9 := Aside0.mk A90
  clear A90
  by_cases c10 : t155 = true
  rotate_left
  · replace c10 := Bool.eq_false_iff.mpr c10
    subst c10
    have H1 : ((crc_Sum.f k ((t151 ++ t152) ++ t153)).bind fun t159 => ((pack_Number.f (IntKind.u64.wrap (t159)) 4).bind fun t160 => (if ((t151 ++ t152) ++ t153).size + t160.size ≤ 9223372036854775807 then (some (((t151 ++ t152) ++ t153) ++ t160, true)) else (none)))) = some (r1, r2) := by rw [if_neg (show ¬ (false = true) by decide)] at H; exact H
    clear H
    have H := H1
    clear H1
    replace H := Option.bind_eq_some_iff.mp H
    obtain ⟨t159, A280, H⟩ := H
    replace H : ((pack_Number.f (IntKind.u64.wrap (t159)) 4).bind fun t160 => (if ((t151 ++ t152) ++ t153).size + t160.size ≤ 9223372036854775807 then (some (((t151 ++ t152) ++ t153) ++ t160, true)) else (none))) = some (r1, r2) := H
    have A28 := Aside0.mk A280
    clear A280
    replace H := Option.bind_eq_some_iff.mp H
    obtain ⟨t160, A290, H⟩ := H
    replace H : (if ((t151 ++ t152) ++ t153).size + t160.size ≤ 9223372036854775807 then (some (((t151 ++ t152) ++ t153) ++ t160, true)) else (none)) = some (r1, r2) := H
    have A29 := Aside0.mk A290
    clear A290
    by_cases c30 : ((t151 ++ t152) ++ t153).size + t160.size ≤ 9223372036854775807
    rotate_left
    · rw [if_neg c30] at H
      exact absurd H (by simp)
    rw [if_pos c30] at H
    have c30b0 := eq_true c30
    (try (have c30b0s_ := c30b0; simp only [ByteArray.size_append, Int.natCast_add] at c30b0s_))
    have c30b1 : decide (((t151 ++ t152) ++ t153).size + t160.size ≤ 9223372036854775807) = true := decide_eq_true c30
    (try (have c30b1s_ := c30b1; simp only [ByteArray.size_append, Int.natCast_add] at c30b1s_))
    try have c30b2 : (9223372036854775807 < ((t151 ++ t152) ++ t153).size + t160.size) = False := eq_false (Nat.not_lt.2 c30)
    (try (have c30b2s_ := c30b2; simp only [ByteArray.size_append, Int.natCast_add] at c30b2s_))
    simp only [Option.some.injEq, Prod.mk.injEq] at H
    obtain ⟨rfl, rfl⟩ := H
    go_enter Try.func27, Try.ntmps27
    try go_wp2_with (first | ((with_reducible refine gate_dst (N := 1) rfl ?_); refine Ka_ 1 #[.int .i64 a0_0, .int .i64 a0_1, .int .u64 a0_2, .int .u64 a0_3, .int .u64 a0_4, .int .u64 a0_5, .int .u64 a0_6, .int .i64 a0_7, .slice A0_8 l0_8.length c0_8] 69 ?_; intro gb149 hg w31 hbox hb; have BK149 := Aside0.mk (hbox); have GW149 := Kw_ HB hg; have GE149 := GW149; replace HB := Ks_ HB hb; clear hb hbox hg; obtain ⟨hcz32_0, hcz32_1, hcz32_2, hcz32_3, hcz32_4, hcz32_5, hcz32_6, hcz32_7, hcz32_8, hfz32_0, hfz32_1, hfz32_2, hfz32_3, hfz32_4, hfz32_5, hfz32_6, hfz32_7, hfz32_8⟩ := Ke9_ BK149.out) | ((with_reducible refine gate_callee (f := 33) rfl ?_); refine Kg_ (some 8) rfl rfl Try.func33 (by kernel_rfl) rfl #[.agg #[.int .i64 a0_0, .int .i64 a0_1, .int .u64 a0_2, .int .u64 a0_3, .int .u64 a0_4, .int .u64 a0_5, .int .u64 a0_6, .int .i64 a0_7, .slice A0_8 l0_8.length c0_8]] rfl ?_; (with_reducible refine (stream_Right.calls k a0_0 a0_1 a0_2 a0_3 a0_4 a0_5 a0_6 a0_7 _ _ l0_8 true _ ?side1 ?side2 A2.out).mono ?_); (case side1 => repeat (first | exact (Kd.C_below HR0_8.out HB.out) | (with_reducible refine Kd.C_alloc ?_ _) | (with_reducible refine Kd.C_drewN ?_ _) | (with_reducible refine Kd.C_drew ?_))); (case side2 => exact HC0_8.out); rintro e w33 ⟨rfl, hb⟩; refine ⟨_, rfl, ?_⟩; replace BK149 := Kb_ BK149 hb; replace HB := Ks_ HB hb; (try clear hb); (try clear hb2); (try clear hk); (try clear hi)))
    replace BK149 := Kd_ BK149
    replace HB := Aside0.mk (below_drew1 HB.out)
    refine start_ (n := 14) (S := fun w' => w'.cell? ⟨gb149, 0, none⟩ = some (.int .i64 a0_0) ∧ w'.cell? ⟨gb149, 1, none⟩ = some (.int .i64 a0_1) ∧ w'.cell? ⟨gb149, 2, none⟩ = some (.int .u64 a0_2) ∧ w'.cell? ⟨gb149, 3, none⟩ = some (.int .u64 a0_3) ∧ w'.cell? ⟨gb149, 4, none⟩ = some (.int .u64 a0_4) ∧ w'.cell? ⟨gb149, 5, none⟩ = some (.int .u64 a0_5) ∧ w'.cell? ⟨gb149, 6, none⟩ = some (.int .u64 a0_6) ∧ w'.cell? ⟨gb149, 7, none⟩ = some (.int .i64 a0_7) ∧ w'.cell? ⟨gb149, 8, none⟩ = some (.slice A0_8 l0_8.length c0_8)) (ds := []) #[false, false, false, false, false, false, false, false, false, false, false, false, false, false] (by kernel_rfl) rfl rfl (Kc9_ BK149.out) (fun hHeld => ?_); refine with_tabW stream_Put.tab3 stream_Put.bits3 (fun HT_ HW_ => ?_)
    generalize w33.drew = w34 at BK149 HB hHeld ⊢
    refine Kp_ 0 10 #[true, false, false, false, false, false, false, false, false, false, false, false, false, false] (any_of HT_.out (by kernel_rfl)) ?_
    refine Kp_ 4 14 #[true, false, false, false, true, false, false, false, false, false, false, false, false, false] (any_of HT_.out (by kernel_rfl)) ?_
    refine Kp_ 9 19 #[true, false, false, false, true, false, false, false, false, true, false, false, false, false] (any_of HT_.out (by kernel_rfl)) ?_
    refine Ko_ 1 11 #[true, true, false, false, true, false, false, false, false, true, false, false, false, false] (take_ofW HT_.out HW_.out (by kernel_rfl)) hHeld ?_
    refine Kp_ 2 12 #[true, true, true, false, true, false, false, false, false, true, false, false, false, false] (any_of HT_.out (by kernel_rfl)) ?_
    refine Ko_ 5 15 #[true, true, true, false, true, true, false, false, false, true, false, false, false, false] (take_ofW HT_.out HW_.out (by kernel_rfl)) hHeld ?_
    refine Kp_ 6 16 #[true, true, true, false, true, true, true, false, false, true, false, false, false, false] (any_of HT_.out (by kernel_rfl)) ?_
    refine Ko_ 10 20 #[true, true, true, false, true, true, true, false, false, true, true, false, false, false] (take_ofW HT_.out HW_.out (by kernel_rfl)) hHeld ?_
    refine one_ (i := 3) (N := some 13) #[true, true, true, true, true, true, true, false, false, true, true, false, false, false] rfl rfl (one_of HT_.out (by kernel_rfl)) (by decide) (fun K hK => ?_)
    refine goes_ Try.func59 (by kernel_rfl) rfl #[.int .u64 (IntKind.u64.wrap (a0_0)), .int .i64 1] (by rfl) rfl rfl (by (try simp only [List.map_toArray, List.map_cons, List.map_nil]); first | done | rfl | (simp only [List.length_drop, List.length_take]; rfl)) ?_
    with_reducible refine (pack_Number.calls (IntKind.u64.wrap (a0_0)) 1 t151 _ A4.out).mono ?_
    rintro e w35 ⟨rfl, hb⟩
    refine ⟨_, rfl, ?_⟩
    replace BK149 := Kb_ BK149 hb
    replace HB := Ks_ HB hb
    (try clear hb)
    (try clear hb2)
    (try clear hk)
    (try clear hi)
    refine hK.out _ _ (Kc9_ BK149.out) (fun hHeld => ?_)
    clear hK K
    refine Kn_ 13 ?_
    refine one_ (i := 7) (N := some 17) #[true, true, true, true, true, true, true, true, false, true, true, false, false, false] rfl rfl (one_of HT_.out (by kernel_rfl)) (by decide) (fun K hK => ?_)
    refine goes_ Try.func59 (by kernel_rfl) rfl #[.int .u64 (IntKind.u64.wrap (a0_1)), .int .i64 1] (by rfl) rfl rfl (by (try simp only [List.map_toArray, List.map_cons, List.map_nil]); first | done | rfl | (simp only [List.length_drop, List.length_take]; rfl)) ?_
    with_reducible refine (pack_Number.calls (IntKind.u64.wrap (a0_1)) 1 t152 _ A5.out).mono ?_
    rintro e w36 ⟨rfl, hb⟩
    refine ⟨_, rfl, ?_⟩
    replace BK149 := Kb_ BK149 hb
    replace HB := Ks_ HB hb
    (try clear hb)
    (try clear hb2)
    (try clear hk)
    (try clear hi)
    refine hK.out _ _ (Kc9_ BK149.out) (fun hHeld => ?_)
    clear hK K
    refine Kn_ 17 ?_
    refine Kp_ 8 18 #[true, true, true, true, true, true, true, true, true, true, true, false, false, false] (any_of HT_.out (by kernel_rfl)) ?_
    refine one_ (i := 11) (N := some 21) #[true, true, true, true, true, true, true, true, true, true, true, true, false, false] rfl rfl (one_of HT_.out (by kernel_rfl)) (by decide) (fun K hK => ?_)
    refine goes_ Try.func60 (by kernel_rfl) rfl #[.int .u64 a0_2] (by rfl) rfl rfl (by (try simp only [List.map_toArray, List.map_cons, List.map_nil]); first | done | rfl | (simp only [List.length_drop, List.length_take]; rfl)) ?_
    with_reducible refine (pack_Vary.calls k a0_2 t153 _ A7.out).mono ?_
    rintro e w37 ⟨rfl, hb⟩
    refine ⟨_, rfl, ?_⟩
    replace BK149 := Kb_ BK149 hb
    replace HB := Ks_ HB hb
    (try clear hb)
    (try clear hb2)
    (try clear hk)
    (try clear hi)
    refine hK.out _ _ (Kc9_ BK149.out) (fun hHeld => ?_)
    clear hK K
    refine Kn_ 21 ?_
    refine Kp_ 12 22 #[true, true, true, true, true, true, true, true, true, true, true, true, true, false] (any_of HT_.out (by kernel_rfl)) ?_
    refine Kp_ 13 4 #[true, true, true, true, true, true, true, true, true, true, true, true, true, true] (any_of HT_.out (by kernel_rfl)) ?_
    refine done_ (done_of HT_.out (by kernel_rfl)) ?_
    obtain ⟨hcz38_0, hcz38_1, hcz38_2, hcz38_3, hcz38_4, hcz38_5, hcz38_6, hcz38_7, hcz38_8, hfz38_0, hfz38_1, hfz38_2, hfz38_3, hfz38_4, hfz38_5, hfz38_6, hfz38_7, hfz38_8⟩ := Ke9_ BK149.out
    try go_wp2_with (first | ((with_reducible refine gate_callee (f := 61) rfl ?_); refine Kg_ (some 26) rfl rfl Try.func61 (by kernel_rfl) rfl #[.agg #[.int .u64 a0_3, .int .u64 a0_4, .int .u64 a0_5, .int .u64 a0_6, .int .i64 a0_7, .slice A0_8 l0_8.length c0_8]] rfl ?_; (with_reducible refine (item_Bytes.calls k a0_3 a0_4 a0_5 a0_6 a0_7 _ _ l0_8 t154 false _ ?side1 ?side2 A9.out).mono ?_); (case side1 => repeat (first | exact (Kd.C_below HR0_8.out HB.out) | (with_reducible refine Kd.C_alloc ?_ _) | (with_reducible refine Kd.C_drewN ?_ _) | (with_reducible refine Kd.C_drew ?_))); (case side2 => exact HC0_8.out); rintro e w39 ⟨rfl, hb⟩; refine ⟨_, rfl, ?_⟩; replace BK149 := Kb_ BK149 hb; replace HB := Ks_ HB hb; (try clear hb); (try clear hb2); (try clear hk); (try clear hi)) | ((with_reducible refine gate_callee (f := 63) rfl ?_); refine Kg_ (some 36) rfl rfl Try.func63 (by kernel_rfl) rfl #[.string ((t151 ++ t152) ++ t153)] rfl ?_; (with_reducible refine (crc_Sum.calls k ((t151 ++ t152) ++ t153) t159 _ A28.out).mono ?_); rintro e w40 ⟨rfl, hb⟩; refine ⟨_, rfl, ?_⟩; replace BK149 := Kb_ BK149 hb; replace HB := Ks_ HB hb; (try clear hb); (try clear hb2); (try clear hk); (try clear hi)) | ((with_reducible refine gate_callee (f := 59) rfl ?_); refine Kg_ (some 38) rfl rfl Try.func59 (by kernel_rfl) rfl #[.int .u64 (IntKind.u64.wrap (t159)), .int .i64 4] rfl ?_; (with_reducible refine (pack_Number.calls (IntKind.u64.wrap (t159)) 4 t160 _ A29.out).mono ?_); rintro e w41 ⟨rfl, hb⟩; refine ⟨_, rfl, ?_⟩; replace BK149 := Kb_ BK149 hb; replace HB := Ks_ HB hb; (try clear hb); (try clear hb2); (try clear hk); (try clear hi)))
    go_ret2
    exact ⟨Kh_, Kz_ HB GE149⟩
  subst c10
  have H1 : ((pack_Text.f k t154).bind fun t156 => (if ((t151 ++ t152) ++ t153).size + t156.size ≤ 9223372036854775807 then ((crc_Sum.f k (((t151 ++ t152) ++ t153) ++ t156)).bind fun t157 => ((pack_Number.f (IntKind.u64.wrap (t157)) 4).bind fun t158 => (if (((t151 ++ t152) ++ t153) ++ t156).size + t158.size ≤ 9223372036854775807 then (some ((((t151 ++ t152) ++ t153) ++ t156) ++ t158, true)) else (none)))) else (none))) = some (r1, r2) := by rw [if_pos rfl] at H; exact H
  clear H
  have H := H1
  clear H1
  replace H := Option.bind_eq_some_iff.mp H
  obtain ⟨t156, A110, H⟩ := H
  replace H : (if ((t151 ++ t152) ++ t153).size + t156.size ≤ 9223372036854775807 then ((crc_Sum.f k (((t151 ++ t152) ++ t153) ++ t156)).bind fun t157 => ((pack_Number.f (IntKind.u64.wrap (t157)) 4).bind fun t158 => (if (((t151 ++ t152) ++ t153) ++ t156).size + t158.size ≤ 9223372036854775807 then (some ((((t151 ++ t152) ++ t153) ++ t156) ++ t158, true)) else (none)))) else (none)) = some (r1, r2) := H
  have A11 := Aside0.mk A110
  clear A110
  by_cases c12 : ((t151 ++ t152) ++ t153).size + t156.size ≤ 9223372036854775807
  rotate_left
  · rw [if_neg c12] at H
    exact absurd H (by simp)
  rw [if_pos c12] at H
  have c12b0 := eq_true c12
  (try (have c12b0s_ := c12b0; simp only [ByteArray.size_append, Int.natCast_add] at c12b0s_))
  have c12b1 : decide (((t151 ++ t152) ++ t153).size + t156.size ≤ 9223372036854775807) = true := decide_eq_true c12
  (try (have c12b1s_ := c12b1; simp only [ByteArray.size_append, Int.natCast_add] at c12b1s_))
  try have c12b2 : (9223372036854775807 < ((t151 ++ t152) ++ t153).size + t156.size) = False := eq_false (Nat.not_lt.2 c12)
  (try (have c12b2s_ := c12b2; simp only [ByteArray.size_append, Int.natCast_add] at c12b2s_))
  replace H := Option.bind_eq_some_iff.mp H
  obtain ⟨t157, A130, H⟩ := H
  replace H : ((pack_Number.f (IntKind.u64.wrap (t157)) 4).bind fun t158 => (if (((t151 ++ t152) ++ t153) ++ t156).size + t158.size ≤ 9223372036854775807 then (some ((((t151 ++ t152) ++ t153) ++ t156) ++ t158, true)) else (none))) = some (r1, r2) := H
  have A13 := Aside0.mk A130
  clear A130
  replace H := Option.bind_eq_some_iff.mp H
  obtain ⟨t158, A140, H⟩ := H
  replace H : (if (((t151 ++ t152) ++ t153) ++ t156).size + t158.size ≤ 9223372036854775807 then (some ((((t151 ++ t152) ++ t153) ++ t156) ++ t158, true)) else (none)) = some (r1, r2) := H
  have A14 := Aside0.mk A140
  clear A140
  by_cases c15 : (((t151 ++ t152) ++ t153) ++ t156).size + t158.size ≤ 9223372036854775807
  rotate_left
  · rw [if_neg c15] at H
    exact absurd H (by simp)
  rw [if_pos c15] at H
  have c15b0 := eq_true c15
  (try (have c15b0s_ := c15b0; simp only [ByteArray.size_append, Int.natCast_add] at c15b0s_))
  have c15b1 : decide ((((t151 ++ t152) ++ t153) ++ t156).size + t158.size ≤ 9223372036854775807) = true := decide_eq_true c15
  (try (have c15b1s_ := c15b1; simp only [ByteArray.size_append, Int.natCast_add] at c15b1s_))
  try have c15b2 : (9223372036854775807 < (((t151 ++ t152) ++ t153) ++ t156).size + t158.size) = False := eq_false (Nat.not_lt.2 c15)
  (try (have c15b2s_ := c15b2; simp only [ByteArray.size_append, Int.natCast_add] at c15b2s_))
  simp only [Option.some.injEq, Prod.mk.injEq] at H
  obtain ⟨rfl, rfl⟩ := H
  go_enter Try.func27, Try.ntmps27
  try go_wp2_with (first | ((with_reducible refine gate_dst (N := 1) rfl ?_); refine Ka_ 1 #[.int .i64 a0_0, .int .i64 a0_1, .int .u64 a0_2, .int .u64 a0_3, .int .u64 a0_4, .int .u64 a0_5, .int .u64 a0_6, .int .i64 a0_7, .slice A0_8 l0_8.length c0_8] 69 ?_; intro gb149 hg w16 hbox hb; have BK149 := Aside0.mk (hbox); have GW149 := Kw_ HB hg; have GE149 := GW149; replace HB := Ks_ HB hb; clear hb hbox hg; obtain ⟨hcz17_0, hcz17_1, hcz17_2, hcz17_3, hcz17_4, hcz17_5, hcz17_6, hcz17_7, hcz17_8, hfz17_0, hfz17_1, hfz17_2, hfz17_3, hfz17_4, hfz17_5, hfz17_6, hfz17_7, hfz17_8⟩ := Ke9_ BK149.out) | ((with_reducible refine gate_callee (f := 33) rfl ?_); refine Kg_ (some 8) rfl rfl Try.func33 (by kernel_rfl) rfl #[.agg #[.int .i64 a0_0, .int .i64 a0_1, .int .u64 a0_2, .int .u64 a0_3, .int .u64 a0_4, .int .u64 a0_5, .int .u64 a0_6, .int .i64 a0_7, .slice A0_8 l0_8.length c0_8]] rfl ?_; (with_reducible refine (stream_Right.calls k a0_0 a0_1 a0_2 a0_3 a0_4 a0_5 a0_6 a0_7 _ _ l0_8 true _ ?side1 ?side2 A2.out).mono ?_); (case side1 => repeat (first | exact (Kd.C_below HR0_8.out HB.out) | (with_reducible refine Kd.C_alloc ?_ _) | (with_reducible refine Kd.C_drewN ?_ _) | (with_reducible refine Kd.C_drew ?_))); (case side2 => exact HC0_8.out); rintro e w18 ⟨rfl, hb⟩; refine ⟨_, rfl, ?_⟩; replace BK149 := Kb_ BK149 hb; replace HB := Ks_ HB hb; (try clear hb); (try clear hb2); (try clear hk); (try clear hi)))
  replace BK149 := Kd_ BK149
  replace HB := Aside0.mk (below_drew1 HB.out)
  refine start_ (n := 14) (S := fun w' => w'.cell? ⟨gb149, 0, none⟩ = some (.int .i64 a0_0) ∧ w'.cell? ⟨gb149, 1, none⟩ = some (.int .i64 a0_1) ∧ w'.cell? ⟨gb149, 2, none⟩ = some (.int .u64 a0_2) ∧ w'.cell? ⟨gb149, 3, none⟩ = some (.int .u64 a0_3) ∧ w'.cell? ⟨gb149, 4, none⟩ = some (.int .u64 a0_4) ∧ w'.cell? ⟨gb149, 5, none⟩ = some (.int .u64 a0_5) ∧ w'.cell? ⟨gb149, 6, none⟩ = some (.int .u64 a0_6) ∧ w'.cell? ⟨gb149, 7, none⟩ = some (.int .i64 a0_7) ∧ w'.cell? ⟨gb149, 8, none⟩ = some (.slice A0_8 l0_8.length c0_8)) (ds := []) #[false, false, false, false, false, false, false, false, false, false, false, false, false, false] (by kernel_rfl) rfl rfl (Kc9_ BK149.out) (fun hHeld => ?_); refine with_tabW stream_Put.tab3 stream_Put.bits3 (fun HT_ HW_ => ?_)
  generalize w18.drew = w19 at BK149 HB hHeld ⊢
  refine Kp_ 0 10 #[true, false, false, false, false, false, false, false, false, false, false, false, false, false] (any_of HT_.out (by kernel_rfl)) ?_
  refine Kp_ 4 14 #[true, false, false, false, true, false, false, false, false, false, false, false, false, false] (any_of HT_.out (by kernel_rfl)) ?_
  refine Kp_ 9 19 #[true, false, false, false, true, false, false, false, false, true, false, false, false, false] (any_of HT_.out (by kernel_rfl)) ?_
  refine Ko_ 1 11 #[true, true, false, false, true, false, false, false, false, true, false, false, false, false] (take_ofW HT_.out HW_.out (by kernel_rfl)) hHeld ?_
  refine Kp_ 2 12 #[true, true, true, false, true, false, false, false, false, true, false, false, false, false] (any_of HT_.out (by kernel_rfl)) ?_
  refine Ko_ 5 15 #[true, true, true, false, true, true, false, false, false, true, false, false, false, false] (take_ofW HT_.out HW_.out (by kernel_rfl)) hHeld ?_
  refine Kp_ 6 16 #[true, true, true, false, true, true, true, false, false, true, false, false, false, false] (any_of HT_.out (by kernel_rfl)) ?_
  refine Ko_ 10 20 #[true, true, true, false, true, true, true, false, false, true, true, false, false, false] (take_ofW HT_.out HW_.out (by kernel_rfl)) hHeld ?_
  refine one_ (i := 3) (N := some 13) #[true, true, true, true, true, true, true, false, false, true, true, false, false, false] rfl rfl (one_of HT_.out (by kernel_rfl)) (by decide) (fun K hK => ?_)
  refine goes_ Try.func59 (by kernel_rfl) rfl #[.int .u64 (IntKind.u64.wrap (a0_0)), .int .i64 1] (by rfl) rfl rfl (by (try simp only [List.map_toArray, List.map_cons, List.map_nil]); first | done | rfl | (simp only [List.length_drop, List.length_take]; rfl)) ?_
  with_reducible refine (pack_Number.calls (IntKind.u64.wrap (a0_0)) 1 t151 _ A4.out).mono ?_
  rintro e w20 ⟨rfl, hb⟩
  refine ⟨_, rfl, ?_⟩
  replace BK149 := Kb_ BK149 hb
  replace HB := Ks_ HB hb
  (try clear hb)
  (try clear hb2)
  (try clear hk)
  (try clear hi)
  refine hK.out _ _ (Kc9_ BK149.out) (fun hHeld => ?_)
  clear hK K
  refine Kn_ 13 ?_
  refine one_ (i := 7) (N := some 17) #[true, true, true, true, true, true, true, true, false, true, true, false, false, false] rfl rfl (one_of HT_.out (by kernel_rfl)) (by decide) (fun K hK => ?_)
  refine goes_ Try.func59 (by kernel_rfl) rfl #[.int .u64 (IntKind.u64.wrap (a0_1)), .int .i64 1] (by rfl) rfl rfl (by (try simp only [List.map_toArray, List.map_cons, List.map_nil]); first | done | rfl | (simp only [List.length_drop, List.length_take]; rfl)) ?_
  with_reducible refine (pack_Number.calls (IntKind.u64.wrap (a0_1)) 1 t152 _ A5.out).mono ?_
  rintro e w21 ⟨rfl, hb⟩
  refine ⟨_, rfl, ?_⟩
  replace BK149 := Kb_ BK149 hb
  replace HB := Ks_ HB hb
  (try clear hb)
  (try clear hb2)
  (try clear hk)
  (try clear hi)
  refine hK.out _ _ (Kc9_ BK149.out) (fun hHeld => ?_)
  clear hK K
  refine Kn_ 17 ?_
  refine Kp_ 8 18 #[true, true, true, true, true, true, true, true, true, true, true, false, false, false] (any_of HT_.out (by kernel_rfl)) ?_
  refine one_ (i := 11) (N := some 21) #[true, true, true, true, true, true, true, true, true, true, true, true, false, false] rfl rfl (one_of HT_.out (by kernel_rfl)) (by decide) (fun K hK => ?_)
  refine goes_ Try.func60 (by kernel_rfl) rfl #[.int .u64 a0_2] (by rfl) rfl rfl (by (try simp only [List.map_toArray, List.map_cons, List.map_nil]); first | done | rfl | (simp only [List.length_drop, List.length_take]; rfl)) ?_
  with_reducible refine (pack_Vary.calls k a0_2 t153 _ A7.out).mono ?_
  rintro e w22 ⟨rfl, hb⟩
  refine ⟨_, rfl, ?_⟩
  replace BK149 := Kb_ BK149 hb
  replace HB := Ks_ HB hb
  (try clear hb)
  (try clear hb2)
  (try clear hk)
  (try clear hi)
  refine hK.out _ _ (Kc9_ BK149.out) (fun hHeld => ?_)
  clear hK K
  refine Kn_ 21 ?_
  refine Kp_ 12 22 #[true, true, true, true, true, true, true, true, true, true, true, true, true, false] (any_of HT_.out (by kernel_rfl)) ?_
  refine Kp_ 13 4 #[true, true, true, true, true, true, true, true, true, true, true, true, true, true] (any_of HT_.out (by kernel_rfl)) ?_
  refine done_ (done_of HT_.out (by kernel_rfl)) ?_
  obtain ⟨hcz23_0, hcz23_1, hcz23_2, hcz23_3, hcz23_4, hcz23_5, hcz23_6, hcz23_7, hcz23_8, hfz23_0, hfz23_1, hfz23_2, hfz23_3, hfz23_4, hfz23_5, hfz23_6, hfz23_7, hfz23_8⟩ := Ke9_ BK149.out
  try go_wp2_with (first | ((with_reducible refine gate_callee (f := 61) rfl ?_); refine Kg_ (some 26) rfl rfl Try.func61 (by kernel_rfl) rfl #[.agg #[.int .u64 a0_3, .int .u64 a0_4, .int .u64 a0_5, .int .u64 a0_6, .int .i64 a0_7, .slice A0_8 l0_8.length c0_8]] rfl ?_; (with_reducible refine (item_Bytes.calls k a0_3 a0_4 a0_5 a0_6 a0_7 _ _ l0_8 t154 true _ ?side1 ?side2 A9.out).mono ?_); (case side1 => repeat (first | exact (Kd.C_below HR0_8.out HB.out) | (with_reducible refine Kd.C_alloc ?_ _) | (with_reducible refine Kd.C_drewN ?_ _) | (with_reducible refine Kd.C_drew ?_))); (case side2 => exact HC0_8.out); rintro e w24 ⟨rfl, hb⟩; refine ⟨_, rfl, ?_⟩; replace BK149 := Kb_ BK149 hb; replace HB := Ks_ HB hb; (try clear hb); (try clear hb2); (try clear hk); (try clear hi)) | ((with_reducible refine gate_callee (f := 62) rfl ?_); refine Kg_ (some 32) rfl rfl Try.func62 (by kernel_rfl) rfl #[.string t154] rfl ?_; (with_reducible refine (pack_Text.calls k t154 t156 _ A11.out).mono ?_); rintro e w25 ⟨rfl, hb⟩; refine ⟨_, rfl, ?_⟩; replace BK149 := Kb_ BK149 hb; replace HB := Ks_ HB hb; (try clear hb); (try clear hb2); (try clear hk); (try clear hi)) | ((with_reducible refine gate_callee (f := 63) rfl ?_); refine Kg_ (some 36) rfl rfl Try.func63 (by kernel_rfl) rfl #[.string (((t151 ++ t152) ++ t153) ++ t156)] rfl ?_; (with_reducible refine (crc_Sum.calls k (((t151 ++ t152) ++ t153) ++ t156) t157 _ A13.out).mono ?_); rintro e w26 ⟨rfl, hb⟩; refine ⟨_, rfl, ?_⟩; replace BK149 := Kb_ BK149 hb; replace HB := Ks_ HB hb; (try clear hb); (try clear hb2); (try clear hk); (try clear hi)) | ((with_reducible refine gate_callee (f := 59) rfl ?_); refine Kg_ (some 38) rfl rfl Try.func59 (by kernel_rfl) rfl #[.int .u64 (IntKind.u64.wrap (t157)), .int .i64 4] rfl ?_; (with_reducible refine (pack_Number.calls (IntKind.u64.wrap (t157)) 4 t158 _ A14.out).mono ?_); rintro e w27 ⟨rfl, hb⟩; refine ⟨_, rfl, ?_⟩; replace BK149 := Kb_ BK149 hb; replace HB := Ks_ HB hb; (try clear hb); (try clear hb2); (try clear hk); (try clear hi)))
  go_ret2
  exact ⟨Kh_, Kz_ HB GE149⟩
/-! ### pack_Reader_Number: function 75 -/
-- FOREIGN: ranges over []byte(s)
theorem pack_Reader_Number.bytesWorld_frozen (w : World) (e : TypeId) (s : ByteArray) (a : Addr) (ha : a.block < w.heap.size) : (Lib.bytesWorld w e s).frozen? a = w.frozen? a :=
  (bytes_below (Below.refl _ _) (Nat.le_refl _) e s).frozen ha
theorem pack_Reader_Number.bt_extract0 (s : ByteArray) (n k : Nat) (hk : k < n) (hs : n ≤ s.size) : bt (s.extract 0 n) k = bt s k := by
  unfold bt
  rw [dif_pos (by simp; omega), dif_pos (by simp; omega)]
  simp [ByteArray.getElem_extract]
def rnum (s : ByteArray) : Nat → Int
  | 0 => 0
  | k + 1 => Go.bits .or .u64 (IntKind.u64.wrap (rnum s k * 256)) (IntKind.u64.wrap (bt s k))
def pack_Reader_Number.f (a0_0 : ByteArray) (a0_1 : Bool) (a1 : Int) : Option (Int × ByteArray × Bool) :=
  if a0_0.size ≤ 9223372036854775807 then
    (if a0_1 = true then some (0, (⟨#[]⟩ : ByteArray), true) else if a1 < 1 then some (0, (⟨#[]⟩ : ByteArray), true) else if 8 < a1 then some (0, (⟨#[]⟩ : ByteArray), true)
      else if (a0_0.size : Int) < a1 then some (0, (⟨#[]⟩ : ByteArray), true) else some (rnum a0_0 a1.toNat, a0_0.extract a1.toNat a0_0.size, false))
  else none
theorem pack_Reader_Number.some_ (s : ByteArray) (n : Nat) (h1 : 1 ≤ n) (h8 : n ≤ 8) (hs : n ≤ s.size) (hm : s.size ≤ 9223372036854775807) (w : World) :
    Calls Try.prog 75 #[.agg #[.string s, .bool false], .int .i64 n] w fun e w' => e = .returned (.tuple #[.int .u64 (rnum s n), .agg #[.string (s.extract n s.size), .bool false]]) ∧ Below w.heap.size w w' := by
  have hcv := fun W t => Lib.run_convert_string_bytes (P := Try.prog) W 9 91 5 t Try.underlying9 Try.underlying91 Try.underlying5
  have b1 : decide ((n : Int) < 1) = false := by simp; omega
  have b2 : decide ((8 : Int) < (n : Int)) = false := by simp; omega
  have b3 : decide (s.size < n) = false := by simp; omega
  go_enter Try.func75, Try.ntmps75
  go_wp2
  obtain ⟨W, hW⟩ : ∃ W, W = Lib.bytesWorld ((w.alloc (Obj.cells #[Value.string s, Value.bool false] 134)).alloc (Obj.cells #[Value.string { data := #[] }, Value.bool false] 134)) 5 (s.extract 0 n) := ⟨_, rfl⟩
  have hbel : Below w.heap.size w W := by
    rw [hW]
    exact bytes_below (((Below.refl _ _).alloc (Nat.le_refl _) _).alloc (by simp) _) (by simp; omega) _ _
  have hsz : W.heap.size = w.heap.size + 3 := by rw [hW, Lib.bytesWorld_size]; simp
  have hc0 : W.cell? ⟨w.heap.size, 0, none⟩ = some (.string s) := by
    rw [hW, Lib.bytesWorld_old _ _ _ _ (by simp; omega)]; simp [go_sem]
  have hc2 : W.cell? ⟨w.heap.size + 1, 0, none⟩ = some (.string ⟨#[]⟩) := by
    rw [hW, Lib.bytesWorld_old _ _ _ _ (by simp)]; simp [go_sem]
  have hc3 : W.cell? ⟨w.heap.size + 1, 1, none⟩ = some (.bool false) := by
    rw [hW, Lib.bytesWorld_old _ _ _ _ (by simp)]; simp [go_sem]
  have hf2 : W.frozen? ⟨w.heap.size + 1, 0, none⟩ = false := by
    rw [hW, pack_Reader_Number.bytesWorld_frozen _ _ _ _ (by simp)]; simp [go_sem]
  have hf3 : W.frozen? ⟨w.heap.size + 1, 1, none⟩ = false := by
    rw [hW, pack_Reader_Number.bytesWorld_frozen _ _ _ _ (by simp)]; simp [go_sem]
  have hel : ∀ k : Nat, k < n → W.cell? ⟨w.heap.size + 1 + 1, k, none⟩ = some (.int .u8 (bt s k)) := by
    intro k hk
    obtain ⟨_, _, hr⟩ := bytes_reads ((w.alloc (Obj.cells #[Value.string s, Value.bool false] 134)).alloc (Obj.cells #[Value.string { data := #[] }, Value.bool false] 134)) 5 (s.extract 0 n) (by simp; omega)
    rw [← hW] at hr
    obtain ⟨ad, had, hr⟩ := hr (by simp; omega)
    have hr := hr k (by simp; omega)
    simp at had
    subst had
    rw [add_plain] at hr
    rw [hr]
    have e1 : (bytesOf (s.extract 0 n)).getD k 0 = bt (s.extract 0 n) k := rd_bytesOf (s.extract 0 n) k
    rw [e1, pack_Reader_Number.bt_extract0 _ _ _ hk hs]
  rw [← hW]
  clear hW hcv
  go_loop [32, 4] (fun i v => ∃ k : Nat, k ≤ n ∧ i = .int .i64 k ∧ v = .int .u64 (rnum s k)) (fun i _ => n - (intOf i).toNat)
  case atStart => exact ⟨0, Nat.zero_le _, rfl, rfl⟩
  case round =>
    obtain ⟨k, hk, rfl, rfl⟩ := hrel
    by_cases hlt : k < n
    · have hcell := hel k hlt
      clear hel
      go_wp2
      go_round
      case rel => exact ⟨k + 1, by omega, by go_num, rfl⟩
      case measure => simp [intOf]; omega
    · obtain rfl : k = n := by omega
      clear hel
      go_wp2
      go_region
      all_goals go_wp2
      refine bodyPost_ret (v := .tuple #[.int .u64 (rnum s k), .agg #[.string (s.extract k s.size), .bool false]]) (by simp [results, Try.results75, go_sem, hc2, hc3, hf2, hf3]) rfl ⟨rfl, ?_⟩
      exact ((hbel.setCell (by simp) _).setCell (by simp) _).drew
theorem pack_Reader_Number.bad_ (s : ByteArray) (b : Bool) (a1 : Int) (h : b = true ∨ b = false ∧ (a1 < 1 ∨ 8 < a1 ∨ (s.size : Int) < a1)) (w : World) :
    Calls Try.prog 75 #[.agg #[.string s, .bool b], .int .i64 a1] w fun e w' => e = .returned (.tuple #[.int .u64 0, .agg #[.string ⟨#[]⟩, .bool true]]) ∧ Below w.heap.size w w' := by
  rcases h with rfl | ⟨rfl, h⟩
  · go_enter Try.func75, Try.ntmps75
    go_wp2
    refine bodyPost_ret (v := .agg #[.string ⟨#[]⟩, .bool true]) (by simp [results, Try.results98, go_sem]) rfl ?_
    go_wp2
    refine bodyPost_ret (v := .tuple #[.int .u64 0, .agg #[.string ⟨#[]⟩, .bool true]]) (by simp [results, Try.results75, go_sem]) rfl ⟨rfl, ?_⟩
    repeat (first | exact Below.refl _ _ | apply below_alloc | apply below_drew | refine Below.setCell ?_ (by simp) _)
  · rcases h with h | h | h
    · have b1 : decide (a1 < 1) = true := decide_eq_true h
      go_enter Try.func75, Try.ntmps75
      go_wp2
      refine bodyPost_ret (v := .agg #[.string ⟨#[]⟩, .bool true]) (by simp [results, Try.results98, go_sem]) rfl ?_
      go_wp2
      refine bodyPost_ret (v := .tuple #[.int .u64 0, .agg #[.string ⟨#[]⟩, .bool true]]) (by simp [results, Try.results75, go_sem]) rfl ⟨rfl, ?_⟩
      repeat (first | exact Below.refl _ _ | apply below_alloc | apply below_drew | refine Below.setCell ?_ (by simp) _)
    · have b1 : decide (8 < a1) = true := decide_eq_true h
      have b2 : decide (a1 < 1) = false := decide_eq_false (by omega)
      go_enter Try.func75, Try.ntmps75
      go_wp2
      refine bodyPost_ret (v := .agg #[.string ⟨#[]⟩, .bool true]) (by simp [results, Try.results98, go_sem]) rfl ?_
      go_wp2
      refine bodyPost_ret (v := .tuple #[.int .u64 0, .agg #[.string ⟨#[]⟩, .bool true]]) (by simp [results, Try.results75, go_sem]) rfl ⟨rfl, ?_⟩
      repeat (first | exact Below.refl _ _ | apply below_alloc | apply below_drew | refine Below.setCell ?_ (by simp) _)
    · by_cases h1 : a1 < 1
      · have b1 : decide (a1 < 1) = true := decide_eq_true h1
        clear h
        go_enter Try.func75, Try.ntmps75
        go_wp2
        refine bodyPost_ret (v := .agg #[.string ⟨#[]⟩, .bool true]) (by simp [results, Try.results98, go_sem]) rfl ?_
        go_wp2
        refine bodyPost_ret (v := .tuple #[.int .u64 0, .agg #[.string ⟨#[]⟩, .bool true]]) (by simp [results, Try.results75, go_sem]) rfl ⟨rfl, ?_⟩
        repeat (first | exact Below.refl _ _ | apply below_alloc | apply below_drew | refine Below.setCell ?_ (by simp) _)
      · by_cases h8 : 8 < a1
        · have b1 : decide (8 < a1) = true := decide_eq_true h8
          clear h
          have b2 : decide (a1 < 1) = false := decide_eq_false (by omega)
          go_enter Try.func75, Try.ntmps75
          go_wp2
          refine bodyPost_ret (v := .agg #[.string ⟨#[]⟩, .bool true]) (by simp [results, Try.results98, go_sem]) rfl ?_
          go_wp2
          refine bodyPost_ret (v := .tuple #[.int .u64 0, .agg #[.string ⟨#[]⟩, .bool true]]) (by simp [results, Try.results75, go_sem]) rfl ⟨rfl, ?_⟩
          repeat (first | exact Below.refl _ _ | apply below_alloc | apply below_drew | refine Below.setCell ?_ (by simp) _)
        · have b1 : decide (8 < a1) = false := decide_eq_false (by omega)
          have b2 : decide (a1 < 1) = false := decide_eq_false (by omega)
          have b3 : decide ((s.size : Int) < a1) = true := decide_eq_true h
          go_enter Try.func75, Try.ntmps75
          go_wp2
          refine bodyPost_ret (v := .agg #[.string ⟨#[]⟩, .bool true]) (by simp [results, Try.results98, go_sem]) rfl ?_
          go_wp2
          refine bodyPost_ret (v := .tuple #[.int .u64 0, .agg #[.string ⟨#[]⟩, .bool true]]) (by simp [results, Try.results75, go_sem]) rfl ⟨rfl, ?_⟩
          repeat (first | exact Below.refl _ _ | apply below_alloc | apply below_drew | refine Below.setCell ?_ (by simp) _)
theorem pack_Reader_Number.calls (a0_0 : ByteArray) (a0_1 : Bool) (a1 : Int) (r1 : Int) (r2 : ByteArray) (r3 : Bool) (w : World) (h : pack_Reader_Number.f a0_0 a0_1 a1 = some (r1, r2, r3)) :
    Calls Try.prog 75 #[.agg #[.string a0_0, .bool a0_1], .int .i64 a1] w fun e w' => e = .returned (.tuple #[.int .u64 r1, .agg #[.string r2, .bool r3]]) ∧ Below w.heap.size w w' := by
  unfold pack_Reader_Number.f at h
  by_cases hm : a0_0.size ≤ 9223372036854775807
  · rw [if_pos hm] at h
    by_cases c0 : a0_1 = true
    · rw [if_pos c0] at h
      simp only [Option.some.injEq, Prod.mk.injEq] at h
      obtain ⟨rfl, rfl, rfl⟩ := h
      exact pack_Reader_Number.bad_ _ _ _ (.inl c0) w
    · rw [if_neg c0] at h
      have c0' : a0_1 = false := by simpa using c0
      by_cases c1 : a1 < 1
      · rw [if_pos c1] at h
        simp only [Option.some.injEq, Prod.mk.injEq] at h
        obtain ⟨rfl, rfl, rfl⟩ := h
        exact pack_Reader_Number.bad_ _ _ _ (.inr ⟨c0', .inl c1⟩) w
      · rw [if_neg c1] at h
        by_cases c2 : 8 < a1
        · rw [if_pos c2] at h
          simp only [Option.some.injEq, Prod.mk.injEq] at h
          obtain ⟨rfl, rfl, rfl⟩ := h
          exact pack_Reader_Number.bad_ _ _ _ (.inr ⟨c0', .inr (.inl c2)⟩) w
        · rw [if_neg c2] at h
          by_cases c3 : (a0_0.size : Int) < a1
          · rw [if_pos c3] at h
            simp only [Option.some.injEq, Prod.mk.injEq] at h
            obtain ⟨rfl, rfl, rfl⟩ := h
            exact pack_Reader_Number.bad_ _ _ _ (.inr ⟨c0', .inr (.inr c3)⟩) w
          · rw [if_neg c3] at h
            simp only [Option.some.injEq, Prod.mk.injEq] at h
            obtain ⟨rfl, rfl, rfl⟩ := h
            obtain ⟨n, rfl⟩ := Int.eq_ofNat_of_zero_le (show 0 ≤ a1 by omega)
            subst c0'
            rw [Int.toNat_natCast]
            exact pack_Reader_Number.some_ a0_0 n (by omega) (by omega) (by omega) hm w
  · rw [if_neg hm] at h
    exact absurd h (by simp)
/-! ### pack_bad: function 98 -/
def pack_bad.f  : Option (ByteArray × Bool) := some ((⟨#[]⟩ : ByteArray), true)
set_option maxHeartbeats 8000000 in
set_option maxRecDepth 100000 in
theorem pack_bad.calls  (r1 : ByteArray) (r2 : Bool) (w : World) (h : pack_bad.f  = some (r1, r2)) :
    Calls Try.prog 98 #[] w fun e w' => e = .returned (.agg #[.string r1, .bool r2]) ∧ Below w.heap.size w w' := by
  have hu134 := Try.underlying134
  have HB := Aside0.mk (Below.refl w.heap.size w)
  have H : (some ((⟨#[]⟩ : ByteArray), true)) = some (r1, r2) := h
  clear h
  simp only [Option.some.injEq, Prod.mk.injEq] at H
  obtain ⟨rfl, rfl⟩ := H
  go_enter Try.func98, Try.ntmps98
  go_wp2_with (first | ((with_reducible refine gate_dst (N := 0) rfl ?_); refine Ka_ 0 #[.string (⟨#[]⟩ : ByteArray), .bool false] 134 ?_; intro gb171 hg w1 hbox hb; have BK171 := Aside0.mk (hbox); have GW171 := Kw_ HB hg; have GE171 := GW171; replace HB := Ks_ HB hb; clear hb hbox hg; obtain ⟨hcz2_0, hcz2_1, hfz2_0, hfz2_1⟩ := Ke2_ BK171.out))
  refine bodyPost_ret (results_cell_row rfl _ _ gb171 134 #[.string (⟨#[]⟩ : ByteArray), .bool true] (0, 0) _ rfl (by refine Kv_ ?_; refine blk_put (cs := #[.string (⟨#[]⟩ : ByteArray), .bool false]) ?_ 1 _ rfl; refine Kv_ ?_; refine blk_put (cs := #[.string (⟨#[]⟩ : ByteArray), .bool false]) ?_ 0 _ rfl; exact Kq_ BK171) Try.underlying134 rfl (by kernel_rfl)) rfl ?_
  exact ⟨Kh_, Kz_ HB GE171⟩
/-! ### pack_Reader_Vary: function 76 -/
def pack_Reader_Vary.l0 : Nat → Int → Int → Int → ByteArray → Bool → Option (Int × ByteArray × Bool)
  | 0, _, _, _, _, _ => none
  | k + 1, x4, x13, x14, x173000, x173001 => if x14 < x13 then (if 0 ≤ x14 then (if x14 < (x173000.size : Int) then (if 0 ≤ (wrap64 (7 * x14)) then (if (bt x173000 x14) ≥ 128 then (pack_Reader_Vary.l0 k (Go.bits .or .u64 x4 (shl .u64 (IntKind.u64.wrap (Go.bits .and .u8 (bt x173000 x14) 127)) (wrap64 (7 * x14)))) x13 (wrap64 (x14 + 1)) x173000 x173001) else (if 0 ≤ (wrap64 (x14 + 1)) then (if (wrap64 (x14 + 1)) ≤ (x173000.size : Int) then ((pack_Vary.f k (Go.bits .or .u64 x4 (shl .u64 (IntKind.u64.wrap (Go.bits .and .u8 (bt x173000 x14) 127)) (wrap64 (7 * x14))))).bind fun t178 => (if (x173000.extract 0 ((wrap64 (x14 + 1)) : Int).toNat).toList = t178.toList then (some (Go.bits .or .u64 x4 (shl .u64 (IntKind.u64.wrap (Go.bits .and .u8 (bt x173000 x14) 127)) (wrap64 (7 * x14))), x173000.extract ((wrap64 (x14 + 1)) : Int).toNat x173000.size, false)) else ((pack_bad.f).bind fun bt179 => (some (0, bt179.1, bt179.2))))) else (none)) else (none))) else (none)) else (none)) else (none)) else ((pack_bad.f).bind fun bt176 => (some (0, bt176.1, bt176.2)))
def pack_Reader_Vary.f (k : Nat) (a0_0 : ByteArray) (a0_1 : Bool) : Option (Int × ByteArray × Bool) := if a0_1 = true then ((pack_bad.f).bind fun bt174 => (some (0, bt174.1, bt174.2))) else (pack_Reader_Vary.l0 k 0 (mn (a0_0.size : Int) 10) 0 a0_0 a0_1)
theorem pack_Reader_Vary.mono_l : ∀ k, (∀ y0 y1 y2 y3 y4, LeO (pack_Reader_Vary.l0 k y0 y1 y2 y3 y4) (pack_Reader_Vary.l0 (k + 1) y0 y1 y2 y3 y4))
  | 0 => fun _ _ _ _ _ r h => by simp [pack_Reader_Vary.l0] at h
  | k + 1 => by
    have ih0 := pack_Reader_Vary.mono_l k
    · intro y0 y1 y2 y3 y4
      unfold pack_Reader_Vary.l0
      repeat' first
      | (with_reducible exact ih0 _ _ _ _ _)
      | (with_reducible exact pack_Vary.mono _ _)
      | (with_reducible exact LeO.refl _)
      | (with_reducible exact LeO.none _)
      | (with_reducible refine LeO.ite ?_ ?_)
      | (with_reducible refine LeO.bind ?_ (fun _ => ?_))
      | exact ih0 _ _ _ _ _
      | exact pack_Vary.mono _ _
      | exact LeO.none _
      | refine LeO.ite ?_ ?_
      | refine LeO.bind ?_ (fun _ => ?_)
theorem pack_Reader_Vary.mono : ∀ a0 a1 k, LeO (pack_Reader_Vary.f k a0 a1) (pack_Reader_Vary.f (k + 1) a0 a1) := by
  intro a0 a1 k
  have ih0 := pack_Reader_Vary.mono_l k
  unfold pack_Reader_Vary.f
  repeat' first
      | (with_reducible exact ih0 _ _ _ _ _)
      | (with_reducible exact pack_Vary.mono _ _)
      | (with_reducible exact LeO.refl _)
      | (with_reducible exact LeO.none _)
      | (with_reducible refine LeO.ite ?_ ?_)
      | (with_reducible refine LeO.bind ?_ (fun _ => ?_))
      | exact ih0 _ _ _ _ _
      | exact pack_Vary.mono _ _
      | exact LeO.none _
      | refine LeO.ite ?_ ?_
      | refine LeO.bind ?_ (fun _ => ?_)
def pack_Reader_Vary.T10 : Bool × List (List Nat × List Nat) := (true, [([], []), ([0], [0]), ([], []), ([2], [2]), ([1, 3], [1, 3]), ([], []), ([5], [5]), ([4, 6], [4, 6])])
def pack_Reader_Vary.B10 : List Nat := [0, 1, 0, 4, 15, 0, 32, 127]
theorem pack_Reader_Vary.tab10 : rtab .any (opsOf Try.f76 10) = pack_Reader_Vary.T10 := by kernel_rfl
theorem pack_Reader_Vary.bits10 : waitsOk pack_Reader_Vary.T10.2 pack_Reader_Vary.B10 = true := by kernel_rfl
def pack_Reader_Vary.T11 : Bool × List (List Nat × List Nat) := (true, [([], []), ([], []), ([1], [1]), ([], []), ([3], [3]), ([2, 4], [2, 4]), ([5], [5]), ([0, 0], [0]), ([6, 7, 0, 1, 2, 3, 4, 5, 6, 7], [6])])
def pack_Reader_Vary.B11 : List Nat := [0, 0, 2, 0, 8, 30, 62, 1, 255]
theorem pack_Reader_Vary.tab11 : rtab .any (opsOf Try.f76 11) = pack_Reader_Vary.T11 := by kernel_rfl
theorem pack_Reader_Vary.bits11 : waitsOk pack_Reader_Vary.T11.2 pack_Reader_Vary.B11 = true := by kernel_rfl
set_option maxHeartbeats 8000000 in
set_option maxRecDepth 100000 in
theorem pack_Reader_Vary.calls (k : Nat) (a0_0 : ByteArray) (a0_1 : Bool) (r1 : Int) (r2 : ByteArray) (r3 : Bool) (w : World) (h : pack_Reader_Vary.f k a0_0 a0_1 = some (r1, r2, r3)) :
    Calls Try.prog 76 #[.agg #[.string a0_0, .bool a0_1]] w fun e w' => e = .returned (.tuple #[.int .u64 r1, .agg #[.string r2, .bool r3]]) ∧ Below w.heap.size w w' := by
  have hu134 := Try.underlying134
  have HB := Aside0.mk (Below.refl w.heap.size w)
  have H : (if a0_1 = true then ((pack_bad.f).bind fun bt174 => (some (0, bt174.1, bt174.2))) else (pack_Reader_Vary.l0 k 0 (mn (a0_0.size : Int) 10) 0 a0_0 a0_1)) = some (r1, r2, r3) := h
  clear h
  by_cases c2 : a0_1 = true
  · subst c2
    have H1 : ((pack_bad.f).bind fun bt174 => (some (0, bt174.1, bt174.2))) = some (r1, r2, r3) := by rw [if_pos rfl] at H; exact H
    clear H
    have H := H1
    clear H1
    replace H := Option.bind_eq_some_iff.mp H
    obtain ⟨⟨t174, t175⟩, A30, H⟩ := H
    replace H : (some (0, t174, t175)) = some (r1, r2, r3) := H
    have A3 := Aside0.mk A30
    clear A30
    simp only [Option.some.injEq, Prod.mk.injEq] at H
    obtain ⟨rfl, rfl, rfl⟩ := H
    go_enter Try.func76, Try.ntmps76
    go_wp2_with (first | ((with_reducible refine gate_dst (N := 1) rfl ?_); refine Ka_ 1 #[.string a0_0, .bool true] 134 ?_; intro gb172 hg w4 hbox hb; have BK172 := Aside0.mk (hbox); have GW172 := Kw_ HB hg; have GE172 := GW172; replace HB := Ks_ HB hb; clear hb hbox hg) | ((with_reducible refine gate_dst (N := 3) rfl ?_); refine Ka_ 3 #[.string (⟨#[]⟩ : ByteArray), .bool false] 134 ?_; intro gb173 hg w5 hbox hb; have BK173 := Aside0.mk (hbox); have GW173 := Kw_ HB hg; have GE173 := GW173; have NB172_173 := Kl_ BK172 hg; have NB173_172 := Kr_ BK172 hg; replace BK172 := Kb_ BK172 hb; replace HB := Ks_ HB hb; clear hb hbox hg; have hnb6 := NB172_173.out; have hnc6 := NB173_172.out; obtain ⟨hcz7_0, hcz7_1, hfz7_0, hfz7_1⟩ := Ke2_ BK172.out) | ((with_reducible refine gate_callee (f := 98) rfl ?_); refine Kg_ (some 9) rfl rfl Try.func98 (by kernel_rfl) rfl #[] rfl ?_; (with_reducible refine (pack_bad.calls  t174 t175 _ A3.out).mono ?_); rintro e w8 ⟨rfl, hb⟩; refine ⟨_, rfl, ?_⟩; replace BK172 := Kb_ BK172 hb; replace BK173 := Kb_ BK173 hb; replace HB := Ks_ HB hb; (try clear hb); (try clear hb2); (try clear hk); (try clear hi); obtain ⟨hcz9_0, hcz9_1, hfz9_0, hfz9_1⟩ := Ke2_ BK173.out))
    refine bodyPost_ret (results_tc rfl _ _ gb173 134 #[.string t174, .bool t175] (0, 0) _ rfl (by refine Kv_ ?_; refine blk_put (cs := #[.string t174, .bool false]) ?_ 1 _ rfl; refine Kv_ ?_; refine blk_put (cs := #[.string (⟨#[]⟩ : ByteArray), .bool false]) ?_ 0 _ rfl; exact Kq_ BK173) Try.underlying134 rfl (by kernel_rfl)) rfl ?_
    exact ⟨Kh_, K2a_ HB GE172 GE173⟩
  replace c2 := Bool.eq_false_iff.mpr c2
  subst c2
  have H1 : (pack_Reader_Vary.l0 k 0 (mn (a0_0.size : Int) 10) 0 a0_0 false) = some (r1, r2, r3) := by rw [if_neg (show ¬ (false = true) by decide)] at H; exact H
  clear H
  have H := H1
  clear H1
  obtain ⟨ji10, hji10⟩ : ∃ j_ : Int, (mn (a0_0.size : Int) 10) = j_ := ⟨_, rfl⟩
  replace H : (pack_Reader_Vary.l0 k 0 ji10 0 a0_0 false) = some (r1, r2, r3) := by first | (rw [hji10] at H; exact H) | (simp only [hji10] at H ⊢; exact H)
  (try (have hji10h : ji10 ≤ 10 := by (rw [← hji10]; unfold mn; (repeat' split) <;> omega)))
  (try (have hji10g : ji10 ≤ 64 := by omega))
  (try (have hji10l : 0 ≤ ji10 := by (rw [← hji10]; unfold mn; (repeat' split) <;> omega)))
  (try (have hji10m : 0 ≤ ji10 := by omega))
  have hji10_ : (if 10 < (a0_0.size : Int) then 10 else (a0_0.size : Int)) = ji10 := hji10
  have H' := Aside0.mk H
  clear H
  go_enter Try.func76, Try.ntmps76
  go_wp2_with (first | ((with_reducible refine gate_dst (N := 1) rfl ?_); refine Ka_ 1 #[.string a0_0, .bool false] 134 ?_; intro gb172 hg w11 hbox hb; have BK172 := Aside0.mk (hbox); have GW172 := Kw_ HB hg; have GE172 := GW172; replace HB := Ks_ HB hb; clear hb hbox hg) | ((with_reducible refine gate_dst (N := 3) rfl ?_); refine Ka_ 3 #[.string (⟨#[]⟩ : ByteArray), .bool false] 134 ?_; intro gb173 hg w12 hbox hb; have BK173 := Aside0.mk (hbox); have GW173 := Kw_ HB hg; have GE173 := GW173; have NB172_173 := Kl_ BK172 hg; have NB173_172 := Kr_ BK172 hg; replace BK172 := Kb_ BK172 hb; replace HB := Ks_ HB hb; clear hb hbox hg; have hnb13 := NB172_173.out; have hnc13 := NB173_172.out; obtain ⟨hcz14_0, hcz14_1, hfz14_0, hfz14_1⟩ := Ke2_ BK172.out))
  go_loopg [4, 14] k (fun kq v4 v14 w' => ∃ (x4_1 : Int) (x14_1 : Int) (x174000_1 : ByteArray) (x174001_1 : Bool), v4 = .int .u64 x4_1 ∧ v14 = .int .i64 x14_1 ∧ Aside0 (pack_Reader_Vary.l0 kq x4_1 ji10 x14_1 a0_0 false = some (r1, r2, r3)) ∧ Aside0 (kq ≤ k) ∧ Aside0 (w'.heap[gb172]? = some (.cells #[.string a0_0, .bool false] 134 (0, 0))) ∧ Aside0 (w'.heap[gb173]? = some (.cells #[.string x174000_1, .bool x174001_1] 134 (0, 0))) ∧ Aside0 (Below w.heap.size w w'))
  case atStart => exact ⟨(0), (0), ((⟨#[]⟩ : ByteArray)), (false), (by first | rfl | (simp; done) | (simp [*]; done)), (by first | rfl | (simp; done) | (simp [*]; done)), H', ⟨Nat.le_refl _⟩, ⟨by exact Kq_ BK172⟩, ⟨by exact Kq_ BK173⟩, ⟨K2a_ HB GE172 GE173⟩⟩
  case round =>
    clear H'
    try clear c1
    try clear c2
    try clear p2
    try clear c6
    try clear c7
    try clear c9
    try clear c13
    try clear hcz14_0
    try clear hcz14_1
    try clear hcz7_0
    try clear hcz7_1
    try clear hcz9_0
    try clear hcz9_1
    try clear hfz14_0
    try clear hfz14_1
    try clear hfz7_0
    try clear hfz7_1
    try clear hfz9_0
    try clear hfz9_1
    obtain ⟨x4_1, x14_1, x174000_1, x174001_1, rfl, rfl, HA, HK1, BK172, BK173, HB⟩ := hrel
    cases gk with
    | zero => exact absurd HA.out (by simp [pack_Reader_Vary.l0])
    | succ k1 =>
      have H := HA.out
      clear HA
      simp only [pack_Reader_Vary.l0] at H
      by_cases c15 : x14_1 < ji10
      rotate_left
      · rw [if_neg c15] at H
        have c15b0 : decide (x14_1 < ji10) = false := decide_eq_false c15
        clear c15
        replace H := Option.bind_eq_some_iff.mp H
        obtain ⟨⟨t176, t177⟩, A460, H⟩ := H
        replace H : (some (0, t176, t177)) = some (r1, r2, r3) := H
        have A46 := Aside0.mk A460
        clear A460
        simp only [Option.some.injEq, Prod.mk.injEq] at H
        obtain ⟨rfl, rfl, rfl⟩ := H
        go_wp2_with (first | ((with_reducible refine gate_callee (f := 98) rfl ?_); refine Kg_ (some 47) rfl rfl Try.func98 (by kernel_rfl) rfl #[] rfl ?_; (with_reducible refine (pack_bad.calls  t176 t177 _ A46.out).mono ?_); rintro e w47 ⟨rfl, hb⟩; refine ⟨_, rfl, ?_⟩; replace BK172 := Kb_ BK172 hb; replace BK173 := Kb_ BK173 hb; replace HB := Ks_ HB hb; (try clear hb); (try clear hb2); (try clear hk); (try clear hi); have hnb48 := NB173_172.out; have hnc48 := NB172_173.out; obtain ⟨hcz49_0, hcz49_1, hfz49_0, hfz49_1⟩ := Ke2_ BK173.out))
        refine bodyPost_ret (results_tc rfl _ _ gb173 134 #[.string t176, .bool t177] (0, 0) _ rfl (by refine Kv_ ?_; refine blk_put (cs := #[.string t176, .bool x174001_1]) ?_ 1 _ rfl; refine Kv_ ?_; refine blk_put (cs := #[.string x174000_1, .bool x174001_1]) ?_ 0 _ rfl; exact Kq_ BK173) Try.underlying134 rfl (by kernel_rfl)) rfl ?_
        exact ⟨by first | rfl | (simp [errW_none, errW_some] <;> rfl) | (simp only [← hji10]; first | rfl | (simp [errW_none, errW_some] <;> rfl)) | (simp [*, errW_none, errW_some] <;> rfl), K2a_ HB GE172 GE173⟩
      rw [if_pos c15] at H
      have c15b0 : decide (x14_1 < ji10) = true := decide_eq_true c15
      clear c15
      by_cases c16 : 0 ≤ x14_1
      rotate_left
      · rw [if_neg c16] at H
        exact absurd H (by simp)
      rw [if_pos c16] at H
      have c16b0 : decide (0 ≤ x14_1) = true := decide_eq_true c16
      clear c16
      by_cases c17 : x14_1 < (a0_0.size : Int)
      rotate_left
      · rw [if_neg c17] at H
        exact absurd H (by simp)
      rw [if_pos c17] at H
      have c17b0 : decide (x14_1 < (a0_0.size : Int)) = true := decide_eq_true c17
      clear c17
      obtain ⟨ji19, hji19⟩ : ∃ j_ : Int, (wrap64 (7 * x14_1)) = j_ := ⟨_, rfl⟩
      replace H : (if 0 ≤ (ji19) then (if (bt a0_0 x14_1) ≥ 128 then (pack_Reader_Vary.l0 k1 (Go.bits .or .u64 x4_1 (shl .u64 (IntKind.u64.wrap (Go.bits .and .u8 (bt a0_0 x14_1) 127)) (ji19))) ji10 (wrap64 (x14_1 + 1)) a0_0 false) else (if 0 ≤ (wrap64 (x14_1 + 1)) then (if (wrap64 (x14_1 + 1)) ≤ (a0_0.size : Int) then ((pack_Vary.f k1 (Go.bits .or .u64 x4_1 (shl .u64 (IntKind.u64.wrap (Go.bits .and .u8 (bt a0_0 x14_1) 127)) (ji19)))).bind fun t178 => (if (a0_0.extract 0 ((wrap64 (x14_1 + 1)) : Int).toNat).toList = t178.toList then (some (Go.bits .or .u64 x4_1 (shl .u64 (IntKind.u64.wrap (Go.bits .and .u8 (bt a0_0 x14_1) 127)) (ji19)), a0_0.extract ((wrap64 (x14_1 + 1)) : Int).toNat a0_0.size, false)) else ((pack_bad.f).bind fun bt179 => (some (0, bt179.1, bt179.2))))) else (none)) else (none))) else (none)) = some (r1, r2, r3) := by first | (rw [hji19] at H; exact H) | (simp only [hji19] at H ⊢; exact H)
      have hji19w : (IntKind.i64.wrap (7 * x14_1)) = ji19 := (i64_w _).trans hji19
      by_cases c20 : 0 ≤ (ji19)
      rotate_left
      · rw [if_neg c20] at H
        exact absurd H (by simp)
      rw [if_pos c20] at H
      have c20b0 := eq_true c20
      have c20b1 : decide (0 ≤ (ji19)) = true := decide_eq_true c20
      clear c20
      obtain ⟨ji21, hji21⟩ : ∃ j_ : Int, (shl .u64 (IntKind.u64.wrap (Go.bits .and .u8 (bt a0_0 x14_1) 127)) (ji19)) = j_ := ⟨_, rfl⟩
      replace H : (if (bt a0_0 x14_1) ≥ 128 then (pack_Reader_Vary.l0 k1 (Go.bits .or .u64 x4_1 (ji21)) ji10 (wrap64 (x14_1 + 1)) a0_0 false) else (if 0 ≤ (wrap64 (x14_1 + 1)) then (if (wrap64 (x14_1 + 1)) ≤ (a0_0.size : Int) then ((pack_Vary.f k1 (Go.bits .or .u64 x4_1 (ji21))).bind fun t178 => (if (a0_0.extract 0 ((wrap64 (x14_1 + 1)) : Int).toNat).toList = t178.toList then (some (Go.bits .or .u64 x4_1 (ji21), a0_0.extract ((wrap64 (x14_1 + 1)) : Int).toNat a0_0.size, false)) else ((pack_bad.f).bind fun bt179 => (some (0, bt179.1, bt179.2))))) else (none)) else (none))) = some (r1, r2, r3) := by first | (rw [hji21] at H; exact H) | (simp only [hji21] at H ⊢; exact H)
      have hji21_ : (IntKind.u64.wrap ((IntKind.u64.wrap (Go.bits .and .u8 (bt a0_0 x14_1) 127)) * 2 ^ min (ji19).toNat 64)) = ji21 := hji21
      have hji21z : (ji19) ≤ 64 → (IntKind.u64.wrap ((IntKind.u64.wrap (Go.bits .and .u8 (bt a0_0 x14_1) 127)) * 2 ^ (ji19).toNat)) = ji21 := shl_small hji21
      by_cases c22 : (bt a0_0 x14_1) ≥ 128
      · rw [if_pos c22] at H
        have c22b0 : decide (128 ≤ (bt a0_0 x14_1)) = true := decide_eq_true c22
        clear c22
        have H' := Aside0.mk H
        clear H
        have hnb23 := NB172_173.out
        have hnc23 := NB173_172.out
        obtain ⟨hcz24_0, hcz24_1, hfz24_0, hfz24_1⟩ := Ke2_ BK172.out
        have p18 : 0 ≤ (x14_1 : Int) := of_decide_eq_true (by first | (with_reducible assumption) | assumption)
        have q18 : x14_1 < (a0_0.size : Int) := of_decide_eq_true (by first | (with_reducible assumption) | assumption)
        have hx18 := bt_at a0_0 x14_1
        replace p18 := eq_true p18
        replace q18 := eq_true q18
        go_wp2
        go_roundg k1
        case measure => have := HK1.out; omega
        case rel => exact ⟨(Go.bits .or .u64 x4_1 (ji21)), (wrap64 (x14_1 + 1)), (x174000_1), (x174001_1), (by first | rfl | (simp; done) | (simp only [← hji21] <;> (first | rfl | simp)) | (simp [*]; done)), (by first | rfl | (simp; done) | (simp [*]; done)), H', ⟨by have := HK1.out; omega⟩, ⟨by exact Kq_ BK172⟩, ⟨by exact Kq_ BK173⟩, ⟨K2a_ HB GE172 GE173⟩⟩
      rw [if_neg c22] at H
      have c22b0 : decide (128 ≤ (bt a0_0 x14_1)) = false := decide_eq_false c22
      clear c22
      obtain ⟨ji25, hji25⟩ : ∃ j_ : Int, (wrap64 (x14_1 + 1)) = j_ := ⟨_, rfl⟩
      replace H : (if 0 ≤ (ji25) then (if (ji25) ≤ (a0_0.size : Int) then ((pack_Vary.f k1 (Go.bits .or .u64 x4_1 (ji21))).bind fun t178 => (if (a0_0.extract 0 ((ji25) : Int).toNat).toList = t178.toList then (some (Go.bits .or .u64 x4_1 (ji21), a0_0.extract ((ji25) : Int).toNat a0_0.size, false)) else ((pack_bad.f).bind fun bt179 => (some (0, bt179.1, bt179.2))))) else (none)) else (none)) = some (r1, r2, r3) := by first | (rw [hji25] at H; exact H) | (simp only [hji25] at H ⊢; exact H)
      have hji25w : (IntKind.i64.wrap (x14_1 + 1)) = ji25 := (i64_w _).trans hji25
      by_cases c26 : 0 ≤ (ji25)
      rotate_left
      · rw [if_neg c26] at H
        exact absurd H (by simp)
      rw [if_pos c26] at H
      have c26b0 := eq_true c26
      have c26b1 : decide (0 ≤ (ji25)) = true := decide_eq_true c26
      clear c26
      by_cases c27 : (ji25) ≤ (a0_0.size : Int)
      rotate_left
      · rw [if_neg c27] at H
        exact absurd H (by simp)
      rw [if_pos c27] at H
      have c27b0 := eq_true c27
      have c27b1 : decide ((ji25) ≤ (a0_0.size : Int)) = true := decide_eq_true c27
      clear c27
      replace H := Option.bind_eq_some_iff.mp H
      obtain ⟨t178, A280, H⟩ := H
      replace H : (if (a0_0.extract 0 ((ji25) : Int).toNat).toList = t178.toList then (some (Go.bits .or .u64 x4_1 (ji21), a0_0.extract ((ji25) : Int).toNat a0_0.size, false)) else ((pack_bad.f).bind fun bt179 => (some (0, bt179.1, bt179.2)))) = some (r1, r2, r3) := H
      have A28 := Aside0.mk A280
      clear A280
      by_cases c29 : (a0_0.extract 0 ((ji25) : Int).toNat).toList = t178.toList
      rotate_left
      · rw [if_neg c29] at H
        have c29b0 : ((a0_0.extract 0 ((ji25) : Int).toNat).toList == t178.toList) = false := beq_eq_false_iff_ne.mpr c29
        have c29b1 : ((a0_0.extract 0 ((ji25) : Int).toNat).toList != t178.toList) = true := bne_iff_ne.mpr c29
        replace H := Option.bind_eq_some_iff.mp H
        obtain ⟨⟨t179, t180⟩, A390, H⟩ := H
        replace H : (some (0, t179, t180)) = some (r1, r2, r3) := H
        have A39 := Aside0.mk A390
        clear A390
        simp only [Option.some.injEq, Prod.mk.injEq] at H
        obtain ⟨rfl, rfl, rfl⟩ := H
        have hnb40 := NB172_173.out
        have hnc40 := NB173_172.out
        obtain ⟨hcz41_0, hcz41_1, hfz41_0, hfz41_1⟩ := Ke2_ BK172.out
        have p18 : 0 ≤ (x14_1 : Int) := of_decide_eq_true (by first | (with_reducible assumption) | assumption)
        have q18 : x14_1 < (a0_0.size : Int) := of_decide_eq_true (by first | (with_reducible assumption) | assumption)
        have hx18 := bt_at a0_0 x14_1
        replace p18 := eq_true p18
        replace q18 := eq_true q18
        try go_wp2
        replace BK172 := Kd_ BK172
        replace BK173 := Kd_ BK173
        replace HB := Aside0.mk (below_drew1 HB.out)
        refine start_ (n := 8) (S := fun w' => w'.cell? ⟨gb172, 0, none⟩ = some (.string a0_0) ∧ w'.cell? ⟨gb172, 1, none⟩ = some (.bool false)) (ds := []) #[false, false, false, false, false, false, false, false] (by kernel_rfl) rfl rfl (Kc2_ BK172.out) (fun hHeld => ?_); refine with_tabW pack_Reader_Vary.tab10 pack_Reader_Vary.bits10 (fun HT_ HW_ => ?_)
        generalize wr.drew = w42 at BK172 BK173 HB hHeld ⊢
        refine Kp_ 0 31 #[true, false, false, false, false, false, false, false] (any_of HT_.out (by kernel_rfl)) ?_
        refine Kp_ 2 33 #[true, false, true, false, false, false, false, false] (any_of HT_.out (by kernel_rfl)) ?_
        refine Kp_ 3 34 #[true, false, true, true, false, false, false, false] (any_of HT_.out (by kernel_rfl)) ?_
        refine Kp_ 5 36 #[true, false, true, true, false, true, false, false] (any_of HT_.out (by kernel_rfl)) ?_
        refine Ko_ 1 32 #[true, true, true, true, false, true, false, false] (take_ofW HT_.out HW_.out (by kernel_rfl)) hHeld ?_
        refine Kp_ 4 35 #[true, true, true, true, true, true, false, false] (any_of HT_.out (by kernel_rfl)) ?_
        refine one_ (i := 6) (N := some 37) #[true, true, true, true, true, true, true, false] rfl rfl (one_of HT_.out (by kernel_rfl)) (by decide) (fun K hK => ?_)
        refine goes_ Try.func60 (by kernel_rfl) rfl #[.int .u64 (Go.bits .or .u64 x4_1 (ji21))] (by rfl) rfl rfl (by (try simp only [List.map_toArray, List.map_cons, List.map_nil]); first | done | (simp only [hji21]; rfl) | rfl | (simp only [List.length_drop, List.length_take]; rfl)) ?_
        with_reducible refine (pack_Vary.calls k1 (Go.bits .or .u64 x4_1 (ji21)) t178 _ A28.out).mono ?_
        rintro e w43 ⟨rfl, hb⟩
        refine ⟨_, rfl, ?_⟩
        replace BK172 := Kb_ BK172 hb
        replace BK173 := Kb_ BK173 hb
        replace HB := Ks_ HB hb
        (try clear hb)
        (try clear hb2)
        (try clear hk)
        (try clear hi)
        refine hK.out _ _ (Kc2_ BK172.out) (fun hHeld => ?_)
        clear hK K
        refine Kn_ 37 ?_
        refine Kp_ 7 38 #[true, true, true, true, true, true, true, true] (any_of HT_.out (by kernel_rfl)) ?_
        refine done_ (done_of HT_.out (by kernel_rfl)) ?_
        try go_wp2_with (first | ((with_reducible refine gate_callee (f := 98) rfl ?_); refine Kg_ (some 47) rfl rfl Try.func98 (by kernel_rfl) rfl #[] rfl ?_; (with_reducible refine (pack_bad.calls  t179 t180 _ A39.out).mono ?_); rintro e w44 ⟨rfl, hb⟩; refine ⟨_, rfl, ?_⟩; replace BK172 := Kb_ BK172 hb; replace BK173 := Kb_ BK173 hb; replace HB := Ks_ HB hb; (try clear hb); (try clear hb2); (try clear hk); (try clear hi); obtain ⟨hcz45_0, hcz45_1, hfz45_0, hfz45_1⟩ := Ke2_ BK173.out))
        refine bodyPost_ret (results_tc rfl _ _ gb173 134 #[.string t179, .bool t180] (0, 0) _ rfl (by refine Kv_ ?_; refine blk_put (cs := #[.string t179, .bool x174001_1]) ?_ 1 _ rfl; refine Kv_ ?_; refine blk_put (cs := #[.string x174000_1, .bool x174001_1]) ?_ 0 _ rfl; exact Kq_ BK173) Try.underlying134 rfl (by kernel_rfl)) rfl ?_
        exact ⟨by first | rfl | (simp [errW_none, errW_some] <;> rfl) | (simp only [← hji10, ← hji19, ← hji21, ← hji25]; first | rfl | (simp [errW_none, errW_some] <;> rfl)) | (simp [*, errW_none, errW_some] <;> rfl), K2a_ HB GE172 GE173⟩
      rw [if_pos c29] at H
      have c29b0 : ((a0_0.extract 0 ((ji25) : Int).toNat).toList == t178.toList) = true := beq_iff_eq.mpr c29
      have c29b1 : ((a0_0.extract 0 ((ji25) : Int).toNat).toList != t178.toList) = false := bne_eq_false_iff_eq.mpr c29
      clear c29
      have c30b0 := eq_true (of_decide_eq_true (by first | (with_reducible assumption) | assumption) : 0 ≤ (ji25))
      have c31b0 := eq_true (of_decide_eq_true (by first | (with_reducible assumption) | assumption) : (ji25) ≤ (a0_0.size : Int))
      simp only [Option.some.injEq, Prod.mk.injEq] at H
      obtain ⟨rfl, rfl, rfl⟩ := H
      have hnb32 := NB172_173.out
      have hnc32 := NB173_172.out
      obtain ⟨hcz33_0, hcz33_1, hfz33_0, hfz33_1⟩ := Ke2_ BK172.out
      have p18 : 0 ≤ (x14_1 : Int) := of_decide_eq_true (by first | (with_reducible assumption) | assumption)
      have q18 : x14_1 < (a0_0.size : Int) := of_decide_eq_true (by first | (with_reducible assumption) | assumption)
      have hx18 := bt_at a0_0 x14_1
      replace p18 := eq_true p18
      replace q18 := eq_true q18
      try go_wp2
      replace BK172 := Kd_ BK172
      replace BK173 := Kd_ BK173
      replace HB := Aside0.mk (below_drew1 HB.out)
      refine start_ (n := 8) (S := fun w' => w'.cell? ⟨gb172, 0, none⟩ = some (.string a0_0) ∧ w'.cell? ⟨gb172, 1, none⟩ = some (.bool false)) (ds := []) #[false, false, false, false, false, false, false, false] (by kernel_rfl) rfl rfl (Kc2_ BK172.out) (fun hHeld => ?_); refine with_tabW pack_Reader_Vary.tab10 pack_Reader_Vary.bits10 (fun HT_ HW_ => ?_)
      generalize wr.drew = w34 at BK172 BK173 HB hHeld ⊢
      refine Kp_ 0 31 #[true, false, false, false, false, false, false, false] (any_of HT_.out (by kernel_rfl)) ?_
      refine Kp_ 2 33 #[true, false, true, false, false, false, false, false] (any_of HT_.out (by kernel_rfl)) ?_
      refine Kp_ 3 34 #[true, false, true, true, false, false, false, false] (any_of HT_.out (by kernel_rfl)) ?_
      refine Kp_ 5 36 #[true, false, true, true, false, true, false, false] (any_of HT_.out (by kernel_rfl)) ?_
      refine Ko_ 1 32 #[true, true, true, true, false, true, false, false] (take_ofW HT_.out HW_.out (by kernel_rfl)) hHeld ?_
      refine Kp_ 4 35 #[true, true, true, true, true, true, false, false] (any_of HT_.out (by kernel_rfl)) ?_
      refine one_ (i := 6) (N := some 37) #[true, true, true, true, true, true, true, false] rfl rfl (one_of HT_.out (by kernel_rfl)) (by decide) (fun K hK => ?_)
      refine goes_ Try.func60 (by kernel_rfl) rfl #[.int .u64 (Go.bits .or .u64 x4_1 (ji21))] (by rfl) rfl rfl (by (try simp only [List.map_toArray, List.map_cons, List.map_nil]); first | done | (simp only [hji21]; rfl) | rfl | (simp only [List.length_drop, List.length_take]; rfl)) ?_
      with_reducible refine (pack_Vary.calls k1 (Go.bits .or .u64 x4_1 (ji21)) t178 _ A28.out).mono ?_
      rintro e w35 ⟨rfl, hb⟩
      refine ⟨_, rfl, ?_⟩
      replace BK172 := Kb_ BK172 hb
      replace BK173 := Kb_ BK173 hb
      replace HB := Ks_ HB hb
      (try clear hb)
      (try clear hb2)
      (try clear hk)
      (try clear hi)
      refine hK.out _ _ (Kc2_ BK172.out) (fun hHeld => ?_)
      clear hK K
      refine Kn_ 37 ?_
      refine Kp_ 7 38 #[true, true, true, true, true, true, true, true] (any_of HT_.out (by kernel_rfl)) ?_
      refine done_ (done_of HT_.out (by kernel_rfl)) ?_
      try go_wp2
      replace BK172 := Kd_ BK172
      replace BK173 := Kd_ BK173
      replace HB := Aside0.mk (below_drew1 HB.out)
      refine start_ (n := 9) (S := fun w' => w'.cell? ⟨gb172, 0, none⟩ = some (.string a0_0) ∧ w'.cell? ⟨gb172, 1, none⟩ = some (.bool false)) (ds := []) #[false, false, false, false, false, false, false, false, false] (by kernel_rfl) rfl rfl (Kc2_ BK172.out) (fun hHeld => ?_); refine with_tabW pack_Reader_Vary.tab11 pack_Reader_Vary.bits11 (fun HT_ HW_ => ?_)
      generalize w35.drew = w36 at BK172 BK173 HB hHeld ⊢
      refine Kp_ 0 39 #[true, false, false, false, false, false, false, false, false] (any_of HT_.out (by kernel_rfl)) ?_
      refine Kp_ 1 40 #[true, true, false, false, false, false, false, false, false] (any_of HT_.out (by kernel_rfl)) ?_
      refine Kp_ 3 42 #[true, true, false, true, false, false, false, false, false] (any_of HT_.out (by kernel_rfl)) ?_
      refine Kp_ 4 43 #[true, true, false, true, true, false, false, false, false] (any_of HT_.out (by kernel_rfl)) ?_
      refine Kp_ 7 2 #[true, true, false, true, true, false, false, true, false] (any_of HT_.out (by kernel_rfl)) ?_
      refine Ko_ 2 41 #[true, true, true, true, true, false, false, true, false] (take_ofW HT_.out HW_.out (by kernel_rfl)) hHeld ?_
      refine Kp_ 5 44 #[true, true, true, true, true, true, false, true, false] (any_of HT_.out (by kernel_rfl)) ?_
      refine Kp_ 6 45 #[true, true, true, true, true, true, true, true, false] (any_of HT_.out (by kernel_rfl)) ?_
      refine one_ (i := 8) (N := none) #[true, true, true, true, true, true, true, true, true] rfl rfl (one_of HT_.out (by kernel_rfl)) (by decide) (fun K hK => ?_)
      have hs37 : w36.cell? ⟨gb173, 0, none⟩ = some (.string x174000_1) := (blk_cell BK173.out 0).trans rfl
      have hfs37 := blk_frozen BK173.out 0
      have hns37_0 := NB172_173.out
      have hms37_0 := NB173_172.out
      have hs38 : w36.cell? ⟨gb173, 1, none⟩ = some (.bool x174001_1) := (blk_cell BK173.out 1).trans rfl
      have hfs38 := blk_frozen BK173.out 1
      have hns38_0 := NB172_173.out
      have hms38_0 := NB173_172.out
      refine skip_ (w1 := ?_) (by rfl) rfl ?_ ?_
      rotate_left
      · go_simp
        rfl
      refine hK.out _ _ ⟨(Kj_ NB172_173 ((Kj_ NB172_173 (hHeld.1)))), (Kj_ NB172_173 ((Kj_ NB172_173 (hHeld.2))))⟩ (fun hHeld => ?_)
      clear hK K
      refine done_ (done_of HT_.out (by kernel_rfl)) ?_
      try go_wp2
      refine bodyPost_ret (results_tc rfl _ _ gb173 134 #[.string (a0_0.extract ((ji25) : Int).toNat a0_0.size), .bool false] (0, 0) _ rfl (by refine Kv_ ?_; refine blk_put (cs := #[.string (a0_0.extract ((ji25) : Int).toNat a0_0.size), .bool x174001_1]) ?_ 1 _ rfl; refine Kv_ ?_; refine blk_put (cs := #[.string x174000_1, .bool x174001_1]) ?_ 0 _ rfl; exact Kq_ BK173) Try.underlying134 rfl (by kernel_rfl)) rfl ?_
      exact ⟨by first | rfl | (simp [errW_none, errW_some] <;> rfl) | (simp only [← hji10, ← hji19, ← hji21, ← hji25]; first | rfl | (simp [errW_none, errW_some] <;> rfl)) | (simp [*, errW_none, errW_some] <;> rfl), K2a_ HB GE172 GE173⟩
/-! ### pack_Reader_Text: function 77 -/
def pack_Reader_Text.f (k : Nat) (a0_0 : ByteArray) (a0_1 : Bool) (a1 : Int) : Option (ByteArray × ByteArray × Bool) := (pack_Reader_Vary.f k a0_0 a0_1).bind fun bt183 => (if bt183.2.2 = true then ((pack_bad.f).bind fun bt186 => (some ((⟨#[]⟩ : ByteArray), bt186.1, bt186.2))) else (if a1 < 0 then ((pack_bad.f).bind fun bt188 => (some ((⟨#[]⟩ : ByteArray), bt188.1, bt188.2))) else (if bt183.1 > (IntKind.u64.wrap (mn a1 (bt183.2.1.size : Int))) then ((pack_bad.f).bind fun bt190 => (some ((⟨#[]⟩ : ByteArray), bt190.1, bt190.2))) else (if 0 ≤ bt183.1 then (if bt183.1 ≤ (bt183.2.1.size : Int) then (some (bt183.2.1.extract 0 (bt183.1 : Int).toNat, bt183.2.1.extract (bt183.1 : Int).toNat bt183.2.1.size, false)) else (none)) else (none)))))
theorem pack_Reader_Text.mono : ∀ a0 a1 a2 k, LeO (pack_Reader_Text.f k a0 a1 a2) (pack_Reader_Text.f (k + 1) a0 a1 a2) := by
  intro a0 a1 a2 k
  unfold pack_Reader_Text.f
  repeat' first
      | (with_reducible exact pack_Reader_Vary.mono _ _ _)
      | (with_reducible exact LeO.refl _)
      | (with_reducible exact LeO.none _)
      | (with_reducible refine LeO.ite ?_ ?_)
      | (with_reducible refine LeO.bind ?_ (fun _ => ?_))
      | exact pack_Reader_Vary.mono _ _ _
      | exact LeO.none _
      | refine LeO.ite ?_ ?_
      | refine LeO.bind ?_ (fun _ => ?_)
def pack_Reader_Text.T4 : Bool × List (List Nat × List Nat) := (true, [([], []), ([0], [0]), ([], []), ([1, 2], [1, 2]), ([], []), ([4], [4]), ([], []), ([5, 6], [5, 6]), ([7], [7]), ([3, 0, 1, 2, 3], [3]), ([8, 9, 0, 1, 2, 3, 4, 5, 6, 7, 8, 9], [8])])
def pack_Reader_Text.B4 : List Nat := [0, 1, 0, 7, 0, 16, 0, 112, 240, 15, 1023]
theorem pack_Reader_Text.tab4 : rtab .any (opsOf Try.f77 4) = pack_Reader_Text.T4 := by kernel_rfl
theorem pack_Reader_Text.bits4 : waitsOk pack_Reader_Text.T4.2 pack_Reader_Text.B4 = true := by kernel_rfl
set_option maxHeartbeats 8000000 in
set_option maxRecDepth 100000 in
theorem pack_Reader_Text.calls (k : Nat) (a0_0 : ByteArray) (a0_1 : Bool) (a1 : Int) (r1 : ByteArray) (r2 : ByteArray) (r3 : Bool) (w : World) (h : pack_Reader_Text.f k a0_0 a0_1 a1 = some (r1, r2, r3)) :
    Calls Try.prog 77 #[.agg #[.string a0_0, .bool a0_1], .int .i64 a1] w fun e w' => e = .returned (.tuple #[.string r1, .agg #[.string r2, .bool r3]]) ∧ Below w.heap.size w w' := by
  have hu134 := Try.underlying134
  have HB := Aside0.mk (Below.refl w.heap.size w)
  have H : ((pack_Reader_Vary.f k a0_0 a0_1).bind fun bt183 => (if bt183.2.2 = true then ((pack_bad.f).bind fun bt186 => (some ((⟨#[]⟩ : ByteArray), bt186.1, bt186.2))) else (if a1 < 0 then ((pack_bad.f).bind fun bt188 => (some ((⟨#[]⟩ : ByteArray), bt188.1, bt188.2))) else (if bt183.1 > (IntKind.u64.wrap (mn a1 (bt183.2.1.size : Int))) then ((pack_bad.f).bind fun bt190 => (some ((⟨#[]⟩ : ByteArray), bt190.1, bt190.2))) else (if 0 ≤ bt183.1 then (if bt183.1 ≤ (bt183.2.1.size : Int) then (some (bt183.2.1.extract 0 (bt183.1 : Int).toNat, bt183.2.1.extract (bt183.1 : Int).toNat bt183.2.1.size, false)) else (none)) else (none)))))) = some (r1, r2, r3) := h
  clear h
  replace H := Option.bind_eq_some_iff.mp H
  obtain ⟨⟨t183, t184, t185⟩, A30, H⟩ := H
  replace H : (if t185 = true then ((pack_bad.f).bind fun bt186 => (some ((⟨#[]⟩ : ByteArray), bt186.1, bt186.2))) else (if a1 < 0 then ((pack_bad.f).bind fun bt188 => (some ((⟨#[]⟩ : ByteArray), bt188.1, bt188.2))) else (if t183 > (IntKind.u64.wrap (mn a1 (t184.size : Int))) then ((pack_bad.f).bind fun bt190 => (some ((⟨#[]⟩ : ByteArray), bt190.1, bt190.2))) else (if 0 ≤ t183 then (if t183 ≤ (t184.size : Int) then (some (t184.extract 0 (t183 : Int).toNat, t184.extract (t183 : Int).toNat t184.size, false)) else (none)) else (none))))) = some (r1, r2, r3) := H
  have A3 := Aside0.mk A30
  clear A30
  by_cases c4 : t185 = true
  · subst c4
    have H1 : ((pack_bad.f).bind fun bt186 => (some ((⟨#[]⟩ : ByteArray), bt186.1, bt186.2))) = some (r1, r2, r3) := by rw [if_pos rfl] at H; exact H
    clear H
    have H := H1
    clear H1
    replace H := Option.bind_eq_some_iff.mp H
    obtain ⟨⟨t186, t187⟩, A50, H⟩ := H
    replace H : (some ((⟨#[]⟩ : ByteArray), t186, t187)) = some (r1, r2, r3) := H
    have A5 := Aside0.mk A50
    clear A50
    simp only [Option.some.injEq, Prod.mk.injEq] at H
    obtain ⟨rfl, rfl, rfl⟩ := H
    go_enter Try.func77, Try.ntmps77
    go_wp2_with (first | ((with_reducible refine gate_dst (N := 2) rfl ?_); refine Ka_ 2 #[.string a0_0, .bool a0_1] 134 ?_; intro gb181 hg w6 hbox hb; have BK181 := Aside0.mk (hbox); have GW181 := Kw_ HB hg; have GE181 := GW181; replace HB := Ks_ HB hb; clear hb hbox hg) | ((with_reducible refine gate_dst (N := 5) rfl ?_); refine Ka_ 5 #[.string (⟨#[]⟩ : ByteArray), .bool false] 134 ?_; intro gb182 hg w7 hbox hb; have BK182 := Aside0.mk (hbox); have GW182 := Kw_ HB hg; have GE182 := GW182; have NB181_182 := Kl_ BK181 hg; have NB182_181 := Kr_ BK181 hg; replace BK181 := Kb_ BK181 hb; replace HB := Ks_ HB hb; clear hb hbox hg; have hnb8 := NB181_182.out; have hnc8 := NB182_181.out; obtain ⟨hcz9_0, hcz9_1, hfz9_0, hfz9_1⟩ := Ke2_ BK181.out) | ((with_reducible refine gate_callee (f := 76) rfl ?_); refine Kg_ (some 9) rfl rfl Try.func76 (by kernel_rfl) rfl #[.agg #[.string a0_0, .bool a0_1]] rfl ?_; (with_reducible refine (pack_Reader_Vary.calls k a0_0 a0_1 t183 t184 true _ A3.out).mono ?_); rintro e w10 ⟨rfl, hb⟩; refine ⟨_, rfl, ?_⟩; replace BK181 := Kb_ BK181 hb; replace BK182 := Kb_ BK182 hb; replace HB := Ks_ HB hb; (try clear hb); (try clear hb2); (try clear hk); (try clear hi); obtain ⟨hcz11_0, hcz11_1, hfz11_0, hfz11_1⟩ := Ke2_ BK181.out) | ((with_reducible refine gate_callee (f := 98) rfl ?_); refine Kg_ (some 28) rfl rfl Try.func98 (by kernel_rfl) rfl #[] rfl ?_; (with_reducible refine (pack_bad.calls  t186 t187 _ A5.out).mono ?_); rintro e w12 ⟨rfl, hb⟩; refine ⟨_, rfl, ?_⟩; replace BK181 := Aside0.mk (blk_below (g := gb181) (o := .cells #[.string t184, .bool true] 134 (0, 0)) (by refine Kv_ ?_; refine blk_put (cs := #[.string t184, .bool a0_1]) ?_ 1 _ rfl; refine Kv_ ?_; refine blk_put (cs := #[.string a0_0, .bool a0_1]) ?_ 0 _ rfl; exact Kq_ BK181) hb); replace BK182 := Kf_ BK182 NB182_181 hb; replace HB := Kt_ HB GE181 hb; (try clear hb); (try clear hb2); (try clear hk); (try clear hi); obtain ⟨hcz13_0, hcz13_1, hfz13_0, hfz13_1⟩ := Ke2_ BK182.out))
    refine bodyPost_ret (results_tc rfl _ _ gb182 134 #[.string t186, .bool t187] (0, 0) _ rfl (by refine Kv_ ?_; refine blk_put (cs := #[.string t186, .bool false]) ?_ 1 _ rfl; refine Kv_ ?_; refine blk_put (cs := #[.string (⟨#[]⟩ : ByteArray), .bool false]) ?_ 0 _ rfl; exact Kq_ BK182) Try.underlying134 rfl (by kernel_rfl)) rfl ?_
    exact ⟨Kh_, K2a_ HB GE181 GE182⟩
  replace c4 := Bool.eq_false_iff.mpr c4
  subst c4
  have H1 : (if a1 < 0 then ((pack_bad.f).bind fun bt188 => (some ((⟨#[]⟩ : ByteArray), bt188.1, bt188.2))) else (if t183 > (IntKind.u64.wrap (mn a1 (t184.size : Int))) then ((pack_bad.f).bind fun bt190 => (some ((⟨#[]⟩ : ByteArray), bt190.1, bt190.2))) else (if 0 ≤ t183 then (if t183 ≤ (t184.size : Int) then (some (t184.extract 0 (t183 : Int).toNat, t184.extract (t183 : Int).toNat t184.size, false)) else (none)) else (none)))) = some (r1, r2, r3) := by rw [if_neg (show ¬ (false = true) by decide)] at H; exact H
  clear H
  have H := H1
  clear H1
  by_cases c14 : a1 < 0
  · rw [if_pos c14] at H
    have c14b0 : decide (a1 < 0) = true := decide_eq_true c14
    clear c14
    replace H := Option.bind_eq_some_iff.mp H
    obtain ⟨⟨t188, t189⟩, A150, H⟩ := H
    replace H : (some ((⟨#[]⟩ : ByteArray), t188, t189)) = some (r1, r2, r3) := H
    have A15 := Aside0.mk A150
    clear A150
    simp only [Option.some.injEq, Prod.mk.injEq] at H
    obtain ⟨rfl, rfl, rfl⟩ := H
    go_enter Try.func77, Try.ntmps77
    go_wp2_with (first | ((with_reducible refine gate_dst (N := 2) rfl ?_); refine Ka_ 2 #[.string a0_0, .bool a0_1] 134 ?_; intro gb181 hg w16 hbox hb; have BK181 := Aside0.mk (hbox); have GW181 := Kw_ HB hg; have GE181 := GW181; replace HB := Ks_ HB hb; clear hb hbox hg) | ((with_reducible refine gate_dst (N := 5) rfl ?_); refine Ka_ 5 #[.string (⟨#[]⟩ : ByteArray), .bool false] 134 ?_; intro gb182 hg w17 hbox hb; have BK182 := Aside0.mk (hbox); have GW182 := Kw_ HB hg; have GE182 := GW182; have NB181_182 := Kl_ BK181 hg; have NB182_181 := Kr_ BK181 hg; replace BK181 := Kb_ BK181 hb; replace HB := Ks_ HB hb; clear hb hbox hg; have hnb18 := NB181_182.out; have hnc18 := NB182_181.out; obtain ⟨hcz19_0, hcz19_1, hfz19_0, hfz19_1⟩ := Ke2_ BK181.out) | ((with_reducible refine gate_callee (f := 76) rfl ?_); refine Kg_ (some 9) rfl rfl Try.func76 (by kernel_rfl) rfl #[.agg #[.string a0_0, .bool a0_1]] rfl ?_; (with_reducible refine (pack_Reader_Vary.calls k a0_0 a0_1 t183 t184 false _ A3.out).mono ?_); rintro e w20 ⟨rfl, hb⟩; refine ⟨_, rfl, ?_⟩; replace BK181 := Kb_ BK181 hb; replace BK182 := Kb_ BK182 hb; replace HB := Ks_ HB hb; (try clear hb); (try clear hb2); (try clear hk); (try clear hi); obtain ⟨hcz21_0, hcz21_1, hfz21_0, hfz21_1⟩ := Ke2_ BK181.out) | ((with_reducible refine gate_callee (f := 98) rfl ?_); refine Kg_ (some 28) rfl rfl Try.func98 (by kernel_rfl) rfl #[] rfl ?_; (with_reducible refine (pack_bad.calls  t188 t189 _ A15.out).mono ?_); rintro e w22 ⟨rfl, hb⟩; refine ⟨_, rfl, ?_⟩; replace BK181 := Aside0.mk (blk_below (g := gb181) (o := .cells #[.string t184, .bool false] 134 (0, 0)) (by refine Kv_ ?_; refine blk_put (cs := #[.string t184, .bool a0_1]) ?_ 1 _ rfl; refine Kv_ ?_; refine blk_put (cs := #[.string a0_0, .bool a0_1]) ?_ 0 _ rfl; exact Kq_ BK181) hb); replace BK182 := Kf_ BK182 NB182_181 hb; replace HB := Kt_ HB GE181 hb; (try clear hb); (try clear hb2); (try clear hk); (try clear hi); obtain ⟨hcz23_0, hcz23_1, hfz23_0, hfz23_1⟩ := Ke2_ BK182.out))
    refine bodyPost_ret (results_tc rfl _ _ gb182 134 #[.string t188, .bool t189] (0, 0) _ rfl (by refine Kv_ ?_; refine blk_put (cs := #[.string t188, .bool false]) ?_ 1 _ rfl; refine Kv_ ?_; refine blk_put (cs := #[.string (⟨#[]⟩ : ByteArray), .bool false]) ?_ 0 _ rfl; exact Kq_ BK182) Try.underlying134 rfl (by kernel_rfl)) rfl ?_
    exact ⟨Kh_, K2a_ HB GE181 GE182⟩
  rw [if_neg c14] at H
  have c14b0 : decide (a1 < 0) = false := decide_eq_false c14
  clear c14
  obtain ⟨ji24, hji24⟩ : ∃ j_ : Int, (mn a1 (t184.size : Int)) = j_ := ⟨_, rfl⟩
  replace H : (if t183 > (IntKind.u64.wrap (ji24)) then ((pack_bad.f).bind fun bt190 => (some ((⟨#[]⟩ : ByteArray), bt190.1, bt190.2))) else (if 0 ≤ t183 then (if t183 ≤ (t184.size : Int) then (some (t184.extract 0 (t183 : Int).toNat, t184.extract (t183 : Int).toNat t184.size, false)) else (none)) else (none))) = some (r1, r2, r3) := by first | (rw [hji24] at H; exact H) | (simp only [hji24] at H ⊢; exact H)
  (try rw [hji24] at A3)
  have hji24_ : (if (t184.size : Int) < a1 then (t184.size : Int) else a1) = ji24 := hji24
  by_cases c25 : t183 > (IntKind.u64.wrap (ji24))
  · rw [if_pos c25] at H
    have c25b0 : decide ((IntKind.u64.wrap (ji24)) < t183) = true := decide_eq_true c25
    clear c25
    replace H := Option.bind_eq_some_iff.mp H
    obtain ⟨⟨t190, t191⟩, A260, H⟩ := H
    replace H : (some ((⟨#[]⟩ : ByteArray), t190, t191)) = some (r1, r2, r3) := H
    have A26 := Aside0.mk A260
    clear A260
    simp only [Option.some.injEq, Prod.mk.injEq] at H
    obtain ⟨rfl, rfl, rfl⟩ := H
    go_enter Try.func77, Try.ntmps77
    go_wp2_with (first | ((with_reducible refine gate_dst (N := 2) rfl ?_); refine Ka_ 2 #[.string a0_0, .bool a0_1] 134 ?_; intro gb181 hg w27 hbox hb; have BK181 := Aside0.mk (hbox); have GW181 := Kw_ HB hg; have GE181 := GW181; replace HB := Ks_ HB hb; clear hb hbox hg) | ((with_reducible refine gate_dst (N := 5) rfl ?_); refine Ka_ 5 #[.string (⟨#[]⟩ : ByteArray), .bool false] 134 ?_; intro gb182 hg w28 hbox hb; have BK182 := Aside0.mk (hbox); have GW182 := Kw_ HB hg; have GE182 := GW182; have NB181_182 := Kl_ BK181 hg; have NB182_181 := Kr_ BK181 hg; replace BK181 := Kb_ BK181 hb; replace HB := Ks_ HB hb; clear hb hbox hg; have hnb29 := NB181_182.out; have hnc29 := NB182_181.out; obtain ⟨hcz30_0, hcz30_1, hfz30_0, hfz30_1⟩ := Ke2_ BK181.out) | ((with_reducible refine gate_callee (f := 76) rfl ?_); refine Kg_ (some 9) rfl rfl Try.func76 (by kernel_rfl) rfl #[.agg #[.string a0_0, .bool a0_1]] rfl ?_; (with_reducible refine (pack_Reader_Vary.calls k a0_0 a0_1 t183 t184 false _ A3.out).mono ?_); rintro e w31 ⟨rfl, hb⟩; refine ⟨_, rfl, ?_⟩; replace BK181 := Kb_ BK181 hb; replace BK182 := Kb_ BK182 hb; replace HB := Ks_ HB hb; (try clear hb); (try clear hb2); (try clear hk); (try clear hi); obtain ⟨hcz32_0, hcz32_1, hfz32_0, hfz32_1⟩ := Ke2_ BK181.out) | ((with_reducible refine gate_callee (f := 98) rfl ?_); refine Kg_ (some 28) rfl rfl Try.func98 (by kernel_rfl) rfl #[] rfl ?_; (with_reducible refine (pack_bad.calls  t190 t191 _ A26.out).mono ?_); rintro e w33 ⟨rfl, hb⟩; refine ⟨_, rfl, ?_⟩; replace BK181 := Aside0.mk (blk_below (g := gb181) (o := .cells #[.string t184, .bool false] 134 (0, 0)) (by refine Kv_ ?_; refine blk_put (cs := #[.string t184, .bool a0_1]) ?_ 1 _ rfl; refine Kv_ ?_; refine blk_put (cs := #[.string a0_0, .bool a0_1]) ?_ 0 _ rfl; exact Kq_ BK181) hb); replace BK182 := Kf_ BK182 NB182_181 hb; replace HB := Kt_ HB GE181 hb; (try clear hb); (try clear hb2); (try clear hk); (try clear hi); obtain ⟨hcz34_0, hcz34_1, hfz34_0, hfz34_1⟩ := Ke2_ BK182.out))
    refine bodyPost_ret (results_tc rfl _ _ gb182 134 #[.string t190, .bool t191] (0, 0) _ rfl (by refine Kv_ ?_; refine blk_put (cs := #[.string t190, .bool false]) ?_ 1 _ rfl; refine Kv_ ?_; refine blk_put (cs := #[.string (⟨#[]⟩ : ByteArray), .bool false]) ?_ 0 _ rfl; exact Kq_ BK182) Try.underlying134 rfl (by kernel_rfl)) rfl ?_
    exact ⟨by first | rfl | (simp [errW_none, errW_some] <;> rfl) | (simp only [← hji24]; first | rfl | (simp [errW_none, errW_some] <;> rfl)) | (simp [*, errW_none, errW_some] <;> rfl), K2a_ HB GE181 GE182⟩
  rw [if_neg c25] at H
  have c25b0 : decide ((IntKind.u64.wrap (ji24)) < t183) = false := decide_eq_false c25
  clear c25
  by_cases c35 : 0 ≤ t183
  rotate_left
  · rw [if_neg c35] at H
    exact absurd H (by simp)
  rw [if_pos c35] at H
  have c35b0 := eq_true c35
  have c35b1 : decide (0 ≤ t183) = true := decide_eq_true c35
  clear c35
  by_cases c36 : t183 ≤ (t184.size : Int)
  rotate_left
  · rw [if_neg c36] at H
    exact absurd H (by simp)
  rw [if_pos c36] at H
  have c36b0 := eq_true c36
  have c36b1 : decide (t183 ≤ (t184.size : Int)) = true := decide_eq_true c36
  clear c36
  have c37b0 := eq_true (of_decide_eq_true (by first | (with_reducible assumption) | assumption) : 0 ≤ t183)
  have c38b0 := eq_true (of_decide_eq_true (by first | (with_reducible assumption) | assumption) : t183 ≤ (t184.size : Int))
  simp only [Option.some.injEq, Prod.mk.injEq] at H
  obtain ⟨rfl, rfl, rfl⟩ := H
  go_enter Try.func77, Try.ntmps77
  try go_wp2_with (first | ((with_reducible refine gate_dst (N := 2) rfl ?_); refine Ka_ 2 #[.string a0_0, .bool a0_1] 134 ?_; intro gb181 hg w39 hbox hb; have BK181 := Aside0.mk (hbox); have GW181 := Kw_ HB hg; have GE181 := GW181; replace HB := Ks_ HB hb; clear hb hbox hg) | ((with_reducible refine gate_dst (N := 5) rfl ?_); refine Ka_ 5 #[.string (⟨#[]⟩ : ByteArray), .bool false] 134 ?_; intro gb182 hg w40 hbox hb; have BK182 := Aside0.mk (hbox); have GW182 := Kw_ HB hg; have GE182 := GW182; have NB181_182 := Kl_ BK181 hg; have NB182_181 := Kr_ BK181 hg; replace BK181 := Kb_ BK181 hb; replace HB := Ks_ HB hb; clear hb hbox hg; have hnb41 := NB181_182.out; have hnc41 := NB182_181.out; obtain ⟨hcz42_0, hcz42_1, hfz42_0, hfz42_1⟩ := Ke2_ BK181.out) | ((with_reducible refine gate_callee (f := 76) rfl ?_); refine Kg_ (some 9) rfl rfl Try.func76 (by kernel_rfl) rfl #[.agg #[.string a0_0, .bool a0_1]] rfl ?_; (with_reducible refine (pack_Reader_Vary.calls k a0_0 a0_1 t183 t184 false _ A3.out).mono ?_); rintro e w43 ⟨rfl, hb⟩; refine ⟨_, rfl, ?_⟩; replace BK181 := Kb_ BK181 hb; replace BK182 := Kb_ BK182 hb; replace HB := Ks_ HB hb; (try clear hb); (try clear hb2); (try clear hk); (try clear hi); obtain ⟨hcz44_0, hcz44_1, hfz44_0, hfz44_1⟩ := Ke2_ BK181.out))
  have n0_ : Aside0 (((w43.setCell ⟨gb181, 0, none⟩ (.string t184)).setCell ⟨gb181, 1, none⟩ (.bool false)).heap[gb181]? = some (.cells #[.string t184, .bool false] 134 (0, 0))) := ⟨by refine Kv_ ?_; refine blk_put (cs := #[.string t184, .bool a0_1]) ?_ 1 _ rfl; refine Kv_ ?_; refine blk_put (cs := #[.string a0_0, .bool a0_1]) ?_ 0 _ rfl; exact Kq_ BK181⟩
  have n1_ : Aside0 (((w43.setCell ⟨gb181, 0, none⟩ (.string t184)).setCell ⟨gb181, 1, none⟩ (.bool false)).heap[gb182]? = some (.cells #[.string (⟨#[]⟩ : ByteArray), .bool false] 134 (0, 0))) := ⟨by exact K1b_ BK182 NB182_181⟩
  have n2_ : Aside0 (Below w.heap.size w ((w43.setCell ⟨gb181, 0, none⟩ (.string t184)).setCell ⟨gb181, 1, none⟩ (.bool false))) := ⟨K2a_ HB GE181 GE182⟩
  (try clear BK181)
  (try clear BK182)
  (try clear HB)
  generalize ((w43.setCell ⟨gb181, 0, none⟩ (.string t184)).setCell ⟨gb181, 1, none⟩ (.bool false)) = w45 at n0_ n1_ n2_ ⊢
  have BK181 := n0_
  have BK182 := n1_
  have HB := n2_
  clear n0_ n1_ n2_
  replace BK181 := Kd_ BK181
  replace BK182 := Kd_ BK182
  replace HB := Aside0.mk (below_drew1 HB.out)
  refine start_ (n := 11) (S := fun w' => w'.cell? ⟨gb181, 0, none⟩ = some (.string t184) ∧ w'.cell? ⟨gb181, 1, none⟩ = some (.bool false)) (ds := []) #[false, false, false, false, false, false, false, false, false, false, false] (by kernel_rfl) rfl rfl (Kc2_ BK181.out) (fun hHeld => ?_); refine with_tabW pack_Reader_Text.tab4 pack_Reader_Text.bits4 (fun HT_ HW_ => ?_)
  generalize w45.drew = w46 at BK181 BK182 HB hHeld ⊢
  refine Kp_ 0 29 #[true, false, false, false, false, false, false, false, false, false, false] (any_of HT_.out (by kernel_rfl)) ?_
  refine Kp_ 2 31 #[true, false, true, false, false, false, false, false, false, false, false] (any_of HT_.out (by kernel_rfl)) ?_
  refine Kp_ 4 33 #[true, false, true, false, true, false, false, false, false, false, false] (any_of HT_.out (by kernel_rfl)) ?_
  refine Kp_ 6 35 #[true, false, true, false, true, false, true, false, false, false, false] (any_of HT_.out (by kernel_rfl)) ?_
  refine Ko_ 1 30 #[true, true, true, false, true, false, true, false, false, false, false] (take_ofW HT_.out HW_.out (by kernel_rfl)) hHeld ?_
  refine Kp_ 3 32 #[true, true, true, true, true, false, true, false, false, false, false] (any_of HT_.out (by kernel_rfl)) ?_
  refine Kp_ 9 4 #[true, true, true, true, true, false, true, false, false, true, false] (any_of HT_.out (by kernel_rfl)) ?_
  refine Ko_ 5 34 #[true, true, true, true, true, true, true, false, false, true, false] (take_ofW HT_.out HW_.out (by kernel_rfl)) hHeld ?_
  refine Kp_ 7 36 #[true, true, true, true, true, true, true, true, false, true, false] (any_of HT_.out (by kernel_rfl)) ?_
  refine Kp_ 8 37 #[true, true, true, true, true, true, true, true, true, true, false] (any_of HT_.out (by kernel_rfl)) ?_
  refine one_ (i := 10) (N := none) #[true, true, true, true, true, true, true, true, true, true, true] rfl rfl (one_of HT_.out (by kernel_rfl)) (by decide) (fun K hK => ?_)
  have hs47 : w46.cell? ⟨gb182, 0, none⟩ = some (.string (⟨#[]⟩ : ByteArray)) := (blk_cell BK182.out 0).trans rfl
  have hfs47 := blk_frozen BK182.out 0
  have hns47_0 := NB181_182.out
  have hms47_0 := NB182_181.out
  have hs48 : w46.cell? ⟨gb182, 1, none⟩ = some (.bool false) := (blk_cell BK182.out 1).trans rfl
  have hfs48 := blk_frozen BK182.out 1
  have hns48_0 := NB181_182.out
  have hms48_0 := NB182_181.out
  refine skip_ (w1 := ?_) (by rfl) rfl ?_ ?_
  rotate_left
  · go_simp
    rfl
  refine hK.out _ _ ⟨(Kj_ NB181_182 ((Kj_ NB181_182 (hHeld.1)))), (Kj_ NB181_182 ((Kj_ NB181_182 (hHeld.2))))⟩ (fun hHeld => ?_)
  clear hK K
  refine done_ (done_of HT_.out (by kernel_rfl)) ?_
  try go_wp2
  refine bodyPost_ret (results_tc rfl _ _ gb182 134 #[.string (t184.extract (t183 : Int).toNat t184.size), .bool false] (0, 0) _ rfl (by refine Kv_ ?_; refine blk_put (cs := #[.string (t184.extract (t183 : Int).toNat t184.size), .bool false]) ?_ 1 _ rfl; refine Kv_ ?_; refine blk_put (cs := #[.string (⟨#[]⟩ : ByteArray), .bool false]) ?_ 0 _ rfl; exact Kq_ BK182) Try.underlying134 rfl (by kernel_rfl)) rfl ?_
  exact ⟨by first | rfl | (simp [errW_none, errW_some] <;> rfl) | (simp only [← hji24]; first | rfl | (simp [errW_none, errW_some] <;> rfl)) | (simp [*, errW_none, errW_some] <;> rfl), K2a_ HB GE181 GE182⟩
/-! ### vec_Get: function 106 -/
-- FOREIGN: an array filled place by place by a reader that is turned
def vec_Get.f (k : Nat) (a0_0 : ByteArray) (a0_1 : Bool) : Option (Int × Int × Int × Int × ByteArray × Bool) :=
  (pack_Reader_Vary.f k a0_0 a0_1).bind fun r0 => (pack_Reader_Vary.f k r0.2.1 r0.2.2).bind fun r1 => (pack_Reader_Vary.f k r1.2.1 r1.2.2).bind fun r2 => (pack_Reader_Vary.f k r2.2.1 r2.2.2).bind fun r3 =>
    if r3.2.2 = true then some (0, 0, 0, 0, (⟨#[]⟩ : ByteArray), true) else (vec_Right.f r0.1 r1.1 r2.1 r3.1).bind fun t => if t = true then some (r0.1, r1.1, r2.1, r3.1, r3.2.1, false) else some (0, 0, 0, 0, (⟨#[]⟩ : ByteArray), true)
theorem vec_Get.mono : ∀ a0 a1 k, LeO (vec_Get.f k a0 a1) (vec_Get.f (k + 1) a0 a1) := by
  intro a0 a1 k
  unfold vec_Get.f
  repeat' first
      | exact pack_Reader_Vary.mono _ _ _
      | exact LeO.refl _
      | exact LeO.none _
      | refine LeO.ite ?_ ?_
      | refine LeO.bind ?_ (fun _ => ?_)
theorem vec_Get.boxes3 (w : World) (xs ys zs : Array Value) (t1 t2 t3 : TypeId) (W : World) (h : ((w.alloc (.cells xs t1)).alloc (.cells ys t2)).alloc (.cells zs t3) = W) :
    W.heap[w.heap.size]? = some (.cells xs t1 (0,0)) ∧ W.heap[w.heap.size+1]? = some (.cells ys t2 (0,0)) ∧ W.heap[w.heap.size+1+1]? = some (.cells zs t3 (0,0)) ∧ Below w.heap.size w W := by
  subst h
  have s1 : (w.alloc (.cells xs t1)).heap.size = w.heap.size + 1 := by simp [World.alloc, -World.alloc_eq]
  have s2 : ((w.alloc (.cells xs t1)).alloc (.cells ys t2)).heap.size = w.heap.size + 1 + 1 := by simp [World.alloc, -World.alloc_eq]
  refine ⟨blk_alloc (blk_alloc (blk_new _ _) _) _, ?_, ?_, below_alloc (below_alloc (below_alloc (Below.refl _ _) _) _) _⟩
  · rw [← s1]; exact blk_alloc (blk_new _ _) _
  · rw [← s2]; exact blk_new _ _
set_option maxHeartbeats 8000000 in
set_option maxRecDepth 100000 in
theorem vec_Get.calls (k : Nat) (a0_0 : ByteArray) (a0_1 : Bool) (r1 r2 r3 r4 : Int) (r5 : ByteArray) (r6 : Bool) (w : World) (h : vec_Get.f k a0_0 a0_1 = some (r1, r2, r3, r4, r5, r6)) :
    Calls Try.prog 106 #[.agg #[.string a0_0, .bool a0_1]] w fun e w' => e = .returned (.tuple #[.agg #[.int .u64 r1, .int .u64 r2, .int .u64 r3, .int .u64 r4], .agg #[.string r5, .bool r6]]) ∧ Below w.heap.size w w' := by
  unfold vec_Get.f at h
  obtain ⟨⟨n0, s1, b1⟩, A0, h⟩ := Option.bind_eq_some_iff.1 h
  obtain ⟨⟨n1, s2, b2⟩, A1, h⟩ := Option.bind_eq_some_iff.1 h
  obtain ⟨⟨n2, s3, b3⟩, A2, h⟩ := Option.bind_eq_some_iff.1 h
  obtain ⟨⟨n3, s4, b4⟩, A3, h⟩ := Option.bind_eq_some_iff.1 h
  replace A0 := Aside0.mk A0
  replace A1 := Aside0.mk A1
  replace A2 := Aside0.mk A2
  replace A3 := Aside0.mk A3
  simp only at h
  have HH := Aside0.mk h
  clear h
  have hu := Try.underlying28
  have hu2 := Try.underlying26
  have hu3 := Try.underlying134
  go_enter Try.func106, Try.ntmps106
  go_wp2
  generalize hW : (((w.alloc (Obj.cells #[.string a0_0, .bool a0_1] 134)).alloc (Obj.cells _ 28)).alloc (Obj.cells _ 134)) = W0
  obtain ⟨hA, hB, hC, HB⟩ := vec_Get.boxes3 _ _ _ _ _ _ _ _ hW
  replace HB := Aside0.mk HB
  clear hW
  obtain ⟨B0, hB0⟩ : ∃ B0, B0 = w.heap.size := ⟨_, rfl⟩
  obtain ⟨B1, hB1⟩ : ∃ B1, B1 = w.heap.size + 1 := ⟨_, rfl⟩
  obtain ⟨B2, hB2⟩ : ∃ B2, B2 = w.heap.size + 1 + 1 := ⟨_, rfl⟩
  rw [← hB2, ← hB1, ← hB0]
  rw [← hB0] at hA
  rw [← hB1] at hB
  rw [← hB2] at hC
  have g01 : B0 ≠ B1 := by omega
  have g02 : B0 ≠ B2 := by omega
  have g12 : B1 ≠ B2 := by omega
  have GA := Aside0.mk (show w.heap.size ≤ B0 by omega)
  have GB := Aside0.mk (show w.heap.size ≤ B1 by omega)
  have GC := Aside0.mk (show w.heap.size ≤ B2 by omega)
  clear hB0 hB1 hB2
  replace hA := Aside0.mk hA
  replace hB := Aside0.mk hB
  replace hC := Aside0.mk hC
  refine wp_loop_rounds 5 ?_
  rw [rounds_succ]
  have ca0 := (blk_cell hA.out 0).trans rfl
  have ca1 := (blk_cell hA.out 1).trans rfl
  go_wp2_with (go_at_call 76; refine (pack_Reader_Vary.calls k a0_0 a0_1 n0 s1 b1 _ A0.out).mono ?_; rintro e w1 ⟨rfl, hb⟩; clear ca0 ca1; have hA1 := Aside0.mk (blk_below hA.out hb); have hB1 := Aside0.mk (blk_below hB.out hb); have hC1 := Aside0.mk (blk_below hC.out hb); have HB1 := Aside0.mk (below_step HB.out hb); clear hA hB hC HB; clear hb; have fa0 := blk_frozen hA1.out 0; have fa1 := blk_frozen hA1.out 1; have ca0 := (blk_cell hA1.out 0).trans rfl; have ca1 := (blk_cell hA1.out 1).trans rfl; have fb := blk_frozen hB1.out 0; have cb := (blk_cell hB1.out 0).trans rfl)
  clear ca0 ca1 cb fa0 fa1 fb
  have hA := Aside0.mk (blk_put (blk_put (blk_far hA1.out (p := ⟨B1, 0, none⟩) g01 (.int .u64 n0)) 0 (.string s1) rfl) 1 (.bool b1) (cs' := #[.string s1, .bool b1]) rfl)
  have hB := Aside0.mk (blk_far (blk_far (blk_put hB1.out 0 (.int .u64 n0) (cs' := #[.int .u64 n0, .int .u64 0, .int .u64 0, .int .u64 0]) rfl) (p := ⟨B0, 0, none⟩) (Ne.symm g01) (.string s1)) (p := ⟨B0, 1, none⟩) (Ne.symm g01) (.bool b1))
  have hC := Aside0.mk (blk_far (blk_far (blk_far hC1.out (p := ⟨B1, 0, none⟩) (Ne.symm g12) (.int .u64 n0)) (p := ⟨B0, 0, none⟩) (Ne.symm g02) (.string s1)) (p := ⟨B0, 1, none⟩) (Ne.symm g02) (.bool b1))
  have HB := Aside0.mk (below_set (j := 1) (v := .bool b1) (below_set (j := 0) (v := .string s1) (below_set (j := 0) (v := .int .u64 n0) HB1.out GB.out) GA.out) GA.out)
  clear hA1 hB1 hC1 HB1
  generalize ((w1.setCell ⟨B1, 0, none⟩ (.int .u64 n0)).setCell ⟨B0, 0, none⟩ (.string s1)).setCell ⟨B0, 1, none⟩ (.bool b1) = W1 at *
  clear w1 W0
  rw [rounds_succ]
  have ca0 := (blk_cell hA.out 0).trans rfl
  have ca1 := (blk_cell hA.out 1).trans rfl
  go_wp2_with (go_at_call 76; refine (pack_Reader_Vary.calls k s1 b1 n1 s2 b2 _ A1.out).mono ?_; rintro e w1 ⟨rfl, hb⟩; clear ca0 ca1; have hA1 := Aside0.mk (blk_below hA.out hb); have hB1 := Aside0.mk (blk_below hB.out hb); have hC1 := Aside0.mk (blk_below hC.out hb); have HB1 := Aside0.mk (below_step HB.out hb); clear hA hB hC HB; clear hb; have fa0 := blk_frozen hA1.out 0; have fa1 := blk_frozen hA1.out 1; have ca0 := (blk_cell hA1.out 0).trans rfl; have ca1 := (blk_cell hA1.out 1).trans rfl; have fb := blk_frozen hB1.out 1; have cb := (blk_cell hB1.out 1).trans rfl)
  clear ca0 ca1 cb fa0 fa1 fb
  have hA := Aside0.mk (blk_put (blk_put (blk_far hA1.out (p := ⟨B1, 1, none⟩) g01 (.int .u64 n1)) 0 (.string s2) rfl) 1 (.bool b2) (cs' := #[.string s2, .bool b2]) rfl)
  have hB := Aside0.mk (blk_far (blk_far (blk_put hB1.out 1 (.int .u64 n1) (cs' := #[.int .u64 n0, .int .u64 n1, .int .u64 0, .int .u64 0]) rfl) (p := ⟨B0, 0, none⟩) (Ne.symm g01) (.string s2)) (p := ⟨B0, 1, none⟩) (Ne.symm g01) (.bool b2))
  have hC := Aside0.mk (blk_far (blk_far (blk_far hC1.out (p := ⟨B1, 1, none⟩) (Ne.symm g12) (.int .u64 n1)) (p := ⟨B0, 0, none⟩) (Ne.symm g02) (.string s2)) (p := ⟨B0, 1, none⟩) (Ne.symm g02) (.bool b2))
  have HB := Aside0.mk (below_set (j := 1) (v := .bool b2) (below_set (j := 0) (v := .string s2) (below_set (j := 1) (v := .int .u64 n1) HB1.out GB.out) GA.out) GA.out)
  clear hA1 hB1 hC1 HB1
  generalize ((w1.setCell ⟨B1, 1, none⟩ (.int .u64 n1)).setCell ⟨B0, 0, none⟩ (.string s2)).setCell ⟨B0, 1, none⟩ (.bool b2) = W2 at *
  clear w1 W1
  rw [rounds_succ]
  have ca0 := (blk_cell hA.out 0).trans rfl
  have ca1 := (blk_cell hA.out 1).trans rfl
  go_wp2_with (go_at_call 76; refine (pack_Reader_Vary.calls k s2 b2 n2 s3 b3 _ A2.out).mono ?_; rintro e w1 ⟨rfl, hb⟩; clear ca0 ca1; have hA1 := Aside0.mk (blk_below hA.out hb); have hB1 := Aside0.mk (blk_below hB.out hb); have hC1 := Aside0.mk (blk_below hC.out hb); have HB1 := Aside0.mk (below_step HB.out hb); clear hA hB hC HB; clear hb; have fa0 := blk_frozen hA1.out 0; have fa1 := blk_frozen hA1.out 1; have ca0 := (blk_cell hA1.out 0).trans rfl; have ca1 := (blk_cell hA1.out 1).trans rfl; have fb := blk_frozen hB1.out 2; have cb := (blk_cell hB1.out 2).trans rfl)
  clear ca0 ca1 cb fa0 fa1 fb
  have hA := Aside0.mk (blk_put (blk_put (blk_far hA1.out (p := ⟨B1, 2, none⟩) g01 (.int .u64 n2)) 0 (.string s3) rfl) 1 (.bool b3) (cs' := #[.string s3, .bool b3]) rfl)
  have hB := Aside0.mk (blk_far (blk_far (blk_put hB1.out 2 (.int .u64 n2) (cs' := #[.int .u64 n0, .int .u64 n1, .int .u64 n2, .int .u64 0]) rfl) (p := ⟨B0, 0, none⟩) (Ne.symm g01) (.string s3)) (p := ⟨B0, 1, none⟩) (Ne.symm g01) (.bool b3))
  have hC := Aside0.mk (blk_far (blk_far (blk_far hC1.out (p := ⟨B1, 2, none⟩) (Ne.symm g12) (.int .u64 n2)) (p := ⟨B0, 0, none⟩) (Ne.symm g02) (.string s3)) (p := ⟨B0, 1, none⟩) (Ne.symm g02) (.bool b3))
  have HB := Aside0.mk (below_set (j := 1) (v := .bool b3) (below_set (j := 0) (v := .string s3) (below_set (j := 2) (v := .int .u64 n2) HB1.out GB.out) GA.out) GA.out)
  clear hA1 hB1 hC1 HB1
  generalize ((w1.setCell ⟨B1, 2, none⟩ (.int .u64 n2)).setCell ⟨B0, 0, none⟩ (.string s3)).setCell ⟨B0, 1, none⟩ (.bool b3) = W3 at *
  clear w1 W2
  rw [rounds_succ]
  have ca0 := (blk_cell hA.out 0).trans rfl
  have ca1 := (blk_cell hA.out 1).trans rfl
  go_wp2_with (go_at_call 76; refine (pack_Reader_Vary.calls k s3 b3 n3 s4 b4 _ A3.out).mono ?_; rintro e w1 ⟨rfl, hb⟩; clear ca0 ca1; have hA1 := Aside0.mk (blk_below hA.out hb); have hB1 := Aside0.mk (blk_below hB.out hb); have hC1 := Aside0.mk (blk_below hC.out hb); have HB1 := Aside0.mk (below_step HB.out hb); clear hA hB hC HB; clear hb; have fa0 := blk_frozen hA1.out 0; have fa1 := blk_frozen hA1.out 1; have ca0 := (blk_cell hA1.out 0).trans rfl; have ca1 := (blk_cell hA1.out 1).trans rfl; have fb := blk_frozen hB1.out 3; have cb := (blk_cell hB1.out 3).trans rfl)
  clear ca0 ca1 cb fa0 fa1 fb
  have hA := Aside0.mk (blk_put (blk_put (blk_far hA1.out (p := ⟨B1, 3, none⟩) g01 (.int .u64 n3)) 0 (.string s4) rfl) 1 (.bool b4) (cs' := #[.string s4, .bool b4]) rfl)
  have hB := Aside0.mk (blk_far (blk_far (blk_put hB1.out 3 (.int .u64 n3) (cs' := #[.int .u64 n0, .int .u64 n1, .int .u64 n2, .int .u64 n3]) rfl) (p := ⟨B0, 0, none⟩) (Ne.symm g01) (.string s4)) (p := ⟨B0, 1, none⟩) (Ne.symm g01) (.bool b4))
  have hC := Aside0.mk (blk_far (blk_far (blk_far hC1.out (p := ⟨B1, 3, none⟩) (Ne.symm g12) (.int .u64 n3)) (p := ⟨B0, 0, none⟩) (Ne.symm g02) (.string s4)) (p := ⟨B0, 1, none⟩) (Ne.symm g02) (.bool b4))
  have HB := Aside0.mk (below_set (j := 1) (v := .bool b4) (below_set (j := 0) (v := .string s4) (below_set (j := 3) (v := .int .u64 n3) HB1.out GB.out) GA.out) GA.out)
  clear hA1 hB1 hC1 HB1
  generalize ((w1.setCell ⟨B1, 3, none⟩ (.int .u64 n3)).setCell ⟨B0, 0, none⟩ (.string s4)).setCell ⟨B0, 1, none⟩ (.bool b4) = W4 at *
  clear w1 W3
  rw [rounds_succ]
  have fb0 := blk_frozen hB.out 0
  have fb1 := blk_frozen hB.out 1
  have fb2 := blk_frozen hB.out 2
  have fb3 := blk_frozen hB.out 3
  have cb0 := (blk_cell hB.out 0).trans rfl
  have cb1 := (blk_cell hB.out 1).trans rfl
  have cb2 := (blk_cell hB.out 2).trans rfl
  have cb3 := (blk_cell hB.out 3).trans rfl
  have fc0 := blk_frozen hC.out 0
  have fc1 := blk_frozen hC.out 1
  have cc0 := (blk_cell hC.out 0).trans rfl
  have cc1 := (blk_cell hC.out 1).trans rfl
  have ca0 := (blk_cell hA.out 0).trans rfl
  have ca1 := (blk_cell hA.out 1).trans rfl
  cases b4 with
  | true =>
    have h := HH.out
    rw [if_pos rfl] at h
    simp only [Option.some.injEq, Prod.mk.injEq] at h
    obtain ⟨rfl, rfl, rfl, rfl, rfl, rfl⟩ := h
    clear HH
    go_wp2
    clear fb0 fb1 fb2 fb3 cb0 cb1 cb2 cb3 fc0 fc1 cc0 cc1 ca0 ca1
    have hB1 := Aside0.mk (blk_far (blk_far (blk_put (blk_put (blk_put (blk_put hB.out 0 (.int .u64 0) rfl) 1 (.int .u64 0) rfl) 2 (.int .u64 0) rfl) 3 (.int .u64 0) (cs' := #[.int .u64 0, .int .u64 0, .int .u64 0, .int .u64 0]) rfl) (p := ⟨B2, 0, none⟩) g12 (.string (⟨#[]⟩ : ByteArray))) (p := ⟨B2, 1, none⟩) g12 (.bool true))
    have hC1 := Aside0.mk (blk_put (blk_put (blk_far (blk_far (blk_far (blk_far hC.out (p := ⟨B1, 0, none⟩) (Ne.symm g12) (.int .u64 0)) (p := ⟨B1, 1, none⟩) (Ne.symm g12) (.int .u64 0)) (p := ⟨B1, 2, none⟩) (Ne.symm g12) (.int .u64 0)) (p := ⟨B1, 3, none⟩) (Ne.symm g12) (.int .u64 0)) 0 (.string (⟨#[]⟩ : ByteArray)) rfl) 1 (.bool true) (cs' := #[.string (⟨#[]⟩ : ByteArray), .bool true]) rfl)
    have HB1 := Aside0.mk (below_set (j := 1) (v := .bool true) (below_set (j := 0) (v := .string (⟨#[]⟩ : ByteArray)) (below_set (j := 3) (v := .int .u64 0) (below_set (j := 2) (v := .int .u64 0) (below_set (j := 1) (v := .int .u64 0) (below_set (j := 0) (v := .int .u64 0) HB.out GB.out) GB.out) GB.out) GB.out) GC.out) GC.out)
    clear hA hB hC HB
    generalize ((((((W4.setCell ⟨B1, 0, none⟩ (.int .u64 0)).setCell ⟨B1, 1, none⟩ (.int .u64 0)).setCell ⟨B1, 2, none⟩ (.int .u64 0)).setCell ⟨B1, 3, none⟩ (.int .u64 0)).setCell ⟨B2, 0, none⟩ (.string (⟨#[]⟩ : ByteArray))).setCell ⟨B2, 1, none⟩ (.bool true)) = W9 at *
    have d0 := (blk_cell hB1.out 0).trans rfl
    have d1 := (blk_cell hB1.out 1).trans rfl
    have d2 := (blk_cell hB1.out 2).trans rfl
    have d3 := (blk_cell hB1.out 3).trans rfl
    have d4 := (blk_cell hC1.out 0).trans rfl
    have d5 := (blk_cell hC1.out 1).trans rfl
    refine bodyPost_ret (v := .tuple #[.agg #[.int .u64 0, .int .u64 0, .int .u64 0, .int .u64 0], .agg #[.string (⟨#[]⟩ : ByteArray), .bool true]]) (by simp [results, Try.results106, go_sem, hu, hu2, hu3, d0, d1, d2, d3, d4, d5]) rfl ⟨rfl, HB1.out⟩
  | false =>
    have h := HH.out
    rw [if_neg (by simp)] at h
    obtain ⟨t, A4, h⟩ := Option.bind_eq_some_iff.1 h
    replace A4 := Aside0.mk A4
    clear HH
    cases t with
    | false =>
      rw [if_neg (by simp)] at h
      simp only [Option.some.injEq, Prod.mk.injEq] at h
      obtain ⟨rfl, rfl, rfl, rfl, rfl, rfl⟩ := h
      go_wp2_with (go_at_call 92; refine (vec_Right.calls n0 n1 n2 n3 false _ A4.out).mono ?_; rintro e w1 ⟨rfl, hb⟩; clear fb0 fb1 fb2 fb3 cb0 cb1 cb2 cb3 fc0 fc1 cc0 cc1 ca0 ca1; have hA1 := Aside0.mk (blk_below hA.out hb); have hB1 := Aside0.mk (blk_below hB.out hb); have hC1 := Aside0.mk (blk_below hC.out hb); have HB1 := Aside0.mk (below_step HB.out hb); clear hA hB hC HB; clear hb; have hA := hA1; have hB := hB1; have hC := hC1; have HB := HB1; clear hA1 hB1 hC1 HB1; have fb0 := blk_frozen hB.out 0; have fb1 := blk_frozen hB.out 1; have fb2 := blk_frozen hB.out 2; have fb3 := blk_frozen hB.out 3; have cb0 := (blk_cell hB.out 0).trans rfl; have cb1 := (blk_cell hB.out 1).trans rfl; have cb2 := (blk_cell hB.out 2).trans rfl; have cb3 := (blk_cell hB.out 3).trans rfl; have fc0 := blk_frozen hC.out 0; have fc1 := blk_frozen hC.out 1; have cc0 := (blk_cell hC.out 0).trans rfl; have cc1 := (blk_cell hC.out 1).trans rfl; have ca0 := (blk_cell hA.out 0).trans rfl; have ca1 := (blk_cell hA.out 1).trans rfl)
      clear fb0 fb1 fb2 fb3 cb0 cb1 cb2 cb3 fc0 fc1 cc0 cc1 ca0 ca1
      have hB1 := Aside0.mk (blk_far (blk_far (blk_put (blk_put (blk_put (blk_put hB.out 0 (.int .u64 0) rfl) 1 (.int .u64 0) rfl) 2 (.int .u64 0) rfl) 3 (.int .u64 0) (cs' := #[.int .u64 0, .int .u64 0, .int .u64 0, .int .u64 0]) rfl) (p := ⟨B2, 0, none⟩) g12 (.string (⟨#[]⟩ : ByteArray))) (p := ⟨B2, 1, none⟩) g12 (.bool true))
      have hC1 := Aside0.mk (blk_put (blk_put (blk_far (blk_far (blk_far (blk_far hC.out (p := ⟨B1, 0, none⟩) (Ne.symm g12) (.int .u64 0)) (p := ⟨B1, 1, none⟩) (Ne.symm g12) (.int .u64 0)) (p := ⟨B1, 2, none⟩) (Ne.symm g12) (.int .u64 0)) (p := ⟨B1, 3, none⟩) (Ne.symm g12) (.int .u64 0)) 0 (.string (⟨#[]⟩ : ByteArray)) rfl) 1 (.bool true) (cs' := #[.string (⟨#[]⟩ : ByteArray), .bool true]) rfl)
      have HB1 := Aside0.mk (below_set (j := 1) (v := .bool true) (below_set (j := 0) (v := .string (⟨#[]⟩ : ByteArray)) (below_set (j := 3) (v := .int .u64 0) (below_set (j := 2) (v := .int .u64 0) (below_set (j := 1) (v := .int .u64 0) (below_set (j := 0) (v := .int .u64 0) HB.out GB.out) GB.out) GB.out) GB.out) GC.out) GC.out)
      clear hA hB hC HB
      generalize ((((((w1.setCell ⟨B1, 0, none⟩ (.int .u64 0)).setCell ⟨B1, 1, none⟩ (.int .u64 0)).setCell ⟨B1, 2, none⟩ (.int .u64 0)).setCell ⟨B1, 3, none⟩ (.int .u64 0)).setCell ⟨B2, 0, none⟩ (.string (⟨#[]⟩ : ByteArray))).setCell ⟨B2, 1, none⟩ (.bool true)) = W9 at *
      have d0 := (blk_cell hB1.out 0).trans rfl
      have d1 := (blk_cell hB1.out 1).trans rfl
      have d2 := (blk_cell hB1.out 2).trans rfl
      have d3 := (blk_cell hB1.out 3).trans rfl
      have d4 := (blk_cell hC1.out 0).trans rfl
      have d5 := (blk_cell hC1.out 1).trans rfl
      refine bodyPost_ret (v := .tuple #[.agg #[.int .u64 0, .int .u64 0, .int .u64 0, .int .u64 0], .agg #[.string (⟨#[]⟩ : ByteArray), .bool true]]) (by simp [results, Try.results106, go_sem, hu, hu2, hu3, d0, d1, d2, d3, d4, d5]) rfl ⟨rfl, HB1.out⟩
    | true =>
      rw [if_pos rfl] at h
      simp only [Option.some.injEq, Prod.mk.injEq] at h
      obtain ⟨rfl, rfl, rfl, rfl, rfl, rfl⟩ := h
      go_wp2_with (go_at_call 92; refine (vec_Right.calls n0 n1 n2 n3 true _ A4.out).mono ?_; rintro e w1 ⟨rfl, hb⟩; clear fb0 fb1 fb2 fb3 cb0 cb1 cb2 cb3 fc0 fc1 cc0 cc1 ca0 ca1; have hA1 := Aside0.mk (blk_below hA.out hb); have hB1 := Aside0.mk (blk_below hB.out hb); have hC1 := Aside0.mk (blk_below hC.out hb); have HB1 := Aside0.mk (below_step HB.out hb); clear hA hB hC HB; clear hb; have hA := hA1; have hB := hB1; have hC := hC1; have HB := HB1; clear hA1 hB1 hC1 HB1; have fb0 := blk_frozen hB.out 0; have fb1 := blk_frozen hB.out 1; have fb2 := blk_frozen hB.out 2; have fb3 := blk_frozen hB.out 3; have cb0 := (blk_cell hB.out 0).trans rfl; have cb1 := (blk_cell hB.out 1).trans rfl; have cb2 := (blk_cell hB.out 2).trans rfl; have cb3 := (blk_cell hB.out 3).trans rfl; have fc0 := blk_frozen hC.out 0; have fc1 := blk_frozen hC.out 1; have cc0 := (blk_cell hC.out 0).trans rfl; have cc1 := (blk_cell hC.out 1).trans rfl; have ca0 := (blk_cell hA.out 0).trans rfl; have ca1 := (blk_cell hA.out 1).trans rfl)
      go_region
      go_wp2
      clear fb0 fb1 fb2 fb3 cb0 cb1 cb2 cb3 fc0 fc1 cc0 cc1 ca0 ca1
      have hB1 := Aside0.mk (blk_drew (blk_far (blk_far (blk_put (blk_put (blk_put (blk_put hB.out 0 (.int .u64 n0) rfl) 1 (.int .u64 n1) rfl) 2 (.int .u64 n2) rfl) 3 (.int .u64 n3) (cs' := #[.int .u64 n0, .int .u64 n1, .int .u64 n2, .int .u64 n3]) rfl) (p := ⟨B2, 0, none⟩) g12 (.string s4)) (p := ⟨B2, 1, none⟩) g12 (.bool false)))
      have hC1 := Aside0.mk (blk_drew (blk_put (blk_put (blk_far (blk_far (blk_far (blk_far hC.out (p := ⟨B1, 0, none⟩) (Ne.symm g12) (.int .u64 n0)) (p := ⟨B1, 1, none⟩) (Ne.symm g12) (.int .u64 n1)) (p := ⟨B1, 2, none⟩) (Ne.symm g12) (.int .u64 n2)) (p := ⟨B1, 3, none⟩) (Ne.symm g12) (.int .u64 n3)) 0 (.string s4) rfl) 1 (.bool false) (cs' := #[.string s4, .bool false]) rfl))
      have HB1 := Aside0.mk (below_drew1 (below_set (j := 1) (v := .bool false) (below_set (j := 0) (v := .string s4) (below_set (j := 3) (v := .int .u64 n3) (below_set (j := 2) (v := .int .u64 n2) (below_set (j := 1) (v := .int .u64 n1) (below_set (j := 0) (v := .int .u64 n0) HB.out GB.out) GB.out) GB.out) GB.out) GC.out) GC.out))
      clear hA hB hC HB
      generalize ((((((w1.setCell ⟨B1, 0, none⟩ (.int .u64 n0)).setCell ⟨B1, 1, none⟩ (.int .u64 n1)).setCell ⟨B1, 2, none⟩ (.int .u64 n2)).setCell ⟨B1, 3, none⟩ (.int .u64 n3)).setCell ⟨B2, 0, none⟩ (.string s4)).setCell ⟨B2, 1, none⟩ (.bool false)).drew = W9 at *
      have d0 := (blk_cell hB1.out 0).trans rfl
      have d1 := (blk_cell hB1.out 1).trans rfl
      have d2 := (blk_cell hB1.out 2).trans rfl
      have d3 := (blk_cell hB1.out 3).trans rfl
      have d4 := (blk_cell hC1.out 0).trans rfl
      have d5 := (blk_cell hC1.out 1).trans rfl
      refine bodyPost_ret (v := .tuple #[.agg #[.int .u64 n0, .int .u64 n1, .int .u64 n2, .int .u64 n3], .agg #[.string s4, .bool false]]) (by simp [results, Try.results106, go_sem, hu, hu2, hu3, d0, d1, d2, d3, d4, d5]) rfl ⟨rfl, HB1.out⟩
end Go.Proofs.Ytoagfdpgnfinhaa.Q
