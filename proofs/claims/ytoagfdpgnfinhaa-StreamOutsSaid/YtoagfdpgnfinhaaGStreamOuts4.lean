import Derived.Test.YtoagfdpgnfinhaaGStreamOuts2
import Derived.Test.YtoagfdpgnfinhaaGStreamOuts3
namespace Go.Proofs.Ytoagfdpgnfinhaa.Q
open Go.RowKit Go.Proofs.YtoagfdpgnfinhaaW.PrintWords Go.Proofs.YtoagfdpgnfinhaaW.PrintLast Go.Proofs.YtoagfdpgnfinhaaW.PrintMore
attribute [local go_sem] max2_int min2_int max_two min_two max_three min_three max_four min_four   -- for this text's walks alone
set_option linter.unusedVariables false
set_option linter.unusedSimpArgs false
def crc_next.l0 : Nat → Int → Int → Option (Int)
 | 0, _, _ => none
 | k + 1, x0, x9 => if x9 < 8 then (crc_next.l0 k (Go.bits .xor .u32 (x0 / 2) (Go.bits .and .u32 3988292384 ((-(Go.bits .and .u32 x0 1)) % 4294967296))) (wrap64 (x9 + 1))) else (some x0)
def crc_next.f (k : Nat) (a0 : Int) (a1 : Int) : Option (Int) := crc_next.l0 k (Go.bits .xor .u32 a0 ((a1) % 4294967296)) 0
set_option maxHeartbeats 8000000 in
set_option maxRecDepth 100000 in
theorem crc_next.calls (k : Nat) (a0 : Int) (a1 : Int) (r : Int) (w : World) (h : crc_next.f k a0 a1 = some r) :
  Calls Try.prog 89 #[.int .u32 a0, .int .u8 a1] w fun e w' => e = .returned (.int .u32 r) ∧ Drawn0 w w' := by
 have H : (crc_next.l0 k (Go.bits .xor .u32 a0 ((a1) % 4294967296)) 0) = some r := h
 clear h
 have H' := Aside0.mk H
 clear H
 go_enter Try.func89, Try.ntmps89
 go_wp2
 go_loopg [0, 9] k (fun kq v0 v9 w' => ∃ (x0_1 : Int) (x9_1 : Int), v0 = .int .u32 x0_1 ∧ v9 = .int .i64 x9_1 ∧ Aside0 (crc_next.l0 kq x0_1 x9_1 = some r) ∧ Aside0 (kq ≤ k) ∧ Drawn0 w w')
 case atStart => exact ⟨(Go.bits .xor .u32 a0 ((a1) % 4294967296)), (0), (by first | rfl | (simp; done) | (simp [*]; done)), (by first | rfl | (simp; done) | (simp [*]; done)), H', ⟨Nat.le_refl _⟩, by repeat (first | exact Drawn0.refl _ | apply Drawn0.step)⟩
 case round =>
  clear H'
  try clear p2
  obtain ⟨x0_1, x9_1, rfl, rfl, HA, HK1, ⟨m1, rfl⟩⟩ := hrel
  cases gk with
  | zero => exact absurd HA.out (by simp [crc_next.l0])
  | succ k1 =>
   have H := HA.out
   clear HA
   simp only [crc_next.l0] at H
   by_cases c3 : x9_1 < 8
   rotate_left
   ·rw [if_neg c3] at H
    have c3b0 : decide (x9_1 < 8) = false := decide_eq_false c3
    clear c3
    obtain rfl := Option.some.inj H
    go_wp2
    go_ret
    exact ⟨by first | rfl | (simp; done) | (simp [*]; done), by repeat (first | exact Drawn0.refl _ | apply Drawn0.step)⟩
   rw [if_pos c3] at H
   have c3b0 : decide (x9_1 < 8) = true := decide_eq_true c3
   clear c3
   have H' := Aside0.mk H
   clear H
   go_wp2
   go_roundg k1
   case measure => have := HK1.out; omega
   case rel => exact ⟨(Go.bits .xor .u32 (x0_1 / 2) (Go.bits .and .u32 3988292384 ((-(Go.bits .and .u32 x0_1 1)) % 4294967296))), (wrap64 (x9_1 + 1)), (by first | rfl | (simp; done) | (simp [*]; done)), (by first | rfl | (simp; done) | (simp [*]; done)), H', ⟨by have := HK1.out; omega⟩, by repeat (first | exact Drawn0.refl _ | apply Drawn0.step)⟩
def crc_Sum.fold (k : Nat) (s : ByteArray) : Nat → Option (Int)
 | 0 => some 4294967295
 | i + 1 => (crc_Sum.fold k s i).bind fun c => crc_next.f k c (bt s (i : Int))
def crc_Sum.f (k : Nat) (a0 : ByteArray) : Option (Int) :=
 if a0.size ≤ 9223372036854775807 then (crc_Sum.fold k a0 a0.size).bind fun c => some (Go.bits .xor .u32 4294967295 c) else none
theorem crc_Sum.fold_some {k : Nat} {s : ByteArray} : ∀ {n : Nat} {c : Int}, crc_Sum.fold k s n = some c → ∀ i, i ≤ n → ∃ d, crc_Sum.fold k s i = some d
 | 0, c, h, i, hi => by
  obtain rfl : i = 0 := by omega
  exact ⟨c, h⟩
 | n + 1, c, h, i, hi => by
  by_cases e : i = n + 1
  ·subst e; exact ⟨c, h⟩
  ·obtain ⟨d, hd, _⟩ := Option.bind_eq_some_iff.1 h
   exact crc_Sum.fold_some hd i (by omega)
set_option maxHeartbeats 1000000 in
theorem crc_Sum.calls (k : Nat) (a0 : ByteArray) (r : Int) (w : World) (h : crc_Sum.f k a0 = some r) :
  Calls Try.prog 63 #[.string a0] w fun e w' => e = .returned (.int .u32 r) ∧ Below w.heap.size w w' := by
 unfold crc_Sum.f at h
 by_cases hm : a0.size ≤ 9223372036854775807
 ·rw [if_pos hm] at h
  obtain ⟨c, hc0, hr0⟩ := Option.bind_eq_some_iff.1 h
  obtain rfl := Option.some.inj hr0
  have HC := Aside0.mk hc0
  clear h hr0 hc0
  have hcv := fun W t => Lib.run_convert_string_bytes (P := Try.prog) W 9 91 5 t Try.underlying9 Try.underlying91 Try.underlying5
  go_enter Try.func63, Try.ntmps63
  go_wp2
  obtain ⟨W, hW⟩ : ∃ W, W = Lib.bytesWorld w 5 a0 := ⟨_, rfl⟩
  have HB := Aside0.mk (show Below w.heap.size w W by rw [hW]; exact bytes_below (Below.refl _ _) (Nat.le_refl _) _ _)
  have HE := Aside0.mk (show ∀ j : Nat, j < a0.size → W.cell? ⟨w.heap.size, j, none⟩ = some (.int .u8 (bt a0 j)) by
   intro j hj
   obtain ⟨_, _, hr⟩ := bytes_reads w 5 a0 hm
   rw [← hW] at hr
   obtain ⟨ad, had, hr⟩ := hr (by omega)
   have hr := hr j hj
   simp at had
   subst had
   rw [add_plain] at hr
   rw [hr]
   have e1 : (bytesOf a0).getD j 0 = bt a0 j := rd_bytesOf a0 j
   rw [e1])
  have HS := Aside0.mk (show w.heap.size < W.heap.size by rw [hW, Lib.bytesWorld_size]; omega)
  rw [← hW]
  clear hW hcv
  go_loopw [9, 3] (fun i v wr => ∃ (j : Nat) (d : Int), j ≤ a0.size ∧ i = .int .i64 j ∧ v = .int .u32 d ∧ Aside0 (crc_Sum.fold k a0 j = some d) ∧ Aside0 (Below W.heap.size W wr)) (fun i _ _ => a0.size - (intOf i).toNat)
  case atStart => exact ⟨0, _, Nat.zero_le _, rfl, rfl, ⟨rfl⟩, ⟨Below.refl _ _⟩⟩
  case round =>
   obtain ⟨j, d, hj, rfl, rfl, HD, HW⟩ := hrel
   by_cases hlt : j < a0.size
   ·obtain ⟨d', hd'⟩ := crc_Sum.fold_some HC.out (j + 1) hlt
    have hn : crc_next.f k d (bt a0 j) = some d' := by
     have := hd'
     simp only [crc_Sum.fold] at this
     rw [HD.out] at this
     exact this
    have HN := Aside0.mk hn
    have HD' := Aside0.mk hd'
    clear hn hd'
    have hcell := (HW.out.cell (p := ⟨w.heap.size, j, none⟩) HS.out).trans (HE.out j hlt)
    go_wp2_with (go_at_call 89; refine (crc_next.calls k d (bt a0 j) d' _ HN.out).mono ?_; rintro e w1 ⟨rfl, hb1⟩; have HW1 := Aside0.mk (HW.out.trans (hb1.below.mono HW.out.size)); clear hb1)
    go_roundw
    case rel => exact ⟨j + 1, d', by omega, by go_num, rfl, HD', HW1⟩
    case measure => simp [intOf]; omega
   ·obtain rfl : j = a0.size := by omega
    obtain rfl : d = c := Option.some.inj (HD.out.symm.trans HC.out)
    go_wp2
    go_ret
    exact ⟨rfl, HB.out.trans (HW.out.mono (Nat.le_of_lt HS.out))⟩
 ·rw [if_neg hm] at h
  exact absurd h (by simp)
def stream_Put.f (k : Nat) (a0_0 : Int) (a0_1 : Int) (a0_2 : Int) (a0_3 : Int) (a0_4 : Int) (a0_5 : Int) (a0_6 : Int) (a0_7 : Int) (l0_8 : List (S107)) : Option (ByteArray × Bool) := (stream_Right.f k a0_0 a0_1 a0_2 a0_3 a0_4 a0_5 a0_6 a0_7 l0_8).bind fun t154 => (if t154 = true then ((pack_Number.f (IntKind.u64.wrap (a0_0)) 1).bind fun t155 => ((pack_Number.f (IntKind.u64.wrap (a0_1)) 1).bind fun t156 => (if t155.size + t156.size ≤ 9223372036854775807 then ((pack_Vary.f k a0_2).bind fun t157 => (if (t155 ++ t156).size + t157.size ≤ 9223372036854775807 then ((item_Bytes.f k a0_3 a0_4 a0_5 a0_6 a0_7 l0_8).bind fun bt158 => (if bt158.2 = true then ((pack_Text.f k bt158.1).bind fun t160 => (if ((t155 ++ t156) ++ t157).size + t160.size ≤ 9223372036854775807 then ((crc_Sum.f k (((t155 ++ t156) ++ t157) ++ t160)).bind fun t161 => ((pack_Number.f (IntKind.u64.wrap (t161)) 4).bind fun t162 => (if (((t155 ++ t156) ++ t157) ++ t160).size + t162.size ≤ 9223372036854775807 then (some ((((t155 ++ t156) ++ t157) ++ t160) ++ t162, true)) else (none)))) else (none))) else ((crc_Sum.f k ((t155 ++ t156) ++ t157)).bind fun t163 => ((pack_Number.f (IntKind.u64.wrap (t163)) 4).bind fun t164 => (if ((t155 ++ t156) ++ t157).size + t164.size ≤ 9223372036854775807 then (some (((t155 ++ t156) ++ t157) ++ t164, true)) else (none)))))) else (none))) else (none)))) else (some ((⟨#[]⟩ : ByteArray), false)))
def stream_Put.T3 : Bool × List (List Nat × List Nat) := (true, [([], []), ([0], [0]), ([1], [1]), ([2], [2]), ([], []), ([4], [4]), ([5], [5]), ([6, 3], [6]), ([3, 7], [3, 7]), ([], []), ([9], [9]), ([10, 7], [10]), ([8, 11], [8, 11]), ([12, 11, 0, 1, 2, 3, 4, 5, 6, 7, 8, 9, 10, 11, 12], [12])])
def stream_Put.B3 : List Nat := [0, 1, 3, 7, 0, 16, 48, 127, 255, 0, 512, 1791, 4095, 8191]
theorem stream_Put.tab3 : rtab .any (opsOf Try.f27 3) = stream_Put.T3 := by kernel_rfl
theorem stream_Put.bits3 : waitsOk stream_Put.T3.2 stream_Put.B3 = true := by kernel_rfl
set_option maxHeartbeats 8000000 in
set_option maxRecDepth 100000 in
theorem stream_Put.calls (k : Nat) (a0_0 : Int) (a0_1 : Int) (a0_2 : Int) (a0_3 : Int) (a0_4 : Int) (a0_5 : Int) (a0_6 : Int) (a0_7 : Int) (A0_8 : Option Addr) (c0_8 : Nat) (l0_8 : List (S107)) (r1 : ByteArray) (r2 : Bool) (w : World) (hr0_8 : Kd.C k107 w A0_8 l0_8.length l0_8) (hc0_8 : l0_8.length ≤ c0_8) (h : stream_Put.f k a0_0 a0_1 a0_2 a0_3 a0_4 a0_5 a0_6 a0_7 l0_8 = some (r1, r2)) :
  Calls Try.prog 27 #[.agg #[.int .i64 a0_0, .int .i64 a0_1, .int .u64 a0_2, .int .u64 a0_3, .int .u64 a0_4, .int .u64 a0_5, .int .u64 a0_6, .int .i64 a0_7, .slice A0_8 l0_8.length c0_8]] w fun e w' => e = .returned (.tuple #[.string r1, .bool r2]) ∧ Below w.heap.size w w' := by
 have hu69 := Try.underlying69
 have hu33 := Try.underlying33
 have HR0_8 := Aside0.mk hr0_8
 have HC0_8 := Aside0.mk hc0_8
 clear hr0_8 hc0_8
 have HB := Aside0.mk (Below.refl w.heap.size w)
 have H : ((stream_Right.f k a0_0 a0_1 a0_2 a0_3 a0_4 a0_5 a0_6 a0_7 l0_8).bind fun t154 => (if t154 = true then ((pack_Number.f (IntKind.u64.wrap (a0_0)) 1).bind fun t155 => ((pack_Number.f (IntKind.u64.wrap (a0_1)) 1).bind fun t156 => (if t155.size + t156.size ≤ 9223372036854775807 then ((pack_Vary.f k a0_2).bind fun t157 => (if (t155 ++ t156).size + t157.size ≤ 9223372036854775807 then ((item_Bytes.f k a0_3 a0_4 a0_5 a0_6 a0_7 l0_8).bind fun bt158 => (if bt158.2 = true then ((pack_Text.f k bt158.1).bind fun t160 => (if ((t155 ++ t156) ++ t157).size + t160.size ≤ 9223372036854775807 then ((crc_Sum.f k (((t155 ++ t156) ++ t157) ++ t160)).bind fun t161 => ((pack_Number.f (IntKind.u64.wrap (t161)) 4).bind fun t162 => (if (((t155 ++ t156) ++ t157) ++ t160).size + t162.size ≤ 9223372036854775807 then (some ((((t155 ++ t156) ++ t157) ++ t160) ++ t162, true)) else (none)))) else (none))) else ((crc_Sum.f k ((t155 ++ t156) ++ t157)).bind fun t163 => ((pack_Number.f (IntKind.u64.wrap (t163)) 4).bind fun t164 => (if ((t155 ++ t156) ++ t157).size + t164.size ≤ 9223372036854775807 then (some (((t155 ++ t156) ++ t157) ++ t164, true)) else (none)))))) else (none))) else (none)))) else (some ((⟨#[]⟩ : ByteArray), false)))) = some (r1, r2) := h
 (try (have Hs_ := H; simp only [ByteArray.size_append, Int.natCast_add] at Hs_))
 clear h
 replace H := Option.bind_eq_some_iff.mp H
 obtain ⟨t154, A20, H⟩ := H
 replace H : (if t154 = true then ((pack_Number.f (IntKind.u64.wrap (a0_0)) 1).bind fun t155 => ((pack_Number.f (IntKind.u64.wrap (a0_1)) 1).bind fun t156 => (if t155.size + t156.size ≤ 9223372036854775807 then ((pack_Vary.f k a0_2).bind fun t157 => (if (t155 ++ t156).size + t157.size ≤ 9223372036854775807 then ((item_Bytes.f k a0_3 a0_4 a0_5 a0_6 a0_7 l0_8).bind fun bt158 => (if bt158.2 = true then ((pack_Text.f k bt158.1).bind fun t160 => (if ((t155 ++ t156) ++ t157).size + t160.size ≤ 9223372036854775807 then ((crc_Sum.f k (((t155 ++ t156) ++ t157) ++ t160)).bind fun t161 => ((pack_Number.f (IntKind.u64.wrap (t161)) 4).bind fun t162 => (if (((t155 ++ t156) ++ t157) ++ t160).size + t162.size ≤ 9223372036854775807 then (some ((((t155 ++ t156) ++ t157) ++ t160) ++ t162, true)) else (none)))) else (none))) else ((crc_Sum.f k ((t155 ++ t156) ++ t157)).bind fun t163 => ((pack_Number.f (IntKind.u64.wrap (t163)) 4).bind fun t164 => (if ((t155 ++ t156) ++ t157).size + t164.size ≤ 9223372036854775807 then (some (((t155 ++ t156) ++ t157) ++ t164, true)) else (none)))))) else (none))) else (none)))) else (some ((⟨#[]⟩ : ByteArray), false))) = some (r1, r2) := H
 have A2 := Aside0.mk A20
 clear A20
 by_cases c3 : t154 = true
 rotate_left
 ·replace c3 := Bool.eq_false_iff.mpr c3
  subst c3
  have H1 : (some ((⟨#[]⟩ : ByteArray), false)) = some (r1, r2) := by rw [if_neg (show ¬ (false = true) by decide)] at H; exact H
  clear H
  have H := H1
  clear H1
  simp only [Option.some.injEq, Prod.mk.injEq] at H
  obtain ⟨rfl, rfl⟩ := H
  go_enter Try.func27, Try.ntmps27
  go_wp2_with (first | ((with_reducible refine gate_dst (N := 1) rfl ?_); refine Ka_ 1 #[.int .i64 a0_0, .int .i64 a0_1, .int .u64 a0_2, .int .u64 a0_3, .int .u64 a0_4, .int .u64 a0_5, .int .u64 a0_6, .int .i64 a0_7, .slice A0_8 l0_8.length c0_8] 69 ?_; intro gb153 hg w42 hbox hb; have BK153 := Aside0.mk (hbox); have GW153 := Kw_ HB hg; have GE153 := GW153; replace HB := Ks_ HB hb; clear hb hbox hg; obtain ⟨hcz43_0, hcz43_1, hcz43_2, hcz43_3, hcz43_4, hcz43_5, hcz43_6, hcz43_7, hcz43_8, hfz43_0, hfz43_1, hfz43_2, hfz43_3, hfz43_4, hfz43_5, hfz43_6, hfz43_7, hfz43_8⟩ := Ke9_ BK153.out) | ((with_reducible refine gate_callee (f := 33) rfl ?_); refine Kg_ (some 8) rfl rfl Try.func33 (by kernel_rfl) rfl #[.agg #[.int .i64 a0_0, .int .i64 a0_1, .int .u64 a0_2, .int .u64 a0_3, .int .u64 a0_4, .int .u64 a0_5, .int .u64 a0_6, .int .i64 a0_7, .slice A0_8 l0_8.length c0_8]] rfl ?_; (with_reducible refine (stream_Right.calls k a0_0 a0_1 a0_2 a0_3 a0_4 a0_5 a0_6 a0_7 _ _ l0_8 false _ ?side1 ?side2 A2.out).mono ?_); (case side1 => repeat (first | exact (Kd.C_below HR0_8.out HB.out) | (with_reducible refine Kd.C_alloc ?_ _) | (with_reducible refine Kd.C_drewN ?_ _) | (with_reducible refine Kd.C_drew ?_))); (case side2 => exact HC0_8.out); rintro e w44 ⟨rfl, hb⟩; refine ⟨_, rfl, ?_⟩; replace BK153 := Kb_ BK153 hb; replace HB := Ks_ HB hb; (try clear hb); (try clear hb2); (try clear hk); (try clear hi)))
  go_ret2
  exact ⟨Kh_, Kz_ HB GE153⟩
 subst c3
 have H1 : ((pack_Number.f (IntKind.u64.wrap (a0_0)) 1).bind fun t155 => ((pack_Number.f (IntKind.u64.wrap (a0_1)) 1).bind fun t156 => (if t155.size + t156.size ≤ 9223372036854775807 then ((pack_Vary.f k a0_2).bind fun t157 => (if (t155 ++ t156).size + t157.size ≤ 9223372036854775807 then ((item_Bytes.f k a0_3 a0_4 a0_5 a0_6 a0_7 l0_8).bind fun bt158 => (if bt158.2 = true then ((pack_Text.f k bt158.1).bind fun t160 => (if ((t155 ++ t156) ++ t157).size + t160.size ≤ 9223372036854775807 then ((crc_Sum.f k (((t155 ++ t156) ++ t157) ++ t160)).bind fun t161 => ((pack_Number.f (IntKind.u64.wrap (t161)) 4).bind fun t162 => (if (((t155 ++ t156) ++ t157) ++ t160).size + t162.size ≤ 9223372036854775807 then (some ((((t155 ++ t156) ++ t157) ++ t160) ++ t162, true)) else (none)))) else (none))) else ((crc_Sum.f k ((t155 ++ t156) ++ t157)).bind fun t163 => ((pack_Number.f (IntKind.u64.wrap (t163)) 4).bind fun t164 => (if ((t155 ++ t156) ++ t157).size + t164.size ≤ 9223372036854775807 then (some (((t155 ++ t156) ++ t157) ++ t164, true)) else (none)))))) else (none))) else (none)))) = some (r1, r2) := by rw [if_pos rfl] at H; exact H
 clear H
 have H := H1
 clear H1
 replace H := Option.bind_eq_some_iff.mp H
 obtain ⟨t155, A40, H⟩ := H
 replace H : ((pack_Number.f (IntKind.u64.wrap (a0_1)) 1).bind fun t156 => (if t155.size + t156.size ≤ 9223372036854775807 then ((pack_Vary.f k a0_2).bind fun t157 => (if (t155 ++ t156).size + t157.size ≤ 9223372036854775807 then ((item_Bytes.f k a0_3 a0_4 a0_5 a0_6 a0_7 l0_8).bind fun bt158 => (if bt158.2 = true then ((pack_Text.f k bt158.1).bind fun t160 => (if ((t155 ++ t156) ++ t157).size + t160.size ≤ 9223372036854775807 then ((crc_Sum.f k (((t155 ++ t156) ++ t157) ++ t160)).bind fun t161 => ((pack_Number.f (IntKind.u64.wrap (t161)) 4).bind fun t162 => (if (((t155 ++ t156) ++ t157) ++ t160).size + t162.size ≤ 9223372036854775807 then (some ((((t155 ++ t156) ++ t157) ++ t160) ++ t162, true)) else (none)))) else (none))) else ((crc_Sum.f k ((t155 ++ t156) ++ t157)).bind fun t163 => ((pack_Number.f (IntKind.u64.wrap (t163)) 4).bind fun t164 => (if ((t155 ++ t156) ++ t157).size + t164.size ≤ 9223372036854775807 then (some (((t155 ++ t156) ++ t157) ++ t164, true)) else (none)))))) else (none))) else (none))) = some (r1, r2) := H
 have A4 := Aside0.mk A40
 clear A40
 replace H := Option.bind_eq_some_iff.mp H
 obtain ⟨t156, A50, H⟩ := H
 replace H : (if t155.size + t156.size ≤ 9223372036854775807 then ((pack_Vary.f k a0_2).bind fun t157 => (if (t155 ++ t156).size + t157.size ≤ 9223372036854775807 then ((item_Bytes.f k a0_3 a0_4 a0_5 a0_6 a0_7 l0_8).bind fun bt158 => (if bt158.2 = true then ((pack_Text.f k bt158.1).bind fun t160 => (if ((t155 ++ t156) ++ t157).size + t160.size ≤ 9223372036854775807 then ((crc_Sum.f k (((t155 ++ t156) ++ t157) ++ t160)).bind fun t161 => ((pack_Number.f (IntKind.u64.wrap (t161)) 4).bind fun t162 => (if (((t155 ++ t156) ++ t157) ++ t160).size + t162.size ≤ 9223372036854775807 then (some ((((t155 ++ t156) ++ t157) ++ t160) ++ t162, true)) else (none)))) else (none))) else ((crc_Sum.f k ((t155 ++ t156) ++ t157)).bind fun t163 => ((pack_Number.f (IntKind.u64.wrap (t163)) 4).bind fun t164 => (if ((t155 ++ t156) ++ t157).size + t164.size ≤ 9223372036854775807 then (some (((t155 ++ t156) ++ t157) ++ t164, true)) else (none)))))) else (none))) else (none)) = some (r1, r2) := H
 have A5 := Aside0.mk A50
 clear A50
 by_cases c6 : t155.size + t156.size ≤ 9223372036854775807
 rotate_left
 ·rw [if_neg c6] at H
  exact absurd H (by simp)
 rw [if_pos c6] at H
 have c6b0 := eq_true c6
 have c6b1 : decide (t155.size + t156.size ≤ 9223372036854775807) = true := decide_eq_true c6
 try have c6b2 : (9223372036854775807 < t155.size + t156.size) = False := eq_false (Nat.not_lt.2 c6)
 replace H := Option.bind_eq_some_iff.mp H
 obtain ⟨t157, A70, H⟩ := H
 replace H : (if (t155 ++ t156).size + t157.size ≤ 9223372036854775807 then ((item_Bytes.f k a0_3 a0_4 a0_5 a0_6 a0_7 l0_8).bind fun bt158 => (if bt158.2 = true then ((pack_Text.f k bt158.1).bind fun t160 => (if ((t155 ++ t156) ++ t157).size + t160.size ≤ 9223372036854775807 then ((crc_Sum.f k (((t155 ++ t156) ++ t157) ++ t160)).bind fun t161 => ((pack_Number.f (IntKind.u64.wrap (t161)) 4).bind fun t162 => (if (((t155 ++ t156) ++ t157) ++ t160).size + t162.size ≤ 9223372036854775807 then (some ((((t155 ++ t156) ++ t157) ++ t160) ++ t162, true)) else (none)))) else (none))) else ((crc_Sum.f k ((t155 ++ t156) ++ t157)).bind fun t163 => ((pack_Number.f (IntKind.u64.wrap (t163)) 4).bind fun t164 => (if ((t155 ++ t156) ++ t157).size + t164.size ≤ 9223372036854775807 then (some (((t155 ++ t156) ++ t157) ++ t164, true)) else (none)))))) else (none)) = some (r1, r2) := H
 have A7 := Aside0.mk A70
 clear A70
 by_cases c8 : (t155 ++ t156).size + t157.size ≤ 9223372036854775807
 rotate_left
 ·rw [if_neg c8] at H
  exact absurd H (by simp)
 rw [if_pos c8] at H
 have c8b0 := eq_true c8
 (try (have c8b0s_ := c8b0; simp only [ByteArray.size_append, Int.natCast_add] at c8b0s_))
 have c8b1 : decide ((t155 ++ t156).size + t157.size ≤ 9223372036854775807) = true := decide_eq_true c8
 (try (have c8b1s_ := c8b1; simp only [ByteArray.size_append, Int.natCast_add] at c8b1s_))
 try have c8b2 : (9223372036854775807 < (t155 ++ t156).size + t157.size) = False := eq_false (Nat.not_lt.2 c8)
 (try (have c8b2s_ := c8b2; simp only [ByteArray.size_append, Int.natCast_add] at c8b2s_))
 replace H := Option.bind_eq_some_iff.mp H
 obtain ⟨⟨t158, t159⟩, A90, H⟩ := H
 replace H : (if t159 = true then ((pack_Text.f k t158).bind fun t160 => (if ((t155 ++ t156) ++ t157).size + t160.size ≤ 9223372036854775807 then ((crc_Sum.f k (((t155 ++ t156) ++ t157) ++ t160)).bind fun t161 => ((pack_Number.f (IntKind.u64.wrap (t161)) 4).bind fun t162 => (if (((t155 ++ t156) ++ t157) ++ t160).size + t162.size ≤ 9223372036854775807 then (some ((((t155 ++ t156) ++ t157) ++ t160) ++ t162, true)) else (none)))) else (none))) else ((crc_Sum.f k ((t155 ++ t156) ++ t157)).bind fun t163 => ((pack_Number.f (IntKind.u64.wrap (t163)) 4).bind fun t164 => (if ((t155 ++ t156) ++ t157).size + t164.size ≤ 9223372036854775807 then (some (((t155 ++ t156) ++ t157) ++ t164, true)) else (none))))) = some (r1, r2) := H
 have A9 := Aside0.mk A90
 clear A90
 by_cases c10 : t159 = true
 rotate_left
 ·replace c10 := Bool.eq_false_iff.mpr c10
  subst c10
  have H1 : ((crc_Sum.f k ((t155 ++ t156) ++ t157)).bind fun t163 => ((pack_Number.f (IntKind.u64.wrap (t163)) 4).bind fun t164 => (if ((t155 ++ t156) ++ t157).size + t164.size ≤ 9223372036854775807 then (some (((t155 ++ t156) ++ t157) ++ t164, true)) else (none)))) = some (r1, r2) := by rw [if_neg (show ¬ (false = true) by decide)] at H; exact H
  clear H
  have H := H1
  clear H1
  replace H := Option.bind_eq_some_iff.mp H
  obtain ⟨t163, A280, H⟩ := H
  replace H : ((pack_Number.f (IntKind.u64.wrap (t163)) 4).bind fun t164 => (if ((t155 ++ t156) ++ t157).size + t164.size ≤ 9223372036854775807 then (some (((t155 ++ t156) ++ t157) ++ t164, true)) else (none))) = some (r1, r2) := H
  have A28 := Aside0.mk A280
  clear A280
  replace H := Option.bind_eq_some_iff.mp H
  obtain ⟨t164, A290, H⟩ := H
  replace H : (if ((t155 ++ t156) ++ t157).size + t164.size ≤ 9223372036854775807 then (some (((t155 ++ t156) ++ t157) ++ t164, true)) else (none)) = some (r1, r2) := H
  have A29 := Aside0.mk A290
  clear A290
  by_cases c30 : ((t155 ++ t156) ++ t157).size + t164.size ≤ 9223372036854775807
  rotate_left
  ·rw [if_neg c30] at H
   exact absurd H (by simp)
  rw [if_pos c30] at H
  have c30b0 := eq_true c30
  (try (have c30b0s_ := c30b0; simp only [ByteArray.size_append, Int.natCast_add] at c30b0s_))
  have c30b1 : decide (((t155 ++ t156) ++ t157).size + t164.size ≤ 9223372036854775807) = true := decide_eq_true c30
  (try (have c30b1s_ := c30b1; simp only [ByteArray.size_append, Int.natCast_add] at c30b1s_))
  try have c30b2 : (9223372036854775807 < ((t155 ++ t156) ++ t157).size + t164.size) = False := eq_false (Nat.not_lt.2 c30)
  (try (have c30b2s_ := c30b2; simp only [ByteArray.size_append, Int.natCast_add] at c30b2s_))
  simp only [Option.some.injEq, Prod.mk.injEq] at H
  obtain ⟨rfl, rfl⟩ := H
  go_enter Try.func27, Try.ntmps27
  try go_wp2_with (first | ((with_reducible refine gate_dst (N := 1) rfl ?_); refine Ka_ 1 #[.int .i64 a0_0, .int .i64 a0_1, .int .u64 a0_2, .int .u64 a0_3, .int .u64 a0_4, .int .u64 a0_5, .int .u64 a0_6, .int .i64 a0_7, .slice A0_8 l0_8.length c0_8] 69 ?_; intro gb153 hg w31 hbox hb; have BK153 := Aside0.mk (hbox); have GW153 := Kw_ HB hg; have GE153 := GW153; replace HB := Ks_ HB hb; clear hb hbox hg; obtain ⟨hcz32_0, hcz32_1, hcz32_2, hcz32_3, hcz32_4, hcz32_5, hcz32_6, hcz32_7, hcz32_8, hfz32_0, hfz32_1, hfz32_2, hfz32_3, hfz32_4, hfz32_5, hfz32_6, hfz32_7, hfz32_8⟩ := Ke9_ BK153.out) | ((with_reducible refine gate_callee (f := 33) rfl ?_); refine Kg_ (some 8) rfl rfl Try.func33 (by kernel_rfl) rfl #[.agg #[.int .i64 a0_0, .int .i64 a0_1, .int .u64 a0_2, .int .u64 a0_3, .int .u64 a0_4, .int .u64 a0_5, .int .u64 a0_6, .int .i64 a0_7, .slice A0_8 l0_8.length c0_8]] rfl ?_; (with_reducible refine (stream_Right.calls k a0_0 a0_1 a0_2 a0_3 a0_4 a0_5 a0_6 a0_7 _ _ l0_8 true _ ?side1 ?side2 A2.out).mono ?_); (case side1 => repeat (first | exact (Kd.C_below HR0_8.out HB.out) | (with_reducible refine Kd.C_alloc ?_ _) | (with_reducible refine Kd.C_drewN ?_ _) | (with_reducible refine Kd.C_drew ?_))); (case side2 => exact HC0_8.out); rintro e w33 ⟨rfl, hb⟩; refine ⟨_, rfl, ?_⟩; replace BK153 := Kb_ BK153 hb; replace HB := Ks_ HB hb; (try clear hb); (try clear hb2); (try clear hk); (try clear hi)))
  replace BK153 := Kd_ BK153
  replace HB := Aside0.mk (below_drew1 HB.out)
  refine start_ (n := 14) (S := fun w' => w'.cell? ⟨gb153, 0, none⟩ = some (.int .i64 a0_0) ∧ w'.cell? ⟨gb153, 1, none⟩ = some (.int .i64 a0_1) ∧ w'.cell? ⟨gb153, 2, none⟩ = some (.int .u64 a0_2) ∧ w'.cell? ⟨gb153, 3, none⟩ = some (.int .u64 a0_3) ∧ w'.cell? ⟨gb153, 4, none⟩ = some (.int .u64 a0_4) ∧ w'.cell? ⟨gb153, 5, none⟩ = some (.int .u64 a0_5) ∧ w'.cell? ⟨gb153, 6, none⟩ = some (.int .u64 a0_6) ∧ w'.cell? ⟨gb153, 7, none⟩ = some (.int .i64 a0_7) ∧ w'.cell? ⟨gb153, 8, none⟩ = some (.slice A0_8 l0_8.length c0_8)) (ds := []) (mB_ 14 0) (by kernel_rfl) rfl rfl (Kc9_ BK153.out) (fun hHeld => ?_); refine with_tabW stream_Put.tab3 stream_Put.bits3 (fun HT_ HW_ => ?_)
  generalize w33.drew = w34 at BK153 HB hHeld ⊢
  refine Kp_ 0 10 (mB_ 14 1) (any_of HT_.out (by kernel_rfl)) ?_
  refine Kp_ 4 14 (mB_ 14 17) (any_of HT_.out (by kernel_rfl)) ?_
  refine Kp_ 9 19 (mB_ 14 529) (any_of HT_.out (by kernel_rfl)) ?_
  refine Ko_ 1 11 (mB_ 14 531) (take_ofW HT_.out HW_.out (by kernel_rfl)) hHeld ?_
  refine Kp_ 2 12 (mB_ 14 535) (any_of HT_.out (by kernel_rfl)) ?_
  refine Ko_ 5 15 (mB_ 14 567) (take_ofW HT_.out HW_.out (by kernel_rfl)) hHeld ?_
  refine Kp_ 6 16 (mB_ 14 631) (any_of HT_.out (by kernel_rfl)) ?_
  refine Ko_ 10 20 (mB_ 14 1655) (take_ofW HT_.out HW_.out (by kernel_rfl)) hHeld ?_
  refine one_ (i := 3) (N := some 13) (mB_ 14 1663) rfl rfl (one_of HT_.out (by kernel_rfl)) (by decide) (fun K hK => ?_)
  refine goes_ Try.func59 (by kernel_rfl) rfl #[.int .u64 (IntKind.u64.wrap (a0_0)), .int .i64 1] (by rfl) rfl rfl (by (try simp only [List.map_toArray, List.map_cons, List.map_nil]); first | done | rfl | (simp only [List.length_drop, List.length_take]; rfl)) ?_
  with_reducible refine (pack_Number.calls (IntKind.u64.wrap (a0_0)) 1 t155 _ A4.out).mono ?_
  rintro e w35 ⟨rfl, hb⟩
  refine ⟨_, rfl, ?_⟩
  replace BK153 := Kb_ BK153 hb
  replace HB := Ks_ HB hb
  (try clear hb)
  (try clear hb2)
  (try clear hk)
  (try clear hi)
  refine hK.out _ _ (Kc9_ BK153.out) (fun hHeld => ?_)
  clear hK K
  refine Kn_ 13 ?_
  refine one_ (i := 7) (N := some 17) (mB_ 14 1791) rfl rfl (one_of HT_.out (by kernel_rfl)) (by decide) (fun K hK => ?_)
  refine goes_ Try.func59 (by kernel_rfl) rfl #[.int .u64 (IntKind.u64.wrap (a0_1)), .int .i64 1] (by rfl) rfl rfl (by (try simp only [List.map_toArray, List.map_cons, List.map_nil]); first | done | rfl | (simp only [List.length_drop, List.length_take]; rfl)) ?_
  with_reducible refine (pack_Number.calls (IntKind.u64.wrap (a0_1)) 1 t156 _ A5.out).mono ?_
  rintro e w36 ⟨rfl, hb⟩
  refine ⟨_, rfl, ?_⟩
  replace BK153 := Kb_ BK153 hb
  replace HB := Ks_ HB hb
  (try clear hb)
  (try clear hb2)
  (try clear hk)
  (try clear hi)
  refine hK.out _ _ (Kc9_ BK153.out) (fun hHeld => ?_)
  clear hK K
  refine Kn_ 17 ?_
  refine Kp_ 8 18 (mB_ 14 2047) (any_of HT_.out (by kernel_rfl)) ?_
  refine one_ (i := 11) (N := some 21) (mB_ 14 4095) rfl rfl (one_of HT_.out (by kernel_rfl)) (by decide) (fun K hK => ?_)
  refine goes_ Try.func60 (by kernel_rfl) rfl #[.int .u64 a0_2] (by rfl) rfl rfl (by (try simp only [List.map_toArray, List.map_cons, List.map_nil]); first | done | rfl | (simp only [List.length_drop, List.length_take]; rfl)) ?_
  with_reducible refine (pack_Vary.calls k a0_2 t157 _ A7.out).mono ?_
  rintro e w37 ⟨rfl, hb⟩
  refine ⟨_, rfl, ?_⟩
  replace BK153 := Kb_ BK153 hb
  replace HB := Ks_ HB hb
  (try clear hb)
  (try clear hb2)
  (try clear hk)
  (try clear hi)
  refine hK.out _ _ (Kc9_ BK153.out) (fun hHeld => ?_)
  clear hK K
  refine Kn_ 21 ?_
  refine Kp_ 12 22 (mB_ 14 8191) (any_of HT_.out (by kernel_rfl)) ?_
  refine Kp_ 13 4 (mB_ 14 16383) (any_of HT_.out (by kernel_rfl)) ?_
  refine done_ (done_of HT_.out (by kernel_rfl)) ?_
  obtain ⟨hcz38_0, hcz38_1, hcz38_2, hcz38_3, hcz38_4, hcz38_5, hcz38_6, hcz38_7, hcz38_8, hfz38_0, hfz38_1, hfz38_2, hfz38_3, hfz38_4, hfz38_5, hfz38_6, hfz38_7, hfz38_8⟩ := Ke9_ BK153.out
  try go_wp2_with (first | ((with_reducible refine gate_callee (f := 61) rfl ?_); refine Kg_ (some 26) rfl rfl Try.func61 (by kernel_rfl) rfl #[.agg #[.int .u64 a0_3, .int .u64 a0_4, .int .u64 a0_5, .int .u64 a0_6, .int .i64 a0_7, .slice A0_8 l0_8.length c0_8]] rfl ?_; (with_reducible refine (item_Bytes.calls k a0_3 a0_4 a0_5 a0_6 a0_7 _ _ l0_8 t158 false _ ?side1 ?side2 A9.out).mono ?_); (case side1 => repeat (first | exact (Kd.C_below HR0_8.out HB.out) | (with_reducible refine Kd.C_alloc ?_ _) | (with_reducible refine Kd.C_drewN ?_ _) | (with_reducible refine Kd.C_drew ?_))); (case side2 => exact HC0_8.out); rintro e w39 ⟨rfl, hb⟩; refine ⟨_, rfl, ?_⟩; replace BK153 := Kb_ BK153 hb; replace HB := Ks_ HB hb; (try clear hb); (try clear hb2); (try clear hk); (try clear hi)) | ((with_reducible refine gate_callee (f := 63) rfl ?_); refine Kg_ (some 36) rfl rfl Try.func63 (by kernel_rfl) rfl #[.string ((t155 ++ t156) ++ t157)] rfl ?_; (with_reducible refine (crc_Sum.calls k ((t155 ++ t156) ++ t157) t163 _ A28.out).mono ?_); rintro e w40 ⟨rfl, hb⟩; refine ⟨_, rfl, ?_⟩; replace BK153 := Kb_ BK153 hb; replace HB := Ks_ HB hb; (try clear hb); (try clear hb2); (try clear hk); (try clear hi)) | ((with_reducible refine gate_callee (f := 59) rfl ?_); refine Kg_ (some 38) rfl rfl Try.func59 (by kernel_rfl) rfl #[.int .u64 (IntKind.u64.wrap (t163)), .int .i64 4] rfl ?_; (with_reducible refine (pack_Number.calls (IntKind.u64.wrap (t163)) 4 t164 _ A29.out).mono ?_); rintro e w41 ⟨rfl, hb⟩; refine ⟨_, rfl, ?_⟩; replace BK153 := Kb_ BK153 hb; replace HB := Ks_ HB hb; (try clear hb); (try clear hb2); (try clear hk); (try clear hi)))
  go_ret2
  exact ⟨Kh_, Kz_ HB GE153⟩
 subst c10
 have H1 : ((pack_Text.f k t158).bind fun t160 => (if ((t155 ++ t156) ++ t157).size + t160.size ≤ 9223372036854775807 then ((crc_Sum.f k (((t155 ++ t156) ++ t157) ++ t160)).bind fun t161 => ((pack_Number.f (IntKind.u64.wrap (t161)) 4).bind fun t162 => (if (((t155 ++ t156) ++ t157) ++ t160).size + t162.size ≤ 9223372036854775807 then (some ((((t155 ++ t156) ++ t157) ++ t160) ++ t162, true)) else (none)))) else (none))) = some (r1, r2) := by rw [if_pos rfl] at H; exact H
 clear H
 have H := H1
 clear H1
 replace H := Option.bind_eq_some_iff.mp H
 obtain ⟨t160, A110, H⟩ := H
 replace H : (if ((t155 ++ t156) ++ t157).size + t160.size ≤ 9223372036854775807 then ((crc_Sum.f k (((t155 ++ t156) ++ t157) ++ t160)).bind fun t161 => ((pack_Number.f (IntKind.u64.wrap (t161)) 4).bind fun t162 => (if (((t155 ++ t156) ++ t157) ++ t160).size + t162.size ≤ 9223372036854775807 then (some ((((t155 ++ t156) ++ t157) ++ t160) ++ t162, true)) else (none)))) else (none)) = some (r1, r2) := H
 have A11 := Aside0.mk A110
 clear A110
 by_cases c12 : ((t155 ++ t156) ++ t157).size + t160.size ≤ 9223372036854775807
 rotate_left
 ·rw [if_neg c12] at H
  exact absurd H (by simp)
 rw [if_pos c12] at H
 have c12b0 := eq_true c12
 (try (have c12b0s_ := c12b0; simp only [ByteArray.size_append, Int.natCast_add] at c12b0s_))
 have c12b1 : decide (((t155 ++ t156) ++ t157).size + t160.size ≤ 9223372036854775807) = true := decide_eq_true c12
 (try (have c12b1s_ := c12b1; simp only [ByteArray.size_append, Int.natCast_add] at c12b1s_))
 try have c12b2 : (9223372036854775807 < ((t155 ++ t156) ++ t157).size + t160.size) = False := eq_false (Nat.not_lt.2 c12)
 (try (have c12b2s_ := c12b2; simp only [ByteArray.size_append, Int.natCast_add] at c12b2s_))
 replace H := Option.bind_eq_some_iff.mp H
 obtain ⟨t161, A130, H⟩ := H
 replace H : ((pack_Number.f (IntKind.u64.wrap (t161)) 4).bind fun t162 => (if (((t155 ++ t156) ++ t157) ++ t160).size + t162.size ≤ 9223372036854775807 then (some ((((t155 ++ t156) ++ t157) ++ t160) ++ t162, true)) else (none))) = some (r1, r2) := H
 have A13 := Aside0.mk A130
 clear A130
 replace H := Option.bind_eq_some_iff.mp H
 obtain ⟨t162, A140, H⟩ := H
 replace H : (if (((t155 ++ t156) ++ t157) ++ t160).size + t162.size ≤ 9223372036854775807 then (some ((((t155 ++ t156) ++ t157) ++ t160) ++ t162, true)) else (none)) = some (r1, r2) := H
 have A14 := Aside0.mk A140
 clear A140
 by_cases c15 : (((t155 ++ t156) ++ t157) ++ t160).size + t162.size ≤ 9223372036854775807
 rotate_left
 ·rw [if_neg c15] at H
  exact absurd H (by simp)
 rw [if_pos c15] at H
 have c15b0 := eq_true c15
 (try (have c15b0s_ := c15b0; simp only [ByteArray.size_append, Int.natCast_add] at c15b0s_))
 have c15b1 : decide ((((t155 ++ t156) ++ t157) ++ t160).size + t162.size ≤ 9223372036854775807) = true := decide_eq_true c15
 (try (have c15b1s_ := c15b1; simp only [ByteArray.size_append, Int.natCast_add] at c15b1s_))
 try have c15b2 : (9223372036854775807 < (((t155 ++ t156) ++ t157) ++ t160).size + t162.size) = False := eq_false (Nat.not_lt.2 c15)
 (try (have c15b2s_ := c15b2; simp only [ByteArray.size_append, Int.natCast_add] at c15b2s_))
 simp only [Option.some.injEq, Prod.mk.injEq] at H
 obtain ⟨rfl, rfl⟩ := H
 go_enter Try.func27, Try.ntmps27
 try go_wp2_with (first | ((with_reducible refine gate_dst (N := 1) rfl ?_); refine Ka_ 1 #[.int .i64 a0_0, .int .i64 a0_1, .int .u64 a0_2, .int .u64 a0_3, .int .u64 a0_4, .int .u64 a0_5, .int .u64 a0_6, .int .i64 a0_7, .slice A0_8 l0_8.length c0_8] 69 ?_; intro gb153 hg w16 hbox hb; have BK153 := Aside0.mk (hbox); have GW153 := Kw_ HB hg; have GE153 := GW153; replace HB := Ks_ HB hb; clear hb hbox hg; obtain ⟨hcz17_0, hcz17_1, hcz17_2, hcz17_3, hcz17_4, hcz17_5, hcz17_6, hcz17_7, hcz17_8, hfz17_0, hfz17_1, hfz17_2, hfz17_3, hfz17_4, hfz17_5, hfz17_6, hfz17_7, hfz17_8⟩ := Ke9_ BK153.out) | ((with_reducible refine gate_callee (f := 33) rfl ?_); refine Kg_ (some 8) rfl rfl Try.func33 (by kernel_rfl) rfl #[.agg #[.int .i64 a0_0, .int .i64 a0_1, .int .u64 a0_2, .int .u64 a0_3, .int .u64 a0_4, .int .u64 a0_5, .int .u64 a0_6, .int .i64 a0_7, .slice A0_8 l0_8.length c0_8]] rfl ?_; (with_reducible refine (stream_Right.calls k a0_0 a0_1 a0_2 a0_3 a0_4 a0_5 a0_6 a0_7 _ _ l0_8 true _ ?side1 ?side2 A2.out).mono ?_); (case side1 => repeat (first | exact (Kd.C_below HR0_8.out HB.out) | (with_reducible refine Kd.C_alloc ?_ _) | (with_reducible refine Kd.C_drewN ?_ _) | (with_reducible refine Kd.C_drew ?_))); (case side2 => exact HC0_8.out); rintro e w18 ⟨rfl, hb⟩; refine ⟨_, rfl, ?_⟩; replace BK153 := Kb_ BK153 hb; replace HB := Ks_ HB hb; (try clear hb); (try clear hb2); (try clear hk); (try clear hi)))
 replace BK153 := Kd_ BK153
 replace HB := Aside0.mk (below_drew1 HB.out)
 refine start_ (n := 14) (S := fun w' => w'.cell? ⟨gb153, 0, none⟩ = some (.int .i64 a0_0) ∧ w'.cell? ⟨gb153, 1, none⟩ = some (.int .i64 a0_1) ∧ w'.cell? ⟨gb153, 2, none⟩ = some (.int .u64 a0_2) ∧ w'.cell? ⟨gb153, 3, none⟩ = some (.int .u64 a0_3) ∧ w'.cell? ⟨gb153, 4, none⟩ = some (.int .u64 a0_4) ∧ w'.cell? ⟨gb153, 5, none⟩ = some (.int .u64 a0_5) ∧ w'.cell? ⟨gb153, 6, none⟩ = some (.int .u64 a0_6) ∧ w'.cell? ⟨gb153, 7, none⟩ = some (.int .i64 a0_7) ∧ w'.cell? ⟨gb153, 8, none⟩ = some (.slice A0_8 l0_8.length c0_8)) (ds := []) (mB_ 14 0) (by kernel_rfl) rfl rfl (Kc9_ BK153.out) (fun hHeld => ?_); refine with_tabW stream_Put.tab3 stream_Put.bits3 (fun HT_ HW_ => ?_)
 generalize w18.drew = w19 at BK153 HB hHeld ⊢
 refine Kp_ 0 10 (mB_ 14 1) (any_of HT_.out (by kernel_rfl)) ?_
 refine Kp_ 4 14 (mB_ 14 17) (any_of HT_.out (by kernel_rfl)) ?_
 refine Kp_ 9 19 (mB_ 14 529) (any_of HT_.out (by kernel_rfl)) ?_
 refine Ko_ 1 11 (mB_ 14 531) (take_ofW HT_.out HW_.out (by kernel_rfl)) hHeld ?_
 refine Kp_ 2 12 (mB_ 14 535) (any_of HT_.out (by kernel_rfl)) ?_
 refine Ko_ 5 15 (mB_ 14 567) (take_ofW HT_.out HW_.out (by kernel_rfl)) hHeld ?_
 refine Kp_ 6 16 (mB_ 14 631) (any_of HT_.out (by kernel_rfl)) ?_
 refine Ko_ 10 20 (mB_ 14 1655) (take_ofW HT_.out HW_.out (by kernel_rfl)) hHeld ?_
 refine one_ (i := 3) (N := some 13) (mB_ 14 1663) rfl rfl (one_of HT_.out (by kernel_rfl)) (by decide) (fun K hK => ?_)
 refine goes_ Try.func59 (by kernel_rfl) rfl #[.int .u64 (IntKind.u64.wrap (a0_0)), .int .i64 1] (by rfl) rfl rfl (by (try simp only [List.map_toArray, List.map_cons, List.map_nil]); first | done | rfl | (simp only [List.length_drop, List.length_take]; rfl)) ?_
 with_reducible refine (pack_Number.calls (IntKind.u64.wrap (a0_0)) 1 t155 _ A4.out).mono ?_
 rintro e w20 ⟨rfl, hb⟩
 refine ⟨_, rfl, ?_⟩
 replace BK153 := Kb_ BK153 hb
 replace HB := Ks_ HB hb
 (try clear hb)
 (try clear hb2)
 (try clear hk)
 (try clear hi)
 refine hK.out _ _ (Kc9_ BK153.out) (fun hHeld => ?_)
 clear hK K
 refine Kn_ 13 ?_
 refine one_ (i := 7) (N := some 17) (mB_ 14 1791) rfl rfl (one_of HT_.out (by kernel_rfl)) (by decide) (fun K hK => ?_)
 refine goes_ Try.func59 (by kernel_rfl) rfl #[.int .u64 (IntKind.u64.wrap (a0_1)), .int .i64 1] (by rfl) rfl rfl (by (try simp only [List.map_toArray, List.map_cons, List.map_nil]); first | done | rfl | (simp only [List.length_drop, List.length_take]; rfl)) ?_
 with_reducible refine (pack_Number.calls (IntKind.u64.wrap (a0_1)) 1 t156 _ A5.out).mono ?_
 rintro e w21 ⟨rfl, hb⟩
 refine ⟨_, rfl, ?_⟩
 replace BK153 := Kb_ BK153 hb
 replace HB := Ks_ HB hb
 (try clear hb)
 (try clear hb2)
 (try clear hk)
 (try clear hi)
 refine hK.out _ _ (Kc9_ BK153.out) (fun hHeld => ?_)
 clear hK K
 refine Kn_ 17 ?_
 refine Kp_ 8 18 (mB_ 14 2047) (any_of HT_.out (by kernel_rfl)) ?_
 refine one_ (i := 11) (N := some 21) (mB_ 14 4095) rfl rfl (one_of HT_.out (by kernel_rfl)) (by decide) (fun K hK => ?_)
 refine goes_ Try.func60 (by kernel_rfl) rfl #[.int .u64 a0_2] (by rfl) rfl rfl (by (try simp only [List.map_toArray, List.map_cons, List.map_nil]); first | done | rfl | (simp only [List.length_drop, List.length_take]; rfl)) ?_
 with_reducible refine (pack_Vary.calls k a0_2 t157 _ A7.out).mono ?_
 rintro e w22 ⟨rfl, hb⟩
 refine ⟨_, rfl, ?_⟩
 replace BK153 := Kb_ BK153 hb
 replace HB := Ks_ HB hb
 (try clear hb)
 (try clear hb2)
 (try clear hk)
 (try clear hi)
 refine hK.out _ _ (Kc9_ BK153.out) (fun hHeld => ?_)
 clear hK K
 refine Kn_ 21 ?_
 refine Kp_ 12 22 (mB_ 14 8191) (any_of HT_.out (by kernel_rfl)) ?_
 refine Kp_ 13 4 (mB_ 14 16383) (any_of HT_.out (by kernel_rfl)) ?_
 refine done_ (done_of HT_.out (by kernel_rfl)) ?_
 obtain ⟨hcz23_0, hcz23_1, hcz23_2, hcz23_3, hcz23_4, hcz23_5, hcz23_6, hcz23_7, hcz23_8, hfz23_0, hfz23_1, hfz23_2, hfz23_3, hfz23_4, hfz23_5, hfz23_6, hfz23_7, hfz23_8⟩ := Ke9_ BK153.out
 try go_wp2_with (first | ((with_reducible refine gate_callee (f := 61) rfl ?_); refine Kg_ (some 26) rfl rfl Try.func61 (by kernel_rfl) rfl #[.agg #[.int .u64 a0_3, .int .u64 a0_4, .int .u64 a0_5, .int .u64 a0_6, .int .i64 a0_7, .slice A0_8 l0_8.length c0_8]] rfl ?_; (with_reducible refine (item_Bytes.calls k a0_3 a0_4 a0_5 a0_6 a0_7 _ _ l0_8 t158 true _ ?side1 ?side2 A9.out).mono ?_); (case side1 => repeat (first | exact (Kd.C_below HR0_8.out HB.out) | (with_reducible refine Kd.C_alloc ?_ _) | (with_reducible refine Kd.C_drewN ?_ _) | (with_reducible refine Kd.C_drew ?_))); (case side2 => exact HC0_8.out); rintro e w24 ⟨rfl, hb⟩; refine ⟨_, rfl, ?_⟩; replace BK153 := Kb_ BK153 hb; replace HB := Ks_ HB hb; (try clear hb); (try clear hb2); (try clear hk); (try clear hi)) | ((with_reducible refine gate_callee (f := 62) rfl ?_); refine Kg_ (some 32) rfl rfl Try.func62 (by kernel_rfl) rfl #[.string t158] rfl ?_; (with_reducible refine (pack_Text.calls k t158 t160 _ A11.out).mono ?_); rintro e w25 ⟨rfl, hb⟩; refine ⟨_, rfl, ?_⟩; replace BK153 := Kb_ BK153 hb; replace HB := Ks_ HB hb; (try clear hb); (try clear hb2); (try clear hk); (try clear hi)) | ((with_reducible refine gate_callee (f := 63) rfl ?_); refine Kg_ (some 36) rfl rfl Try.func63 (by kernel_rfl) rfl #[.string (((t155 ++ t156) ++ t157) ++ t160)] rfl ?_; (with_reducible refine (crc_Sum.calls k (((t155 ++ t156) ++ t157) ++ t160) t161 _ A13.out).mono ?_); rintro e w26 ⟨rfl, hb⟩; refine ⟨_, rfl, ?_⟩; replace BK153 := Kb_ BK153 hb; replace HB := Ks_ HB hb; (try clear hb); (try clear hb2); (try clear hk); (try clear hi)) | ((with_reducible refine gate_callee (f := 59) rfl ?_); refine Kg_ (some 38) rfl rfl Try.func59 (by kernel_rfl) rfl #[.int .u64 (IntKind.u64.wrap (t161)), .int .i64 4] rfl ?_; (with_reducible refine (pack_Number.calls (IntKind.u64.wrap (t161)) 4 t162 _ A14.out).mono ?_); rintro e w27 ⟨rfl, hb⟩; refine ⟨_, rfl, ?_⟩; replace BK153 := Kb_ BK153 hb; replace HB := Ks_ HB hb; (try clear hb); (try clear hb2); (try clear hk); (try clear hi)))
 go_ret2
 exact ⟨Kh_, Kz_ HB GE153⟩
def vec_With.f (a0_0 a0_1 a0_2 a0_3 n x : Int) : Option (Int × Int × Int × Int) := some (if n = 1 then x else a0_0, if n = 2 then x else a0_1, if n = 3 then x else a0_2, if n = 4 then x else a0_3)
set_option maxHeartbeats 8000000 in
set_option maxRecDepth 100000 in
theorem vec_With.calls (a0_0 a0_1 a0_2 a0_3 n x : Int) (r0 r1 r2 r3 : Int) (w : World) (h : vec_With.f a0_0 a0_1 a0_2 a0_3 n x = some (r0, r1, r2, r3)) :
  Calls Try.prog 46 #[.agg #[.int .u64 a0_0, .int .u64 a0_1, .int .u64 a0_2, .int .u64 a0_3], .int .i64 n, .int .u64 x] w fun e w' => e = .returned (.agg #[.int .u64 r0, .int .u64 r1, .int .u64 r2, .int .u64 r3]) ∧ Below w.heap.size w w' := by
 unfold vec_With.f at h
 have h := Option.some.inj h
 simp only [Prod.mk.injEq] at h
 obtain ⟨rfl, rfl, rfl, rfl⟩ := h
 have hu := Try.underlying28
 have hu2 := Try.underlying26
 by_cases c0 : n = 1
 ·subst c0
  go_enter Try.func46, Try.ntmps46
  go_wp2
  refine bodyPost_ret (v := .agg #[.int .u64 x, .int .u64 a0_1, .int .u64 a0_2, .int .u64 a0_3]) (by simp [results, Try.results46, go_sem, hu, hu2]) rfl ⟨rfl, by first | exact below_alloc (Below.refl _ _) _ | (repeat (first | exact Below.refl _ _ | apply below_alloc | apply pw_below_drewN | apply below_drew1 | (refine below_set ?_ (by simp)) | (refine below_set ?_ (by simp; omega))))⟩
 by_cases c1 : n = 2
 ·subst c1
  go_enter Try.func46, Try.ntmps46
  go_wp2
  refine bodyPost_ret (v := .agg #[.int .u64 a0_0, .int .u64 x, .int .u64 a0_2, .int .u64 a0_3]) (by simp [results, Try.results46, go_sem, hu, hu2]) rfl ⟨rfl, by first | exact below_alloc (Below.refl _ _) _ | (repeat (first | exact Below.refl _ _ | apply below_alloc | apply pw_below_drewN | apply below_drew1 | (refine below_set ?_ (by simp)) | (refine below_set ?_ (by simp; omega))))⟩
 by_cases c2 : n = 3
 ·subst c2
  go_enter Try.func46, Try.ntmps46
  go_wp2
  refine bodyPost_ret (v := .agg #[.int .u64 a0_0, .int .u64 a0_1, .int .u64 x, .int .u64 a0_3]) (by simp [results, Try.results46, go_sem, hu, hu2]) rfl ⟨rfl, by first | exact below_alloc (Below.refl _ _) _ | (repeat (first | exact Below.refl _ _ | apply below_alloc | apply pw_below_drewN | apply below_drew1 | (refine below_set ?_ (by simp)) | (refine below_set ?_ (by simp; omega))))⟩
 by_cases c3 : n = 4
 ·subst c3
  go_enter Try.func46, Try.ntmps46
  go_wp2
  refine bodyPost_ret (v := .agg #[.int .u64 a0_0, .int .u64 a0_1, .int .u64 a0_2, .int .u64 x]) (by simp [results, Try.results46, go_sem, hu, hu2]) rfl ⟨rfl, by first | exact below_alloc (Below.refl _ _) _ | (repeat (first | exact Below.refl _ _ | apply below_alloc | apply pw_below_drewN | apply below_drew1 | (refine below_set ?_ (by simp)) | (refine below_set ?_ (by simp; omega))))⟩
 rw [if_neg c0, if_neg c1, if_neg c2, if_neg c3]
 have b1 : (decide (1 ≤ n) = false ∧ decide (n < 1) = true) ∨ (decide (1 ≤ n) = true ∧ decide (n < 1) = false ∧ decide (n ≤ 4) = false ∧ decide (4 < n) = true) := by
  by_cases h : 1 ≤ n
  ·exact Or.inr ⟨decide_eq_true h, decide_eq_false (by omega), decide_eq_false (by omega), decide_eq_true (by omega)⟩
  ·exact Or.inl ⟨decide_eq_false h, decide_eq_true (by omega)⟩
 clear c0 c1 c2 c3
 rcases b1 with ⟨b1, b2⟩ | ⟨b1, b2, b3, b4⟩
 ·go_enter Try.func46, Try.ntmps46
  go_wp2
  refine bodyPost_ret (v := .agg #[.int .u64 a0_0, .int .u64 a0_1, .int .u64 a0_2, .int .u64 a0_3]) (by simp [results, Try.results46, go_sem, hu, hu2]) rfl ⟨rfl, by first | exact below_alloc (Below.refl _ _) _ | (repeat (first | exact Below.refl _ _ | apply below_alloc | apply pw_below_drewN | apply below_drew1 | (refine below_set ?_ (by simp)) | (refine below_set ?_ (by simp; omega))))⟩
 ·go_enter Try.func46, Try.ntmps46
  go_wp2
  refine bodyPost_ret (v := .agg #[.int .u64 a0_0, .int .u64 a0_1, .int .u64 a0_2, .int .u64 a0_3]) (by simp [results, Try.results46, go_sem, hu, hu2]) rfl ⟨rfl, by first | exact below_alloc (Below.refl _ _) _ | (repeat (first | exact Below.refl _ _ | apply below_alloc | apply pw_below_drewN | apply below_drew1 | (refine below_set ?_ (by simp)) | (refine below_set ?_ (by simp; omega))))⟩
def stream_Ready.f (a0_0 : Int) (a0_1 : Int) (a0_2 : Int) (a0_3 : Int) (a1_0 : Int) (a1_1 : Int) (a1_2 : Int) (a1_3 : Int) (a1_4 : Int) : Option (Int) := (vec_At.f a0_0 a0_1 a0_2 a0_3 a1_4).bind fun t167 => ((stamp_Right.f a1_0 a1_1 a1_2 a1_3 a1_4).bind fun t168 => (if t168 = true then ((stamp_Stamp_N.f a1_0 a1_1 a1_2 a1_3 a1_4).bind fun t169 => (if t169 ≤ t167 then (some (-1)) else ((vec_With.f a0_0 a0_1 a0_2 a0_3 a1_4 (IntKind.u64.wrap (t167 + 1))).bind fun bt170 => ((vec_Leq.f a1_0 a1_1 a1_2 a1_3 bt170.1 bt170.2.1 bt170.2.2.1 bt170.2.2.2).bind fun t174 => (if t174 = true then (some 1) else (some 0)))))) else (some 0)))
def stream_Ready.T6 : Bool × List (List Nat × List Nat) := (true, [([], []), ([0], [0]), ([], []), ([], []), ([3], [3]), ([], []), ([5], [5]), ([2, 4, 6], [2, 4, 6]), ([1, 7, 7], [1, 7]), ([8, 8], [8])])
def stream_Ready.B6 : List Nat := [0, 1, 0, 0, 8, 0, 32, 124, 255, 511]
theorem stream_Ready.tab6 : rtab .any (opsOf Try.f30 6) = stream_Ready.T6 := by kernel_rfl
theorem stream_Ready.bits6 : waitsOk stream_Ready.T6.2 stream_Ready.B6 = true := by kernel_rfl
set_option maxHeartbeats 8000000 in
set_option maxRecDepth 100000 in
theorem stream_Ready.calls (a0_0 : Int) (a0_1 : Int) (a0_2 : Int) (a0_3 : Int) (a1_0 : Int) (a1_1 : Int) (a1_2 : Int) (a1_3 : Int) (a1_4 : Int) (r : Int) (w : World) (h : stream_Ready.f a0_0 a0_1 a0_2 a0_3 a1_0 a1_1 a1_2 a1_3 a1_4 = some r) :
  Calls Try.prog 30 #[.agg #[.int .u64 a0_0, .int .u64 a0_1, .int .u64 a0_2, .int .u64 a0_3], .agg #[.int .u64 a1_0, .int .u64 a1_1, .int .u64 a1_2, .int .u64 a1_3, .int .i64 a1_4]] w fun e w' => e = .returned (.int .i64 r) ∧ Below w.heap.size w w' := by
 have hu28 := Try.underlying28
 have hu30 := Try.underlying30
 have HB := Aside0.mk (Below.refl w.heap.size w)
 have H : ((vec_At.f a0_0 a0_1 a0_2 a0_3 a1_4).bind fun t167 => ((stamp_Right.f a1_0 a1_1 a1_2 a1_3 a1_4).bind fun t168 => (if t168 = true then ((stamp_Stamp_N.f a1_0 a1_1 a1_2 a1_3 a1_4).bind fun t169 => (if t169 ≤ t167 then (some (-1)) else ((vec_With.f a0_0 a0_1 a0_2 a0_3 a1_4 (IntKind.u64.wrap (t167 + 1))).bind fun bt170 => ((vec_Leq.f a1_0 a1_1 a1_2 a1_3 bt170.1 bt170.2.1 bt170.2.2.1 bt170.2.2.2).bind fun t174 => (if t174 = true then (some 1) else (some 0)))))) else (some 0)))) = some r := h
 clear h
 replace H := Option.bind_eq_some_iff.mp H
 obtain ⟨t167, A30, H⟩ := H
 replace H : ((stamp_Right.f a1_0 a1_1 a1_2 a1_3 a1_4).bind fun t168 => (if t168 = true then ((stamp_Stamp_N.f a1_0 a1_1 a1_2 a1_3 a1_4).bind fun t169 => (if t169 ≤ t167 then (some (-1)) else ((vec_With.f a0_0 a0_1 a0_2 a0_3 a1_4 (IntKind.u64.wrap (t167 + 1))).bind fun bt170 => ((vec_Leq.f a1_0 a1_1 a1_2 a1_3 bt170.1 bt170.2.1 bt170.2.2.1 bt170.2.2.2).bind fun t174 => (if t174 = true then (some 1) else (some 0)))))) else (some 0))) = some r := H
 have A3 := Aside0.mk A30
 clear A30
 replace H := Option.bind_eq_some_iff.mp H
 obtain ⟨t168, A40, H⟩ := H
 replace H : (if t168 = true then ((stamp_Stamp_N.f a1_0 a1_1 a1_2 a1_3 a1_4).bind fun t169 => (if t169 ≤ t167 then (some (-1)) else ((vec_With.f a0_0 a0_1 a0_2 a0_3 a1_4 (IntKind.u64.wrap (t167 + 1))).bind fun bt170 => ((vec_Leq.f a1_0 a1_1 a1_2 a1_3 bt170.1 bt170.2.1 bt170.2.2.1 bt170.2.2.2).bind fun t174 => (if t174 = true then (some 1) else (some 0)))))) else (some 0)) = some r := H
 have A4 := Aside0.mk A40
 clear A40
 by_cases c5 : t168 = true
 rotate_left
 ·replace c5 := Bool.eq_false_iff.mpr c5
  subst c5
  have H1 : (some 0) = some r := by rw [if_neg (show ¬ (false = true) by decide)] at H; exact H
  clear H
  have H := H1
  clear H1
  obtain rfl := Option.some.inj H
  go_enter Try.func30, Try.ntmps30
  go_wp2_with (first | ((with_reducible refine gate_dst (N := 2) rfl ?_); refine Ka_ 2 #[.int .u64 a0_0, .int .u64 a0_1, .int .u64 a0_2, .int .u64 a0_3] 28 ?_; intro gb165 hg w47 hbox hb; have BK165 := Aside0.mk (hbox); have GW165 := Kw_ HB hg; have GE165 := GW165; replace HB := Ks_ HB hb; clear hb hbox hg) | ((with_reducible refine gate_dst (N := 3) rfl ?_); refine Ka_ 3 #[.int .u64 a1_0, .int .u64 a1_1, .int .u64 a1_2, .int .u64 a1_3, .int .i64 a1_4] 30 ?_; intro gb166 hg w48 hbox hb; have BK166 := Aside0.mk (hbox); have GW166 := Kw_ HB hg; have GE166 := GW166; have NB165_166 := Kl_ BK165 hg; have NB166_165 := Kr_ BK165 hg; replace BK165 := Kb_ BK165 hb; replace HB := Ks_ HB hb; clear hb hbox hg; have hnb49 := NB165_166.out; have hnc49 := NB166_165.out; obtain ⟨hcz50_0, hcz50_1, hcz50_2, hcz50_3, hfz50_0, hfz50_1, hfz50_2, hfz50_3⟩ := Ke4_ BK165.out; obtain ⟨hcz51_0, hcz51_1, hcz51_2, hcz51_3, hcz51_4, hfz51_0, hfz51_1, hfz51_2, hfz51_3, hfz51_4⟩ := Ke5_ BK166.out) | ((with_reducible refine gate_callee (f := 48) rfl ?_); refine Kg_ (some 9) rfl rfl Try.func48 (by kernel_rfl) rfl #[.agg #[.int .u64 a0_0, .int .u64 a0_1, .int .u64 a0_2, .int .u64 a0_3], .int .i64 a1_4] rfl ?_; (with_reducible refine (vec_At.calls a0_0 a0_1 a0_2 a0_3 a1_4 t167 _ A3.out).mono ?_); rintro e w52 ⟨rfl, hb⟩; refine ⟨_, rfl, ?_⟩; replace BK165 := Kb_ BK165 hb; replace BK166 := Kb_ BK166 hb; replace HB := Ks_ HB hb; (try clear hb); (try clear hb2); (try clear hk); (try clear hi); obtain ⟨hcz53_0, hcz53_1, hcz53_2, hcz53_3, hcz53_4, hfz53_0, hfz53_1, hfz53_2, hfz53_3, hfz53_4⟩ := Ke5_ BK166.out) | ((with_reducible refine gate_callee (f := 69) rfl ?_); refine Kg_ (some 12) rfl rfl Try.func69 (by kernel_rfl) rfl #[.agg #[.int .u64 a1_0, .int .u64 a1_1, .int .u64 a1_2, .int .u64 a1_3, .int .i64 a1_4]] rfl ?_; (with_reducible refine (stamp_Right.calls a1_0 a1_1 a1_2 a1_3 a1_4 false _ A4.out).mono ?_); rintro e w54 ⟨rfl, hb⟩; refine ⟨_, rfl, ?_⟩; replace BK165 := Kb_ BK165 hb; replace BK166 := Kb_ BK166 hb; replace HB := Ks_ HB hb; (try clear hb); (try clear hb2); (try clear hk); (try clear hi)))
  go_ret
  exact ⟨Kh_, K2a_ HB GE165 GE166⟩
 subst c5
 have H1 : ((stamp_Stamp_N.f a1_0 a1_1 a1_2 a1_3 a1_4).bind fun t169 => (if t169 ≤ t167 then (some (-1)) else ((vec_With.f a0_0 a0_1 a0_2 a0_3 a1_4 (IntKind.u64.wrap (t167 + 1))).bind fun bt170 => ((vec_Leq.f a1_0 a1_1 a1_2 a1_3 bt170.1 bt170.2.1 bt170.2.2.1 bt170.2.2.2).bind fun t174 => (if t174 = true then (some 1) else (some 0)))))) = some r := by rw [if_pos rfl] at H; exact H
 clear H
 have H := H1
 clear H1
 replace H := Option.bind_eq_some_iff.mp H
 obtain ⟨t169, A60, H⟩ := H
 replace H : (if t169 ≤ t167 then (some (-1)) else ((vec_With.f a0_0 a0_1 a0_2 a0_3 a1_4 (IntKind.u64.wrap (t167 + 1))).bind fun bt170 => ((vec_Leq.f a1_0 a1_1 a1_2 a1_3 bt170.1 bt170.2.1 bt170.2.2.1 bt170.2.2.2).bind fun t174 => (if t174 = true then (some 1) else (some 0))))) = some r := H
 have A6 := Aside0.mk A60
 clear A60
 by_cases c7 : t169 ≤ t167
 ·rw [if_pos c7] at H
  have c7b0 : decide (t169 ≤ t167) = true := decide_eq_true c7
  clear c7
  obtain rfl := Option.some.inj H
  go_enter Try.func30, Try.ntmps30
  go_wp2_with (first | ((with_reducible refine gate_dst (N := 2) rfl ?_); refine Ka_ 2 #[.int .u64 a0_0, .int .u64 a0_1, .int .u64 a0_2, .int .u64 a0_3] 28 ?_; intro gb165 hg w8 hbox hb; have BK165 := Aside0.mk (hbox); have GW165 := Kw_ HB hg; have GE165 := GW165; replace HB := Ks_ HB hb; clear hb hbox hg) | ((with_reducible refine gate_dst (N := 3) rfl ?_); refine Ka_ 3 #[.int .u64 a1_0, .int .u64 a1_1, .int .u64 a1_2, .int .u64 a1_3, .int .i64 a1_4] 30 ?_; intro gb166 hg w9 hbox hb; have BK166 := Aside0.mk (hbox); have GW166 := Kw_ HB hg; have GE166 := GW166; have NB165_166 := Kl_ BK165 hg; have NB166_165 := Kr_ BK165 hg; replace BK165 := Kb_ BK165 hb; replace HB := Ks_ HB hb; clear hb hbox hg; have hnb10 := NB165_166.out; have hnc10 := NB166_165.out; obtain ⟨hcz11_0, hcz11_1, hcz11_2, hcz11_3, hfz11_0, hfz11_1, hfz11_2, hfz11_3⟩ := Ke4_ BK165.out; obtain ⟨hcz12_0, hcz12_1, hcz12_2, hcz12_3, hcz12_4, hfz12_0, hfz12_1, hfz12_2, hfz12_3, hfz12_4⟩ := Ke5_ BK166.out) | ((with_reducible refine gate_callee (f := 48) rfl ?_); refine Kg_ (some 9) rfl rfl Try.func48 (by kernel_rfl) rfl #[.agg #[.int .u64 a0_0, .int .u64 a0_1, .int .u64 a0_2, .int .u64 a0_3], .int .i64 a1_4] rfl ?_; (with_reducible refine (vec_At.calls a0_0 a0_1 a0_2 a0_3 a1_4 t167 _ A3.out).mono ?_); rintro e w13 ⟨rfl, hb⟩; refine ⟨_, rfl, ?_⟩; replace BK165 := Kb_ BK165 hb; replace BK166 := Kb_ BK166 hb; replace HB := Ks_ HB hb; (try clear hb); (try clear hb2); (try clear hk); (try clear hi); obtain ⟨hcz14_0, hcz14_1, hcz14_2, hcz14_3, hcz14_4, hfz14_0, hfz14_1, hfz14_2, hfz14_3, hfz14_4⟩ := Ke5_ BK166.out) | ((with_reducible refine gate_callee (f := 69) rfl ?_); refine Kg_ (some 12) rfl rfl Try.func69 (by kernel_rfl) rfl #[.agg #[.int .u64 a1_0, .int .u64 a1_1, .int .u64 a1_2, .int .u64 a1_3, .int .i64 a1_4]] rfl ?_; (with_reducible refine (stamp_Right.calls a1_0 a1_1 a1_2 a1_3 a1_4 true _ A4.out).mono ?_); rintro e w15 ⟨rfl, hb⟩; refine ⟨_, rfl, ?_⟩; replace BK165 := Kb_ BK165 hb; replace BK166 := Kb_ BK166 hb; replace HB := Ks_ HB hb; (try clear hb); (try clear hb2); (try clear hk); (try clear hi); obtain ⟨hcz16_0, hcz16_1, hcz16_2, hcz16_3, hcz16_4, hfz16_0, hfz16_1, hfz16_2, hfz16_3, hfz16_4⟩ := Ke5_ BK166.out) | ((with_reducible refine gate_callee (f := 47) rfl ?_); refine Kg_ (some 16) rfl rfl Try.func47 (by kernel_rfl) rfl #[.agg #[.int .u64 a1_0, .int .u64 a1_1, .int .u64 a1_2, .int .u64 a1_3, .int .i64 a1_4]] rfl ?_; (with_reducible refine (stamp_Stamp_N.calls a1_0 a1_1 a1_2 a1_3 a1_4 t169 _ A6.out).mono ?_); rintro e w17 ⟨rfl, hb⟩; refine ⟨_, rfl, ?_⟩; replace BK165 := Kb_ BK165 hb; replace BK166 := Kb_ BK166 hb; replace HB := Ks_ HB hb; (try clear hb); (try clear hb2); (try clear hk); (try clear hi)))
  go_ret
  exact ⟨Kh_, K2a_ HB GE165 GE166⟩
 rw [if_neg c7] at H
 have c7b0 : decide (t169 ≤ t167) = false := decide_eq_false c7
 clear c7
 replace H := Option.bind_eq_some_iff.mp H
 obtain ⟨⟨t170, t171, t172, t173⟩, A180, H⟩ := H
 replace H : ((vec_Leq.f a1_0 a1_1 a1_2 a1_3 t170 t171 t172 t173).bind fun t174 => (if t174 = true then (some 1) else (some 0))) = some r := H
 have A18 := Aside0.mk A180
 clear A180
 replace H := Option.bind_eq_some_iff.mp H
 obtain ⟨t174, A190, H⟩ := H
 replace H : (if t174 = true then (some 1) else (some 0)) = some r := H
 have A19 := Aside0.mk A190
 clear A190
 by_cases c20 : t174 = true
 ·subst c20
  have H1 : (some 1) = some r := by rw [if_pos rfl] at H; exact H
  clear H
  have H := H1
  clear H1
  obtain rfl := Option.some.inj H
  go_enter Try.func30, Try.ntmps30
  try go_wp2_with (first | ((with_reducible refine gate_dst (N := 2) rfl ?_); refine Ka_ 2 #[.int .u64 a0_0, .int .u64 a0_1, .int .u64 a0_2, .int .u64 a0_3] 28 ?_; intro gb165 hg w21 hbox hb; have BK165 := Aside0.mk (hbox); have GW165 := Kw_ HB hg; have GE165 := GW165; replace HB := Ks_ HB hb; clear hb hbox hg) | ((with_reducible refine gate_dst (N := 3) rfl ?_); refine Ka_ 3 #[.int .u64 a1_0, .int .u64 a1_1, .int .u64 a1_2, .int .u64 a1_3, .int .i64 a1_4] 30 ?_; intro gb166 hg w22 hbox hb; have BK166 := Aside0.mk (hbox); have GW166 := Kw_ HB hg; have GE166 := GW166; have NB165_166 := Kl_ BK165 hg; have NB166_165 := Kr_ BK165 hg; replace BK165 := Kb_ BK165 hb; replace HB := Ks_ HB hb; clear hb hbox hg; have hnb23 := NB165_166.out; have hnc23 := NB166_165.out; obtain ⟨hcz24_0, hcz24_1, hcz24_2, hcz24_3, hfz24_0, hfz24_1, hfz24_2, hfz24_3⟩ := Ke4_ BK165.out; obtain ⟨hcz25_0, hcz25_1, hcz25_2, hcz25_3, hcz25_4, hfz25_0, hfz25_1, hfz25_2, hfz25_3, hfz25_4⟩ := Ke5_ BK166.out) | ((with_reducible refine gate_callee (f := 48) rfl ?_); refine Kg_ (some 9) rfl rfl Try.func48 (by kernel_rfl) rfl #[.agg #[.int .u64 a0_0, .int .u64 a0_1, .int .u64 a0_2, .int .u64 a0_3], .int .i64 a1_4] rfl ?_; (with_reducible refine (vec_At.calls a0_0 a0_1 a0_2 a0_3 a1_4 t167 _ A3.out).mono ?_); rintro e w26 ⟨rfl, hb⟩; refine ⟨_, rfl, ?_⟩; replace BK165 := Kb_ BK165 hb; replace BK166 := Kb_ BK166 hb; replace HB := Ks_ HB hb; (try clear hb); (try clear hb2); (try clear hk); (try clear hi); obtain ⟨hcz27_0, hcz27_1, hcz27_2, hcz27_3, hcz27_4, hfz27_0, hfz27_1, hfz27_2, hfz27_3, hfz27_4⟩ := Ke5_ BK166.out) | ((with_reducible refine gate_callee (f := 69) rfl ?_); refine Kg_ (some 12) rfl rfl Try.func69 (by kernel_rfl) rfl #[.agg #[.int .u64 a1_0, .int .u64 a1_1, .int .u64 a1_2, .int .u64 a1_3, .int .i64 a1_4]] rfl ?_; (with_reducible refine (stamp_Right.calls a1_0 a1_1 a1_2 a1_3 a1_4 true _ A4.out).mono ?_); rintro e w28 ⟨rfl, hb⟩; refine ⟨_, rfl, ?_⟩; replace BK165 := Kb_ BK165 hb; replace BK166 := Kb_ BK166 hb; replace HB := Ks_ HB hb; (try clear hb); (try clear hb2); (try clear hk); (try clear hi); obtain ⟨hcz29_0, hcz29_1, hcz29_2, hcz29_3, hcz29_4, hfz29_0, hfz29_1, hfz29_2, hfz29_3, hfz29_4⟩ := Ke5_ BK166.out) | ((with_reducible refine gate_callee (f := 47) rfl ?_); refine Kg_ (some 16) rfl rfl Try.func47 (by kernel_rfl) rfl #[.agg #[.int .u64 a1_0, .int .u64 a1_1, .int .u64 a1_2, .int .u64 a1_3, .int .i64 a1_4]] rfl ?_; (with_reducible refine (stamp_Stamp_N.calls a1_0 a1_1 a1_2 a1_3 a1_4 t169 _ A6.out).mono ?_); rintro e w30 ⟨rfl, hb⟩; refine ⟨_, rfl, ?_⟩; replace BK165 := Kb_ BK165 hb; replace BK166 := Kb_ BK166 hb; replace HB := Ks_ HB hb; (try clear hb); (try clear hb2); (try clear hk); (try clear hi)))
  replace BK165 := Kd_ BK165
  replace BK166 := Kd_ BK166
  replace HB := Aside0.mk (below_drew1 HB.out)
  refine start_ (n := 10) (S := fun w' => w'.cell? ⟨gb166, 0, none⟩ = some (.int .u64 a1_0) ∧ w'.cell? ⟨gb166, 1, none⟩ = some (.int .u64 a1_1) ∧ w'.cell? ⟨gb166, 2, none⟩ = some (.int .u64 a1_2) ∧ w'.cell? ⟨gb166, 3, none⟩ = some (.int .u64 a1_3) ∧ w'.cell? ⟨gb166, 4, none⟩ = some (.int .i64 a1_4) ∧ w'.cell? ⟨gb165, 0, none⟩ = some (.int .u64 a0_0) ∧ w'.cell? ⟨gb165, 1, none⟩ = some (.int .u64 a0_1) ∧ w'.cell? ⟨gb165, 2, none⟩ = some (.int .u64 a0_2) ∧ w'.cell? ⟨gb165, 3, none⟩ = some (.int .u64 a0_3)) (ds := []) (mB_ 10 0) (by kernel_rfl) rfl rfl ⟨Km_ BK166 0, Km_ BK166 1, Km_ BK166 2, Km_ BK166 3, Km_ BK166 4, Km_ BK165 0, Km_ BK165 1, Km_ BK165 2, Km_ BK165 3⟩ (fun hHeld => ?_); refine with_tabW stream_Ready.tab6 stream_Ready.bits6 (fun HT_ HW_ => ?_)
  generalize w30.drew = w31 at BK165 BK166 HB hHeld ⊢
  refine Kp_ 0 20 (mB_ 10 1) (any_of HT_.out (by kernel_rfl)) ?_
  refine Kp_ 3 23 (mB_ 10 9) (any_of HT_.out (by kernel_rfl)) ?_
  refine Kp_ 5 25 (mB_ 10 41) (any_of HT_.out (by kernel_rfl)) ?_
  refine Kp_ 6 26 (mB_ 10 105) (any_of HT_.out (by kernel_rfl)) ?_
  refine Ko_ 1 21 (mB_ 10 107) (take_ofW HT_.out HW_.out (by kernel_rfl)) hHeld ?_
  refine Ko_ 2 22 (mB_ 10 111) (take_ofW HT_.out HW_.out (by kernel_rfl)) hHeld ?_
  refine Ko_ 4 24 (mB_ 10 127) (take_ofW HT_.out HW_.out (by kernel_rfl)) hHeld ?_
  refine one_ (i := 7) (N := some 27) (mB_ 10 255) rfl rfl (one_of HT_.out (by kernel_rfl)) (by decide) (fun K hK => ?_)
  refine goes_ Try.func46 (by kernel_rfl) rfl #[.agg #[.int .u64 a0_0, .int .u64 a0_1, .int .u64 a0_2, .int .u64 a0_3], .int .i64 a1_4, .int .u64 (IntKind.u64.wrap (t167 + 1))] (by rfl) rfl rfl (by (try simp only [List.map_toArray, List.map_cons, List.map_nil]); first | done | rfl | (simp only [List.length_drop, List.length_take]; rfl)) ?_
  with_reducible refine (vec_With.calls a0_0 a0_1 a0_2 a0_3 a1_4 (IntKind.u64.wrap (t167 + 1)) t170 t171 t172 t173 _ A18.out).mono ?_
  rintro e w32 ⟨rfl, hb⟩
  refine ⟨_, rfl, ?_⟩
  replace BK165 := Kb_ BK165 hb
  replace BK166 := Kb_ BK166 hb
  replace HB := Ks_ HB hb
  (try clear hb)
  (try clear hb2)
  (try clear hk)
  (try clear hi)
  refine hK.out _ _ ⟨Km_ BK166 0, Km_ BK166 1, Km_ BK166 2, Km_ BK166 3, Km_ BK166 4, Km_ BK165 0, Km_ BK165 1, Km_ BK165 2, Km_ BK165 3⟩ (fun hHeld => ?_)
  clear hK K
  refine Kn_ 27 ?_
  refine one_ (i := 8) (N := some 28) (mB_ 10 511) rfl rfl (one_of HT_.out (by kernel_rfl)) (by decide) (fun K hK => ?_)
  refine goes_ Try.func49 (by kernel_rfl) rfl #[.agg #[.int .u64 a1_0, .int .u64 a1_1, .int .u64 a1_2, .int .u64 a1_3], .agg #[.int .u64 t170, .int .u64 t171, .int .u64 t172, .int .u64 t173]] (by rfl) rfl rfl (by (try simp only [List.map_toArray, List.map_cons, List.map_nil]); first | done | rfl | (simp only [List.length_drop, List.length_take]; rfl)) ?_
  with_reducible refine (vec_Leq.calls a1_0 a1_1 a1_2 a1_3 t170 t171 t172 t173 true _ A19.out).mono ?_
  rintro e w33 ⟨rfl, hb⟩
  refine ⟨_, rfl, ?_⟩
  replace BK165 := Kb_ BK165 hb
  replace BK166 := Kb_ BK166 hb
  replace HB := Ks_ HB hb
  (try clear hb)
  (try clear hb2)
  (try clear hk)
  (try clear hi)
  refine hK.out _ _ ⟨Km_ BK166 0, Km_ BK166 1, Km_ BK166 2, Km_ BK166 3, Km_ BK166 4, Km_ BK165 0, Km_ BK165 1, Km_ BK165 2, Km_ BK165 3⟩ (fun hHeld => ?_)
  clear hK K
  refine Kn_ 28 ?_
  refine Kp_ 9 19 (mB_ 10 1023) (any_of HT_.out (by kernel_rfl)) ?_
  refine done_ (done_of HT_.out (by kernel_rfl)) ?_
  try go_wp2
  go_ret
  exact ⟨Kh_, K2a_ HB GE165 GE166⟩
 replace c20 := Bool.eq_false_iff.mpr c20
 subst c20
 have H1 : (some 0) = some r := by rw [if_neg (show ¬ (false = true) by decide)] at H; exact H
 clear H
 have H := H1
 clear H1
 obtain rfl := Option.some.inj H
 go_enter Try.func30, Try.ntmps30
 try go_wp2_with (first | ((with_reducible refine gate_dst (N := 2) rfl ?_); refine Ka_ 2 #[.int .u64 a0_0, .int .u64 a0_1, .int .u64 a0_2, .int .u64 a0_3] 28 ?_; intro gb165 hg w34 hbox hb; have BK165 := Aside0.mk (hbox); have GW165 := Kw_ HB hg; have GE165 := GW165; replace HB := Ks_ HB hb; clear hb hbox hg) | ((with_reducible refine gate_dst (N := 3) rfl ?_); refine Ka_ 3 #[.int .u64 a1_0, .int .u64 a1_1, .int .u64 a1_2, .int .u64 a1_3, .int .i64 a1_4] 30 ?_; intro gb166 hg w35 hbox hb; have BK166 := Aside0.mk (hbox); have GW166 := Kw_ HB hg; have GE166 := GW166; have NB165_166 := Kl_ BK165 hg; have NB166_165 := Kr_ BK165 hg; replace BK165 := Kb_ BK165 hb; replace HB := Ks_ HB hb; clear hb hbox hg; have hnb36 := NB165_166.out; have hnc36 := NB166_165.out; obtain ⟨hcz37_0, hcz37_1, hcz37_2, hcz37_3, hfz37_0, hfz37_1, hfz37_2, hfz37_3⟩ := Ke4_ BK165.out; obtain ⟨hcz38_0, hcz38_1, hcz38_2, hcz38_3, hcz38_4, hfz38_0, hfz38_1, hfz38_2, hfz38_3, hfz38_4⟩ := Ke5_ BK166.out) | ((with_reducible refine gate_callee (f := 48) rfl ?_); refine Kg_ (some 9) rfl rfl Try.func48 (by kernel_rfl) rfl #[.agg #[.int .u64 a0_0, .int .u64 a0_1, .int .u64 a0_2, .int .u64 a0_3], .int .i64 a1_4] rfl ?_; (with_reducible refine (vec_At.calls a0_0 a0_1 a0_2 a0_3 a1_4 t167 _ A3.out).mono ?_); rintro e w39 ⟨rfl, hb⟩; refine ⟨_, rfl, ?_⟩; replace BK165 := Kb_ BK165 hb; replace BK166 := Kb_ BK166 hb; replace HB := Ks_ HB hb; (try clear hb); (try clear hb2); (try clear hk); (try clear hi); obtain ⟨hcz40_0, hcz40_1, hcz40_2, hcz40_3, hcz40_4, hfz40_0, hfz40_1, hfz40_2, hfz40_3, hfz40_4⟩ := Ke5_ BK166.out) | ((with_reducible refine gate_callee (f := 69) rfl ?_); refine Kg_ (some 12) rfl rfl Try.func69 (by kernel_rfl) rfl #[.agg #[.int .u64 a1_0, .int .u64 a1_1, .int .u64 a1_2, .int .u64 a1_3, .int .i64 a1_4]] rfl ?_; (with_reducible refine (stamp_Right.calls a1_0 a1_1 a1_2 a1_3 a1_4 true _ A4.out).mono ?_); rintro e w41 ⟨rfl, hb⟩; refine ⟨_, rfl, ?_⟩; replace BK165 := Kb_ BK165 hb; replace BK166 := Kb_ BK166 hb; replace HB := Ks_ HB hb; (try clear hb); (try clear hb2); (try clear hk); (try clear hi); obtain ⟨hcz42_0, hcz42_1, hcz42_2, hcz42_3, hcz42_4, hfz42_0, hfz42_1, hfz42_2, hfz42_3, hfz42_4⟩ := Ke5_ BK166.out) | ((with_reducible refine gate_callee (f := 47) rfl ?_); refine Kg_ (some 16) rfl rfl Try.func47 (by kernel_rfl) rfl #[.agg #[.int .u64 a1_0, .int .u64 a1_1, .int .u64 a1_2, .int .u64 a1_3, .int .i64 a1_4]] rfl ?_; (with_reducible refine (stamp_Stamp_N.calls a1_0 a1_1 a1_2 a1_3 a1_4 t169 _ A6.out).mono ?_); rintro e w43 ⟨rfl, hb⟩; refine ⟨_, rfl, ?_⟩; replace BK165 := Kb_ BK165 hb; replace BK166 := Kb_ BK166 hb; replace HB := Ks_ HB hb; (try clear hb); (try clear hb2); (try clear hk); (try clear hi)))
 replace BK165 := Kd_ BK165
 replace BK166 := Kd_ BK166
 replace HB := Aside0.mk (below_drew1 HB.out)
 refine start_ (n := 10) (S := fun w' => w'.cell? ⟨gb166, 0, none⟩ = some (.int .u64 a1_0) ∧ w'.cell? ⟨gb166, 1, none⟩ = some (.int .u64 a1_1) ∧ w'.cell? ⟨gb166, 2, none⟩ = some (.int .u64 a1_2) ∧ w'.cell? ⟨gb166, 3, none⟩ = some (.int .u64 a1_3) ∧ w'.cell? ⟨gb166, 4, none⟩ = some (.int .i64 a1_4) ∧ w'.cell? ⟨gb165, 0, none⟩ = some (.int .u64 a0_0) ∧ w'.cell? ⟨gb165, 1, none⟩ = some (.int .u64 a0_1) ∧ w'.cell? ⟨gb165, 2, none⟩ = some (.int .u64 a0_2) ∧ w'.cell? ⟨gb165, 3, none⟩ = some (.int .u64 a0_3)) (ds := []) (mB_ 10 0) (by kernel_rfl) rfl rfl ⟨Km_ BK166 0, Km_ BK166 1, Km_ BK166 2, Km_ BK166 3, Km_ BK166 4, Km_ BK165 0, Km_ BK165 1, Km_ BK165 2, Km_ BK165 3⟩ (fun hHeld => ?_); refine with_tabW stream_Ready.tab6 stream_Ready.bits6 (fun HT_ HW_ => ?_)
 generalize w43.drew = w44 at BK165 BK166 HB hHeld ⊢
 refine Kp_ 0 20 (mB_ 10 1) (any_of HT_.out (by kernel_rfl)) ?_
 refine Kp_ 3 23 (mB_ 10 9) (any_of HT_.out (by kernel_rfl)) ?_
 refine Kp_ 5 25 (mB_ 10 41) (any_of HT_.out (by kernel_rfl)) ?_
 refine Kp_ 6 26 (mB_ 10 105) (any_of HT_.out (by kernel_rfl)) ?_
 refine Ko_ 1 21 (mB_ 10 107) (take_ofW HT_.out HW_.out (by kernel_rfl)) hHeld ?_
 refine Ko_ 2 22 (mB_ 10 111) (take_ofW HT_.out HW_.out (by kernel_rfl)) hHeld ?_
 refine Ko_ 4 24 (mB_ 10 127) (take_ofW HT_.out HW_.out (by kernel_rfl)) hHeld ?_
 refine one_ (i := 7) (N := some 27) (mB_ 10 255) rfl rfl (one_of HT_.out (by kernel_rfl)) (by decide) (fun K hK => ?_)
 refine goes_ Try.func46 (by kernel_rfl) rfl #[.agg #[.int .u64 a0_0, .int .u64 a0_1, .int .u64 a0_2, .int .u64 a0_3], .int .i64 a1_4, .int .u64 (IntKind.u64.wrap (t167 + 1))] (by rfl) rfl rfl (by (try simp only [List.map_toArray, List.map_cons, List.map_nil]); first | done | rfl | (simp only [List.length_drop, List.length_take]; rfl)) ?_
 with_reducible refine (vec_With.calls a0_0 a0_1 a0_2 a0_3 a1_4 (IntKind.u64.wrap (t167 + 1)) t170 t171 t172 t173 _ A18.out).mono ?_
 rintro e w45 ⟨rfl, hb⟩
 refine ⟨_, rfl, ?_⟩
 replace BK165 := Kb_ BK165 hb
 replace BK166 := Kb_ BK166 hb
 replace HB := Ks_ HB hb
 (try clear hb)
 (try clear hb2)
 (try clear hk)
 (try clear hi)
 refine hK.out _ _ ⟨Km_ BK166 0, Km_ BK166 1, Km_ BK166 2, Km_ BK166 3, Km_ BK166 4, Km_ BK165 0, Km_ BK165 1, Km_ BK165 2, Km_ BK165 3⟩ (fun hHeld => ?_)
 clear hK K
 refine Kn_ 27 ?_
 refine one_ (i := 8) (N := some 28) (mB_ 10 511) rfl rfl (one_of HT_.out (by kernel_rfl)) (by decide) (fun K hK => ?_)
 refine goes_ Try.func49 (by kernel_rfl) rfl #[.agg #[.int .u64 a1_0, .int .u64 a1_1, .int .u64 a1_2, .int .u64 a1_3], .agg #[.int .u64 t170, .int .u64 t171, .int .u64 t172, .int .u64 t173]] (by rfl) rfl rfl (by (try simp only [List.map_toArray, List.map_cons, List.map_nil]); first | done | rfl | (simp only [List.length_drop, List.length_take]; rfl)) ?_
 with_reducible refine (vec_Leq.calls a1_0 a1_1 a1_2 a1_3 t170 t171 t172 t173 false _ A19.out).mono ?_
 rintro e w46 ⟨rfl, hb⟩
 refine ⟨_, rfl, ?_⟩
 replace BK165 := Kb_ BK165 hb
 replace BK166 := Kb_ BK166 hb
 replace HB := Ks_ HB hb
 (try clear hb)
 (try clear hb2)
 (try clear hk)
 (try clear hi)
 refine hK.out _ _ ⟨Km_ BK166 0, Km_ BK166 1, Km_ BK166 2, Km_ BK166 3, Km_ BK166 4, Km_ BK165 0, Km_ BK165 1, Km_ BK165 2, Km_ BK165 3⟩ (fun hHeld => ?_)
 clear hK K
 refine Kn_ 28 ?_
 refine Kp_ 9 19 (mB_ 10 1023) (any_of HT_.out (by kernel_rfl)) ?_
 refine done_ (done_of HT_.out (by kernel_rfl)) ?_
 try go_wp2
 go_ret
 exact ⟨Kh_, K2a_ HB GE165 GE166⟩
theorem pack_Reader_Number.bytesWorld_frozen (w : World) (e : TypeId) (s : ByteArray) (a : Addr) (ha : a.block < w.heap.size) : (Lib.bytesWorld w e s).frozen? a = w.frozen? a :=
 (bytes_below (Below.refl _ _) (Nat.le_refl _) e s).frozen ha
theorem pack_Reader_Number.bt_extract0 (s : ByteArray) (n k : Nat) (hk : k < n) (hs : n ≤ s.size) : bt (s.extract 0 n) k = bt s k := by
 unfold bt
 rw [dif_pos (by simp; omega), dif_pos (by simp; omega)]
 simp [ByteArray.getElem_extract]
def rnum (s : ByteArray) : Nat → Int
 | 0 => 0
 | k + 1 => Go.bits .or .u64 (IntKind.u64.wrap (rnum s k * 256)) (IntKind.u64.wrap (bt s k))
def pack_Reader_Number.f (a0_0 : ByteArray) (a0_1 : Bool) (a1 : Int) : Option (Int × ByteArray × Bool) :=
 if a0_0.size ≤ 9223372036854775807 then
  (if a0_1 = true then some (0, (⟨#[]⟩ : ByteArray), true) else if a1 < 1 then some (0, (⟨#[]⟩ : ByteArray), true) else if 8 < a1 then some (0, (⟨#[]⟩ : ByteArray), true)
   else if (a0_0.size : Int) < a1 then some (0, (⟨#[]⟩ : ByteArray), true) else some (rnum a0_0 a1.toNat, a0_0.extract a1.toNat a0_0.size, false))
 else none
theorem pack_Reader_Number.some_ (s : ByteArray) (n : Nat) (h1 : 1 ≤ n) (h8 : n ≤ 8) (hs : n ≤ s.size) (hm : s.size ≤ 9223372036854775807) (w : World) :
  Calls Try.prog 75 #[.agg #[.string s, .bool false], .int .i64 n] w fun e w' => e = .returned (.tuple #[.int .u64 (rnum s n), .agg #[.string (s.extract n s.size), .bool false]]) ∧ Below w.heap.size w w' := by
 have hcv := fun W t => Lib.run_convert_string_bytes (P := Try.prog) W 9 91 5 t Try.underlying9 Try.underlying91 Try.underlying5
 have b1 : decide ((n : Int) < 1) = false := by simp; omega
 have b2 : decide ((8 : Int) < (n : Int)) = false := by simp; omega
 have b3 : decide (s.size < n) = false := by simp; omega
 go_enter Try.func75, Try.ntmps75
 go_wp2
 obtain ⟨W, hW⟩ : ∃ W, W = Lib.bytesWorld ((w.alloc (Obj.cells #[Value.string s, Value.bool false] 134)).alloc (Obj.cells #[Value.string { data := #[] }, Value.bool false] 134)) 5 (s.extract 0 n) := ⟨_, rfl⟩
 have hbel : Below w.heap.size w W := by
  rw [hW]
  exact bytes_below (((Below.refl _ _).alloc (Nat.le_refl _) _).alloc (by simp) _) (by simp; omega) _ _
 have hsz : W.heap.size = w.heap.size + 3 := by rw [hW, Lib.bytesWorld_size]; simp
 have hc0 : W.cell? ⟨w.heap.size, 0, none⟩ = some (.string s) := by
  rw [hW, Lib.bytesWorld_old _ _ _ _ (by simp; omega)]; simp [go_sem]
 have hc2 : W.cell? ⟨w.heap.size + 1, 0, none⟩ = some (.string ⟨#[]⟩) := by
  rw [hW, Lib.bytesWorld_old _ _ _ _ (by simp)]; simp [go_sem]
 have hc3 : W.cell? ⟨w.heap.size + 1, 1, none⟩ = some (.bool false) := by
  rw [hW, Lib.bytesWorld_old _ _ _ _ (by simp)]; simp [go_sem]
 have hf2 : W.frozen? ⟨w.heap.size + 1, 0, none⟩ = false := by
  rw [hW, pack_Reader_Number.bytesWorld_frozen _ _ _ _ (by simp)]; simp [go_sem]
 have hf3 : W.frozen? ⟨w.heap.size + 1, 1, none⟩ = false := by
  rw [hW, pack_Reader_Number.bytesWorld_frozen _ _ _ _ (by simp)]; simp [go_sem]
 have hel : ∀ k : Nat, k < n → W.cell? ⟨w.heap.size + 1 + 1, k, none⟩ = some (.int .u8 (bt s k)) := by
  intro k hk
  obtain ⟨_, _, hr⟩ := bytes_reads ((w.alloc (Obj.cells #[Value.string s, Value.bool false] 134)).alloc (Obj.cells #[Value.string { data := #[] }, Value.bool false] 134)) 5 (s.extract 0 n) (by simp; omega)
  rw [← hW] at hr
  obtain ⟨ad, had, hr⟩ := hr (by simp; omega)
  have hr := hr k (by simp; omega)
  simp at had
  subst had
  rw [add_plain] at hr
  rw [hr]
  have e1 : (bytesOf (s.extract 0 n)).getD k 0 = bt (s.extract 0 n) k := rd_bytesOf (s.extract 0 n) k
  rw [e1, pack_Reader_Number.bt_extract0 _ _ _ hk hs]
 rw [← hW]
 clear hW hcv
 go_loop [32, 4] (fun i v => ∃ k : Nat, k ≤ n ∧ i = .int .i64 k ∧ v = .int .u64 (rnum s k)) (fun i _ => n - (intOf i).toNat)
 case atStart => exact ⟨0, Nat.zero_le _, rfl, rfl⟩
 case round =>
  obtain ⟨k, hk, rfl, rfl⟩ := hrel
  by_cases hlt : k < n
  ·have hcell := hel k hlt
   clear hel
   go_wp2
   go_round
   case rel => exact ⟨k + 1, by omega, by go_num, rfl⟩
   case measure => simp [intOf]; omega
  ·obtain rfl : k = n := by omega
   clear hel
   go_wp2
   go_region
   all_goals go_wp2
   refine bodyPost_ret (v := .tuple #[.int .u64 (rnum s k), .agg #[.string (s.extract k s.size), .bool false]]) (by simp [results, Try.results75, go_sem, hc2, hc3, hf2, hf3]) rfl ⟨rfl, ?_⟩
   exact ((hbel.setCell (by simp) _).setCell (by simp) _).drew
theorem pack_Reader_Number.bad_ (s : ByteArray) (b : Bool) (a1 : Int) (h : b = true ∨ b = false ∧ (a1 < 1 ∨ 8 < a1 ∨ (s.size : Int) < a1)) (w : World) :
  Calls Try.prog 75 #[.agg #[.string s, .bool b], .int .i64 a1] w fun e w' => e = .returned (.tuple #[.int .u64 0, .agg #[.string ⟨#[]⟩, .bool true]]) ∧ Below w.heap.size w w' := by
 rcases h with rfl | ⟨rfl, h⟩
 ·go_enter Try.func75, Try.ntmps75
  go_wp2
  refine bodyPost_ret (v := .agg #[.string ⟨#[]⟩, .bool true]) (by simp [results, Try.results98, go_sem]) rfl ?_
  go_wp2
  refine bodyPost_ret (v := .tuple #[.int .u64 0, .agg #[.string ⟨#[]⟩, .bool true]]) (by simp [results, Try.results75, go_sem]) rfl ⟨rfl, ?_⟩
  repeat (first | exact Below.refl _ _ | apply below_alloc | apply below_drew | refine Below.setCell ?_ (by simp) _)
 ·rcases h with h | h | h
  ·have b1 : decide (a1 < 1) = true := decide_eq_true h
   go_enter Try.func75, Try.ntmps75
   go_wp2
   refine bodyPost_ret (v := .agg #[.string ⟨#[]⟩, .bool true]) (by simp [results, Try.results98, go_sem]) rfl ?_
   go_wp2
   refine bodyPost_ret (v := .tuple #[.int .u64 0, .agg #[.string ⟨#[]⟩, .bool true]]) (by simp [results, Try.results75, go_sem]) rfl ⟨rfl, ?_⟩
   repeat (first | exact Below.refl _ _ | apply below_alloc | apply below_drew | refine Below.setCell ?_ (by simp) _)
  ·have b1 : decide (8 < a1) = true := decide_eq_true h
   have b2 : decide (a1 < 1) = false := decide_eq_false (by omega)
   go_enter Try.func75, Try.ntmps75
   go_wp2
   refine bodyPost_ret (v := .agg #[.string ⟨#[]⟩, .bool true]) (by simp [results, Try.results98, go_sem]) rfl ?_
   go_wp2
   refine bodyPost_ret (v := .tuple #[.int .u64 0, .agg #[.string ⟨#[]⟩, .bool true]]) (by simp [results, Try.results75, go_sem]) rfl ⟨rfl, ?_⟩
   repeat (first | exact Below.refl _ _ | apply below_alloc | apply below_drew | refine Below.setCell ?_ (by simp) _)
  ·by_cases h1 : a1 < 1
   ·have b1 : decide (a1 < 1) = true := decide_eq_true h1
    clear h
    go_enter Try.func75, Try.ntmps75
    go_wp2
    refine bodyPost_ret (v := .agg #[.string ⟨#[]⟩, .bool true]) (by simp [results, Try.results98, go_sem]) rfl ?_
    go_wp2
    refine bodyPost_ret (v := .tuple #[.int .u64 0, .agg #[.string ⟨#[]⟩, .bool true]]) (by simp [results, Try.results75, go_sem]) rfl ⟨rfl, ?_⟩
    repeat (first | exact Below.refl _ _ | apply below_alloc | apply below_drew | refine Below.setCell ?_ (by simp) _)
   ·by_cases h8 : 8 < a1
    ·have b1 : decide (8 < a1) = true := decide_eq_true h8
     clear h
     have b2 : decide (a1 < 1) = false := decide_eq_false (by omega)
     go_enter Try.func75, Try.ntmps75
     go_wp2
     refine bodyPost_ret (v := .agg #[.string ⟨#[]⟩, .bool true]) (by simp [results, Try.results98, go_sem]) rfl ?_
     go_wp2
     refine bodyPost_ret (v := .tuple #[.int .u64 0, .agg #[.string ⟨#[]⟩, .bool true]]) (by simp [results, Try.results75, go_sem]) rfl ⟨rfl, ?_⟩
     repeat (first | exact Below.refl _ _ | apply below_alloc | apply below_drew | refine Below.setCell ?_ (by simp) _)
    ·have b1 : decide (8 < a1) = false := decide_eq_false (by omega)
     have b2 : decide (a1 < 1) = false := decide_eq_false (by omega)
     have b3 : decide ((s.size : Int) < a1) = true := decide_eq_true h
     go_enter Try.func75, Try.ntmps75
     go_wp2
     refine bodyPost_ret (v := .agg #[.string ⟨#[]⟩, .bool true]) (by simp [results, Try.results98, go_sem]) rfl ?_
     go_wp2
     refine bodyPost_ret (v := .tuple #[.int .u64 0, .agg #[.string ⟨#[]⟩, .bool true]]) (by simp [results, Try.results75, go_sem]) rfl ⟨rfl, ?_⟩
     repeat (first | exact Below.refl _ _ | apply below_alloc | apply below_drew | refine Below.setCell ?_ (by simp) _)
theorem pack_Reader_Number.calls (a0_0 : ByteArray) (a0_1 : Bool) (a1 : Int) (r1 : Int) (r2 : ByteArray) (r3 : Bool) (w : World) (h : pack_Reader_Number.f a0_0 a0_1 a1 = some (r1, r2, r3)) :
  Calls Try.prog 75 #[.agg #[.string a0_0, .bool a0_1], .int .i64 a1] w fun e w' => e = .returned (.tuple #[.int .u64 r1, .agg #[.string r2, .bool r3]]) ∧ Below w.heap.size w w' := by
 unfold pack_Reader_Number.f at h
 by_cases hm : a0_0.size ≤ 9223372036854775807
 ·rw [if_pos hm] at h
  by_cases c0 : a0_1 = true
  ·rw [if_pos c0] at h
   simp only [Option.some.injEq, Prod.mk.injEq] at h
   obtain ⟨rfl, rfl, rfl⟩ := h
   exact pack_Reader_Number.bad_ _ _ _ (.inl c0) w
  ·rw [if_neg c0] at h
   have c0' : a0_1 = false := by simpa using c0
   by_cases c1 : a1 < 1
   ·rw [if_pos c1] at h
    simp only [Option.some.injEq, Prod.mk.injEq] at h
    obtain ⟨rfl, rfl, rfl⟩ := h
    exact pack_Reader_Number.bad_ _ _ _ (.inr ⟨c0', .inl c1⟩) w
   ·rw [if_neg c1] at h
    by_cases c2 : 8 < a1
    ·rw [if_pos c2] at h
     simp only [Option.some.injEq, Prod.mk.injEq] at h
     obtain ⟨rfl, rfl, rfl⟩ := h
     exact pack_Reader_Number.bad_ _ _ _ (.inr ⟨c0', .inr (.inl c2)⟩) w
    ·rw [if_neg c2] at h
     by_cases c3 : (a0_0.size : Int) < a1
     ·rw [if_pos c3] at h
      simp only [Option.some.injEq, Prod.mk.injEq] at h
      obtain ⟨rfl, rfl, rfl⟩ := h
      exact pack_Reader_Number.bad_ _ _ _ (.inr ⟨c0', .inr (.inr c3)⟩) w
     ·rw [if_neg c3] at h
      simp only [Option.some.injEq, Prod.mk.injEq] at h
      obtain ⟨rfl, rfl, rfl⟩ := h
      obtain ⟨n, rfl⟩ := Int.eq_ofNat_of_zero_le (show 0 ≤ a1 by omega)
      subst c0'
      rw [Int.toNat_natCast]
      exact pack_Reader_Number.some_ a0_0 n (by omega) (by omega) (by omega) hm w
 ·rw [if_neg hm] at h
  exact absurd h (by simp)
def pack_bad.f  : Option (ByteArray × Bool) := some ((⟨#[]⟩ : ByteArray), true)
set_option maxHeartbeats 8000000 in
set_option maxRecDepth 100000 in
theorem pack_bad.calls  (r1 : ByteArray) (r2 : Bool) (w : World) (h : pack_bad.f  = some (r1, r2)) :
  Calls Try.prog 98 #[] w fun e w' => e = .returned (.agg #[.string r1, .bool r2]) ∧ Below w.heap.size w w' := by
 have hu134 := Try.underlying134
 have HB := Aside0.mk (Below.refl w.heap.size w)
 have H : (some ((⟨#[]⟩ : ByteArray), true)) = some (r1, r2) := h
 clear h
 simp only [Option.some.injEq, Prod.mk.injEq] at H
 obtain ⟨rfl, rfl⟩ := H
 go_enter Try.func98, Try.ntmps98
 go_wp2_with (first | ((with_reducible refine gate_dst (N := 0) rfl ?_); refine Ka_ 0 #[.string (⟨#[]⟩ : ByteArray), .bool false] 134 ?_; intro gb175 hg w1 hbox hb; have BK175 := Aside0.mk (hbox); have GW175 := Kw_ HB hg; have GE175 := GW175; replace HB := Ks_ HB hb; clear hb hbox hg; obtain ⟨hcz2_0, hcz2_1, hfz2_0, hfz2_1⟩ := Ke2_ BK175.out))
 refine bodyPost_ret (results_cell_row rfl _ _ gb175 134 #[.string (⟨#[]⟩ : ByteArray), .bool true] (0, 0) _ rfl (by refine Kv_ ?_; refine blk_put (cs := #[.string (⟨#[]⟩ : ByteArray), .bool false]) ?_ 1 _ rfl; refine Kv_ ?_; refine blk_put (cs := #[.string (⟨#[]⟩ : ByteArray), .bool false]) ?_ 0 _ rfl; exact Kq_ BK175) Try.underlying134 rfl (by kernel_rfl)) rfl ?_
 exact ⟨Kh_, Kz_ HB GE175⟩
def pack_Reader_Vary.l0 : Nat → Int → Int → Int → ByteArray → Bool → Option (Int × ByteArray × Bool)
 | 0, _, _, _, _, _ => none
 | k + 1, x4, x13, x14, x100, x103 => if x14 < x13 then (if 0 ≤ x14 then (if x14 < (x100.size : Int) then (if 0 ≤ (wrap64 (7 * x14)) then (if (bt x100 x14) ≥ 128 then (pack_Reader_Vary.l0 k (Go.bits .or .u64 x4 (shl .u64 (IntKind.u64.wrap (Go.bits .and .u8 (bt x100 x14) 127)) (wrap64 (7 * x14)))) x13 (wrap64 (x14 + 1)) x100 x103) else (if 0 ≤ (wrap64 (x14 + 1)) then (if (wrap64 (x14 + 1)) ≤ (x100.size : Int) then ((pack_Vary.f k (Go.bits .or .u64 x4 (shl .u64 (IntKind.u64.wrap (Go.bits .and .u8 (bt x100 x14) 127)) (wrap64 (7 * x14))))).bind fun t182 => (if (x100.extract 0 ((wrap64 (x14 + 1)) : Int).toNat).toList = t182.toList then (some (Go.bits .or .u64 x4 (shl .u64 (IntKind.u64.wrap (Go.bits .and .u8 (bt x100 x14) 127)) (wrap64 (7 * x14))), x100.extract ((wrap64 (x14 + 1)) : Int).toNat x100.size, false)) else ((pack_bad.f).bind fun bt183 => (some (0, bt183.1, bt183.2))))) else (none)) else (none))) else (none)) else (none)) else (none)) else ((pack_bad.f).bind fun bt180 => (some (0, bt180.1, bt180.2)))
def pack_Reader_Vary.f (k : Nat) (a0_0 : ByteArray) (a0_1 : Bool) : Option (Int × ByteArray × Bool) := if a0_1 = true then ((pack_bad.f).bind fun bt178 => (some (0, bt178.1, bt178.2))) else (pack_Reader_Vary.l0 k 0 (mn (a0_0.size : Int) 10) 0 a0_0 a0_1)
def pack_Reader_Vary.T10 : Bool × List (List Nat × List Nat) := (true, [([], []), ([0], [0]), ([], []), ([2], [2]), ([1, 3], [1, 3]), ([], []), ([5], [5]), ([4, 6], [4, 6])])
def pack_Reader_Vary.B10 : List Nat := [0, 1, 0, 4, 15, 0, 32, 127]
theorem pack_Reader_Vary.tab10 : rtab .any (opsOf Try.f76 10) = pack_Reader_Vary.T10 := by kernel_rfl
theorem pack_Reader_Vary.bits10 : waitsOk pack_Reader_Vary.T10.2 pack_Reader_Vary.B10 = true := by kernel_rfl
def pack_Reader_Vary.T11 : Bool × List (List Nat × List Nat) := (true, [([], []), ([], []), ([1], [1]), ([], []), ([3], [3]), ([2, 4], [2, 4]), ([5], [5]), ([0, 0], [0]), ([6, 7, 0, 1, 2, 3, 4, 5, 6, 7], [6])])
def pack_Reader_Vary.B11 : List Nat := [0, 0, 2, 0, 8, 30, 62, 1, 255]
theorem pack_Reader_Vary.tab11 : rtab .any (opsOf Try.f76 11) = pack_Reader_Vary.T11 := by kernel_rfl
theorem pack_Reader_Vary.bits11 : waitsOk pack_Reader_Vary.T11.2 pack_Reader_Vary.B11 = true := by kernel_rfl
set_option maxHeartbeats 8000000 in
set_option maxRecDepth 100000 in
theorem pack_Reader_Vary.calls (k : Nat) (a0_0 : ByteArray) (a0_1 : Bool) (r1 : Int) (r2 : ByteArray) (r3 : Bool) (w : World) (h : pack_Reader_Vary.f k a0_0 a0_1 = some (r1, r2, r3)) :
  Calls Try.prog 76 #[.agg #[.string a0_0, .bool a0_1]] w fun e w' => e = .returned (.tuple #[.int .u64 r1, .agg #[.string r2, .bool r3]]) ∧ Below w.heap.size w w' := by
 have hu134 := Try.underlying134
 have HB := Aside0.mk (Below.refl w.heap.size w)
 have H : (if a0_1 = true then ((pack_bad.f).bind fun bt178 => (some (0, bt178.1, bt178.2))) else (pack_Reader_Vary.l0 k 0 (mn (a0_0.size : Int) 10) 0 a0_0 a0_1)) = some (r1, r2, r3) := h
 clear h
 by_cases c2 : a0_1 = true
 ·subst c2
  have H1 : ((pack_bad.f).bind fun bt178 => (some (0, bt178.1, bt178.2))) = some (r1, r2, r3) := by rw [if_pos rfl] at H; exact H
  clear H
  have H := H1
  clear H1
  replace H := Option.bind_eq_some_iff.mp H
  obtain ⟨⟨t178, t179⟩, A30, H⟩ := H
  replace H : (some (0, t178, t179)) = some (r1, r2, r3) := H
  have A3 := Aside0.mk A30
  clear A30
  simp only [Option.some.injEq, Prod.mk.injEq] at H
  obtain ⟨rfl, rfl, rfl⟩ := H
  go_enter Try.func76, Try.ntmps76
  go_wp2_with (first | ((with_reducible refine gate_dst (N := 1) rfl ?_); refine Ka_ 1 #[.string a0_0, .bool true] 134 ?_; intro gb176 hg w4 hbox hb; have BK176 := Aside0.mk (hbox); have GW176 := Kw_ HB hg; have GE176 := GW176; replace HB := Ks_ HB hb; clear hb hbox hg) | ((with_reducible refine gate_dst (N := 3) rfl ?_); refine Ka_ 3 #[.string (⟨#[]⟩ : ByteArray), .bool false] 134 ?_; intro gb177 hg w5 hbox hb; have BK177 := Aside0.mk (hbox); have GW177 := Kw_ HB hg; have GE177 := GW177; have NB176_177 := Kl_ BK176 hg; have NB177_176 := Kr_ BK176 hg; replace BK176 := Kb_ BK176 hb; replace HB := Ks_ HB hb; clear hb hbox hg; have hnb6 := NB176_177.out; have hnc6 := NB177_176.out; obtain ⟨hcz7_0, hcz7_1, hfz7_0, hfz7_1⟩ := Ke2_ BK176.out) | ((with_reducible refine gate_callee (f := 98) rfl ?_); refine Kg_ (some 9) rfl rfl Try.func98 (by kernel_rfl) rfl #[] rfl ?_; (with_reducible refine (pack_bad.calls  t178 t179 _ A3.out).mono ?_); rintro e w8 ⟨rfl, hb⟩; refine ⟨_, rfl, ?_⟩; replace BK176 := Kb_ BK176 hb; replace BK177 := Kb_ BK177 hb; replace HB := Ks_ HB hb; (try clear hb); (try clear hb2); (try clear hk); (try clear hi); obtain ⟨hcz9_0, hcz9_1, hfz9_0, hfz9_1⟩ := Ke2_ BK177.out))
  refine bodyPost_ret (results_tc rfl _ _ gb177 134 #[.string t178, .bool t179] (0, 0) _ rfl (by refine Kv_ ?_; refine blk_put (cs := #[.string t178, .bool false]) ?_ 1 _ rfl; refine Kv_ ?_; refine blk_put (cs := #[.string (⟨#[]⟩ : ByteArray), .bool false]) ?_ 0 _ rfl; exact Kq_ BK177) Try.underlying134 rfl (by kernel_rfl)) rfl ?_
  exact ⟨Kh_, K2a_ HB GE176 GE177⟩
 replace c2 := Bool.eq_false_iff.mpr c2
 subst c2
 have H1 : (pack_Reader_Vary.l0 k 0 (mn (a0_0.size : Int) 10) 0 a0_0 false) = some (r1, r2, r3) := by rw [if_neg (show ¬ (false = true) by decide)] at H; exact H
 clear H
 have H := H1
 clear H1
 obtain ⟨ji10, hji10⟩ : ∃ j_ : Int, (mn (a0_0.size : Int) 10) = j_ := ⟨_, rfl⟩
 replace H : (pack_Reader_Vary.l0 k 0 ji10 0 a0_0 false) = some (r1, r2, r3) := by first | (rw [hji10] at H; exact H) | (simp only [hji10] at H ⊢; exact H)
 (try (have hji10h : ji10 ≤ 10 := by (rw [← hji10]; unfold mn; (repeat' split) <;> omega)))
 (try (have hji10g : ji10 ≤ 64 := by omega))
 (try (have hji10l : 0 ≤ ji10 := by (rw [← hji10]; unfold mn; (repeat' split) <;> omega)))
 (try (have hji10m : 0 ≤ ji10 := by omega))
 have hji10_ : (if 10 < (a0_0.size : Int) then 10 else (a0_0.size : Int)) = ji10 := hji10
 have H' := Aside0.mk H
 clear H
 go_enter Try.func76, Try.ntmps76
 go_wp2_with (first | ((with_reducible refine gate_dst (N := 1) rfl ?_); refine Ka_ 1 #[.string a0_0, .bool false] 134 ?_; intro gb176 hg w11 hbox hb; have BK176 := Aside0.mk (hbox); have GW176 := Kw_ HB hg; have GE176 := GW176; replace HB := Ks_ HB hb; clear hb hbox hg) | ((with_reducible refine gate_dst (N := 3) rfl ?_); refine Ka_ 3 #[.string (⟨#[]⟩ : ByteArray), .bool false] 134 ?_; intro gb177 hg w12 hbox hb; have BK177 := Aside0.mk (hbox); have GW177 := Kw_ HB hg; have GE177 := GW177; have NB176_177 := Kl_ BK176 hg; have NB177_176 := Kr_ BK176 hg; replace BK176 := Kb_ BK176 hb; replace HB := Ks_ HB hb; clear hb hbox hg; have hnb13 := NB176_177.out; have hnc13 := NB177_176.out; obtain ⟨hcz14_0, hcz14_1, hfz14_0, hfz14_1⟩ := Ke2_ BK176.out))
 go_loopg [4, 14] k (fun kq v4 v14 w' => ∃ (x4_1 : Int) (x14_1 : Int) (x102_1 : ByteArray) (x101_1 : Bool), v4 = .int .u64 x4_1 ∧ v14 = .int .i64 x14_1 ∧ Aside0 (pack_Reader_Vary.l0 kq x4_1 ji10 x14_1 a0_0 false = some (r1, r2, r3)) ∧ Aside0 (kq ≤ k) ∧ Aside0 (w'.heap[gb176]? = some (.cells #[.string a0_0, .bool false] 134 (0, 0))) ∧ Aside0 (w'.heap[gb177]? = some (.cells #[.string x102_1, .bool x101_1] 134 (0, 0))) ∧ Aside0 (Below w.heap.size w w'))
 case atStart => exact ⟨(0), (0), ((⟨#[]⟩ : ByteArray)), (false), (by first | rfl | (simp; done) | (simp [*]; done)), (by first | rfl | (simp; done) | (simp [*]; done)), H', ⟨Nat.le_refl _⟩, ⟨by exact Kq_ BK176⟩, ⟨by exact Kq_ BK177⟩, ⟨K2a_ HB GE176 GE177⟩⟩
 case round =>
  clear H'
  try clear c1
  try clear c2
  try clear p2
  try clear c6
  try clear c7
  try clear c9
  try clear c13
  try clear hcz14_0
  try clear hcz14_1
  try clear hcz7_0
  try clear hcz7_1
  try clear hcz9_0
  try clear hcz9_1
  try clear hfz14_0
  try clear hfz14_1
  try clear hfz7_0
  try clear hfz7_1
  try clear hfz9_0
  try clear hfz9_1
  obtain ⟨x4_1, x14_1, x102_1, x101_1, rfl, rfl, HA, HK1, BK176, BK177, HB⟩ := hrel
  cases gk with
  | zero => exact absurd HA.out (by simp [pack_Reader_Vary.l0])
  | succ k1 =>
   have H := HA.out
   clear HA
   simp only [pack_Reader_Vary.l0] at H
   by_cases c15 : x14_1 < ji10
   rotate_left
   ·rw [if_neg c15] at H
    have c15b0 : decide (x14_1 < ji10) = false := decide_eq_false c15
    clear c15
    replace H := Option.bind_eq_some_iff.mp H
    obtain ⟨⟨t180, t181⟩, A460, H⟩ := H
    replace H : (some (0, t180, t181)) = some (r1, r2, r3) := H
    have A46 := Aside0.mk A460
    clear A460
    simp only [Option.some.injEq, Prod.mk.injEq] at H
    obtain ⟨rfl, rfl, rfl⟩ := H
    go_wp2_with (first | ((with_reducible refine gate_callee (f := 98) rfl ?_); refine Kg_ (some 47) rfl rfl Try.func98 (by kernel_rfl) rfl #[] rfl ?_; (with_reducible refine (pack_bad.calls  t180 t181 _ A46.out).mono ?_); rintro e w47 ⟨rfl, hb⟩; refine ⟨_, rfl, ?_⟩; replace BK176 := Kb_ BK176 hb; replace BK177 := Kb_ BK177 hb; replace HB := Ks_ HB hb; (try clear hb); (try clear hb2); (try clear hk); (try clear hi); have hnb48 := NB177_176.out; have hnc48 := NB176_177.out; obtain ⟨hcz49_0, hcz49_1, hfz49_0, hfz49_1⟩ := Ke2_ BK177.out))
    refine bodyPost_ret (results_tc rfl _ _ gb177 134 #[.string t180, .bool t181] (0, 0) _ rfl (by refine Kv_ ?_; refine blk_put (cs := #[.string t180, .bool x101_1]) ?_ 1 _ rfl; refine Kv_ ?_; refine blk_put (cs := #[.string x102_1, .bool x101_1]) ?_ 0 _ rfl; exact Kq_ BK177) Try.underlying134 rfl (by kernel_rfl)) rfl ?_
    exact ⟨by first | rfl | (simp [errW_none, errW_some] <;> rfl) | (simp only [← hji10]; first | rfl | (simp [errW_none, errW_some] <;> rfl)) | (simp [*, errW_none, errW_some] <;> rfl), K2a_ HB GE176 GE177⟩
   rw [if_pos c15] at H
   have c15b0 : decide (x14_1 < ji10) = true := decide_eq_true c15
   clear c15
   by_cases c16 : 0 ≤ x14_1
   rotate_left
   ·rw [if_neg c16] at H
    exact absurd H (by simp)
   rw [if_pos c16] at H
   have c16b0 : decide (0 ≤ x14_1) = true := decide_eq_true c16
   clear c16
   by_cases c17 : x14_1 < (a0_0.size : Int)
   rotate_left
   ·rw [if_neg c17] at H
    exact absurd H (by simp)
   rw [if_pos c17] at H
   have c17b0 : decide (x14_1 < (a0_0.size : Int)) = true := decide_eq_true c17
   clear c17
   obtain ⟨ji19, hji19⟩ : ∃ j_ : Int, (wrap64 (7 * x14_1)) = j_ := ⟨_, rfl⟩
   replace H : (if 0 ≤ (ji19) then (if (bt a0_0 x14_1) ≥ 128 then (pack_Reader_Vary.l0 k1 (Go.bits .or .u64 x4_1 (shl .u64 (IntKind.u64.wrap (Go.bits .and .u8 (bt a0_0 x14_1) 127)) (ji19))) ji10 (wrap64 (x14_1 + 1)) a0_0 false) else (if 0 ≤ (wrap64 (x14_1 + 1)) then (if (wrap64 (x14_1 + 1)) ≤ (a0_0.size : Int) then ((pack_Vary.f k1 (Go.bits .or .u64 x4_1 (shl .u64 (IntKind.u64.wrap (Go.bits .and .u8 (bt a0_0 x14_1) 127)) (ji19)))).bind fun t182 => (if (a0_0.extract 0 ((wrap64 (x14_1 + 1)) : Int).toNat).toList = t182.toList then (some (Go.bits .or .u64 x4_1 (shl .u64 (IntKind.u64.wrap (Go.bits .and .u8 (bt a0_0 x14_1) 127)) (ji19)), a0_0.extract ((wrap64 (x14_1 + 1)) : Int).toNat a0_0.size, false)) else ((pack_bad.f).bind fun bt183 => (some (0, bt183.1, bt183.2))))) else (none)) else (none))) else (none)) = some (r1, r2, r3) := by first | (rw [hji19] at H; exact H) | (simp only [hji19] at H ⊢; exact H)
   have hji19w : (IntKind.i64.wrap (7 * x14_1)) = ji19 := (i64_w _).trans hji19
   by_cases c20 : 0 ≤ (ji19)
   rotate_left
   ·rw [if_neg c20] at H
    exact absurd H (by simp)
   rw [if_pos c20] at H
   have c20b0 := eq_true c20
   have c20b1 : decide (0 ≤ (ji19)) = true := decide_eq_true c20
   clear c20
   obtain ⟨ji21, hji21⟩ : ∃ j_ : Int, (shl .u64 (IntKind.u64.wrap (Go.bits .and .u8 (bt a0_0 x14_1) 127)) (ji19)) = j_ := ⟨_, rfl⟩
   replace H : (if (bt a0_0 x14_1) ≥ 128 then (pack_Reader_Vary.l0 k1 (Go.bits .or .u64 x4_1 (ji21)) ji10 (wrap64 (x14_1 + 1)) a0_0 false) else (if 0 ≤ (wrap64 (x14_1 + 1)) then (if (wrap64 (x14_1 + 1)) ≤ (a0_0.size : Int) then ((pack_Vary.f k1 (Go.bits .or .u64 x4_1 (ji21))).bind fun t182 => (if (a0_0.extract 0 ((wrap64 (x14_1 + 1)) : Int).toNat).toList = t182.toList then (some (Go.bits .or .u64 x4_1 (ji21), a0_0.extract ((wrap64 (x14_1 + 1)) : Int).toNat a0_0.size, false)) else ((pack_bad.f).bind fun bt183 => (some (0, bt183.1, bt183.2))))) else (none)) else (none))) = some (r1, r2, r3) := by first | (rw [hji21] at H; exact H) | (simp only [hji21] at H ⊢; exact H)
   have hji21_ : (IntKind.u64.wrap ((IntKind.u64.wrap (Go.bits .and .u8 (bt a0_0 x14_1) 127)) * 2 ^ min (ji19).toNat 64)) = ji21 := hji21
   have hji21z : (ji19) ≤ 64 → (IntKind.u64.wrap ((IntKind.u64.wrap (Go.bits .and .u8 (bt a0_0 x14_1) 127)) * 2 ^ (ji19).toNat)) = ji21 := shl_small hji21
   by_cases c22 : (bt a0_0 x14_1) ≥ 128
   ·rw [if_pos c22] at H
    have c22b0 : decide (128 ≤ (bt a0_0 x14_1)) = true := decide_eq_true c22
    clear c22
    have H' := Aside0.mk H
    clear H
    have hnb23 := NB176_177.out
    have hnc23 := NB177_176.out
    obtain ⟨hcz24_0, hcz24_1, hfz24_0, hfz24_1⟩ := Ke2_ BK176.out
    have p18 : 0 ≤ (x14_1 : Int) := of_decide_eq_true (by first | (with_reducible assumption) | assumption)
    have q18 : x14_1 < (a0_0.size : Int) := of_decide_eq_true (by first | (with_reducible assumption) | assumption)
    have hx18 := bt_at a0_0 x14_1
    replace p18 := eq_true p18
    replace q18 := eq_true q18
    go_wp2
    go_roundg k1
    case measure => have := HK1.out; omega
    case rel => exact ⟨(Go.bits .or .u64 x4_1 (ji21)), (wrap64 (x14_1 + 1)), (x102_1), (x101_1), (by first | rfl | (simp; done) | (simp only [← hji21] <;> (first | rfl | simp)) | (simp [*]; done)), (by first | rfl | (simp; done) | (simp [*]; done)), H', ⟨by have := HK1.out; omega⟩, ⟨by exact Kq_ BK176⟩, ⟨by exact Kq_ BK177⟩, ⟨K2a_ HB GE176 GE177⟩⟩
   rw [if_neg c22] at H
   have c22b0 : decide (128 ≤ (bt a0_0 x14_1)) = false := decide_eq_false c22
   clear c22
   obtain ⟨ji25, hji25⟩ : ∃ j_ : Int, (wrap64 (x14_1 + 1)) = j_ := ⟨_, rfl⟩
   replace H : (if 0 ≤ (ji25) then (if (ji25) ≤ (a0_0.size : Int) then ((pack_Vary.f k1 (Go.bits .or .u64 x4_1 (ji21))).bind fun t182 => (if (a0_0.extract 0 ((ji25) : Int).toNat).toList = t182.toList then (some (Go.bits .or .u64 x4_1 (ji21), a0_0.extract ((ji25) : Int).toNat a0_0.size, false)) else ((pack_bad.f).bind fun bt183 => (some (0, bt183.1, bt183.2))))) else (none)) else (none)) = some (r1, r2, r3) := by first | (rw [hji25] at H; exact H) | (simp only [hji25] at H ⊢; exact H)
   have hji25w : (IntKind.i64.wrap (x14_1 + 1)) = ji25 := (i64_w _).trans hji25
   by_cases c26 : 0 ≤ (ji25)
   rotate_left
   ·rw [if_neg c26] at H
    exact absurd H (by simp)
   rw [if_pos c26] at H
   have c26b0 := eq_true c26
   have c26b1 : decide (0 ≤ (ji25)) = true := decide_eq_true c26
   clear c26
   by_cases c27 : (ji25) ≤ (a0_0.size : Int)
   rotate_left
   ·rw [if_neg c27] at H
    exact absurd H (by simp)
   rw [if_pos c27] at H
   have c27b0 := eq_true c27
   have c27b1 : decide ((ji25) ≤ (a0_0.size : Int)) = true := decide_eq_true c27
   clear c27
   replace H := Option.bind_eq_some_iff.mp H
   obtain ⟨t182, A280, H⟩ := H
   replace H : (if (a0_0.extract 0 ((ji25) : Int).toNat).toList = t182.toList then (some (Go.bits .or .u64 x4_1 (ji21), a0_0.extract ((ji25) : Int).toNat a0_0.size, false)) else ((pack_bad.f).bind fun bt183 => (some (0, bt183.1, bt183.2)))) = some (r1, r2, r3) := H
   have A28 := Aside0.mk A280
   clear A280
   by_cases c29 : (a0_0.extract 0 ((ji25) : Int).toNat).toList = t182.toList
   rotate_left
   ·rw [if_neg c29] at H
    have c29b0 : ((a0_0.extract 0 ((ji25) : Int).toNat).toList == t182.toList) = false := beq_eq_false_iff_ne.mpr c29
    have c29b1 : ((a0_0.extract 0 ((ji25) : Int).toNat).toList != t182.toList) = true := bne_iff_ne.mpr c29
    replace H := Option.bind_eq_some_iff.mp H
    obtain ⟨⟨t183, t184⟩, A390, H⟩ := H
    replace H : (some (0, t183, t184)) = some (r1, r2, r3) := H
    have A39 := Aside0.mk A390
    clear A390
    simp only [Option.some.injEq, Prod.mk.injEq] at H
    obtain ⟨rfl, rfl, rfl⟩ := H
    have hnb40 := NB176_177.out
    have hnc40 := NB177_176.out
    obtain ⟨hcz41_0, hcz41_1, hfz41_0, hfz41_1⟩ := Ke2_ BK176.out
    have p18 : 0 ≤ (x14_1 : Int) := of_decide_eq_true (by first | (with_reducible assumption) | assumption)
    have q18 : x14_1 < (a0_0.size : Int) := of_decide_eq_true (by first | (with_reducible assumption) | assumption)
    have hx18 := bt_at a0_0 x14_1
    replace p18 := eq_true p18
    replace q18 := eq_true q18
    try go_wp2
    replace BK176 := Kd_ BK176
    replace BK177 := Kd_ BK177
    replace HB := Aside0.mk (below_drew1 HB.out)
    refine start_ (n := 8) (S := fun w' => w'.cell? ⟨gb176, 0, none⟩ = some (.string a0_0) ∧ w'.cell? ⟨gb176, 1, none⟩ = some (.bool false)) (ds := []) (mB_ 8 0) (by kernel_rfl) rfl rfl (Kc2_ BK176.out) (fun hHeld => ?_); refine with_tabW pack_Reader_Vary.tab10 pack_Reader_Vary.bits10 (fun HT_ HW_ => ?_)
    generalize wr.drew = w42 at BK176 BK177 HB hHeld ⊢
    refine Kp_ 0 31 (mB_ 8 1) (any_of HT_.out (by kernel_rfl)) ?_
    refine Kp_ 2 33 (mB_ 8 5) (any_of HT_.out (by kernel_rfl)) ?_
    refine Kp_ 3 34 (mB_ 8 13) (any_of HT_.out (by kernel_rfl)) ?_
    refine Kp_ 5 36 (mB_ 8 45) (any_of HT_.out (by kernel_rfl)) ?_
    refine Ko_ 1 32 (mB_ 8 47) (take_ofW HT_.out HW_.out (by kernel_rfl)) hHeld ?_
    refine Kp_ 4 35 (mB_ 8 63) (any_of HT_.out (by kernel_rfl)) ?_
    refine one_ (i := 6) (N := some 37) (mB_ 8 127) rfl rfl (one_of HT_.out (by kernel_rfl)) (by decide) (fun K hK => ?_)
    refine goes_ Try.func60 (by kernel_rfl) rfl #[.int .u64 (Go.bits .or .u64 x4_1 (ji21))] (by rfl) rfl rfl (by (try simp only [List.map_toArray, List.map_cons, List.map_nil]); first | done | (simp only [hji21]; rfl) | rfl | (simp only [List.length_drop, List.length_take]; rfl)) ?_
    with_reducible refine (pack_Vary.calls k1 (Go.bits .or .u64 x4_1 (ji21)) t182 _ A28.out).mono ?_
    rintro e w43 ⟨rfl, hb⟩
    refine ⟨_, rfl, ?_⟩
    replace BK176 := Kb_ BK176 hb
    replace BK177 := Kb_ BK177 hb
    replace HB := Ks_ HB hb
    (try clear hb)
    (try clear hb2)
    (try clear hk)
    (try clear hi)
    refine hK.out _ _ (Kc2_ BK176.out) (fun hHeld => ?_)
    clear hK K
    refine Kn_ 37 ?_
    refine Kp_ 7 38 (mB_ 8 255) (any_of HT_.out (by kernel_rfl)) ?_
    refine done_ (done_of HT_.out (by kernel_rfl)) ?_
    try go_wp2_with (first | ((with_reducible refine gate_callee (f := 98) rfl ?_); refine Kg_ (some 47) rfl rfl Try.func98 (by kernel_rfl) rfl #[] rfl ?_; (with_reducible refine (pack_bad.calls  t183 t184 _ A39.out).mono ?_); rintro e w44 ⟨rfl, hb⟩; refine ⟨_, rfl, ?_⟩; replace BK176 := Kb_ BK176 hb; replace BK177 := Kb_ BK177 hb; replace HB := Ks_ HB hb; (try clear hb); (try clear hb2); (try clear hk); (try clear hi); obtain ⟨hcz45_0, hcz45_1, hfz45_0, hfz45_1⟩ := Ke2_ BK177.out))
    refine bodyPost_ret (results_tc rfl _ _ gb177 134 #[.string t183, .bool t184] (0, 0) _ rfl (by refine Kv_ ?_; refine blk_put (cs := #[.string t183, .bool x101_1]) ?_ 1 _ rfl; refine Kv_ ?_; refine blk_put (cs := #[.string x102_1, .bool x101_1]) ?_ 0 _ rfl; exact Kq_ BK177) Try.underlying134 rfl (by kernel_rfl)) rfl ?_
    exact ⟨by first | rfl | (simp [errW_none, errW_some] <;> rfl) | (simp only [← hji10, ← hji19, ← hji21, ← hji25]; first | rfl | (simp [errW_none, errW_some] <;> rfl)) | (simp [*, errW_none, errW_some] <;> rfl), K2a_ HB GE176 GE177⟩
   rw [if_pos c29] at H
   have c29b0 : ((a0_0.extract 0 ((ji25) : Int).toNat).toList == t182.toList) = true := beq_iff_eq.mpr c29
   have c29b1 : ((a0_0.extract 0 ((ji25) : Int).toNat).toList != t182.toList) = false := bne_eq_false_iff_eq.mpr c29
   clear c29
   have c30b0 := eq_true (of_decide_eq_true (by first | (with_reducible assumption) | assumption) : 0 ≤ (ji25))
   have c31b0 := eq_true (of_decide_eq_true (by first | (with_reducible assumption) | assumption) : (ji25) ≤ (a0_0.size : Int))
   simp only [Option.some.injEq, Prod.mk.injEq] at H
   obtain ⟨rfl, rfl, rfl⟩ := H
   have hnb32 := NB176_177.out
   have hnc32 := NB177_176.out
   obtain ⟨hcz33_0, hcz33_1, hfz33_0, hfz33_1⟩ := Ke2_ BK176.out
   have p18 : 0 ≤ (x14_1 : Int) := of_decide_eq_true (by first | (with_reducible assumption) | assumption)
   have q18 : x14_1 < (a0_0.size : Int) := of_decide_eq_true (by first | (with_reducible assumption) | assumption)
   have hx18 := bt_at a0_0 x14_1
   replace p18 := eq_true p18
   replace q18 := eq_true q18
   try go_wp2
   replace BK176 := Kd_ BK176
   replace BK177 := Kd_ BK177
   replace HB := Aside0.mk (below_drew1 HB.out)
   refine start_ (n := 8) (S := fun w' => w'.cell? ⟨gb176, 0, none⟩ = some (.string a0_0) ∧ w'.cell? ⟨gb176, 1, none⟩ = some (.bool false)) (ds := []) (mB_ 8 0) (by kernel_rfl) rfl rfl (Kc2_ BK176.out) (fun hHeld => ?_); refine with_tabW pack_Reader_Vary.tab10 pack_Reader_Vary.bits10 (fun HT_ HW_ => ?_)
   generalize wr.drew = w34 at BK176 BK177 HB hHeld ⊢
   refine Kp_ 0 31 (mB_ 8 1) (any_of HT_.out (by kernel_rfl)) ?_
   refine Kp_ 2 33 (mB_ 8 5) (any_of HT_.out (by kernel_rfl)) ?_
   refine Kp_ 3 34 (mB_ 8 13) (any_of HT_.out (by kernel_rfl)) ?_
   refine Kp_ 5 36 (mB_ 8 45) (any_of HT_.out (by kernel_rfl)) ?_
   refine Ko_ 1 32 (mB_ 8 47) (take_ofW HT_.out HW_.out (by kernel_rfl)) hHeld ?_
   refine Kp_ 4 35 (mB_ 8 63) (any_of HT_.out (by kernel_rfl)) ?_
   refine one_ (i := 6) (N := some 37) (mB_ 8 127) rfl rfl (one_of HT_.out (by kernel_rfl)) (by decide) (fun K hK => ?_)
   refine goes_ Try.func60 (by kernel_rfl) rfl #[.int .u64 (Go.bits .or .u64 x4_1 (ji21))] (by rfl) rfl rfl (by (try simp only [List.map_toArray, List.map_cons, List.map_nil]); first | done | (simp only [hji21]; rfl) | rfl | (simp only [List.length_drop, List.length_take]; rfl)) ?_
   with_reducible refine (pack_Vary.calls k1 (Go.bits .or .u64 x4_1 (ji21)) t182 _ A28.out).mono ?_
   rintro e w35 ⟨rfl, hb⟩
   refine ⟨_, rfl, ?_⟩
   replace BK176 := Kb_ BK176 hb
   replace BK177 := Kb_ BK177 hb
   replace HB := Ks_ HB hb
   (try clear hb)
   (try clear hb2)
   (try clear hk)
   (try clear hi)
   refine hK.out _ _ (Kc2_ BK176.out) (fun hHeld => ?_)
   clear hK K
   refine Kn_ 37 ?_
   refine Kp_ 7 38 (mB_ 8 255) (any_of HT_.out (by kernel_rfl)) ?_
   refine done_ (done_of HT_.out (by kernel_rfl)) ?_
   try go_wp2
   replace BK176 := Kd_ BK176
   replace BK177 := Kd_ BK177
   replace HB := Aside0.mk (below_drew1 HB.out)
   refine start_ (n := 9) (S := fun w' => w'.cell? ⟨gb176, 0, none⟩ = some (.string a0_0) ∧ w'.cell? ⟨gb176, 1, none⟩ = some (.bool false)) (ds := []) (mB_ 9 0) (by kernel_rfl) rfl rfl (Kc2_ BK176.out) (fun hHeld => ?_); refine with_tabW pack_Reader_Vary.tab11 pack_Reader_Vary.bits11 (fun HT_ HW_ => ?_)
   generalize w35.drew = w36 at BK176 BK177 HB hHeld ⊢
   refine Kp_ 0 39 (mB_ 9 1) (any_of HT_.out (by kernel_rfl)) ?_
   refine Kp_ 1 40 (mB_ 9 3) (any_of HT_.out (by kernel_rfl)) ?_
   refine Kp_ 3 42 (mB_ 9 11) (any_of HT_.out (by kernel_rfl)) ?_
   refine Kp_ 4 43 (mB_ 9 27) (any_of HT_.out (by kernel_rfl)) ?_
   refine Kp_ 7 2 (mB_ 9 155) (any_of HT_.out (by kernel_rfl)) ?_
   refine Ko_ 2 41 (mB_ 9 159) (take_ofW HT_.out HW_.out (by kernel_rfl)) hHeld ?_
   refine Kp_ 5 44 (mB_ 9 191) (any_of HT_.out (by kernel_rfl)) ?_
   refine Kp_ 6 45 (mB_ 9 255) (any_of HT_.out (by kernel_rfl)) ?_
   refine one_ (i := 8) (N := none) (mB_ 9 511) rfl rfl (one_of HT_.out (by kernel_rfl)) (by decide) (fun K hK => ?_)
   have hs37 : w36.cell? ⟨gb177, 0, none⟩ = some (.string x102_1) := (blk_cell BK177.out 0).trans rfl
   have hfs37 := blk_frozen BK177.out 0
   have hns37_0 := NB176_177.out
   have hms37_0 := NB177_176.out
   have hs38 : w36.cell? ⟨gb177, 1, none⟩ = some (.bool x101_1) := (blk_cell BK177.out 1).trans rfl
   have hfs38 := blk_frozen BK177.out 1
   have hns38_0 := NB176_177.out
   have hms38_0 := NB177_176.out
   refine skip_ (w1 := ?_) (by rfl) rfl ?_ ?_
   rotate_left
   ·go_simp
    rfl
   refine hK.out _ _ ⟨(Kj_ NB176_177 ((Kj_ NB176_177 (hHeld.1)))), (Kj_ NB176_177 ((Kj_ NB176_177 (hHeld.2))))⟩ (fun hHeld => ?_)
   clear hK K
   refine done_ (done_of HT_.out (by kernel_rfl)) ?_
   try go_wp2
   refine bodyPost_ret (results_tc rfl _ _ gb177 134 #[.string (a0_0.extract ((ji25) : Int).toNat a0_0.size), .bool false] (0, 0) _ rfl (by refine Kv_ ?_; refine blk_put (cs := #[.string (a0_0.extract ((ji25) : Int).toNat a0_0.size), .bool x101_1]) ?_ 1 _ rfl; refine Kv_ ?_; refine blk_put (cs := #[.string x102_1, .bool x101_1]) ?_ 0 _ rfl; exact Kq_ BK177) Try.underlying134 rfl (by kernel_rfl)) rfl ?_
   exact ⟨by first | rfl | (simp [errW_none, errW_some] <;> rfl) | (simp only [← hji10, ← hji19, ← hji21, ← hji25]; first | rfl | (simp [errW_none, errW_some] <;> rfl)) | (simp [*, errW_none, errW_some] <;> rfl), K2a_ HB GE176 GE177⟩
end Go.Proofs.Ytoagfdpgnfinhaa.Q
