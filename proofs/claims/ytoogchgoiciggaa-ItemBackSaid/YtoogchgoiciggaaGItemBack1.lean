import Derived.Test.YtoogchgoiciggaaQx0
import Derived.Test.YtoogchgoiciggaaGItemBack0
namespace Go.Proofs.Ytoogchgoiciggaa.Q
open Go.RowKit Go.Proofs.YtoogchgoiciggaaW.PrintWords Go.Proofs.YtoogchgoiciggaaW.PrintLast Go.Proofs.YtoogchgoiciggaaW.PrintMore
attribute [local go_sem] max2_int min2_int max_two min_two max_three min_three max_four min_four   -- for this text's walks alone
set_option linter.unusedVariables false
set_option linter.unusedSimpArgs false
/-! ### item_Bytes: function 15 -/
def item_Bytes.l0 : Nat → ByteArray → List (S23) → Int → Int → Option (ByteArray × Bool)
  | 0, _, _, _, _ => none
  | k + 1, x4, x25, x26, x27 => if x27 < x26 then (if 0 ≤ x27 then (if x27 < (x25.length : Int) then ((pack_Text.f k ((rd_T23 x25 x27).f0)).bind fun t132 => ((pack_Text.f k ((rd_T23 x25 x27).f1)).bind fun t133 => (if t132.size + t133.size ≤ 9223372036854775807 then (if x4.size + (t132 ++ t133).size ≤ 9223372036854775807 then (if (rd_T23 x25 x27).f3 = true then ((pack_Number.f 1 1).bind fun t134 => (if (x4 ++ (t132 ++ t133)).size + t134.size ≤ 9223372036854775807 then (item_Bytes.l0 k ((x4 ++ (t132 ++ t133)) ++ t134) x25 x26 (wrap64 (x27 + 1))) else (none))) else ((pack_Number.f 0 1).bind fun t135 => ((pack_Text.f k ((rd_T23 x25 x27).f2)).bind fun t136 => (if t135.size + t136.size ≤ 9223372036854775807 then (if (x4 ++ (t132 ++ t133)).size + (t135 ++ t136).size ≤ 9223372036854775807 then (item_Bytes.l0 k ((x4 ++ (t132 ++ t133)) ++ (t135 ++ t136)) x25 x26 (wrap64 (x27 + 1))) else (none)) else (none))))) else (none)) else (none)))) else (none)) else (none)) else (some (x4, true))
def item_Bytes.f (k : Nat) (a0_0 : Int) (a0_1 : Int) (a0_2 : Int) (a0_3 : Int) (a0_4 : Int) (l0_5 : List (S23)) : Option (ByteArray × Bool) := (item_Whole.f a0_0 a0_1 a0_2 a0_3 a0_4 l0_5).bind fun t126 => (if t126 = true then ((stamp_Put.f k a0_0 a0_1 a0_2 a0_3 a0_4).bind fun bt127 => ((pack_Number.f (IntKind.u64.wrap ((l0_5.length : Int))) 1).bind fun t129 => (if bt127.1.size + t129.size ≤ 9223372036854775807 then (item_Bytes.l0 k (bt127.1 ++ t129) l0_5 (l0_5.length : Int) 0) else (none)))) else (some ((⟨#[]⟩ : ByteArray), false)))
theorem item_Bytes.mono_l : ∀ k, (∀ y0 y1 y2 y3, LeO (item_Bytes.l0 k y0 y1 y2 y3) (item_Bytes.l0 (k + 1) y0 y1 y2 y3))
  | 0 => fun _ _ _ _ r h => by simp [item_Bytes.l0] at h
  | k + 1 => by
    have ih0 := item_Bytes.mono_l k
    · intro y0 y1 y2 y3
      unfold item_Bytes.l0
      repeat' first
      | (with_reducible exact ih0 _ _ _ _)
      | (with_reducible exact pack_Text.mono _ _)
      | (with_reducible exact stamp_Put.mono _ _ _ _ _ _)
      | (with_reducible exact LeO.refl _)
      | (with_reducible exact LeO.none _)
      | (with_reducible refine LeO.ite ?_ ?_)
      | (with_reducible refine LeO.bind ?_ (fun _ => ?_))
      | exact ih0 _ _ _ _
      | exact pack_Text.mono _ _
      | exact stamp_Put.mono _ _ _ _ _ _
      | exact LeO.none _
      | refine LeO.ite ?_ ?_
      | refine LeO.bind ?_ (fun _ => ?_)
theorem item_Bytes.mono : ∀ a0 a1 a2 a3 a4 a5 k, LeO (item_Bytes.f k a0 a1 a2 a3 a4 a5) (item_Bytes.f (k + 1) a0 a1 a2 a3 a4 a5) := by
  intro a0 a1 a2 a3 a4 a5 k
  have ih0 := item_Bytes.mono_l k
  unfold item_Bytes.f
  repeat' first
      | (with_reducible exact ih0 _ _ _ _)
      | (with_reducible exact pack_Text.mono _ _)
      | (with_reducible exact stamp_Put.mono _ _ _ _ _ _)
      | (with_reducible exact LeO.refl _)
      | (with_reducible exact LeO.none _)
      | (with_reducible refine LeO.ite ?_ ?_)
      | (with_reducible refine LeO.bind ?_ (fun _ => ?_))
      | exact ih0 _ _ _ _
      | exact pack_Text.mono _ _
      | exact stamp_Put.mono _ _ _ _ _ _
      | exact LeO.none _
      | refine LeO.ite ?_ ?_
      | refine LeO.bind ?_ (fun _ => ?_)
def item_Bytes.T8 : Bool × List (List Nat × List Nat) := (true, [([], []), ([], []), ([1], [1]), ([2], [2]), ([], []), ([4], [4]), ([5, 3], [5]), ([3, 6], [3, 6]), ([0, 7], [0, 7]), ([8, 6, 0, 1, 2, 3, 4, 5, 6, 7, 8], [0, 8])])
def item_Bytes.B8 : List Nat := [0, 0, 2, 6, 0, 16, 62, 126, 255, 511]
theorem item_Bytes.tab8 : rtab .any (opsOf Try.f15 8) = item_Bytes.T8 := by kernel_rfl
theorem item_Bytes.bits8 : waitsOk item_Bytes.T8.2 item_Bytes.B8 = true := by kernel_rfl
def item_Bytes.T11 : Bool × List (List Nat × List Nat) := (true, [([], []), ([], []), ([], []), ([2], [2]), ([3, 1], [3]), ([1, 4], [1, 4]), ([0, 5], [0, 5]), ([6, 4, 0, 1, 2, 3, 4, 5, 6], [0, 6])])
def item_Bytes.B11 : List Nat := [0, 0, 0, 4, 14, 30, 63, 127]
theorem item_Bytes.tab11 : rtab .any (opsOf Try.f15 11) = item_Bytes.T11 := by kernel_rfl
theorem item_Bytes.bits11 : waitsOk item_Bytes.T11.2 item_Bytes.B11 = true := by kernel_rfl
set_option maxHeartbeats 8000000 in
set_option maxRecDepth 100000 in
theorem item_Bytes.calls (k : Nat) (a0_0 : Int) (a0_1 : Int) (a0_2 : Int) (a0_3 : Int) (a0_4 : Int) (A0_5 : Option Addr) (c0_5 : Nat) (l0_5 : List (S23)) (r1 : ByteArray) (r2 : Bool) (w : World) (hr0_5 : Kd.C k23 w A0_5 l0_5.length l0_5) (hc0_5 : l0_5.length ≤ c0_5) (h : item_Bytes.f k a0_0 a0_1 a0_2 a0_3 a0_4 l0_5 = some (r1, r2)) :
    Calls Try.prog 15 #[.agg #[.int .u64 a0_0, .int .u64 a0_1, .int .u64 a0_2, .int .u64 a0_3, .int .i64 a0_4, .slice A0_5 l0_5.length c0_5]] w fun e w' => e = .returned (.tuple #[.string r1, .bool r2]) ∧ Below w.heap.size w w' := by
  have hu43 := Try.underlying43
  have hu30 := Try.underlying30
  have hu23 := Try.underlying23
  have HR0_5 := Aside0.mk hr0_5
  have HC0_5 := Aside0.mk hc0_5
  clear hr0_5 hc0_5
  have HB := Aside0.mk (Below.refl w.heap.size w)
  have H : ((item_Whole.f a0_0 a0_1 a0_2 a0_3 a0_4 l0_5).bind fun t126 => (if t126 = true then ((stamp_Put.f k a0_0 a0_1 a0_2 a0_3 a0_4).bind fun bt127 => ((pack_Number.f (IntKind.u64.wrap ((l0_5.length : Int))) 1).bind fun t129 => (if bt127.1.size + t129.size ≤ 9223372036854775807 then (item_Bytes.l0 k (bt127.1 ++ t129) l0_5 (l0_5.length : Int) 0) else (none)))) else (some ((⟨#[]⟩ : ByteArray), false)))) = some (r1, r2) := h
  (try (have Hs_ := H; simp only [ByteArray.size_append, Int.natCast_add] at Hs_))
  clear h
  replace H := Option.bind_eq_some_iff.mp H
  obtain ⟨t126, A20, H⟩ := H
  replace H : (if t126 = true then ((stamp_Put.f k a0_0 a0_1 a0_2 a0_3 a0_4).bind fun bt127 => ((pack_Number.f (IntKind.u64.wrap ((l0_5.length : Int))) 1).bind fun t129 => (if bt127.1.size + t129.size ≤ 9223372036854775807 then (item_Bytes.l0 k (bt127.1 ++ t129) l0_5 (l0_5.length : Int) 0) else (none)))) else (some ((⟨#[]⟩ : ByteArray), false))) = some (r1, r2) := H
  have A2 := Aside0.mk A20
  clear A20
  by_cases c3 : t126 = true
  rotate_left
  · replace c3 := Bool.eq_false_iff.mpr c3
    subst c3
    have H1 : (some ((⟨#[]⟩ : ByteArray), false)) = some (r1, r2) := by rw [if_neg (show ¬ (false = true) by decide)] at H; exact H
    clear H
    have H := H1
    clear H1
    simp only [Option.some.injEq, Prod.mk.injEq] at H
    obtain ⟨rfl, rfl⟩ := H
    go_enter Try.func15, Try.ntmps15
    go_wp2_with (first | ((with_reducible refine gate_dst (N := 1) rfl ?_); refine box_event ?hg (N := 1) ?hd (cs := #[.int .u64 a0_0, .int .u64 a0_1, .int .u64 a0_2, .int .u64 a0_3, .int .i64 a0_4, .slice A0_5 l0_5.length c0_5]) (t := 43) ?hr ?_; (case hd => rfl); (case hg => rfl); (case hr => first | (go_simp; done) | (go_simp; rfl)); intro gb125 hg w50 hbox hb; have BK125 := Aside0.mk (hbox); have GW125 := Kw_ HB hg; have GE125 := GW125; replace HB := Ks_ HB hb; clear hb hbox hg; obtain ⟨hcz51_0, hcz51_1, hcz51_2, hcz51_3, hcz51_4, hcz51_5, hfz51_0, hfz51_1, hfz51_2, hfz51_3, hfz51_4, hfz51_5⟩ := Ke6_ BK125.out) | ((with_reducible refine gate_callee (f := 22) rfl ?_); refine Kg_ (some 9) rfl rfl Try.func22 (by kernel_rfl) rfl #[.agg #[.int .u64 a0_0, .int .u64 a0_1, .int .u64 a0_2, .int .u64 a0_3, .int .i64 a0_4, .slice A0_5 l0_5.length c0_5]] rfl ?_; (with_reducible refine (item_Whole.calls a0_0 a0_1 a0_2 a0_3 a0_4 _ _ l0_5 false _ ?side1 ?side2 A2.out).mono ?_); (case side1 => repeat (first | exact (Kd.C_below HR0_5.out HB.out) | (with_reducible refine Kd.C_alloc ?_ _) | (with_reducible refine Kd.C_drewN ?_ _) | (with_reducible refine Kd.C_drew ?_))); (case side2 => exact HC0_5.out); rintro e w52 ⟨rfl, hb⟩; refine ⟨_, rfl, ?_⟩; replace BK125 := Kb_ BK125 hb; replace HB := Ks_ HB hb; (try clear hb); (try clear hb2); (try clear hk); (try clear hi)))
    go_ret2
    exact ⟨Kh_, Kz_ HB GE125⟩
  subst c3
  have H1 : ((stamp_Put.f k a0_0 a0_1 a0_2 a0_3 a0_4).bind fun bt127 => ((pack_Number.f (IntKind.u64.wrap ((l0_5.length : Int))) 1).bind fun t129 => (if bt127.1.size + t129.size ≤ 9223372036854775807 then (item_Bytes.l0 k (bt127.1 ++ t129) l0_5 (l0_5.length : Int) 0) else (none)))) = some (r1, r2) := by rw [if_pos rfl] at H; exact H
  clear H
  have H := H1
  clear H1
  replace H := Option.bind_eq_some_iff.mp H
  obtain ⟨⟨t127, t128⟩, A40, H⟩ := H
  replace H : ((pack_Number.f (IntKind.u64.wrap ((l0_5.length : Int))) 1).bind fun t129 => (if t127.size + t129.size ≤ 9223372036854775807 then (item_Bytes.l0 k (t127 ++ t129) l0_5 (l0_5.length : Int) 0) else (none))) = some (r1, r2) := H
  have A4 := Aside0.mk A40
  clear A40
  replace H := Option.bind_eq_some_iff.mp H
  obtain ⟨t129, A50, H⟩ := H
  replace H : (if t127.size + t129.size ≤ 9223372036854775807 then (item_Bytes.l0 k (t127 ++ t129) l0_5 (l0_5.length : Int) 0) else (none)) = some (r1, r2) := H
  have A5 := Aside0.mk A50
  clear A50
  by_cases c6 : t127.size + t129.size ≤ 9223372036854775807
  rotate_left
  · rw [if_neg c6] at H
    exact absurd H (by simp)
  rw [if_pos c6] at H
  have c6b0 := eq_true c6
  have c6b1 : decide (t127.size + t129.size ≤ 9223372036854775807) = true := decide_eq_true c6
  try have c6b2 : (9223372036854775807 < t127.size + t129.size) = False := eq_false (Nat.not_lt.2 c6)
  have H' := Aside0.mk H
  clear H
  go_enter Try.func15, Try.ntmps15
  go_wp2_with (first | ((with_reducible refine gate_dst (N := 1) rfl ?_); refine box_event ?hg (N := 1) ?hd (cs := #[.int .u64 a0_0, .int .u64 a0_1, .int .u64 a0_2, .int .u64 a0_3, .int .i64 a0_4, .slice A0_5 l0_5.length c0_5]) (t := 43) ?hr ?_; (case hd => rfl); (case hg => rfl); (case hr => first | (go_simp; done) | (go_simp; rfl)); intro gb125 hg w7 hbox hb; have BK125 := Aside0.mk (hbox); have GW125 := Kw_ HB hg; have GE125 := GW125; replace HB := Ks_ HB hb; clear hb hbox hg; obtain ⟨hcz8_0, hcz8_1, hcz8_2, hcz8_3, hcz8_4, hcz8_5, hfz8_0, hfz8_1, hfz8_2, hfz8_3, hfz8_4, hfz8_5⟩ := Ke6_ BK125.out) | ((with_reducible refine gate_callee (f := 22) rfl ?_); refine Kg_ (some 9) rfl rfl Try.func22 (by kernel_rfl) rfl #[.agg #[.int .u64 a0_0, .int .u64 a0_1, .int .u64 a0_2, .int .u64 a0_3, .int .i64 a0_4, .slice A0_5 l0_5.length c0_5]] rfl ?_; (with_reducible refine (item_Whole.calls a0_0 a0_1 a0_2 a0_3 a0_4 _ _ l0_5 true _ ?side1 ?side2 A2.out).mono ?_); (case side1 => repeat (first | exact (Kd.C_below HR0_5.out HB.out) | (with_reducible refine Kd.C_alloc ?_ _) | (with_reducible refine Kd.C_drewN ?_ _) | (with_reducible refine Kd.C_drew ?_))); (case side2 => exact HC0_5.out); rintro e w9 ⟨rfl, hb⟩; refine ⟨_, rfl, ?_⟩; replace BK125 := Kb_ BK125 hb; replace HB := Ks_ HB hb; (try clear hb); (try clear hb2); (try clear hk); (try clear hi); obtain ⟨hcz10_0, hcz10_1, hcz10_2, hcz10_3, hcz10_4, hcz10_5, hfz10_0, hfz10_1, hfz10_2, hfz10_3, hfz10_4, hfz10_5⟩ := Ke6_ BK125.out) | ((with_reducible refine gate_callee (f := 35) rfl ?_); refine Kg_ (some 14) rfl rfl Try.func35 (by kernel_rfl) rfl #[.agg #[.int .u64 a0_0, .int .u64 a0_1, .int .u64 a0_2, .int .u64 a0_3, .int .i64 a0_4]] rfl ?_; (with_reducible refine (stamp_Put.calls k a0_0 a0_1 a0_2 a0_3 a0_4 t127 t128 _ A4.out).mono ?_); rintro e w11 ⟨rfl, hb⟩; refine ⟨_, rfl, ?_⟩; replace BK125 := Kb_ BK125 hb; replace HB := Ks_ HB hb; (try clear hb); (try clear hb2); (try clear hk); (try clear hi); obtain ⟨hcz12_0, hcz12_1, hcz12_2, hcz12_3, hcz12_4, hcz12_5, hfz12_0, hfz12_1, hfz12_2, hfz12_3, hfz12_4, hfz12_5⟩ := Ke6_ BK125.out) | ((with_reducible refine gate_callee (f := 36) rfl ?_); refine Kg_ (some 22) rfl rfl Try.func36 (by kernel_rfl) rfl #[.int .u64 (IntKind.u64.wrap ((l0_5.length : Int))), .int .i64 1] rfl ?_; (with_reducible refine (pack_Number.calls (IntKind.u64.wrap ((l0_5.length : Int))) 1 t129 _ A5.out).mono ?_); rintro e w13 ⟨rfl, hb⟩; refine ⟨_, rfl, ?_⟩; replace BK125 := Kb_ BK125 hb; replace HB := Ks_ HB hb; (try clear hb); (try clear hb2); (try clear hk); (try clear hi); obtain ⟨hcz14_0, hcz14_1, hcz14_2, hcz14_3, hcz14_4, hcz14_5, hfz14_0, hfz14_1, hfz14_2, hfz14_3, hfz14_4, hfz14_5⟩ := Ke6_ BK125.out))
  go_loopg [4, 27] k (fun kq v4 v27 w' => ∃ (x4_1 : ByteArray) (x27_1 : Int), v4 = .string x4_1 ∧ v27 = .int .i64 x27_1 ∧ Aside0 (item_Bytes.l0 kq x4_1 l0_5 (l0_5.length : Int) x27_1 = some (r1, r2)) ∧ Aside0 (kq ≤ k) ∧ Aside0 (w'.heap[gb125]? = some (.cells #[.int .u64 a0_0, .int .u64 a0_1, .int .u64 a0_2, .int .u64 a0_3, .int .i64 a0_4, (.slice A0_5 l0_5.length c0_5)] 43 (0, 0))) ∧ Aside0 (Below w.heap.size w w'))
  case atStart => exact ⟨(t127 ++ t129), (0), (by first | rfl | (simp; done) | (simp [*]; done)), (by first | rfl | (simp; done) | (simp [*]; done)), H', ⟨Nat.le_refl _⟩, ⟨by exact Kq_ BK125⟩, ⟨Kz_ HB GE125⟩⟩
  case round =>
    clear H'
    try clear c1
    try clear c2
    try clear p2
    try clear c3
    try clear c6
    try clear c6b0
    try clear c6b1
    try clear c6b2
    try clear hcz10_0
    try clear hcz10_1
    try clear hcz10_2
    try clear hcz10_3
    try clear hcz10_4
    try clear hcz10_5
    try clear hcz12_0
    try clear hcz12_1
    try clear hcz12_2
    try clear hcz12_3
    try clear hcz12_4
    try clear hcz12_5
    try clear hcz14_0
    try clear hcz14_1
    try clear hcz14_2
    try clear hcz14_3
    try clear hcz14_4
    try clear hcz14_5
    try clear hcz8_0
    try clear hcz8_1
    try clear hcz8_2
    try clear hcz8_3
    try clear hcz8_4
    try clear hcz8_5
    try clear hfz10_0
    try clear hfz10_1
    try clear hfz10_2
    try clear hfz10_3
    try clear hfz10_4
    try clear hfz10_5
    try clear hfz12_0
    try clear hfz12_1
    try clear hfz12_2
    try clear hfz12_3
    try clear hfz12_4
    try clear hfz12_5
    try clear hfz14_0
    try clear hfz14_1
    try clear hfz14_2
    try clear hfz14_3
    try clear hfz14_4
    try clear hfz14_5
    try clear hfz8_0
    try clear hfz8_1
    try clear hfz8_2
    try clear hfz8_3
    try clear hfz8_4
    try clear hfz8_5
    obtain ⟨x4_1, x27_1, rfl, rfl, HA, HK1, BK125, HB⟩ := hrel
    cases gk with
    | zero => exact absurd HA.out (by simp [item_Bytes.l0])
    | succ k1 =>
      have H := HA.out
      clear HA
      simp only [item_Bytes.l0] at H
      by_cases c15 : x27_1 < (l0_5.length : Int)
      rotate_left
      · rw [if_neg c15] at H
        have c15b0 : decide (x27_1 < (l0_5.length : Int)) = false := decide_eq_false c15
        clear c15
        simp only [Option.some.injEq, Prod.mk.injEq] at H
        obtain ⟨rfl, rfl⟩ := H
        go_wp2
        go_ret2
        exact ⟨Kh_, Kz_ HB GE125⟩
      rw [if_pos c15] at H
      have c15b0 : decide (x27_1 < (l0_5.length : Int)) = true := decide_eq_true c15
      clear c15
      by_cases c16 : 0 ≤ x27_1
      rotate_left
      · rw [if_neg c16] at H
        exact absurd H (by simp)
      rw [if_pos c16] at H
      have c16b0 : decide (0 ≤ x27_1) = true := decide_eq_true c16
      clear c16
      by_cases c17 : x27_1 < (l0_5.length : Int)
      rotate_left
      · rw [if_neg c17] at H
        exact absurd H (by simp)
      rw [if_pos c17] at H
      have c17b0 : decide (x27_1 < (l0_5.length : Int)) = true := decide_eq_true c17
      clear c17
      replace H := Option.bind_eq_some_iff.mp H
      obtain ⟨t132, A180, H⟩ := H
      replace H : ((pack_Text.f k1 ((rd_T23 l0_5 x27_1).f1)).bind fun t133 => (if t132.size + t133.size ≤ 9223372036854775807 then (if x4_1.size + (t132 ++ t133).size ≤ 9223372036854775807 then (if (rd_T23 l0_5 x27_1).f3 = true then ((pack_Number.f 1 1).bind fun t134 => (if (x4_1 ++ (t132 ++ t133)).size + t134.size ≤ 9223372036854775807 then (item_Bytes.l0 k1 ((x4_1 ++ (t132 ++ t133)) ++ t134) l0_5 (l0_5.length : Int) (wrap64 (x27_1 + 1))) else (none))) else ((pack_Number.f 0 1).bind fun t135 => ((pack_Text.f k1 ((rd_T23 l0_5 x27_1).f2)).bind fun t136 => (if t135.size + t136.size ≤ 9223372036854775807 then (if (x4_1 ++ (t132 ++ t133)).size + (t135 ++ t136).size ≤ 9223372036854775807 then (item_Bytes.l0 k1 ((x4_1 ++ (t132 ++ t133)) ++ (t135 ++ t136)) l0_5 (l0_5.length : Int) (wrap64 (x27_1 + 1))) else (none)) else (none))))) else (none)) else (none))) = some (r1, r2) := H
      have A18 := Aside0.mk A180
      clear A180
      replace H := Option.bind_eq_some_iff.mp H
      obtain ⟨t133, A190, H⟩ := H
      replace H : (if t132.size + t133.size ≤ 9223372036854775807 then (if x4_1.size + (t132 ++ t133).size ≤ 9223372036854775807 then (if (rd_T23 l0_5 x27_1).f3 = true then ((pack_Number.f 1 1).bind fun t134 => (if (x4_1 ++ (t132 ++ t133)).size + t134.size ≤ 9223372036854775807 then (item_Bytes.l0 k1 ((x4_1 ++ (t132 ++ t133)) ++ t134) l0_5 (l0_5.length : Int) (wrap64 (x27_1 + 1))) else (none))) else ((pack_Number.f 0 1).bind fun t135 => ((pack_Text.f k1 ((rd_T23 l0_5 x27_1).f2)).bind fun t136 => (if t135.size + t136.size ≤ 9223372036854775807 then (if (x4_1 ++ (t132 ++ t133)).size + (t135 ++ t136).size ≤ 9223372036854775807 then (item_Bytes.l0 k1 ((x4_1 ++ (t132 ++ t133)) ++ (t135 ++ t136)) l0_5 (l0_5.length : Int) (wrap64 (x27_1 + 1))) else (none)) else (none))))) else (none)) else (none)) = some (r1, r2) := H
      have A19 := Aside0.mk A190
      clear A190
      by_cases c20 : t132.size + t133.size ≤ 9223372036854775807
      rotate_left
      · rw [if_neg c20] at H
        exact absurd H (by simp)
      rw [if_pos c20] at H
      have c20b0 := eq_true c20
      have c20b1 : decide (t132.size + t133.size ≤ 9223372036854775807) = true := decide_eq_true c20
      try have c20b2 : (9223372036854775807 < t132.size + t133.size) = False := eq_false (Nat.not_lt.2 c20)
      by_cases c21 : x4_1.size + (t132 ++ t133).size ≤ 9223372036854775807
      rotate_left
      · rw [if_neg c21] at H
        exact absurd H (by simp)
      rw [if_pos c21] at H
      have c21b0 := eq_true c21
      (try (have c21b0s_ := c21b0; simp only [ByteArray.size_append, Int.natCast_add] at c21b0s_))
      have c21b1 : decide (x4_1.size + (t132 ++ t133).size ≤ 9223372036854775807) = true := decide_eq_true c21
      (try (have c21b1s_ := c21b1; simp only [ByteArray.size_append, Int.natCast_add] at c21b1s_))
      try have c21b2 : (9223372036854775807 < x4_1.size + (t132 ++ t133).size) = False := eq_false (Nat.not_lt.2 c21)
      (try (have c21b2s_ := c21b2; simp only [ByteArray.size_append, Int.natCast_add] at c21b2s_))
      obtain ⟨bq22, hbq22⟩ : ∃ b_ : Bool, b_ = ((rd_T23 l0_5 x27_1).f3) := ⟨_, rfl⟩
      replace H : (if bq22 = true then ((pack_Number.f 1 1).bind fun t134 => (if (x4_1 ++ (t132 ++ t133)).size + t134.size ≤ 9223372036854775807 then (item_Bytes.l0 k1 ((x4_1 ++ (t132 ++ t133)) ++ t134) l0_5 (l0_5.length : Int) (wrap64 (x27_1 + 1))) else (none))) else ((pack_Number.f 0 1).bind fun t135 => ((pack_Text.f k1 ((rd_T23 l0_5 x27_1).f2)).bind fun t136 => (if t135.size + t136.size ≤ 9223372036854775807 then (if (x4_1 ++ (t132 ++ t133)).size + (t135 ++ t136).size ≤ 9223372036854775807 then (item_Bytes.l0 k1 ((x4_1 ++ (t132 ++ t133)) ++ (t135 ++ t136)) l0_5 (l0_5.length : Int) (wrap64 (x27_1 + 1))) else (none)) else (none))))) = some (r1, r2) := by rw [← hbq22] at H; exact H
      have Nbq22 := Aside0.mk hbq22
      clear hbq22
      by_cases c23 : bq22 = true
      · subst c23
        have H1 : ((pack_Number.f 1 1).bind fun t134 => (if (x4_1 ++ (t132 ++ t133)).size + t134.size ≤ 9223372036854775807 then (item_Bytes.l0 k1 ((x4_1 ++ (t132 ++ t133)) ++ t134) l0_5 (l0_5.length : Int) (wrap64 (x27_1 + 1))) else (none))) = some (r1, r2) := by rw [if_pos rfl] at H; exact H
        clear H
        have H := H1
        clear H1
        replace H := Option.bind_eq_some_iff.mp H
        obtain ⟨t134, A240, H⟩ := H
        replace H : (if (x4_1 ++ (t132 ++ t133)).size + t134.size ≤ 9223372036854775807 then (item_Bytes.l0 k1 ((x4_1 ++ (t132 ++ t133)) ++ t134) l0_5 (l0_5.length : Int) (wrap64 (x27_1 + 1))) else (none)) = some (r1, r2) := H
        have A24 := Aside0.mk A240
        clear A240
        by_cases c25 : (x4_1 ++ (t132 ++ t133)).size + t134.size ≤ 9223372036854775807
        rotate_left
        · rw [if_neg c25] at H
          exact absurd H (by simp)
        rw [if_pos c25] at H
        have c25b0 := eq_true c25
        (try (have c25b0s_ := c25b0; simp only [ByteArray.size_append, Int.natCast_add] at c25b0s_))
        have c25b1 : decide ((x4_1 ++ (t132 ++ t133)).size + t134.size ≤ 9223372036854775807) = true := decide_eq_true c25
        (try (have c25b1s_ := c25b1; simp only [ByteArray.size_append, Int.natCast_add] at c25b1s_))
        try have c25b2 : (9223372036854775807 < (x4_1 ++ (t132 ++ t133)).size + t134.size) = False := eq_false (Nat.not_lt.2 c25)
        (try (have c25b2s_ := c25b2; simp only [ByteArray.size_append, Int.natCast_add] at c25b2s_))
        have H' := Aside0.mk H
        clear H
        have p130 : 0 ≤ (x27_1 : Int) := of_decide_eq_true (by first | (with_reducible assumption) | assumption)
        have q130 : x27_1 < (l0_5.length : Int) := of_decide_eq_true (by first | (with_reducible assumption) | assumption)
        obtain ⟨ad130, e130, hx130_0, hx130_1, hx130_2, hx130_3⟩ := at_T23 HR0_5.out x27_1 p130 q130
        (try rw [← Nbq22.out] at hx130_3)
        cases e130
        replace hx130_0 := (HB.out.cell (World.block_lt_of_cell? w _ hx130_0)).trans hx130_0
        replace hx130_1 := (HB.out.cell (World.block_lt_of_cell? w _ hx130_1)).trans hx130_1
        replace hx130_2 := (HB.out.cell (World.block_lt_of_cell? w _ hx130_2)).trans hx130_2
        replace hx130_3 := (HB.out.cell (World.block_lt_of_cell? w _ hx130_3)).trans hx130_3
        replace p130 := eq_true p130
        replace q130 := eq_true q130
        try go_wp2_with (first | ((with_reducible refine gate_dst (N := 7) rfl ?_); refine box_event ?hg (N := 7) ?hd (cs := #[.string (⟨#[]⟩ : ByteArray), .string (⟨#[]⟩ : ByteArray), .string (⟨#[]⟩ : ByteArray), .bool false]) (t := 23) ?hr ?_; (case hd => rfl); (case hg => rfl); (case hr => first | (go_simp; done) | (go_simp; rfl)); intro gb131 hg w26 hbox hb; have BK131 := Aside0.mk (hbox); have GW131 := Kw_ HB hg; have GE131 := GW131; have NB125_131 := Kl_ BK125 hg; have NB131_125 := Kr_ BK125 hg; replace BK125 := Kb_ BK125 hb; replace HB := Ks_ HB hb; clear hb hbox hg; have hnb27 := NB131_125.out; have hnc27 := NB125_131.out; obtain ⟨hcz28_0, hcz28_1, hcz28_2, hcz28_3, hfz28_0, hfz28_1, hfz28_2, hfz28_3⟩ := Ke4_ BK131.out))
        have n0_ : Aside0 (((((w26.setCell ⟨gb131, 0, none⟩ (.string ((rd_T23 l0_5 x27_1).f0))).setCell ⟨gb131, 1, none⟩ (.string ((rd_T23 l0_5 x27_1).f1))).setCell ⟨gb131, 2, none⟩ (.string ((rd_T23 l0_5 x27_1).f2))).setCell ⟨gb131, 3, none⟩ (.bool true)).heap[gb125]? = some (.cells #[.int .u64 a0_0, .int .u64 a0_1, .int .u64 a0_2, .int .u64 a0_3, .int .i64 a0_4, .slice (some ad130) l0_5.length c0_5] 43 (0, 0))) := ⟨by (repeat (first | (with_reducible first | refine blk_drewN ?_ _ | refine blk_drew ?_ | refine blk_alloc ?_ _) | refine blk_far ?_ NB125_131.out _)); exact BK125.out⟩
        have n1_ : Aside0 (((((w26.setCell ⟨gb131, 0, none⟩ (.string ((rd_T23 l0_5 x27_1).f0))).setCell ⟨gb131, 1, none⟩ (.string ((rd_T23 l0_5 x27_1).f1))).setCell ⟨gb131, 2, none⟩ (.string ((rd_T23 l0_5 x27_1).f2))).setCell ⟨gb131, 3, none⟩ (.bool true)).heap[gb131]? = some (.cells #[.string ((rd_T23 l0_5 x27_1).f0), .string ((rd_T23 l0_5 x27_1).f1), .string ((rd_T23 l0_5 x27_1).f2), .bool true] 23 (0, 0))) := ⟨by refine Kv_ ?_; refine blk_put (cs := #[.string ((rd_T23 l0_5 x27_1).f0), .string ((rd_T23 l0_5 x27_1).f1), .string ((rd_T23 l0_5 x27_1).f2), .bool false]) ?_ 3 _ rfl; refine Kv_ ?_; refine blk_put (cs := #[.string ((rd_T23 l0_5 x27_1).f0), .string ((rd_T23 l0_5 x27_1).f1), .string (⟨#[]⟩ : ByteArray), .bool false]) ?_ 2 _ rfl; refine Kv_ ?_; refine blk_put (cs := #[.string ((rd_T23 l0_5 x27_1).f0), .string (⟨#[]⟩ : ByteArray), .string (⟨#[]⟩ : ByteArray), .bool false]) ?_ 1 _ rfl; refine Kv_ ?_; refine blk_put (cs := #[.string (⟨#[]⟩ : ByteArray), .string (⟨#[]⟩ : ByteArray), .string (⟨#[]⟩ : ByteArray), .bool false]) ?_ 0 _ rfl; exact Kq_ BK131⟩
        have n2_ : Aside0 (Below w.heap.size w ((((w26.setCell ⟨gb131, 0, none⟩ (.string ((rd_T23 l0_5 x27_1).f0))).setCell ⟨gb131, 1, none⟩ (.string ((rd_T23 l0_5 x27_1).f1))).setCell ⟨gb131, 2, none⟩ (.string ((rd_T23 l0_5 x27_1).f2))).setCell ⟨gb131, 3, none⟩ (.bool true))) := ⟨by repeat (first | (with_reducible first | exact HB.out | apply below_alloc | apply pw_below_drewN | apply below_drew1 | refine below_set ?_ GE125.out | refine below_set ?_ GE131.out) | exact HB.out)⟩
        (try clear BK125)
        (try clear BK131)
        (try clear HB)
        generalize ((((w26.setCell ⟨gb131, 0, none⟩ (.string ((rd_T23 l0_5 x27_1).f0))).setCell ⟨gb131, 1, none⟩ (.string ((rd_T23 l0_5 x27_1).f1))).setCell ⟨gb131, 2, none⟩ (.string ((rd_T23 l0_5 x27_1).f2))).setCell ⟨gb131, 3, none⟩ (.bool true)) = w29 at n0_ n1_ n2_ ⊢
        have BK125 := n0_
        have BK131 := n1_
        have HB := n2_
        clear n0_ n1_ n2_
        replace BK125 := Kd_ BK125
        replace BK131 := Kd_ BK131
        replace HB := Aside0.mk (below_drew1 HB.out)
        refine start_ (n := 10) (S := fun w' => w'.cell? ⟨gb131, 0, none⟩ = some (.string ((rd_T23 l0_5 x27_1).f0)) ∧ w'.cell? ⟨gb131, 1, none⟩ = some (.string ((rd_T23 l0_5 x27_1).f1)) ∧ w'.cell? ⟨gb131, 2, none⟩ = some (.string ((rd_T23 l0_5 x27_1).f2)) ∧ w'.cell? ⟨gb131, 3, none⟩ = some (.bool true)) (ds := []) #[false, false, false, false, false, false, false, false, false, false] (by kernel_rfl) rfl rfl (Kc4_ BK131.out) (fun hHeld => ?_); refine with_tabW item_Bytes.tab8 item_Bytes.bits8 (fun HT_ HW_ => ?_)
        generalize w29.drew = w30 at BK125 BK131 HB hHeld ⊢
        refine pure_ (i := 0) (N := some 31) (v := ?_) (a' := ?_) #[true, false, false, false, false, false, false, false, false, false] rfl rfl (any_of HT_.out (by kernel_rfl)) (fun _ _ _ h => h) (Or.inl ⟨by rfl, ?_⟩) ?_ ?_
        rotate_left
        · intro w'
          go_simp
          with_reducible rfl
        rotate_left
        · simp only [Act.put, List.setIfInBounds_toArray, List.set_cons_zero, List.set_cons_succ, i64_w, i32_w]
          rfl
        refine pure_ (i := 1) (N := some 32) (v := ?_) (a' := ?_) #[true, true, false, false, false, false, false, false, false, false] rfl rfl (any_of HT_.out (by kernel_rfl)) (fun _ _ _ h => h) (Or.inl ⟨by rfl, ?_⟩) ?_ ?_
        rotate_left
        · intro w'
          go_simp
          with_reducible rfl
        rotate_left
        · simp only [Act.put, List.setIfInBounds_toArray, List.set_cons_zero, List.set_cons_succ, i64_w, i32_w]
          rfl
        refine pure_ (i := 4) (N := some 35) (v := ?_) (a' := ?_) #[true, true, false, false, true, false, false, false, false, false] rfl rfl (any_of HT_.out (by kernel_rfl)) (fun _ _ _ h => h) (Or.inl ⟨by rfl, ?_⟩) ?_ ?_
        rotate_left
        · intro w'
          go_simp
          with_reducible rfl
        rotate_left
        · simp only [Act.put, List.setIfInBounds_toArray, List.set_cons_zero, List.set_cons_succ, i64_w, i32_w]
          rfl
        refine take_ (i := 2) (N := some 33) (v := ?_) (a' := ?_) #[true, true, true, false, true, false, false, false, false, false] rfl rfl (take_ofW HT_.out HW_.out (by kernel_rfl)) (fun _ _ _ h => h) (Or.inl ⟨by rfl, ?_⟩) hHeld ?_ ?_
        rotate_left
        · rintro w' ⟨s0, s1, s2, s3⟩
          go_simp
          with_reducible rfl
        rotate_left
        · simp only [Act.put, List.setIfInBounds_toArray, List.set_cons_zero, List.set_cons_succ, i64_w, i32_w]
          rfl
        refine take_ (i := 5) (N := some 36) (v := ?_) (a' := ?_) #[true, true, true, false, true, true, false, false, false, false] rfl rfl (take_ofW HT_.out HW_.out (by kernel_rfl)) (fun _ _ _ h => h) (Or.inl ⟨by rfl, ?_⟩) hHeld ?_ ?_
        rotate_left
        · rintro w' ⟨s0, s1, s2, s3⟩
          go_simp
          with_reducible rfl
        rotate_left
        · simp only [Act.put, List.setIfInBounds_toArray, List.set_cons_zero, List.set_cons_succ, i64_w, i32_w]
          rfl
        refine one_ (i := 3) (N := some 34) #[true, true, true, true, true, true, false, false, false, false] rfl rfl (one_of HT_.out (by kernel_rfl)) (by decide) (fun K hK => ?_)
        refine goes_ Try.func37 (by kernel_rfl) rfl #[.string ((rd_T23 l0_5 x27_1).f0)] (by rfl) rfl rfl (by (try simp only [List.map_toArray, List.map_cons, List.map_nil]); first | done | rfl | (simp only [List.length_drop, List.length_take]; rfl)) ?_
        with_reducible refine (pack_Text.calls k1 ((rd_T23 l0_5 x27_1).f0) t132 _ A18.out).mono ?_
        rintro e w31 ⟨rfl, hb⟩
        refine ⟨_, rfl, ?_⟩
        replace BK125 := Kb_ BK125 hb
        replace BK131 := Kb_ BK131 hb
        replace HB := Ks_ HB hb
        (try clear hb)
        (try clear hb2)
        (try clear hk)
        (try clear hi)
        refine hK.out _ _ (Kc4_ BK131.out) (fun hHeld => ?_)
        clear hK K
        refine norm_ (a' := ?_) ?_ ?_
        rotate_left
        · show Act.put _ (some 34) _ = _
          simp only [Act.put, List.setIfInBounds_toArray, List.set_cons_zero, List.set_cons_succ, i64_w, i32_w]
          rfl
        refine one_ (i := 6) (N := some 37) #[true, true, true, true, true, true, true, false, false, false] rfl rfl (one_of HT_.out (by kernel_rfl)) (by decide) (fun K hK => ?_)
        refine goes_ Try.func37 (by kernel_rfl) rfl #[.string ((rd_T23 l0_5 x27_1).f1)] (by rfl) rfl rfl (by (try simp only [List.map_toArray, List.map_cons, List.map_nil]); first | done | rfl | (simp only [List.length_drop, List.length_take]; rfl)) ?_
        with_reducible refine (pack_Text.calls k1 ((rd_T23 l0_5 x27_1).f1) t133 _ A19.out).mono ?_
        rintro e w32 ⟨rfl, hb⟩
        refine ⟨_, rfl, ?_⟩
        replace BK125 := Kb_ BK125 hb
        replace BK131 := Kb_ BK131 hb
        replace HB := Ks_ HB hb
        (try clear hb)
        (try clear hb2)
        (try clear hk)
        (try clear hi)
        refine hK.out _ _ (Kc4_ BK131.out) (fun hHeld => ?_)
        clear hK K
        refine norm_ (a' := ?_) ?_ ?_
        rotate_left
        · show Act.put _ (some 37) _ = _
          simp only [Act.put, List.setIfInBounds_toArray, List.set_cons_zero, List.set_cons_succ, i64_w, i32_w]
          rfl
        refine pure_ (i := 7) (N := some 38) (v := ?_) (a' := ?_) #[true, true, true, true, true, true, true, true, false, false] rfl rfl (any_of HT_.out (by kernel_rfl)) (fun _ _ _ h => h) (Or.inl ⟨by rfl, ?_⟩) ?_ ?_
        rotate_left
        · intro w'
          go_simp
          with_reducible rfl
        rotate_left
        · simp only [Act.put, List.setIfInBounds_toArray, List.set_cons_zero, List.set_cons_succ, i64_w, i32_w]
          rfl
        refine pure_ (i := 8) (N := some 39) (v := ?_) (a' := ?_) #[true, true, true, true, true, true, true, true, true, false] rfl rfl (any_of HT_.out (by kernel_rfl)) (fun _ _ _ h => h) (Or.inl ⟨by rfl, ?_⟩) ?_ ?_
        rotate_left
        · intro w'
          go_simp
          with_reducible rfl
        rotate_left
        · simp only [Act.put, List.setIfInBounds_toArray, List.set_cons_zero, List.set_cons_succ, i64_w, i32_w]
          rfl
        refine pure_ (i := 9) (N := some 4) (v := ?_) (a' := ?_) #[true, true, true, true, true, true, true, true, true, true] rfl rfl (any_of HT_.out (by kernel_rfl)) (fun _ _ _ h => h) (Or.inl ⟨by rfl, ?_⟩) ?_ ?_
        rotate_left
        · intro w'
          go_simp
          with_reducible rfl
        rotate_left
        · simp only [Act.put, List.setIfInBounds_toArray, List.set_cons_zero, List.set_cons_succ, i64_w, i32_w]
          rfl
        refine done_ (done_of HT_.out (by kernel_rfl)) ?_
        obtain ⟨hcz33_0, hcz33_1, hcz33_2, hcz33_3, hfz33_0, hfz33_1, hfz33_2, hfz33_3⟩ := Ke4_ BK131.out
        try go_wp2_with (first | ((with_reducible refine gate_callee (f := 36) rfl ?_); refine Kg_ (some 43) rfl rfl Try.func36 (by kernel_rfl) rfl #[.int .u64 1, .int .i64 1] rfl ?_; (with_reducible refine (pack_Number.calls 1 1 t134 _ A24.out).mono ?_); rintro e w34 ⟨rfl, hb⟩; refine ⟨_, rfl, ?_⟩; replace BK125 := Kb_ BK125 hb; replace BK131 := Kb_ BK131 hb; replace HB := Ks_ HB hb; (try clear hb); (try clear hb2); (try clear hk); (try clear hi)))
        go_roundg k1
        case measure => have := HK1.out; omega
        case rel => exact ⟨((x4_1 ++ (t132 ++ t133)) ++ t134), (wrap64 (x27_1 + 1)), (by first | rfl | (simp; done) | (simp [*]; done)), (by first | rfl | (simp; done) | (simp [*]; done)), H', ⟨by have := HK1.out; omega⟩, ⟨by exact Kq_ BK125⟩, ⟨by repeat (first | (with_reducible first | exact HB.out | apply below_alloc | apply pw_below_drewN | apply below_drew1 | refine below_set ?_ GE125.out | refine below_set ?_ GE131.out) | exact HB.out)⟩⟩
      replace c23 := Bool.eq_false_iff.mpr c23
      subst c23
      have H1 : ((pack_Number.f 0 1).bind fun t135 => ((pack_Text.f k1 ((rd_T23 l0_5 x27_1).f2)).bind fun t136 => (if t135.size + t136.size ≤ 9223372036854775807 then (if (x4_1 ++ (t132 ++ t133)).size + (t135 ++ t136).size ≤ 9223372036854775807 then (item_Bytes.l0 k1 ((x4_1 ++ (t132 ++ t133)) ++ (t135 ++ t136)) l0_5 (l0_5.length : Int) (wrap64 (x27_1 + 1))) else (none)) else (none)))) = some (r1, r2) := by rw [if_neg (show ¬ (false = true) by decide)] at H; exact H
      clear H
      have H := H1
      clear H1
      replace H := Option.bind_eq_some_iff.mp H
      obtain ⟨t135, A350, H⟩ := H
      replace H : ((pack_Text.f k1 ((rd_T23 l0_5 x27_1).f2)).bind fun t136 => (if t135.size + t136.size ≤ 9223372036854775807 then (if (x4_1 ++ (t132 ++ t133)).size + (t135 ++ t136).size ≤ 9223372036854775807 then (item_Bytes.l0 k1 ((x4_1 ++ (t132 ++ t133)) ++ (t135 ++ t136)) l0_5 (l0_5.length : Int) (wrap64 (x27_1 + 1))) else (none)) else (none))) = some (r1, r2) := H
      have A35 := Aside0.mk A350
      clear A350
      replace H := Option.bind_eq_some_iff.mp H
      obtain ⟨t136, A360, H⟩ := H
      replace H : (if t135.size + t136.size ≤ 9223372036854775807 then (if (x4_1 ++ (t132 ++ t133)).size + (t135 ++ t136).size ≤ 9223372036854775807 then (item_Bytes.l0 k1 ((x4_1 ++ (t132 ++ t133)) ++ (t135 ++ t136)) l0_5 (l0_5.length : Int) (wrap64 (x27_1 + 1))) else (none)) else (none)) = some (r1, r2) := H
      have A36 := Aside0.mk A360
      clear A360
      by_cases c37 : t135.size + t136.size ≤ 9223372036854775807
      rotate_left
      · rw [if_neg c37] at H
        exact absurd H (by simp)
      rw [if_pos c37] at H
      have c37b0 := eq_true c37
      have c37b1 : decide (t135.size + t136.size ≤ 9223372036854775807) = true := decide_eq_true c37
      try have c37b2 : (9223372036854775807 < t135.size + t136.size) = False := eq_false (Nat.not_lt.2 c37)
      by_cases c38 : (x4_1 ++ (t132 ++ t133)).size + (t135 ++ t136).size ≤ 9223372036854775807
      rotate_left
      · rw [if_neg c38] at H
        exact absurd H (by simp)
      rw [if_pos c38] at H
      have c38b0 := eq_true c38
      (try (have c38b0s_ := c38b0; simp only [ByteArray.size_append, Int.natCast_add] at c38b0s_))
      have c38b1 : decide ((x4_1 ++ (t132 ++ t133)).size + (t135 ++ t136).size ≤ 9223372036854775807) = true := decide_eq_true c38
      (try (have c38b1s_ := c38b1; simp only [ByteArray.size_append, Int.natCast_add] at c38b1s_))
      try have c38b2 : (9223372036854775807 < (x4_1 ++ (t132 ++ t133)).size + (t135 ++ t136).size) = False := eq_false (Nat.not_lt.2 c38)
      (try (have c38b2s_ := c38b2; simp only [ByteArray.size_append, Int.natCast_add] at c38b2s_))
      have H' := Aside0.mk H
      clear H
      have p130 : 0 ≤ (x27_1 : Int) := of_decide_eq_true (by first | (with_reducible assumption) | assumption)
      have q130 : x27_1 < (l0_5.length : Int) := of_decide_eq_true (by first | (with_reducible assumption) | assumption)
      obtain ⟨ad130, e130, hx130_0, hx130_1, hx130_2, hx130_3⟩ := at_T23 HR0_5.out x27_1 p130 q130
      (try rw [← Nbq22.out] at hx130_3)
      cases e130
      replace hx130_0 := (HB.out.cell (World.block_lt_of_cell? w _ hx130_0)).trans hx130_0
      replace hx130_1 := (HB.out.cell (World.block_lt_of_cell? w _ hx130_1)).trans hx130_1
      replace hx130_2 := (HB.out.cell (World.block_lt_of_cell? w _ hx130_2)).trans hx130_2
      replace hx130_3 := (HB.out.cell (World.block_lt_of_cell? w _ hx130_3)).trans hx130_3
      replace p130 := eq_true p130
      replace q130 := eq_true q130
      try go_wp2_with (first | ((with_reducible refine gate_dst (N := 7) rfl ?_); refine box_event ?hg (N := 7) ?hd (cs := #[.string (⟨#[]⟩ : ByteArray), .string (⟨#[]⟩ : ByteArray), .string (⟨#[]⟩ : ByteArray), .bool false]) (t := 23) ?hr ?_; (case hd => rfl); (case hg => rfl); (case hr => first | (go_simp; done) | (go_simp; rfl)); intro gb131 hg w39 hbox hb; have BK131 := Aside0.mk (hbox); have GW131 := Kw_ HB hg; have GE131 := GW131; have NB125_131 := Kl_ BK125 hg; have NB131_125 := Kr_ BK125 hg; replace BK125 := Kb_ BK125 hb; replace HB := Ks_ HB hb; clear hb hbox hg; have hnb40 := NB131_125.out; have hnc40 := NB125_131.out; obtain ⟨hcz41_0, hcz41_1, hcz41_2, hcz41_3, hfz41_0, hfz41_1, hfz41_2, hfz41_3⟩ := Ke4_ BK131.out))
      have n0_ : Aside0 (((((w39.setCell ⟨gb131, 0, none⟩ (.string ((rd_T23 l0_5 x27_1).f0))).setCell ⟨gb131, 1, none⟩ (.string ((rd_T23 l0_5 x27_1).f1))).setCell ⟨gb131, 2, none⟩ (.string ((rd_T23 l0_5 x27_1).f2))).setCell ⟨gb131, 3, none⟩ (.bool false)).heap[gb125]? = some (.cells #[.int .u64 a0_0, .int .u64 a0_1, .int .u64 a0_2, .int .u64 a0_3, .int .i64 a0_4, .slice (some ad130) l0_5.length c0_5] 43 (0, 0))) := ⟨by (repeat (first | (with_reducible first | refine blk_drewN ?_ _ | refine blk_drew ?_ | refine blk_alloc ?_ _) | refine blk_far ?_ NB125_131.out _)); exact BK125.out⟩
      have n1_ : Aside0 (((((w39.setCell ⟨gb131, 0, none⟩ (.string ((rd_T23 l0_5 x27_1).f0))).setCell ⟨gb131, 1, none⟩ (.string ((rd_T23 l0_5 x27_1).f1))).setCell ⟨gb131, 2, none⟩ (.string ((rd_T23 l0_5 x27_1).f2))).setCell ⟨gb131, 3, none⟩ (.bool false)).heap[gb131]? = some (.cells #[.string ((rd_T23 l0_5 x27_1).f0), .string ((rd_T23 l0_5 x27_1).f1), .string ((rd_T23 l0_5 x27_1).f2), .bool false] 23 (0, 0))) := ⟨by refine Kv_ ?_; refine blk_put (cs := #[.string ((rd_T23 l0_5 x27_1).f0), .string ((rd_T23 l0_5 x27_1).f1), .string ((rd_T23 l0_5 x27_1).f2), .bool false]) ?_ 3 _ rfl; refine Kv_ ?_; refine blk_put (cs := #[.string ((rd_T23 l0_5 x27_1).f0), .string ((rd_T23 l0_5 x27_1).f1), .string (⟨#[]⟩ : ByteArray), .bool false]) ?_ 2 _ rfl; refine Kv_ ?_; refine blk_put (cs := #[.string ((rd_T23 l0_5 x27_1).f0), .string (⟨#[]⟩ : ByteArray), .string (⟨#[]⟩ : ByteArray), .bool false]) ?_ 1 _ rfl; refine Kv_ ?_; refine blk_put (cs := #[.string (⟨#[]⟩ : ByteArray), .string (⟨#[]⟩ : ByteArray), .string (⟨#[]⟩ : ByteArray), .bool false]) ?_ 0 _ rfl; exact Kq_ BK131⟩
      have n2_ : Aside0 (Below w.heap.size w ((((w39.setCell ⟨gb131, 0, none⟩ (.string ((rd_T23 l0_5 x27_1).f0))).setCell ⟨gb131, 1, none⟩ (.string ((rd_T23 l0_5 x27_1).f1))).setCell ⟨gb131, 2, none⟩ (.string ((rd_T23 l0_5 x27_1).f2))).setCell ⟨gb131, 3, none⟩ (.bool false))) := ⟨by repeat (first | (with_reducible first | exact HB.out | apply below_alloc | apply pw_below_drewN | apply below_drew1 | refine below_set ?_ GE125.out | refine below_set ?_ GE131.out) | exact HB.out)⟩
      (try clear BK125)
      (try clear BK131)
      (try clear HB)
      generalize ((((w39.setCell ⟨gb131, 0, none⟩ (.string ((rd_T23 l0_5 x27_1).f0))).setCell ⟨gb131, 1, none⟩ (.string ((rd_T23 l0_5 x27_1).f1))).setCell ⟨gb131, 2, none⟩ (.string ((rd_T23 l0_5 x27_1).f2))).setCell ⟨gb131, 3, none⟩ (.bool false)) = w42 at n0_ n1_ n2_ ⊢
      have BK125 := n0_
      have BK131 := n1_
      have HB := n2_
      clear n0_ n1_ n2_
      replace BK125 := Kd_ BK125
      replace BK131 := Kd_ BK131
      replace HB := Aside0.mk (below_drew1 HB.out)
      refine start_ (n := 10) (S := fun w' => w'.cell? ⟨gb131, 0, none⟩ = some (.string ((rd_T23 l0_5 x27_1).f0)) ∧ w'.cell? ⟨gb131, 1, none⟩ = some (.string ((rd_T23 l0_5 x27_1).f1)) ∧ w'.cell? ⟨gb131, 2, none⟩ = some (.string ((rd_T23 l0_5 x27_1).f2)) ∧ w'.cell? ⟨gb131, 3, none⟩ = some (.bool false)) (ds := []) #[false, false, false, false, false, false, false, false, false, false] (by kernel_rfl) rfl rfl (Kc4_ BK131.out) (fun hHeld => ?_); refine with_tabW item_Bytes.tab8 item_Bytes.bits8 (fun HT_ HW_ => ?_)
      generalize w42.drew = w43 at BK125 BK131 HB hHeld ⊢
      refine pure_ (i := 0) (N := some 31) (v := ?_) (a' := ?_) #[true, false, false, false, false, false, false, false, false, false] rfl rfl (any_of HT_.out (by kernel_rfl)) (fun _ _ _ h => h) (Or.inl ⟨by rfl, ?_⟩) ?_ ?_
      rotate_left
      · intro w'
        go_simp
        with_reducible rfl
      rotate_left
      · simp only [Act.put, List.setIfInBounds_toArray, List.set_cons_zero, List.set_cons_succ, i64_w, i32_w]
        rfl
      refine pure_ (i := 1) (N := some 32) (v := ?_) (a' := ?_) #[true, true, false, false, false, false, false, false, false, false] rfl rfl (any_of HT_.out (by kernel_rfl)) (fun _ _ _ h => h) (Or.inl ⟨by rfl, ?_⟩) ?_ ?_
      rotate_left
      · intro w'
        go_simp
        with_reducible rfl
      rotate_left
      · simp only [Act.put, List.setIfInBounds_toArray, List.set_cons_zero, List.set_cons_succ, i64_w, i32_w]
        rfl
      refine pure_ (i := 4) (N := some 35) (v := ?_) (a' := ?_) #[true, true, false, false, true, false, false, false, false, false] rfl rfl (any_of HT_.out (by kernel_rfl)) (fun _ _ _ h => h) (Or.inl ⟨by rfl, ?_⟩) ?_ ?_
      rotate_left
      · intro w'
        go_simp
        with_reducible rfl
      rotate_left
      · simp only [Act.put, List.setIfInBounds_toArray, List.set_cons_zero, List.set_cons_succ, i64_w, i32_w]
        rfl
      refine take_ (i := 2) (N := some 33) (v := ?_) (a' := ?_) #[true, true, true, false, true, false, false, false, false, false] rfl rfl (take_ofW HT_.out HW_.out (by kernel_rfl)) (fun _ _ _ h => h) (Or.inl ⟨by rfl, ?_⟩) hHeld ?_ ?_
      rotate_left
      · rintro w' ⟨s0, s1, s2, s3⟩
        go_simp
        with_reducible rfl
      rotate_left
      · simp only [Act.put, List.setIfInBounds_toArray, List.set_cons_zero, List.set_cons_succ, i64_w, i32_w]
        rfl
      refine take_ (i := 5) (N := some 36) (v := ?_) (a' := ?_) #[true, true, true, false, true, true, false, false, false, false] rfl rfl (take_ofW HT_.out HW_.out (by kernel_rfl)) (fun _ _ _ h => h) (Or.inl ⟨by rfl, ?_⟩) hHeld ?_ ?_
      rotate_left
      · rintro w' ⟨s0, s1, s2, s3⟩
        go_simp
        with_reducible rfl
      rotate_left
      · simp only [Act.put, List.setIfInBounds_toArray, List.set_cons_zero, List.set_cons_succ, i64_w, i32_w]
        rfl
      refine one_ (i := 3) (N := some 34) #[true, true, true, true, true, true, false, false, false, false] rfl rfl (one_of HT_.out (by kernel_rfl)) (by decide) (fun K hK => ?_)
      refine goes_ Try.func37 (by kernel_rfl) rfl #[.string ((rd_T23 l0_5 x27_1).f0)] (by rfl) rfl rfl (by (try simp only [List.map_toArray, List.map_cons, List.map_nil]); first | done | rfl | (simp only [List.length_drop, List.length_take]; rfl)) ?_
      with_reducible refine (pack_Text.calls k1 ((rd_T23 l0_5 x27_1).f0) t132 _ A18.out).mono ?_
      rintro e w44 ⟨rfl, hb⟩
      refine ⟨_, rfl, ?_⟩
      replace BK125 := Kb_ BK125 hb
      replace BK131 := Kb_ BK131 hb
      replace HB := Ks_ HB hb
      (try clear hb)
      (try clear hb2)
      (try clear hk)
      (try clear hi)
      refine hK.out _ _ (Kc4_ BK131.out) (fun hHeld => ?_)
      clear hK K
      refine norm_ (a' := ?_) ?_ ?_
      rotate_left
      · show Act.put _ (some 34) _ = _
        simp only [Act.put, List.setIfInBounds_toArray, List.set_cons_zero, List.set_cons_succ, i64_w, i32_w]
        rfl
      refine one_ (i := 6) (N := some 37) #[true, true, true, true, true, true, true, false, false, false] rfl rfl (one_of HT_.out (by kernel_rfl)) (by decide) (fun K hK => ?_)
      refine goes_ Try.func37 (by kernel_rfl) rfl #[.string ((rd_T23 l0_5 x27_1).f1)] (by rfl) rfl rfl (by (try simp only [List.map_toArray, List.map_cons, List.map_nil]); first | done | rfl | (simp only [List.length_drop, List.length_take]; rfl)) ?_
      with_reducible refine (pack_Text.calls k1 ((rd_T23 l0_5 x27_1).f1) t133 _ A19.out).mono ?_
      rintro e w45 ⟨rfl, hb⟩
      refine ⟨_, rfl, ?_⟩
      replace BK125 := Kb_ BK125 hb
      replace BK131 := Kb_ BK131 hb
      replace HB := Ks_ HB hb
      (try clear hb)
      (try clear hb2)
      (try clear hk)
      (try clear hi)
      refine hK.out _ _ (Kc4_ BK131.out) (fun hHeld => ?_)
      clear hK K
      refine norm_ (a' := ?_) ?_ ?_
      rotate_left
      · show Act.put _ (some 37) _ = _
        simp only [Act.put, List.setIfInBounds_toArray, List.set_cons_zero, List.set_cons_succ, i64_w, i32_w]
        rfl
      refine pure_ (i := 7) (N := some 38) (v := ?_) (a' := ?_) #[true, true, true, true, true, true, true, true, false, false] rfl rfl (any_of HT_.out (by kernel_rfl)) (fun _ _ _ h => h) (Or.inl ⟨by rfl, ?_⟩) ?_ ?_
      rotate_left
      · intro w'
        go_simp
        with_reducible rfl
      rotate_left
      · simp only [Act.put, List.setIfInBounds_toArray, List.set_cons_zero, List.set_cons_succ, i64_w, i32_w]
        rfl
      refine pure_ (i := 8) (N := some 39) (v := ?_) (a' := ?_) #[true, true, true, true, true, true, true, true, true, false] rfl rfl (any_of HT_.out (by kernel_rfl)) (fun _ _ _ h => h) (Or.inl ⟨by rfl, ?_⟩) ?_ ?_
      rotate_left
      · intro w'
        go_simp
        with_reducible rfl
      rotate_left
      · simp only [Act.put, List.setIfInBounds_toArray, List.set_cons_zero, List.set_cons_succ, i64_w, i32_w]
        rfl
      refine pure_ (i := 9) (N := some 4) (v := ?_) (a' := ?_) #[true, true, true, true, true, true, true, true, true, true] rfl rfl (any_of HT_.out (by kernel_rfl)) (fun _ _ _ h => h) (Or.inl ⟨by rfl, ?_⟩) ?_ ?_
      rotate_left
      · intro w'
        go_simp
        with_reducible rfl
      rotate_left
      · simp only [Act.put, List.setIfInBounds_toArray, List.set_cons_zero, List.set_cons_succ, i64_w, i32_w]
        rfl
      refine done_ (done_of HT_.out (by kernel_rfl)) ?_
      obtain ⟨hcz46_0, hcz46_1, hcz46_2, hcz46_3, hfz46_0, hfz46_1, hfz46_2, hfz46_3⟩ := Ke4_ BK131.out
      try go_wp2
      replace BK125 := Kd_ BK125
      replace BK131 := Kd_ BK131
      replace HB := Aside0.mk (below_drew1 HB.out)
      refine start_ (n := 8) (S := fun w' => w'.cell? ⟨gb131, 0, none⟩ = some (.string ((rd_T23 l0_5 x27_1).f0)) ∧ w'.cell? ⟨gb131, 1, none⟩ = some (.string ((rd_T23 l0_5 x27_1).f1)) ∧ w'.cell? ⟨gb131, 2, none⟩ = some (.string ((rd_T23 l0_5 x27_1).f2)) ∧ w'.cell? ⟨gb131, 3, none⟩ = some (.bool false)) (ds := []) #[false, false, false, false, false, false, false, false] (by kernel_rfl) rfl rfl (Kc4_ BK131.out) (fun hHeld => ?_); refine with_tabW item_Bytes.tab11 item_Bytes.bits11 (fun HT_ HW_ => ?_)
      generalize w45.drew = w47 at BK125 BK131 HB hHeld ⊢
      refine pure_ (i := 0) (N := some 45) (v := ?_) (a' := ?_) #[true, false, false, false, false, false, false, false] rfl rfl (any_of HT_.out (by kernel_rfl)) (fun _ _ _ h => h) (Or.inl ⟨by rfl, ?_⟩) ?_ ?_
      rotate_left
      · intro w'
        go_simp
        with_reducible rfl
      rotate_left
      · simp only [Act.put, List.setIfInBounds_toArray, List.set_cons_zero, List.set_cons_succ, i64_w, i32_w]
        rfl
      refine pure_ (i := 2) (N := some 47) (v := ?_) (a' := ?_) #[true, false, true, false, false, false, false, false] rfl rfl (any_of HT_.out (by kernel_rfl)) (fun _ _ _ h => h) (Or.inl ⟨by rfl, ?_⟩) ?_ ?_
      rotate_left
      · intro w'
        go_simp
        with_reducible rfl
      rotate_left
      · simp only [Act.put, List.setIfInBounds_toArray, List.set_cons_zero, List.set_cons_succ, i64_w, i32_w]
        rfl
      refine take_ (i := 3) (N := some 48) (v := ?_) (a' := ?_) #[true, false, true, true, false, false, false, false] rfl rfl (take_ofW HT_.out HW_.out (by kernel_rfl)) (fun _ _ _ h => h) (Or.inl ⟨by rfl, ?_⟩) hHeld ?_ ?_
      rotate_left
      · rintro w' ⟨s0, s1, s2, s3⟩
        go_simp
        with_reducible rfl
      rotate_left
      · simp only [Act.put, List.setIfInBounds_toArray, List.set_cons_zero, List.set_cons_succ, i64_w, i32_w]
        rfl
      refine one_ (i := 1) (N := some 46) #[true, true, true, true, false, false, false, false] rfl rfl (one_of HT_.out (by kernel_rfl)) (by decide) (fun K hK => ?_)
      refine goes_ Try.func36 (by kernel_rfl) rfl #[.int .u64 0, .int .i64 1] (by rfl) rfl rfl (by (try simp only [List.map_toArray, List.map_cons, List.map_nil]); first | done | rfl | (simp only [List.length_drop, List.length_take]; rfl)) ?_
      with_reducible refine (pack_Number.calls 0 1 t135 _ A35.out).mono ?_
      rintro e w48 ⟨rfl, hb⟩
      refine ⟨_, rfl, ?_⟩
      replace BK125 := Kb_ BK125 hb
      replace BK131 := Kb_ BK131 hb
      replace HB := Ks_ HB hb
      (try clear hb)
      (try clear hb2)
      (try clear hk)
      (try clear hi)
      refine hK.out _ _ (Kc4_ BK131.out) (fun hHeld => ?_)
      clear hK K
      refine norm_ (a' := ?_) ?_ ?_
      rotate_left
      · show Act.put _ (some 46) _ = _
        simp only [Act.put, List.setIfInBounds_toArray, List.set_cons_zero, List.set_cons_succ, i64_w, i32_w]
        rfl
      refine one_ (i := 4) (N := some 49) #[true, true, true, true, true, false, false, false] rfl rfl (one_of HT_.out (by kernel_rfl)) (by decide) (fun K hK => ?_)
      refine goes_ Try.func37 (by kernel_rfl) rfl #[.string ((rd_T23 l0_5 x27_1).f2)] (by rfl) rfl rfl (by (try simp only [List.map_toArray, List.map_cons, List.map_nil]); first | done | rfl | (simp only [List.length_drop, List.length_take]; rfl)) ?_
      with_reducible refine (pack_Text.calls k1 ((rd_T23 l0_5 x27_1).f2) t136 _ A36.out).mono ?_
      rintro e w49 ⟨rfl, hb⟩
      refine ⟨_, rfl, ?_⟩
      replace BK125 := Kb_ BK125 hb
      replace BK131 := Kb_ BK131 hb
      replace HB := Ks_ HB hb
      (try clear hb)
      (try clear hb2)
      (try clear hk)
      (try clear hi)
      refine hK.out _ _ (Kc4_ BK131.out) (fun hHeld => ?_)
      clear hK K
      refine norm_ (a' := ?_) ?_ ?_
      rotate_left
      · show Act.put _ (some 49) _ = _
        simp only [Act.put, List.setIfInBounds_toArray, List.set_cons_zero, List.set_cons_succ, i64_w, i32_w]
        rfl
      refine pure_ (i := 5) (N := some 50) (v := ?_) (a' := ?_) #[true, true, true, true, true, true, false, false] rfl rfl (any_of HT_.out (by kernel_rfl)) (fun _ _ _ h => h) (Or.inl ⟨by rfl, ?_⟩) ?_ ?_
      rotate_left
      · intro w'
        go_simp
        with_reducible rfl
      rotate_left
      · simp only [Act.put, List.setIfInBounds_toArray, List.set_cons_zero, List.set_cons_succ, i64_w, i32_w]
        rfl
      refine pure_ (i := 6) (N := some 51) (v := ?_) (a' := ?_) #[true, true, true, true, true, true, true, false] rfl rfl (any_of HT_.out (by kernel_rfl)) (fun _ _ _ h => h) (Or.inl ⟨by rfl, ?_⟩) ?_ ?_
      rotate_left
      · intro w'
        go_simp
        with_reducible rfl
      rotate_left
      · simp only [Act.put, List.setIfInBounds_toArray, List.set_cons_zero, List.set_cons_succ, i64_w, i32_w]
        rfl
      refine pure_ (i := 7) (N := some 4) (v := ?_) (a' := ?_) #[true, true, true, true, true, true, true, true] rfl rfl (any_of HT_.out (by kernel_rfl)) (fun _ _ _ h => h) (Or.inl ⟨by rfl, ?_⟩) ?_ ?_
      rotate_left
      · intro w'
        go_simp
        with_reducible rfl
      rotate_left
      · simp only [Act.put, List.setIfInBounds_toArray, List.set_cons_zero, List.set_cons_succ, i64_w, i32_w]
        rfl
      refine done_ (done_of HT_.out (by kernel_rfl)) ?_
      try go_wp2
      go_roundg k1
      case measure => have := HK1.out; omega
      case rel => exact ⟨((x4_1 ++ (t132 ++ t133)) ++ (t135 ++ t136)), (wrap64 (x27_1 + 1)), (by first | rfl | (simp; done) | (simp [*]; done)), (by first | rfl | (simp; done) | (simp [*]; done)), H', ⟨by have := HK1.out; omega⟩, ⟨by exact Kq_ BK125⟩, ⟨by repeat (first | (with_reducible first | exact HB.out | apply below_alloc | apply pw_below_drewN | apply below_drew1 | refine below_set ?_ GE125.out | refine below_set ?_ GE131.out) | exact HB.out)⟩⟩
attribute [local go_sem] ixA28_0 ixA28_1 ixA28_2 ixA28_3   -- for this text's walks alone
theorem eqA30 (d : Nat) (w : World) (x0 y0 : Int) (x1 y1 : Int) (x2 y2 : Int) (x3 y3 : Int) (x4 y4 : Int) :
    (Op.equalIn (d + 3) 30 (.agg #[.int .u64 x0, .int .u64 x1, .int .u64 x2, .int .u64 x3, .int .i64 x4]) (.agg #[.int .u64 y0, .int .u64 y1, .int .u64 y2, .int .u64 y3, .int .i64 y4])).run Try.prog w = .ok ((x0 == y0 && (x1 == y1 && (x2 == y2 && (x3 == y3)))) && (x4 == y4)) w := by
  refine eqA_of Try.underlying30 (by kernel_rfl) ?_
  refine eqf_cons (by rfl) (by go_simp) (by go_simp) (eqA28 (d + 0) w _ _ _ _ _ _ _ _) ?_
  exact eqf_last (by rfl) (by go_simp; rfl) (by go_simp; rfl) (by go_simp)
theorem eqA23 (d : Nat) (w : World) (x0 y0 : ByteArray) (x1 y1 : ByteArray) (x2 y2 : ByteArray) (x3 y3 : Bool) :
    (Op.equalIn (d + 2) 23 (.agg #[.string x0, .string x1, .string x2, .bool x3]) (.agg #[.string y0, .string y1, .string y2, .bool y3])).run Try.prog w = .ok (x0.toList == y0.toList && (x1.toList == y1.toList && (x2.toList == y2.toList && (x3 == y3)))) w := by
  refine eqA_of Try.underlying23 (by kernel_rfl) ?_
  refine eqf_cons (by rfl) (by go_simp; rfl) (by go_simp; rfl) (by go_simp) ?_
  refine eqf_cons (by rfl) (by go_simp; rfl) (by go_simp; rfl) (by go_simp) ?_
  refine eqf_cons (by rfl) (by go_simp; rfl) (by go_simp; rfl) (by go_simp) ?_
  exact eqf_last (by rfl) (by go_simp; rfl) (by go_simp; rfl) (by go_simp)
attribute [local go_sem high] eqA23
/-! ### item_Write_47: function 47 -/
def item_Write_47.l0 : Nat → List (S23) → List (S23) → Int → Int → Option (Bool)
  | 0, _, _, _, _ => none
  | k + 1, x0, x1, x12, x13 => if x13 < x12 then (if 0 ≤ x13 then (if x13 < (x0.length : Int) then (if x13 < (x1.length : Int) then (if (!((((rd_T23 x0 x13).f0).toList) == (((rd_T23 x1 x13).f0).toList)) || (!((((rd_T23 x0 x13).f1).toList) == (((rd_T23 x1 x13).f1).toList)) || (!((((rd_T23 x0 x13).f2).toList) == (((rd_T23 x1 x13).f2).toList)) || (!(((rd_T23 x0 x13).f3) == ((rd_T23 x1 x13).f3)))))) = true then (some false) else (item_Write_47.l0 k x0 x1 x12 (wrap64 (x13 + 1)))) else (none)) else (none)) else (none)) else (some true)
def item_Write_47.f (k : Nat) (l0 : List (S23)) (l1 : List (S23)) : Option (Bool) := if (l0.length : Int) = (l1.length : Int) then (item_Write_47.l0 k l0 l1 (l0.length : Int) 0) else (some false)
theorem item_Write_47.mono_l : ∀ k, (∀ y0 y1 y2 y3, LeO (item_Write_47.l0 k y0 y1 y2 y3) (item_Write_47.l0 (k + 1) y0 y1 y2 y3))
  | 0 => fun _ _ _ _ r h => by simp [item_Write_47.l0] at h
  | k + 1 => by
    have ih0 := item_Write_47.mono_l k
    · intro y0 y1 y2 y3
      unfold item_Write_47.l0
      repeat' first
      | (with_reducible exact ih0 _ _ _ _)
      | (with_reducible exact LeO.refl _)
      | (with_reducible exact LeO.none _)
      | (with_reducible refine LeO.ite ?_ ?_)
      | (with_reducible refine LeO.bind ?_ (fun _ => ?_))
      | exact ih0 _ _ _ _
      | exact LeO.none _
      | refine LeO.ite ?_ ?_
      | refine LeO.bind ?_ (fun _ => ?_)
theorem item_Write_47.mono : ∀ a0 a1 k, LeO (item_Write_47.f k a0 a1) (item_Write_47.f (k + 1) a0 a1) := by
  intro a0 a1 k
  have ih0 := item_Write_47.mono_l k
  unfold item_Write_47.f
  repeat' first
      | (with_reducible exact ih0 _ _ _ _)
      | (with_reducible exact LeO.refl _)
      | (with_reducible exact LeO.none _)
      | (with_reducible refine LeO.ite ?_ ?_)
      | (with_reducible refine LeO.bind ?_ (fun _ => ?_))
      | exact ih0 _ _ _ _
      | exact LeO.none _
      | refine LeO.ite ?_ ?_
      | refine LeO.bind ?_ (fun _ => ?_)
set_option maxHeartbeats 8000000 in
set_option maxRecDepth 100000 in
theorem item_Write_47.calls (k : Nat) (A0 : Option Addr) (c0 : Nat) (l0 : List (S23)) (A1 : Option Addr) (c1 : Nat) (l1 : List (S23)) (r : Bool) (w : World) (hr0 : Kd.C k23 w A0 l0.length l0) (hc0 : l0.length ≤ c0) (hr1 : Kd.C k23 w A1 l1.length l1) (hc1 : l1.length ≤ c1) (h : item_Write_47.f k l0 l1 = some r) :
    Calls Try.prog 47 #[.slice A0 l0.length c0, .slice A1 l1.length c1] w fun e w' => e = .returned (.bool r) ∧ Drawn0 w w' := by
  have hu23 := Try.underlying23
  have HR0 := Aside0.mk hr0
  have HC0 := Aside0.mk hc0
  clear hr0 hc0
  have HR1 := Aside0.mk hr1
  have HC1 := Aside0.mk hc1
  clear hr1 hc1
  have H : (if (l0.length : Int) = (l1.length : Int) then (item_Write_47.l0 k l0 l1 (l0.length : Int) 0) else (some false)) = some r := h
  clear h
  by_cases c3 : (l0.length : Int) = (l1.length : Int)
  rotate_left
  · rw [if_neg c3] at H
    have c3b0 : ((l0.length : Int) == (l1.length : Int)) = false := beq_eq_false_iff_ne.mpr c3
    have c3b1 : ((l0.length : Int) != (l1.length : Int)) = true := bne_iff_ne.mpr c3
    have c3b2 : (l0.length == l1.length) = false := by first | simpa using c3 | (simp at c3 ⊢; omega)
    obtain rfl := Option.some.inj H
    go_enter Try.func47, Try.ntmps47
    go_wp2
    repeat (go_quiet (fail); try go_wp2)
    go_ret
    exact ⟨by first | rfl | (simp; done) | (simp [*]; done), by repeat (first | exact Drawn0.refl _ | apply Drawn0.step)⟩
  rw [if_pos c3] at H
  have c3b0 : ((l0.length : Int) == (l1.length : Int)) = true := beq_iff_eq.mpr c3
  have c3b1 : ((l0.length : Int) != (l1.length : Int)) = false := bne_eq_false_iff_eq.mpr c3
  have c3b2 : (l0.length == l1.length) = true := by first | simpa using c3 | (simp at c3 ⊢; omega)
  clear c3
  have H' := Aside0.mk H
  clear H
  go_enter Try.func47, Try.ntmps47
  go_wp2
  repeat (go_quiet (fail); try go_wp2)
  go_loopg [13] k (fun kq v13 w' => ∃ (x13_1 : Int), v13 = .int .i64 x13_1 ∧ Aside0 (item_Write_47.l0 kq l0 l1 (l0.length : Int) x13_1 = some r) ∧ Aside0 (kq ≤ k) ∧ Drawn0 w w')
  case atStart => exact ⟨(0), (by first | rfl | (simp; done) | (simp [*]; done)), H', ⟨Nat.le_refl _⟩, by repeat (first | exact Drawn0.refl _ | apply Drawn0.step)⟩
  case round =>
    clear H'
    try clear c1
    try clear p2
    try clear c3
    try clear c3b0
    try clear c3b1
    try clear c3b2
    obtain ⟨x13_1, rfl, HA, HK1, ⟨m1, rfl⟩⟩ := hrel
    cases gk with
    | zero => exact absurd HA.out (by simp [item_Write_47.l0])
    | succ k1 =>
      have H := HA.out
      clear HA
      simp only [item_Write_47.l0] at H
      by_cases c4 : x13_1 < (l0.length : Int)
      rotate_left
      · rw [if_neg c4] at H
        have c4b0 : decide (x13_1 < (l0.length : Int)) = false := decide_eq_false c4
        clear c4
        obtain rfl := Option.some.inj H
        go_wp2
        repeat (go_quiet (fail); try go_wp2)
        go_ret
        exact ⟨by first | rfl | (simp; done) | (simp [*]; done), by repeat (first | exact Drawn0.refl _ | apply Drawn0.step)⟩
      rw [if_pos c4] at H
      have c4b0 : decide (x13_1 < (l0.length : Int)) = true := decide_eq_true c4
      clear c4
      by_cases c5 : 0 ≤ x13_1
      rotate_left
      · rw [if_neg c5] at H
        exact absurd H (by simp)
      rw [if_pos c5] at H
      have c5b0 : decide (0 ≤ x13_1) = true := decide_eq_true c5
      clear c5
      by_cases c6 : x13_1 < (l0.length : Int)
      rotate_left
      · rw [if_neg c6] at H
        exact absurd H (by simp)
      rw [if_pos c6] at H
      have c6b0 : decide (x13_1 < (l0.length : Int)) = true := decide_eq_true c6
      clear c6
      by_cases c7 : x13_1 < (l1.length : Int)
      rotate_left
      · rw [if_neg c7] at H
        exact absurd H (by simp)
      rw [if_pos c7] at H
      have c7b0 : decide (x13_1 < (l1.length : Int)) = true := decide_eq_true c7
      clear c7
      by_cases c8 : (!((((rd_T23 l0 x13_1).f0).toList) == (((rd_T23 l1 x13_1).f0).toList)) || (!((((rd_T23 l0 x13_1).f1).toList) == (((rd_T23 l1 x13_1).f1).toList)) || (!((((rd_T23 l0 x13_1).f2).toList) == (((rd_T23 l1 x13_1).f2).toList)) || (!(((rd_T23 l0 x13_1).f3) == ((rd_T23 l1 x13_1).f3)))))) = true
      · rw [if_pos c8] at H
        have c8b0 : (!((((rd_T23 l0 x13_1).f0).toList) == (((rd_T23 l1 x13_1).f0).toList)) || (!((((rd_T23 l0 x13_1).f1).toList) == (((rd_T23 l1 x13_1).f1).toList)) || (!((((rd_T23 l0 x13_1).f2).toList) == (((rd_T23 l1 x13_1).f2).toList)) || (!(((rd_T23 l0 x13_1).f3) == ((rd_T23 l1 x13_1).f3)))))) = true := c8
        clear c8
        obtain rfl := Option.some.inj H
        have p141 : 0 ≤ (x13_1 : Int) := of_decide_eq_true (by first | (with_reducible assumption) | assumption)
        have q141 : x13_1 < (l0.length : Int) := of_decide_eq_true (by first | (with_reducible assumption) | assumption)
        obtain ⟨ad141, e141, hx141_0, hx141_1, hx141_2, hx141_3⟩ := at_T23 HR0.out x13_1 p141 q141
        cases e141
        replace p141 := eq_true p141
        replace q141 := eq_true q141
        have p142 : 0 ≤ (x13_1 : Int) := of_decide_eq_true (by first | (with_reducible assumption) | assumption)
        have q142 : x13_1 < (l1.length : Int) := of_decide_eq_true (by first | (with_reducible assumption) | assumption)
        obtain ⟨ad142, e142, hx142_0, hx142_1, hx142_2, hx142_3⟩ := at_T23 HR1.out x13_1 p142 q142
        cases e142
        replace p142 := eq_true p142
        replace q142 := eq_true q142
        go_wp2
        repeat (go_quiet (fail); try go_wp2)
        go_ret
        exact ⟨by first | rfl | (simp; done) | (simp [*]; done), by repeat (first | exact Drawn0.refl _ | apply Drawn0.step)⟩
      rw [if_neg c8] at H
      have c8b0 : (!((((rd_T23 l0 x13_1).f0).toList) == (((rd_T23 l1 x13_1).f0).toList)) || (!((((rd_T23 l0 x13_1).f1).toList) == (((rd_T23 l1 x13_1).f1).toList)) || (!((((rd_T23 l0 x13_1).f2).toList) == (((rd_T23 l1 x13_1).f2).toList)) || (!(((rd_T23 l0 x13_1).f3) == ((rd_T23 l1 x13_1).f3)))))) = false := by simpa using c8
      clear c8
      have H' := Aside0.mk H
      clear H
      have p141 : 0 ≤ (x13_1 : Int) := of_decide_eq_true (by first | (with_reducible assumption) | assumption)
      have q141 : x13_1 < (l0.length : Int) := of_decide_eq_true (by first | (with_reducible assumption) | assumption)
      obtain ⟨ad141, e141, hx141_0, hx141_1, hx141_2, hx141_3⟩ := at_T23 HR0.out x13_1 p141 q141
      cases e141
      replace p141 := eq_true p141
      replace q141 := eq_true q141
      have p142 : 0 ≤ (x13_1 : Int) := of_decide_eq_true (by first | (with_reducible assumption) | assumption)
      have q142 : x13_1 < (l1.length : Int) := of_decide_eq_true (by first | (with_reducible assumption) | assumption)
      obtain ⟨ad142, e142, hx142_0, hx142_1, hx142_2, hx142_3⟩ := at_T23 HR1.out x13_1 p142 q142
      cases e142
      replace p142 := eq_true p142
      replace q142 := eq_true q142
      go_wp2
      repeat (go_quiet (fail); try go_wp2)
      go_roundg k1
      case measure => have := HK1.out; omega
      case rel => exact ⟨(wrap64 (x13_1 + 1)), (by first | rfl | (simp; done) | (simp [*]; done)), H', ⟨by have := HK1.out; omega⟩, by repeat (first | exact Drawn0.refl _ | apply Drawn0.step)⟩
attribute [local go_sem high] eqA30
/-! ### item_Same: function 24 -/
def item_Same.f (k : Nat) (a0_0 : Int) (a0_1 : Int) (a0_2 : Int) (a0_3 : Int) (a0_4 : Int) (l0_5 : List (S23)) (a1_0 : Int) (a1_1 : Int) (a1_2 : Int) (a1_3 : Int) (a1_4 : Int) (l1_5 : List (S23)) : Option (Bool) := if ((a0_0 == a1_0 && (a0_1 == a1_1 && (a0_2 == a1_2 && (a0_3 == a1_3)))) && (a0_4 == a1_4)) = true then ((item_Write_47.f k l0_5 l1_5).bind fun t145 => (some t145)) else (some false)
theorem item_Same.mono : ∀ a0 a1 a2 a3 a4 a5 a6 a7 a8 a9 a10 a11 k, LeO (item_Same.f k a0 a1 a2 a3 a4 a5 a6 a7 a8 a9 a10 a11) (item_Same.f (k + 1) a0 a1 a2 a3 a4 a5 a6 a7 a8 a9 a10 a11) := by
  intro a0 a1 a2 a3 a4 a5 a6 a7 a8 a9 a10 a11 k
  unfold item_Same.f
  repeat' first
      | (with_reducible exact item_Write_47.mono _ _ _)
      | (with_reducible exact LeO.refl _)
      | (with_reducible exact LeO.none _)
      | (with_reducible refine LeO.ite ?_ ?_)
      | (with_reducible refine LeO.bind ?_ (fun _ => ?_))
      | exact item_Write_47.mono _ _ _
      | exact LeO.none _
      | refine LeO.ite ?_ ?_
      | refine LeO.bind ?_ (fun _ => ?_)
set_option maxHeartbeats 8000000 in
set_option maxRecDepth 100000 in
theorem item_Same.calls (k : Nat) (a0_0 : Int) (a0_1 : Int) (a0_2 : Int) (a0_3 : Int) (a0_4 : Int) (A0_5 : Option Addr) (c0_5 : Nat) (l0_5 : List (S23)) (a1_0 : Int) (a1_1 : Int) (a1_2 : Int) (a1_3 : Int) (a1_4 : Int) (A1_5 : Option Addr) (c1_5 : Nat) (l1_5 : List (S23)) (r : Bool) (w : World) (hr0_5 : Kd.C k23 w A0_5 l0_5.length l0_5) (hc0_5 : l0_5.length ≤ c0_5) (hr1_5 : Kd.C k23 w A1_5 l1_5.length l1_5) (hc1_5 : l1_5.length ≤ c1_5) (h : item_Same.f k a0_0 a0_1 a0_2 a0_3 a0_4 l0_5 a1_0 a1_1 a1_2 a1_3 a1_4 l1_5 = some r) :
    Calls Try.prog 24 #[.agg #[.int .u64 a0_0, .int .u64 a0_1, .int .u64 a0_2, .int .u64 a0_3, .int .i64 a0_4, .slice A0_5 l0_5.length c0_5], .agg #[.int .u64 a1_0, .int .u64 a1_1, .int .u64 a1_2, .int .u64 a1_3, .int .i64 a1_4, .slice A1_5 l1_5.length c1_5]] w fun e w' => e = .returned (.bool r) ∧ Below w.heap.size w w' := by
  have hu43 := Try.underlying43
  have hu30 := Try.underlying30
  have HR0_5 := Aside0.mk hr0_5
  have HC0_5 := Aside0.mk hc0_5
  clear hr0_5 hc0_5
  have HR1_5 := Aside0.mk hr1_5
  have HC1_5 := Aside0.mk hc1_5
  clear hr1_5 hc1_5
  have HB := Aside0.mk (Below.refl w.heap.size w)
  have H : (if ((a0_0 == a1_0 && (a0_1 == a1_1 && (a0_2 == a1_2 && (a0_3 == a1_3)))) && (a0_4 == a1_4)) = true then ((item_Write_47.f k l0_5 l1_5).bind fun t145 => (some t145)) else (some false)) = some r := h
  clear h
  by_cases c3 : ((a0_0 == a1_0 && (a0_1 == a1_1 && (a0_2 == a1_2 && (a0_3 == a1_3)))) && (a0_4 == a1_4)) = true
  rotate_left
  · rw [if_neg c3] at H
    have c3b0 : ((a0_0 == a1_0 && (a0_1 == a1_1 && (a0_2 == a1_2 && (a0_3 == a1_3)))) && (a0_4 == a1_4)) = false := by simpa using c3
    clear c3
    obtain rfl := Option.some.inj H
    go_enter Try.func24, Try.ntmps24
    go_wp2_with (first | ((with_reducible refine gate_dst (N := 2) rfl ?_); refine box_event ?hg (N := 2) ?hd (cs := #[.int .u64 a0_0, .int .u64 a0_1, .int .u64 a0_2, .int .u64 a0_3, .int .i64 a0_4, .slice A0_5 l0_5.length c0_5]) (t := 43) ?hr ?_; (case hd => rfl); (case hg => rfl); (case hr => first | (go_simp; done) | (go_simp; rfl)); intro gb143 hg w10 hbox hb; have BK143 := Aside0.mk (hbox); have GW143 := Kw_ HB hg; have GE143 := GW143; replace HB := Ks_ HB hb; clear hb hbox hg) | ((with_reducible refine gate_dst (N := 3) rfl ?_); refine box_event ?hg (N := 3) ?hd (cs := #[.int .u64 a1_0, .int .u64 a1_1, .int .u64 a1_2, .int .u64 a1_3, .int .i64 a1_4, .slice A1_5 l1_5.length c1_5]) (t := 43) ?hr ?_; (case hd => rfl); (case hg => rfl); (case hr => first | (go_simp; done) | (go_simp; rfl)); intro gb144 hg w11 hbox hb; have BK144 := Aside0.mk (hbox); have GW144 := Kw_ HB hg; have GE144 := GW144; have NB143_144 := Kl_ BK143 hg; have NB144_143 := Kr_ BK143 hg; replace BK143 := Kb_ BK143 hb; replace HB := Ks_ HB hb; clear hb hbox hg; have hnb12 := NB143_144.out; have hnc12 := NB144_143.out; obtain ⟨hcz13_0, hcz13_1, hcz13_2, hcz13_3, hcz13_4, hcz13_5, hfz13_0, hfz13_1, hfz13_2, hfz13_3, hfz13_4, hfz13_5⟩ := Ke6_ BK143.out; obtain ⟨hcz14_0, hcz14_1, hcz14_2, hcz14_3, hcz14_4, hcz14_5, hfz14_0, hfz14_1, hfz14_2, hfz14_3, hfz14_4, hfz14_5⟩ := Ke6_ BK144.out))
    go_ret
    exact ⟨Kh_, by repeat (first | (with_reducible first | exact HB.out | apply below_alloc | apply pw_below_drewN | apply below_drew1 | refine below_set ?_ GE143.out | refine below_set ?_ GE144.out) | exact HB.out)⟩
  rw [if_pos c3] at H
  have c3b0 : ((a0_0 == a1_0 && (a0_1 == a1_1 && (a0_2 == a1_2 && (a0_3 == a1_3)))) && (a0_4 == a1_4)) = true := c3
  clear c3
  replace H := Option.bind_eq_some_iff.mp H
  obtain ⟨t145, A40, H⟩ := H
  replace H : (some t145) = some r := H
  have A4 := Aside0.mk A40
  clear A40
  obtain rfl := Option.some.inj H
  go_enter Try.func24, Try.ntmps24
  go_wp2_with (first | ((with_reducible refine gate_dst (N := 2) rfl ?_); refine box_event ?hg (N := 2) ?hd (cs := #[.int .u64 a0_0, .int .u64 a0_1, .int .u64 a0_2, .int .u64 a0_3, .int .i64 a0_4, .slice A0_5 l0_5.length c0_5]) (t := 43) ?hr ?_; (case hd => rfl); (case hg => rfl); (case hr => first | (go_simp; done) | (go_simp; rfl)); intro gb143 hg w5 hbox hb; have BK143 := Aside0.mk (hbox); have GW143 := Kw_ HB hg; have GE143 := GW143; replace HB := Ks_ HB hb; clear hb hbox hg) | ((with_reducible refine gate_dst (N := 3) rfl ?_); refine box_event ?hg (N := 3) ?hd (cs := #[.int .u64 a1_0, .int .u64 a1_1, .int .u64 a1_2, .int .u64 a1_3, .int .i64 a1_4, .slice A1_5 l1_5.length c1_5]) (t := 43) ?hr ?_; (case hd => rfl); (case hg => rfl); (case hr => first | (go_simp; done) | (go_simp; rfl)); intro gb144 hg w6 hbox hb; have BK144 := Aside0.mk (hbox); have GW144 := Kw_ HB hg; have GE144 := GW144; have NB143_144 := Kl_ BK143 hg; have NB144_143 := Kr_ BK143 hg; replace BK143 := Kb_ BK143 hb; replace HB := Ks_ HB hb; clear hb hbox hg; have hnb7 := NB143_144.out; have hnc7 := NB144_143.out; obtain ⟨hcz8_0, hcz8_1, hcz8_2, hcz8_3, hcz8_4, hcz8_5, hfz8_0, hfz8_1, hfz8_2, hfz8_3, hfz8_4, hfz8_5⟩ := Ke6_ BK143.out; obtain ⟨hcz9_0, hcz9_1, hcz9_2, hcz9_3, hcz9_4, hcz9_5, hfz9_0, hfz9_1, hfz9_2, hfz9_3, hfz9_4, hfz9_5⟩ := Ke6_ BK144.out) | (go_at_call 47; (with_reducible refine (item_Write_47.calls k _ _ l0_5 _ _ l1_5 t145 _ ?side1 ?side2 ?side3 ?side4 A4.out).mono ?_); (case side1 => repeat (first | exact (Kd.C_below HR0_5.out HB.out) | (with_reducible refine Kd.C_alloc ?_ _) | (with_reducible refine Kd.C_drewN ?_ _) | (with_reducible refine Kd.C_drew ?_))); (case side2 => exact HC0_5.out); (case side3 => repeat (first | exact (Kd.C_below HR1_5.out HB.out) | (with_reducible refine Kd.C_alloc ?_ _) | (with_reducible refine Kd.C_drewN ?_ _) | (with_reducible refine Kd.C_drew ?_))); (case side4 => exact HC1_5.out); rintro e w' ⟨rfl, ⟨nd, rfl⟩⟩))
  go_ret
  exact ⟨Kh_, by repeat (first | (with_reducible first | exact HB.out | apply below_alloc | apply pw_below_drewN | apply below_drew1 | refine below_set ?_ GE143.out | refine below_set ?_ GE144.out) | exact HB.out)⟩
/-! ### pack_Reader_Number: function 53 -/
-- FOREIGN: ranges over []byte(s)
theorem pack_Reader_Number.bytesWorld_frozen (w : World) (e : TypeId) (s : ByteArray) (a : Addr) (ha : a.block < w.heap.size) : (Lib.bytesWorld w e s).frozen? a = w.frozen? a :=
  (bytes_below (Below.refl _ _) (Nat.le_refl _) e s).frozen ha
theorem pack_Reader_Number.bt_extract0 (s : ByteArray) (n k : Nat) (hk : k < n) (hs : n ≤ s.size) : bt (s.extract 0 n) k = bt s k := by
  unfold bt
  rw [dif_pos (by simp; omega), dif_pos (by simp; omega)]
  simp [ByteArray.getElem_extract]
def rnum (s : ByteArray) : Nat → Int
  | 0 => 0
  | k + 1 => Go.bits .or .u64 (IntKind.u64.wrap (rnum s k * 256)) (IntKind.u64.wrap (bt s k))
def pack_Reader_Number.f (a0_0 : ByteArray) (a0_1 : Bool) (a1 : Int) : Option (Int × ByteArray × Bool) :=
  if a0_0.size ≤ 9223372036854775807 then
    (if a0_1 = true then some (0, (⟨#[]⟩ : ByteArray), true) else if a1 < 1 then some (0, (⟨#[]⟩ : ByteArray), true) else if 8 < a1 then some (0, (⟨#[]⟩ : ByteArray), true)
      else if (a0_0.size : Int) < a1 then some (0, (⟨#[]⟩ : ByteArray), true) else some (rnum a0_0 a1.toNat, a0_0.extract a1.toNat a0_0.size, false))
  else none
theorem pack_Reader_Number.some_ (s : ByteArray) (n : Nat) (h1 : 1 ≤ n) (h8 : n ≤ 8) (hs : n ≤ s.size) (hm : s.size ≤ 9223372036854775807) (w : World) :
    Calls Try.prog 53 #[.agg #[.string s, .bool false], .int .i64 n] w fun e w' => e = .returned (.tuple #[.int .u64 (rnum s n), .agg #[.string (s.extract n s.size), .bool false]]) ∧ Below w.heap.size w w' := by
  have hcv := fun W t => Lib.run_convert_string_bytes (P := Try.prog) W 9 76 5 t Try.underlying9 Try.underlying76 Try.underlying5
  have b1 : decide ((n : Int) < 1) = false := by simp; omega
  have b2 : decide ((8 : Int) < (n : Int)) = false := by simp; omega
  have b3 : decide (s.size < n) = false := by simp; omega
  go_enter Try.func53, Try.ntmps53
  go_wp2
  obtain ⟨W, hW⟩ : ∃ W, W = Lib.bytesWorld ((w.alloc (Obj.cells #[Value.string s, Value.bool false] 97)).alloc (Obj.cells #[Value.string { data := #[] }, Value.bool false] 97)) 5 (s.extract 0 n) := ⟨_, rfl⟩
  have hbel : Below w.heap.size w W := by
    rw [hW]
    exact bytes_below (((Below.refl _ _).alloc (Nat.le_refl _) _).alloc (by simp) _) (by simp; omega) _ _
  have hsz : W.heap.size = w.heap.size + 3 := by rw [hW, Lib.bytesWorld_size]; simp
  have hc0 : W.cell? ⟨w.heap.size, 0, none⟩ = some (.string s) := by
    rw [hW, Lib.bytesWorld_old _ _ _ _ (by simp; omega)]; simp [go_sem]
  have hc2 : W.cell? ⟨w.heap.size + 1, 0, none⟩ = some (.string ⟨#[]⟩) := by
    rw [hW, Lib.bytesWorld_old _ _ _ _ (by simp)]; simp [go_sem]
  have hc3 : W.cell? ⟨w.heap.size + 1, 1, none⟩ = some (.bool false) := by
    rw [hW, Lib.bytesWorld_old _ _ _ _ (by simp)]; simp [go_sem]
  have hf2 : W.frozen? ⟨w.heap.size + 1, 0, none⟩ = false := by
    rw [hW, pack_Reader_Number.bytesWorld_frozen _ _ _ _ (by simp)]; simp [go_sem]
  have hf3 : W.frozen? ⟨w.heap.size + 1, 1, none⟩ = false := by
    rw [hW, pack_Reader_Number.bytesWorld_frozen _ _ _ _ (by simp)]; simp [go_sem]
  have hel : ∀ k : Nat, k < n → W.cell? ⟨w.heap.size + 1 + 1, k, none⟩ = some (.int .u8 (bt s k)) := by
    intro k hk
    obtain ⟨_, _, hr⟩ := bytes_reads ((w.alloc (Obj.cells #[Value.string s, Value.bool false] 97)).alloc (Obj.cells #[Value.string { data := #[] }, Value.bool false] 97)) 5 (s.extract 0 n) (by simp; omega)
    rw [← hW] at hr
    obtain ⟨ad, had, hr⟩ := hr (by simp; omega)
    have hr := hr k (by simp; omega)
    simp at had
    subst had
    rw [add_plain] at hr
    rw [hr]
    have e1 : (bytesOf (s.extract 0 n)).getD k 0 = bt (s.extract 0 n) k := rd_bytesOf (s.extract 0 n) k
    rw [e1, pack_Reader_Number.bt_extract0 _ _ _ hk hs]
  rw [← hW]
  clear hW hcv
  go_loop [32, 4] (fun i v => ∃ k : Nat, k ≤ n ∧ i = .int .i64 k ∧ v = .int .u64 (rnum s k)) (fun i _ => n - (intOf i).toNat)
  case atStart => exact ⟨0, Nat.zero_le _, rfl, rfl⟩
  case round =>
    obtain ⟨k, hk, rfl, rfl⟩ := hrel
    by_cases hlt : k < n
    · have hcell := hel k hlt
      clear hel
      go_wp2
      go_round
      case rel => exact ⟨k + 1, by omega, by go_num, rfl⟩
      case measure => simp [intOf]; omega
    · obtain rfl : k = n := by omega
      clear hel
      go_wp2
      go_region
      all_goals go_wp2
      refine bodyPost_ret (v := .tuple #[.int .u64 (rnum s k), .agg #[.string (s.extract k s.size), .bool false]]) (by simp [results, Try.results53, go_sem, hc2, hc3, hf2, hf3]) rfl ⟨rfl, ?_⟩
      exact ((hbel.setCell (by simp) _).setCell (by simp) _).drew
theorem pack_Reader_Number.bad_ (s : ByteArray) (b : Bool) (a1 : Int) (h : b = true ∨ b = false ∧ (a1 < 1 ∨ 8 < a1 ∨ (s.size : Int) < a1)) (w : World) :
    Calls Try.prog 53 #[.agg #[.string s, .bool b], .int .i64 a1] w fun e w' => e = .returned (.tuple #[.int .u64 0, .agg #[.string ⟨#[]⟩, .bool true]]) ∧ Below w.heap.size w w' := by
  rcases h with rfl | ⟨rfl, h⟩
  · go_enter Try.func53, Try.ntmps53
    go_wp2
    refine bodyPost_ret (v := .agg #[.string ⟨#[]⟩, .bool true]) (by simp [results, Try.results71, go_sem]) rfl ?_
    go_wp2
    refine bodyPost_ret (v := .tuple #[.int .u64 0, .agg #[.string ⟨#[]⟩, .bool true]]) (by simp [results, Try.results53, go_sem]) rfl ⟨rfl, ?_⟩
    repeat (first | exact Below.refl _ _ | apply below_alloc | apply below_drew | refine Below.setCell ?_ (by simp) _)
  · rcases h with h | h | h
    · have b1 : decide (a1 < 1) = true := decide_eq_true h
      go_enter Try.func53, Try.ntmps53
      go_wp2
      refine bodyPost_ret (v := .agg #[.string ⟨#[]⟩, .bool true]) (by simp [results, Try.results71, go_sem]) rfl ?_
      go_wp2
      refine bodyPost_ret (v := .tuple #[.int .u64 0, .agg #[.string ⟨#[]⟩, .bool true]]) (by simp [results, Try.results53, go_sem]) rfl ⟨rfl, ?_⟩
      repeat (first | exact Below.refl _ _ | apply below_alloc | apply below_drew | refine Below.setCell ?_ (by simp) _)
    · have b1 : decide (8 < a1) = true := decide_eq_true h
      have b2 : decide (a1 < 1) = false := decide_eq_false (by omega)
      go_enter Try.func53, Try.ntmps53
      go_wp2
      refine bodyPost_ret (v := .agg #[.string ⟨#[]⟩, .bool true]) (by simp [results, Try.results71, go_sem]) rfl ?_
      go_wp2
      refine bodyPost_ret (v := .tuple #[.int .u64 0, .agg #[.string ⟨#[]⟩, .bool true]]) (by simp [results, Try.results53, go_sem]) rfl ⟨rfl, ?_⟩
      repeat (first | exact Below.refl _ _ | apply below_alloc | apply below_drew | refine Below.setCell ?_ (by simp) _)
    · by_cases h1 : a1 < 1
      · have b1 : decide (a1 < 1) = true := decide_eq_true h1
        clear h
        go_enter Try.func53, Try.ntmps53
        go_wp2
        refine bodyPost_ret (v := .agg #[.string ⟨#[]⟩, .bool true]) (by simp [results, Try.results71, go_sem]) rfl ?_
        go_wp2
        refine bodyPost_ret (v := .tuple #[.int .u64 0, .agg #[.string ⟨#[]⟩, .bool true]]) (by simp [results, Try.results53, go_sem]) rfl ⟨rfl, ?_⟩
        repeat (first | exact Below.refl _ _ | apply below_alloc | apply below_drew | refine Below.setCell ?_ (by simp) _)
      · by_cases h8 : 8 < a1
        · have b1 : decide (8 < a1) = true := decide_eq_true h8
          clear h
          have b2 : decide (a1 < 1) = false := decide_eq_false (by omega)
          go_enter Try.func53, Try.ntmps53
          go_wp2
          refine bodyPost_ret (v := .agg #[.string ⟨#[]⟩, .bool true]) (by simp [results, Try.results71, go_sem]) rfl ?_
          go_wp2
          refine bodyPost_ret (v := .tuple #[.int .u64 0, .agg #[.string ⟨#[]⟩, .bool true]]) (by simp [results, Try.results53, go_sem]) rfl ⟨rfl, ?_⟩
          repeat (first | exact Below.refl _ _ | apply below_alloc | apply below_drew | refine Below.setCell ?_ (by simp) _)
        · have b1 : decide (8 < a1) = false := decide_eq_false (by omega)
          have b2 : decide (a1 < 1) = false := decide_eq_false (by omega)
          have b3 : decide ((s.size : Int) < a1) = true := decide_eq_true h
          go_enter Try.func53, Try.ntmps53
          go_wp2
          refine bodyPost_ret (v := .agg #[.string ⟨#[]⟩, .bool true]) (by simp [results, Try.results71, go_sem]) rfl ?_
          go_wp2
          refine bodyPost_ret (v := .tuple #[.int .u64 0, .agg #[.string ⟨#[]⟩, .bool true]]) (by simp [results, Try.results53, go_sem]) rfl ⟨rfl, ?_⟩
          repeat (first | exact Below.refl _ _ | apply below_alloc | apply below_drew | refine Below.setCell ?_ (by simp) _)
theorem pack_Reader_Number.calls (a0_0 : ByteArray) (a0_1 : Bool) (a1 : Int) (r1 : Int) (r2 : ByteArray) (r3 : Bool) (w : World) (h : pack_Reader_Number.f a0_0 a0_1 a1 = some (r1, r2, r3)) :
    Calls Try.prog 53 #[.agg #[.string a0_0, .bool a0_1], .int .i64 a1] w fun e w' => e = .returned (.tuple #[.int .u64 r1, .agg #[.string r2, .bool r3]]) ∧ Below w.heap.size w w' := by
  unfold pack_Reader_Number.f at h
  by_cases hm : a0_0.size ≤ 9223372036854775807
  · rw [if_pos hm] at h
    by_cases c0 : a0_1 = true
    · rw [if_pos c0] at h
      simp only [Option.some.injEq, Prod.mk.injEq] at h
      obtain ⟨rfl, rfl, rfl⟩ := h
      exact pack_Reader_Number.bad_ _ _ _ (.inl c0) w
    · rw [if_neg c0] at h
      have c0' : a0_1 = false := by simpa using c0
      by_cases c1 : a1 < 1
      · rw [if_pos c1] at h
        simp only [Option.some.injEq, Prod.mk.injEq] at h
        obtain ⟨rfl, rfl, rfl⟩ := h
        exact pack_Reader_Number.bad_ _ _ _ (.inr ⟨c0', .inl c1⟩) w
      · rw [if_neg c1] at h
        by_cases c2 : 8 < a1
        · rw [if_pos c2] at h
          simp only [Option.some.injEq, Prod.mk.injEq] at h
          obtain ⟨rfl, rfl, rfl⟩ := h
          exact pack_Reader_Number.bad_ _ _ _ (.inr ⟨c0', .inr (.inl c2)⟩) w
        · rw [if_neg c2] at h
          by_cases c3 : (a0_0.size : Int) < a1
          · rw [if_pos c3] at h
            simp only [Option.some.injEq, Prod.mk.injEq] at h
            obtain ⟨rfl, rfl, rfl⟩ := h
            exact pack_Reader_Number.bad_ _ _ _ (.inr ⟨c0', .inr (.inr c3)⟩) w
          · rw [if_neg c3] at h
            simp only [Option.some.injEq, Prod.mk.injEq] at h
            obtain ⟨rfl, rfl, rfl⟩ := h
            obtain ⟨n, rfl⟩ := Int.eq_ofNat_of_zero_le (show 0 ≤ a1 by omega)
            subst c0'
            rw [Int.toNat_natCast]
            exact pack_Reader_Number.some_ a0_0 n (by omega) (by omega) (by omega) hm w
  · rw [if_neg hm] at h
    exact absurd h (by simp)
/-! ### pack_bad: function 71 -/
def pack_bad.f  : Option (ByteArray × Bool) := some ((⟨#[]⟩ : ByteArray), true)
set_option maxHeartbeats 8000000 in
set_option maxRecDepth 100000 in
theorem pack_bad.calls  (r1 : ByteArray) (r2 : Bool) (w : World) (h : pack_bad.f  = some (r1, r2)) :
    Calls Try.prog 71 #[] w fun e w' => e = .returned (.agg #[.string r1, .bool r2]) ∧ Below w.heap.size w w' := by
  have hu97 := Try.underlying97
  have HB := Aside0.mk (Below.refl w.heap.size w)
  have H : (some ((⟨#[]⟩ : ByteArray), true)) = some (r1, r2) := h
  clear h
  simp only [Option.some.injEq, Prod.mk.injEq] at H
  obtain ⟨rfl, rfl⟩ := H
  go_enter Try.func71, Try.ntmps71
  go_wp2_with (first | ((with_reducible refine gate_dst (N := 0) rfl ?_); refine box_event ?hg (N := 0) ?hd (cs := #[.string (⟨#[]⟩ : ByteArray), .bool false]) (t := 97) ?hr ?_; (case hd => rfl); (case hg => rfl); (case hr => first | (go_simp; done) | (go_simp; rfl)); intro gb149 hg w1 hbox hb; have BK149 := Aside0.mk (hbox); have GW149 := Kw_ HB hg; have GE149 := GW149; replace HB := Ks_ HB hb; clear hb hbox hg; obtain ⟨hcz2_0, hcz2_1, hfz2_0, hfz2_1⟩ := Ke2_ BK149.out))
  refine bodyPost_ret (results_cell_row rfl _ _ gb149 97 #[.string (⟨#[]⟩ : ByteArray), .bool true] (0, 0) _ rfl (by refine Kv_ ?_; refine blk_put (cs := #[.string (⟨#[]⟩ : ByteArray), .bool false]) ?_ 1 _ rfl; refine Kv_ ?_; refine blk_put (cs := #[.string (⟨#[]⟩ : ByteArray), .bool false]) ?_ 0 _ rfl; exact Kq_ BK149) Try.underlying97 rfl (by kernel_rfl)) rfl ?_
  exact ⟨Kh_, Kz_ HB GE149⟩
/-! ### pack_Reader_Vary: function 72 -/
def pack_Reader_Vary.l0 : Nat → Int → Int → Int → ByteArray → Bool → Option (Int × ByteArray × Bool)
  | 0, _, _, _, _, _ => none
  | k + 1, x4, x13, x14, x151000, x151001 => if x14 < x13 then (if 0 ≤ x14 then (if x14 < (x151000.size : Int) then (if 0 ≤ (wrap64 (7 * x14)) then (if (bt x151000 x14) ≥ 128 then (pack_Reader_Vary.l0 k (Go.bits .or .u64 x4 (shl .u64 (IntKind.u64.wrap (Go.bits .and .u8 (bt x151000 x14) 127)) (wrap64 (7 * x14)))) x13 (wrap64 (x14 + 1)) x151000 x151001) else (if 0 ≤ (wrap64 (x14 + 1)) then (if (wrap64 (x14 + 1)) ≤ (x151000.size : Int) then ((pack_Vary.f k (Go.bits .or .u64 x4 (shl .u64 (IntKind.u64.wrap (Go.bits .and .u8 (bt x151000 x14) 127)) (wrap64 (7 * x14))))).bind fun t156 => (if (x151000.extract 0 ((wrap64 (x14 + 1)) : Int).toNat).toList = t156.toList then (some (Go.bits .or .u64 x4 (shl .u64 (IntKind.u64.wrap (Go.bits .and .u8 (bt x151000 x14) 127)) (wrap64 (7 * x14))), x151000.extract ((wrap64 (x14 + 1)) : Int).toNat x151000.size, false)) else ((pack_bad.f).bind fun bt157 => (some (0, bt157.1, bt157.2))))) else (none)) else (none))) else (none)) else (none)) else (none)) else ((pack_bad.f).bind fun bt154 => (some (0, bt154.1, bt154.2)))
def pack_Reader_Vary.f (k : Nat) (a0_0 : ByteArray) (a0_1 : Bool) : Option (Int × ByteArray × Bool) := if a0_1 = true then ((pack_bad.f).bind fun bt152 => (some (0, bt152.1, bt152.2))) else (pack_Reader_Vary.l0 k 0 (mn (a0_0.size : Int) 10) 0 a0_0 a0_1)
theorem pack_Reader_Vary.mono_l : ∀ k, (∀ y0 y1 y2 y3 y4, LeO (pack_Reader_Vary.l0 k y0 y1 y2 y3 y4) (pack_Reader_Vary.l0 (k + 1) y0 y1 y2 y3 y4))
  | 0 => fun _ _ _ _ _ r h => by simp [pack_Reader_Vary.l0] at h
  | k + 1 => by
    have ih0 := pack_Reader_Vary.mono_l k
    · intro y0 y1 y2 y3 y4
      unfold pack_Reader_Vary.l0
      repeat' first
      | (with_reducible exact ih0 _ _ _ _ _)
      | (with_reducible exact pack_Vary.mono _ _)
      | (with_reducible exact LeO.refl _)
      | (with_reducible exact LeO.none _)
      | (with_reducible refine LeO.ite ?_ ?_)
      | (with_reducible refine LeO.bind ?_ (fun _ => ?_))
      | exact ih0 _ _ _ _ _
      | exact pack_Vary.mono _ _
      | exact LeO.none _
      | refine LeO.ite ?_ ?_
      | refine LeO.bind ?_ (fun _ => ?_)
theorem pack_Reader_Vary.mono : ∀ a0 a1 k, LeO (pack_Reader_Vary.f k a0 a1) (pack_Reader_Vary.f (k + 1) a0 a1) := by
  intro a0 a1 k
  have ih0 := pack_Reader_Vary.mono_l k
  unfold pack_Reader_Vary.f
  repeat' first
      | (with_reducible exact ih0 _ _ _ _ _)
      | (with_reducible exact pack_Vary.mono _ _)
      | (with_reducible exact LeO.refl _)
      | (with_reducible exact LeO.none _)
      | (with_reducible refine LeO.ite ?_ ?_)
      | (with_reducible refine LeO.bind ?_ (fun _ => ?_))
      | exact ih0 _ _ _ _ _
      | exact pack_Vary.mono _ _
      | exact LeO.none _
      | refine LeO.ite ?_ ?_
      | refine LeO.bind ?_ (fun _ => ?_)
def pack_Reader_Vary.T10 : Bool × List (List Nat × List Nat) := (true, [([], []), ([0], [0]), ([], []), ([2], [2]), ([1, 3], [1, 3]), ([], []), ([5], [5]), ([4, 6], [4, 6])])
def pack_Reader_Vary.B10 : List Nat := [0, 1, 0, 4, 15, 0, 32, 127]
theorem pack_Reader_Vary.tab10 : rtab .any (opsOf Try.f72 10) = pack_Reader_Vary.T10 := by kernel_rfl
theorem pack_Reader_Vary.bits10 : waitsOk pack_Reader_Vary.T10.2 pack_Reader_Vary.B10 = true := by kernel_rfl
def pack_Reader_Vary.T11 : Bool × List (List Nat × List Nat) := (true, [([], []), ([], []), ([1], [1]), ([], []), ([3], [3]), ([2, 4], [2, 4]), ([5], [5]), ([0, 0], [0]), ([6, 7, 0, 1, 2, 3, 4, 5, 6, 7], [6])])
def pack_Reader_Vary.B11 : List Nat := [0, 0, 2, 0, 8, 30, 62, 1, 255]
theorem pack_Reader_Vary.tab11 : rtab .any (opsOf Try.f72 11) = pack_Reader_Vary.T11 := by kernel_rfl
theorem pack_Reader_Vary.bits11 : waitsOk pack_Reader_Vary.T11.2 pack_Reader_Vary.B11 = true := by kernel_rfl
set_option maxHeartbeats 8000000 in
set_option maxRecDepth 100000 in
theorem pack_Reader_Vary.calls (k : Nat) (a0_0 : ByteArray) (a0_1 : Bool) (r1 : Int) (r2 : ByteArray) (r3 : Bool) (w : World) (h : pack_Reader_Vary.f k a0_0 a0_1 = some (r1, r2, r3)) :
    Calls Try.prog 72 #[.agg #[.string a0_0, .bool a0_1]] w fun e w' => e = .returned (.tuple #[.int .u64 r1, .agg #[.string r2, .bool r3]]) ∧ Below w.heap.size w w' := by
  have hu97 := Try.underlying97
  have HB := Aside0.mk (Below.refl w.heap.size w)
  have H : (if a0_1 = true then ((pack_bad.f).bind fun bt152 => (some (0, bt152.1, bt152.2))) else (pack_Reader_Vary.l0 k 0 (mn (a0_0.size : Int) 10) 0 a0_0 a0_1)) = some (r1, r2, r3) := h
  clear h
  by_cases c2 : a0_1 = true
  · subst c2
    have H1 : ((pack_bad.f).bind fun bt152 => (some (0, bt152.1, bt152.2))) = some (r1, r2, r3) := by rw [if_pos rfl] at H; exact H
    clear H
    have H := H1
    clear H1
    replace H := Option.bind_eq_some_iff.mp H
    obtain ⟨⟨t152, t153⟩, A30, H⟩ := H
    replace H : (some (0, t152, t153)) = some (r1, r2, r3) := H
    have A3 := Aside0.mk A30
    clear A30
    simp only [Option.some.injEq, Prod.mk.injEq] at H
    obtain ⟨rfl, rfl, rfl⟩ := H
    go_enter Try.func72, Try.ntmps72
    go_wp2_with (first | ((with_reducible refine gate_dst (N := 1) rfl ?_); refine box_event ?hg (N := 1) ?hd (cs := #[.string a0_0, .bool true]) (t := 97) ?hr ?_; (case hd => rfl); (case hg => rfl); (case hr => first | (go_simp; done) | (go_simp; rfl)); intro gb150 hg w4 hbox hb; have BK150 := Aside0.mk (hbox); have GW150 := Kw_ HB hg; have GE150 := GW150; replace HB := Ks_ HB hb; clear hb hbox hg) | ((with_reducible refine gate_dst (N := 3) rfl ?_); refine box_event ?hg (N := 3) ?hd (cs := #[.string (⟨#[]⟩ : ByteArray), .bool false]) (t := 97) ?hr ?_; (case hd => rfl); (case hg => rfl); (case hr => first | (go_simp; done) | (go_simp; rfl)); intro gb151 hg w5 hbox hb; have BK151 := Aside0.mk (hbox); have GW151 := Kw_ HB hg; have GE151 := GW151; have NB150_151 := Kl_ BK150 hg; have NB151_150 := Kr_ BK150 hg; replace BK150 := Kb_ BK150 hb; replace HB := Ks_ HB hb; clear hb hbox hg; have hnb6 := NB150_151.out; have hnc6 := NB151_150.out; obtain ⟨hcz7_0, hcz7_1, hfz7_0, hfz7_1⟩ := Ke2_ BK150.out) | ((with_reducible refine gate_callee (f := 71) rfl ?_); refine Kg_ (some 9) rfl rfl Try.func71 (by kernel_rfl) rfl #[] rfl ?_; (with_reducible refine (pack_bad.calls  t152 t153 _ A3.out).mono ?_); rintro e w8 ⟨rfl, hb⟩; refine ⟨_, rfl, ?_⟩; replace BK150 := Kb_ BK150 hb; replace BK151 := Kb_ BK151 hb; replace HB := Ks_ HB hb; (try clear hb); (try clear hb2); (try clear hk); (try clear hi); obtain ⟨hcz9_0, hcz9_1, hfz9_0, hfz9_1⟩ := Ke2_ BK151.out))
    refine bodyPost_ret (results_tc rfl _ _ gb151 97 #[.string t152, .bool t153] (0, 0) _ rfl (by refine Kv_ ?_; refine blk_put (cs := #[.string t152, .bool false]) ?_ 1 _ rfl; refine Kv_ ?_; refine blk_put (cs := #[.string (⟨#[]⟩ : ByteArray), .bool false]) ?_ 0 _ rfl; exact Kq_ BK151) Try.underlying97 rfl (by kernel_rfl)) rfl ?_
    exact ⟨Kh_, by repeat (first | (with_reducible first | exact HB.out | apply below_alloc | apply pw_below_drewN | apply below_drew1 | refine below_set ?_ GE150.out | refine below_set ?_ GE151.out) | exact HB.out)⟩
  replace c2 := Bool.eq_false_iff.mpr c2
  subst c2
  have H1 : (pack_Reader_Vary.l0 k 0 (mn (a0_0.size : Int) 10) 0 a0_0 false) = some (r1, r2, r3) := by rw [if_neg (show ¬ (false = true) by decide)] at H; exact H
  clear H
  have H := H1
  clear H1
  obtain ⟨ji10, hji10⟩ : ∃ j_ : Int, (mn (a0_0.size : Int) 10) = j_ := ⟨_, rfl⟩
  replace H : (pack_Reader_Vary.l0 k 0 ji10 0 a0_0 false) = some (r1, r2, r3) := by first | (rw [hji10] at H; exact H) | (simp only [hji10] at H ⊢; exact H)
  (try (have hji10h : ji10 ≤ 10 := by (rw [← hji10]; unfold mn; (repeat' split) <;> omega)))
  (try (have hji10g : ji10 ≤ 64 := by omega))
  (try (have hji10l : 0 ≤ ji10 := by (rw [← hji10]; unfold mn; (repeat' split) <;> omega)))
  (try (have hji10m : 0 ≤ ji10 := by omega))
  have hji10_ : (if 10 < (a0_0.size : Int) then 10 else (a0_0.size : Int)) = ji10 := hji10
  have H' := Aside0.mk H
  clear H
  go_enter Try.func72, Try.ntmps72
  go_wp2_with (first | ((with_reducible refine gate_dst (N := 1) rfl ?_); refine box_event ?hg (N := 1) ?hd (cs := #[.string a0_0, .bool false]) (t := 97) ?hr ?_; (case hd => rfl); (case hg => rfl); (case hr => first | (go_simp; done) | (go_simp; rfl)); intro gb150 hg w11 hbox hb; have BK150 := Aside0.mk (hbox); have GW150 := Kw_ HB hg; have GE150 := GW150; replace HB := Ks_ HB hb; clear hb hbox hg) | ((with_reducible refine gate_dst (N := 3) rfl ?_); refine box_event ?hg (N := 3) ?hd (cs := #[.string (⟨#[]⟩ : ByteArray), .bool false]) (t := 97) ?hr ?_; (case hd => rfl); (case hg => rfl); (case hr => first | (go_simp; done) | (go_simp; rfl)); intro gb151 hg w12 hbox hb; have BK151 := Aside0.mk (hbox); have GW151 := Kw_ HB hg; have GE151 := GW151; have NB150_151 := Kl_ BK150 hg; have NB151_150 := Kr_ BK150 hg; replace BK150 := Kb_ BK150 hb; replace HB := Ks_ HB hb; clear hb hbox hg; have hnb13 := NB150_151.out; have hnc13 := NB151_150.out; obtain ⟨hcz14_0, hcz14_1, hfz14_0, hfz14_1⟩ := Ke2_ BK150.out))
  go_loopg [4, 14] k (fun kq v4 v14 w' => ∃ (x4_1 : Int) (x14_1 : Int) (x152000_1 : ByteArray) (x152001_1 : Bool), v4 = .int .u64 x4_1 ∧ v14 = .int .i64 x14_1 ∧ Aside0 (pack_Reader_Vary.l0 kq x4_1 ji10 x14_1 a0_0 false = some (r1, r2, r3)) ∧ Aside0 (kq ≤ k) ∧ Aside0 (w'.heap[gb150]? = some (.cells #[.string a0_0, .bool false] 97 (0, 0))) ∧ Aside0 (w'.heap[gb151]? = some (.cells #[.string x152000_1, .bool x152001_1] 97 (0, 0))) ∧ Aside0 (Below w.heap.size w w'))
  case atStart => exact ⟨(0), (0), ((⟨#[]⟩ : ByteArray)), (false), (by first | rfl | (simp; done) | (simp [*]; done)), (by first | rfl | (simp; done) | (simp [*]; done)), H', ⟨Nat.le_refl _⟩, ⟨by exact Kq_ BK150⟩, ⟨by exact Kq_ BK151⟩, ⟨by repeat (first | (with_reducible first | exact HB.out | apply below_alloc | apply pw_below_drewN | apply below_drew1 | refine below_set ?_ GE150.out | refine below_set ?_ GE151.out) | exact HB.out)⟩⟩
  case round =>
    clear H'
    try clear c1
    try clear c2
    try clear p2
    try clear c6
    try clear c7
    try clear c13
    try clear hcz14_0
    try clear hcz14_1
    try clear hcz7_0
    try clear hcz7_1
    try clear hcz9_0
    try clear hcz9_1
    try clear hfz14_0
    try clear hfz14_1
    try clear hfz7_0
    try clear hfz7_1
    try clear hfz9_0
    try clear hfz9_1
    obtain ⟨x4_1, x14_1, x152000_1, x152001_1, rfl, rfl, HA, HK1, BK150, BK151, HB⟩ := hrel
    cases gk with
    | zero => exact absurd HA.out (by simp [pack_Reader_Vary.l0])
    | succ k1 =>
      have H := HA.out
      clear HA
      simp only [pack_Reader_Vary.l0] at H
      by_cases c15 : x14_1 < ji10
      rotate_left
      · rw [if_neg c15] at H
        have c15b0 : decide (x14_1 < ji10) = false := decide_eq_false c15
        clear c15
        replace H := Option.bind_eq_some_iff.mp H
        obtain ⟨⟨t154, t155⟩, A460, H⟩ := H
        replace H : (some (0, t154, t155)) = some (r1, r2, r3) := H
        have A46 := Aside0.mk A460
        clear A460
        simp only [Option.some.injEq, Prod.mk.injEq] at H
        obtain ⟨rfl, rfl, rfl⟩ := H
        go_wp2_with (first | ((with_reducible refine gate_callee (f := 71) rfl ?_); refine Kg_ (some 47) rfl rfl Try.func71 (by kernel_rfl) rfl #[] rfl ?_; (with_reducible refine (pack_bad.calls  t154 t155 _ A46.out).mono ?_); rintro e w47 ⟨rfl, hb⟩; refine ⟨_, rfl, ?_⟩; replace BK150 := Kb_ BK150 hb; replace BK151 := Kb_ BK151 hb; replace HB := Ks_ HB hb; (try clear hb); (try clear hb2); (try clear hk); (try clear hi); have hnb48 := NB151_150.out; have hnc48 := NB150_151.out; obtain ⟨hcz49_0, hcz49_1, hfz49_0, hfz49_1⟩ := Ke2_ BK151.out))
        refine bodyPost_ret (results_tc rfl _ _ gb151 97 #[.string t154, .bool t155] (0, 0) _ rfl (by refine Kv_ ?_; refine blk_put (cs := #[.string t154, .bool x152001_1]) ?_ 1 _ rfl; refine Kv_ ?_; refine blk_put (cs := #[.string x152000_1, .bool x152001_1]) ?_ 0 _ rfl; exact Kq_ BK151) Try.underlying97 rfl (by kernel_rfl)) rfl ?_
        exact ⟨by first | rfl | (simp [errW_none, errW_some] <;> rfl) | (simp only [← hji10]; first | rfl | (simp [errW_none, errW_some] <;> rfl)) | (simp [*, errW_none, errW_some] <;> rfl), by repeat (first | (with_reducible first | exact HB.out | apply below_alloc | apply pw_below_drewN | apply below_drew1 | refine below_set ?_ GE150.out | refine below_set ?_ GE151.out) | exact HB.out)⟩
      rw [if_pos c15] at H
      have c15b0 : decide (x14_1 < ji10) = true := decide_eq_true c15
      clear c15
      by_cases c16 : 0 ≤ x14_1
      rotate_left
      · rw [if_neg c16] at H
        exact absurd H (by simp)
      rw [if_pos c16] at H
      have c16b0 : decide (0 ≤ x14_1) = true := decide_eq_true c16
      clear c16
      by_cases c17 : x14_1 < (a0_0.size : Int)
      rotate_left
      · rw [if_neg c17] at H
        exact absurd H (by simp)
      rw [if_pos c17] at H
      have c17b0 : decide (x14_1 < (a0_0.size : Int)) = true := decide_eq_true c17
      clear c17
      obtain ⟨ji19, hji19⟩ : ∃ j_ : Int, (wrap64 (7 * x14_1)) = j_ := ⟨_, rfl⟩
      replace H : (if 0 ≤ (ji19) then (if (bt a0_0 x14_1) ≥ 128 then (pack_Reader_Vary.l0 k1 (Go.bits .or .u64 x4_1 (shl .u64 (IntKind.u64.wrap (Go.bits .and .u8 (bt a0_0 x14_1) 127)) (ji19))) ji10 (wrap64 (x14_1 + 1)) a0_0 false) else (if 0 ≤ (wrap64 (x14_1 + 1)) then (if (wrap64 (x14_1 + 1)) ≤ (a0_0.size : Int) then ((pack_Vary.f k1 (Go.bits .or .u64 x4_1 (shl .u64 (IntKind.u64.wrap (Go.bits .and .u8 (bt a0_0 x14_1) 127)) (ji19)))).bind fun t156 => (if (a0_0.extract 0 ((wrap64 (x14_1 + 1)) : Int).toNat).toList = t156.toList then (some (Go.bits .or .u64 x4_1 (shl .u64 (IntKind.u64.wrap (Go.bits .and .u8 (bt a0_0 x14_1) 127)) (ji19)), a0_0.extract ((wrap64 (x14_1 + 1)) : Int).toNat a0_0.size, false)) else ((pack_bad.f).bind fun bt157 => (some (0, bt157.1, bt157.2))))) else (none)) else (none))) else (none)) = some (r1, r2, r3) := by first | (rw [hji19] at H; exact H) | (simp only [hji19] at H ⊢; exact H)
      have hji19w : (IntKind.i64.wrap (7 * x14_1)) = ji19 := (i64_w _).trans hji19
      by_cases c20 : 0 ≤ (ji19)
      rotate_left
      · rw [if_neg c20] at H
        exact absurd H (by simp)
      rw [if_pos c20] at H
      have c20b0 := eq_true c20
      have c20b1 : decide (0 ≤ (ji19)) = true := decide_eq_true c20
      clear c20
      obtain ⟨ji21, hji21⟩ : ∃ j_ : Int, (shl .u64 (IntKind.u64.wrap (Go.bits .and .u8 (bt a0_0 x14_1) 127)) (ji19)) = j_ := ⟨_, rfl⟩
      replace H : (if (bt a0_0 x14_1) ≥ 128 then (pack_Reader_Vary.l0 k1 (Go.bits .or .u64 x4_1 (ji21)) ji10 (wrap64 (x14_1 + 1)) a0_0 false) else (if 0 ≤ (wrap64 (x14_1 + 1)) then (if (wrap64 (x14_1 + 1)) ≤ (a0_0.size : Int) then ((pack_Vary.f k1 (Go.bits .or .u64 x4_1 (ji21))).bind fun t156 => (if (a0_0.extract 0 ((wrap64 (x14_1 + 1)) : Int).toNat).toList = t156.toList then (some (Go.bits .or .u64 x4_1 (ji21), a0_0.extract ((wrap64 (x14_1 + 1)) : Int).toNat a0_0.size, false)) else ((pack_bad.f).bind fun bt157 => (some (0, bt157.1, bt157.2))))) else (none)) else (none))) = some (r1, r2, r3) := by first | (rw [hji21] at H; exact H) | (simp only [hji21] at H ⊢; exact H)
      have hji21_ : (IntKind.u64.wrap ((IntKind.u64.wrap (Go.bits .and .u8 (bt a0_0 x14_1) 127)) * 2 ^ min (ji19).toNat 64)) = ji21 := hji21
      have hji21z : (ji19) ≤ 64 → (IntKind.u64.wrap ((IntKind.u64.wrap (Go.bits .and .u8 (bt a0_0 x14_1) 127)) * 2 ^ (ji19).toNat)) = ji21 := shl_small hji21
      by_cases c22 : (bt a0_0 x14_1) ≥ 128
      · rw [if_pos c22] at H
        have c22b0 : decide (128 ≤ (bt a0_0 x14_1)) = true := decide_eq_true c22
        clear c22
        have H' := Aside0.mk H
        clear H
        have hnb23 := NB150_151.out
        have hnc23 := NB151_150.out
        obtain ⟨hcz24_0, hcz24_1, hfz24_0, hfz24_1⟩ := Ke2_ BK150.out
        have p18 : 0 ≤ (x14_1 : Int) := of_decide_eq_true (by first | (with_reducible assumption) | assumption)
        have q18 : x14_1 < (a0_0.size : Int) := of_decide_eq_true (by first | (with_reducible assumption) | assumption)
        have hx18 := bt_at a0_0 x14_1
        replace p18 := eq_true p18
        replace q18 := eq_true q18
        go_wp2
        go_roundg k1
        case measure => have := HK1.out; omega
        case rel => exact ⟨(Go.bits .or .u64 x4_1 (ji21)), (wrap64 (x14_1 + 1)), (x152000_1), (x152001_1), (by first | rfl | (simp; done) | (simp only [← hji21] <;> (first | rfl | simp)) | (simp [*]; done)), (by first | rfl | (simp; done) | (simp [*]; done)), H', ⟨by have := HK1.out; omega⟩, ⟨by exact Kq_ BK150⟩, ⟨by exact Kq_ BK151⟩, ⟨by repeat (first | (with_reducible first | exact HB.out | apply below_alloc | apply pw_below_drewN | apply below_drew1 | refine below_set ?_ GE150.out | refine below_set ?_ GE151.out) | exact HB.out)⟩⟩
      rw [if_neg c22] at H
      have c22b0 : decide (128 ≤ (bt a0_0 x14_1)) = false := decide_eq_false c22
      clear c22
      obtain ⟨ji25, hji25⟩ : ∃ j_ : Int, (wrap64 (x14_1 + 1)) = j_ := ⟨_, rfl⟩
      replace H : (if 0 ≤ (ji25) then (if (ji25) ≤ (a0_0.size : Int) then ((pack_Vary.f k1 (Go.bits .or .u64 x4_1 (ji21))).bind fun t156 => (if (a0_0.extract 0 ((ji25) : Int).toNat).toList = t156.toList then (some (Go.bits .or .u64 x4_1 (ji21), a0_0.extract ((ji25) : Int).toNat a0_0.size, false)) else ((pack_bad.f).bind fun bt157 => (some (0, bt157.1, bt157.2))))) else (none)) else (none)) = some (r1, r2, r3) := by first | (rw [hji25] at H; exact H) | (simp only [hji25] at H ⊢; exact H)
      have hji25w : (IntKind.i64.wrap (x14_1 + 1)) = ji25 := (i64_w _).trans hji25
      by_cases c26 : 0 ≤ (ji25)
      rotate_left
      · rw [if_neg c26] at H
        exact absurd H (by simp)
      rw [if_pos c26] at H
      have c26b0 := eq_true c26
      have c26b1 : decide (0 ≤ (ji25)) = true := decide_eq_true c26
      clear c26
      by_cases c27 : (ji25) ≤ (a0_0.size : Int)
      rotate_left
      · rw [if_neg c27] at H
        exact absurd H (by simp)
      rw [if_pos c27] at H
      have c27b0 := eq_true c27
      have c27b1 : decide ((ji25) ≤ (a0_0.size : Int)) = true := decide_eq_true c27
      clear c27
      replace H := Option.bind_eq_some_iff.mp H
      obtain ⟨t156, A280, H⟩ := H
      replace H : (if (a0_0.extract 0 ((ji25) : Int).toNat).toList = t156.toList then (some (Go.bits .or .u64 x4_1 (ji21), a0_0.extract ((ji25) : Int).toNat a0_0.size, false)) else ((pack_bad.f).bind fun bt157 => (some (0, bt157.1, bt157.2)))) = some (r1, r2, r3) := H
      have A28 := Aside0.mk A280
      clear A280
      by_cases c29 : (a0_0.extract 0 ((ji25) : Int).toNat).toList = t156.toList
      rotate_left
      · rw [if_neg c29] at H
        have c29b0 : ((a0_0.extract 0 ((ji25) : Int).toNat).toList == t156.toList) = false := beq_eq_false_iff_ne.mpr c29
        have c29b1 : ((a0_0.extract 0 ((ji25) : Int).toNat).toList != t156.toList) = true := bne_iff_ne.mpr c29
        replace H := Option.bind_eq_some_iff.mp H
        obtain ⟨⟨t157, t158⟩, A390, H⟩ := H
        replace H : (some (0, t157, t158)) = some (r1, r2, r3) := H
        have A39 := Aside0.mk A390
        clear A390
        simp only [Option.some.injEq, Prod.mk.injEq] at H
        obtain ⟨rfl, rfl, rfl⟩ := H
        have hnb40 := NB150_151.out
        have hnc40 := NB151_150.out
        obtain ⟨hcz41_0, hcz41_1, hfz41_0, hfz41_1⟩ := Ke2_ BK150.out
        have p18 : 0 ≤ (x14_1 : Int) := of_decide_eq_true (by first | (with_reducible assumption) | assumption)
        have q18 : x14_1 < (a0_0.size : Int) := of_decide_eq_true (by first | (with_reducible assumption) | assumption)
        have hx18 := bt_at a0_0 x14_1
        replace p18 := eq_true p18
        replace q18 := eq_true q18
        try go_wp2
        replace BK150 := Kd_ BK150
        replace BK151 := Kd_ BK151
        replace HB := Aside0.mk (below_drew1 HB.out)
        refine start_ (n := 8) (S := fun w' => w'.cell? ⟨gb150, 0, none⟩ = some (.string a0_0) ∧ w'.cell? ⟨gb150, 1, none⟩ = some (.bool false)) (ds := []) #[false, false, false, false, false, false, false, false] (by kernel_rfl) rfl rfl (Kc2_ BK150.out) (fun hHeld => ?_); refine with_tabW pack_Reader_Vary.tab10 pack_Reader_Vary.bits10 (fun HT_ HW_ => ?_)
        generalize wr.drew = w42 at BK150 BK151 HB hHeld ⊢
        refine pure_ (i := 0) (N := some 31) (v := ?_) (a' := ?_) #[true, false, false, false, false, false, false, false] rfl rfl (any_of HT_.out (by kernel_rfl)) (fun _ _ _ h => h) (Or.inl ⟨by rfl, ?_⟩) ?_ ?_
        rotate_left
        · intro w'
          go_simp
          with_reducible rfl
        rotate_left
        · simp only [Act.put, List.setIfInBounds_toArray, List.set_cons_zero, List.set_cons_succ, i64_w, i32_w]
          rfl
        refine pure_ (i := 2) (N := some 33) (v := ?_) (a' := ?_) #[true, false, true, false, false, false, false, false] rfl rfl (any_of HT_.out (by kernel_rfl)) (fun _ _ _ h => h) (Or.inl ⟨by rfl, ?_⟩) ?_ ?_
        rotate_left
        · intro w'
          go_simp
          with_reducible rfl
        rotate_left
        · simp only [Act.put, List.setIfInBounds_toArray, List.set_cons_zero, List.set_cons_succ, i64_w, i32_w]
          rfl
        refine pure_ (i := 3) (N := some 34) (v := ?_) (a' := ?_) #[true, false, true, true, false, false, false, false] rfl rfl (any_of HT_.out (by kernel_rfl)) (fun _ _ _ h => h) (Or.inl ⟨by rfl, ?_⟩) ?_ ?_
        rotate_left
        · intro w'
          go_simp
          with_reducible rfl
        rotate_left
        · simp only [Act.put, List.setIfInBounds_toArray, List.set_cons_zero, List.set_cons_succ, i64_w, i32_w]
          rfl
        refine pure_ (i := 5) (N := some 36) (v := ?_) (a' := ?_) #[true, false, true, true, false, true, false, false] rfl rfl (any_of HT_.out (by kernel_rfl)) (fun _ _ _ h => h) (Or.inl ⟨by rfl, ?_⟩) ?_ ?_
        rotate_left
        · intro w'
          go_simp
          with_reducible rfl
        rotate_left
        · simp only [Act.put, List.setIfInBounds_toArray, List.set_cons_zero, List.set_cons_succ, i64_w, i32_w]
          rfl
        refine take_ (i := 1) (N := some 32) (v := ?_) (a' := ?_) #[true, true, true, true, false, true, false, false] rfl rfl (take_ofW HT_.out HW_.out (by kernel_rfl)) (fun _ _ _ h => h) (Or.inl ⟨by rfl, ?_⟩) hHeld ?_ ?_
        rotate_left
        · rintro w' ⟨s0, s1⟩
          go_simp
          with_reducible rfl
        rotate_left
        · simp only [Act.put, List.setIfInBounds_toArray, List.set_cons_zero, List.set_cons_succ, i64_w, i32_w]
          rfl
        refine pure_ (i := 4) (N := some 35) (v := ?_) (a' := ?_) #[true, true, true, true, true, true, false, false] rfl rfl (any_of HT_.out (by kernel_rfl)) (fun _ _ _ h => h) (Or.inl ⟨by rfl, ?_⟩) ?_ ?_
        rotate_left
        · intro w'
          go_simp
          with_reducible rfl
        rotate_left
        · simp only [Act.put, List.setIfInBounds_toArray, List.set_cons_zero, List.set_cons_succ, i64_w, i32_w]
          rfl
        refine one_ (i := 6) (N := some 37) #[true, true, true, true, true, true, true, false] rfl rfl (one_of HT_.out (by kernel_rfl)) (by decide) (fun K hK => ?_)
        refine goes_ Try.func60 (by kernel_rfl) rfl #[.int .u64 (Go.bits .or .u64 x4_1 (ji21))] (by rfl) rfl rfl (by (try simp only [List.map_toArray, List.map_cons, List.map_nil]); first | done | (simp only [hji21]; rfl) | rfl | (simp only [List.length_drop, List.length_take]; rfl)) ?_
        with_reducible refine (pack_Vary.calls k1 (Go.bits .or .u64 x4_1 (ji21)) t156 _ A28.out).mono ?_
        rintro e w43 ⟨rfl, hb⟩
        refine ⟨_, rfl, ?_⟩
        replace BK150 := Kb_ BK150 hb
        replace BK151 := Kb_ BK151 hb
        replace HB := Ks_ HB hb
        (try clear hb)
        (try clear hb2)
        (try clear hk)
        (try clear hi)
        refine hK.out _ _ (Kc2_ BK150.out) (fun hHeld => ?_)
        clear hK K
        refine norm_ (a' := ?_) ?_ ?_
        rotate_left
        · show Act.put _ (some 37) _ = _
          simp only [Act.put, List.setIfInBounds_toArray, List.set_cons_zero, List.set_cons_succ, i64_w, i32_w]
          rfl
        refine pure_ (i := 7) (N := some 38) (v := ?_) (a' := ?_) #[true, true, true, true, true, true, true, true] rfl rfl (any_of HT_.out (by kernel_rfl)) (fun _ _ _ h => h) (Or.inl ⟨by rfl, ?_⟩) ?_ ?_
        rotate_left
        · intro w'
          go_simp
          with_reducible rfl
        rotate_left
        · simp only [Act.put, List.setIfInBounds_toArray, List.set_cons_zero, List.set_cons_succ, i64_w, i32_w]
          rfl
        refine done_ (done_of HT_.out (by kernel_rfl)) ?_
        try go_wp2_with (first | ((with_reducible refine gate_callee (f := 71) rfl ?_); refine Kg_ (some 47) rfl rfl Try.func71 (by kernel_rfl) rfl #[] rfl ?_; (with_reducible refine (pack_bad.calls  t157 t158 _ A39.out).mono ?_); rintro e w44 ⟨rfl, hb⟩; refine ⟨_, rfl, ?_⟩; replace BK150 := Kb_ BK150 hb; replace BK151 := Kb_ BK151 hb; replace HB := Ks_ HB hb; (try clear hb); (try clear hb2); (try clear hk); (try clear hi); obtain ⟨hcz45_0, hcz45_1, hfz45_0, hfz45_1⟩ := Ke2_ BK151.out))
        refine bodyPost_ret (results_tc rfl _ _ gb151 97 #[.string t157, .bool t158] (0, 0) _ rfl (by refine Kv_ ?_; refine blk_put (cs := #[.string t157, .bool x152001_1]) ?_ 1 _ rfl; refine Kv_ ?_; refine blk_put (cs := #[.string x152000_1, .bool x152001_1]) ?_ 0 _ rfl; exact Kq_ BK151) Try.underlying97 rfl (by kernel_rfl)) rfl ?_
        exact ⟨by first | rfl | (simp [errW_none, errW_some] <;> rfl) | (simp only [← hji10, ← hji19, ← hji21, ← hji25]; first | rfl | (simp [errW_none, errW_some] <;> rfl)) | (simp [*, errW_none, errW_some] <;> rfl), by repeat (first | (with_reducible first | exact HB.out | apply below_alloc | apply pw_below_drewN | apply below_drew1 | refine below_set ?_ GE150.out | refine below_set ?_ GE151.out) | exact HB.out)⟩
      rw [if_pos c29] at H
      have c29b0 : ((a0_0.extract 0 ((ji25) : Int).toNat).toList == t156.toList) = true := beq_iff_eq.mpr c29
      have c29b1 : ((a0_0.extract 0 ((ji25) : Int).toNat).toList != t156.toList) = false := bne_eq_false_iff_eq.mpr c29
      clear c29
      have c30b0 := eq_true (of_decide_eq_true (by first | (with_reducible assumption) | assumption) : 0 ≤ (ji25))
      have c31b0 := eq_true (of_decide_eq_true (by first | (with_reducible assumption) | assumption) : (ji25) ≤ (a0_0.size : Int))
      simp only [Option.some.injEq, Prod.mk.injEq] at H
      obtain ⟨rfl, rfl, rfl⟩ := H
      have hnb32 := NB150_151.out
      have hnc32 := NB151_150.out
      obtain ⟨hcz33_0, hcz33_1, hfz33_0, hfz33_1⟩ := Ke2_ BK150.out
      have p18 : 0 ≤ (x14_1 : Int) := of_decide_eq_true (by first | (with_reducible assumption) | assumption)
      have q18 : x14_1 < (a0_0.size : Int) := of_decide_eq_true (by first | (with_reducible assumption) | assumption)
      have hx18 := bt_at a0_0 x14_1
      replace p18 := eq_true p18
      replace q18 := eq_true q18
      try go_wp2
      replace BK150 := Kd_ BK150
      replace BK151 := Kd_ BK151
      replace HB := Aside0.mk (below_drew1 HB.out)
      refine start_ (n := 8) (S := fun w' => w'.cell? ⟨gb150, 0, none⟩ = some (.string a0_0) ∧ w'.cell? ⟨gb150, 1, none⟩ = some (.bool false)) (ds := []) #[false, false, false, false, false, false, false, false] (by kernel_rfl) rfl rfl (Kc2_ BK150.out) (fun hHeld => ?_); refine with_tabW pack_Reader_Vary.tab10 pack_Reader_Vary.bits10 (fun HT_ HW_ => ?_)
      generalize wr.drew = w34 at BK150 BK151 HB hHeld ⊢
      refine pure_ (i := 0) (N := some 31) (v := ?_) (a' := ?_) #[true, false, false, false, false, false, false, false] rfl rfl (any_of HT_.out (by kernel_rfl)) (fun _ _ _ h => h) (Or.inl ⟨by rfl, ?_⟩) ?_ ?_
      rotate_left
      · intro w'
        go_simp
        with_reducible rfl
      rotate_left
      · simp only [Act.put, List.setIfInBounds_toArray, List.set_cons_zero, List.set_cons_succ, i64_w, i32_w]
        rfl
      refine pure_ (i := 2) (N := some 33) (v := ?_) (a' := ?_) #[true, false, true, false, false, false, false, false] rfl rfl (any_of HT_.out (by kernel_rfl)) (fun _ _ _ h => h) (Or.inl ⟨by rfl, ?_⟩) ?_ ?_
      rotate_left
      · intro w'
        go_simp
        with_reducible rfl
      rotate_left
      · simp only [Act.put, List.setIfInBounds_toArray, List.set_cons_zero, List.set_cons_succ, i64_w, i32_w]
        rfl
      refine pure_ (i := 3) (N := some 34) (v := ?_) (a' := ?_) #[true, false, true, true, false, false, false, false] rfl rfl (any_of HT_.out (by kernel_rfl)) (fun _ _ _ h => h) (Or.inl ⟨by rfl, ?_⟩) ?_ ?_
      rotate_left
      · intro w'
        go_simp
        with_reducible rfl
      rotate_left
      · simp only [Act.put, List.setIfInBounds_toArray, List.set_cons_zero, List.set_cons_succ, i64_w, i32_w]
        rfl
      refine pure_ (i := 5) (N := some 36) (v := ?_) (a' := ?_) #[true, false, true, true, false, true, false, false] rfl rfl (any_of HT_.out (by kernel_rfl)) (fun _ _ _ h => h) (Or.inl ⟨by rfl, ?_⟩) ?_ ?_
      rotate_left
      · intro w'
        go_simp
        with_reducible rfl
      rotate_left
      · simp only [Act.put, List.setIfInBounds_toArray, List.set_cons_zero, List.set_cons_succ, i64_w, i32_w]
        rfl
      refine take_ (i := 1) (N := some 32) (v := ?_) (a' := ?_) #[true, true, true, true, false, true, false, false] rfl rfl (take_ofW HT_.out HW_.out (by kernel_rfl)) (fun _ _ _ h => h) (Or.inl ⟨by rfl, ?_⟩) hHeld ?_ ?_
      rotate_left
      · rintro w' ⟨s0, s1⟩
        go_simp
        with_reducible rfl
      rotate_left
      · simp only [Act.put, List.setIfInBounds_toArray, List.set_cons_zero, List.set_cons_succ, i64_w, i32_w]
        rfl
      refine pure_ (i := 4) (N := some 35) (v := ?_) (a' := ?_) #[true, true, true, true, true, true, false, false] rfl rfl (any_of HT_.out (by kernel_rfl)) (fun _ _ _ h => h) (Or.inl ⟨by rfl, ?_⟩) ?_ ?_
      rotate_left
      · intro w'
        go_simp
        with_reducible rfl
      rotate_left
      · simp only [Act.put, List.setIfInBounds_toArray, List.set_cons_zero, List.set_cons_succ, i64_w, i32_w]
        rfl
      refine one_ (i := 6) (N := some 37) #[true, true, true, true, true, true, true, false] rfl rfl (one_of HT_.out (by kernel_rfl)) (by decide) (fun K hK => ?_)
      refine goes_ Try.func60 (by kernel_rfl) rfl #[.int .u64 (Go.bits .or .u64 x4_1 (ji21))] (by rfl) rfl rfl (by (try simp only [List.map_toArray, List.map_cons, List.map_nil]); first | done | (simp only [hji21]; rfl) | rfl | (simp only [List.length_drop, List.length_take]; rfl)) ?_
      with_reducible refine (pack_Vary.calls k1 (Go.bits .or .u64 x4_1 (ji21)) t156 _ A28.out).mono ?_
      rintro e w35 ⟨rfl, hb⟩
      refine ⟨_, rfl, ?_⟩
      replace BK150 := Kb_ BK150 hb
      replace BK151 := Kb_ BK151 hb
      replace HB := Ks_ HB hb
      (try clear hb)
      (try clear hb2)
      (try clear hk)
      (try clear hi)
      refine hK.out _ _ (Kc2_ BK150.out) (fun hHeld => ?_)
      clear hK K
      refine norm_ (a' := ?_) ?_ ?_
      rotate_left
      · show Act.put _ (some 37) _ = _
        simp only [Act.put, List.setIfInBounds_toArray, List.set_cons_zero, List.set_cons_succ, i64_w, i32_w]
        rfl
      refine pure_ (i := 7) (N := some 38) (v := ?_) (a' := ?_) #[true, true, true, true, true, true, true, true] rfl rfl (any_of HT_.out (by kernel_rfl)) (fun _ _ _ h => h) (Or.inl ⟨by rfl, ?_⟩) ?_ ?_
      rotate_left
      · intro w'
        go_simp
        with_reducible rfl
      rotate_left
      · simp only [Act.put, List.setIfInBounds_toArray, List.set_cons_zero, List.set_cons_succ, i64_w, i32_w]
        rfl
      refine done_ (done_of HT_.out (by kernel_rfl)) ?_
      try go_wp2
      replace BK150 := Kd_ BK150
      replace BK151 := Kd_ BK151
      replace HB := Aside0.mk (below_drew1 HB.out)
      refine start_ (n := 9) (S := fun w' => w'.cell? ⟨gb150, 0, none⟩ = some (.string a0_0) ∧ w'.cell? ⟨gb150, 1, none⟩ = some (.bool false)) (ds := []) #[false, false, false, false, false, false, false, false, false] (by kernel_rfl) rfl rfl (Kc2_ BK150.out) (fun hHeld => ?_); refine with_tabW pack_Reader_Vary.tab11 pack_Reader_Vary.bits11 (fun HT_ HW_ => ?_)
      generalize w35.drew = w36 at BK150 BK151 HB hHeld ⊢
      refine pure_ (i := 0) (N := some 39) (v := ?_) (a' := ?_) #[true, false, false, false, false, false, false, false, false] rfl rfl (any_of HT_.out (by kernel_rfl)) (fun _ _ _ h => h) (Or.inl ⟨by rfl, ?_⟩) ?_ ?_
      rotate_left
      · intro w'
        go_simp
        with_reducible rfl
      rotate_left
      · simp only [Act.put, List.setIfInBounds_toArray, List.set_cons_zero, List.set_cons_succ, i64_w, i32_w]
        rfl
      refine pure_ (i := 1) (N := some 40) (v := ?_) (a' := ?_) #[true, true, false, false, false, false, false, false, false] rfl rfl (any_of HT_.out (by kernel_rfl)) (fun _ _ _ h => h) (Or.inl ⟨by rfl, ?_⟩) ?_ ?_
      rotate_left
      · intro w'
        go_simp
        with_reducible rfl
      rotate_left
      · simp only [Act.put, List.setIfInBounds_toArray, List.set_cons_zero, List.set_cons_succ, i64_w, i32_w]
        rfl
      refine pure_ (i := 3) (N := some 42) (v := ?_) (a' := ?_) #[true, true, false, true, false, false, false, false, false] rfl rfl (any_of HT_.out (by kernel_rfl)) (fun _ _ _ h => h) (Or.inl ⟨by rfl, ?_⟩) ?_ ?_
      rotate_left
      · intro w'
        go_simp
        with_reducible rfl
      rotate_left
      · simp only [Act.put, List.setIfInBounds_toArray, List.set_cons_zero, List.set_cons_succ, i64_w, i32_w]
        rfl
      refine pure_ (i := 4) (N := some 43) (v := ?_) (a' := ?_) #[true, true, false, true, true, false, false, false, false] rfl rfl (any_of HT_.out (by kernel_rfl)) (fun _ _ _ h => h) (Or.inl ⟨by rfl, ?_⟩) ?_ ?_
      rotate_left
      · intro w'
        go_simp
        with_reducible rfl
      rotate_left
      · simp only [Act.put, List.setIfInBounds_toArray, List.set_cons_zero, List.set_cons_succ, i64_w, i32_w]
        rfl
      refine pure_ (i := 7) (N := some 2) (v := ?_) (a' := ?_) #[true, true, false, true, true, false, false, true, false] rfl rfl (any_of HT_.out (by kernel_rfl)) (fun _ _ _ h => h) (Or.inl ⟨by rfl, ?_⟩) ?_ ?_
      rotate_left
      · intro w'
        go_simp
        with_reducible rfl
      rotate_left
      · simp only [Act.put, List.setIfInBounds_toArray, List.set_cons_zero, List.set_cons_succ, i64_w, i32_w]
        rfl
      refine take_ (i := 2) (N := some 41) (v := ?_) (a' := ?_) #[true, true, true, true, true, false, false, true, false] rfl rfl (take_ofW HT_.out HW_.out (by kernel_rfl)) (fun _ _ _ h => h) (Or.inl ⟨by rfl, ?_⟩) hHeld ?_ ?_
      rotate_left
      · rintro w' ⟨s0, s1⟩
        go_simp
        with_reducible rfl
      rotate_left
      · simp only [Act.put, List.setIfInBounds_toArray, List.set_cons_zero, List.set_cons_succ, i64_w, i32_w]
        rfl
      refine pure_ (i := 5) (N := some 44) (v := ?_) (a' := ?_) #[true, true, true, true, true, true, false, true, false] rfl rfl (any_of HT_.out (by kernel_rfl)) (fun _ _ _ h => h) (Or.inl ⟨by rfl, ?_⟩) ?_ ?_
      rotate_left
      · intro w'
        go_simp
        with_reducible rfl
      rotate_left
      · simp only [Act.put, List.setIfInBounds_toArray, List.set_cons_zero, List.set_cons_succ, i64_w, i32_w]
        rfl
      refine pure_ (i := 6) (N := some 45) (v := ?_) (a' := ?_) #[true, true, true, true, true, true, true, true, false] rfl rfl (any_of HT_.out (by kernel_rfl)) (fun _ _ _ h => h) (Or.inl ⟨by rfl, ?_⟩) ?_ ?_
      rotate_left
      · intro w'
        go_simp
        with_reducible rfl
      rotate_left
      · simp only [Act.put, List.setIfInBounds_toArray, List.set_cons_zero, List.set_cons_succ, i64_w, i32_w]
        rfl
      refine one_ (i := 8) (N := none) #[true, true, true, true, true, true, true, true, true] rfl rfl (one_of HT_.out (by kernel_rfl)) (by decide) (fun K hK => ?_)
      have hs37 : w36.cell? ⟨gb151, 0, none⟩ = some (.string x152000_1) := (blk_cell BK151.out 0).trans rfl
      have hfs37 := blk_frozen BK151.out 0
      have hns37_0 := NB150_151.out
      have hms37_0 := NB151_150.out
      have hs38 : w36.cell? ⟨gb151, 1, none⟩ = some (.bool x152001_1) := (blk_cell BK151.out 1).trans rfl
      have hfs38 := blk_frozen BK151.out 1
      have hns38_0 := NB150_151.out
      have hms38_0 := NB151_150.out
      refine skip_ (w1 := ?_) (by rfl) rfl ?_ ?_
      rotate_left
      · go_simp
        rfl
      refine hK.out _ _ ⟨((cell_far (p := ⟨gb151, _, none⟩) NB150_151.out _).trans (((cell_far (p := ⟨gb151, _, none⟩) NB150_151.out _).trans (hHeld.1)))), ((cell_far (p := ⟨gb151, _, none⟩) NB150_151.out _).trans (((cell_far (p := ⟨gb151, _, none⟩) NB150_151.out _).trans (hHeld.2))))⟩ (fun hHeld => ?_)
      clear hK K
      refine done_ (done_of HT_.out (by kernel_rfl)) ?_
      try go_wp2
      refine bodyPost_ret (results_tc rfl _ _ gb151 97 #[.string (a0_0.extract ((ji25) : Int).toNat a0_0.size), .bool false] (0, 0) _ rfl (by refine Kv_ ?_; refine blk_put (cs := #[.string (a0_0.extract ((ji25) : Int).toNat a0_0.size), .bool x152001_1]) ?_ 1 _ rfl; refine Kv_ ?_; refine blk_put (cs := #[.string x152000_1, .bool x152001_1]) ?_ 0 _ rfl; exact Kq_ BK151) Try.underlying97 rfl (by kernel_rfl)) rfl ?_
      exact ⟨by first | rfl | (simp [errW_none, errW_some] <;> rfl) | (simp only [← hji10, ← hji19, ← hji21, ← hji25]; first | rfl | (simp [errW_none, errW_some] <;> rfl)) | (simp [*, errW_none, errW_some] <;> rfl), by repeat (first | (with_reducible first | exact HB.out | apply below_alloc | apply pw_below_drewN | apply below_drew1 | refine below_set ?_ GE150.out | refine below_set ?_ GE151.out) | exact HB.out)⟩
end Go.Proofs.Ytoogchgoiciggaa.Q
