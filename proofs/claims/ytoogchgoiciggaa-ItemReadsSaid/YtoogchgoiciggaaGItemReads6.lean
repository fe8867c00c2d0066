import Derived.Test.YtoogchgoiciggaaGItemReads2
namespace Go.Proofs.Ytoogchgoiciggaa.Q
open Go.RowKit Go.Proofs.YtoogchgoiciggaaW.PrintWords Go.Proofs.YtoogchgoiciggaaW.PrintLast Go.Proofs.YtoogchgoiciggaaW.PrintMore
attribute [local go_sem] max2_int min2_int max_two min_two max_three min_three max_four min_four   -- for this text's walks alone
set_option linter.unusedVariables false
set_option linter.unusedSimpArgs false
def tenementref08_Right.f (a0_0 : ByteArray) (a0_1 : ByteArray) (a0_2 : ByteArray) (a0_3 : Bool) : Option (Bool) := if (a0_0.size : Int) ≥ 1 then (if (a0_0.size : Int) ≤ 16 then (if (a0_1.size : Int) ≥ 1 then (if (a0_1.size : Int) ≤ 16 then (if (a0_2.size : Int) ≤ 32 then (if a0_3 = true then (some (a0_2.toList == ([] : List UInt8))) else (some true)) else (some false)) else (some false)) else (some false)) else (some false)) else (some false)
set_option maxHeartbeats 8000000 in
set_option maxRecDepth 100000 in
theorem tenementref08_Right.calls (a0_0 : ByteArray) (a0_1 : ByteArray) (a0_2 : ByteArray) (a0_3 : Bool) (r : Bool) (w : World) (h : tenementref08_Right.f a0_0 a0_1 a0_2 a0_3 = some r) :
  Calls Try.prog 19 #[.agg #[.string a0_0, .string a0_1, .string a0_2, .bool a0_3]] w fun e w' => e = .returned (.bool r) ∧ Below w.heap.size w w' := by
 have hu38 := Try.underlying38
 have HB := Aside0.mk (Below.refl w.heap.size w)
 have H : (if (a0_0.size : Int) ≥ 1 then (if (a0_0.size : Int) ≤ 16 then (if (a0_1.size : Int) ≥ 1 then (if (a0_1.size : Int) ≤ 16 then (if (a0_2.size : Int) ≤ 32 then (if a0_3 = true then (some (a0_2.toList == ([] : List UInt8))) else (some true)) else (some false)) else (some false)) else (some false)) else (some false)) else (some false)) = some r := h
 clear h
 by_cases c2 : (a0_0.size : Int) ≥ 1
 rotate_left
 ·rw [if_neg c2] at H
  have c2b0 : decide (1 ≤ (a0_0.size : Int)) = false := decide_eq_false c2
  have c2b1 : decide (1 ≤ a0_0.size) = false := decide_eq_false (by omega)
  clear c2
  obtain rfl := Option.some.inj H
  go_enter Try.func19, Try.ntmps19
  go_wp2_with (first | ((with_reducible refine gate_dst (N := 1) rfl ?_); refine Ka_ 1 #[.string a0_0, .string a0_1, .string a0_2, .bool a0_3] 38 ?_; intro gb297 hg w20 hbox hb; have BK297 := Aside0.mk (hbox); have GW297 := Kw_ HB hg; have GE297 := GW297; replace HB := Ks_ HB hb; clear hb hbox hg; obtain ⟨hcz21_0, hcz21_1, hcz21_2, hcz21_3, hfz21_0, hfz21_1, hfz21_2, hfz21_3⟩ := Ke4_ BK297.out))
  go_ret
  exact ⟨Kh_, Kz_ HB GE297⟩
 rw [if_pos c2] at H
 have c2b0 : decide (1 ≤ (a0_0.size : Int)) = true := decide_eq_true c2
 have c2b1 : decide (1 ≤ a0_0.size) = true := decide_eq_true (by omega)
 clear c2
 by_cases c3 : (a0_0.size : Int) ≤ 16
 rotate_left
 ·rw [if_neg c3] at H
  have c3b0 : decide ((a0_0.size : Int) ≤ 16) = false := decide_eq_false c3
  have c3b1 : decide (a0_0.size ≤ 16) = false := decide_eq_false (by omega)
  clear c3
  obtain rfl := Option.some.inj H
  go_enter Try.func19, Try.ntmps19
  go_wp2_with (first | ((with_reducible refine gate_dst (N := 1) rfl ?_); refine Ka_ 1 #[.string a0_0, .string a0_1, .string a0_2, .bool a0_3] 38 ?_; intro gb297 hg w18 hbox hb; have BK297 := Aside0.mk (hbox); have GW297 := Kw_ HB hg; have GE297 := GW297; replace HB := Ks_ HB hb; clear hb hbox hg; obtain ⟨hcz19_0, hcz19_1, hcz19_2, hcz19_3, hfz19_0, hfz19_1, hfz19_2, hfz19_3⟩ := Ke4_ BK297.out))
  go_ret
  exact ⟨Kh_, Kz_ HB GE297⟩
 rw [if_pos c3] at H
 have c3b0 : decide ((a0_0.size : Int) ≤ 16) = true := decide_eq_true c3
 have c3b1 : decide (a0_0.size ≤ 16) = true := decide_eq_true (by omega)
 clear c3
 by_cases c4 : (a0_1.size : Int) ≥ 1
 rotate_left
 ·rw [if_neg c4] at H
  have c4b0 : decide (1 ≤ (a0_1.size : Int)) = false := decide_eq_false c4
  have c4b1 : decide (1 ≤ a0_1.size) = false := decide_eq_false (by omega)
  clear c4
  obtain rfl := Option.some.inj H
  go_enter Try.func19, Try.ntmps19
  go_wp2_with (first | ((with_reducible refine gate_dst (N := 1) rfl ?_); refine Ka_ 1 #[.string a0_0, .string a0_1, .string a0_2, .bool a0_3] 38 ?_; intro gb297 hg w16 hbox hb; have BK297 := Aside0.mk (hbox); have GW297 := Kw_ HB hg; have GE297 := GW297; replace HB := Ks_ HB hb; clear hb hbox hg; obtain ⟨hcz17_0, hcz17_1, hcz17_2, hcz17_3, hfz17_0, hfz17_1, hfz17_2, hfz17_3⟩ := Ke4_ BK297.out))
  go_ret
  exact ⟨Kh_, Kz_ HB GE297⟩
 rw [if_pos c4] at H
 have c4b0 : decide (1 ≤ (a0_1.size : Int)) = true := decide_eq_true c4
 have c4b1 : decide (1 ≤ a0_1.size) = true := decide_eq_true (by omega)
 clear c4
 by_cases c5 : (a0_1.size : Int) ≤ 16
 rotate_left
 ·rw [if_neg c5] at H
  have c5b0 : decide ((a0_1.size : Int) ≤ 16) = false := decide_eq_false c5
  have c5b1 : decide (a0_1.size ≤ 16) = false := decide_eq_false (by omega)
  clear c5
  obtain rfl := Option.some.inj H
  go_enter Try.func19, Try.ntmps19
  go_wp2_with (first | ((with_reducible refine gate_dst (N := 1) rfl ?_); refine Ka_ 1 #[.string a0_0, .string a0_1, .string a0_2, .bool a0_3] 38 ?_; intro gb297 hg w14 hbox hb; have BK297 := Aside0.mk (hbox); have GW297 := Kw_ HB hg; have GE297 := GW297; replace HB := Ks_ HB hb; clear hb hbox hg; obtain ⟨hcz15_0, hcz15_1, hcz15_2, hcz15_3, hfz15_0, hfz15_1, hfz15_2, hfz15_3⟩ := Ke4_ BK297.out))
  go_ret
  exact ⟨Kh_, Kz_ HB GE297⟩
 rw [if_pos c5] at H
 have c5b0 : decide ((a0_1.size : Int) ≤ 16) = true := decide_eq_true c5
 have c5b1 : decide (a0_1.size ≤ 16) = true := decide_eq_true (by omega)
 clear c5
 by_cases c6 : (a0_2.size : Int) ≤ 32
 rotate_left
 ·rw [if_neg c6] at H
  have c6b0 : decide ((a0_2.size : Int) ≤ 32) = false := decide_eq_false c6
  have c6b1 : decide (a0_2.size ≤ 32) = false := decide_eq_false (by omega)
  clear c6
  obtain rfl := Option.some.inj H
  go_enter Try.func19, Try.ntmps19
  go_wp2_with (first | ((with_reducible refine gate_dst (N := 1) rfl ?_); refine Ka_ 1 #[.string a0_0, .string a0_1, .string a0_2, .bool a0_3] 38 ?_; intro gb297 hg w12 hbox hb; have BK297 := Aside0.mk (hbox); have GW297 := Kw_ HB hg; have GE297 := GW297; replace HB := Ks_ HB hb; clear hb hbox hg; obtain ⟨hcz13_0, hcz13_1, hcz13_2, hcz13_3, hfz13_0, hfz13_1, hfz13_2, hfz13_3⟩ := Ke4_ BK297.out))
  go_ret
  exact ⟨Kh_, Kz_ HB GE297⟩
 rw [if_pos c6] at H
 have c6b0 : decide ((a0_2.size : Int) ≤ 32) = true := decide_eq_true c6
 have c6b1 : decide (a0_2.size ≤ 32) = true := decide_eq_true (by omega)
 clear c6
 by_cases c7 : a0_3 = true
 ·subst c7
  have H1 : (some (a0_2.toList == ([] : List UInt8))) = some r := by rw [if_pos rfl] at H; exact H
  clear H
  have H := H1
  clear H1
  obtain rfl := Option.some.inj H
  go_enter Try.func19, Try.ntmps19
  go_wp2_with (first | ((with_reducible refine gate_dst (N := 1) rfl ?_); refine Ka_ 1 #[.string a0_0, .string a0_1, .string a0_2, .bool true] 38 ?_; intro gb297 hg w8 hbox hb; have BK297 := Aside0.mk (hbox); have GW297 := Kw_ HB hg; have GE297 := GW297; replace HB := Ks_ HB hb; clear hb hbox hg; obtain ⟨hcz9_0, hcz9_1, hcz9_2, hcz9_3, hfz9_0, hfz9_1, hfz9_2, hfz9_3⟩ := Ke4_ BK297.out))
  go_ret
  exact ⟨Kh_, Kz_ HB GE297⟩
 replace c7 := Bool.eq_false_iff.mpr c7
 subst c7
 have H1 : (some true) = some r := by rw [if_neg (show ¬ (false = true) by decide)] at H; exact H
 clear H
 have H := H1
 clear H1
 obtain rfl := Option.some.inj H
 go_enter Try.func19, Try.ntmps19
 go_wp2_with (first | ((with_reducible refine gate_dst (N := 1) rfl ?_); refine Ka_ 1 #[.string a0_0, .string a0_1, .string a0_2, .bool false] 38 ?_; intro gb297 hg w10 hbox hb; have BK297 := Aside0.mk (hbox); have GW297 := Kw_ HB hg; have GE297 := GW297; replace HB := Ks_ HB hb; clear hb hbox hg; obtain ⟨hcz11_0, hcz11_1, hcz11_2, hcz11_3, hfz11_0, hfz11_1, hfz11_2, hfz11_3⟩ := Ke4_ BK297.out))
 go_ret
 exact ⟨Kh_, Kz_ HB GE297⟩
def tenementref06_Right.l0 : Nat → Int → Int → Int → Int → Int → Option (Bool)
 | 0, _, _, _, _, _ => none
 | k + 1, x3, x107, x108, x109, x110 => if x3 < 4 then (if x3 = 0 then (if x107 > 1152921504606846976 then (some false) else (tenementref06_Right.l0 k (wrap64 (x3 + 1)) x107 x108 x109 x110)) else (if x3 = 1 then (if x108 > 1152921504606846976 then (some false) else (tenementref06_Right.l0 k (wrap64 (x3 + 1)) x107 x108 x109 x110)) else (if x3 = 2 then (if x109 > 1152921504606846976 then (some false) else (tenementref06_Right.l0 k (wrap64 (x3 + 1)) x107 x108 x109 x110)) else (if x3 = 3 then (if x110 > 1152921504606846976 then (some false) else (tenementref06_Right.l0 k (wrap64 (x3 + 1)) x107 x108 x109 x110)) else (none))))) else (some true)
def tenementref06_Right.f (k : Nat) (a0_0 : Int) (a0_1 : Int) (a0_2 : Int) (a0_3 : Int) : Option (Bool) := tenementref06_Right.l0 k 0 a0_0 a0_1 a0_2 a0_3
set_option maxHeartbeats 8000000 in
set_option maxRecDepth 100000 in
theorem tenementref06_Right.calls (k : Nat) (a0_0 : Int) (a0_1 : Int) (a0_2 : Int) (a0_3 : Int) (r : Bool) (w : World) (h : tenementref06_Right.f k a0_0 a0_1 a0_2 a0_3 = some r) :
  Calls Try.prog 66 #[.agg #[.int .u64 a0_0, .int .u64 a0_1, .int .u64 a0_2, .int .u64 a0_3]] w fun e w' => e = .returned (.bool r) ∧ Below w.heap.size w w' := by
 have hu48 := Try.underlying48
 have HB := Aside0.mk (Below.refl w.heap.size w)
 have H : (tenementref06_Right.l0 k 0 a0_0 a0_1 a0_2 a0_3) = some r := h
 clear h
 have H' := Aside0.mk H
 clear H
 go_enter Try.func66, Try.ntmps66
 go_wp2_with (first | ((with_reducible refine gate_dst (N := 1) rfl ?_); refine Ka_ 1 #[.int .u64 a0_0, .int .u64 a0_1, .int .u64 a0_2, .int .u64 a0_3] 48 ?_; intro gb298 hg w2 hbox hb; have BK298 := Aside0.mk (hbox); have GW298 := Kw_ HB hg; have GE298 := GW298; replace HB := Ks_ HB hb; clear hb hbox hg))
 go_loopg [3] k (fun kq v3 w' => ∃ (x3_1 : Int), v3 = .int .i64 x3_1 ∧ Aside0 (tenementref06_Right.l0 kq x3_1 a0_0 a0_1 a0_2 a0_3 = some r) ∧ Aside0 (kq ≤ k) ∧ Aside0 (w'.heap[gb298]? = some (.cells #[.int .u64 a0_0, .int .u64 a0_1, .int .u64 a0_2, .int .u64 a0_3] 48 (0, 0))) ∧ Aside0 (Below w.heap.size w w'))
 case atStart => exact ⟨(0), (by first | rfl | (simp; done) | (simp [*]; done)), H', ⟨Nat.le_refl _⟩, ⟨by exact Kq_ BK298⟩, ⟨Kz_ HB GE298⟩⟩
 case round =>
  clear H'
  try clear p2
  obtain ⟨x3_1, rfl, HA, HK1, BK298, HB⟩ := hrel
  cases gk with
  | zero => exact absurd HA.out (by simp [tenementref06_Right.l0])
  | succ k1 =>
   have H := HA.out
   clear HA
   simp only [tenementref06_Right.l0] at H
   by_cases c3 : x3_1 < 4
   rotate_left
   ·rw [if_neg c3] at H
    have c3b0 : decide (x3_1 < 4) = false := decide_eq_false c3
    clear c3
    obtain rfl := Option.some.inj H
    go_wp2
    go_ret
    exact ⟨Kh_, Kz_ HB GE298⟩
   rw [if_pos c3] at H
   have c3b0 : decide (x3_1 < 4) = true := decide_eq_true c3
   clear c3
   by_cases c4 : x3_1 = 0
   ·subst c4
    have H1 : (if a0_0 > 1152921504606846976 then (some false) else (tenementref06_Right.l0 k1 1 a0_0 a0_1 a0_2 a0_3)) = some r := by rw [if_pos rfl] at H; (try simp only [show wrap64 ((0 : Int) + 1) = 1 from by first | rfl | decide | (unfold wrap64; omega), show wrap64 ((0 : Int) - 1) = -1 from by first | rfl | decide | (unfold wrap64; omega)] at H); exact H
    clear H
    have H := H1
    clear H1
    by_cases c5 : a0_0 > 1152921504606846976
    ·rw [if_pos c5] at H
     have c5b0 : decide (1152921504606846976 < a0_0) = true := decide_eq_true c5
     clear c5
     obtain rfl := Option.some.inj H
     obtain ⟨hcz6_0, hcz6_1, hcz6_2, hcz6_3, hfz6_0, hfz6_1, hfz6_2, hfz6_3⟩ := Ke4_ BK298.out
     go_wp2
     go_ret
     exact ⟨Kh_, Kz_ HB GE298⟩
    rw [if_neg c5] at H
    have c5b0 : decide (1152921504606846976 < a0_0) = false := decide_eq_false c5
    clear c5
    have H' := Aside0.mk H
    clear H
    obtain ⟨hcz7_0, hcz7_1, hcz7_2, hcz7_3, hfz7_0, hfz7_1, hfz7_2, hfz7_3⟩ := Ke4_ BK298.out
    go_wp2
    go_roundg k1
    case measure => have := HK1.out; omega
    case rel => exact ⟨(1), (by first | rfl | (simp; done) | (simp [*]; done)), H', ⟨by have := HK1.out; omega⟩, ⟨by exact Kq_ BK298⟩, ⟨Kz_ HB GE298⟩⟩
   rw [if_neg c4] at H
   by_cases c8 : x3_1 = 1
   ·subst c8
    have H1 : (if a0_1 > 1152921504606846976 then (some false) else (tenementref06_Right.l0 k1 2 a0_0 a0_1 a0_2 a0_3)) = some r := by rw [if_pos rfl] at H; (try simp only [show wrap64 ((1 : Int) + 1) = 2 from by first | rfl | decide | (unfold wrap64; omega), show wrap64 ((1 : Int) - 1) = 0 from by first | rfl | decide | (unfold wrap64; omega)] at H); exact H
    clear H
    have H := H1
    clear H1
    by_cases c9 : a0_1 > 1152921504606846976
    ·rw [if_pos c9] at H
     have c9b0 : decide (1152921504606846976 < a0_1) = true := decide_eq_true c9
     clear c9
     obtain rfl := Option.some.inj H
     obtain ⟨hcz10_0, hcz10_1, hcz10_2, hcz10_3, hfz10_0, hfz10_1, hfz10_2, hfz10_3⟩ := Ke4_ BK298.out
     go_wp2
     go_ret
     exact ⟨Kh_, Kz_ HB GE298⟩
    rw [if_neg c9] at H
    have c9b0 : decide (1152921504606846976 < a0_1) = false := decide_eq_false c9
    clear c9
    have H' := Aside0.mk H
    clear H
    obtain ⟨hcz11_0, hcz11_1, hcz11_2, hcz11_3, hfz11_0, hfz11_1, hfz11_2, hfz11_3⟩ := Ke4_ BK298.out
    go_wp2
    go_roundg k1
    case measure => have := HK1.out; omega
    case rel => exact ⟨(2), (by first | rfl | (simp; done) | (simp [*]; done)), H', ⟨by have := HK1.out; omega⟩, ⟨by exact Kq_ BK298⟩, ⟨Kz_ HB GE298⟩⟩
   rw [if_neg c8] at H
   by_cases c12 : x3_1 = 2
   ·subst c12
    have H1 : (if a0_2 > 1152921504606846976 then (some false) else (tenementref06_Right.l0 k1 3 a0_0 a0_1 a0_2 a0_3)) = some r := by rw [if_pos rfl] at H; (try simp only [show wrap64 ((2 : Int) + 1) = 3 from by first | rfl | decide | (unfold wrap64; omega), show wrap64 ((2 : Int) - 1) = 1 from by first | rfl | decide | (unfold wrap64; omega)] at H); exact H
    clear H
    have H := H1
    clear H1
    by_cases c13 : a0_2 > 1152921504606846976
    ·rw [if_pos c13] at H
     have c13b0 : decide (1152921504606846976 < a0_2) = true := decide_eq_true c13
     clear c13
     obtain rfl := Option.some.inj H
     obtain ⟨hcz14_0, hcz14_1, hcz14_2, hcz14_3, hfz14_0, hfz14_1, hfz14_2, hfz14_3⟩ := Ke4_ BK298.out
     go_wp2
     go_ret
     exact ⟨Kh_, Kz_ HB GE298⟩
    rw [if_neg c13] at H
    have c13b0 : decide (1152921504606846976 < a0_2) = false := decide_eq_false c13
    clear c13
    have H' := Aside0.mk H
    clear H
    obtain ⟨hcz15_0, hcz15_1, hcz15_2, hcz15_3, hfz15_0, hfz15_1, hfz15_2, hfz15_3⟩ := Ke4_ BK298.out
    go_wp2
    go_roundg k1
    case measure => have := HK1.out; omega
    case rel => exact ⟨(3), (by first | rfl | (simp; done) | (simp [*]; done)), H', ⟨by have := HK1.out; omega⟩, ⟨by exact Kq_ BK298⟩, ⟨Kz_ HB GE298⟩⟩
   rw [if_neg c12] at H
   by_cases c16 : x3_1 = 3
   rotate_left
   ·rw [if_neg c16] at H
    exact absurd H (by simp)
   subst c16
   have H1 : (if a0_3 > 1152921504606846976 then (some false) else (tenementref06_Right.l0 k1 4 a0_0 a0_1 a0_2 a0_3)) = some r := by rw [if_pos rfl] at H; (try simp only [show wrap64 ((3 : Int) + 1) = 4 from by first | rfl | decide | (unfold wrap64; omega), show wrap64 ((3 : Int) - 1) = 2 from by first | rfl | decide | (unfold wrap64; omega)] at H); exact H
   clear H
   have H := H1
   clear H1
   by_cases c17 : a0_3 > 1152921504606846976
   ·rw [if_pos c17] at H
    have c17b0 : decide (1152921504606846976 < a0_3) = true := decide_eq_true c17
    clear c17
    obtain rfl := Option.some.inj H
    obtain ⟨hcz18_0, hcz18_1, hcz18_2, hcz18_3, hfz18_0, hfz18_1, hfz18_2, hfz18_3⟩ := Ke4_ BK298.out
    go_wp2
    go_ret
    exact ⟨Kh_, Kz_ HB GE298⟩
   rw [if_neg c17] at H
   have c17b0 : decide (1152921504606846976 < a0_3) = false := decide_eq_false c17
   clear c17
   have H' := Aside0.mk H
   clear H
   obtain ⟨hcz19_0, hcz19_1, hcz19_2, hcz19_3, hfz19_0, hfz19_1, hfz19_2, hfz19_3⟩ := Ke4_ BK298.out
   go_wp2
   go_roundg k1
   case measure => have := HK1.out; omega
   case rel => exact ⟨(4), (by first | rfl | (simp; done) | (simp [*]; done)), H', ⟨by have := HK1.out; omega⟩, ⟨by exact Kq_ BK298⟩, ⟨Kz_ HB GE298⟩⟩
def tenementref06_At.f (a0_0 a0_1 a0_2 a0_3 n : Int) : Option Int := some (if n = 1 then a0_0 else if n = 2 then a0_1 else if n = 3 then a0_2 else if n = 4 then a0_3 else 0)
set_option maxHeartbeats 8000000 in
set_option maxRecDepth 100000 in
theorem tenementref06_At.calls (a0_0 a0_1 a0_2 a0_3 n : Int) (r : Int) (w : World) (h : tenementref06_At.f a0_0 a0_1 a0_2 a0_3 n = some r) :
  Calls Try.prog 77 #[.agg #[.int .u64 a0_0, .int .u64 a0_1, .int .u64 a0_2, .int .u64 a0_3], .int .i64 n] w fun e w' => e = .returned (.int .u64 r) ∧ Below w.heap.size w w' := by
 unfold tenementref06_At.f at h
 obtain rfl := Option.some.inj h
 clear h
 have hu := Try.underlying48
 by_cases c0 : n = 1
 ·subst c0
  go_enter Try.func77, Try.ntmps77
  go_wp2
  go_ret
  exact ⟨by first | rfl | simp, by first | exact below_alloc (Below.refl _ _) _ | (repeat (first | exact Below.refl _ _ | apply below_alloc | apply pw_below_drewN | apply below_drew1))⟩
 by_cases c1 : n = 2
 ·subst c1
  go_enter Try.func77, Try.ntmps77
  go_wp2
  go_ret
  exact ⟨by first | rfl | simp, by first | exact below_alloc (Below.refl _ _) _ | (repeat (first | exact Below.refl _ _ | apply below_alloc | apply pw_below_drewN | apply below_drew1))⟩
 by_cases c2 : n = 3
 ·subst c2
  go_enter Try.func77, Try.ntmps77
  go_wp2
  go_ret
  exact ⟨by first | rfl | simp, by first | exact below_alloc (Below.refl _ _) _ | (repeat (first | exact Below.refl _ _ | apply below_alloc | apply pw_below_drewN | apply below_drew1))⟩
 by_cases c3 : n = 4
 ·subst c3
  go_enter Try.func77, Try.ntmps77
  go_wp2
  go_ret
  exact ⟨by first | rfl | simp, by first | exact below_alloc (Below.refl _ _) _ | (repeat (first | exact Below.refl _ _ | apply below_alloc | apply pw_below_drewN | apply below_drew1))⟩
 rw [if_neg c0, if_neg c1, if_neg c2, if_neg c3]
 have b1 : (decide (1 ≤ n) = false ∧ decide (n < 1) = true) ∨ (decide (1 ≤ n) = true ∧ decide (n < 1) = false ∧ decide (n ≤ 4) = false ∧ decide (4 < n) = true) := by
  by_cases h : 1 ≤ n
  ·exact Or.inr ⟨decide_eq_true h, decide_eq_false (by omega), decide_eq_false (by omega), decide_eq_true (by omega)⟩
  ·exact Or.inl ⟨decide_eq_false h, decide_eq_true (by omega)⟩
 clear c0 c1 c2 c3
 rcases b1 with ⟨b1, b2⟩ | ⟨b1, b2, b3, b4⟩
 ·go_enter Try.func77, Try.ntmps77
  go_wp2
  go_ret
  exact ⟨by first | rfl | simp, by first | exact below_alloc (Below.refl _ _) _ | (repeat (first | exact Below.refl _ _ | apply below_alloc | apply pw_below_drewN | apply below_drew1))⟩
 ·go_enter Try.func77, Try.ntmps77
  go_wp2
  go_ret
  exact ⟨by first | rfl | simp, by first | exact below_alloc (Below.refl _ _) _ | (repeat (first | exact Below.refl _ _ | apply below_alloc | apply pw_below_drewN | apply below_drew1))⟩
def tenementref07_Stamp_N.f (a0_0 : Int) (a0_1 : Int) (a0_2 : Int) (a0_3 : Int) (a0_4 : Int) : Option (Int) := (tenementref06_At.f a0_0 a0_1 a0_2 a0_3 a0_4).bind fun t300 => (some t300)
set_option maxHeartbeats 8000000 in
set_option maxRecDepth 100000 in
theorem tenementref07_Stamp_N.calls (a0_0 : Int) (a0_1 : Int) (a0_2 : Int) (a0_3 : Int) (a0_4 : Int) (r : Int) (w : World) (h : tenementref07_Stamp_N.f a0_0 a0_1 a0_2 a0_3 a0_4 = some r) :
  Calls Try.prog 67 #[.agg #[.int .u64 a0_0, .int .u64 a0_1, .int .u64 a0_2, .int .u64 a0_3, .int .i64 a0_4]] w fun e w' => e = .returned (.int .u64 r) ∧ Below w.heap.size w w' := by
 have hu50 := Try.underlying50
 have hu48 := Try.underlying48
 have HB := Aside0.mk (Below.refl w.heap.size w)
 have H : ((tenementref06_At.f a0_0 a0_1 a0_2 a0_3 a0_4).bind fun t300 => (some t300)) = some r := h
 clear h
 replace H := Option.bind_eq_some_iff.mp H
 obtain ⟨t300, A20, H⟩ := H
 replace H : (some t300) = some r := H
 have A2 := Aside0.mk A20
 clear A20
 obtain rfl := Option.some.inj H
 go_enter Try.func67, Try.ntmps67
 go_wp2_with (first | ((with_reducible refine gate_dst (N := 1) rfl ?_); refine Ka_ 1 #[.int .u64 a0_0, .int .u64 a0_1, .int .u64 a0_2, .int .u64 a0_3, .int .i64 a0_4] 50 ?_; intro gb299 hg w3 hbox hb; have BK299 := Aside0.mk (hbox); have GW299 := Kw_ HB hg; have GE299 := GW299; replace HB := Ks_ HB hb; clear hb hbox hg; obtain ⟨hcz4_0, hcz4_1, hcz4_2, hcz4_3, hcz4_4, hfz4_0, hfz4_1, hfz4_2, hfz4_3, hfz4_4⟩ := Ke5_ BK299.out) | ((with_reducible refine gate_callee (f := 77) rfl ?_); refine Kg_ (some 7) rfl rfl Try.func77 (by kernel_rfl) rfl #[.agg #[.int .u64 a0_0, .int .u64 a0_1, .int .u64 a0_2, .int .u64 a0_3], .int .i64 a0_4] rfl ?_; (with_reducible refine (tenementref06_At.calls a0_0 a0_1 a0_2 a0_3 a0_4 t300 _ A2.out).mono ?_); rintro e w5 ⟨rfl, hb⟩; refine ⟨_, rfl, ?_⟩; replace BK299 := Kb_ BK299 hb; replace HB := Ks_ HB hb; (try clear hb); (try clear hb2); (try clear hk); (try clear hi)))
 go_ret
 exact ⟨Kh_, Kz_ HB GE299⟩
def tenementref07_Right.f (k : Nat) (a0_0 : Int) (a0_1 : Int) (a0_2 : Int) (a0_3 : Int) (a0_4 : Int) : Option (Bool) := (tenementref06_Right.f k a0_0 a0_1 a0_2 a0_3).bind fun t302 => (if t302 = true then ((tenementref07_Stamp_N.f a0_0 a0_1 a0_2 a0_3 a0_4).bind fun t303 => (some (decide (t303 ≥ 1)))) else (some false))
set_option maxHeartbeats 8000000 in
set_option maxRecDepth 100000 in
theorem tenementref07_Right.calls (k : Nat) (a0_0 : Int) (a0_1 : Int) (a0_2 : Int) (a0_3 : Int) (a0_4 : Int) (r : Bool) (w : World) (h : tenementref07_Right.f k a0_0 a0_1 a0_2 a0_3 a0_4 = some r) :
  Calls Try.prog 46 #[.agg #[.int .u64 a0_0, .int .u64 a0_1, .int .u64 a0_2, .int .u64 a0_3, .int .i64 a0_4]] w fun e w' => e = .returned (.bool r) ∧ Below w.heap.size w w' := by
 have hu50 := Try.underlying50
 have hu48 := Try.underlying48
 have HB := Aside0.mk (Below.refl w.heap.size w)
 have H : ((tenementref06_Right.f k a0_0 a0_1 a0_2 a0_3).bind fun t302 => (if t302 = true then ((tenementref07_Stamp_N.f a0_0 a0_1 a0_2 a0_3 a0_4).bind fun t303 => (some (decide (t303 ≥ 1)))) else (some false))) = some r := h
 clear h
 replace H := Option.bind_eq_some_iff.mp H
 obtain ⟨t302, A20, H⟩ := H
 replace H : (if t302 = true then ((tenementref07_Stamp_N.f a0_0 a0_1 a0_2 a0_3 a0_4).bind fun t303 => (some (decide (t303 ≥ 1)))) else (some false)) = some r := H
 have A2 := Aside0.mk A20
 clear A20
 by_cases c3 : t302 = true
 rotate_left
 ·replace c3 := Bool.eq_false_iff.mpr c3
  subst c3
  have H1 : (some false) = some r := by rw [if_neg (show ¬ (false = true) by decide)] at H; exact H
  clear H
  have H := H1
  clear H1
  obtain rfl := Option.some.inj H
  go_enter Try.func46, Try.ntmps46
  go_wp2_with (first | ((with_reducible refine gate_dst (N := 1) rfl ?_); refine Ka_ 1 #[.int .u64 a0_0, .int .u64 a0_1, .int .u64 a0_2, .int .u64 a0_3, .int .i64 a0_4] 50 ?_; intro gb301 hg w10 hbox hb; have BK301 := Aside0.mk (hbox); have GW301 := Kw_ HB hg; have GE301 := GW301; replace HB := Ks_ HB hb; clear hb hbox hg; obtain ⟨hcz11_0, hcz11_1, hcz11_2, hcz11_3, hcz11_4, hfz11_0, hfz11_1, hfz11_2, hfz11_3, hfz11_4⟩ := Ke5_ BK301.out) | ((with_reducible refine gate_callee (f := 66) rfl ?_); refine Kg_ (some 5) rfl rfl Try.func66 (by kernel_rfl) rfl #[.agg #[.int .u64 a0_0, .int .u64 a0_1, .int .u64 a0_2, .int .u64 a0_3]] rfl ?_; (with_reducible refine (tenementref06_Right.calls k a0_0 a0_1 a0_2 a0_3 false _ A2.out).mono ?_); rintro e w12 ⟨rfl, hb⟩; refine ⟨_, rfl, ?_⟩; replace BK301 := Kb_ BK301 hb; replace HB := Ks_ HB hb; (try clear hb); (try clear hb2); (try clear hk); (try clear hi)))
  go_ret
  exact ⟨Kh_, Kz_ HB GE301⟩
 subst c3
 have H1 : ((tenementref07_Stamp_N.f a0_0 a0_1 a0_2 a0_3 a0_4).bind fun t303 => (some (decide (t303 ≥ 1)))) = some r := by rw [if_pos rfl] at H; exact H
 clear H
 have H := H1
 clear H1
 replace H := Option.bind_eq_some_iff.mp H
 obtain ⟨t303, A40, H⟩ := H
 replace H : (some (decide (t303 ≥ 1))) = some r := H
 have A4 := Aside0.mk A40
 clear A40
 obtain rfl := Option.some.inj H
 go_enter Try.func46, Try.ntmps46
 go_wp2_with (first | ((with_reducible refine gate_dst (N := 1) rfl ?_); refine Ka_ 1 #[.int .u64 a0_0, .int .u64 a0_1, .int .u64 a0_2, .int .u64 a0_3, .int .i64 a0_4] 50 ?_; intro gb301 hg w5 hbox hb; have BK301 := Aside0.mk (hbox); have GW301 := Kw_ HB hg; have GE301 := GW301; replace HB := Ks_ HB hb; clear hb hbox hg; obtain ⟨hcz6_0, hcz6_1, hcz6_2, hcz6_3, hcz6_4, hfz6_0, hfz6_1, hfz6_2, hfz6_3, hfz6_4⟩ := Ke5_ BK301.out) | ((with_reducible refine gate_callee (f := 66) rfl ?_); refine Kg_ (some 5) rfl rfl Try.func66 (by kernel_rfl) rfl #[.agg #[.int .u64 a0_0, .int .u64 a0_1, .int .u64 a0_2, .int .u64 a0_3]] rfl ?_; (with_reducible refine (tenementref06_Right.calls k a0_0 a0_1 a0_2 a0_3 true _ A2.out).mono ?_); rintro e w7 ⟨rfl, hb⟩; refine ⟨_, rfl, ?_⟩; replace BK301 := Kb_ BK301 hb; replace HB := Ks_ HB hb; (try clear hb); (try clear hb2); (try clear hk); (try clear hi); obtain ⟨hcz8_0, hcz8_1, hcz8_2, hcz8_3, hcz8_4, hfz8_0, hfz8_1, hfz8_2, hfz8_3, hfz8_4⟩ := Ke5_ BK301.out) | (go_at_call 67; (with_reducible refine (tenementref07_Stamp_N.calls a0_0 a0_1 a0_2 a0_3 a0_4 t303 _ A4.out).mono ?_); rintro e w9 ⟨rfl, hb⟩; replace BK301 := Kb_ BK301 hb; replace HB := Ks_ HB hb; (try clear hb); (try clear hb2); (try clear hk); (try clear hi)))
 go_ret
 exact ⟨Kh_, Kz_ HB GE301⟩
mutual
def tenementref08_Whole.j0 : Nat → Bool → Int → Int → Int → Int → Int → List (S38) → Option (Bool)
 | 0, _, _, _, _, _, _, _ => none
 | k + 1, x20, x101, x102, x103, x104, x105, x100 => if x20 = true then (some false) else (tenementref08_Whole.l0 k 0 x101 x102 x103 x104 x105 x100)
def tenementref08_Whole.l0 : Nat → Int → Int → Int → Int → Int → Int → List (S38) → Option (Bool)
 | 0, _, _, _, _, _, _, _ => none
 | k + 1, x3, x101, x102, x103, x104, x105, x100 => if x3 < (x100.length : Int) then (if 0 ≤ x3 then ((tenementref08_Right.f ((rd_T38 x100 x3).f0) ((rd_T38 x100 x3).f1) ((rd_T38 x100 x3).f2) ((rd_T38 x100 x3).f3)).bind fun t307 => (if t307 = true then (tenementref08_Whole.l1 k x3 0 x101 x102 x103 x104 x105 x100) else (some false))) else (none)) else (some true)
def tenementref08_Whole.l1 : Nat → Int → Int → Int → Int → Int → Int → Int → List (S38) → Option (Bool)
 | 0, _, _, _, _, _, _, _, _ => none
 | k + 1, x3, x4, x101, x102, x103, x104, x105, x100 => if x4 < x3 then (if 0 ≤ x4 then (if x4 < (x100.length : Int) then (if 0 ≤ x3 then (if x3 < (x100.length : Int) then (if ((rd_T38 x100 x4).f0).toList = ((rd_T38 x100 x3).f0).toList then (if ((rd_T38 x100 x4).f1).toList = ((rd_T38 x100 x3).f1).toList then (some false) else (tenementref08_Whole.l1 k x3 (wrap64 (x4 + 1)) x101 x102 x103 x104 x105 x100)) else (tenementref08_Whole.l1 k x3 (wrap64 (x4 + 1)) x101 x102 x103 x104 x105 x100)) else (none)) else (none)) else (none)) else (none)) else (tenementref08_Whole.l0 k (wrap64 (x3 + 1)) x101 x102 x103 x104 x105 x100)
end
def tenementref08_Whole.f (k : Nat) (a0_0 : Int) (a0_1 : Int) (a0_2 : Int) (a0_3 : Int) (a0_4 : Int) (l0_5 : List (S38)) : Option (Bool) := (tenementref07_Right.f k a0_0 a0_1 a0_2 a0_3 a0_4).bind fun t305 => (if t305 = true then (if (l0_5.length : Int) < 1 then (tenementref08_Whole.j0 k true a0_0 a0_1 a0_2 a0_3 a0_4 l0_5) else (tenementref08_Whole.j0 k (decide ((l0_5.length : Int) > 8)) a0_0 a0_1 a0_2 a0_3 a0_4 l0_5)) else (tenementref08_Whole.j0 k true a0_0 a0_1 a0_2 a0_3 a0_4 l0_5))
set_option maxHeartbeats 8000000 in
set_option maxRecDepth 100000 in
theorem tenementref08_Whole.calls (k : Nat) (a0_0 : Int) (a0_1 : Int) (a0_2 : Int) (a0_3 : Int) (a0_4 : Int) (A0_5 : Option Addr) (c0_5 : Nat) (l0_5 : List (S38)) (r : Bool) (w : World) (hr0_5 : Kd.C k38 w A0_5 l0_5.length l0_5) (hc0_5 : l0_5.length ≤ c0_5) (h : tenementref08_Whole.f k a0_0 a0_1 a0_2 a0_3 a0_4 l0_5 = some r) :
  Calls Try.prog 23 #[.agg #[.int .u64 a0_0, .int .u64 a0_1, .int .u64 a0_2, .int .u64 a0_3, .int .i64 a0_4, .slice A0_5 l0_5.length c0_5]] w fun e w' => e = .returned (.bool r) ∧ Below w.heap.size w w' := by
 have hu52 := Try.underlying52
 have hu50 := Try.underlying50
 have hu38 := Try.underlying38
 have HR0_5 := Aside0.mk hr0_5
 have HC0_5 := Aside0.mk hc0_5
 clear hr0_5 hc0_5
 have HB := Aside0.mk (Below.refl w.heap.size w)
 have H : ((tenementref07_Right.f k a0_0 a0_1 a0_2 a0_3 a0_4).bind fun t305 => (if t305 = true then (if (l0_5.length : Int) < 1 then (tenementref08_Whole.j0 k true a0_0 a0_1 a0_2 a0_3 a0_4 l0_5) else (tenementref08_Whole.j0 k (decide ((l0_5.length : Int) > 8)) a0_0 a0_1 a0_2 a0_3 a0_4 l0_5)) else (tenementref08_Whole.j0 k true a0_0 a0_1 a0_2 a0_3 a0_4 l0_5))) = some r := h
 clear h
 have HC2 := Aside0.mk H
 clear H
 go_enter Try.func23, Try.ntmps23
 go_upto_region 1 with (first | ((with_reducible refine gate_dst (N := 1) rfl ?_); refine Ka_ 1 #[.int .u64 a0_0, .int .u64 a0_1, .int .u64 a0_2, .int .u64 a0_3, .int .i64 a0_4, .slice A0_5 l0_5.length c0_5] 52 ?_; intro gb304 hg w3 hbox hb; have BK304 := Aside0.mk (hbox); have GW304 := Kw_ HB hg; have GE304 := GW304; replace HB := Ks_ HB hb; clear hb hbox hg))
 repeat (go_quiet (first | ((with_reducible refine gate_dst (N := 1) rfl ?_); refine Ka_ 1 #[.int .u64 a0_0, .int .u64 a0_1, .int .u64 a0_2, .int .u64 a0_3, .int .i64 a0_4, .slice A0_5 l0_5.length c0_5] 52 ?_; intro gb304 hg w3 hbox hb; have BK304 := Aside0.mk (hbox); have GW304 := Kw_ HB hg; have GE304 := GW304; replace HB := Ks_ HB hb; clear hb hbox hg)); go_upto_region 1 with (first | ((with_reducible refine gate_dst (N := 1) rfl ?_); refine Ka_ 1 #[.int .u64 a0_0, .int .u64 a0_1, .int .u64 a0_2, .int .u64 a0_3, .int .i64 a0_4, .slice A0_5 l0_5.length c0_5] 52 ?_; intro gb304 hg w3 hbox hb; have BK304 := Aside0.mk (hbox); have GW304 := Kw_ HB hg; have GE304 := GW304; replace HB := Ks_ HB hb; clear hb hbox hg)))
 (try simp only [Act.put, List.setIfInBounds_toArray, List.set_cons_zero, List.set_cons_succ])
 go_cut [20] (fun v20 wc => ∃ (kq : Nat) (x20_1 : Bool), v20 = .bool x20_1 ∧ Aside0 (tenementref08_Whole.j0 kq x20_1 a0_0 a0_1 a0_2 a0_3 a0_4 l0_5 = some r) ∧ Aside0 (kq ≤ k) ∧ Aside0 (wc.heap[gb304]? = some (.cells #[.int .u64 a0_0, .int .u64 a0_1, .int .u64 a0_2, .int .u64 a0_3, .int .i64 a0_4, (.slice A0_5 l0_5.length c0_5)] 52 (0, 0))) ∧ Aside0 (Below w.heap.size w wc))
 case first =>
  have H := HC2.out
  clear HC2
  replace H := Option.bind_eq_some_iff.mp H
  obtain ⟨t305, A40, H⟩ := H
  replace H : (if t305 = true then (if (l0_5.length : Int) < 1 then (tenementref08_Whole.j0 k true a0_0 a0_1 a0_2 a0_3 a0_4 l0_5) else (tenementref08_Whole.j0 k (decide ((l0_5.length : Int) > 8)) a0_0 a0_1 a0_2 a0_3 a0_4 l0_5)) else (tenementref08_Whole.j0 k true a0_0 a0_1 a0_2 a0_3 a0_4 l0_5)) = some r := H
  have A4 := Aside0.mk A40
  clear A40
  by_cases c5 : t305 = true
  rotate_left
  ·replace c5 := Bool.eq_false_iff.mpr c5
   subst c5
   have H1 : (tenementref08_Whole.j0 k true a0_0 a0_1 a0_2 a0_3 a0_4 l0_5) = some r := by rw [if_neg (show ¬ (false = true) by decide)] at H; exact H
   clear H
   have H := H1
   clear H1
   have H' := Aside0.mk H
   clear H
   obtain ⟨hcz13_0, hcz13_1, hcz13_2, hcz13_3, hcz13_4, hcz13_5, hfz13_0, hfz13_1, hfz13_2, hfz13_3, hfz13_4, hfz13_5⟩ := Ke6_ BK304.out
   go_wp2_with (first | (go_at_call 46; (with_reducible refine (tenementref07_Right.calls k a0_0 a0_1 a0_2 a0_3 a0_4 false _ A4.out).mono ?_); rintro e w14 ⟨rfl, hb⟩; replace BK304 := Kb_ BK304 hb; replace HB := Ks_ HB hb; (try clear hb); (try clear hb2); (try clear hk); (try clear hi)))
   repeat (go_quiet (first | (go_at_call 46; (with_reducible refine (tenementref07_Right.calls k a0_0 a0_1 a0_2 a0_3 a0_4 false _ A4.out).mono ?_); rintro e w14 ⟨rfl, hb⟩; replace BK304 := Kb_ BK304 hb; replace HB := Ks_ HB hb; (try clear hb); (try clear hb2); (try clear hk); (try clear hi))); try go_wp2_with (first | (go_at_call 46; (with_reducible refine (tenementref07_Right.calls k a0_0 a0_1 a0_2 a0_3 a0_4 false _ A4.out).mono ?_); rintro e w14 ⟨rfl, hb⟩; replace BK304 := Kb_ BK304 hb; replace HB := Ks_ HB hb; (try clear hb); (try clear hb2); (try clear hk); (try clear hi))))
   go_meet
   case rel => exact ⟨_, (true), (by first | rfl | (simp; done) | (simp [*]; done)), H', ⟨by first | omega | exact Nat.le_refl _⟩, ⟨by exact Kq_ BK304⟩, ⟨Kz_ HB GE304⟩⟩
  subst c5
  have H1 : (if (l0_5.length : Int) < 1 then (tenementref08_Whole.j0 k true a0_0 a0_1 a0_2 a0_3 a0_4 l0_5) else (tenementref08_Whole.j0 k (decide ((l0_5.length : Int) > 8)) a0_0 a0_1 a0_2 a0_3 a0_4 l0_5)) = some r := by rw [if_pos rfl] at H; exact H
  clear H
  have H := H1
  clear H1
  by_cases c6 : (l0_5.length : Int) < 1
  ·rw [if_pos c6] at H
   have c6b0 : decide ((l0_5.length : Int) < 1) = true := decide_eq_true c6
   have c6b1 : decide (l0_5.length < 1) = true := decide_eq_true (by omega)
   clear c6
   (first | rw [c6b0] | (simp only [i64_w, i32_w]; rw [c6b0]) | skip)
   have H' := Aside0.mk H
   clear H
   obtain ⟨hcz7_0, hcz7_1, hcz7_2, hcz7_3, hcz7_4, hcz7_5, hfz7_0, hfz7_1, hfz7_2, hfz7_3, hfz7_4, hfz7_5⟩ := Ke6_ BK304.out
   go_wp2_with (first | (go_at_call 46; (with_reducible refine (tenementref07_Right.calls k a0_0 a0_1 a0_2 a0_3 a0_4 true _ A4.out).mono ?_); rintro e w8 ⟨rfl, hb⟩; replace BK304 := Kb_ BK304 hb; replace HB := Ks_ HB hb; (try clear hb); (try clear hb2); (try clear hk); (try clear hi); obtain ⟨hcz9_0, hcz9_1, hcz9_2, hcz9_3, hcz9_4, hcz9_5, hfz9_0, hfz9_1, hfz9_2, hfz9_3, hfz9_4, hfz9_5⟩ := Ke6_ BK304.out))
   repeat (go_quiet (first | (go_at_call 46; (with_reducible refine (tenementref07_Right.calls k a0_0 a0_1 a0_2 a0_3 a0_4 true _ A4.out).mono ?_); rintro e w8 ⟨rfl, hb⟩; replace BK304 := Kb_ BK304 hb; replace HB := Ks_ HB hb; (try clear hb); (try clear hb2); (try clear hk); (try clear hi); obtain ⟨hcz9_0, hcz9_1, hcz9_2, hcz9_3, hcz9_4, hcz9_5, hfz9_0, hfz9_1, hfz9_2, hfz9_3, hfz9_4, hfz9_5⟩ := Ke6_ BK304.out)); try go_wp2_with (first | (go_at_call 46; (with_reducible refine (tenementref07_Right.calls k a0_0 a0_1 a0_2 a0_3 a0_4 true _ A4.out).mono ?_); rintro e w8 ⟨rfl, hb⟩; replace BK304 := Kb_ BK304 hb; replace HB := Ks_ HB hb; (try clear hb); (try clear hb2); (try clear hk); (try clear hi); obtain ⟨hcz9_0, hcz9_1, hcz9_2, hcz9_3, hcz9_4, hcz9_5, hfz9_0, hfz9_1, hfz9_2, hfz9_3, hfz9_4, hfz9_5⟩ := Ke6_ BK304.out)))
   go_meet
   case rel => exact ⟨_, (true), (by first | rfl | (simp; done) | (simp [*]; done)), H', ⟨by first | omega | exact Nat.le_refl _⟩, ⟨by exact Kq_ BK304⟩, ⟨Kz_ HB GE304⟩⟩
  rw [if_neg c6] at H
  have c6b0 : decide ((l0_5.length : Int) < 1) = false := decide_eq_false c6
  have c6b1 : decide (l0_5.length < 1) = false := decide_eq_false (by omega)
  clear c6
  (first | rw [c6b0] | (simp only [i64_w, i32_w]; rw [c6b0]) | skip)
  have H' := Aside0.mk H
  clear H
  obtain ⟨hcz10_0, hcz10_1, hcz10_2, hcz10_3, hcz10_4, hcz10_5, hfz10_0, hfz10_1, hfz10_2, hfz10_3, hfz10_4, hfz10_5⟩ := Ke6_ BK304.out
  go_wp2_with (first | (go_at_call 46; (with_reducible refine (tenementref07_Right.calls k a0_0 a0_1 a0_2 a0_3 a0_4 true _ A4.out).mono ?_); rintro e w11 ⟨rfl, hb⟩; replace BK304 := Kb_ BK304 hb; replace HB := Ks_ HB hb; (try clear hb); (try clear hb2); (try clear hk); (try clear hi); obtain ⟨hcz12_0, hcz12_1, hcz12_2, hcz12_3, hcz12_4, hcz12_5, hfz12_0, hfz12_1, hfz12_2, hfz12_3, hfz12_4, hfz12_5⟩ := Ke6_ BK304.out))
  repeat (go_quiet (first | (go_at_call 46; (with_reducible refine (tenementref07_Right.calls k a0_0 a0_1 a0_2 a0_3 a0_4 true _ A4.out).mono ?_); rintro e w11 ⟨rfl, hb⟩; replace BK304 := Kb_ BK304 hb; replace HB := Ks_ HB hb; (try clear hb); (try clear hb2); (try clear hk); (try clear hi); obtain ⟨hcz12_0, hcz12_1, hcz12_2, hcz12_3, hcz12_4, hcz12_5, hfz12_0, hfz12_1, hfz12_2, hfz12_3, hfz12_4, hfz12_5⟩ := Ke6_ BK304.out)); try go_wp2_with (first | (go_at_call 46; (with_reducible refine (tenementref07_Right.calls k a0_0 a0_1 a0_2 a0_3 a0_4 true _ A4.out).mono ?_); rintro e w11 ⟨rfl, hb⟩; replace BK304 := Kb_ BK304 hb; replace HB := Ks_ HB hb; (try clear hb); (try clear hb2); (try clear hk); (try clear hi); obtain ⟨hcz12_0, hcz12_1, hcz12_2, hcz12_3, hcz12_4, hcz12_5, hfz12_0, hfz12_1, hfz12_2, hfz12_3, hfz12_4, hfz12_5⟩ := Ke6_ BK304.out)))
  go_meet
  case rel => exact ⟨_, (decide ((l0_5.length : Int) > 8)), (by first | rfl | (simp; done) | (simp [*]; done)), H', ⟨by first | omega | exact Nat.le_refl _⟩, ⟨by exact Kq_ BK304⟩, ⟨Kz_ HB GE304⟩⟩
 case rest =>
  clear HC2
  try clear c2
  try clear p2
  try clear c5
  try clear c6
  try clear c6b0
  try clear c6b1
  try clear hcz10_0
  try clear hcz10_1
  try clear hcz10_2
  try clear hcz10_3
  try clear hcz10_4
  try clear hcz10_5
  try clear hcz12_0
  try clear hcz12_1
  try clear hcz12_2
  try clear hcz12_3
  try clear hcz12_4
  try clear hcz12_5
  try clear hcz13_0
  try clear hcz13_1
  try clear hcz13_2
  try clear hcz13_3
  try clear hcz13_4
  try clear hcz13_5
  try clear hcz7_0
  try clear hcz7_1
  try clear hcz7_2
  try clear hcz7_3
  try clear hcz7_4
  try clear hcz7_5
  try clear hcz9_0
  try clear hcz9_1
  try clear hcz9_2
  try clear hcz9_3
  try clear hcz9_4
  try clear hcz9_5
  try clear hfz10_0
  try clear hfz10_1
  try clear hfz10_2
  try clear hfz10_3
  try clear hfz10_4
  try clear hfz10_5
  try clear hfz12_0
  try clear hfz12_1
  try clear hfz12_2
  try clear hfz12_3
  try clear hfz12_4
  try clear hfz12_5
  try clear hfz13_0
  try clear hfz13_1
  try clear hfz13_2
  try clear hfz13_3
  try clear hfz13_4
  try clear hfz13_5
  try clear hfz7_0
  try clear hfz7_1
  try clear hfz7_2
  try clear hfz7_3
  try clear hfz7_4
  try clear hfz7_5
  try clear hfz9_0
  try clear hfz9_1
  try clear hfz9_2
  try clear hfz9_3
  try clear hfz9_4
  try clear hfz9_5
  obtain ⟨kq, x20_1, rfl, HA, HJ1, BK304, HB⟩ := hcut
  cases kq with
  | zero => exact absurd HA.out (by simp [tenementref08_Whole.j0])
  | succ kj1 =>
   have H := HA.out
   clear HA
   simp only [tenementref08_Whole.j0] at H
   by_cases c15 : x20_1 = true
   ·subst c15
    have H1 : (some false) = some r := by rw [if_pos rfl] at H; exact H
    clear H
    have H := H1
    clear H1
    obtain rfl := Option.some.inj H
    go_wp2
    repeat (go_quiet (fail); try go_wp2)
    go_ret
    exact ⟨Kh_, Kz_ HB GE304⟩
   replace c15 := Bool.eq_false_iff.mpr c15
   subst c15
   have H1 : (tenementref08_Whole.l0 kj1 0 a0_0 a0_1 a0_2 a0_3 a0_4 l0_5) = some r := by rw [if_neg (show ¬ (false = true) by decide)] at H; exact H
   clear H
   have H := H1
   clear H1
   have H' := Aside0.mk H
   clear H
   go_wp2
   repeat (go_quiet (fail); try go_wp2)
   go_loopg [3] kj1 (fun kq v3 w' => ∃ (x3_2 : Int), v3 = .int .i64 x3_2 ∧ Aside0 (tenementref08_Whole.l0 kq x3_2 a0_0 a0_1 a0_2 a0_3 a0_4 l0_5 = some r) ∧ Aside0 (kq ≤ kj1) ∧ Aside0 (w'.heap[gb304]? = some (.cells #[.int .u64 a0_0, .int .u64 a0_1, .int .u64 a0_2, .int .u64 a0_3, .int .i64 a0_4, (.slice A0_5 l0_5.length c0_5)] 52 (0, 0))) ∧ Aside0 (Below w.heap.size w w'))
   case atStart => exact ⟨(0), (by first | rfl | (simp; done) | (simp [*]; done)), H', ⟨Nat.le_refl _⟩, ⟨by exact Kq_ BK304⟩, ⟨Kz_ HB GE304⟩⟩
   case round =>
    clear H'
    try clear c1
    try clear c2
    try clear p2
    try clear c5
    try clear c6
    try clear c6b0
    try clear c6b1
    try clear c15
    try clear hcz10_0
    try clear hcz10_1
    try clear hcz10_2
    try clear hcz10_3
    try clear hcz10_4
    try clear hcz10_5
    try clear hcz12_0
    try clear hcz12_1
    try clear hcz12_2
    try clear hcz12_3
    try clear hcz12_4
    try clear hcz12_5
    try clear hcz13_0
    try clear hcz13_1
    try clear hcz13_2
    try clear hcz13_3
    try clear hcz13_4
    try clear hcz13_5
    try clear hcz7_0
    try clear hcz7_1
    try clear hcz7_2
    try clear hcz7_3
    try clear hcz7_4
    try clear hcz7_5
    try clear hcz9_0
    try clear hcz9_1
    try clear hcz9_2
    try clear hcz9_3
    try clear hcz9_4
    try clear hcz9_5
    try clear hfz10_0
    try clear hfz10_1
    try clear hfz10_2
    try clear hfz10_3
    try clear hfz10_4
    try clear hfz10_5
    try clear hfz12_0
    try clear hfz12_1
    try clear hfz12_2
    try clear hfz12_3
    try clear hfz12_4
    try clear hfz12_5
    try clear hfz13_0
    try clear hfz13_1
    try clear hfz13_2
    try clear hfz13_3
    try clear hfz13_4
    try clear hfz13_5
    try clear hfz7_0
    try clear hfz7_1
    try clear hfz7_2
    try clear hfz7_3
    try clear hfz7_4
    try clear hfz7_5
    try clear hfz9_0
    try clear hfz9_1
    try clear hfz9_2
    try clear hfz9_3
    try clear hfz9_4
    try clear hfz9_5
    try clear p2
    obtain ⟨x3_2, rfl, HA, HK2, BK304, HB⟩ := hrel
    cases gk with
    | zero => exact absurd HA.out (by simp [tenementref08_Whole.l0])
    | succ k2 =>
     have H := HA.out
     clear HA
     simp only [tenementref08_Whole.l0] at H
     by_cases c16 : x3_2 < (l0_5.length : Int)
     rotate_left
     ·rw [if_neg c16] at H
      have c16b0 : decide (x3_2 < (l0_5.length : Int)) = false := decide_eq_false c16
      clear c16
      obtain rfl := Option.some.inj H
      obtain ⟨hcz34_0, hcz34_1, hcz34_2, hcz34_3, hcz34_4, hcz34_5, hfz34_0, hfz34_1, hfz34_2, hfz34_3, hfz34_4, hfz34_5⟩ := Ke6_ BK304.out
      go_wp2
      repeat (go_quiet (fail); try go_wp2)
      go_ret
      exact ⟨Kh_, Kz_ HB GE304⟩
     rw [if_pos c16] at H
     have c16b0 : decide (x3_2 < (l0_5.length : Int)) = true := decide_eq_true c16
     clear c16
     by_cases c17 : 0 ≤ x3_2
     rotate_left
     ·rw [if_neg c17] at H
      exact absurd H (by simp)
     rw [if_pos c17] at H
     have c17b0 : decide (0 ≤ x3_2) = true := decide_eq_true c17
     clear c17
     replace H := Option.bind_eq_some_iff.mp H
     obtain ⟨t307, A180, H⟩ := H
     replace H : (if t307 = true then (tenementref08_Whole.l1 k2 x3_2 0 a0_0 a0_1 a0_2 a0_3 a0_4 l0_5) else (some false)) = some r := H
     have A18 := Aside0.mk A180
     clear A180
     by_cases c19 : t307 = true
     rotate_left
     ·replace c19 := Bool.eq_false_iff.mpr c19
      subst c19
      have H1 : (some false) = some r := by rw [if_neg (show ¬ (false = true) by decide)] at H; exact H
      clear H
      have H := H1
      clear H1
      obtain rfl := Option.some.inj H
      obtain ⟨hcz32_0, hcz32_1, hcz32_2, hcz32_3, hcz32_4, hcz32_5, hfz32_0, hfz32_1, hfz32_2, hfz32_3, hfz32_4, hfz32_5⟩ := Ke6_ BK304.out
      have p306 : 0 ≤ (x3_2 : Int) := of_decide_eq_true (by first | (with_reducible assumption) | assumption)
      have q306 : x3_2 < (l0_5.length : Int) := of_decide_eq_true (by first | (with_reducible assumption) | assumption)
      obtain ⟨ad306, e306, hx306_0, hx306_1, hx306_2, hx306_3⟩ := at_T38 HR0_5.out x3_2 p306 q306
      cases e306
      replace hx306_0 := (HB.out.cell (World.block_lt_of_cell? w _ hx306_0)).trans hx306_0
      replace hx306_1 := (HB.out.cell (World.block_lt_of_cell? w _ hx306_1)).trans hx306_1
      replace hx306_2 := (HB.out.cell (World.block_lt_of_cell? w _ hx306_2)).trans hx306_2
      replace hx306_3 := (HB.out.cell (World.block_lt_of_cell? w _ hx306_3)).trans hx306_3
      replace p306 := eq_true p306
      replace q306 := eq_true q306
      go_wp2_with (first | (go_at_call 19; (with_reducible refine (tenementref08_Right.calls ((rd_T38 l0_5 x3_2).f0) ((rd_T38 l0_5 x3_2).f1) ((rd_T38 l0_5 x3_2).f2) ((rd_T38 l0_5 x3_2).f3) false _ A18.out).mono ?_); rintro e w33 ⟨rfl, hb⟩; replace BK304 := Kb_ BK304 hb; replace HB := Ks_ HB hb; (try clear hb); (try clear hb2); (try clear hk); (try clear hi)))
      repeat (go_quiet (first | (go_at_call 19; (with_reducible refine (tenementref08_Right.calls ((rd_T38 l0_5 x3_2).f0) ((rd_T38 l0_5 x3_2).f1) ((rd_T38 l0_5 x3_2).f2) ((rd_T38 l0_5 x3_2).f3) false _ A18.out).mono ?_); rintro e w33 ⟨rfl, hb⟩; replace BK304 := Kb_ BK304 hb; replace HB := Ks_ HB hb; (try clear hb); (try clear hb2); (try clear hk); (try clear hi))); try go_wp2_with (first | (go_at_call 19; (with_reducible refine (tenementref08_Right.calls ((rd_T38 l0_5 x3_2).f0) ((rd_T38 l0_5 x3_2).f1) ((rd_T38 l0_5 x3_2).f2) ((rd_T38 l0_5 x3_2).f3) false _ A18.out).mono ?_); rintro e w33 ⟨rfl, hb⟩; replace BK304 := Kb_ BK304 hb; replace HB := Ks_ HB hb; (try clear hb); (try clear hb2); (try clear hk); (try clear hi))))
      go_ret
      exact ⟨Kh_, Kz_ HB GE304⟩
     subst c19
     have H1 : (tenementref08_Whole.l1 k2 x3_2 0 a0_0 a0_1 a0_2 a0_3 a0_4 l0_5) = some r := by rw [if_pos rfl] at H; exact H
     clear H
     have H := H1
     clear H1
     have H' := Aside0.mk H
     clear H
     obtain ⟨hcz20_0, hcz20_1, hcz20_2, hcz20_3, hcz20_4, hcz20_5, hfz20_0, hfz20_1, hfz20_2, hfz20_3, hfz20_4, hfz20_5⟩ := Ke6_ BK304.out
     have p306 : 0 ≤ (x3_2 : Int) := of_decide_eq_true (by first | (with_reducible assumption) | assumption)
     have q306 : x3_2 < (l0_5.length : Int) := of_decide_eq_true (by first | (with_reducible assumption) | assumption)
     obtain ⟨ad306, e306, hx306_0, hx306_1, hx306_2, hx306_3⟩ := at_T38 HR0_5.out x3_2 p306 q306
     cases e306
     replace hx306_0 := (HB.out.cell (World.block_lt_of_cell? w _ hx306_0)).trans hx306_0
     replace hx306_1 := (HB.out.cell (World.block_lt_of_cell? w _ hx306_1)).trans hx306_1
     replace hx306_2 := (HB.out.cell (World.block_lt_of_cell? w _ hx306_2)).trans hx306_2
     replace hx306_3 := (HB.out.cell (World.block_lt_of_cell? w _ hx306_3)).trans hx306_3
     replace p306 := eq_true p306
     replace q306 := eq_true q306
     go_wp2_with (first | (go_at_call 19; (with_reducible refine (tenementref08_Right.calls ((rd_T38 l0_5 x3_2).f0) ((rd_T38 l0_5 x3_2).f1) ((rd_T38 l0_5 x3_2).f2) ((rd_T38 l0_5 x3_2).f3) true _ A18.out).mono ?_); rintro e w21 ⟨rfl, hb⟩; replace BK304 := Kb_ BK304 hb; replace HB := Ks_ HB hb; (try clear hb); (try clear hb2); (try clear hk); (try clear hi)))
     repeat (go_quiet (first | (go_at_call 19; (with_reducible refine (tenementref08_Right.calls ((rd_T38 l0_5 x3_2).f0) ((rd_T38 l0_5 x3_2).f1) ((rd_T38 l0_5 x3_2).f2) ((rd_T38 l0_5 x3_2).f3) true _ A18.out).mono ?_); rintro e w21 ⟨rfl, hb⟩; replace BK304 := Kb_ BK304 hb; replace HB := Ks_ HB hb; (try clear hb); (try clear hb2); (try clear hk); (try clear hi))); try go_wp2_with (first | (go_at_call 19; (with_reducible refine (tenementref08_Right.calls ((rd_T38 l0_5 x3_2).f0) ((rd_T38 l0_5 x3_2).f1) ((rd_T38 l0_5 x3_2).f2) ((rd_T38 l0_5 x3_2).f3) true _ A18.out).mono ?_); rintro e w21 ⟨rfl, hb⟩; replace BK304 := Kb_ BK304 hb; replace HB := Ks_ HB hb; (try clear hb); (try clear hb2); (try clear hk); (try clear hi))))
     go_loopg [4] k2 (fun kq v4 w' => ∃ (x4_3 : Int), v4 = .int .i64 x4_3 ∧ Aside0 (tenementref08_Whole.l1 kq x3_2 x4_3 a0_0 a0_1 a0_2 a0_3 a0_4 l0_5 = some r) ∧ Aside0 (kq ≤ k2) ∧ Aside0 (w'.heap[gb304]? = some (.cells #[.int .u64 a0_0, .int .u64 a0_1, .int .u64 a0_2, .int .u64 a0_3, .int .i64 a0_4, (.slice (some ad306) l0_5.length c0_5)] 52 (0, 0))) ∧ Aside0 (Below w.heap.size w w'))
     case atStart => exact ⟨(0), (by first | rfl | (simp; done) | (simp [*]; done)), H', ⟨Nat.le_refl _⟩, ⟨by exact Kq_ BK304⟩, ⟨Kz_ HB GE304⟩⟩
     case round =>
      clear H'
      try clear c1
      try clear c2
      try clear p2
      try clear p3
      try clear q3
      try clear hx3
      try clear c5
      try clear c6
      try clear c6b0
      try clear c6b1
      try clear c15
      try clear c16
      try clear c16b0
      try clear c17
      try clear c17b0
      try clear c19
      try clear hcz10_0
      try clear hcz10_1
      try clear hcz10_2
      try clear hcz10_3
      try clear hcz10_4
      try clear hcz10_5
      try clear hcz12_0
      try clear hcz12_1
      try clear hcz12_2
      try clear hcz12_3
      try clear hcz12_4
      try clear hcz12_5
      try clear hcz13_0
      try clear hcz13_1
      try clear hcz13_2
      try clear hcz13_3
      try clear hcz13_4
      try clear hcz13_5
      try clear hcz20_0
      try clear hcz20_1
      try clear hcz20_2
      try clear hcz20_3
      try clear hcz20_4
      try clear hcz20_5
      try clear hcz7_0
      try clear hcz7_1
      try clear hcz7_2
      try clear hcz7_3
      try clear hcz7_4
      try clear hcz7_5
      try clear hcz9_0
      try clear hcz9_1
      try clear hcz9_2
      try clear hcz9_3
      try clear hcz9_4
      try clear hcz9_5
      try clear hfz10_0
      try clear hfz10_1
      try clear hfz10_2
      try clear hfz10_3
      try clear hfz10_4
      try clear hfz10_5
      try clear hfz12_0
      try clear hfz12_1
      try clear hfz12_2
      try clear hfz12_3
      try clear hfz12_4
      try clear hfz12_5
      try clear hfz13_0
      try clear hfz13_1
      try clear hfz13_2
      try clear hfz13_3
      try clear hfz13_4
      try clear hfz13_5
      try clear hfz20_0
      try clear hfz20_1
      try clear hfz20_2
      try clear hfz20_3
      try clear hfz20_4
      try clear hfz20_5
      try clear hfz7_0
      try clear hfz7_1
      try clear hfz7_2
      try clear hfz7_3
      try clear hfz7_4
      try clear hfz7_5
      try clear hfz9_0
      try clear hfz9_1
      try clear hfz9_2
      try clear hfz9_3
      try clear hfz9_4
      try clear hfz9_5
      try clear hx306_0
      try clear hx306_1
      try clear hx306_2
      try clear hx306_3
      try clear p2
      try clear p306
      try clear q306
      obtain ⟨x4_3, rfl, HA, HK3, BK304, HB⟩ := hrel
      cases gk with
      | zero => exact absurd HA.out (by simp [tenementref08_Whole.l1])
      | succ k3 =>
       have H := HA.out
       clear HA
       simp only [tenementref08_Whole.l1] at H
       by_cases c22 : x4_3 < x3_2
       rotate_left
       ·rw [if_neg c22] at H
        have c22b0 : decide (x4_3 < x3_2) = false := decide_eq_false c22
        clear c22
        have H' := Aside0.mk H
        clear H
        go_wp2
        repeat (go_quiet (fail); try go_wp2)
        go_roundg k3
        case measure => have := HJ1.out; have := HK2.out; have := HK3.out; omega
        case rel => exact ⟨(wrap64 (x3_2 + 1)), (by first | rfl | (simp; done) | (simp [*]; done)), H', ⟨by have := HJ1.out; have := HK2.out; have := HK3.out; omega⟩, ⟨by exact Kq_ BK304⟩, ⟨Kz_ HB GE304⟩⟩
       rw [if_pos c22] at H
       have c22b0 : decide (x4_3 < x3_2) = true := decide_eq_true c22
       clear c22
       by_cases c23 : 0 ≤ x4_3
       rotate_left
       ·rw [if_neg c23] at H
        exact absurd H (by simp)
       rw [if_pos c23] at H
       have c23b0 : decide (0 ≤ x4_3) = true := decide_eq_true c23
       clear c23
       by_cases c24 : x4_3 < (l0_5.length : Int)
       rotate_left
       ·rw [if_neg c24] at H
        exact absurd H (by simp)
       rw [if_pos c24] at H
       have c24b0 : decide (x4_3 < (l0_5.length : Int)) = true := decide_eq_true c24
       clear c24
       by_cases c25 : 0 ≤ x3_2
       rotate_left
       ·rw [if_neg c25] at H
        exact absurd H (by simp)
       rw [if_pos c25] at H
       have c25b0 : decide (0 ≤ x3_2) = true := decide_eq_true c25
       clear c25
       by_cases c26 : x3_2 < (l0_5.length : Int)
       rotate_left
       ·rw [if_neg c26] at H
        exact absurd H (by simp)
       rw [if_pos c26] at H
       have c26b0 : decide (x3_2 < (l0_5.length : Int)) = true := decide_eq_true c26
       clear c26
       by_cases c27 : ((rd_T38 l0_5 x4_3).f0).toList = ((rd_T38 l0_5 x3_2).f0).toList
       rotate_left
       ·rw [if_neg c27] at H
        have c27b0 : (((rd_T38 l0_5 x4_3).f0).toList == ((rd_T38 l0_5 x3_2).f0).toList) = false := beq_eq_false_iff_ne.mpr c27
        have c27b1 : (((rd_T38 l0_5 x4_3).f0).toList != ((rd_T38 l0_5 x3_2).f0).toList) = true := bne_iff_ne.mpr c27
        have H' := Aside0.mk H
        clear H
        obtain ⟨hcz31_0, hcz31_1, hcz31_2, hcz31_3, hcz31_4, hcz31_5, hfz31_0, hfz31_1, hfz31_2, hfz31_3, hfz31_4, hfz31_5⟩ := Ke6_ BK304.out
        have p308 : 0 ≤ (x4_3 : Int) := of_decide_eq_true (by first | (with_reducible assumption) | assumption)
        have q308 : x4_3 < (l0_5.length : Int) := of_decide_eq_true (by first | (with_reducible assumption) | assumption)
        obtain ⟨ad308, e308, hx308_0, hx308_1, hx308_2, hx308_3⟩ := at_T38 HR0_5.out x4_3 p308 q308
        obtain rfl : ad306 = ad308 := (by injection e308)
        replace hx308_0 := (HB.out.cell (World.block_lt_of_cell? w _ hx308_0)).trans hx308_0
        replace hx308_1 := (HB.out.cell (World.block_lt_of_cell? w _ hx308_1)).trans hx308_1
        replace hx308_2 := (HB.out.cell (World.block_lt_of_cell? w _ hx308_2)).trans hx308_2
        replace hx308_3 := (HB.out.cell (World.block_lt_of_cell? w _ hx308_3)).trans hx308_3
        replace p308 := eq_true p308
        replace q308 := eq_true q308
        have p309 : 0 ≤ (x3_2 : Int) := of_decide_eq_true (by first | (with_reducible assumption) | assumption)
        have q309 : x3_2 < (l0_5.length : Int) := of_decide_eq_true (by first | (with_reducible assumption) | assumption)
        obtain ⟨ad309, e309, hx309_0, hx309_1, hx309_2, hx309_3⟩ := at_T38 HR0_5.out x3_2 p309 q309
        obtain rfl : ad306 = ad309 := (by injection e309)
        replace hx309_0 := (HB.out.cell (World.block_lt_of_cell? w _ hx309_0)).trans hx309_0
        replace hx309_1 := (HB.out.cell (World.block_lt_of_cell? w _ hx309_1)).trans hx309_1
        replace hx309_2 := (HB.out.cell (World.block_lt_of_cell? w _ hx309_2)).trans hx309_2
        replace hx309_3 := (HB.out.cell (World.block_lt_of_cell? w _ hx309_3)).trans hx309_3
        replace p309 := eq_true p309
        replace q309 := eq_true q309
        go_wp2
        repeat (go_quiet (fail); try go_wp2)
        go_roundg k3
        case measure => have := HJ1.out; have := HK2.out; have := HK3.out; omega
        case rel => exact ⟨(wrap64 (x4_3 + 1)), (by first | rfl | (simp; done) | (simp [*]; done)), H', ⟨by have := HJ1.out; have := HK2.out; have := HK3.out; omega⟩, ⟨by exact Kq_ BK304⟩, ⟨Kz_ HB GE304⟩⟩
       rw [if_pos c27] at H
       have c27b0 : (((rd_T38 l0_5 x4_3).f0).toList == ((rd_T38 l0_5 x3_2).f0).toList) = true := beq_iff_eq.mpr c27
       have c27b1 : (((rd_T38 l0_5 x4_3).f0).toList != ((rd_T38 l0_5 x3_2).f0).toList) = false := bne_eq_false_iff_eq.mpr c27
       clear c27
       by_cases c28 : ((rd_T38 l0_5 x4_3).f1).toList = ((rd_T38 l0_5 x3_2).f1).toList
       ·rw [if_pos c28] at H
        have c28b0 : (((rd_T38 l0_5 x4_3).f1).toList == ((rd_T38 l0_5 x3_2).f1).toList) = true := beq_iff_eq.mpr c28
        have c28b1 : (((rd_T38 l0_5 x4_3).f1).toList != ((rd_T38 l0_5 x3_2).f1).toList) = false := bne_eq_false_iff_eq.mpr c28
        clear c28
        obtain rfl := Option.some.inj H
        obtain ⟨hcz29_0, hcz29_1, hcz29_2, hcz29_3, hcz29_4, hcz29_5, hfz29_0, hfz29_1, hfz29_2, hfz29_3, hfz29_4, hfz29_5⟩ := Ke6_ BK304.out
        have p308 : 0 ≤ (x4_3 : Int) := of_decide_eq_true (by first | (with_reducible assumption) | assumption)
        have q308 : x4_3 < (l0_5.length : Int) := of_decide_eq_true (by first | (with_reducible assumption) | assumption)
        obtain ⟨ad308, e308, hx308_0, hx308_1, hx308_2, hx308_3⟩ := at_T38 HR0_5.out x4_3 p308 q308
        obtain rfl : ad306 = ad308 := (by injection e308)
        replace hx308_0 := (HB.out.cell (World.block_lt_of_cell? w _ hx308_0)).trans hx308_0
        replace hx308_1 := (HB.out.cell (World.block_lt_of_cell? w _ hx308_1)).trans hx308_1
        replace hx308_2 := (HB.out.cell (World.block_lt_of_cell? w _ hx308_2)).trans hx308_2
        replace hx308_3 := (HB.out.cell (World.block_lt_of_cell? w _ hx308_3)).trans hx308_3
        replace p308 := eq_true p308
        replace q308 := eq_true q308
        have p309 : 0 ≤ (x3_2 : Int) := of_decide_eq_true (by first | (with_reducible assumption) | assumption)
        have q309 : x3_2 < (l0_5.length : Int) := of_decide_eq_true (by first | (with_reducible assumption) | assumption)
        obtain ⟨ad309, e309, hx309_0, hx309_1, hx309_2, hx309_3⟩ := at_T38 HR0_5.out x3_2 p309 q309
        obtain rfl : ad306 = ad309 := (by injection e309)
        replace hx309_0 := (HB.out.cell (World.block_lt_of_cell? w _ hx309_0)).trans hx309_0
        replace hx309_1 := (HB.out.cell (World.block_lt_of_cell? w _ hx309_1)).trans hx309_1
        replace hx309_2 := (HB.out.cell (World.block_lt_of_cell? w _ hx309_2)).trans hx309_2
        replace hx309_3 := (HB.out.cell (World.block_lt_of_cell? w _ hx309_3)).trans hx309_3
        replace p309 := eq_true p309
        replace q309 := eq_true q309
        have p310 : 0 ≤ (x4_3 : Int) := of_decide_eq_true (by first | (with_reducible assumption) | assumption)
        have q310 : x4_3 < (l0_5.length : Int) := of_decide_eq_true (by first | (with_reducible assumption) | assumption)
        obtain ⟨ad310, e310, hx310_0, hx310_1, hx310_2, hx310_3⟩ := at_T38 HR0_5.out x4_3 p310 q310
        obtain rfl : ad306 = ad310 := (by injection e310)
        replace hx310_0 := (HB.out.cell (World.block_lt_of_cell? w _ hx310_0)).trans hx310_0
        replace hx310_1 := (HB.out.cell (World.block_lt_of_cell? w _ hx310_1)).trans hx310_1
        replace hx310_2 := (HB.out.cell (World.block_lt_of_cell? w _ hx310_2)).trans hx310_2
        replace hx310_3 := (HB.out.cell (World.block_lt_of_cell? w _ hx310_3)).trans hx310_3
        replace p310 := eq_true p310
        replace q310 := eq_true q310
        have p311 : 0 ≤ (x3_2 : Int) := of_decide_eq_true (by first | (with_reducible assumption) | assumption)
        have q311 : x3_2 < (l0_5.length : Int) := of_decide_eq_true (by first | (with_reducible assumption) | assumption)
        obtain ⟨ad311, e311, hx311_0, hx311_1, hx311_2, hx311_3⟩ := at_T38 HR0_5.out x3_2 p311 q311
        obtain rfl : ad306 = ad311 := (by injection e311)
        replace hx311_0 := (HB.out.cell (World.block_lt_of_cell? w _ hx311_0)).trans hx311_0
        replace hx311_1 := (HB.out.cell (World.block_lt_of_cell? w _ hx311_1)).trans hx311_1
        replace hx311_2 := (HB.out.cell (World.block_lt_of_cell? w _ hx311_2)).trans hx311_2
        replace hx311_3 := (HB.out.cell (World.block_lt_of_cell? w _ hx311_3)).trans hx311_3
        replace p311 := eq_true p311
        replace q311 := eq_true q311
        go_wp2
        repeat (go_quiet (fail); try go_wp2)
        go_ret
        exact ⟨Kh_, Kz_ HB GE304⟩
       rw [if_neg c28] at H
       have c28b0 : (((rd_T38 l0_5 x4_3).f1).toList == ((rd_T38 l0_5 x3_2).f1).toList) = false := beq_eq_false_iff_ne.mpr c28
       have c28b1 : (((rd_T38 l0_5 x4_3).f1).toList != ((rd_T38 l0_5 x3_2).f1).toList) = true := bne_iff_ne.mpr c28
       have H' := Aside0.mk H
       clear H
       obtain ⟨hcz30_0, hcz30_1, hcz30_2, hcz30_3, hcz30_4, hcz30_5, hfz30_0, hfz30_1, hfz30_2, hfz30_3, hfz30_4, hfz30_5⟩ := Ke6_ BK304.out
       have p308 : 0 ≤ (x4_3 : Int) := of_decide_eq_true (by first | (with_reducible assumption) | assumption)
       have q308 : x4_3 < (l0_5.length : Int) := of_decide_eq_true (by first | (with_reducible assumption) | assumption)
       obtain ⟨ad308, e308, hx308_0, hx308_1, hx308_2, hx308_3⟩ := at_T38 HR0_5.out x4_3 p308 q308
       obtain rfl : ad306 = ad308 := (by injection e308)
       replace hx308_0 := (HB.out.cell (World.block_lt_of_cell? w _ hx308_0)).trans hx308_0
       replace hx308_1 := (HB.out.cell (World.block_lt_of_cell? w _ hx308_1)).trans hx308_1
       replace hx308_2 := (HB.out.cell (World.block_lt_of_cell? w _ hx308_2)).trans hx308_2
       replace hx308_3 := (HB.out.cell (World.block_lt_of_cell? w _ hx308_3)).trans hx308_3
       replace p308 := eq_true p308
       replace q308 := eq_true q308
       have p309 : 0 ≤ (x3_2 : Int) := of_decide_eq_true (by first | (with_reducible assumption) | assumption)
       have q309 : x3_2 < (l0_5.length : Int) := of_decide_eq_true (by first | (with_reducible assumption) | assumption)
       obtain ⟨ad309, e309, hx309_0, hx309_1, hx309_2, hx309_3⟩ := at_T38 HR0_5.out x3_2 p309 q309
       obtain rfl : ad306 = ad309 := (by injection e309)
       replace hx309_0 := (HB.out.cell (World.block_lt_of_cell? w _ hx309_0)).trans hx309_0
       replace hx309_1 := (HB.out.cell (World.block_lt_of_cell? w _ hx309_1)).trans hx309_1
       replace hx309_2 := (HB.out.cell (World.block_lt_of_cell? w _ hx309_2)).trans hx309_2
       replace hx309_3 := (HB.out.cell (World.block_lt_of_cell? w _ hx309_3)).trans hx309_3
       replace p309 := eq_true p309
       replace q309 := eq_true q309
       have p310 : 0 ≤ (x4_3 : Int) := of_decide_eq_true (by first | (with_reducible assumption) | assumption)
       have q310 : x4_3 < (l0_5.length : Int) := of_decide_eq_true (by first | (with_reducible assumption) | assumption)
       obtain ⟨ad310, e310, hx310_0, hx310_1, hx310_2, hx310_3⟩ := at_T38 HR0_5.out x4_3 p310 q310
       obtain rfl : ad306 = ad310 := (by injection e310)
       replace hx310_0 := (HB.out.cell (World.block_lt_of_cell? w _ hx310_0)).trans hx310_0
       replace hx310_1 := (HB.out.cell (World.block_lt_of_cell? w _ hx310_1)).trans hx310_1
       replace hx310_2 := (HB.out.cell (World.block_lt_of_cell? w _ hx310_2)).trans hx310_2
       replace hx310_3 := (HB.out.cell (World.block_lt_of_cell? w _ hx310_3)).trans hx310_3
       replace p310 := eq_true p310
       replace q310 := eq_true q310
       have p311 : 0 ≤ (x3_2 : Int) := of_decide_eq_true (by first | (with_reducible assumption) | assumption)
       have q311 : x3_2 < (l0_5.length : Int) := of_decide_eq_true (by first | (with_reducible assumption) | assumption)
       obtain ⟨ad311, e311, hx311_0, hx311_1, hx311_2, hx311_3⟩ := at_T38 HR0_5.out x3_2 p311 q311
       obtain rfl : ad306 = ad311 := (by injection e311)
       replace hx311_0 := (HB.out.cell (World.block_lt_of_cell? w _ hx311_0)).trans hx311_0
       replace hx311_1 := (HB.out.cell (World.block_lt_of_cell? w _ hx311_1)).trans hx311_1
       replace hx311_2 := (HB.out.cell (World.block_lt_of_cell? w _ hx311_2)).trans hx311_2
       replace hx311_3 := (HB.out.cell (World.block_lt_of_cell? w _ hx311_3)).trans hx311_3
       replace p311 := eq_true p311
       replace q311 := eq_true q311
       go_wp2
       repeat (go_quiet (fail); try go_wp2)
       go_roundg k3
       case measure => have := HJ1.out; have := HK2.out; have := HK3.out; omega
       case rel => exact ⟨(wrap64 (x4_3 + 1)), (by first | rfl | (simp; done) | (simp [*]; done)), H', ⟨by have := HJ1.out; have := HK2.out; have := HK3.out; omega⟩, ⟨by exact Kq_ BK304⟩, ⟨Kz_ HB GE304⟩⟩
mutual
def tenementref02_Number.j0 : Nat → Int → Int → Bool → Option (ByteArray)
 | 0, _, _, _ => none
 | k + 1, x0, x1, x12 => if x12 = true then (some (⟨#[]⟩ : ByteArray)) else (tenementref02_Number.l0 k x0 ([] : List Int) (wrap64 (x1 - 1)))
def tenementref02_Number.l0 : Nat → Int → List Int → Int → Option (ByteArray)
 | 0, _, _, _ => none
 | k + 1, x0, x5, x6 => if x6 ≥ 0 then (if 0 ≤ (wrap64 (8 * x6)) then (if x5.length < 140737488355328 then (tenementref02_Number.l0 k x0 (x5 ++ [(shr .u64 x0 (wrap64 (8 * x6))) % 256]) (wrap64 (x6 - 1))) else (none)) else (none)) else (some (strOfNums x5))
end
def tenementref02_Number.f (k : Nat) (a0 : Int) (a1 : Int) : Option (ByteArray) := if a1 < 1 then (tenementref02_Number.j0 k a0 a1 true) else (tenementref02_Number.j0 k a0 a1 (decide (a1 > 8)))
set_option maxHeartbeats 8000000 in
set_option maxRecDepth 100000 in
theorem tenementref02_Number.calls (k : Nat) (a0 : Int) (a1 : Int) (r : ByteArray) (w : World) (h : tenementref02_Number.f k a0 a1 = some r) :
  Calls Try.prog 39 #[.int .u64 a0, .int .i64 a1] w fun e w' => e = .returned (.string r) ∧ Below w.heap.size w w' := by
 have HB := Aside0.mk (Below.refl w.heap.size w)
 have H : (if a1 < 1 then (tenementref02_Number.j0 k a0 a1 true) else (tenementref02_Number.j0 k a0 a1 (decide (a1 > 8)))) = some r := h
 clear h
 have HC3 := Aside0.mk H
 clear H
 go_enter Try.func39, Try.ntmps39
 go_upto_region 1 with (fail)
 go_cut [12] (fun v12 wc => ∃ (kq : Nat) (x12_2 : Bool), v12 = .bool x12_2 ∧ Aside0 (tenementref02_Number.j0 kq a0 a1 x12_2 = some r) ∧ Aside0 (kq ≤ k) ∧ Aside0 (Below w.heap.size w wc))
 case first =>
  have H := HC3.out
  clear HC3
  by_cases c4 : a1 < 1
  ·rw [if_pos c4] at H
   have c4b0 : decide (a1 < 1) = true := decide_eq_true c4
   clear c4
   (first | rw [c4b0] | (simp only [i64_w, i32_w]; rw [c4b0]) | skip)
   have H' := Aside0.mk H
   clear H
   go_wp2
   go_meet
   case rel => exact ⟨_, (true), (by first | rfl | (simp; done) | (simp [*]; done)), H', ⟨by first | omega | exact Nat.le_refl _⟩, ⟨Ky_ HB⟩⟩
  rw [if_neg c4] at H
  have c4b0 : decide (a1 < 1) = false := decide_eq_false c4
  clear c4
  (first | rw [c4b0] | (simp only [i64_w, i32_w]; rw [c4b0]) | skip)
  have H' := Aside0.mk H
  clear H
  go_wp2
  go_meet
  case rel => exact ⟨_, (decide (a1 > 8)), (by first | rfl | (simp; done) | (simp [*]; done)), H', ⟨by first | omega | exact Nat.le_refl _⟩, ⟨Ky_ HB⟩⟩
 case rest =>
  clear HC3
  try clear p2
  try clear c3
  try clear c4
  try clear c4b0
  obtain ⟨kq, x12_2, rfl, HA, HJ2, HB⟩ := hcut
  cases kq with
  | zero => exact absurd HA.out (by simp [tenementref02_Number.j0])
  | succ kj2 =>
   have H := HA.out
   clear HA
   simp only [tenementref02_Number.j0] at H
   by_cases c5 : x12_2 = true
   ·subst c5
    have H1 : (some (⟨#[]⟩ : ByteArray)) = some r := by rw [if_pos rfl] at H; exact H
    clear H
    have H := H1
    clear H1
    obtain rfl := Option.some.inj H
    go_wp2
    go_ret
    exact ⟨Kh_, Ky_ HB⟩
   replace c5 := Bool.eq_false_iff.mpr c5
   subst c5
   have H1 : (tenementref02_Number.l0 kj2 a0 ([] : List Int) (wrap64 (a1 - 1))) = some r := by rw [if_neg (show ¬ (false = true) by decide)] at H; exact H
   clear H
   have H := H1
   clear H1
   have H' := Aside0.mk H
   clear H
   go_wp2
   go_loopg [5, 6] kj2 (fun kq v5 v6 w' => ∃ (x5_2 : List Int) (x6_2 : Int), v6 = .int .i64 x6_2 ∧ Aside0 (tenementref02_Number.l0 kq a0 x5_2 x6_2 = some r) ∧ Aside0 (kq ≤ kj2) ∧ Aside0 (Kd.R (Kd.int .u8) 5 w' w.heap.size (fun _ => True) v5 x5_2) ∧ Aside0 (Below w.heap.size w w'))
   case atStart => exact ⟨(([] : List Int)), (wrap64 (a1 - 1)), (by first | rfl | (simp; done) | (simp [*]; done)), H', ⟨Nat.le_refl _⟩, ⟨by first | exact Kd.R_nil _ _ _ _ _ | exact Kd.N_nil _ _ _ _ _ | exact Kd.V_nil _ _ _ _ _ | exact Kd.Q_nil _ _ _ _ _ | exact Kd.S_nil _ _ _ _ _⟩, ⟨Ky_ HB⟩⟩
   case round =>
    clear H'
    try clear p2
    try clear c3
    try clear c4
    try clear c4b0
    try clear c5
    try clear p2
    obtain ⟨x5_2, x6_2, rfl, HA, HK2, HO_5, HB⟩ := hrel
    cases gk with
    | zero => exact absurd HA.out (by simp [tenementref02_Number.l0])
    | succ k2 =>
     have H := HA.out
     clear HA
     simp only [tenementref02_Number.l0] at H
     by_cases c6 : x6_2 ≥ 0
     rotate_left
     ·rw [if_neg c6] at H
      have c6b0 : decide (0 ≤ x6_2) = false := decide_eq_false c6
      clear c6
      obtain rfl := Option.some.inj H
      have hcv12 := own_string (P := Try.prog) Try.underlying76 Try.underlying5 Try.underlying9 (Kd.own_of_R HO_5.out)
      go_wp2
      go_ret
      exact ⟨Kh_, Ky_ HB⟩
     rw [if_pos c6] at H
     have c6b0 : decide (0 ≤ x6_2) = true := decide_eq_true c6
     clear c6
     obtain ⟨ji7, hji7⟩ : ∃ j_ : Int, (wrap64 (8 * x6_2)) = j_ := ⟨_, rfl⟩
     replace H : (if 0 ≤ (ji7) then (if x5_2.length < 140737488355328 then (tenementref02_Number.l0 k2 a0 (x5_2 ++ [(shr .u64 a0 (ji7)) % 256]) (wrap64 (x6_2 - 1))) else (none)) else (none)) = some r := by first | (rw [hji7] at H; exact H) | (simp only [hji7] at H ⊢; exact H)
     have hji7w : (IntKind.i64.wrap (8 * x6_2)) = ji7 := (i64_w _).trans hji7
     by_cases c8 : 0 ≤ (ji7)
     rotate_left
     ·rw [if_neg c8] at H
      exact absurd H (by simp)
     rw [if_pos c8] at H
     have c8b0 := eq_true c8
     have c8b1 : decide (0 ≤ (ji7)) = true := decide_eq_true c8
     clear c8
     obtain ⟨ji9, hji9⟩ : ∃ j_ : Int, (shr .u64 a0 (ji7)) = j_ := ⟨_, rfl⟩
     replace H : (if x5_2.length < 140737488355328 then (tenementref02_Number.l0 k2 a0 (x5_2 ++ [(ji9) % 256]) (wrap64 (x6_2 - 1))) else (none)) = some r := by first | (rw [hji9] at H; exact H) | (simp only [hji9] at H ⊢; exact H)
     have hji9_ : (a0 / 2 ^ min (ji7).toNat 64) = ji9 := hji9
     have hji9z : (ji7) ≤ 64 → (a0 / 2 ^ (ji7).toNat) = ji9 := shr_small hji9
     by_cases c10 : x5_2.length < 140737488355328
     rotate_left
     ·rw [if_neg c10] at H
      exact absurd H (by simp)
     rw [if_pos c10] at H
     have LMc10 := Aside0.mk c10
     clear c10
     obtain ⟨y312, hy312⟩ : ∃ y_ : List Int, y_ = (x5_2 ++ [(ji9) % 256]) := ⟨_, rfl⟩
     replace H : (tenementref02_Number.l0 k2 a0 y312 (wrap64 (x6_2 - 1))) = some r := by first | (rw [hy312]; with_reducible exact H) | (have H2_ := (Option.bind_some _ _).symm.trans H; rw [hy312]; with_reducible exact H2_) | (have H2_ := (Option.bind_some _ _).symm.trans H; with_reducible exact H2_) | with_reducible exact H | (rw [hy312]; exact H) | exact H
     have Ny312 := Aside0.mk hy312
     clear hy312
     have H' := Aside0.mk H
     clear H
     go_wp2_with (first | ((with_reducible refine gate_builtin (b := .append) (xs := #[.tmp 19, .tmp 25]) rfl ?_); at_builtin; refine Kd.R_append (Kd.int .u8) (w0 := w) w.heap.size rfl (.tmp 19) (.tmp 25) 76 5 (.int .u8 0) 1 rfl Try.underlying76 info5 rfl (by decide) (by omega) u5 x5_2 ((ji9) % 256) [.int .u8 ((ji9) % 256)] (fun _ => True) (fun _ => False) rfl rfl ?aP (fun _ hk => hk.elim) ?aF ?aO ?aB ?aS ?aL ?_; (case aP => exact rfl); (case aB => exact (Ky_ HB)); (case aF => exact (fun _ _ => trivial)); (case aO => exact (Ku_ HO_5)); (case aS => exact (below_size (Ky_ HB))); (case aL => have := LMc10.out; omega); intro v313 w11 ho hb hg hat; rw [← Ny312.out] at ho; have HO314 := Aside0.mk (ho); replace HB := Aside0.mk (hb); clear HO_5; clear ho hb hg hat))
     go_roundg k2
     case measure => have := HJ2.out; have := HK2.out; omega
     case rel => exact ⟨(y312), (wrap64 (x6_2 - 1)), (by first | rfl | (simp; done) | (simp [*]; done)), H', ⟨by have := HJ2.out; have := HK2.out; omega⟩, ⟨by (with_reducible repeat (first | apply Kd.R_alloc | apply Kd.R_drewN | apply Kd.R_drew)); exact HO314.out⟩, ⟨Ky_ HB⟩⟩
def tenementref02_Vary.l0 : Nat → Int → List Int → Option (ByteArray)
 | 0, _, _ => none
 | k + 1, x0, x3 => if x0 ≥ 128 then (if x3.length < 140737488355328 then (tenementref02_Vary.l0 k (IntKind.u64.wrap (Int.tdiv x0 128)) (x3 ++ [(IntKind.u64.wrap ((Int.tmod x0 128) + 128)) % 256])) else (none)) else (if x3.length < 140737488355328 then (some (strOfNums (x3 ++ [(x0) % 256]))) else (none))
def tenementref02_Vary.f (k : Nat) (a0 : Int) : Option (ByteArray) := tenementref02_Vary.l0 k a0 ([] : List Int)
set_option maxHeartbeats 8000000 in
set_option maxRecDepth 100000 in
theorem tenementref02_Vary.calls (k : Nat) (a0 : Int) (r : ByteArray) (w : World) (h : tenementref02_Vary.f k a0 = some r) :
  Calls Try.prog 62 #[.int .u64 a0] w fun e w' => e = .returned (.string r) ∧ Below w.heap.size w w' := by
 have HB := Aside0.mk (Below.refl w.heap.size w)
 have H : (tenementref02_Vary.l0 k a0 ([] : List Int)) = some r := h
 clear h
 have H' := Aside0.mk H
 clear H
 go_enter Try.func62, Try.ntmps62
 go_wp2
 go_loopg [0, 3] k (fun kq v0 v3 w' => ∃ (x0_1 : Int) (x3_1 : List Int), v0 = .int .u64 x0_1 ∧ Aside0 (tenementref02_Vary.l0 kq x0_1 x3_1 = some r) ∧ Aside0 (kq ≤ k) ∧ Aside0 (Kd.R (Kd.int .u8) 5 w' w.heap.size (fun _ => True) v3 x3_1) ∧ Aside0 (Below w.heap.size w w'))
 case atStart => exact ⟨(a0), (([] : List Int)), (by first | rfl | (simp; done) | (simp [*]; done)), H', ⟨Nat.le_refl _⟩, ⟨by first | exact Kd.R_nil _ _ _ _ _ | exact Kd.N_nil _ _ _ _ _ | exact Kd.V_nil _ _ _ _ _ | exact Kd.Q_nil _ _ _ _ _ | exact Kd.S_nil _ _ _ _ _⟩, ⟨Ky_ HB⟩⟩
 case round =>
  clear H'
  obtain ⟨x0_1, x3_1, rfl, HA, HK1, HO_3, HB⟩ := hrel
  cases gk with
  | zero => exact absurd HA.out (by simp [tenementref02_Vary.l0])
  | succ k1 =>
   have H := HA.out
   clear HA
   simp only [tenementref02_Vary.l0] at H
   by_cases c2 : x0_1 ≥ 128
   rotate_left
   ·rw [if_neg c2] at H
    have c2b0 : decide (128 ≤ x0_1) = false := decide_eq_false c2
    clear c2
    by_cases c5 : x3_1.length < 140737488355328
    rotate_left
    ·rw [if_neg c5] at H
     exact absurd H (by simp)
    rw [if_pos c5] at H
    have LMc5 := Aside0.mk c5
    clear c5
    obtain ⟨y318, hy318⟩ : ∃ y_ : List Int, y_ = (x3_1 ++ [(x0_1) % 256]) := ⟨_, rfl⟩
    replace H : (some (strOfNums y318)) = some r := by first | (rw [hy318]; with_reducible exact H) | (have H2_ := (Option.bind_some _ _).symm.trans H; rw [hy318]; with_reducible exact H2_) | (have H2_ := (Option.bind_some _ _).symm.trans H; with_reducible exact H2_) | with_reducible exact H | (rw [hy318]; exact H) | exact H
    have Ny318 := Aside0.mk hy318
    clear hy318
    obtain rfl := Option.some.inj H
    go_wp2_with (first | ((with_reducible refine gate_builtin (b := .append) (xs := #[.tmp 15, .tmp 18]) rfl ?_); at_builtin; refine Kd.R_append (Kd.int .u8) (w0 := w) w.heap.size rfl (.tmp 15) (.tmp 18) 76 5 (.int .u8 0) 1 rfl Try.underlying76 info5 rfl (by decide) (by omega) u3 x3_1 ((x0_1) % 256) [.int .u8 ((x0_1) % 256)] (fun _ => True) (fun _ => False) rfl rfl ?aP (fun _ hk => hk.elim) ?aF ?aO ?aB ?aS ?aL ?_; (case aP => exact rfl); (case aB => exact (Ky_ HB)); (case aF => exact (fun _ _ => trivial)); (case aO => exact (Ku_ HO_3)); (case aS => exact (below_size (Ky_ HB))); (case aL => have := LMc5.out; omega); intro v319 w6 ho hb hg hat; rw [← Ny318.out] at ho; have HO320 := Aside0.mk (ho); replace HB := Aside0.mk (hb); clear HO_3; clear ho hb hg hat; have hcv7 := own_string (P := Try.prog) Try.underlying76 Try.underlying5 Try.underlying9 (Kd.own_of_R HO320.out)))
    go_ret
    exact ⟨Kh_, Ky_ HB⟩
   rw [if_pos c2] at H
   have c2b0 : decide (128 ≤ x0_1) = true := decide_eq_true c2
   clear c2
   by_cases c3 : x3_1.length < 140737488355328
   rotate_left
   ·rw [if_neg c3] at H
    exact absurd H (by simp)
   rw [if_pos c3] at H
   have LMc3 := Aside0.mk c3
   clear c3
   obtain ⟨y315, hy315⟩ : ∃ y_ : List Int, y_ = (x3_1 ++ [(IntKind.u64.wrap ((Int.tmod x0_1 128) + 128)) % 256]) := ⟨_, rfl⟩
   replace H : (tenementref02_Vary.l0 k1 (IntKind.u64.wrap (Int.tdiv x0_1 128)) y315) = some r := by first | (rw [hy315]; with_reducible exact H) | (have H2_ := (Option.bind_some _ _).symm.trans H; rw [hy315]; with_reducible exact H2_) | (have H2_ := (Option.bind_some _ _).symm.trans H; with_reducible exact H2_) | with_reducible exact H | (rw [hy315]; exact H) | exact H
   have Ny315 := Aside0.mk hy315
   clear hy315
   have H' := Aside0.mk H
   clear H
   go_wp2_with (first | ((with_reducible refine gate_builtin (b := .append) (xs := #[.tmp 6, .tmp 11]) rfl ?_); at_builtin; refine Kd.R_append (Kd.int .u8) (w0 := w) w.heap.size rfl (.tmp 6) (.tmp 11) 76 5 (.int .u8 0) 1 rfl Try.underlying76 info5 rfl (by decide) (by omega) u3 x3_1 ((IntKind.u64.wrap ((Int.tmod x0_1 128) + 128)) % 256) [.int .u8 ((IntKind.u64.wrap ((Int.tmod x0_1 128) + 128)) % 256)] (fun _ => True) (fun _ => False) rfl rfl ?aP (fun _ hk => hk.elim) ?aF ?aO ?aB ?aS ?aL ?_; (case aP => exact rfl); (case aB => exact (Ky_ HB)); (case aF => exact (fun _ _ => trivial)); (case aO => exact (Ku_ HO_3)); (case aS => exact (below_size (Ky_ HB))); (case aL => have := LMc3.out; omega); intro v316 w4 ho hb hg hat; rw [← Ny315.out] at ho; have HO317 := Aside0.mk (ho); replace HB := Aside0.mk (hb); clear HO_3; clear ho hb hg hat))
   go_roundg k1
   case measure => have := HK1.out; omega
   case rel => exact ⟨(IntKind.u64.wrap (Int.tdiv x0_1 128)), (y315), (by first | rfl | (simp; done) | (simp [*]; done)), H', ⟨by have := HK1.out; omega⟩, ⟨by (with_reducible repeat (first | apply Kd.R_alloc | apply Kd.R_drewN | apply Kd.R_drew)); exact HO317.out⟩, ⟨Ky_ HB⟩⟩
def tenementref06_Put.f (k : Nat) (a0_0 : Int) (a0_1 : Int) (a0_2 : Int) (a0_3 : Int) : Option (ByteArray) := (tenementref02_Vary.f k a0_0).bind fun t322 => ((tenementref02_Vary.f k a0_1).bind fun t323 => (if t322.size + t323.size ≤ 9223372036854775807 then ((tenementref02_Vary.f k a0_2).bind fun t324 => (if (t322 ++ t323).size + t324.size ≤ 9223372036854775807 then ((tenementref02_Vary.f k a0_3).bind fun t325 => (if ((t322 ++ t323) ++ t324).size + t325.size ≤ 9223372036854775807 then (some (((t322 ++ t323) ++ t324) ++ t325)) else (none))) else (none))) else (none)))
def tenementref06_Put.T1 : Bool × List (List Nat × List Nat) := (true, [([], []), ([0], [0]), ([1], [1]), ([], []), ([3], [3]), ([4, 2], [4]), ([2, 5], [2, 5]), ([], []), ([7], [7]), ([8, 5], [8]), ([6, 9], [6, 9]), ([], []), ([11], [11]), ([12, 9], [12]), ([10, 13], [10, 13]), ([14, 13, 0, 1, 2, 3, 4, 5, 6, 7, 8, 9, 10, 11, 12, 13, 14], [14])])
def tenementref06_Put.B1 : List Nat := [0, 1, 3, 0, 8, 31, 63, 0, 128, 447, 1023, 0, 2048, 7103, 16383, 32767]
theorem tenementref06_Put.tab1 : rtab .any (opsOf Try.f61 1) = tenementref06_Put.T1 := by kernel_rfl
theorem tenementref06_Put.bits1 : waitsOk tenementref06_Put.T1.2 tenementref06_Put.B1 = true := by kernel_rfl
set_option maxHeartbeats 8000000 in
set_option maxRecDepth 100000 in
theorem tenementref06_Put.calls (k : Nat) (a0_0 : Int) (a0_1 : Int) (a0_2 : Int) (a0_3 : Int) (r : ByteArray) (w : World) (h : tenementref06_Put.f k a0_0 a0_1 a0_2 a0_3 = some r) :
  Calls Try.prog 61 #[.agg #[.int .u64 a0_0, .int .u64 a0_1, .int .u64 a0_2, .int .u64 a0_3]] w fun e w' => e = .returned (.string r) ∧ Below w.heap.size w w' := by
 have hu48 := Try.underlying48
 have HB := Aside0.mk (Below.refl w.heap.size w)
 have H : ((tenementref02_Vary.f k a0_0).bind fun t322 => ((tenementref02_Vary.f k a0_1).bind fun t323 => (if t322.size + t323.size ≤ 9223372036854775807 then ((tenementref02_Vary.f k a0_2).bind fun t324 => (if (t322 ++ t323).size + t324.size ≤ 9223372036854775807 then ((tenementref02_Vary.f k a0_3).bind fun t325 => (if ((t322 ++ t323) ++ t324).size + t325.size ≤ 9223372036854775807 then (some (((t322 ++ t323) ++ t324) ++ t325)) else (none))) else (none))) else (none)))) = some r := h
 (try (have Hs_ := H; simp only [ByteArray.size_append, Int.natCast_add] at Hs_))
 clear h
 replace H := Option.bind_eq_some_iff.mp H
 obtain ⟨t322, A20, H⟩ := H
 replace H : ((tenementref02_Vary.f k a0_1).bind fun t323 => (if t322.size + t323.size ≤ 9223372036854775807 then ((tenementref02_Vary.f k a0_2).bind fun t324 => (if (t322 ++ t323).size + t324.size ≤ 9223372036854775807 then ((tenementref02_Vary.f k a0_3).bind fun t325 => (if ((t322 ++ t323) ++ t324).size + t325.size ≤ 9223372036854775807 then (some (((t322 ++ t323) ++ t324) ++ t325)) else (none))) else (none))) else (none))) = some r := H
 have A2 := Aside0.mk A20
 clear A20
 replace H := Option.bind_eq_some_iff.mp H
 obtain ⟨t323, A30, H⟩ := H
 replace H : (if t322.size + t323.size ≤ 9223372036854775807 then ((tenementref02_Vary.f k a0_2).bind fun t324 => (if (t322 ++ t323).size + t324.size ≤ 9223372036854775807 then ((tenementref02_Vary.f k a0_3).bind fun t325 => (if ((t322 ++ t323) ++ t324).size + t325.size ≤ 9223372036854775807 then (some (((t322 ++ t323) ++ t324) ++ t325)) else (none))) else (none))) else (none)) = some r := H
 have A3 := Aside0.mk A30
 clear A30
 by_cases c4 : t322.size + t323.size ≤ 9223372036854775807
 rotate_left
 ·rw [if_neg c4] at H
  exact absurd H (by simp)
 rw [if_pos c4] at H
 have c4b0 := eq_true c4
 have c4b1 : decide (t322.size + t323.size ≤ 9223372036854775807) = true := decide_eq_true c4
 try have c4b2 : (9223372036854775807 < t322.size + t323.size) = False := eq_false (Nat.not_lt.2 c4)
 replace H := Option.bind_eq_some_iff.mp H
 obtain ⟨t324, A50, H⟩ := H
 replace H : (if (t322 ++ t323).size + t324.size ≤ 9223372036854775807 then ((tenementref02_Vary.f k a0_3).bind fun t325 => (if ((t322 ++ t323) ++ t324).size + t325.size ≤ 9223372036854775807 then (some (((t322 ++ t323) ++ t324) ++ t325)) else (none))) else (none)) = some r := H
 have A5 := Aside0.mk A50
 clear A50
 by_cases c6 : (t322 ++ t323).size + t324.size ≤ 9223372036854775807
 rotate_left
 ·rw [if_neg c6] at H
  exact absurd H (by simp)
 rw [if_pos c6] at H
 have c6b0 := eq_true c6
 (try (have c6b0s_ := c6b0; simp only [ByteArray.size_append, Int.natCast_add] at c6b0s_))
 have c6b1 : decide ((t322 ++ t323).size + t324.size ≤ 9223372036854775807) = true := decide_eq_true c6
 (try (have c6b1s_ := c6b1; simp only [ByteArray.size_append, Int.natCast_add] at c6b1s_))
 try have c6b2 : (9223372036854775807 < (t322 ++ t323).size + t324.size) = False := eq_false (Nat.not_lt.2 c6)
 (try (have c6b2s_ := c6b2; simp only [ByteArray.size_append, Int.natCast_add] at c6b2s_))
 replace H := Option.bind_eq_some_iff.mp H
 obtain ⟨t325, A70, H⟩ := H
 replace H : (if ((t322 ++ t323) ++ t324).size + t325.size ≤ 9223372036854775807 then (some (((t322 ++ t323) ++ t324) ++ t325)) else (none)) = some r := H
 have A7 := Aside0.mk A70
 clear A70
 by_cases c8 : ((t322 ++ t323) ++ t324).size + t325.size ≤ 9223372036854775807
 rotate_left
 ·rw [if_neg c8] at H
  exact absurd H (by simp)
 rw [if_pos c8] at H
 have c8b0 := eq_true c8
 (try (have c8b0s_ := c8b0; simp only [ByteArray.size_append, Int.natCast_add] at c8b0s_))
 have c8b1 : decide (((t322 ++ t323) ++ t324).size + t325.size ≤ 9223372036854775807) = true := decide_eq_true c8
 (try (have c8b1s_ := c8b1; simp only [ByteArray.size_append, Int.natCast_add] at c8b1s_))
 try have c8b2 : (9223372036854775807 < ((t322 ++ t323) ++ t324).size + t325.size) = False := eq_false (Nat.not_lt.2 c8)
 (try (have c8b2s_ := c8b2; simp only [ByteArray.size_append, Int.natCast_add] at c8b2s_))
 obtain rfl := Option.some.inj H
 go_enter Try.func61, Try.ntmps61
 try go_wp2_with (first | ((with_reducible refine gate_dst (N := 1) rfl ?_); refine Ka_ 1 #[.int .u64 a0_0, .int .u64 a0_1, .int .u64 a0_2, .int .u64 a0_3] 48 ?_; intro gb321 hg w9 hbox hb; have BK321 := Aside0.mk (hbox); have GW321 := Kw_ HB hg; have GE321 := GW321; replace HB := Ks_ HB hb; clear hb hbox hg))
 replace BK321 := Kd_ BK321
 replace HB := Aside0.mk (below_drew1 HB.out)
 refine start_ (n := 16) (S := fun w' => w'.cell? ⟨gb321, 0, none⟩ = some (.int .u64 a0_0) ∧ w'.cell? ⟨gb321, 1, none⟩ = some (.int .u64 a0_1) ∧ w'.cell? ⟨gb321, 2, none⟩ = some (.int .u64 a0_2) ∧ w'.cell? ⟨gb321, 3, none⟩ = some (.int .u64 a0_3)) (ds := []) (mB_ 16 0) (by kernel_rfl) rfl rfl (Kc4_ BK321.out) (fun hHeld => ?_); refine with_tabW tenementref06_Put.tab1 tenementref06_Put.bits1 (fun HT_ HW_ => ?_)
 generalize w9.drew = w10 at BK321 HB hHeld ⊢
 refine Kp_ 0 3 (mB_ 16 1) (any_of HT_.out (by kernel_rfl)) ?_
 refine Kp_ 3 6 (mB_ 16 9) (any_of HT_.out (by kernel_rfl)) ?_
 refine Kp_ 7 10 (mB_ 16 137) (any_of HT_.out (by kernel_rfl)) ?_
 refine Kp_ 11 14 (mB_ 16 2185) (any_of HT_.out (by kernel_rfl)) ?_
 refine Ko_ 1 4 (mB_ 16 2187) (take_ofW HT_.out HW_.out (by kernel_rfl)) hHeld ?_
 refine Ko_ 4 7 (mB_ 16 2203) (take_ofW HT_.out HW_.out (by kernel_rfl)) hHeld ?_
 refine Ko_ 8 11 (mB_ 16 2459) (take_ofW HT_.out HW_.out (by kernel_rfl)) hHeld ?_
 refine Ko_ 12 15 (mB_ 16 6555) (take_ofW HT_.out HW_.out (by kernel_rfl)) hHeld ?_
 refine one_ (i := 2) (N := some 5) (mB_ 16 6559) rfl rfl (one_of HT_.out (by kernel_rfl)) (by decide) (fun K hK => ?_)
 refine goes_ Try.func62 (by kernel_rfl) rfl #[.int .u64 a0_0] (by rfl) rfl rfl (by (try simp only [List.map_toArray, List.map_cons, List.map_nil]); first | done | rfl | (simp only [List.length_drop, List.length_take]; rfl)) ?_
 with_reducible refine (tenementref02_Vary.calls k a0_0 t322 _ A2.out).mono ?_
 rintro e w11 ⟨rfl, hb⟩
 refine ⟨_, rfl, ?_⟩
 replace BK321 := Kb_ BK321 hb
 replace HB := Ks_ HB hb
 (try clear hb)
 (try clear hb2)
 (try clear hk)
 (try clear hi)
 refine hK.out _ _ (Kc4_ BK321.out) (fun hHeld => ?_)
 clear hK K
 refine Kn_ 5 ?_
 refine one_ (i := 5) (N := some 8) (mB_ 16 6591) rfl rfl (one_of HT_.out (by kernel_rfl)) (by decide) (fun K hK => ?_)
 refine goes_ Try.func62 (by kernel_rfl) rfl #[.int .u64 a0_1] (by rfl) rfl rfl (by (try simp only [List.map_toArray, List.map_cons, List.map_nil]); first | done | rfl | (simp only [List.length_drop, List.length_take]; rfl)) ?_
 with_reducible refine (tenementref02_Vary.calls k a0_1 t323 _ A3.out).mono ?_
 rintro e w12 ⟨rfl, hb⟩
 refine ⟨_, rfl, ?_⟩
 replace BK321 := Kb_ BK321 hb
 replace HB := Ks_ HB hb
 (try clear hb)
 (try clear hb2)
 (try clear hk)
 (try clear hi)
 refine hK.out _ _ (Kc4_ BK321.out) (fun hHeld => ?_)
 clear hK K
 refine Kn_ 8 ?_
 refine Kp_ 6 9 (mB_ 16 6655) (any_of HT_.out (by kernel_rfl)) ?_
 refine one_ (i := 9) (N := some 12) (mB_ 16 7167) rfl rfl (one_of HT_.out (by kernel_rfl)) (by decide) (fun K hK => ?_)
 refine goes_ Try.func62 (by kernel_rfl) rfl #[.int .u64 a0_2] (by rfl) rfl rfl (by (try simp only [List.map_toArray, List.map_cons, List.map_nil]); first | done | rfl | (simp only [List.length_drop, List.length_take]; rfl)) ?_
 with_reducible refine (tenementref02_Vary.calls k a0_2 t324 _ A5.out).mono ?_
 rintro e w13 ⟨rfl, hb⟩
 refine ⟨_, rfl, ?_⟩
 replace BK321 := Kb_ BK321 hb
 replace HB := Ks_ HB hb
 (try clear hb)
 (try clear hb2)
 (try clear hk)
 (try clear hi)
 refine hK.out _ _ (Kc4_ BK321.out) (fun hHeld => ?_)
 clear hK K
 refine Kn_ 12 ?_
 refine Kp_ 10 13 (mB_ 16 8191) (any_of HT_.out (by kernel_rfl)) ?_
 refine one_ (i := 13) (N := some 16) (mB_ 16 16383) rfl rfl (one_of HT_.out (by kernel_rfl)) (by decide) (fun K hK => ?_)
 refine goes_ Try.func62 (by kernel_rfl) rfl #[.int .u64 a0_3] (by rfl) rfl rfl (by (try simp only [List.map_toArray, List.map_cons, List.map_nil]); first | done | rfl | (simp only [List.length_drop, List.length_take]; rfl)) ?_
 with_reducible refine (tenementref02_Vary.calls k a0_3 t325 _ A7.out).mono ?_
 rintro e w14 ⟨rfl, hb⟩
 refine ⟨_, rfl, ?_⟩
 replace BK321 := Kb_ BK321 hb
 replace HB := Ks_ HB hb
 (try clear hb)
 (try clear hb2)
 (try clear hk)
 (try clear hi)
 refine hK.out _ _ (Kc4_ BK321.out) (fun hHeld => ?_)
 clear hK K
 refine Kn_ 16 ?_
 refine Kp_ 14 17 (mB_ 16 32767) (any_of HT_.out (by kernel_rfl)) ?_
 refine Kp_ 15 2 (mB_ 16 65535) (any_of HT_.out (by kernel_rfl)) ?_
 refine done_ (done_of HT_.out (by kernel_rfl)) ?_
 try go_wp2
 go_ret
 exact ⟨Kh_, Kz_ HB GE321⟩
def tenementref07_Put.f (k : Nat) (a0_0 : Int) (a0_1 : Int) (a0_2 : Int) (a0_3 : Int) (a0_4 : Int) : Option (ByteArray × Bool) := (tenementref07_Right.f k a0_0 a0_1 a0_2 a0_3 a0_4).bind fun t327 => (if t327 = true then ((tenementref02_Number.f k (IntKind.u64.wrap (a0_4)) 1).bind fun t328 => ((tenementref06_Put.f k a0_0 a0_1 a0_2 a0_3).bind fun t329 => (if t328.size + t329.size ≤ 9223372036854775807 then (some (t328 ++ t329, true)) else (none)))) else (some ((⟨#[]⟩ : ByteArray), false)))
def tenementref07_Put.T3 : Bool × List (List Nat × List Nat) := (true, [([], []), ([0], [0]), ([1], [1]), ([2], [2]), ([], []), ([4], [4]), ([5, 3], [5]), ([3, 6], [3, 6]), ([7, 6, 0, 1, 2, 3, 4, 5, 6, 7], [7]), ([8, 0, 1, 2, 3, 4, 5, 6, 7, 8], [])])
def tenementref07_Put.B3 : List Nat := [0, 1, 3, 7, 0, 16, 63, 127, 255, 511]
theorem tenementref07_Put.tab3 : rtab .any (opsOf Try.f38 3) = tenementref07_Put.T3 := by kernel_rfl
theorem tenementref07_Put.bits3 : waitsOk tenementref07_Put.T3.2 tenementref07_Put.B3 = true := by kernel_rfl
set_option maxHeartbeats 8000000 in
set_option maxRecDepth 100000 in
theorem tenementref07_Put.calls (k : Nat) (a0_0 : Int) (a0_1 : Int) (a0_2 : Int) (a0_3 : Int) (a0_4 : Int) (r1 : ByteArray) (r2 : Bool) (w : World) (h : tenementref07_Put.f k a0_0 a0_1 a0_2 a0_3 a0_4 = some (r1, r2)) :
  Calls Try.prog 38 #[.agg #[.int .u64 a0_0, .int .u64 a0_1, .int .u64 a0_2, .int .u64 a0_3, .int .i64 a0_4]] w fun e w' => e = .returned (.tuple #[.string r1, .bool r2]) ∧ Below w.heap.size w w' := by
 have hu50 := Try.underlying50
 have hu48 := Try.underlying48
 have HB := Aside0.mk (Below.refl w.heap.size w)
 have H : ((tenementref07_Right.f k a0_0 a0_1 a0_2 a0_3 a0_4).bind fun t327 => (if t327 = true then ((tenementref02_Number.f k (IntKind.u64.wrap (a0_4)) 1).bind fun t328 => ((tenementref06_Put.f k a0_0 a0_1 a0_2 a0_3).bind fun t329 => (if t328.size + t329.size ≤ 9223372036854775807 then (some (t328 ++ t329, true)) else (none)))) else (some ((⟨#[]⟩ : ByteArray), false)))) = some (r1, r2) := h
 (try (have Hs_ := H; simp only [ByteArray.size_append, Int.natCast_add] at Hs_))
 clear h
 replace H := Option.bind_eq_some_iff.mp H
 obtain ⟨t327, A20, H⟩ := H
 replace H : (if t327 = true then ((tenementref02_Number.f k (IntKind.u64.wrap (a0_4)) 1).bind fun t328 => ((tenementref06_Put.f k a0_0 a0_1 a0_2 a0_3).bind fun t329 => (if t328.size + t329.size ≤ 9223372036854775807 then (some (t328 ++ t329, true)) else (none)))) else (some ((⟨#[]⟩ : ByteArray), false))) = some (r1, r2) := H
 have A2 := Aside0.mk A20
 clear A20
 by_cases c3 : t327 = true
 rotate_left
 ·replace c3 := Bool.eq_false_iff.mpr c3
  subst c3
  have H1 : (some ((⟨#[]⟩ : ByteArray), false)) = some (r1, r2) := by rw [if_neg (show ¬ (false = true) by decide)] at H; exact H
  clear H
  have H := H1
  clear H1
  simp only [Option.some.injEq, Prod.mk.injEq] at H
  obtain ⟨rfl, rfl⟩ := H
  go_enter Try.func38, Try.ntmps38
  go_wp2_with (first | ((with_reducible refine gate_dst (N := 1) rfl ?_); refine Ka_ 1 #[.int .u64 a0_0, .int .u64 a0_1, .int .u64 a0_2, .int .u64 a0_3, .int .i64 a0_4] 50 ?_; intro gb326 hg w13 hbox hb; have BK326 := Aside0.mk (hbox); have GW326 := Kw_ HB hg; have GE326 := GW326; replace HB := Ks_ HB hb; clear hb hbox hg; obtain ⟨hcz14_0, hcz14_1, hcz14_2, hcz14_3, hcz14_4, hfz14_0, hfz14_1, hfz14_2, hfz14_3, hfz14_4⟩ := Ke5_ BK326.out) | ((with_reducible refine gate_callee (f := 46) rfl ?_); refine Kg_ (some 5) rfl rfl Try.func46 (by kernel_rfl) rfl #[.agg #[.int .u64 a0_0, .int .u64 a0_1, .int .u64 a0_2, .int .u64 a0_3, .int .i64 a0_4]] rfl ?_; (with_reducible refine (tenementref07_Right.calls k a0_0 a0_1 a0_2 a0_3 a0_4 false _ A2.out).mono ?_); rintro e w15 ⟨rfl, hb⟩; refine ⟨_, rfl, ?_⟩; replace BK326 := Kb_ BK326 hb; replace HB := Ks_ HB hb; (try clear hb); (try clear hb2); (try clear hk); (try clear hi)))
  go_ret2
  exact ⟨Kh_, Kz_ HB GE326⟩
 subst c3
 have H1 : ((tenementref02_Number.f k (IntKind.u64.wrap (a0_4)) 1).bind fun t328 => ((tenementref06_Put.f k a0_0 a0_1 a0_2 a0_3).bind fun t329 => (if t328.size + t329.size ≤ 9223372036854775807 then (some (t328 ++ t329, true)) else (none)))) = some (r1, r2) := by rw [if_pos rfl] at H; exact H
 clear H
 have H := H1
 clear H1
 replace H := Option.bind_eq_some_iff.mp H
 obtain ⟨t328, A40, H⟩ := H
 replace H : ((tenementref06_Put.f k a0_0 a0_1 a0_2 a0_3).bind fun t329 => (if t328.size + t329.size ≤ 9223372036854775807 then (some (t328 ++ t329, true)) else (none))) = some (r1, r2) := H
 have A4 := Aside0.mk A40
 clear A40
 replace H := Option.bind_eq_some_iff.mp H
 obtain ⟨t329, A50, H⟩ := H
 replace H : (if t328.size + t329.size ≤ 9223372036854775807 then (some (t328 ++ t329, true)) else (none)) = some (r1, r2) := H
 have A5 := Aside0.mk A50
 clear A50
 by_cases c6 : t328.size + t329.size ≤ 9223372036854775807
 rotate_left
 ·rw [if_neg c6] at H
  exact absurd H (by simp)
 rw [if_pos c6] at H
 have c6b0 := eq_true c6
 have c6b1 : decide (t328.size + t329.size ≤ 9223372036854775807) = true := decide_eq_true c6
 try have c6b2 : (9223372036854775807 < t328.size + t329.size) = False := eq_false (Nat.not_lt.2 c6)
 simp only [Option.some.injEq, Prod.mk.injEq] at H
 obtain ⟨rfl, rfl⟩ := H
 go_enter Try.func38, Try.ntmps38
 try go_wp2_with (first | ((with_reducible refine gate_dst (N := 1) rfl ?_); refine Ka_ 1 #[.int .u64 a0_0, .int .u64 a0_1, .int .u64 a0_2, .int .u64 a0_3, .int .i64 a0_4] 50 ?_; intro gb326 hg w7 hbox hb; have BK326 := Aside0.mk (hbox); have GW326 := Kw_ HB hg; have GE326 := GW326; replace HB := Ks_ HB hb; clear hb hbox hg; obtain ⟨hcz8_0, hcz8_1, hcz8_2, hcz8_3, hcz8_4, hfz8_0, hfz8_1, hfz8_2, hfz8_3, hfz8_4⟩ := Ke5_ BK326.out) | ((with_reducible refine gate_callee (f := 46) rfl ?_); refine Kg_ (some 5) rfl rfl Try.func46 (by kernel_rfl) rfl #[.agg #[.int .u64 a0_0, .int .u64 a0_1, .int .u64 a0_2, .int .u64 a0_3, .int .i64 a0_4]] rfl ?_; (with_reducible refine (tenementref07_Right.calls k a0_0 a0_1 a0_2 a0_3 a0_4 true _ A2.out).mono ?_); rintro e w9 ⟨rfl, hb⟩; refine ⟨_, rfl, ?_⟩; replace BK326 := Kb_ BK326 hb; replace HB := Ks_ HB hb; (try clear hb); (try clear hb2); (try clear hk); (try clear hi)))
 replace BK326 := Kd_ BK326
 replace HB := Aside0.mk (below_drew1 HB.out)
 refine start_ (n := 10) (S := fun w' => w'.cell? ⟨gb326, 0, none⟩ = some (.int .u64 a0_0) ∧ w'.cell? ⟨gb326, 1, none⟩ = some (.int .u64 a0_1) ∧ w'.cell? ⟨gb326, 2, none⟩ = some (.int .u64 a0_2) ∧ w'.cell? ⟨gb326, 3, none⟩ = some (.int .u64 a0_3) ∧ w'.cell? ⟨gb326, 4, none⟩ = some (.int .i64 a0_4)) (ds := []) (mB_ 10 0) (by kernel_rfl) rfl rfl (Kc5_ BK326.out) (fun hHeld => ?_); refine with_tabW tenementref07_Put.tab3 tenementref07_Put.bits3 (fun HT_ HW_ => ?_)
 generalize w9.drew = w10 at BK326 HB hHeld ⊢
 refine Kp_ 0 7 (mB_ 10 1) (any_of HT_.out (by kernel_rfl)) ?_
 refine Kp_ 4 11 (mB_ 10 17) (any_of HT_.out (by kernel_rfl)) ?_
 refine Ko_ 1 8 (mB_ 10 19) (take_ofW HT_.out HW_.out (by kernel_rfl)) hHeld ?_
 refine Kp_ 2 9 (mB_ 10 23) (any_of HT_.out (by kernel_rfl)) ?_
 refine Ko_ 5 12 (mB_ 10 55) (take_ofW HT_.out HW_.out (by kernel_rfl)) hHeld ?_
 refine one_ (i := 3) (N := some 10) (mB_ 10 63) rfl rfl (one_of HT_.out (by kernel_rfl)) (by decide) (fun K hK => ?_)
 refine goes_ Try.func39 (by kernel_rfl) rfl #[.int .u64 (IntKind.u64.wrap (a0_4)), .int .i64 1] (by rfl) rfl rfl (by (try simp only [List.map_toArray, List.map_cons, List.map_nil]); first | done | rfl | (simp only [List.length_drop, List.length_take]; rfl)) ?_
 with_reducible refine (tenementref02_Number.calls k (IntKind.u64.wrap (a0_4)) 1 t328 _ A4.out).mono ?_
 rintro e w11 ⟨rfl, hb⟩
 refine ⟨_, rfl, ?_⟩
 replace BK326 := Kb_ BK326 hb
 replace HB := Ks_ HB hb
 (try clear hb)
 (try clear hb2)
 (try clear hk)
 (try clear hi)
 refine hK.out _ _ (Kc5_ BK326.out) (fun hHeld => ?_)
 clear hK K
 refine Kn_ 10 ?_
 refine one_ (i := 6) (N := some 13) (mB_ 10 127) rfl rfl (one_of HT_.out (by kernel_rfl)) (by decide) (fun K hK => ?_)
 refine goes_ Try.func61 (by kernel_rfl) rfl #[.agg #[.int .u64 a0_0, .int .u64 a0_1, .int .u64 a0_2, .int .u64 a0_3]] (by rfl) rfl rfl (by (try simp only [List.map_toArray, List.map_cons, List.map_nil]); first | done | rfl | (simp only [List.length_drop, List.length_take]; rfl)) ?_
 with_reducible refine (tenementref06_Put.calls k a0_0 a0_1 a0_2 a0_3 t329 _ A5.out).mono ?_
 rintro e w12 ⟨rfl, hb⟩
 refine ⟨_, rfl, ?_⟩
 replace BK326 := Kb_ BK326 hb
 replace HB := Ks_ HB hb
 (try clear hb)
 (try clear hb2)
 (try clear hk)
 (try clear hi)
 refine hK.out _ _ (Kc5_ BK326.out) (fun hHeld => ?_)
 clear hK K
 refine Kn_ 13 ?_
 refine Kp_ 7 14 (mB_ 10 255) (any_of HT_.out (by kernel_rfl)) ?_
 refine Kp_ 8 2 (mB_ 10 511) (any_of HT_.out (by kernel_rfl)) ?_
 refine Kp_ 9 3 (mB_ 10 1023) (any_of HT_.out (by kernel_rfl)) ?_
 refine done_ (done_of HT_.out (by kernel_rfl)) ?_
 try go_wp2
 go_ret2
 exact ⟨Kh_, Kz_ HB GE326⟩
def tenementref02_Text.f (k : Nat) (a0 : ByteArray) : Option (ByteArray) := if a0.size ≤ 9223372036854775807 then ((tenementref02_Vary.f k (a0.size : Int)).bind fun t330 => (if t330.size + a0.size ≤ 9223372036854775807 then (some (t330 ++ a0)) else (none))) else (none)
set_option maxHeartbeats 8000000 in
set_option maxRecDepth 100000 in
theorem tenementref02_Text.calls (k : Nat) (a0 : ByteArray) (r : ByteArray) (w : World) (h : tenementref02_Text.f k a0 = some r) :
  Calls Try.prog 40 #[.string a0] w fun e w' => e = .returned (.string r) ∧ Below w.heap.size w w' := by
 have HB := Aside0.mk (Below.refl w.heap.size w)
 have H : (if a0.size ≤ 9223372036854775807 then ((tenementref02_Vary.f k (a0.size : Int)).bind fun t330 => (if t330.size + a0.size ≤ 9223372036854775807 then (some (t330 ++ a0)) else (none))) else (none)) = some r := h
 (try (have Hs_ := H; simp only [ByteArray.size_append, Int.natCast_add] at Hs_))
 clear h
 by_cases c2 : a0.size ≤ 9223372036854775807
 rotate_left
 ·rw [if_neg c2] at H
  exact absurd H (by simp)
 rw [if_pos c2] at H
 have c2b0 := eq_true c2
 have c2b1 : decide (a0.size ≤ 9223372036854775807) = true := decide_eq_true c2
 try have c2b2 : (9223372036854775807 < a0.size) = False := eq_false (Nat.not_lt.2 c2)
 replace H := Option.bind_eq_some_iff.mp H
 obtain ⟨t330, A30, H⟩ := H
 replace H : (if t330.size + a0.size ≤ 9223372036854775807 then (some (t330 ++ a0)) else (none)) = some r := H
 have A3 := Aside0.mk A30
 clear A30
 by_cases c4 : t330.size + a0.size ≤ 9223372036854775807
 rotate_left
 ·rw [if_neg c4] at H
  exact absurd H (by simp)
 rw [if_pos c4] at H
 have c4b0 := eq_true c4
 have c4b1 : decide (t330.size + a0.size ≤ 9223372036854775807) = true := decide_eq_true c4
 try have c4b2 : (9223372036854775807 < t330.size + a0.size) = False := eq_false (Nat.not_lt.2 c4)
 obtain rfl := Option.some.inj H
 go_enter Try.func40, Try.ntmps40
 go_wp2_with (first | ((with_reducible refine gate_callee (f := 62) rfl ?_); refine Kg_ (some 6) rfl rfl Try.func62 (by kernel_rfl) rfl #[.int .u64 (a0.size : Int)] rfl ?_; (with_reducible refine (tenementref02_Vary.calls k (a0.size : Int) t330 _ A3.out).mono ?_); rintro e w5 ⟨rfl, hb⟩; refine ⟨_, rfl, ?_⟩; replace HB := Ks_ HB hb; (try clear hb); (try clear hb2); (try clear hk); (try clear hi)))
 go_ret
 exact ⟨Kh_, Ky_ HB⟩
def tenementref08_Bytes.l0 : Nat → ByteArray → Int → Int → Int → Int → Int → Int → List (S38) → Option (ByteArray × Bool)
 | 0, _, _, _, _, _, _, _, _ => none
 | k + 1, x4, x6, x111, x112, x113, x114, x115, x106 => if x6 < (x106.length : Int) then (if 0 ≤ x6 then ((tenementref02_Text.f k ((rd_T38 x106 x6).f0)).bind fun t338 => (if x4.size + t338.size ≤ 9223372036854775807 then ((tenementref02_Text.f k ((rd_T38 x106 x6).f1)).bind fun t339 => (if (x4 ++ t338).size + t339.size ≤ 9223372036854775807 then (if (rd_T38 x106 x6).f3 = true then (if ((x4 ++ t338) ++ t339).size + 1 ≤ 9223372036854775807 then (tenementref08_Bytes.l0 k (((x4 ++ t338) ++ t339) ++ (⟨#[1]⟩ : ByteArray)) (wrap64 (x6 + 1)) x111 x112 x113 x114 x115 x106) else (none)) else (if ((x4 ++ t338) ++ t339).size + 1 ≤ 9223372036854775807 then ((tenementref02_Text.f k ((rd_T38 x106 x6).f2)).bind fun t340 => (if (((x4 ++ t338) ++ t339) ++ (⟨#[0]⟩ : ByteArray)).size + t340.size ≤ 9223372036854775807 then (tenementref08_Bytes.l0 k ((((x4 ++ t338) ++ t339) ++ (⟨#[0]⟩ : ByteArray)) ++ t340) (wrap64 (x6 + 1)) x111 x112 x113 x114 x115 x106) else (none))) else (none))) else (none))) else (none))) else (none)) else (some (x4, true))
def tenementref08_Bytes.f (k : Nat) (a0_0 : Int) (a0_1 : Int) (a0_2 : Int) (a0_3 : Int) (a0_4 : Int) (l0_5 : List (S38)) : Option (ByteArray × Bool) := (tenementref08_Whole.f k a0_0 a0_1 a0_2 a0_3 a0_4 l0_5).bind fun t332 => (if t332 = true then ((tenementref07_Put.f k a0_0 a0_1 a0_2 a0_3 a0_4).bind fun bt333 => ((tenementref02_Number.f k (IntKind.u64.wrap ((l0_5.length : Int))) 1).bind fun t335 => (if bt333.1.size + t335.size ≤ 9223372036854775807 then (tenementref08_Bytes.l0 k (bt333.1 ++ t335) 0 a0_0 a0_1 a0_2 a0_3 a0_4 l0_5) else (none)))) else (some ((⟨#[]⟩ : ByteArray), false)))
def tenementref08_Bytes.T9 : Bool × List (List Nat × List Nat) := (true, [([], []), ([], []), ([1], [1]), ([2], [2]), ([0, 3], [0, 3]), ([], []), ([5], [5]), ([6, 3], [6]), ([4, 7], [4, 7]), ([8, 7, 0, 1, 2, 3, 4, 5, 6, 7, 8], [0, 8])])
def tenementref08_Bytes.B9 : List Nat := [0, 0, 2, 6, 15, 0, 32, 110, 255, 511]
theorem tenementref08_Bytes.tab9 : rtab .any (opsOf Try.f16 9) = tenementref08_Bytes.T9 := by kernel_rfl
theorem tenementref08_Bytes.bits9 : waitsOk tenementref08_Bytes.T9.2 tenementref08_Bytes.B9 = true := by kernel_rfl
set_option maxHeartbeats 8000000 in
set_option maxRecDepth 100000 in
theorem tenementref08_Bytes.calls (k : Nat) (a0_0 : Int) (a0_1 : Int) (a0_2 : Int) (a0_3 : Int) (a0_4 : Int) (A0_5 : Option Addr) (c0_5 : Nat) (l0_5 : List (S38)) (r1 : ByteArray) (r2 : Bool) (w : World) (hr0_5 : Kd.C k38 w A0_5 l0_5.length l0_5) (hc0_5 : l0_5.length ≤ c0_5) (h : tenementref08_Bytes.f k a0_0 a0_1 a0_2 a0_3 a0_4 l0_5 = some (r1, r2)) :
  Calls Try.prog 16 #[.agg #[.int .u64 a0_0, .int .u64 a0_1, .int .u64 a0_2, .int .u64 a0_3, .int .i64 a0_4, .slice A0_5 l0_5.length c0_5]] w fun e w' => e = .returned (.tuple #[.string r1, .bool r2]) ∧ Below w.heap.size w w' := by
 have hu52 := Try.underlying52
 have hu50 := Try.underlying50
 have hu38 := Try.underlying38
 have HR0_5 := Aside0.mk hr0_5
 have HC0_5 := Aside0.mk hc0_5
 clear hr0_5 hc0_5
 have HB := Aside0.mk (Below.refl w.heap.size w)
 have H : ((tenementref08_Whole.f k a0_0 a0_1 a0_2 a0_3 a0_4 l0_5).bind fun t332 => (if t332 = true then ((tenementref07_Put.f k a0_0 a0_1 a0_2 a0_3 a0_4).bind fun bt333 => ((tenementref02_Number.f k (IntKind.u64.wrap ((l0_5.length : Int))) 1).bind fun t335 => (if bt333.1.size + t335.size ≤ 9223372036854775807 then (tenementref08_Bytes.l0 k (bt333.1 ++ t335) 0 a0_0 a0_1 a0_2 a0_3 a0_4 l0_5) else (none)))) else (some ((⟨#[]⟩ : ByteArray), false)))) = some (r1, r2) := h
 (try (have Hs_ := H; simp only [ByteArray.size_append, Int.natCast_add] at Hs_))
 clear h
 replace H := Option.bind_eq_some_iff.mp H
 obtain ⟨t332, A20, H⟩ := H
 replace H : (if t332 = true then ((tenementref07_Put.f k a0_0 a0_1 a0_2 a0_3 a0_4).bind fun bt333 => ((tenementref02_Number.f k (IntKind.u64.wrap ((l0_5.length : Int))) 1).bind fun t335 => (if bt333.1.size + t335.size ≤ 9223372036854775807 then (tenementref08_Bytes.l0 k (bt333.1 ++ t335) 0 a0_0 a0_1 a0_2 a0_3 a0_4 l0_5) else (none)))) else (some ((⟨#[]⟩ : ByteArray), false))) = some (r1, r2) := H
 have A2 := Aside0.mk A20
 clear A20
 by_cases c3 : t332 = true
 rotate_left
 ·replace c3 := Bool.eq_false_iff.mpr c3
  subst c3
  have H1 : (some ((⟨#[]⟩ : ByteArray), false)) = some (r1, r2) := by rw [if_neg (show ¬ (false = true) by decide)] at H; exact H
  clear H
  have H := H1
  clear H1
  simp only [Option.some.injEq, Prod.mk.injEq] at H
  obtain ⟨rfl, rfl⟩ := H
  go_enter Try.func16, Try.ntmps16
  go_wp2_with (first | ((with_reducible refine gate_dst (N := 1) rfl ?_); refine Ka_ 1 #[.int .u64 a0_0, .int .u64 a0_1, .int .u64 a0_2, .int .u64 a0_3, .int .i64 a0_4, .slice A0_5 l0_5.length c0_5] 52 ?_; intro gb331 hg w46 hbox hb; have BK331 := Aside0.mk (hbox); have GW331 := Kw_ HB hg; have GE331 := GW331; replace HB := Ks_ HB hb; clear hb hbox hg; obtain ⟨hcz47_0, hcz47_1, hcz47_2, hcz47_3, hcz47_4, hcz47_5, hfz47_0, hfz47_1, hfz47_2, hfz47_3, hfz47_4, hfz47_5⟩ := Ke6_ BK331.out) | ((with_reducible refine gate_callee (f := 23) rfl ?_); refine Kg_ (some 9) rfl rfl Try.func23 (by kernel_rfl) rfl #[.agg #[.int .u64 a0_0, .int .u64 a0_1, .int .u64 a0_2, .int .u64 a0_3, .int .i64 a0_4, .slice A0_5 l0_5.length c0_5]] rfl ?_; (with_reducible refine (tenementref08_Whole.calls k a0_0 a0_1 a0_2 a0_3 a0_4 _ _ l0_5 false _ ?side1 ?side2 A2.out).mono ?_); (case side1 => repeat (first | exact (Kd.C_below HR0_5.out HB.out) | (with_reducible refine Kd.C_alloc ?_ _) | (with_reducible refine Kd.C_drewN ?_ _) | (with_reducible refine Kd.C_drew ?_))); (case side2 => exact HC0_5.out); rintro e w48 ⟨rfl, hb⟩; refine ⟨_, rfl, ?_⟩; replace BK331 := Kb_ BK331 hb; replace HB := Ks_ HB hb; (try clear hb); (try clear hb2); (try clear hk); (try clear hi)))
  go_ret2
  exact ⟨Kh_, Kz_ HB GE331⟩
 subst c3
 have H1 : ((tenementref07_Put.f k a0_0 a0_1 a0_2 a0_3 a0_4).bind fun bt333 => ((tenementref02_Number.f k (IntKind.u64.wrap ((l0_5.length : Int))) 1).bind fun t335 => (if bt333.1.size + t335.size ≤ 9223372036854775807 then (tenementref08_Bytes.l0 k (bt333.1 ++ t335) 0 a0_0 a0_1 a0_2 a0_3 a0_4 l0_5) else (none)))) = some (r1, r2) := by rw [if_pos rfl] at H; exact H
 clear H
 have H := H1
 clear H1
 replace H := Option.bind_eq_some_iff.mp H
 obtain ⟨⟨t333, t334⟩, A40, H⟩ := H
 replace H : ((tenementref02_Number.f k (IntKind.u64.wrap ((l0_5.length : Int))) 1).bind fun t335 => (if t333.size + t335.size ≤ 9223372036854775807 then (tenementref08_Bytes.l0 k (t333 ++ t335) 0 a0_0 a0_1 a0_2 a0_3 a0_4 l0_5) else (none))) = some (r1, r2) := H
 have A4 := Aside0.mk A40
 clear A40
 replace H := Option.bind_eq_some_iff.mp H
 obtain ⟨t335, A50, H⟩ := H
 replace H : (if t333.size + t335.size ≤ 9223372036854775807 then (tenementref08_Bytes.l0 k (t333 ++ t335) 0 a0_0 a0_1 a0_2 a0_3 a0_4 l0_5) else (none)) = some (r1, r2) := H
 have A5 := Aside0.mk A50
 clear A50
 by_cases c6 : t333.size + t335.size ≤ 9223372036854775807
 rotate_left
 ·rw [if_neg c6] at H
  exact absurd H (by simp)
 rw [if_pos c6] at H
 have c6b0 := eq_true c6
 have c6b1 : decide (t333.size + t335.size ≤ 9223372036854775807) = true := decide_eq_true c6
 try have c6b2 : (9223372036854775807 < t333.size + t335.size) = False := eq_false (Nat.not_lt.2 c6)
 have H' := Aside0.mk H
 clear H
 go_enter Try.func16, Try.ntmps16
 go_wp2_with (first | ((with_reducible refine gate_dst (N := 1) rfl ?_); refine Ka_ 1 #[.int .u64 a0_0, .int .u64 a0_1, .int .u64 a0_2, .int .u64 a0_3, .int .i64 a0_4, .slice A0_5 l0_5.length c0_5] 52 ?_; intro gb331 hg w7 hbox hb; have BK331 := Aside0.mk (hbox); have GW331 := Kw_ HB hg; have GE331 := GW331; replace HB := Ks_ HB hb; clear hb hbox hg; obtain ⟨hcz8_0, hcz8_1, hcz8_2, hcz8_3, hcz8_4, hcz8_5, hfz8_0, hfz8_1, hfz8_2, hfz8_3, hfz8_4, hfz8_5⟩ := Ke6_ BK331.out) | ((with_reducible refine gate_callee (f := 23) rfl ?_); refine Kg_ (some 9) rfl rfl Try.func23 (by kernel_rfl) rfl #[.agg #[.int .u64 a0_0, .int .u64 a0_1, .int .u64 a0_2, .int .u64 a0_3, .int .i64 a0_4, .slice A0_5 l0_5.length c0_5]] rfl ?_; (with_reducible refine (tenementref08_Whole.calls k a0_0 a0_1 a0_2 a0_3 a0_4 _ _ l0_5 true _ ?side1 ?side2 A2.out).mono ?_); (case side1 => repeat (first | exact (Kd.C_below HR0_5.out HB.out) | (with_reducible refine Kd.C_alloc ?_ _) | (with_reducible refine Kd.C_drewN ?_ _) | (with_reducible refine Kd.C_drew ?_))); (case side2 => exact HC0_5.out); rintro e w9 ⟨rfl, hb⟩; refine ⟨_, rfl, ?_⟩; replace BK331 := Kb_ BK331 hb; replace HB := Ks_ HB hb; (try clear hb); (try clear hb2); (try clear hk); (try clear hi); obtain ⟨hcz10_0, hcz10_1, hcz10_2, hcz10_3, hcz10_4, hcz10_5, hfz10_0, hfz10_1, hfz10_2, hfz10_3, hfz10_4, hfz10_5⟩ := Ke6_ BK331.out) | ((with_reducible refine gate_callee (f := 38) rfl ?_); refine Kg_ (some 14) rfl rfl Try.func38 (by kernel_rfl) rfl #[.agg #[.int .u64 a0_0, .int .u64 a0_1, .int .u64 a0_2, .int .u64 a0_3, .int .i64 a0_4]] rfl ?_; (with_reducible refine (tenementref07_Put.calls k a0_0 a0_1 a0_2 a0_3 a0_4 t333 t334 _ A4.out).mono ?_); rintro e w11 ⟨rfl, hb⟩; refine ⟨_, rfl, ?_⟩; replace BK331 := Kb_ BK331 hb; replace HB := Ks_ HB hb; (try clear hb); (try clear hb2); (try clear hk); (try clear hi); obtain ⟨hcz12_0, hcz12_1, hcz12_2, hcz12_3, hcz12_4, hcz12_5, hfz12_0, hfz12_1, hfz12_2, hfz12_3, hfz12_4, hfz12_5⟩ := Ke6_ BK331.out) | ((with_reducible refine gate_callee (f := 39) rfl ?_); refine Kg_ (some 22) rfl rfl Try.func39 (by kernel_rfl) rfl #[.int .u64 (IntKind.u64.wrap ((l0_5.length : Int))), .int .i64 1] rfl ?_; (with_reducible refine (tenementref02_Number.calls k (IntKind.u64.wrap ((l0_5.length : Int))) 1 t335 _ A5.out).mono ?_); rintro e w13 ⟨rfl, hb⟩; refine ⟨_, rfl, ?_⟩; replace BK331 := Kb_ BK331 hb; replace HB := Ks_ HB hb; (try clear hb); (try clear hb2); (try clear hk); (try clear hi)))
 go_loopg [4, 6] k (fun kq v4 v6 w' => ∃ (x4_1 : ByteArray) (x6_1 : Int), v4 = .string x4_1 ∧ v6 = .int .i64 x6_1 ∧ Aside0 (tenementref08_Bytes.l0 kq x4_1 x6_1 a0_0 a0_1 a0_2 a0_3 a0_4 l0_5 = some (r1, r2)) ∧ Aside0 (kq ≤ k) ∧ Aside0 (w'.heap[gb331]? = some (.cells #[.int .u64 a0_0, .int .u64 a0_1, .int .u64 a0_2, .int .u64 a0_3, .int .i64 a0_4, (.slice A0_5 l0_5.length c0_5)] 52 (0, 0))) ∧ Aside0 (Below w.heap.size w w'))
 case atStart => exact ⟨(t333 ++ t335), (0), (by first | rfl | (simp; done) | (simp [*]; done)), (by first | rfl | (simp; done) | (simp [*]; done)), H', ⟨Nat.le_refl _⟩, ⟨by exact Kq_ BK331⟩, ⟨Kz_ HB GE331⟩⟩
 case round =>
  clear H'
  try clear c1
  try clear c2
  try clear p2
  try clear c3
  try clear c6
  try clear c6b0
  try clear c6b1
  try clear c6b2
  try clear hcz10_0
  try clear hcz10_1
  try clear hcz10_2
  try clear hcz10_3
  try clear hcz10_4
  try clear hcz10_5
  try clear hcz12_0
  try clear hcz12_1
  try clear hcz12_2
  try clear hcz12_3
  try clear hcz12_4
  try clear hcz12_5
  try clear hcz8_0
  try clear hcz8_1
  try clear hcz8_2
  try clear hcz8_3
  try clear hcz8_4
  try clear hcz8_5
  try clear hfz10_0
  try clear hfz10_1
  try clear hfz10_2
  try clear hfz10_3
  try clear hfz10_4
  try clear hfz10_5
  try clear hfz12_0
  try clear hfz12_1
  try clear hfz12_2
  try clear hfz12_3
  try clear hfz12_4
  try clear hfz12_5
  try clear hfz8_0
  try clear hfz8_1
  try clear hfz8_2
  try clear hfz8_3
  try clear hfz8_4
  try clear hfz8_5
  obtain ⟨x4_1, x6_1, rfl, rfl, HA, HK1, BK331, HB⟩ := hrel
  cases gk with
  | zero => exact absurd HA.out (by simp [tenementref08_Bytes.l0])
  | succ k1 =>
   have H := HA.out
   clear HA
   simp only [tenementref08_Bytes.l0] at H
   by_cases c14 : x6_1 < (l0_5.length : Int)
   rotate_left
   ·rw [if_neg c14] at H
    have c14b0 : decide (x6_1 < (l0_5.length : Int)) = false := decide_eq_false c14
    clear c14
    simp only [Option.some.injEq, Prod.mk.injEq] at H
    obtain ⟨rfl, rfl⟩ := H
    obtain ⟨hcz45_0, hcz45_1, hcz45_2, hcz45_3, hcz45_4, hcz45_5, hfz45_0, hfz45_1, hfz45_2, hfz45_3, hfz45_4, hfz45_5⟩ := Ke6_ BK331.out
    go_wp2
    go_ret2
    exact ⟨Kh_, Kz_ HB GE331⟩
   rw [if_pos c14] at H
   have c14b0 : decide (x6_1 < (l0_5.length : Int)) = true := decide_eq_true c14
   clear c14
   by_cases c15 : 0 ≤ x6_1
   rotate_left
   ·rw [if_neg c15] at H
    exact absurd H (by simp)
   rw [if_pos c15] at H
   have c15b0 : decide (0 ≤ x6_1) = true := decide_eq_true c15
   clear c15
   replace H := Option.bind_eq_some_iff.mp H
   obtain ⟨t338, A160, H⟩ := H
   replace H : (if x4_1.size + t338.size ≤ 9223372036854775807 then ((tenementref02_Text.f k1 ((rd_T38 l0_5 x6_1).f1)).bind fun t339 => (if (x4_1 ++ t338).size + t339.size ≤ 9223372036854775807 then (if (rd_T38 l0_5 x6_1).f3 = true then (if ((x4_1 ++ t338) ++ t339).size + 1 ≤ 9223372036854775807 then (tenementref08_Bytes.l0 k1 (((x4_1 ++ t338) ++ t339) ++ (⟨#[1]⟩ : ByteArray)) (wrap64 (x6_1 + 1)) a0_0 a0_1 a0_2 a0_3 a0_4 l0_5) else (none)) else (if ((x4_1 ++ t338) ++ t339).size + 1 ≤ 9223372036854775807 then ((tenementref02_Text.f k1 ((rd_T38 l0_5 x6_1).f2)).bind fun t340 => (if (((x4_1 ++ t338) ++ t339) ++ (⟨#[0]⟩ : ByteArray)).size + t340.size ≤ 9223372036854775807 then (tenementref08_Bytes.l0 k1 ((((x4_1 ++ t338) ++ t339) ++ (⟨#[0]⟩ : ByteArray)) ++ t340) (wrap64 (x6_1 + 1)) a0_0 a0_1 a0_2 a0_3 a0_4 l0_5) else (none))) else (none))) else (none))) else (none)) = some (r1, r2) := H
   have A16 := Aside0.mk A160
   clear A160
   by_cases c17 : x4_1.size + t338.size ≤ 9223372036854775807
   rotate_left
   ·rw [if_neg c17] at H
    exact absurd H (by simp)
   rw [if_pos c17] at H
   have c17b0 := eq_true c17
   have c17b1 : decide (x4_1.size + t338.size ≤ 9223372036854775807) = true := decide_eq_true c17
   try have c17b2 : (9223372036854775807 < x4_1.size + t338.size) = False := eq_false (Nat.not_lt.2 c17)
   replace H := Option.bind_eq_some_iff.mp H
   obtain ⟨t339, A180, H⟩ := H
   replace H : (if (x4_1 ++ t338).size + t339.size ≤ 9223372036854775807 then (if (rd_T38 l0_5 x6_1).f3 = true then (if ((x4_1 ++ t338) ++ t339).size + 1 ≤ 9223372036854775807 then (tenementref08_Bytes.l0 k1 (((x4_1 ++ t338) ++ t339) ++ (⟨#[1]⟩ : ByteArray)) (wrap64 (x6_1 + 1)) a0_0 a0_1 a0_2 a0_3 a0_4 l0_5) else (none)) else (if ((x4_1 ++ t338) ++ t339).size + 1 ≤ 9223372036854775807 then ((tenementref02_Text.f k1 ((rd_T38 l0_5 x6_1).f2)).bind fun t340 => (if (((x4_1 ++ t338) ++ t339) ++ (⟨#[0]⟩ : ByteArray)).size + t340.size ≤ 9223372036854775807 then (tenementref08_Bytes.l0 k1 ((((x4_1 ++ t338) ++ t339) ++ (⟨#[0]⟩ : ByteArray)) ++ t340) (wrap64 (x6_1 + 1)) a0_0 a0_1 a0_2 a0_3 a0_4 l0_5) else (none))) else (none))) else (none)) = some (r1, r2) := H
   have A18 := Aside0.mk A180
   clear A180
   by_cases c19 : (x4_1 ++ t338).size + t339.size ≤ 9223372036854775807
   rotate_left
   ·rw [if_neg c19] at H
    exact absurd H (by simp)
   rw [if_pos c19] at H
   have c19b0 := eq_true c19
   (try (have c19b0s_ := c19b0; simp only [ByteArray.size_append, Int.natCast_add, show (⟨#[0]⟩ : ByteArray).size = 1 from rfl, show (⟨#[1]⟩ : ByteArray).size = 1 from rfl] at c19b0s_))
   have c19b1 : decide ((x4_1 ++ t338).size + t339.size ≤ 9223372036854775807) = true := decide_eq_true c19
   (try (have c19b1s_ := c19b1; simp only [ByteArray.size_append, Int.natCast_add, show (⟨#[0]⟩ : ByteArray).size = 1 from rfl, show (⟨#[1]⟩ : ByteArray).size = 1 from rfl] at c19b1s_))
   try have c19b2 : (9223372036854775807 < (x4_1 ++ t338).size + t339.size) = False := eq_false (Nat.not_lt.2 c19)
   (try (have c19b2s_ := c19b2; simp only [ByteArray.size_append, Int.natCast_add, show (⟨#[0]⟩ : ByteArray).size = 1 from rfl, show (⟨#[1]⟩ : ByteArray).size = 1 from rfl] at c19b2s_))
   obtain ⟨bq20, hbq20⟩ : ∃ b_ : Bool, b_ = ((rd_T38 l0_5 x6_1).f3) := ⟨_, rfl⟩
   replace H : (if bq20 = true then (if ((x4_1 ++ t338) ++ t339).size + 1 ≤ 9223372036854775807 then (tenementref08_Bytes.l0 k1 (((x4_1 ++ t338) ++ t339) ++ (⟨#[1]⟩ : ByteArray)) (wrap64 (x6_1 + 1)) a0_0 a0_1 a0_2 a0_3 a0_4 l0_5) else (none)) else (if ((x4_1 ++ t338) ++ t339).size + 1 ≤ 9223372036854775807 then ((tenementref02_Text.f k1 ((rd_T38 l0_5 x6_1).f2)).bind fun t340 => (if (((x4_1 ++ t338) ++ t339) ++ (⟨#[0]⟩ : ByteArray)).size + t340.size ≤ 9223372036854775807 then (tenementref08_Bytes.l0 k1 ((((x4_1 ++ t338) ++ t339) ++ (⟨#[0]⟩ : ByteArray)) ++ t340) (wrap64 (x6_1 + 1)) a0_0 a0_1 a0_2 a0_3 a0_4 l0_5) else (none))) else (none))) = some (r1, r2) := by rw [← hbq20] at H; exact H
   have Nbq20 := Aside0.mk hbq20
   clear hbq20
   by_cases c21 : bq20 = true
   ·subst c21
    have H1 : (if ((x4_1 ++ t338) ++ t339).size + 1 ≤ 9223372036854775807 then (tenementref08_Bytes.l0 k1 (((x4_1 ++ t338) ++ t339) ++ (⟨#[1]⟩ : ByteArray)) (wrap64 (x6_1 + 1)) a0_0 a0_1 a0_2 a0_3 a0_4 l0_5) else (none)) = some (r1, r2) := by rw [if_pos rfl] at H; exact H
    clear H
    have H := H1
    clear H1
    by_cases c22 : ((x4_1 ++ t338) ++ t339).size + 1 ≤ 9223372036854775807
    rotate_left
    ·rw [if_neg c22] at H
     exact absurd H (by simp)
    rw [if_pos c22] at H
    have c22b0 := eq_true c22
    (try (have c22b0s_ := c22b0; simp only [ByteArray.size_append, Int.natCast_add, show (⟨#[0]⟩ : ByteArray).size = 1 from rfl, show (⟨#[1]⟩ : ByteArray).size = 1 from rfl] at c22b0s_))
    have c22b1 : decide (((x4_1 ++ t338) ++ t339).size + 1 ≤ 9223372036854775807) = true := decide_eq_true c22
    (try (have c22b1s_ := c22b1; simp only [ByteArray.size_append, Int.natCast_add, show (⟨#[0]⟩ : ByteArray).size = 1 from rfl, show (⟨#[1]⟩ : ByteArray).size = 1 from rfl] at c22b1s_))
    try have c22b2 : (9223372036854775807 < ((x4_1 ++ t338) ++ t339).size + 1) = False := eq_false (Nat.not_lt.2 c22)
    (try (have c22b2s_ := c22b2; simp only [ByteArray.size_append, Int.natCast_add, show (⟨#[0]⟩ : ByteArray).size = 1 from rfl, show (⟨#[1]⟩ : ByteArray).size = 1 from rfl] at c22b2s_))
    have H' := Aside0.mk H
    clear H
    obtain ⟨hcz23_0, hcz23_1, hcz23_2, hcz23_3, hcz23_4, hcz23_5, hfz23_0, hfz23_1, hfz23_2, hfz23_3, hfz23_4, hfz23_5⟩ := Ke6_ BK331.out
    have p336 : 0 ≤ (x6_1 : Int) := of_decide_eq_true (by first | (with_reducible assumption) | assumption)
    have q336 : x6_1 < (l0_5.length : Int) := of_decide_eq_true (by first | (with_reducible assumption) | assumption)
    obtain ⟨ad336, e336, hx336_0, hx336_1, hx336_2, hx336_3⟩ := at_T38 HR0_5.out x6_1 p336 q336
    (try rw [← Nbq20.out] at hx336_3)
    cases e336
    replace hx336_0 := (HB.out.cell (World.block_lt_of_cell? w _ hx336_0)).trans hx336_0
    replace hx336_1 := (HB.out.cell (World.block_lt_of_cell? w _ hx336_1)).trans hx336_1
    replace hx336_2 := (HB.out.cell (World.block_lt_of_cell? w _ hx336_2)).trans hx336_2
    replace hx336_3 := (HB.out.cell (World.block_lt_of_cell? w _ hx336_3)).trans hx336_3
    replace p336 := eq_true p336
    replace q336 := eq_true q336
    try go_wp2_with (first | ((with_reducible refine gate_dst (N := 7) rfl ?_); refine Ka_ 7 #[.string (⟨#[]⟩ : ByteArray), .string (⟨#[]⟩ : ByteArray), .string (⟨#[]⟩ : ByteArray), .bool false] 38 ?_; intro gb337 hg w24 hbox hb; have BK337 := Aside0.mk (hbox); have GW337 := Kw_ HB hg; have GE337 := GW337; have NB331_337 := Kl_ BK331 hg; have NB337_331 := Kr_ BK331 hg; replace BK331 := Kb_ BK331 hb; replace HB := Ks_ HB hb; clear hb hbox hg; have hnb25 := NB337_331.out; have hnc25 := NB331_337.out; obtain ⟨hcz26_0, hcz26_1, hcz26_2, hcz26_3, hfz26_0, hfz26_1, hfz26_2, hfz26_3⟩ := Ke4_ BK337.out))
    have n0_ : Aside0 (((((w24.setCell ⟨gb337, 0, none⟩ (.string ((rd_T38 l0_5 x6_1).f0))).setCell ⟨gb337, 1, none⟩ (.string ((rd_T38 l0_5 x6_1).f1))).setCell ⟨gb337, 2, none⟩ (.string ((rd_T38 l0_5 x6_1).f2))).setCell ⟨gb337, 3, none⟩ (.bool true)).heap[gb331]? = some (.cells #[.int .u64 a0_0, .int .u64 a0_1, .int .u64 a0_2, .int .u64 a0_3, .int .i64 a0_4, .slice (some ad336) l0_5.length c0_5] 52 (0, 0))) := ⟨by exact K1b_ BK331 NB331_337⟩
    have n1_ : Aside0 (((((w24.setCell ⟨gb337, 0, none⟩ (.string ((rd_T38 l0_5 x6_1).f0))).setCell ⟨gb337, 1, none⟩ (.string ((rd_T38 l0_5 x6_1).f1))).setCell ⟨gb337, 2, none⟩ (.string ((rd_T38 l0_5 x6_1).f2))).setCell ⟨gb337, 3, none⟩ (.bool true)).heap[gb337]? = some (.cells #[.string ((rd_T38 l0_5 x6_1).f0), .string ((rd_T38 l0_5 x6_1).f1), .string ((rd_T38 l0_5 x6_1).f2), .bool true] 38 (0, 0))) := ⟨by refine Kv_ ?_; refine blk_put (cs := #[.string ((rd_T38 l0_5 x6_1).f0), .string ((rd_T38 l0_5 x6_1).f1), .string ((rd_T38 l0_5 x6_1).f2), .bool false]) ?_ 3 _ rfl; refine Kv_ ?_; refine blk_put (cs := #[.string ((rd_T38 l0_5 x6_1).f0), .string ((rd_T38 l0_5 x6_1).f1), .string (⟨#[]⟩ : ByteArray), .bool false]) ?_ 2 _ rfl; refine Kv_ ?_; refine blk_put (cs := #[.string ((rd_T38 l0_5 x6_1).f0), .string (⟨#[]⟩ : ByteArray), .string (⟨#[]⟩ : ByteArray), .bool false]) ?_ 1 _ rfl; refine Kv_ ?_; refine blk_put (cs := #[.string (⟨#[]⟩ : ByteArray), .string (⟨#[]⟩ : ByteArray), .string (⟨#[]⟩ : ByteArray), .bool false]) ?_ 0 _ rfl; exact Kq_ BK337⟩
    have n2_ : Aside0 (Below w.heap.size w ((((w24.setCell ⟨gb337, 0, none⟩ (.string ((rd_T38 l0_5 x6_1).f0))).setCell ⟨gb337, 1, none⟩ (.string ((rd_T38 l0_5 x6_1).f1))).setCell ⟨gb337, 2, none⟩ (.string ((rd_T38 l0_5 x6_1).f2))).setCell ⟨gb337, 3, none⟩ (.bool true))) := ⟨K2a_ HB GE331 GE337⟩
    (try clear BK331)
    (try clear BK337)
    (try clear HB)
    generalize ((((w24.setCell ⟨gb337, 0, none⟩ (.string ((rd_T38 l0_5 x6_1).f0))).setCell ⟨gb337, 1, none⟩ (.string ((rd_T38 l0_5 x6_1).f1))).setCell ⟨gb337, 2, none⟩ (.string ((rd_T38 l0_5 x6_1).f2))).setCell ⟨gb337, 3, none⟩ (.bool true)) = w27 at n0_ n1_ n2_ ⊢
    have BK331 := n0_
    have BK337 := n1_
    have HB := n2_
    clear n0_ n1_ n2_
    replace BK331 := Kd_ BK331
    replace BK337 := Kd_ BK337
    replace HB := Aside0.mk (below_drew1 HB.out)
    refine start_ (n := 10) (S := fun w' => w'.cell? ⟨gb337, 0, none⟩ = some (.string ((rd_T38 l0_5 x6_1).f0)) ∧ w'.cell? ⟨gb337, 1, none⟩ = some (.string ((rd_T38 l0_5 x6_1).f1)) ∧ w'.cell? ⟨gb337, 2, none⟩ = some (.string ((rd_T38 l0_5 x6_1).f2)) ∧ w'.cell? ⟨gb337, 3, none⟩ = some (.bool true)) (ds := []) (mB_ 10 0) (by kernel_rfl) rfl rfl (Kc4_ BK337.out) (fun hHeld => ?_); refine with_tabW tenementref08_Bytes.tab9 tenementref08_Bytes.bits9 (fun HT_ HW_ => ?_)
    generalize w27.drew = w28 at BK331 BK337 HB hHeld ⊢
    refine Kp_ 0 36 (mB_ 10 1) (any_of HT_.out (by kernel_rfl)) ?_
    refine Kp_ 1 37 (mB_ 10 3) (any_of HT_.out (by kernel_rfl)) ?_
    refine Kp_ 5 41 (mB_ 10 35) (any_of HT_.out (by kernel_rfl)) ?_
    refine Ko_ 2 38 (mB_ 10 39) (take_ofW HT_.out HW_.out (by kernel_rfl)) hHeld ?_
    refine Ko_ 6 42 (mB_ 10 103) (take_ofW HT_.out HW_.out (by kernel_rfl)) hHeld ?_
    refine one_ (i := 3) (N := some 39) (mB_ 10 111) rfl rfl (one_of HT_.out (by kernel_rfl)) (by decide) (fun K hK => ?_)
    refine goes_ Try.func40 (by kernel_rfl) rfl #[.string ((rd_T38 l0_5 x6_1).f0)] (by rfl) rfl rfl (by (try simp only [List.map_toArray, List.map_cons, List.map_nil]); first | done | rfl | (simp only [List.length_drop, List.length_take]; rfl)) ?_
    with_reducible refine (tenementref02_Text.calls k1 ((rd_T38 l0_5 x6_1).f0) t338 _ A16.out).mono ?_
    rintro e w29 ⟨rfl, hb⟩
    refine ⟨_, rfl, ?_⟩
    replace BK331 := Kb_ BK331 hb
    replace BK337 := Kb_ BK337 hb
    replace HB := Ks_ HB hb
    (try clear hb)
    (try clear hb2)
    (try clear hk)
    (try clear hi)
    refine hK.out _ _ (Kc4_ BK337.out) (fun hHeld => ?_)
    clear hK K
    refine Kn_ 39 ?_
    refine Kp_ 4 40 (mB_ 10 127) (any_of HT_.out (by kernel_rfl)) ?_
    refine one_ (i := 7) (N := some 43) (mB_ 10 255) rfl rfl (one_of HT_.out (by kernel_rfl)) (by decide) (fun K hK => ?_)
    refine goes_ Try.func40 (by kernel_rfl) rfl #[.string ((rd_T38 l0_5 x6_1).f1)] (by rfl) rfl rfl (by (try simp only [List.map_toArray, List.map_cons, List.map_nil]); first | done | rfl | (simp only [List.length_drop, List.length_take]; rfl)) ?_
    with_reducible refine (tenementref02_Text.calls k1 ((rd_T38 l0_5 x6_1).f1) t339 _ A18.out).mono ?_
    rintro e w30 ⟨rfl, hb⟩
    refine ⟨_, rfl, ?_⟩
    replace BK331 := Kb_ BK331 hb
    replace BK337 := Kb_ BK337 hb
    replace HB := Ks_ HB hb
    (try clear hb)
    (try clear hb2)
    (try clear hk)
    (try clear hi)
    refine hK.out _ _ (Kc4_ BK337.out) (fun hHeld => ?_)
    clear hK K
    refine Kn_ 43 ?_
    refine Kp_ 8 44 (mB_ 10 511) (any_of HT_.out (by kernel_rfl)) ?_
    refine Kp_ 9 4 (mB_ 10 1023) (any_of HT_.out (by kernel_rfl)) ?_
    refine done_ (done_of HT_.out (by kernel_rfl)) ?_
    obtain ⟨hcz31_0, hcz31_1, hcz31_2, hcz31_3, hfz31_0, hfz31_1, hfz31_2, hfz31_3⟩ := Ke4_ BK337.out
    try go_wp2
    go_roundg k1
    case measure => have := HK1.out; omega
    case rel => exact ⟨(((x4_1 ++ t338) ++ t339) ++ (⟨#[1]⟩ : ByteArray)), (wrap64 (x6_1 + 1)), (by first | rfl | (simp; done) | (simp [*]; done)), (by first | rfl | (simp; done) | (simp [*]; done)), H', ⟨by have := HK1.out; omega⟩, ⟨by exact Kq_ BK331⟩, ⟨K2a_ HB GE331 GE337⟩⟩
   replace c21 := Bool.eq_false_iff.mpr c21
   subst c21
   have H1 : (if ((x4_1 ++ t338) ++ t339).size + 1 ≤ 9223372036854775807 then ((tenementref02_Text.f k1 ((rd_T38 l0_5 x6_1).f2)).bind fun t340 => (if (((x4_1 ++ t338) ++ t339) ++ (⟨#[0]⟩ : ByteArray)).size + t340.size ≤ 9223372036854775807 then (tenementref08_Bytes.l0 k1 ((((x4_1 ++ t338) ++ t339) ++ (⟨#[0]⟩ : ByteArray)) ++ t340) (wrap64 (x6_1 + 1)) a0_0 a0_1 a0_2 a0_3 a0_4 l0_5) else (none))) else (none)) = some (r1, r2) := by rw [if_neg (show ¬ (false = true) by decide)] at H; exact H
   clear H
   have H := H1
   clear H1
   by_cases c32 : ((x4_1 ++ t338) ++ t339).size + 1 ≤ 9223372036854775807
   rotate_left
   ·rw [if_neg c32] at H
    exact absurd H (by simp)
   rw [if_pos c32] at H
   have c32b0 := eq_true c32
   (try (have c32b0s_ := c32b0; simp only [ByteArray.size_append, Int.natCast_add, show (⟨#[0]⟩ : ByteArray).size = 1 from rfl, show (⟨#[1]⟩ : ByteArray).size = 1 from rfl] at c32b0s_))
   have c32b1 : decide (((x4_1 ++ t338) ++ t339).size + 1 ≤ 9223372036854775807) = true := decide_eq_true c32
   (try (have c32b1s_ := c32b1; simp only [ByteArray.size_append, Int.natCast_add, show (⟨#[0]⟩ : ByteArray).size = 1 from rfl, show (⟨#[1]⟩ : ByteArray).size = 1 from rfl] at c32b1s_))
   try have c32b2 : (9223372036854775807 < ((x4_1 ++ t338) ++ t339).size + 1) = False := eq_false (Nat.not_lt.2 c32)
   (try (have c32b2s_ := c32b2; simp only [ByteArray.size_append, Int.natCast_add, show (⟨#[0]⟩ : ByteArray).size = 1 from rfl, show (⟨#[1]⟩ : ByteArray).size = 1 from rfl] at c32b2s_))
   replace H := Option.bind_eq_some_iff.mp H
   obtain ⟨t340, A330, H⟩ := H
   replace H : (if (((x4_1 ++ t338) ++ t339) ++ (⟨#[0]⟩ : ByteArray)).size + t340.size ≤ 9223372036854775807 then (tenementref08_Bytes.l0 k1 ((((x4_1 ++ t338) ++ t339) ++ (⟨#[0]⟩ : ByteArray)) ++ t340) (wrap64 (x6_1 + 1)) a0_0 a0_1 a0_2 a0_3 a0_4 l0_5) else (none)) = some (r1, r2) := H
   have A33 := Aside0.mk A330
   clear A330
   by_cases c34 : (((x4_1 ++ t338) ++ t339) ++ (⟨#[0]⟩ : ByteArray)).size + t340.size ≤ 9223372036854775807
   rotate_left
   ·rw [if_neg c34] at H
    exact absurd H (by simp)
   rw [if_pos c34] at H
   have c34b0 := eq_true c34
   (try (have c34b0s_ := c34b0; simp only [ByteArray.size_append, Int.natCast_add, show (⟨#[0]⟩ : ByteArray).size = 1 from rfl, show (⟨#[1]⟩ : ByteArray).size = 1 from rfl] at c34b0s_))
   have c34b1 : decide ((((x4_1 ++ t338) ++ t339) ++ (⟨#[0]⟩ : ByteArray)).size + t340.size ≤ 9223372036854775807) = true := decide_eq_true c34
   (try (have c34b1s_ := c34b1; simp only [ByteArray.size_append, Int.natCast_add, show (⟨#[0]⟩ : ByteArray).size = 1 from rfl, show (⟨#[1]⟩ : ByteArray).size = 1 from rfl] at c34b1s_))
   try have c34b2 : (9223372036854775807 < (((x4_1 ++ t338) ++ t339) ++ (⟨#[0]⟩ : ByteArray)).size + t340.size) = False := eq_false (Nat.not_lt.2 c34)
   (try (have c34b2s_ := c34b2; simp only [ByteArray.size_append, Int.natCast_add, show (⟨#[0]⟩ : ByteArray).size = 1 from rfl, show (⟨#[1]⟩ : ByteArray).size = 1 from rfl] at c34b2s_))
   have H' := Aside0.mk H
   clear H
   obtain ⟨hcz35_0, hcz35_1, hcz35_2, hcz35_3, hcz35_4, hcz35_5, hfz35_0, hfz35_1, hfz35_2, hfz35_3, hfz35_4, hfz35_5⟩ := Ke6_ BK331.out
   have p336 : 0 ≤ (x6_1 : Int) := of_decide_eq_true (by first | (with_reducible assumption) | assumption)
   have q336 : x6_1 < (l0_5.length : Int) := of_decide_eq_true (by first | (with_reducible assumption) | assumption)
   obtain ⟨ad336, e336, hx336_0, hx336_1, hx336_2, hx336_3⟩ := at_T38 HR0_5.out x6_1 p336 q336
   (try rw [← Nbq20.out] at hx336_3)
   cases e336
   replace hx336_0 := (HB.out.cell (World.block_lt_of_cell? w _ hx336_0)).trans hx336_0
   replace hx336_1 := (HB.out.cell (World.block_lt_of_cell? w _ hx336_1)).trans hx336_1
   replace hx336_2 := (HB.out.cell (World.block_lt_of_cell? w _ hx336_2)).trans hx336_2
   replace hx336_3 := (HB.out.cell (World.block_lt_of_cell? w _ hx336_3)).trans hx336_3
   replace p336 := eq_true p336
   replace q336 := eq_true q336
   try go_wp2_with (first | ((with_reducible refine gate_dst (N := 7) rfl ?_); refine Ka_ 7 #[.string (⟨#[]⟩ : ByteArray), .string (⟨#[]⟩ : ByteArray), .string (⟨#[]⟩ : ByteArray), .bool false] 38 ?_; intro gb337 hg w36 hbox hb; have BK337 := Aside0.mk (hbox); have GW337 := Kw_ HB hg; have GE337 := GW337; have NB331_337 := Kl_ BK331 hg; have NB337_331 := Kr_ BK331 hg; replace BK331 := Kb_ BK331 hb; replace HB := Ks_ HB hb; clear hb hbox hg; have hnb37 := NB337_331.out; have hnc37 := NB331_337.out; obtain ⟨hcz38_0, hcz38_1, hcz38_2, hcz38_3, hfz38_0, hfz38_1, hfz38_2, hfz38_3⟩ := Ke4_ BK337.out))
   have n0_ : Aside0 (((((w36.setCell ⟨gb337, 0, none⟩ (.string ((rd_T38 l0_5 x6_1).f0))).setCell ⟨gb337, 1, none⟩ (.string ((rd_T38 l0_5 x6_1).f1))).setCell ⟨gb337, 2, none⟩ (.string ((rd_T38 l0_5 x6_1).f2))).setCell ⟨gb337, 3, none⟩ (.bool false)).heap[gb331]? = some (.cells #[.int .u64 a0_0, .int .u64 a0_1, .int .u64 a0_2, .int .u64 a0_3, .int .i64 a0_4, .slice (some ad336) l0_5.length c0_5] 52 (0, 0))) := ⟨by exact K1b_ BK331 NB331_337⟩
   have n1_ : Aside0 (((((w36.setCell ⟨gb337, 0, none⟩ (.string ((rd_T38 l0_5 x6_1).f0))).setCell ⟨gb337, 1, none⟩ (.string ((rd_T38 l0_5 x6_1).f1))).setCell ⟨gb337, 2, none⟩ (.string ((rd_T38 l0_5 x6_1).f2))).setCell ⟨gb337, 3, none⟩ (.bool false)).heap[gb337]? = some (.cells #[.string ((rd_T38 l0_5 x6_1).f0), .string ((rd_T38 l0_5 x6_1).f1), .string ((rd_T38 l0_5 x6_1).f2), .bool false] 38 (0, 0))) := ⟨by refine Kv_ ?_; refine blk_put (cs := #[.string ((rd_T38 l0_5 x6_1).f0), .string ((rd_T38 l0_5 x6_1).f1), .string ((rd_T38 l0_5 x6_1).f2), .bool false]) ?_ 3 _ rfl; refine Kv_ ?_; refine blk_put (cs := #[.string ((rd_T38 l0_5 x6_1).f0), .string ((rd_T38 l0_5 x6_1).f1), .string (⟨#[]⟩ : ByteArray), .bool false]) ?_ 2 _ rfl; refine Kv_ ?_; refine blk_put (cs := #[.string ((rd_T38 l0_5 x6_1).f0), .string (⟨#[]⟩ : ByteArray), .string (⟨#[]⟩ : ByteArray), .bool false]) ?_ 1 _ rfl; refine Kv_ ?_; refine blk_put (cs := #[.string (⟨#[]⟩ : ByteArray), .string (⟨#[]⟩ : ByteArray), .string (⟨#[]⟩ : ByteArray), .bool false]) ?_ 0 _ rfl; exact Kq_ BK337⟩
   have n2_ : Aside0 (Below w.heap.size w ((((w36.setCell ⟨gb337, 0, none⟩ (.string ((rd_T38 l0_5 x6_1).f0))).setCell ⟨gb337, 1, none⟩ (.string ((rd_T38 l0_5 x6_1).f1))).setCell ⟨gb337, 2, none⟩ (.string ((rd_T38 l0_5 x6_1).f2))).setCell ⟨gb337, 3, none⟩ (.bool false))) := ⟨K2a_ HB GE331 GE337⟩
   (try clear BK331)
   (try clear BK337)
   (try clear HB)
   generalize ((((w36.setCell ⟨gb337, 0, none⟩ (.string ((rd_T38 l0_5 x6_1).f0))).setCell ⟨gb337, 1, none⟩ (.string ((rd_T38 l0_5 x6_1).f1))).setCell ⟨gb337, 2, none⟩ (.string ((rd_T38 l0_5 x6_1).f2))).setCell ⟨gb337, 3, none⟩ (.bool false)) = w39 at n0_ n1_ n2_ ⊢
   have BK331 := n0_
   have BK337 := n1_
   have HB := n2_
   clear n0_ n1_ n2_
   replace BK331 := Kd_ BK331
   replace BK337 := Kd_ BK337
   replace HB := Aside0.mk (below_drew1 HB.out)
   refine start_ (n := 10) (S := fun w' => w'.cell? ⟨gb337, 0, none⟩ = some (.string ((rd_T38 l0_5 x6_1).f0)) ∧ w'.cell? ⟨gb337, 1, none⟩ = some (.string ((rd_T38 l0_5 x6_1).f1)) ∧ w'.cell? ⟨gb337, 2, none⟩ = some (.string ((rd_T38 l0_5 x6_1).f2)) ∧ w'.cell? ⟨gb337, 3, none⟩ = some (.bool false)) (ds := []) (mB_ 10 0) (by kernel_rfl) rfl rfl (Kc4_ BK337.out) (fun hHeld => ?_); refine with_tabW tenementref08_Bytes.tab9 tenementref08_Bytes.bits9 (fun HT_ HW_ => ?_)
   generalize w39.drew = w40 at BK331 BK337 HB hHeld ⊢
   refine Kp_ 0 36 (mB_ 10 1) (any_of HT_.out (by kernel_rfl)) ?_
   refine Kp_ 1 37 (mB_ 10 3) (any_of HT_.out (by kernel_rfl)) ?_
   refine Kp_ 5 41 (mB_ 10 35) (any_of HT_.out (by kernel_rfl)) ?_
   refine Ko_ 2 38 (mB_ 10 39) (take_ofW HT_.out HW_.out (by kernel_rfl)) hHeld ?_
   refine Ko_ 6 42 (mB_ 10 103) (take_ofW HT_.out HW_.out (by kernel_rfl)) hHeld ?_
   refine one_ (i := 3) (N := some 39) (mB_ 10 111) rfl rfl (one_of HT_.out (by kernel_rfl)) (by decide) (fun K hK => ?_)
   refine goes_ Try.func40 (by kernel_rfl) rfl #[.string ((rd_T38 l0_5 x6_1).f0)] (by rfl) rfl rfl (by (try simp only [List.map_toArray, List.map_cons, List.map_nil]); first | done | rfl | (simp only [List.length_drop, List.length_take]; rfl)) ?_
   with_reducible refine (tenementref02_Text.calls k1 ((rd_T38 l0_5 x6_1).f0) t338 _ A16.out).mono ?_
   rintro e w41 ⟨rfl, hb⟩
   refine ⟨_, rfl, ?_⟩
   replace BK331 := Kb_ BK331 hb
   replace BK337 := Kb_ BK337 hb
   replace HB := Ks_ HB hb
   (try clear hb)
   (try clear hb2)
   (try clear hk)
   (try clear hi)
   refine hK.out _ _ (Kc4_ BK337.out) (fun hHeld => ?_)
   clear hK K
   refine Kn_ 39 ?_
   refine Kp_ 4 40 (mB_ 10 127) (any_of HT_.out (by kernel_rfl)) ?_
   refine one_ (i := 7) (N := some 43) (mB_ 10 255) rfl rfl (one_of HT_.out (by kernel_rfl)) (by decide) (fun K hK => ?_)
   refine goes_ Try.func40 (by kernel_rfl) rfl #[.string ((rd_T38 l0_5 x6_1).f1)] (by rfl) rfl rfl (by (try simp only [List.map_toArray, List.map_cons, List.map_nil]); first | done | rfl | (simp only [List.length_drop, List.length_take]; rfl)) ?_
   with_reducible refine (tenementref02_Text.calls k1 ((rd_T38 l0_5 x6_1).f1) t339 _ A18.out).mono ?_
   rintro e w42 ⟨rfl, hb⟩
   refine ⟨_, rfl, ?_⟩
   replace BK331 := Kb_ BK331 hb
   replace BK337 := Kb_ BK337 hb
   replace HB := Ks_ HB hb
   (try clear hb)
   (try clear hb2)
   (try clear hk)
   (try clear hi)
   refine hK.out _ _ (Kc4_ BK337.out) (fun hHeld => ?_)
   clear hK K
   refine Kn_ 43 ?_
   refine Kp_ 8 44 (mB_ 10 511) (any_of HT_.out (by kernel_rfl)) ?_
   refine Kp_ 9 4 (mB_ 10 1023) (any_of HT_.out (by kernel_rfl)) ?_
   refine done_ (done_of HT_.out (by kernel_rfl)) ?_
   obtain ⟨hcz43_0, hcz43_1, hcz43_2, hcz43_3, hfz43_0, hfz43_1, hfz43_2, hfz43_3⟩ := Ke4_ BK337.out
   try go_wp2_with (first | ((with_reducible refine gate_callee (f := 40) rfl ?_); refine Kg_ (some 53) rfl rfl Try.func40 (by kernel_rfl) rfl #[.string ((rd_T38 l0_5 x6_1).f2)] rfl ?_; (with_reducible refine (tenementref02_Text.calls k1 ((rd_T38 l0_5 x6_1).f2) t340 _ A33.out).mono ?_); rintro e w44 ⟨rfl, hb⟩; refine ⟨_, rfl, ?_⟩; replace BK331 := Kb_ BK331 hb; replace BK337 := Kb_ BK337 hb; replace HB := Ks_ HB hb; (try clear hb); (try clear hb2); (try clear hk); (try clear hi)))
   go_roundg k1
   case measure => have := HK1.out; omega
   case rel => exact ⟨((((x4_1 ++ t338) ++ t339) ++ (⟨#[0]⟩ : ByteArray)) ++ t340), (wrap64 (x6_1 + 1)), (by first | rfl | (simp; done) | (simp [*]; done)), (by first | rfl | (simp; done) | (simp [*]; done)), H', ⟨by have := HK1.out; omega⟩, ⟨by exact Kq_ BK331⟩, ⟨K2a_ HB GE331 GE337⟩⟩
end Go.Proofs.Ytoogchgoiciggaa.Q
