import Derived.Test.YtoagfdpgnfinhaaGStreamTells8
import Derived.Test.YtoagfdpgnfinhaaGStreamTells7
import Derived.Test.YtoagfdpgnfinhaaGStreamTells6
import Derived.Test.YtoagfdpgnfinhaaGStreamTells2
import Derived.Test.YtoagfdpgnfinhaaGStreamTells5
import Derived.Test.YtoagfdpgnfinhaaGStreamTells4
set_option linter.unusedVariables false
set_option linter.unusedSimpArgs false
namespace Go.Proofs.Ytoagfdpgnfinhaa.Pure
open Go.RowKit Go.Proofs.Ytoagfdpgnfinhaa.Q Go.Proofs.YtoagfdpgnfinhaaW.PrintWords Go.Proofs.YtoagfdpgnfinhaaW.PrintLast Go.Proofs.YtoagfdpgnfinhaaW.PrintMore Go.Proofs.Ytoagfdpgnfinhaa.Plain
theorem rN_f (a b c d e : Int) : tenementref07_Stamp_N.f a b c d e = some (own a b c d e) := rfl
theorem rsright_true {a b c d e : Int} (h : okS a b c d e) {k : Nat} (hk : 5 ≤ k) : tenementref07_Right.f k a b c d e = some true := by
 unfold tenementref07_Right.f
 rw [rright06_f hk, Option.bind_some, if_pos (decide_eq_true h.1), rN_f, Option.bind_some, decide_eq_true (show own a b c d e ≥ 1 from h.2)]
theorem rsright_false {a b c d e : Int} (h : ¬ okS a b c d e) {k : Nat} (hk : 5 ≤ k) : tenementref07_Right.f k a b c d e = some false := by
 unfold tenementref07_Right.f
 rw [rright06_f hk, Option.bind_some]
 by_cases c1 : (a ≤ 1152921504606846976 ∧ b ≤ 1152921504606846976 ∧ c ≤ 1152921504606846976 ∧ d ≤ 1152921504606846976)
 ·rw [if_pos (decide_eq_true c1), rN_f, Option.bind_some, decide_eq_false (show ¬ own a b c d e ≥ 1 from fun c2 => h ⟨c1, c2⟩)]
 ·rw [if_neg (by simpa using c1)]
theorem rsput_true {n0 n1 n2 n3 dc : Nat} (h : okS n0 n1 n2 n3 dc) {k : Nat} (hk : 34 ≤ k) : tenementref07_Put.f k n0 n1 n2 n3 dc = some (sp dc n0 n1 n2 n3, true) := by
 have hd := okS_dc h
 have hb := h.1
 have z := vv_size (a := n0) (b := n1) (c := n2) (d := n3) (by omega) (by omega) (by omega) (by omega)
 obtain ⟨r, q1, q2⟩ := put_same (n := dc) (K := 1) (by omega) (by decide) hk
 rw [Number_f dc 1 (by omega) (by omega)] at q1
 obtain rfl := Option.some.inj q1
 unfold tenementref07_Put.f
 rw [rsright_true h (by omega), Option.bind_some, if_pos rfl, wrap_u64 (by omega) (by omega), q2, Option.bind_some, rput06_f (by omega) (by omega) (by omega) (by omega) (by omega), Option.bind_some]
 show (if (nb dc 1).size + (vv n0 n1 n2 n3).size ≤ 9223372036854775807 then _ else _) = _
 rw [if_pos (by rw [nb_size]; omega)]
 rfl
end Go.Proofs.Ytoagfdpgnfinhaa.Pure

namespace Go.Proofs.Ytoagfdpgnfinhaa.Q
open Go.RowKit Go.Proofs.YtoagfdpgnfinhaaW.PrintWords Go.Proofs.YtoagfdpgnfinhaaW.PrintLast Go.Proofs.YtoagfdpgnfinhaaW.PrintMore
attribute [local go_sem] max2_int min2_int max_two min_two max_three min_three max_four min_four   -- for this text's walks alone
set_option linter.unusedVariables false
set_option linter.unusedSimpArgs false
theorem eqA117 (d : Nat) (w : World) (x0 y0 : ByteArray) (x1 y1 : ByteArray) (x2 y2 : ByteArray) (x3 y3 : Bool) :
  (Op.equalIn (d + 2) 117 (.agg #[.string x0, .string x1, .string x2, .bool x3]) (.agg #[.string y0, .string y1, .string y2, .bool y3])).run Try.prog w = .ok (x0.toList == y0.toList && (x1.toList == y1.toList && (x2.toList == y2.toList && (x3 == y3)))) w := by
 refine eqA_of Try.underlying117 (by kernel_rfl) ?_
 refine eqf_cons (by rfl) (by go_simp; rfl) (by go_simp; rfl) (by go_simp) ?_
 refine eqf_cons (by rfl) (by go_simp; rfl) (by go_simp; rfl) (by go_simp) ?_
 refine eqf_cons (by rfl) (by go_simp; rfl) (by go_simp; rfl) (by go_simp) ?_
 exact eqf_last (by rfl) (by go_simp; rfl) (by go_simp; rfl) (by go_simp)
end Go.Proofs.Ytoagfdpgnfinhaa.Q

namespace Go.Proofs.Ytoagfdpgnfinhaa.Q
open Go.RowKit Go.Proofs.YtoagfdpgnfinhaaW.PrintWords Go.Proofs.YtoagfdpgnfinhaaW.PrintLast Go.Proofs.YtoagfdpgnfinhaaW.PrintMore
attribute [local go_sem] max2_int min2_int max_two min_two max_three min_three max_four min_four   -- for this text's walks alone
set_option linter.unusedVariables false
set_option linter.unusedSimpArgs false
attribute [local go_sem] ixA50_0 ixA50_1 ixA50_2 ixA50_3   -- for this text's walks alone
attribute [local go_sem high] eqA52 eqA117
mutual
def tenementref08_Same.j0 : Nat → Bool → Int → Int → Int → Int → Int → List (S117) → Int → Int → Int → Int → Int → List (S117) → Option (Bool)
 | 0, _, _, _, _, _, _, _, _, _, _, _, _, _ => none
 | k + 1, x19, x102, x103, x104, x105, x106, x100, x107, x108, x109, x110, x111, x101 => if x19 = true then (some false) else (tenementref08_Same.l0 k 0 x102 x103 x104 x105 x106 x100 x107 x108 x109 x110 x111 x101)
def tenementref08_Same.l0 : Nat → Int → Int → Int → Int → Int → Int → List (S117) → Int → Int → Int → Int → Int → List (S117) → Option (Bool)
 | 0, _, _, _, _, _, _, _, _, _, _, _, _, _ => none
 | k + 1, x5, x102, x103, x104, x105, x106, x100, x107, x108, x109, x110, x111, x101 => if x5 < (x100.length : Int) then (if 0 ≤ x5 then (if x5 < (x101.length : Int) then (if (!((((rd_T117 x100 x5).f0).toList) == (((rd_T117 x101 x5).f0).toList)) || (!((((rd_T117 x100 x5).f1).toList) == (((rd_T117 x101 x5).f1).toList)) || (!((((rd_T117 x100 x5).f2).toList) == (((rd_T117 x101 x5).f2).toList)) || (!(((rd_T117 x100 x5).f3) == ((rd_T117 x101 x5).f3)))))) = true then (some false) else (tenementref08_Same.l0 k (wrap64 (x5 + 1)) x102 x103 x104 x105 x106 x100 x107 x108 x109 x110 x111 x101)) else (none)) else (none)) else (some true)
end
def tenementref08_Same.f (k : Nat) (a0_0 : Int) (a0_1 : Int) (a0_2 : Int) (a0_3 : Int) (a0_4 : Int) (l0_5 : List (S117)) (a1_0 : Int) (a1_1 : Int) (a1_2 : Int) (a1_3 : Int) (a1_4 : Int) (l1_5 : List (S117)) : Option (Bool) := if ((!(a0_0 == a1_0) || (!(a0_1 == a1_1) || (!(a0_2 == a1_2) || (!(a0_3 == a1_3))))) || (!(a0_4 == a1_4))) = true then (tenementref08_Same.j0 k true a0_0 a0_1 a0_2 a0_3 a0_4 l0_5 a1_0 a1_1 a1_2 a1_3 a1_4 l1_5) else (tenementref08_Same.j0 k ((l0_5.length : Int) != (l1_5.length : Int)) a0_0 a0_1 a0_2 a0_3 a0_4 l0_5 a1_0 a1_1 a1_2 a1_3 a1_4 l1_5)
set_option maxHeartbeats 8000000 in
set_option maxRecDepth 100000 in
theorem tenementref08_Same.calls (k : Nat) (a0_0 : Int) (a0_1 : Int) (a0_2 : Int) (a0_3 : Int) (a0_4 : Int) (A0_5 : Option Addr) (c0_5 : Nat) (l0_5 : List (S117)) (a1_0 : Int) (a1_1 : Int) (a1_2 : Int) (a1_3 : Int) (a1_4 : Int) (A1_5 : Option Addr) (c1_5 : Nat) (l1_5 : List (S117)) (r : Bool) (w : World) (hr0_5 : Kd.C k117 w A0_5 l0_5.length l0_5) (hc0_5 : l0_5.length ≤ c0_5) (hr1_5 : Kd.C k117 w A1_5 l1_5.length l1_5) (hc1_5 : l1_5.length ≤ c1_5) (h : tenementref08_Same.f k a0_0 a0_1 a0_2 a0_3 a0_4 l0_5 a1_0 a1_1 a1_2 a1_3 a1_4 l1_5 = some r) :
  Calls Try.prog 17 #[.agg #[.int .u64 a0_0, .int .u64 a0_1, .int .u64 a0_2, .int .u64 a0_3, .int .i64 a0_4, .slice A0_5 l0_5.length c0_5], .agg #[.int .u64 a1_0, .int .u64 a1_1, .int .u64 a1_2, .int .u64 a1_3, .int .i64 a1_4, .slice A1_5 l1_5.length c1_5]] w fun e w' => e = .returned (.bool r) ∧ Below w.heap.size w w' := by
 have hu55 := Try.underlying55
 have hu52 := Try.underlying52
 have hu117 := Try.underlying117
 have HR0_5 := Aside0.mk hr0_5
 have HC0_5 := Aside0.mk hc0_5
 clear hr0_5 hc0_5
 have HR1_5 := Aside0.mk hr1_5
 have HC1_5 := Aside0.mk hc1_5
 clear hr1_5 hc1_5
 have HB := Aside0.mk (Below.refl w.heap.size w)
 have H : (if ((!(a0_0 == a1_0) || (!(a0_1 == a1_1) || (!(a0_2 == a1_2) || (!(a0_3 == a1_3))))) || (!(a0_4 == a1_4))) = true then (tenementref08_Same.j0 k true a0_0 a0_1 a0_2 a0_3 a0_4 l0_5 a1_0 a1_1 a1_2 a1_3 a1_4 l1_5) else (tenementref08_Same.j0 k ((l0_5.length : Int) != (l1_5.length : Int)) a0_0 a0_1 a0_2 a0_3 a0_4 l0_5 a1_0 a1_1 a1_2 a1_3 a1_4 l1_5)) = some r := h
 clear h
 have HC3 := Aside0.mk H
 clear H
 go_enter Try.func17, Try.ntmps17
 go_upto_region 1 with (first | ((with_reducible refine gate_dst (N := 2) rfl ?_); refine Ka_ 2 #[.int .u64 a0_0, .int .u64 a0_1, .int .u64 a0_2, .int .u64 a0_3, .int .i64 a0_4, .slice A0_5 l0_5.length c0_5] 55 ?_; intro gb276 hg w4 hbox hb; have BK276 := Aside0.mk (hbox); have GW276 := Kw_ HB hg; have GE276 := GW276; replace HB := Ks_ HB hb; clear hb hbox hg) | ((with_reducible refine gate_dst (N := 3) rfl ?_); refine Ka_ 3 #[.int .u64 a1_0, .int .u64 a1_1, .int .u64 a1_2, .int .u64 a1_3, .int .i64 a1_4, .slice A1_5 l1_5.length c1_5] 55 ?_; intro gb277 hg w5 hbox hb; have BK277 := Aside0.mk (hbox); have GW277 := Kw_ HB hg; have GE277 := GW277; have NB276_277 := Kl_ BK276 hg; have NB277_276 := Kr_ BK276 hg; replace BK276 := Kb_ BK276 hb; replace HB := Ks_ HB hb; clear hb hbox hg))
 repeat (go_quiet (first | ((with_reducible refine gate_dst (N := 2) rfl ?_); refine Ka_ 2 #[.int .u64 a0_0, .int .u64 a0_1, .int .u64 a0_2, .int .u64 a0_3, .int .i64 a0_4, .slice A0_5 l0_5.length c0_5] 55 ?_; intro gb276 hg w4 hbox hb; have BK276 := Aside0.mk (hbox); have GW276 := Kw_ HB hg; have GE276 := GW276; replace HB := Ks_ HB hb; clear hb hbox hg) | ((with_reducible refine gate_dst (N := 3) rfl ?_); refine Ka_ 3 #[.int .u64 a1_0, .int .u64 a1_1, .int .u64 a1_2, .int .u64 a1_3, .int .i64 a1_4, .slice A1_5 l1_5.length c1_5] 55 ?_; intro gb277 hg w5 hbox hb; have BK277 := Aside0.mk (hbox); have GW277 := Kw_ HB hg; have GE277 := GW277; have NB276_277 := Kl_ BK276 hg; have NB277_276 := Kr_ BK276 hg; replace BK276 := Kb_ BK276 hb; replace HB := Ks_ HB hb; clear hb hbox hg)); go_upto_region 1 with (first | ((with_reducible refine gate_dst (N := 2) rfl ?_); refine Ka_ 2 #[.int .u64 a0_0, .int .u64 a0_1, .int .u64 a0_2, .int .u64 a0_3, .int .i64 a0_4, .slice A0_5 l0_5.length c0_5] 55 ?_; intro gb276 hg w4 hbox hb; have BK276 := Aside0.mk (hbox); have GW276 := Kw_ HB hg; have GE276 := GW276; replace HB := Ks_ HB hb; clear hb hbox hg) | ((with_reducible refine gate_dst (N := 3) rfl ?_); refine Ka_ 3 #[.int .u64 a1_0, .int .u64 a1_1, .int .u64 a1_2, .int .u64 a1_3, .int .i64 a1_4, .slice A1_5 l1_5.length c1_5] 55 ?_; intro gb277 hg w5 hbox hb; have BK277 := Aside0.mk (hbox); have GW277 := Kw_ HB hg; have GE277 := GW277; have NB276_277 := Kl_ BK276 hg; have NB277_276 := Kr_ BK276 hg; replace BK276 := Kb_ BK276 hb; replace HB := Ks_ HB hb; clear hb hbox hg)))
 (try simp only [Act.put, List.setIfInBounds_toArray, List.set_cons_zero, List.set_cons_succ])
 go_cut [19] (fun v19 wc => ∃ (kq : Nat) (x19_2 : Bool), v19 = .bool x19_2 ∧ Aside0 (tenementref08_Same.j0 kq x19_2 a0_0 a0_1 a0_2 a0_3 a0_4 l0_5 a1_0 a1_1 a1_2 a1_3 a1_4 l1_5 = some r) ∧ Aside0 (kq ≤ k) ∧ Aside0 (wc.heap[gb276]? = some (.cells #[.int .u64 a0_0, .int .u64 a0_1, .int .u64 a0_2, .int .u64 a0_3, .int .i64 a0_4, (.slice A0_5 l0_5.length c0_5)] 55 (0, 0))) ∧ Aside0 (wc.heap[gb277]? = some (.cells #[.int .u64 a1_0, .int .u64 a1_1, .int .u64 a1_2, .int .u64 a1_3, .int .i64 a1_4, (.slice A1_5 l1_5.length c1_5)] 55 (0, 0))) ∧ Aside0 (Below w.heap.size w wc))
 case first =>
  have H := HC3.out
  clear HC3
  by_cases c6 : ((!(a0_0 == a1_0) || (!(a0_1 == a1_1) || (!(a0_2 == a1_2) || (!(a0_3 == a1_3))))) || (!(a0_4 == a1_4))) = true
  ·rw [if_pos c6] at H
   have c6b0 : ((!(a0_0 == a1_0) || (!(a0_1 == a1_1) || (!(a0_2 == a1_2) || (!(a0_3 == a1_3))))) || (!(a0_4 == a1_4))) = true := c6
   clear c6
   (first | rw [c6b0] | (simp only [i64_w, i32_w]; rw [c6b0]) | skip)
   have H' := Aside0.mk H
   clear H
   have hnb7 := NB276_277.out
   have hnc7 := NB277_276.out
   obtain ⟨hcz8_0, hcz8_1, hcz8_2, hcz8_3, hcz8_4, hcz8_5, hfz8_0, hfz8_1, hfz8_2, hfz8_3, hfz8_4, hfz8_5⟩ := Ke6_ BK276.out
   obtain ⟨hcz9_0, hcz9_1, hcz9_2, hcz9_3, hcz9_4, hcz9_5, hfz9_0, hfz9_1, hfz9_2, hfz9_3, hfz9_4, hfz9_5⟩ := Ke6_ BK277.out
   go_wp2
   repeat (go_quiet (fail); try go_wp2)
   go_meet
   case rel => exact ⟨_, (true), (by first | rfl | (simp; done) | (simp [*]; done)), H', ⟨by first | omega | exact Nat.le_refl _⟩, ⟨by exact Kq_ BK276⟩, ⟨by exact Kq_ BK277⟩, ⟨K2a_ HB GE276 GE277⟩⟩
  rw [if_neg c6] at H
  have c6b0 : ((!(a0_0 == a1_0) || (!(a0_1 == a1_1) || (!(a0_2 == a1_2) || (!(a0_3 == a1_3))))) || (!(a0_4 == a1_4))) = false := by simpa using c6
  clear c6
  (first | rw [c6b0] | (simp only [i64_w, i32_w]; rw [c6b0]) | skip)
  have H' := Aside0.mk H
  clear H
  have hnb10 := NB276_277.out
  have hnc10 := NB277_276.out
  obtain ⟨hcz11_0, hcz11_1, hcz11_2, hcz11_3, hcz11_4, hcz11_5, hfz11_0, hfz11_1, hfz11_2, hfz11_3, hfz11_4, hfz11_5⟩ := Ke6_ BK276.out
  obtain ⟨hcz12_0, hcz12_1, hcz12_2, hcz12_3, hcz12_4, hcz12_5, hfz12_0, hfz12_1, hfz12_2, hfz12_3, hfz12_4, hfz12_5⟩ := Ke6_ BK277.out
  go_wp2
  repeat (go_quiet (fail); try go_wp2)
  go_meet
  case rel => exact ⟨_, (((l0_5.length : Int) != (l1_5.length : Int))), (by first | rfl | (simp; done) | (simp [*]; done)), H', ⟨by first | omega | exact Nat.le_refl _⟩, ⟨by exact Kq_ BK276⟩, ⟨by exact Kq_ BK277⟩, ⟨K2a_ HB GE276 GE277⟩⟩
 case rest =>
  clear HC3
  try clear c1
  try clear p2
  try clear c6
  try clear c6b0
  try clear c7
  try clear c10
  try clear hcz11_0
  try clear hcz11_1
  try clear hcz11_2
  try clear hcz11_3
  try clear hcz11_4
  try clear hcz11_5
  try clear hcz12_0
  try clear hcz12_1
  try clear hcz12_2
  try clear hcz12_3
  try clear hcz12_4
  try clear hcz12_5
  try clear hcz8_0
  try clear hcz8_1
  try clear hcz8_2
  try clear hcz8_3
  try clear hcz8_4
  try clear hcz8_5
  try clear hcz9_0
  try clear hcz9_1
  try clear hcz9_2
  try clear hcz9_3
  try clear hcz9_4
  try clear hcz9_5
  try clear hfz11_0
  try clear hfz11_1
  try clear hfz11_2
  try clear hfz11_3
  try clear hfz11_4
  try clear hfz11_5
  try clear hfz12_0
  try clear hfz12_1
  try clear hfz12_2
  try clear hfz12_3
  try clear hfz12_4
  try clear hfz12_5
  try clear hfz8_0
  try clear hfz8_1
  try clear hfz8_2
  try clear hfz8_3
  try clear hfz8_4
  try clear hfz8_5
  try clear hfz9_0
  try clear hfz9_1
  try clear hfz9_2
  try clear hfz9_3
  try clear hfz9_4
  try clear hfz9_5
  obtain ⟨kq, x19_2, rfl, HA, HJ2, BK276, BK277, HB⟩ := hcut
  cases kq with
  | zero => exact absurd HA.out (by simp [tenementref08_Same.j0])
  | succ kj2 =>
   have H := HA.out
   clear HA
   simp only [tenementref08_Same.j0] at H
   by_cases c13 : x19_2 = true
   ·subst c13
    have H1 : (some false) = some r := by rw [if_pos rfl] at H; exact H
    clear H
    have H := H1
    clear H1
    obtain rfl := Option.some.inj H
    go_wp2
    repeat (go_quiet (fail); try go_wp2)
    go_ret
    exact ⟨Kh_, K2a_ HB GE276 GE277⟩
   replace c13 := Bool.eq_false_iff.mpr c13
   subst c13
   have H1 : (tenementref08_Same.l0 kj2 0 a0_0 a0_1 a0_2 a0_3 a0_4 l0_5 a1_0 a1_1 a1_2 a1_3 a1_4 l1_5) = some r := by rw [if_neg (show ¬ (false = true) by decide)] at H; exact H
   clear H
   have H := H1
   clear H1
   have H' := Aside0.mk H
   clear H
   go_wp2
   repeat (go_quiet (fail); try go_wp2)
   go_loopg [5] kj2 (fun kq v5 w' => ∃ (x5_2 : Int), v5 = .int .i64 x5_2 ∧ Aside0 (tenementref08_Same.l0 kq x5_2 a0_0 a0_1 a0_2 a0_3 a0_4 l0_5 a1_0 a1_1 a1_2 a1_3 a1_4 l1_5 = some r) ∧ Aside0 (kq ≤ kj2) ∧ Aside0 (w'.heap[gb276]? = some (.cells #[.int .u64 a0_0, .int .u64 a0_1, .int .u64 a0_2, .int .u64 a0_3, .int .i64 a0_4, (.slice A0_5 l0_5.length c0_5)] 55 (0, 0))) ∧ Aside0 (w'.heap[gb277]? = some (.cells #[.int .u64 a1_0, .int .u64 a1_1, .int .u64 a1_2, .int .u64 a1_3, .int .i64 a1_4, (.slice A1_5 l1_5.length c1_5)] 55 (0, 0))) ∧ Aside0 (Below w.heap.size w w'))
   case atStart => exact ⟨(0), (by first | rfl | (simp; done) | (simp [*]; done)), H', ⟨Nat.le_refl _⟩, ⟨by exact Kq_ BK276⟩, ⟨by exact Kq_ BK277⟩, ⟨K2a_ HB GE276 GE277⟩⟩
   case round =>
    clear H'
    try clear c1
    try clear p2
    try clear c6
    try clear c6b0
    try clear c7
    try clear c10
    try clear c13
    try clear hcz11_0
    try clear hcz11_1
    try clear hcz11_2
    try clear hcz11_3
    try clear hcz11_4
    try clear hcz11_5
    try clear hcz12_0
    try clear hcz12_1
    try clear hcz12_2
    try clear hcz12_3
    try clear hcz12_4
    try clear hcz12_5
    try clear hcz8_0
    try clear hcz8_1
    try clear hcz8_2
    try clear hcz8_3
    try clear hcz8_4
    try clear hcz8_5
    try clear hcz9_0
    try clear hcz9_1
    try clear hcz9_2
    try clear hcz9_3
    try clear hcz9_4
    try clear hcz9_5
    try clear hfz11_0
    try clear hfz11_1
    try clear hfz11_2
    try clear hfz11_3
    try clear hfz11_4
    try clear hfz11_5
    try clear hfz12_0
    try clear hfz12_1
    try clear hfz12_2
    try clear hfz12_3
    try clear hfz12_4
    try clear hfz12_5
    try clear hfz8_0
    try clear hfz8_1
    try clear hfz8_2
    try clear hfz8_3
    try clear hfz8_4
    try clear hfz8_5
    try clear hfz9_0
    try clear hfz9_1
    try clear hfz9_2
    try clear hfz9_3
    try clear hfz9_4
    try clear hfz9_5
    try clear p2
    obtain ⟨x5_2, rfl, HA, HK2, BK276, BK277, HB⟩ := hrel
    cases gk with
    | zero => exact absurd HA.out (by simp [tenementref08_Same.l0])
    | succ k2 =>
     have H := HA.out
     clear HA
     simp only [tenementref08_Same.l0] at H
     by_cases c14 : x5_2 < (l0_5.length : Int)
     rotate_left
     ·rw [if_neg c14] at H
      have c14b0 : decide (x5_2 < (l0_5.length : Int)) = false := decide_eq_false c14
      clear c14
      obtain rfl := Option.some.inj H
      have hnb24 := NB276_277.out
      have hnc24 := NB277_276.out
      obtain ⟨hcz25_0, hcz25_1, hcz25_2, hcz25_3, hcz25_4, hcz25_5, hfz25_0, hfz25_1, hfz25_2, hfz25_3, hfz25_4, hfz25_5⟩ := Ke6_ BK276.out
      go_wp2
      repeat (go_quiet (fail); try go_wp2)
      go_ret
      exact ⟨Kh_, K2a_ HB GE276 GE277⟩
     rw [if_pos c14] at H
     have c14b0 : decide (x5_2 < (l0_5.length : Int)) = true := decide_eq_true c14
     clear c14
     by_cases c15 : 0 ≤ x5_2
     rotate_left
     ·rw [if_neg c15] at H
      exact absurd H (by simp)
     rw [if_pos c15] at H
     have c15b0 : decide (0 ≤ x5_2) = true := decide_eq_true c15
     clear c15
     by_cases c16 : x5_2 < (l1_5.length : Int)
     rotate_left
     ·rw [if_neg c16] at H
      exact absurd H (by simp)
     rw [if_pos c16] at H
     have c16b0 : decide (x5_2 < (l1_5.length : Int)) = true := decide_eq_true c16
     clear c16
     by_cases c17 : (!((((rd_T117 l0_5 x5_2).f0).toList) == (((rd_T117 l1_5 x5_2).f0).toList)) || (!((((rd_T117 l0_5 x5_2).f1).toList) == (((rd_T117 l1_5 x5_2).f1).toList)) || (!((((rd_T117 l0_5 x5_2).f2).toList) == (((rd_T117 l1_5 x5_2).f2).toList)) || (!(((rd_T117 l0_5 x5_2).f3) == ((rd_T117 l1_5 x5_2).f3)))))) = true
     ·rw [if_pos c17] at H
      have c17b0 : (!((((rd_T117 l0_5 x5_2).f0).toList) == (((rd_T117 l1_5 x5_2).f0).toList)) || (!((((rd_T117 l0_5 x5_2).f1).toList) == (((rd_T117 l1_5 x5_2).f1).toList)) || (!((((rd_T117 l0_5 x5_2).f2).toList) == (((rd_T117 l1_5 x5_2).f2).toList)) || (!(((rd_T117 l0_5 x5_2).f3) == ((rd_T117 l1_5 x5_2).f3)))))) = true := c17
      clear c17
      obtain rfl := Option.some.inj H
      have hnb18 := NB276_277.out
      have hnc18 := NB277_276.out
      obtain ⟨hcz19_0, hcz19_1, hcz19_2, hcz19_3, hcz19_4, hcz19_5, hfz19_0, hfz19_1, hfz19_2, hfz19_3, hfz19_4, hfz19_5⟩ := Ke6_ BK276.out
      have p278 : 0 ≤ (x5_2 : Int) := of_decide_eq_true (by first | (with_reducible assumption) | assumption)
      have q278 : x5_2 < (l0_5.length : Int) := of_decide_eq_true (by first | (with_reducible assumption) | assumption)
      obtain ⟨ad278, e278, hx278_0, hx278_1, hx278_2, hx278_3⟩ := at_T117 HR0_5.out x5_2 p278 q278
      cases e278
      replace hx278_0 := (HB.out.cell (World.block_lt_of_cell? w _ hx278_0)).trans hx278_0
      replace hx278_1 := (HB.out.cell (World.block_lt_of_cell? w _ hx278_1)).trans hx278_1
      replace hx278_2 := (HB.out.cell (World.block_lt_of_cell? w _ hx278_2)).trans hx278_2
      replace hx278_3 := (HB.out.cell (World.block_lt_of_cell? w _ hx278_3)).trans hx278_3
      replace p278 := eq_true p278
      replace q278 := eq_true q278
      obtain ⟨hcz20_0, hcz20_1, hcz20_2, hcz20_3, hcz20_4, hcz20_5, hfz20_0, hfz20_1, hfz20_2, hfz20_3, hfz20_4, hfz20_5⟩ := Ke6_ BK277.out
      have p279 : 0 ≤ (x5_2 : Int) := of_decide_eq_true (by first | (with_reducible assumption) | assumption)
      have q279 : x5_2 < (l1_5.length : Int) := of_decide_eq_true (by first | (with_reducible assumption) | assumption)
      obtain ⟨ad279, e279, hx279_0, hx279_1, hx279_2, hx279_3⟩ := at_T117 HR1_5.out x5_2 p279 q279
      cases e279
      replace hx279_0 := (HB.out.cell (World.block_lt_of_cell? w _ hx279_0)).trans hx279_0
      replace hx279_1 := (HB.out.cell (World.block_lt_of_cell? w _ hx279_1)).trans hx279_1
      replace hx279_2 := (HB.out.cell (World.block_lt_of_cell? w _ hx279_2)).trans hx279_2
      replace hx279_3 := (HB.out.cell (World.block_lt_of_cell? w _ hx279_3)).trans hx279_3
      replace p279 := eq_true p279
      replace q279 := eq_true q279
      go_wp2
      repeat (go_quiet (fail); try go_wp2)
      go_ret
      exact ⟨Kh_, K2a_ HB GE276 GE277⟩
     rw [if_neg c17] at H
     have c17b0 : (!((((rd_T117 l0_5 x5_2).f0).toList) == (((rd_T117 l1_5 x5_2).f0).toList)) || (!((((rd_T117 l0_5 x5_2).f1).toList) == (((rd_T117 l1_5 x5_2).f1).toList)) || (!((((rd_T117 l0_5 x5_2).f2).toList) == (((rd_T117 l1_5 x5_2).f2).toList)) || (!(((rd_T117 l0_5 x5_2).f3) == ((rd_T117 l1_5 x5_2).f3)))))) = false := by simpa using c17
     clear c17
     have H' := Aside0.mk H
     clear H
     have hnb21 := NB276_277.out
     have hnc21 := NB277_276.out
     obtain ⟨hcz22_0, hcz22_1, hcz22_2, hcz22_3, hcz22_4, hcz22_5, hfz22_0, hfz22_1, hfz22_2, hfz22_3, hfz22_4, hfz22_5⟩ := Ke6_ BK276.out
     have p278 : 0 ≤ (x5_2 : Int) := of_decide_eq_true (by first | (with_reducible assumption) | assumption)
     have q278 : x5_2 < (l0_5.length : Int) := of_decide_eq_true (by first | (with_reducible assumption) | assumption)
     obtain ⟨ad278, e278, hx278_0, hx278_1, hx278_2, hx278_3⟩ := at_T117 HR0_5.out x5_2 p278 q278
     cases e278
     replace hx278_0 := (HB.out.cell (World.block_lt_of_cell? w _ hx278_0)).trans hx278_0
     replace hx278_1 := (HB.out.cell (World.block_lt_of_cell? w _ hx278_1)).trans hx278_1
     replace hx278_2 := (HB.out.cell (World.block_lt_of_cell? w _ hx278_2)).trans hx278_2
     replace hx278_3 := (HB.out.cell (World.block_lt_of_cell? w _ hx278_3)).trans hx278_3
     replace p278 := eq_true p278
     replace q278 := eq_true q278
     obtain ⟨hcz23_0, hcz23_1, hcz23_2, hcz23_3, hcz23_4, hcz23_5, hfz23_0, hfz23_1, hfz23_2, hfz23_3, hfz23_4, hfz23_5⟩ := Ke6_ BK277.out
     have p279 : 0 ≤ (x5_2 : Int) := of_decide_eq_true (by first | (with_reducible assumption) | assumption)
     have q279 : x5_2 < (l1_5.length : Int) := of_decide_eq_true (by first | (with_reducible assumption) | assumption)
     obtain ⟨ad279, e279, hx279_0, hx279_1, hx279_2, hx279_3⟩ := at_T117 HR1_5.out x5_2 p279 q279
     cases e279
     replace hx279_0 := (HB.out.cell (World.block_lt_of_cell? w _ hx279_0)).trans hx279_0
     replace hx279_1 := (HB.out.cell (World.block_lt_of_cell? w _ hx279_1)).trans hx279_1
     replace hx279_2 := (HB.out.cell (World.block_lt_of_cell? w _ hx279_2)).trans hx279_2
     replace hx279_3 := (HB.out.cell (World.block_lt_of_cell? w _ hx279_3)).trans hx279_3
     replace p279 := eq_true p279
     replace q279 := eq_true q279
     go_wp2
     repeat (go_quiet (fail); try go_wp2)
     go_roundg k2
     case measure => have := HJ2.out; have := HK2.out; omega
     case rel => exact ⟨(wrap64 (x5_2 + 1)), (by first | rfl | (simp; done) | (simp [*]; done)), H', ⟨by have := HJ2.out; have := HK2.out; omega⟩, ⟨by exact Kq_ BK276⟩, ⟨by exact Kq_ BK277⟩, ⟨K2a_ HB GE276 GE277⟩⟩
end Go.Proofs.Ytoagfdpgnfinhaa.Q

set_option linter.unusedVariables false
set_option linter.unusedSimpArgs false
namespace Go.Proofs.Ytoagfdpgnfinhaa.Pure
open Go.RowKit Go.Proofs.Ytoagfdpgnfinhaa.Q Go.Proofs.YtoagfdpgnfinhaaW.PrintWords Go.Proofs.YtoagfdpgnfinhaaW.PrintLast Go.Proofs.YtoagfdpgnfinhaaW.PrintMore Go.Proofs.Ytoagfdpgnfinhaa.CrcN
theorem step_loop (d : Nat) : ∀ (k x i : Nat), i + d = 8 → d < k → x < 4294967296 → tenementref01_step.l0 k (x : Int) (i : Int) = some ((hn d x : Nat) : Int) := by
 induction d with
 | zero =>
  intro k x i hi hk hx
  obtain ⟨k, rfl⟩ : ∃ m, k = m + 1 := ⟨k - 1, by omega⟩
  simp only [tenementref01_step.l0]
  rw [if_neg (by omega)]; rfl
 | succ d ih =>
  intro k x i hi hk hx
  obtain ⟨k, rfl⟩ : ∃ m, k = m + 1 := ⟨k - 1, by omega⟩
  simp only [tenementref01_step.l0]
  have e : wrap64 ((i : Int) + 1) = ((i + 1 : Nat) : Int) := by rw [wrap64_id (by omega) (by omega)]; omega
  have e2 : (x : Int) / 2 = ((x / 2 : Nat) : Int) := by omega
  have hm : Int.tmod (x : Int) 2 = ((x % 2 : Nat) : Int) := (Int.ofNat_tmod x 2).symm
  have e3 : Go.bits .xor .u32 ((x / 2 : Nat) : Int) 3988292384 = ((x / 2 ^^^ poly : Nat) : Int) := u32_xor_nat (x / 2) poly (by omega) (by decide)
  have hh := ih k (half x) (i + 1) (by omega) (by omega) (half_lt hx)
  rw [if_pos (by omega), e, e2, hm, e3]
  simp only [hn]
  unfold half at hh ⊢
  by_cases c : x % 2 = 1
  ·rw [if_pos (by omega)]
   rw [if_pos c] at hh ⊢
   exact hh
  ·rw [if_neg (by omega)]
   rw [if_neg c] at hh ⊢
   exact hh
theorem step_f {c b k : Nat} (hc : c < 4294967296) (hb : b < 256) (hk : 9 ≤ k) : tenementref01_step.f k (c : Int) (b : Int) = some ((next c b : Nat) : Int) := by
 unfold tenementref01_step.f
 rw [show ((b : Int) % 4294967296) = (b : Int) by omega, u32_xor_nat _ _ hc (by omega)]
 exact step_loop 8 k _ 0 (by omega) (by omega) (Nat.xor_lt_two_pow (n := 32) hc (by omega))
theorem refSum_loop (s : ByteArray) (hz : s.size ≤ 4611686018427387904) (d : Nat) : ∀ (k i : Nat), i + d = s.size → d + 10 < k →
  tenementref01_Sum.l0 k s ((CrcN.fold F ((bl s).take i) : Nat) : Int) (i : Int) = some ((sum (bl s) : Nat) : Int) := by
 induction d with
 | zero =>
  intro k i hi hk
  obtain ⟨k, rfl⟩ : ∃ m, k = m + 1 := ⟨k - 1, by omega⟩
  simp only [tenementref01_Sum.l0]
  have e : (bl s).take i = bl s := List.take_of_length_le (by rw [bl_length]; omega)
  rw [if_neg (by omega), e]
  have hl := fold_lt (bl s) (show F < 2 ^ 32 by decide) (byt_bl s)
  have := u32_xor_nat 4294967295 _ (by omega) hl
  rw [show ((4294967295 : Nat) : Int) = 4294967295 from rfl] at this
  rw [this]
  unfold sum
  rw [Nat.xor_comm]; rfl
 | succ d ih =>
  intro k i hi hk
  obtain ⟨k, rfl⟩ : ∃ m, k = m + 1 := ⟨k - 1, by omega⟩
  simp only [tenementref01_Sum.l0]
  obtain ⟨c, hc, hbt, hc256⟩ := bt_bl s i (by omega)
  have e : wrap64 ((i : Int) + 1) = ((i + 1 : Nat) : Int) := by rw [wrap64_id (by omega) (by omega)]; omega
  rw [if_pos (by omega), if_pos (by omega), hbt, step_f (fold_lt _ (by decide) (byt_take (byt_bl s) i)) hc256 (by omega), Option.bind_some, e]
  have h2 := ih k (i + 1) (by omega) (by omega)
  rw [List.take_add_one, hc] at h2
  simp only [Option.toList] at h2
  rw [CrcN.fold_append] at h2
  exact h2
theorem refSum_f {s : ByteArray} (h : s.size ≤ 4611686018427387904) {k : Nat} (hk : s.size + 10 < k) : tenementref01_Sum.f k s = some ((sum (bl s) : Nat) : Int) := by
 unfold tenementref01_Sum.f
 exact refSum_loop s h s.size k 0 (by omega) hk
end Go.Proofs.Ytoagfdpgnfinhaa.Pure

set_option linter.unusedVariables false
set_option linter.unusedSimpArgs false
namespace Go.Proofs.Ytoagfdpgnfinhaa.Pure
open Go.RowKit Go.Proofs.Ytoagfdpgnfinhaa.Q Go.Proofs.YtoagfdpgnfinhaaW.PrintWords Go.Proofs.YtoagfdpgnfinhaaW.PrintLast Go.Proofs.YtoagfdpgnfinhaaW.PrintMore Go.Proofs.Ytoagfdpgnfinhaa.Plain
theorem mx_beq (a b : Int) : (mx a b == b) = decide (a ≤ b) := by
 rw [Bool.eq_iff_iff, beq_iff_eq, decide_eq_true_eq]
 unfold mx
 split <;> omega
theorem vleq_f (a b c d x y z u : Int) : vec_Leq.f a b c d x y z u = some (decide (a ≤ x ∧ b ≤ y ∧ c ≤ z ∧ d ≤ u)) := by
 unfold vec_Leq.f vec_Join.f
 simp only [Option.bind_some, mx_beq, Bool.decide_and]
theorem vleq_true {a b c d x y z u : Int} (h : a ≤ x ∧ b ≤ y ∧ c ≤ z ∧ d ≤ u) : vec_Leq.f a b c d x y z u = some true :=
 (vleq_f a b c d x y z u).trans (congrArg some (decide_eq_true h))
theorem vleq_false {a b c d x y z u : Int} (h : ¬ (a ≤ x ∧ b ≤ y ∧ c ≤ z ∧ d ≤ u)) : vec_Leq.f a b c d x y z u = some false :=
 (vleq_f a b c d x y z u).trans (congrArg some (decide_eq_false h))
theorem vector_f {v0 v1 v2 v3 : Int} (h0 : (Lit.int .u64 v0).wf = true) (h1 : (Lit.int .u64 v1).wf = true) (h2 : (Lit.int .u64 v2).wf = true) (h3 : (Lit.int .u64 v3).wf = true) (own : Bool) {k : Nat} (hk : 5 ≤ k) :
  ∃ n0 n1 n2 n3 : Nat, tenementlaw15_Vector_vector.f k v0 v1 v2 v3 own = some ((n0 : Int), (n1 : Int), (n2 : Int), (n3 : Int)) ∧ n0 < 18446744073709551616 ∧ n1 < 18446744073709551616 ∧ n2 < 18446744073709551616 ∧ n3 < 18446744073709551616 := by
 have h0 := u64_of h0
 have h1 := u64_of h1
 have h2 := u64_of h2
 have h3 := u64_of h3
 unfold tenementlaw15_Vector_vector.f
 cases own with
 | false =>
  rw [if_neg (by simp)]
  exact ⟨v0.toNat, v1.toNat, v2.toNat, v3.toNat, by rw [Int.toNat_of_nonneg h0.1, Int.toNat_of_nonneg h1.1, Int.toNat_of_nonneg h2.1, Int.toNat_of_nonneg h3.1], by omega, by omega, by omega, by omega⟩
 | true =>
  rw [if_pos rfl]
  obtain ⟨k, rfl⟩ : ∃ m, k = m + 5 := ⟨k - 5, by omega⟩
  have e : tenementlaw15_Vector_vector.l0 (k + 5) 0 v0 v1 v2 v3 true = some (Int.tmod v0 4, Int.tmod v1 4, Int.tmod v2 4, Int.tmod v3 4) := by
   rw [tenementlaw15_Vector_vector.l0, if_pos (by omega), if_pos rfl, show wrap64 (0 + 1) = 1 from wrap64_id (by omega) (by omega)]
   rw [tenementlaw15_Vector_vector.l0, if_pos (by omega), if_neg (by omega), if_pos rfl, show wrap64 (1 + 1) = 2 from wrap64_id (by omega) (by omega)]
   rw [tenementlaw15_Vector_vector.l0, if_pos (by omega), if_neg (by omega), if_neg (by omega), if_pos rfl, show wrap64 (2 + 1) = 3 from wrap64_id (by omega) (by omega)]
   rw [tenementlaw15_Vector_vector.l0, if_pos (by omega), if_neg (by omega), if_neg (by omega), if_neg (by omega), if_pos rfl, show wrap64 (3 + 1) = 4 from wrap64_id (by omega) (by omega)]
   rw [tenementlaw15_Vector_vector.l0, if_neg (by omega)]
  rw [e, Int.tmod_eq_emod_of_nonneg h0.1, Int.tmod_eq_emod_of_nonneg h1.1, Int.tmod_eq_emod_of_nonneg h2.1, Int.tmod_eq_emod_of_nonneg h3.1]
  exact ⟨(v0 % 4).toNat, (v1 % 4).toNat, (v2 % 4).toNat, (v3 % 4).toNat, by rw [Int.toNat_of_nonneg (by omega), Int.toNat_of_nonneg (by omega), Int.toNat_of_nonneg (by omega), Int.toNat_of_nonneg (by omega)], by omega, by omega, by omega, by omega⟩
theorem vr_true {a b c d : Int} (h : a ≤ 1152921504606846976 ∧ b ≤ 1152921504606846976 ∧ c ≤ 1152921504606846976 ∧ d ≤ 1152921504606846976) : vec_Right.f a b c d = some true := by
 unfold vec_Right.f
 rw [vleq_true h, Option.bind_some]
theorem rl_step (i a0 a1 a2 a3 s0 s1 s2 s3 dc : Int) (k : Nat) (hi : i ≤ 4) : tenementref15_Ready.l0 (k + 1) i a0 a1 a2 a3 s0 s1 s2 s3 dc = if (i = dc ∨ own s0 s1 s2 s3 i ≤ own a0 a1 a2 a3 i) then tenementref15_Ready.l0 k (wrap64 (i + 1)) a0 a1 a2 a3 s0 s1 s2 s3 dc else some 0 := by
 rw [tenementref15_Ready.l0, if_pos hi]
 by_cases c : i = dc
 ·rw [if_pos c, if_pos (Or.inl c)]
 ·rw [if_neg c, show tenementref06_At.f s0 s1 s2 s3 i = some (own s0 s1 s2 s3 i) from rfl, Option.bind_some, show tenementref06_At.f a0 a1 a2 a3 i = some (own a0 a1 a2 a3 i) from rfl, Option.bind_some]
  by_cases d : own s0 s1 s2 s3 i ≤ own a0 a1 a2 a3 i
  ·rw [if_neg (by omega), if_pos (Or.inr d)]
  ·rw [if_pos (by omega), if_neg (by rintro (h | h); exact c h; exact d h)]
theorem rl_f (a0 a1 a2 a3 s0 s1 s2 s3 dc : Int) (k : Nat) : tenementref15_Ready.l0 (k + 5) 1 a0 a1 a2 a3 s0 s1 s2 s3 dc = some (if ((1 : Int) = dc ∨ s0 ≤ a0) ∧ ((2 : Int) = dc ∨ s1 ≤ a1) ∧ ((3 : Int) = dc ∨ s2 ≤ a2) ∧ ((4 : Int) = dc ∨ s3 ≤ a3) then 1 else 0) := by
 have h1 := rl_step 1 a0 a1 a2 a3 s0 s1 s2 s3 dc (k + 4) (by omega)
 have h2 := rl_step 2 a0 a1 a2 a3 s0 s1 s2 s3 dc (k + 3) (by omega)
 have h3 := rl_step 3 a0 a1 a2 a3 s0 s1 s2 s3 dc (k + 2) (by omega)
 have h4 := rl_step 4 a0 a1 a2 a3 s0 s1 s2 s3 dc (k + 1) (by omega)
 have h5 : tenementref15_Ready.l0 (k + 1) 5 a0 a1 a2 a3 s0 s1 s2 s3 dc = some 1 := by rw [tenementref15_Ready.l0, if_neg (by omega)]
 rw [show wrap64 (1 + 1) = 2 from wrap64_id (by omega) (by omega), show own s0 s1 s2 s3 1 = s0 from rfl, show own a0 a1 a2 a3 1 = a0 from rfl] at h1
 rw [show wrap64 (2 + 1) = 3 from wrap64_id (by omega) (by omega), show own s0 s1 s2 s3 2 = s1 from rfl, show own a0 a1 a2 a3 2 = a1 from rfl] at h2
 rw [show wrap64 (3 + 1) = 4 from wrap64_id (by omega) (by omega), show own s0 s1 s2 s3 3 = s2 from rfl, show own a0 a1 a2 a3 3 = a2 from rfl] at h3
 rw [show wrap64 (4 + 1) = 5 from wrap64_id (by omega) (by omega), show own s0 s1 s2 s3 4 = s3 from rfl, show own a0 a1 a2 a3 4 = a3 from rfl, h5] at h4
 rw [h1, h2, h3, h4]
 by_cases cA : ((1 : Int) = dc ∨ s0 ≤ a0)
 ·rw [if_pos cA]
  by_cases cB : ((2 : Int) = dc ∨ s1 ≤ a1)
  ·rw [if_pos cB]
   by_cases cC : ((3 : Int) = dc ∨ s2 ≤ a2)
   ·rw [if_pos cC]
    by_cases cD : ((4 : Int) = dc ∨ s3 ≤ a3)
    ·rw [if_pos cD, if_pos ⟨cA, cB, cC, cD⟩]
    ·rw [if_neg cD, if_neg (fun h => cD h.2.2.2)]
   ·rw [if_neg cC, if_neg (fun h => cC h.2.2.1)]
  ·rw [if_neg cB, if_neg (fun h => cB h.2.1)]
 ·rw [if_neg cA, if_neg (fun h => cA h.1)]
theorem ready_1 {a0 a1 a2 a3 s0 s1 s2 s3 : Int} (hs : s0 ≤ 1152921504606846976 ∧ s1 ≤ 1152921504606846976 ∧ s2 ≤ 1152921504606846976 ∧ s3 ≤ 1152921504606846976) (hp : 0 < s0) (ha : 0 ≤ a0) : stream_Ready.f a0 a1 a2 a3 s0 s1 s2 s3 1 = some (if s0 ≤ a0 then -1 else if s0 ≤ a0 + 1 ∧ s1 ≤ a1 ∧ s2 ≤ a2 ∧ s3 ≤ a3 then 1 else 0) := by
 have R : stamp_Right.f s0 s1 s2 s3 1 = some true := by
  unfold stamp_Right.f
  rw [vr_true hs, Option.bind_some, if_pos rfl]
  show some (decide (s0 > 0)) = some true
  exact congrArg some (decide_eq_true hp)
 have N : stamp_Stamp_N.f s0 s1 s2 s3 1 = some s0 := rfl
 have T : vec_At.f a0 a1 a2 a3 1 = some a0 := rfl
 unfold stream_Ready.f
 rw [T, Option.bind_some, R, Option.bind_some, if_pos rfl, N, Option.bind_some]
 by_cases c : s0 ≤ a0
 ·rw [if_pos c, if_pos c]
 ·rw [if_neg c, if_neg c]
  have e : IntKind.u64.wrap (a0 + 1) = a0 + 1 := by simp only [IntKind.wrap_u64]; omega
  have W : vec_With.f a0 a1 a2 a3 1 (a0 + 1) = some (a0 + 1, a1, a2, a3) := rfl
  rw [e, W, Option.bind_some]
  by_cases q : s0 ≤ a0 + 1 ∧ s1 ≤ a1 ∧ s2 ≤ a2 ∧ s3 ≤ a3
  ·rw [if_pos q]
   show (vec_Leq.f s0 s1 s2 s3 (a0 + 1) a1 a2 a3).bind _ = _
   rw [vleq_true q, Option.bind_some, if_pos rfl]
  ·rw [if_neg q]
   show (vec_Leq.f s0 s1 s2 s3 (a0 + 1) a1 a2 a3).bind _ = _
   rw [vleq_false q, Option.bind_some, if_neg (by simp)]
theorem rready_1 {a0 a1 a2 a3 s0 s1 s2 s3 : Int} (hs : s0 ≤ 1152921504606846976 ∧ s1 ≤ 1152921504606846976 ∧ s2 ≤ 1152921504606846976 ∧ s3 ≤ 1152921504606846976) (hp : 0 < s0) (ha : 0 ≤ a0) {k : Nat} (hk : 5 ≤ k) : tenementref15_Ready.f k a0 a1 a2 a3 s0 s1 s2 s3 1 = some (if s0 ≤ a0 then -1 else if s0 ≤ a0 + 1 ∧ s1 ≤ a1 ∧ s2 ≤ a2 ∧ s3 ≤ a3 then 1 else 0) := by
 obtain ⟨k, rfl⟩ : ∃ m, k = m + 5 := ⟨k - 5, by omega⟩
 have R := rsright_true (show okS s0 s1 s2 s3 1 from ⟨hs, hp⟩) (k := k + 5) (by omega)
 have N : tenementref07_Stamp_N.f s0 s1 s2 s3 1 = some s0 := rfl
 have T : tenementref06_At.f a0 a1 a2 a3 1 = some a0 := rfl
 unfold tenementref15_Ready.f
 rw [R, Option.bind_some, if_pos rfl, T, Option.bind_some, N, Option.bind_some, Option.bind_some]
 by_cases c : s0 ≤ a0
 ·rw [if_pos c, if_pos c]
 ·rw [if_neg c, if_neg c]
  have e : IntKind.u64.wrap (a0 + 1) = a0 + 1 := by simp only [IntKind.wrap_u64]; omega
  rw [e, rl_f]
  by_cases q : s0 ≤ a0 + 1 ∧ s1 ≤ a1 ∧ s2 ≤ a2 ∧ s3 ≤ a3
  ·rw [if_pos q, if_pos (by omega), if_pos (by omega)]
  ·rw [if_neg q]
   by_cases g : s0 = a0 + 1
   ·rw [if_pos g, if_neg (by omega)]
   ·rw [if_neg g]
theorem ready_2 {a0 a1 a2 a3 s0 s1 s2 s3 : Int} (hs : s0 ≤ 1152921504606846976 ∧ s1 ≤ 1152921504606846976 ∧ s2 ≤ 1152921504606846976 ∧ s3 ≤ 1152921504606846976) (hp : 0 < s1) (ha : 0 ≤ a1) : stream_Ready.f a0 a1 a2 a3 s0 s1 s2 s3 2 = some (if s1 ≤ a1 then -1 else if s0 ≤ a0 ∧ s1 ≤ a1 + 1 ∧ s2 ≤ a2 ∧ s3 ≤ a3 then 1 else 0) := by
 have R : stamp_Right.f s0 s1 s2 s3 2 = some true := by
  unfold stamp_Right.f
  rw [vr_true hs, Option.bind_some, if_pos rfl]
  show some (decide (s1 > 0)) = some true
  exact congrArg some (decide_eq_true hp)
 have N : stamp_Stamp_N.f s0 s1 s2 s3 2 = some s1 := rfl
 have T : vec_At.f a0 a1 a2 a3 2 = some a1 := rfl
 unfold stream_Ready.f
 rw [T, Option.bind_some, R, Option.bind_some, if_pos rfl, N, Option.bind_some]
 by_cases c : s1 ≤ a1
 ·rw [if_pos c, if_pos c]
 ·rw [if_neg c, if_neg c]
  have e : IntKind.u64.wrap (a1 + 1) = a1 + 1 := by simp only [IntKind.wrap_u64]; omega
  have W : vec_With.f a0 a1 a2 a3 2 (a1 + 1) = some (a0, a1 + 1, a2, a3) := rfl
  rw [e, W, Option.bind_some]
  by_cases q : s0 ≤ a0 ∧ s1 ≤ a1 + 1 ∧ s2 ≤ a2 ∧ s3 ≤ a3
  ·rw [if_pos q]
   show (vec_Leq.f s0 s1 s2 s3 a0 (a1 + 1) a2 a3).bind _ = _
   rw [vleq_true q, Option.bind_some, if_pos rfl]
  ·rw [if_neg q]
   show (vec_Leq.f s0 s1 s2 s3 a0 (a1 + 1) a2 a3).bind _ = _
   rw [vleq_false q, Option.bind_some, if_neg (by simp)]
theorem rready_2 {a0 a1 a2 a3 s0 s1 s2 s3 : Int} (hs : s0 ≤ 1152921504606846976 ∧ s1 ≤ 1152921504606846976 ∧ s2 ≤ 1152921504606846976 ∧ s3 ≤ 1152921504606846976) (hp : 0 < s1) (ha : 0 ≤ a1) {k : Nat} (hk : 5 ≤ k) : tenementref15_Ready.f k a0 a1 a2 a3 s0 s1 s2 s3 2 = some (if s1 ≤ a1 then -1 else if s0 ≤ a0 ∧ s1 ≤ a1 + 1 ∧ s2 ≤ a2 ∧ s3 ≤ a3 then 1 else 0) := by
 obtain ⟨k, rfl⟩ : ∃ m, k = m + 5 := ⟨k - 5, by omega⟩
 have R := rsright_true (show okS s0 s1 s2 s3 2 from ⟨hs, hp⟩) (k := k + 5) (by omega)
 have N : tenementref07_Stamp_N.f s0 s1 s2 s3 2 = some s1 := rfl
 have T : tenementref06_At.f a0 a1 a2 a3 2 = some a1 := rfl
 unfold tenementref15_Ready.f
 rw [R, Option.bind_some, if_pos rfl, T, Option.bind_some, N, Option.bind_some, Option.bind_some]
 by_cases c : s1 ≤ a1
 ·rw [if_pos c, if_pos c]
 ·rw [if_neg c, if_neg c]
  have e : IntKind.u64.wrap (a1 + 1) = a1 + 1 := by simp only [IntKind.wrap_u64]; omega
  rw [e, rl_f]
  by_cases q : s0 ≤ a0 ∧ s1 ≤ a1 + 1 ∧ s2 ≤ a2 ∧ s3 ≤ a3
  ·rw [if_pos q, if_pos (by omega), if_pos (by omega)]
  ·rw [if_neg q]
   by_cases g : s1 = a1 + 1
   ·rw [if_pos g, if_neg (by omega)]
   ·rw [if_neg g]
theorem ready_3 {a0 a1 a2 a3 s0 s1 s2 s3 : Int} (hs : s0 ≤ 1152921504606846976 ∧ s1 ≤ 1152921504606846976 ∧ s2 ≤ 1152921504606846976 ∧ s3 ≤ 1152921504606846976) (hp : 0 < s2) (ha : 0 ≤ a2) : stream_Ready.f a0 a1 a2 a3 s0 s1 s2 s3 3 = some (if s2 ≤ a2 then -1 else if s0 ≤ a0 ∧ s1 ≤ a1 ∧ s2 ≤ a2 + 1 ∧ s3 ≤ a3 then 1 else 0) := by
 have R : stamp_Right.f s0 s1 s2 s3 3 = some true := by
  unfold stamp_Right.f
  rw [vr_true hs, Option.bind_some, if_pos rfl]
  show some (decide (s2 > 0)) = some true
  exact congrArg some (decide_eq_true hp)
 have N : stamp_Stamp_N.f s0 s1 s2 s3 3 = some s2 := rfl
 have T : vec_At.f a0 a1 a2 a3 3 = some a2 := rfl
 unfold stream_Ready.f
 rw [T, Option.bind_some, R, Option.bind_some, if_pos rfl, N, Option.bind_some]
 by_cases c : s2 ≤ a2
 ·rw [if_pos c, if_pos c]
 ·rw [if_neg c, if_neg c]
  have e : IntKind.u64.wrap (a2 + 1) = a2 + 1 := by simp only [IntKind.wrap_u64]; omega
  have W : vec_With.f a0 a1 a2 a3 3 (a2 + 1) = some (a0, a1, a2 + 1, a3) := rfl
  rw [e, W, Option.bind_some]
  by_cases q : s0 ≤ a0 ∧ s1 ≤ a1 ∧ s2 ≤ a2 + 1 ∧ s3 ≤ a3
  ·rw [if_pos q]
   show (vec_Leq.f s0 s1 s2 s3 a0 a1 (a2 + 1) a3).bind _ = _
   rw [vleq_true q, Option.bind_some, if_pos rfl]
  ·rw [if_neg q]
   show (vec_Leq.f s0 s1 s2 s3 a0 a1 (a2 + 1) a3).bind _ = _
   rw [vleq_false q, Option.bind_some, if_neg (by simp)]
theorem rready_3 {a0 a1 a2 a3 s0 s1 s2 s3 : Int} (hs : s0 ≤ 1152921504606846976 ∧ s1 ≤ 1152921504606846976 ∧ s2 ≤ 1152921504606846976 ∧ s3 ≤ 1152921504606846976) (hp : 0 < s2) (ha : 0 ≤ a2) {k : Nat} (hk : 5 ≤ k) : tenementref15_Ready.f k a0 a1 a2 a3 s0 s1 s2 s3 3 = some (if s2 ≤ a2 then -1 else if s0 ≤ a0 ∧ s1 ≤ a1 ∧ s2 ≤ a2 + 1 ∧ s3 ≤ a3 then 1 else 0) := by
 obtain ⟨k, rfl⟩ : ∃ m, k = m + 5 := ⟨k - 5, by omega⟩
 have R := rsright_true (show okS s0 s1 s2 s3 3 from ⟨hs, hp⟩) (k := k + 5) (by omega)
 have N : tenementref07_Stamp_N.f s0 s1 s2 s3 3 = some s2 := rfl
 have T : tenementref06_At.f a0 a1 a2 a3 3 = some a2 := rfl
 unfold tenementref15_Ready.f
 rw [R, Option.bind_some, if_pos rfl, T, Option.bind_some, N, Option.bind_some, Option.bind_some]
 by_cases c : s2 ≤ a2
 ·rw [if_pos c, if_pos c]
 ·rw [if_neg c, if_neg c]
  have e : IntKind.u64.wrap (a2 + 1) = a2 + 1 := by simp only [IntKind.wrap_u64]; omega
  rw [e, rl_f]
  by_cases q : s0 ≤ a0 ∧ s1 ≤ a1 ∧ s2 ≤ a2 + 1 ∧ s3 ≤ a3
  ·rw [if_pos q, if_pos (by omega), if_pos (by omega)]
  ·rw [if_neg q]
   by_cases g : s2 = a2 + 1
   ·rw [if_pos g, if_neg (by omega)]
   ·rw [if_neg g]
theorem ready_4 {a0 a1 a2 a3 s0 s1 s2 s3 : Int} (hs : s0 ≤ 1152921504606846976 ∧ s1 ≤ 1152921504606846976 ∧ s2 ≤ 1152921504606846976 ∧ s3 ≤ 1152921504606846976) (hp : 0 < s3) (ha : 0 ≤ a3) : stream_Ready.f a0 a1 a2 a3 s0 s1 s2 s3 4 = some (if s3 ≤ a3 then -1 else if s0 ≤ a0 ∧ s1 ≤ a1 ∧ s2 ≤ a2 ∧ s3 ≤ a3 + 1 then 1 else 0) := by
 have R : stamp_Right.f s0 s1 s2 s3 4 = some true := by
  unfold stamp_Right.f
  rw [vr_true hs, Option.bind_some, if_pos rfl]
  show some (decide (s3 > 0)) = some true
  exact congrArg some (decide_eq_true hp)
 have N : stamp_Stamp_N.f s0 s1 s2 s3 4 = some s3 := rfl
 have T : vec_At.f a0 a1 a2 a3 4 = some a3 := rfl
 unfold stream_Ready.f
 rw [T, Option.bind_some, R, Option.bind_some, if_pos rfl, N, Option.bind_some]
 by_cases c : s3 ≤ a3
 ·rw [if_pos c, if_pos c]
 ·rw [if_neg c, if_neg c]
  have e : IntKind.u64.wrap (a3 + 1) = a3 + 1 := by simp only [IntKind.wrap_u64]; omega
  have W : vec_With.f a0 a1 a2 a3 4 (a3 + 1) = some (a0, a1, a2, a3 + 1) := rfl
  rw [e, W, Option.bind_some]
  by_cases q : s0 ≤ a0 ∧ s1 ≤ a1 ∧ s2 ≤ a2 ∧ s3 ≤ a3 + 1
  ·rw [if_pos q]
   show (vec_Leq.f s0 s1 s2 s3 a0 a1 a2 (a3 + 1)).bind _ = _
   rw [vleq_true q, Option.bind_some, if_pos rfl]
  ·rw [if_neg q]
   show (vec_Leq.f s0 s1 s2 s3 a0 a1 a2 (a3 + 1)).bind _ = _
   rw [vleq_false q, Option.bind_some, if_neg (by simp)]
theorem rready_4 {a0 a1 a2 a3 s0 s1 s2 s3 : Int} (hs : s0 ≤ 1152921504606846976 ∧ s1 ≤ 1152921504606846976 ∧ s2 ≤ 1152921504606846976 ∧ s3 ≤ 1152921504606846976) (hp : 0 < s3) (ha : 0 ≤ a3) {k : Nat} (hk : 5 ≤ k) : tenementref15_Ready.f k a0 a1 a2 a3 s0 s1 s2 s3 4 = some (if s3 ≤ a3 then -1 else if s0 ≤ a0 ∧ s1 ≤ a1 ∧ s2 ≤ a2 ∧ s3 ≤ a3 + 1 then 1 else 0) := by
 obtain ⟨k, rfl⟩ : ∃ m, k = m + 5 := ⟨k - 5, by omega⟩
 have R := rsright_true (show okS s0 s1 s2 s3 4 from ⟨hs, hp⟩) (k := k + 5) (by omega)
 have N : tenementref07_Stamp_N.f s0 s1 s2 s3 4 = some s3 := rfl
 have T : tenementref06_At.f a0 a1 a2 a3 4 = some a3 := rfl
 unfold tenementref15_Ready.f
 rw [R, Option.bind_some, if_pos rfl, T, Option.bind_some, N, Option.bind_some, Option.bind_some]
 by_cases c : s3 ≤ a3
 ·rw [if_pos c, if_pos c]
 ·rw [if_neg c, if_neg c]
  have e : IntKind.u64.wrap (a3 + 1) = a3 + 1 := by simp only [IntKind.wrap_u64]; omega
  rw [e, rl_f]
  by_cases q : s0 ≤ a0 ∧ s1 ≤ a1 ∧ s2 ≤ a2 ∧ s3 ≤ a3 + 1
  ·rw [if_pos q, if_pos (by omega), if_pos (by omega)]
  ·rw [if_neg q]
   by_cases g : s3 = a3 + 1
   ·rw [if_pos g, if_neg (by omega)]
   ·rw [if_neg g]
theorem ready_same {a0 a1 a2 a3 s0 s1 s2 s3 dc : Int} (ha : 0 ≤ a0 ∧ 0 ≤ a1 ∧ 0 ≤ a2 ∧ 0 ≤ a3) {k : Nat} (hk : 5 ≤ k) : ∃ r, stream_Ready.f a0 a1 a2 a3 s0 s1 s2 s3 dc = some r ∧ tenementref15_Ready.f k a0 a1 a2 a3 s0 s1 s2 s3 dc = some r := by
 by_cases h : okS s0 s1 s2 s3 dc
 ·have hd := okS_dc h
  obtain ⟨hs, hp⟩ := h
  have hc : dc = 1 ∨ dc = 2 ∨ dc = 3 ∨ dc = 4 := by omega
  rcases hc with rfl | rfl | rfl | rfl
  ·exact ⟨_, ready_1 hs hp ha.1, rready_1 hs hp ha.1 hk⟩
  ·exact ⟨_, ready_2 hs hp ha.2.1, rready_2 hs hp ha.2.1 hk⟩
  ·exact ⟨_, ready_3 hs hp ha.2.2.1, rready_3 hs hp ha.2.2.1 hk⟩
  ·exact ⟨_, ready_4 hs hp ha.2.2.2, rready_4 hs hp ha.2.2.2 hk⟩
 ·refine ⟨0, ?_, ?_⟩
  ·unfold stream_Ready.f
   rw [show vec_At.f a0 a1 a2 a3 dc = some (own a0 a1 a2 a3 dc) from rfl, Option.bind_some, sright_false h, Option.bind_some, if_neg (by simp)]
  ·unfold tenementref15_Ready.f
   rw [rsright_false h hk, Option.bind_some, if_neg (by simp)]
end Go.Proofs.Ytoagfdpgnfinhaa.Pure
