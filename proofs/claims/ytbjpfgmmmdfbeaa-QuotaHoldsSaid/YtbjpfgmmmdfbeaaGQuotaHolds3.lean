import Derived.Test.YtbjpfgmmmdfbeaaGQuotaHolds0
import Derived.Test.YtbjpfgmmmdfbeaaGQuotaHolds2
import Derived.Test.YtbjpfgmmmdfbeaaQx0
import Derived.Test.YtbjpfgmmmdfbeaaGQuotaHolds1
/- Writes and transactions as the laws make them. -/
set_option linter.unusedVariables false
set_option linter.unusedSimpArgs false
namespace Go.Proofs.Ytbjpfgmmmdfbeaa.Pure
open Go.RowKit Go.Proofs.Ytbjpfgmmmdfbeaa.Q Go.Proofs.YtbjpfgmmmdfbeaaW.PrintWords Go.Proofs.YtbjpfgmmmdfbeaaW.PrintLast Go.Proofs.YtbjpfgmmmdfbeaaW.PrintMore Go.Proofs.Ytbjpfgmmmdfbeaa.Plain

abbrev Wr := S45
abbrev Pt := S64
/-- A write whose texts are not too long. -/
def fits (x : Wr) : Prop := x.f0.size ≤ 140737488351232 ∧ x.f1.size ≤ 140737488351232 ∧ x.f2.size ≤ 140737488351232
theorem str_size (l : List Int) : (strOfNums l).size = l.length := by
  unfold strOfNums
  simp [ByteArray.size]
/-- What a part of a deal is. -/
def wrt (p : Pt) (own : Bool) : Wr :=
  if own = true then (if 224 ≤ p.f2 then ⟨strOfNums [98, IntKind.u8.wrap (48 + Int.tmod p.f2 2)], strOfNums [IntKind.u8.wrap (97 + Int.tmod (IntKind.u8.wrap (Int.tdiv p.f2 2)) 4)], ⟨#[]⟩, true⟩
    else ⟨strOfNums [98, IntKind.u8.wrap (48 + Int.tmod p.f2 2)], strOfNums [IntKind.u8.wrap (97 + Int.tmod (IntKind.u8.wrap (Int.tdiv p.f2 2)) 4)], p.f0.f2.extract 0 (min p.f0.f2.size 8), false⟩)
  else p.f0
theorem wrt_f (p : Pt) (own : Bool) (h : fits p.f0) : tenementlaw13_Put_write.f p.f0.f0 p.f0.f1 p.f0.f2 p.f0.f3 own p.f2 = some ((wrt p own).f0, (wrt p own).f1, (wrt p own).f2, (wrt p own).f3) := by
  unfold tenementlaw13_Put_write.f wrt
  cases own with
  | true =>
    rw [if_pos rfl, if_pos rfl, if_pos (by have := h.2.2; omega)]
    by_cases c : 224 ≤ p.f2
    · rw [if_pos c, if_pos c]
    · rw [if_neg c, if_neg c]
  | false => rw [if_neg (by simp), if_neg (by simp)]
theorem wrt_fits (p : Pt) (own : Bool) (h : fits p.f0) : fits (wrt p own) := by
  unfold wrt
  cases own with
  | true =>
    rw [if_pos rfl]
    have z : (⟨#[]⟩ : ByteArray).size = 0 := rfl
    by_cases c : 224 ≤ p.f2
    · rw [if_pos c]
      refine ⟨?_, ?_, ?_⟩
      · show (strOfNums _).size ≤ _; rw [str_size]; simp
      · show (strOfNums _).size ≤ _; rw [str_size]; simp
      · show (⟨#[]⟩ : ByteArray).size ≤ _; omega
    · rw [if_neg c]
      refine ⟨?_, ?_, ?_⟩
      · show (strOfNums _).size ≤ _; rw [str_size]; simp
      · show (strOfNums _).size ≤ _; rw [str_size]; simp
      · show (ByteArray.extract _ _ _).size ≤ _; rw [ByteArray.size_extract]; omega
  | false => rw [if_neg (by simp)]; exact h
/-- Do two writes stand at one key? -/
def same (w y : Wr) : Bool := decide (y.f0 = w.f0) && decide (y.f1 = w.f1)
def wrs (most : Nat) (whole : Bool) : List Pt → List Wr → List Wr
  | [], out => out
  | p :: ps, out => if out.length < most then (if (whole && out.any (same (wrt p (whole || p.f1)))) = true then wrs most whole ps out else wrs most whole ps (out ++ [wrt p (whole || p.f1)])) else out
theorem wrs_len (most : Nat) (whole : Bool) : ∀ l out, out.length ≤ most → (wrs most whole l out).length ≤ most
  | [], out, h => h
  | p :: ps, out, h => by
    unfold wrs
    by_cases c : out.length < most
    · rw [if_pos c]
      split
      · exact wrs_len most whole ps out h
      · exact wrs_len most whole ps _ (by simp; omega)
    · rw [if_neg c]; exact h
theorem wrs_all (most : Nat) (whole : Bool) (Q : Wr → Prop) : ∀ l out, (∀ p ∈ l, Q (wrt p (whole || p.f1))) → (∀ x ∈ out, Q x) → ∀ x ∈ wrs most whole l out, Q x
  | [], out, _, h => h
  | p :: ps, out, hl, h => by
    unfold wrs
    have hl' : ∀ q ∈ ps, Q (wrt q (whole || q.f1)) := fun q hq => hl q (by simp [hq])
    split
    · split
      · exact wrs_all most whole Q ps out hl' h
      · refine wrs_all most whole Q ps _ hl' (fun x hx => ?_)
        rcases List.mem_append.1 hx with hx | hx
        · exact h x hx
        · rw [List.mem_singleton.1 hx]; exact hl p (by simp)
    · exact h
theorem idx (i : Nat) (h : i ≤ 4611686018427387904) : wrap64 ((i : Int) + 1) = ((i + 1 : Nat) : Int) := by
  rw [wrap64_id (by omega) (by omega)]
  omega
theorem rdW (l : List Wr) (j : Nat) (h : j < l.length) : rd_T45 l (j : Int) = l[j] := by
  unfold rd_T45
  rw [Int.toNat_natCast, List.getD_eq_getElem?_getD, List.getElem?_eq_getElem h]
  rfl
theorem rdP (l : List Pt) (j : Nat) (h : j < l.length) : rd_T64 l (j : Int) = l[j] := by
  unfold rd_T64
  rw [Int.toNat_natCast, List.getD_eq_getElem?_getD, List.getElem?_eq_getElem h]
  rfl
theorem wr_l1 (l : List Pt) (most : Int) (whole : Bool) (out : List Wr) (i : Int) (w : Wr) (h7 : out.length ≤ 1000) (K : Nat) : ∀ d j fl, j + d = out.length →
    tenementlaw13_writes.l1 (K + d + 1) l most whole out i fl (j : Int) w.f0 w.f1 w.f2 w.f3 =
      if (whole && (fl || (out.drop j).any (same w))) = true then tenementlaw13_writes.l0 K l most whole out (wrap64 (i + 1)) else tenementlaw13_writes.l0 K l most whole (out ++ [w]) (wrap64 (i + 1)) := by
  intro d
  induction d with
  | zero =>
    intro j fl hj
    have e : out.drop j = [] := List.drop_eq_nil_of_le (by omega)
    rw [Nat.add_zero, tenementlaw13_writes.l1, if_neg (by omega), e, List.any_nil, Bool.or_false]
    cases whole with
    | true =>
      rw [if_pos rfl]
      cases fl with
      | true => rw [if_pos rfl, if_pos (by rfl)]
      | false => rw [if_neg (by simp), if_pos (by omega), if_neg (by simp)]
    | false => rw [if_neg (by simp), if_pos (by omega), if_neg (by simp)]
  | succ d ih =>
    intro j fl hj
    have hlt : j < out.length := by omega
    have e : out.drop j = out[j] :: out.drop (j + 1) := List.drop_eq_getElem_cons hlt
    rw [show K + (d + 1) + 1 = (K + d + 1) + 1 by omega, tenementlaw13_writes.l1, if_pos (by omega), idx j (by omega), e, List.any_cons]
    cases fl with
    | true =>
      rw [if_pos rfl, ih (j + 1) true (by omega)]
      simp only [Bool.true_or]
    | false =>
      rw [if_neg (by simp), if_pos (by omega), rdW out j hlt, Bool.false_or]
      by_cases c : (out[j].f0).toList = w.f0.toList
      · rw [if_pos c, ih (j + 1) _ (by omega)]
        have c0 := toList_iff.1 c
        have hs : ((out[j].f1).toList == w.f1.toList) = same w out[j] := by
          unfold same
          rw [decide_eq_true c0, Bool.true_and]
          by_cases c1 : out[j].f1 = w.f1
          · rw [decide_eq_true c1, c1]; simp
          · rw [decide_eq_false c1]
            exact beq_eq_false_iff_ne.2 (fun h => c1 (toList_iff.1 h))
        rw [hs]
      · rw [if_neg c, ih (j + 1) _ (by omega)]
        have hs : same w out[j] = false := by
          unfold same
          rw [decide_eq_false (fun h => c (by rw [h])), Bool.false_and]
        rw [hs, Bool.false_or]
theorem wr_l0 (l : List Pt) (most : Nat) (hm : most ≤ 100) (whole : Bool) (hl : ∀ p ∈ l, fits p.f0) (hz : l.length ≤ 4611686018427387904) : ∀ d i (out : List Wr) K, i + d = l.length → out.length ≤ most → (d + 1) * (most + 5) ≤ K →
    tenementlaw13_writes.l0 K l (most : Int) whole out (i : Int) = some (wrs most whole (l.drop i) out) := by
  intro d
  induction d with
  | zero =>
    intro i out K hi ho hK
    obtain ⟨K, rfl⟩ : ∃ m, K = m + 2 := ⟨K - 2, by omega⟩
    have e : l.drop i = [] := List.drop_eq_nil_of_le (by omega)
    rw [tenementlaw13_writes.l0, if_neg (by omega), tenementlaw13_writes.j1, if_neg (by simp), e]
    rfl
  | succ d ih =>
    intro i out K hi ho hK
    have hlt : i < l.length := by omega
    have e : l.drop i = l[i] :: l.drop (i + 1) := List.drop_eq_getElem_cons hlt
    have hK' : (d + 1) * (most + 5) + (most + 5) ≤ K := by
      rw [show (d + 1 + 1) * (most + 5) = (d + 1) * (most + 5) + (most + 5) by rw [Nat.add_mul, Nat.one_mul]] at hK
      exact hK
    have hf : fits l[i].f0 := hl _ (List.getElem_mem _)
    rw [e]
    unfold wrs
    by_cases c : out.length < most
    · rw [if_pos c]
      obtain ⟨m, hm'⟩ : ∃ m, K = (m + out.length + 1) + 3 ∧ (d + 1) * (most + 5) ≤ m := ⟨K - out.length - 4, by omega, by omega⟩
      rw [hm'.1, tenementlaw13_writes.l0, if_pos (by omega), decide_eq_true (by omega : (out.length : Int) < (most : Int)), tenementlaw13_writes.j1, if_pos rfl, if_pos (by omega), if_pos (by omega), rdP l i hlt]
      have key : ∀ own : Bool, own = (whole || l[i].f1) → tenementlaw13_writes.j2 (m + out.length + 1 + 1) l (most : Int) whole out (i : Int) l[i].f0.f0 l[i].f0.f1 l[i].f0.f2 l[i].f0.f3 own l[i].f2 =
          some (if (whole && out.any (same (wrt l[i] (whole || l[i].f1)))) = true then wrs most whole (l.drop (i + 1)) out else wrs most whole (l.drop (i + 1)) (out ++ [wrt l[i] (whole || l[i].f1)])) := by
        intro own ho'
        rw [tenementlaw13_writes.j2, wrt_f _ _ hf, Option.bind_some]
        show tenementlaw13_writes.l1 (m + out.length + 1) l (most : Int) whole out (i : Int) false 0 (wrt l[i] own).f0 (wrt l[i] own).f1 (wrt l[i] own).f2 (wrt l[i] own).f3 = _
        have h1 := wr_l1 l (most : Int) whole out (i : Int) (wrt l[i] own) (by omega) m out.length 0 false (by omega)
        rw [show ((0 : Nat) : Int) = 0 from rfl] at h1
        rw [h1, List.drop_zero, Bool.false_or, idx i (by omega), ho']
        split
        · rw [ih (i + 1) out m (by omega) ho hm'.2]
        · rw [ih (i + 1) _ m (by omega) (by simp; omega) hm'.2]
      cases whole with
      | true =>
        rw [if_pos rfl, key true rfl]
      | false =>
        rw [if_neg (by simp), key _ (by simp)]
    · rw [if_neg c]
      obtain ⟨m, rfl⟩ : ∃ m, K = m + 2 := ⟨K - 2, by omega⟩
      rw [tenementlaw13_writes.l0, if_pos (by omega), decide_eq_false (by omega : ¬ (out.length : Int) < (most : Int)), tenementlaw13_writes.j1, if_neg (by simp)]
theorem writes_f (l : List Pt) (most : Nat) (hm : most ≤ 100) (whole : Bool) (hl : ∀ p ∈ l, fits p.f0) (hz : l.length ≤ 4611686018427387904) {K : Nat} (hK : (l.length + 1) * (most + 5) ≤ K) :
    tenementlaw13_writes.f K l (most : Int) whole = some (wrs most whole l []) := by
  unfold tenementlaw13_writes.f
  have := wr_l0 l most hm whole hl hz l.length 0 [] K (by omega) (by simp) hK
  rw [show ((0 : Nat) : Int) = 0 from rfl, List.drop_zero] at this
  exact this
end Go.Proofs.Ytbjpfgmmmdfbeaa.Pure

/- What the laws of the chapter want besides: the writes that they make, what sums are. -/
set_option linter.unusedVariables false
set_option linter.unusedSimpArgs false
namespace Go.Proofs.Ytbjpfgmmmdfbeaa.Quo
open Go Go.RowKit Go.WideShapes Go.Proofs.Ytbjpfgmmmdfbeaa.Q Go.Proofs.YtbjpfgmmmdfbeaaW.PrintWords Go.Proofs.YtbjpfgmmmdfbeaaW.PrintLast Go.Proofs.YtbjpfgmmmdfbeaaW.PrintMore
open Go.Maps (Keyed)
open Go.Proofs.Ytbjpfgmmmdfbeaa.Pure (wrap64_id toList_data toList_iff wrs fits)
abbrev Pt := S64
/-- What came in may be: no text is too long. -/
def okL (l : List Pt) : Prop := (∀ p ∈ l, fits p.f0) ∧ l.length ≤ 140737488351232
theorem wrs_small {l : List Pt} (h : okL l) (most : Nat) (whole : Bool) : small (wrs most whole l []) := by
  intro x hx
  have hf := Pure.wrs_all most whole fits l [] (fun p hp => Pure.wrt_fits p _ (h.1 p hp)) (fun x hx => by cases hx) x hx
  exact ⟨by have := hf.1; omega, by have := hf.2.1; omega⟩
theorem wrs_most (l : List Pt) (most : Nat) (whole : Bool) : (wrs most whole l []).length ≤ most := Pure.wrs_len most whole l [] (by simp)
theorem writes_c (A : Option Addr) (c : Nat) (l : List Pt) (most : Nat) (m : Int) (he : (most : Int) = m) (whole : Bool) (w : World) (hr : Kd.C k64 w A l.length l) (hc : l.length ≤ c) (h : okL l) (hm : most ≤ 100) (ws : List Wr) (hws : wrs most whole l [] = ws) :
    Calls Try.prog 11 #[.slice A l.length c, .int .i64 m, .bool whole] w fun e w' => ∃ A' c', e = .returned (.slice A' ws.length c') ∧ ws.length ≤ c' ∧ Kd.C k45 w' A' ws.length ws ∧ Below w.heap.size w w' := by
  subst he
  subst hws
  refine (tenementlaw13_writes.calls _ A c l most whole _ w hr hc (Pure.writes_f l most hm whole h.1 (by have := h.2; omega) (Nat.le_refl _))).mono ?_
  rintro e w' ⟨v, rfl, hR, hb⟩
  obtain ⟨A', c', rfl, hl, hC⟩ := Kd.R_reads hR
  exact ⟨A', c', rfl, hl, hC, hb⟩
/-- A row of rows: the row at a place. -/
theorem at_row {w : World} {A : Option Addr} {n : Nat} {xs : List (List Pt)} (h : Kd.C (Kd.slice 64 k64) w A n xs) (j : Nat) (h1 : j < n) :
    ∃ ad x A' c', A = some ad ∧ xs[j]? = some x ∧ w.cell? (ad.add j) = some (.slice A' x.length c') ∧ x.length ≤ c' ∧ Kd.C k64 w A' x.length x := by
  obtain ⟨ad, c, e, _, hK, hc⟩ := Kd.C_get h [] (j : Int) (by omega) (by omega)
  have hl : j < xs.length := by have := h.1; omega
  obtain ⟨A', c', hcs, hle, hC⟩ := hK
  have hx : xs[j]? = some (xs.getD (j : Int).toNat []) := by
    rw [Int.toNat_natCast, List.getD_eq_getElem?_getD, List.getElem?_eq_getElem hl]
    rfl
  refine ⟨ad, _, A', c', e, hx, ?_, hle, hC⟩
  have h2 := hc 0 _ (by rw [hcs]; rfl)
  have e2 : (j : Int).toNat * (Kd.slice 64 k64).sz + 0 = j := by
    show (j : Int).toNat * 1 + 0 = j
    omega
  rwa [e2] at h2
/-- Sizes as they are kept. -/
def good (L : List En) : Prop := ∀ p ∈ L, 0 < p.2 ∧ p.2 ≤ 64
theorem good_nil : good [] := fun p hp => by cases hp
theorem good_strike {L : List En} (h : good L) (k : Lit) : good (strike k L) := fun p hp => h p (List.mem_filter.1 hp).1
theorem good_step {L : List En} (h : good L) (x : Wr) : good (step L x) := by
  unfold step
  by_cases c : rightW x = true
  · rw [if_pos c]
    by_cases d : 0 < szW x
    · rw [if_pos d]
      intro p hp
      rcases List.mem_append.1 hp with hp | hp
      · exact good_strike (good_strike h _) _ p hp
      · rw [List.mem_singleton.1 hp]
        exact ⟨d, (size_f c).2.2.1⟩
    · rw [if_neg d]
      exact good_strike h _
  · rw [if_neg c]
    exact h
theorem good_taken : ∀ (l : List Wr) {L : List En}, good L → good (taken L l)
  | [], L, h => h
  | x :: r, L, h => good_taken r (good_step h x)
theorem good_total : ∀ {L : List En}, good L → 0 ≤ total L ∧ total L ≤ 64 * (L.length : Int)
  | [], _ => ⟨by simp [total], by simp [total]⟩
  | x :: r, h => by
    have h1 := h x (by simp)
    have h2 := good_total (L := r) (fun p hp => h p (by simp [hp]))
    rw [total_cons, List.length_cons]
    omega
theorem good_wrap {L : List En} (h : good L) (hl : L.length ≤ 1000000) : wrap64 (total L) = total L := by
  have := good_total h
  exact wrap64_id (by omega) (by omega)
theorem u8_range {x : Int} (h : (Lit.int .u8 x).wf = true) : 0 ≤ x ∧ x ≤ 255 := by
  have h : IntKind.u8.min ≤ x ∧ x ≤ IntKind.u8.max := by simpa only [Lit.wf, Bool.and_eq_true, decide_eq_true_eq] using h
  exact h
theorem step_int (j : Nat) (h : j ≤ 4611686018427387904) : Value.int .i64 (wrap64 ((j : Int) + 1)) = .int .i64 ((j + 1 : Nat) : Int) := by
  rw [wrap64_id (by omega) (by omega)]
  rfl
end Go.Proofs.Ytbjpfgmmmdfbeaa.Quo

namespace Go.Proofs.Ytbjpfgmmmdfbeaa.Q
open Go.RowKit Go.Proofs.YtbjpfgmmmdfbeaaW.PrintWords Go.Proofs.YtbjpfgmmmdfbeaaW.PrintLast Go.Proofs.YtbjpfgmmmdfbeaaW.PrintMore
attribute [local go_sem] max2_int min2_int max_two min_two max_three min_three max_four min_four   -- for this text's walks alone
set_option linter.unusedVariables false
set_option linter.unusedSimpArgs false
/-! ### tenementlaw13_QuotaHolds: function 4 -/
-- FOREIGN: lists of writes, taken or refused
-- import Derived.Test.YtbjpfgmmmdfbeaaQuoL
open Classical in
noncomputable def tenementlaw13_QuotaHolds.f (a0 : Int) (l1 : List (List S64)) : Option Bool := if (Lit.int .u8 a0).wf = true ∧ ∀ l ∈ l1, Quo.okL l then some true else none
set_option maxHeartbeats 8000000 in
set_option maxRecDepth 100000 in
theorem tenementlaw13_QuotaHolds.calls (a0 : Int) (A1 : Option Addr) (c1 : Nat) (l1 : List (List S64)) (r : Bool) (w : World) (hr1 : Kd.C (Kd.slice 64 k64) w A1 l1.length l1) (hc1 : l1.length ≤ c1) (h : tenementlaw13_QuotaHolds.f a0 l1 = some r) :
    Calls Try.prog 4 #[.int .u8 a0, .slice A1 l1.length c1] w fun e w' => e = .returned (.bool r) ∧ Below w.heap.size w w' := by
  unfold tenementlaw13_QuotaHolds.f at h
  by_cases hw : (Lit.int .u8 a0).wf = true ∧ ∀ l ∈ l1, Quo.okL l
  rotate_left
  · rw [if_neg hw] at h; cases h
  rw [if_pos hw] at h
  obtain rfl := Option.some.inj h
  clear h
  have HW := Aside0.mk hw.2
  have HR := Aside0.mk hr1
  have H8 := Aside0.mk (Quo.u8_range hw.1)
  have HLIM := Aside0.mk (show wrap64 a0 = a0 by have := Quo.u8_range hw.1; exact Pure.wrap64_id (by omega) (by omega))
  clear hw hr1
  go_enter Try.func4, Try.ntmps4
  go_wp2_with (first
    | (go_at_call 8; refine (Quo.ex_c _).mono ?_; rintro e w1 ⟨rfl, hb⟩; have HB1 := Aside0.mk hb; clear hb)
    | (go_at_call 9; (with_reducible refine (Quo.new_q _ _ (by have := H8.out; have := HLIM.out; omega) (by have := H8.out; have := HLIM.out; omega)).mono ?_); rintro e w2 ⟨g, rfl, hg, hst, hb⟩; have HG := Aside0.mk (Nat.le_trans HB1.out.size hg); have HS2 := Aside0.mk hst; have HB2 := Aside0.mk (below_step HB1.out hb); clear hg hst hb HB1))
  go_loopg [8] l1.length (fun kq v8 wr => ∃ (j : Nat) (L : List Quo.En), v8 = .int .i64 j ∧ Aside0 (j ≤ 20 ∧ j ≤ l1.length) ∧ Aside0 (l1.length - j ≤ kq) ∧ Aside0 (Quo.Sq wr g (wrap64 a0) L) ∧ Aside0 (Below w.heap.size w wr) ∧ Aside0 (Quo.good L) ∧ Aside0 (L.length ≤ 8 * j) ∧ Aside0 (Quo.total L ≤ wrap64 a0))
  case atStart => exact ⟨0, [], rfl, ⟨by omega⟩, ⟨by omega⟩, HS2, HB2, ⟨Quo.good_nil⟩, ⟨by simp⟩, ⟨by have := H8.out; have := HLIM.out; rw [Quo.total_nil]; omega⟩⟩
  case round =>
    obtain ⟨j, L, rfl, HJ, HK, HS, HB, HGD, HLL, HTL⟩ := hrel
    clear HS2 HB2
    by_cases c1 : j < l1.length ∧ j < 20
    · obtain ⟨c1, c2⟩ := c1
      have c1b : decide ((j : Int) < (l1.length : Int)) = true := decide_eq_true (by omega)
      have c2b : decide ((j : Int) < 20) = true := decide_eq_true (by omega)
      have c0b : decide (0 ≤ (j : Int)) = true := decide_eq_true (by omega)
      obtain ⟨ad, x, A', c', e0, hx, hcell, hle, hC⟩ := Quo.at_row HR.out j c1
      cases e0
      replace hcell := (HB.out.cell (World.block_lt_of_cell? w _ hcell)).trans hcell
      have HC := Aside0.mk (Kd.C_below hC HB.out)
      have HOK := Aside0.mk (HW.out x (List.mem_of_getElem? hx))
      have HWS := Aside0.mk (Quo.wrs_small HOK.out 8 true)
      have hwl := Quo.wrs_most x 8 true
      clear hx hC
      generalize hws : Pure.wrs 8 true x [] = ws at *
      have HWE := Aside0.mk hws
      have hll := HLL.out
      have HLN := Aside0.mk (show L.length + ws.length ≤ 1000000000 by omega)
      have HGD' := Aside0.mk (Quo.good_taken ws HGD.out)
      have hln' := Quo.taken_length ws L
      have HLL' := Aside0.mk (show (Quo.taken L ws).length ≤ 8 * (j + 1) by omega)
      have h0 := Quo.good_total HGD.out
      have h0' := Quo.good_total HGD'.out
      obtain ⟨t, ht⟩ : ∃ t, t = Quo.total L := ⟨_, rfl⟩
      obtain ⟨t', ht'⟩ : ∃ t', t' = Quo.total (Quo.taken L ws) := ⟨_, rfl⟩
      have HT := Aside0.mk (show wrap64 (Quo.total L) = t by rw [ht]; exact Quo.good_wrap HGD.out (by omega))
      have HT' := Aside0.mk (show wrap64 (Quo.total (Quo.taken L ws)) = t' by rw [ht']; exact Quo.good_wrap HGD'.out (by omega))
      have HTE := Aside0.mk ht
      have HTE' := Aside0.mk ht'
      have htl : t ≤ wrap64 a0 := by rw [ht]; exact HTL.out
      have t0 : decide (t < 0) = false := decide_eq_false (by omega)
      have t0' : decide (t' < 0) = false := decide_eq_false (by omega)
      have t1 : decide (wrap64 a0 < t) = false := decide_eq_false (by omega)
      by_cases hf : t' ≤ wrap64 a0
      · have hfb : decide (t' ≤ wrap64 a0) = true := decide_eq_true hf
        have t1' : decide (wrap64 a0 < t') = false := decide_eq_false (by omega)
        have HF := Aside0.mk hf
        clear hf hws hwl hll hln' h0 h0' ht ht' htl
        go_wp2_with (first
          | (go_at_call 11; (with_reducible refine (Quo.writes_c A' c' x 8 8 rfl true _ HC.out hle HOK.out (by omega) ws HWE.out).mono ?_); rintro e wu ⟨A2, c2, rfl, hl2, hC2, hb⟩; have HC2 := Aside0.mk hC2; have HL2 := Aside0.mk hl2; replace HS := Aside0.mk (HS.out.below hb); replace HB := Aside0.mk (below_step HB.out hb); clear hl2 hC2 hb)
          | (go_at_call 18; (with_reducible refine (Quo.used_q g _ _ _ HS.out _ HT.out).mono ?_); rintro e wu ⟨rfl, hb⟩; replace HS := Aside0.mk (HS.out.below hb); replace HB := Aside0.mk (below_step HB.out hb); (try replace HC2 := Aside0.mk (Kd.C_below HC2.out hb)); clear hb)
          | (go_at_call 14; (with_reducible refine (Quo.after_q g _ _ A2 _ c2 _ rfl _ HS.out HC2.out HL2.out HWS.out HLN.out _ t' rfl HT'.out).mono ?_); rintro e wu ⟨rfl, hb⟩; replace HS := Aside0.mk (HS.out.below hb); replace HB := Aside0.mk (below_step HB.out hb); replace HC2 := Aside0.mk (Kd.C_below HC2.out hb); clear hb)
          | (go_at_call 16; (with_reducible refine (Quo.take_q g _ _ A2 _ c2 _ rfl _ HS.out HC2.out HL2.out HWS.out HLN.out _ t' true rfl HT'.out hfb).mono ?_); rintro e wu ⟨rfl, hst, hg⟩; replace HS := Aside0.mk (show Quo.Sq wu g _ (Quo.taken L ws) from hst); replace HB := Aside0.mk (Quo.below_grown HB.out hg HG.out); replace HT := HT'; clear hst hg HC2))
        go_roundg (l1.length - (j + 1))
        case measure => have := HK.out; omega
        case rel => exact ⟨j + 1, _, by first | rfl | exact Quo.step_int j (by omega), ⟨by omega⟩, ⟨by omega⟩, HS, HB, HGD', HLL', ⟨by rw [← HTE'.out]; exact HF.out⟩⟩
      · have hfb : decide (t' ≤ wrap64 a0) = false := decide_eq_false hf
        clear hf hws hwl hll hln' h0 h0' ht ht' htl
        go_wp2_with (first
          | (go_at_call 11; (with_reducible refine (Quo.writes_c A' c' x 8 8 rfl true _ HC.out hle HOK.out (by omega) ws HWE.out).mono ?_); rintro e wu ⟨A2, c2, rfl, hl2, hC2, hb⟩; have HC2 := Aside0.mk hC2; have HL2 := Aside0.mk hl2; replace HS := Aside0.mk (HS.out.below hb); replace HB := Aside0.mk (below_step HB.out hb); clear hl2 hC2 hb)
          | (go_at_call 18; (with_reducible refine (Quo.used_q g _ _ _ HS.out _ HT.out).mono ?_); rintro e wu ⟨rfl, hb⟩; replace HS := Aside0.mk (HS.out.below hb); replace HB := Aside0.mk (below_step HB.out hb); (try replace HC2 := Aside0.mk (Kd.C_below HC2.out hb)); clear hb)
          | (go_at_call 14; (with_reducible refine (Quo.after_q g _ _ A2 _ c2 _ rfl _ HS.out HC2.out HL2.out HWS.out HLN.out _ t' rfl HT'.out).mono ?_); rintro e wu ⟨rfl, hb⟩; replace HS := Aside0.mk (HS.out.below hb); replace HB := Aside0.mk (below_step HB.out hb); replace HC2 := Aside0.mk (Kd.C_below HC2.out hb); clear hb)
          | (go_at_call 16; (with_reducible refine (Quo.take_q g _ _ A2 _ c2 _ rfl _ HS.out HC2.out HL2.out HWS.out HLN.out _ t' false rfl HT'.out hfb).mono ?_); rintro e wu ⟨rfl, hst, hg⟩; replace HS := Aside0.mk (show Quo.Sq wu g _ L from hst); replace HB := Aside0.mk (Quo.below_grown HB.out hg HG.out); clear hst hg HC2))
        go_roundg (l1.length - (j + 1))
        case measure => have := HK.out; omega
        case rel => exact ⟨j + 1, _, by first | rfl | exact Quo.step_int j (by omega), ⟨by omega⟩, ⟨by omega⟩, HS, HB, HGD, ⟨by have := HLL.out; omega⟩, HTL⟩
    · by_cases d : j < l1.length
      case' pos =>
        have c1b : decide ((j : Int) < (l1.length : Int)) = true := decide_eq_true (by omega)
        have c2b : decide ((j : Int) < 20) = false := decide_eq_false (by omega)
      case' neg => have c1b : decide ((j : Int) < (l1.length : Int)) = false := decide_eq_false (by omega)
      all_goals
        go_wp2
        go_ret
        exact ⟨rfl, HB.out⟩
end Go.Proofs.Ytbjpfgmmmdfbeaa.Q

set_option linter.unusedVariables false
namespace Go.Proofs.Ytbjpfgmmmdfbeaa.Q
open Go.RowKit Go.Proofs.Ytbjpfgmmmdfbeaa.Q Go.Proofs.YtbjpfgmmmdfbeaaW.PrintWords Go.Proofs.YtbjpfgmmmdfbeaaW.PrintLast Go.Proofs.YtbjpfgmmmdfbeaaW.PrintMore
def tenementlaw13_QuotaHolds.Pure : Prop := ∀ (x0 : Int) (x1 : List (List (S64))), ((Lit.int .u8 x0).wf = true) → ((∀ x_ ∈ x1, (∀ x__ ∈ x_, wf64 x__) ∧ x_.length * 64 ≤ 140737488351232) ∧ x1.length * 24 ≤ 140737488351232) → tenementlaw13_QuotaHolds.f x0 x1 = some true
end Go.Proofs.Ytbjpfgmmmdfbeaa.Q

/- Never is more used than may be; what does not fit turns nothing; what fits is used just so: for every limit of a byte and the first 20 lists of parts of writes. -/
set_option linter.unusedVariables false
set_option linter.unusedSimpArgs false
namespace Go.Proofs.Ytbjpfgmmmdfbeaa.Pure
open Go.RowKit Go.Proofs.Ytbjpfgmmmdfbeaa.Q Go.Proofs.YtbjpfgmmmdfbeaaW.PrintWords Go.Proofs.YtbjpfgmmmdfbeaaW.PrintLast Go.Proofs.YtbjpfgmmmdfbeaaW.PrintMore
theorem QuotaHolds : tenementlaw13_QuotaHolds.Pure := by
  intro a l ha hl
  have hok : ∀ x ∈ l, Quo.okL x := fun x hx => ⟨fun p hp => by
    have h := (hl.1 x hx).1 p hp
    exact ⟨h.1.1, h.1.2.1, h.1.2.2.1⟩, by have h := (hl.1 x hx).2; omega⟩
  unfold tenementlaw13_QuotaHolds.f
  rw [if_pos ⟨ha, hok⟩]
end Go.Proofs.Ytbjpfgmmmdfbeaa.Pure
