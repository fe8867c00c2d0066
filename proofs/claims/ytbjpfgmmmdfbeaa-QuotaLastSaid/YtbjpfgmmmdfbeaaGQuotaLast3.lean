import Derived.Test.YtbjpfgmmmdfbeaaGQuotaLast0
import Derived.Test.YtbjpfgmmmdfbeaaGQuotaLast2
import Derived.Test.YtbjpfgmmmdfbeaaQx0
import Derived.Deep.RegionHeld3
import Derived.Deep.CutBlock
import Derived.Test.YtbjpfgmmmdfbeaaGQuotaLast1
/- Writes and transactions as the laws make them. -/
set_option linter.unusedVariables false
set_option linter.unusedSimpArgs false
namespace Go.Proofs.Ytbjpfgmmmdfbeaa.Pure
open Go.RowKit Go.Proofs.Ytbjpfgmmmdfbeaa.Q Go.Proofs.YtbjpfgmmmdfbeaaW.PrintWords Go.Proofs.YtbjpfgmmmdfbeaaW.PrintLast Go.Proofs.YtbjpfgmmmdfbeaaW.PrintMore Go.Proofs.Ytbjpfgmmmdfbeaa.Plain

abbrev Wr := S45
abbrev Pt := S64
/-- A write whose texts are not too long. -/
def fits (x : Wr) : Prop := x.f0.size ≤ 140737488351232 ∧ x.f1.size ≤ 140737488351232 ∧ x.f2.size ≤ 140737488351232
theorem str_size (l : List Int) : (strOfNums l).size = l.length := by
  unfold strOfNums
  simp [ByteArray.size]
/-- What a part of a deal is. -/
def wrt (p : Pt) (own : Bool) : Wr :=
  if own = true then (if 224 ≤ p.f2 then ⟨strOfNums [98, IntKind.u8.wrap (48 + Int.tmod p.f2 2)], strOfNums [IntKind.u8.wrap (97 + Int.tmod (IntKind.u8.wrap (Int.tdiv p.f2 2)) 4)], ⟨#[]⟩, true⟩
    else ⟨strOfNums [98, IntKind.u8.wrap (48 + Int.tmod p.f2 2)], strOfNums [IntKind.u8.wrap (97 + Int.tmod (IntKind.u8.wrap (Int.tdiv p.f2 2)) 4)], p.f0.f2.extract 0 (min p.f0.f2.size 8), false⟩)
  else p.f0
theorem wrt_f (p : Pt) (own : Bool) (h : fits p.f0) : tenementlaw13_Put_write.f p.f0.f0 p.f0.f1 p.f0.f2 p.f0.f3 own p.f2 = some ((wrt p own).f0, (wrt p own).f1, (wrt p own).f2, (wrt p own).f3) := by
  unfold tenementlaw13_Put_write.f wrt
  cases own with
  | true =>
    rw [if_pos rfl, if_pos rfl, if_pos (by have := h.2.2; omega)]
    by_cases c : 224 ≤ p.f2
    · rw [if_pos c, if_pos c]
    · rw [if_neg c, if_neg c]
  | false => rw [if_neg (by simp), if_neg (by simp)]
theorem wrt_fits (p : Pt) (own : Bool) (h : fits p.f0) : fits (wrt p own) := by
  unfold wrt
  cases own with
  | true =>
    rw [if_pos rfl]
    have z : (⟨#[]⟩ : ByteArray).size = 0 := rfl
    by_cases c : 224 ≤ p.f2
    · rw [if_pos c]
      refine ⟨?_, ?_, ?_⟩
      · show (strOfNums _).size ≤ _; rw [str_size]; simp
      · show (strOfNums _).size ≤ _; rw [str_size]; simp
      · show (⟨#[]⟩ : ByteArray).size ≤ _; omega
    · rw [if_neg c]
      refine ⟨?_, ?_, ?_⟩
      · show (strOfNums _).size ≤ _; rw [str_size]; simp
      · show (strOfNums _).size ≤ _; rw [str_size]; simp
      · show (ByteArray.extract _ _ _).size ≤ _; rw [ByteArray.size_extract]; omega
  | false => rw [if_neg (by simp)]; exact h
/-- Do two writes stand at one key? -/
def same (w y : Wr) : Bool := decide (y.f0 = w.f0) && decide (y.f1 = w.f1)
def wrs (most : Nat) (whole : Bool) : List Pt → List Wr → List Wr
  | [], out => out
  | p :: ps, out => if out.length < most then (if (whole && out.any (same (wrt p (whole || p.f1)))) = true then wrs most whole ps out else wrs most whole ps (out ++ [wrt p (whole || p.f1)])) else out
theorem wrs_len (most : Nat) (whole : Bool) : ∀ l out, out.length ≤ most → (wrs most whole l out).length ≤ most
  | [], out, h => h
  | p :: ps, out, h => by
    unfold wrs
    by_cases c : out.length < most
    · rw [if_pos c]
      split
      · exact wrs_len most whole ps out h
      · exact wrs_len most whole ps _ (by simp; omega)
    · rw [if_neg c]; exact h
theorem wrs_all (most : Nat) (whole : Bool) (Q : Wr → Prop) : ∀ l out, (∀ p ∈ l, Q (wrt p (whole || p.f1))) → (∀ x ∈ out, Q x) → ∀ x ∈ wrs most whole l out, Q x
  | [], out, _, h => h
  | p :: ps, out, hl, h => by
    unfold wrs
    have hl' : ∀ q ∈ ps, Q (wrt q (whole || q.f1)) := fun q hq => hl q (by simp [hq])
    split
    · split
      · exact wrs_all most whole Q ps out hl' h
      · refine wrs_all most whole Q ps _ hl' (fun x hx => ?_)
        rcases List.mem_append.1 hx with hx | hx
        · exact h x hx
        · rw [List.mem_singleton.1 hx]; exact hl p (by simp)
    · exact h
theorem idx (i : Nat) (h : i ≤ 4611686018427387904) : wrap64 ((i : Int) + 1) = ((i + 1 : Nat) : Int) := by
  rw [wrap64_id (by omega) (by omega)]
  omega
theorem rdW (l : List Wr) (j : Nat) (h : j < l.length) : rd_T45 l (j : Int) = l[j] := by
  unfold rd_T45
  rw [Int.toNat_natCast, List.getD_eq_getElem?_getD, List.getElem?_eq_getElem h]
  rfl
theorem rdP (l : List Pt) (j : Nat) (h : j < l.length) : rd_T64 l (j : Int) = l[j] := by
  unfold rd_T64
  rw [Int.toNat_natCast, List.getD_eq_getElem?_getD, List.getElem?_eq_getElem h]
  rfl
theorem wr_l1 (l : List Pt) (most : Int) (whole : Bool) (out : List Wr) (i : Int) (w : Wr) (h7 : out.length ≤ 1000) (K : Nat) : ∀ d j fl, j + d = out.length →
    tenementlaw13_writes.l1 (K + d + 1) l most whole out i fl (j : Int) w.f0 w.f1 w.f2 w.f3 =
      if (whole && (fl || (out.drop j).any (same w))) = true then tenementlaw13_writes.l0 K l most whole out (wrap64 (i + 1)) else tenementlaw13_writes.l0 K l most whole (out ++ [w]) (wrap64 (i + 1)) := by
  intro d
  induction d with
  | zero =>
    intro j fl hj
    have e : out.drop j = [] := List.drop_eq_nil_of_le (by omega)
    rw [Nat.add_zero, tenementlaw13_writes.l1, if_neg (by omega), e, List.any_nil, Bool.or_false]
    cases whole with
    | true =>
      rw [if_pos rfl]
      cases fl with
      | true => rw [if_pos rfl, if_pos (by rfl)]
      | false => rw [if_neg (by simp), if_pos (by omega), if_neg (by simp)]
    | false => rw [if_neg (by simp), if_pos (by omega), if_neg (by simp)]
  | succ d ih =>
    intro j fl hj
    have hlt : j < out.length := by omega
    have e : out.drop j = out[j] :: out.drop (j + 1) := List.drop_eq_getElem_cons hlt
    rw [show K + (d + 1) + 1 = (K + d + 1) + 1 by omega, tenementlaw13_writes.l1, if_pos (by omega), idx j (by omega), e, List.any_cons]
    cases fl with
    | true =>
      rw [if_pos rfl, ih (j + 1) true (by omega)]
      simp only [Bool.true_or]
    | false =>
      rw [if_neg (by simp), if_pos (by omega), rdW out j hlt, Bool.false_or]
      by_cases c : (out[j].f0).toList = w.f0.toList
      · rw [if_pos c, ih (j + 1) _ (by omega)]
        have c0 := toList_iff.1 c
        have hs : ((out[j].f1).toList == w.f1.toList) = same w out[j] := by
          unfold same
          rw [decide_eq_true c0, Bool.true_and]
          by_cases c1 : out[j].f1 = w.f1
          · rw [decide_eq_true c1, c1]; simp
          · rw [decide_eq_false c1]
            exact beq_eq_false_iff_ne.2 (fun h => c1 (toList_iff.1 h))
        rw [hs]
      · rw [if_neg c, ih (j + 1) _ (by omega)]
        have hs : same w out[j] = false := by
          unfold same
          rw [decide_eq_false (fun h => c (by rw [h])), Bool.false_and]
        rw [hs, Bool.false_or]
theorem wr_l0 (l : List Pt) (most : Nat) (hm : most ≤ 100) (whole : Bool) (hl : ∀ p ∈ l, fits p.f0) (hz : l.length ≤ 4611686018427387904) : ∀ d i (out : List Wr) K, i + d = l.length → out.length ≤ most → (d + 1) * (most + 5) ≤ K →
    tenementlaw13_writes.l0 K l (most : Int) whole out (i : Int) = some (wrs most whole (l.drop i) out) := by
  intro d
  induction d with
  | zero =>
    intro i out K hi ho hK
    obtain ⟨K, rfl⟩ : ∃ m, K = m + 2 := ⟨K - 2, by omega⟩
    have e : l.drop i = [] := List.drop_eq_nil_of_le (by omega)
    rw [tenementlaw13_writes.l0, if_neg (by omega), tenementlaw13_writes.j1, if_neg (by simp), e]
    rfl
  | succ d ih =>
    intro i out K hi ho hK
    have hlt : i < l.length := by omega
    have e : l.drop i = l[i] :: l.drop (i + 1) := List.drop_eq_getElem_cons hlt
    have hK' : (d + 1) * (most + 5) + (most + 5) ≤ K := by
      rw [show (d + 1 + 1) * (most + 5) = (d + 1) * (most + 5) + (most + 5) by rw [Nat.add_mul, Nat.one_mul]] at hK
      exact hK
    have hf : fits l[i].f0 := hl _ (List.getElem_mem _)
    rw [e]
    unfold wrs
    by_cases c : out.length < most
    · rw [if_pos c]
      obtain ⟨m, hm'⟩ : ∃ m, K = (m + out.length + 1) + 3 ∧ (d + 1) * (most + 5) ≤ m := ⟨K - out.length - 4, by omega, by omega⟩
      rw [hm'.1, tenementlaw13_writes.l0, if_pos (by omega), decide_eq_true (by omega : (out.length : Int) < (most : Int)), tenementlaw13_writes.j1, if_pos rfl, if_pos (by omega), if_pos (by omega), rdP l i hlt]
      have key : ∀ own : Bool, own = (whole || l[i].f1) → tenementlaw13_writes.j2 (m + out.length + 1 + 1) l (most : Int) whole out (i : Int) l[i].f0.f0 l[i].f0.f1 l[i].f0.f2 l[i].f0.f3 own l[i].f2 =
          some (if (whole && out.any (same (wrt l[i] (whole || l[i].f1)))) = true then wrs most whole (l.drop (i + 1)) out else wrs most whole (l.drop (i + 1)) (out ++ [wrt l[i] (whole || l[i].f1)])) := by
        intro own ho'
        rw [tenementlaw13_writes.j2, wrt_f _ _ hf, Option.bind_some]
        show tenementlaw13_writes.l1 (m + out.length + 1) l (most : Int) whole out (i : Int) false 0 (wrt l[i] own).f0 (wrt l[i] own).f1 (wrt l[i] own).f2 (wrt l[i] own).f3 = _
        have h1 := wr_l1 l (most : Int) whole out (i : Int) (wrt l[i] own) (by omega) m out.length 0 false (by omega)
        rw [show ((0 : Nat) : Int) = 0 from rfl] at h1
        rw [h1, List.drop_zero, Bool.false_or, idx i (by omega), ho']
        split
        · rw [ih (i + 1) out m (by omega) ho hm'.2]
        · rw [ih (i + 1) _ m (by omega) (by simp; omega) hm'.2]
      cases whole with
      | true =>
        rw [if_pos rfl, key true rfl]
      | false =>
        rw [if_neg (by simp), key _ (by simp)]
    · rw [if_neg c]
      obtain ⟨m, rfl⟩ : ∃ m, K = m + 2 := ⟨K - 2, by omega⟩
      rw [tenementlaw13_writes.l0, if_pos (by omega), decide_eq_false (by omega : ¬ (out.length : Int) < (most : Int)), tenementlaw13_writes.j1, if_neg (by simp)]
theorem writes_f (l : List Pt) (most : Nat) (hm : most ≤ 100) (whole : Bool) (hl : ∀ p ∈ l, fits p.f0) (hz : l.length ≤ 4611686018427387904) {K : Nat} (hK : (l.length + 1) * (most + 5) ≤ K) :
    tenementlaw13_writes.f K l (most : Int) whole = some (wrs most whole l []) := by
  unfold tenementlaw13_writes.f
  have := wr_l0 l most hm whole hl hz l.length 0 [] K (by omega) (by simp) hK
  rw [show ((0 : Nat) : Int) = 0 from rfl, List.drop_zero] at this
  exact this
end Go.Proofs.Ytbjpfgmmmdfbeaa.Pure

/- What the laws of the chapter want besides: the writes that they make, what sums are. -/
set_option linter.unusedVariables false
set_option linter.unusedSimpArgs false
namespace Go.Proofs.Ytbjpfgmmmdfbeaa.Quo
open Go Go.RowKit Go.WideShapes Go.Proofs.Ytbjpfgmmmdfbeaa.Q Go.Proofs.YtbjpfgmmmdfbeaaW.PrintWords Go.Proofs.YtbjpfgmmmdfbeaaW.PrintLast Go.Proofs.YtbjpfgmmmdfbeaaW.PrintMore
open Go.Maps (Keyed)
open Go.Proofs.Ytbjpfgmmmdfbeaa.Pure (wrap64_id toList_data toList_iff wrs fits)
abbrev Pt := S64
/-- What came in may be: no text is too long. -/
def okL (l : List Pt) : Prop := (∀ p ∈ l, fits p.f0) ∧ l.length ≤ 140737488351232
theorem wrs_small {l : List Pt} (h : okL l) (most : Nat) (whole : Bool) : small (wrs most whole l []) := by
  intro x hx
  have hf := Pure.wrs_all most whole fits l [] (fun p hp => Pure.wrt_fits p _ (h.1 p hp)) (fun x hx => by cases hx) x hx
  exact ⟨by have := hf.1; omega, by have := hf.2.1; omega⟩
theorem wrs_most (l : List Pt) (most : Nat) (whole : Bool) : (wrs most whole l []).length ≤ most := Pure.wrs_len most whole l [] (by simp)
theorem writes_c (A : Option Addr) (c : Nat) (l : List Pt) (most : Nat) (m : Int) (he : (most : Int) = m) (whole : Bool) (w : World) (hr : Kd.C k64 w A l.length l) (hc : l.length ≤ c) (h : okL l) (hm : most ≤ 100) (ws : List Wr) (hws : wrs most whole l [] = ws) :
    Calls Try.prog 11 #[.slice A l.length c, .int .i64 m, .bool whole] w fun e w' => ∃ A' c', e = .returned (.slice A' ws.length c') ∧ ws.length ≤ c' ∧ Kd.C k45 w' A' ws.length ws ∧ Below w.heap.size w w' ∧ ∀ ad, A' = some ad → w.heap.size ≤ ad.block := by
  subst he
  subst hws
  refine (tenementlaw13_writes.calls _ A c l most whole _ w hr hc (Pure.writes_f l most hm whole h.1 (by have := h.2; omega) (Nat.le_refl _))).mono ?_
  rintro e w' ⟨v, rfl, hR, hb⟩
  obtain ⟨A', c', rfl, hl, hC⟩ := Kd.R_reads hR
  refine ⟨A', c', rfl, hl, hC, hb, ?_⟩
  rintro ad rfl
  obtain ⟨inner, ho⟩ := Kd.R_own hR
  exact own_base ho ad.block rfl
theorem add_blk (a : Addr) (i : Nat) : (a.add i).block = a.block := by
  unfold Addr.add
  split <;> rfl
/-- A row of writes in a block that is not the one that was written. -/
theorem C_grown {w w1 : World} {A : Option Addr} {n g : Nat} {xs : List Wr} (h : Kd.C k45 w A n xs) (hg : w.grownBy w1 (some g)) (hne : ∀ ad, A = some ad → ad.block ≠ g) : Kd.C k45 w1 A n xs := by
  refine ⟨h.1, h.2.1, fun hp => ?_⟩
  obtain ⟨ad, e, hc⟩ := h.2.2 hp
  refine ⟨ad, e, fun j p hj => ?_⟩
  obtain ⟨c, hs, hr, hcell⟩ := hc j p hj
  refine ⟨c, hs, (k45_open hr) ▸ k45_mk w1 p, fun i u hu => hg.cell (hcell i u hu) ?_⟩
  rw [add_blk]
  intro e'
  exact hne ad e (by simpa using e')
/-- A row of rows: the row at a place. -/
theorem at_row {w : World} {A : Option Addr} {n : Nat} {xs : List (List Pt)} (h : Kd.C (Kd.slice 64 k64) w A n xs) (j : Nat) (h1 : j < n) :
    ∃ ad x A' c', A = some ad ∧ xs[j]? = some x ∧ w.cell? (ad.add j) = some (.slice A' x.length c') ∧ x.length ≤ c' ∧ Kd.C k64 w A' x.length x := by
  obtain ⟨ad, c, e, _, hK, hc⟩ := Kd.C_get h [] (j : Int) (by omega) (by omega)
  have hl : j < xs.length := by have := h.1; omega
  obtain ⟨A', c', hcs, hle, hC⟩ := hK
  have hx : xs[j]? = some (xs.getD (j : Int).toNat []) := by
    rw [Int.toNat_natCast, List.getD_eq_getElem?_getD, List.getElem?_eq_getElem hl]
    rfl
  refine ⟨ad, _, A', c', e, hx, ?_, hle, hC⟩
  have h2 := hc 0 _ (by rw [hcs]; rfl)
  have e2 : (j : Int).toNat * (Kd.slice 64 k64).sz + 0 = j := by
    show (j : Int).toNat * 1 + 0 = j
    omega
  rwa [e2] at h2
/-- Sizes as they are kept. -/
def good (L : List En) : Prop := ∀ p ∈ L, 0 < p.2 ∧ p.2 ≤ 64
theorem good_nil : good [] := fun p hp => by cases hp
theorem good_strike {L : List En} (h : good L) (k : Lit) : good (strike k L) := fun p hp => h p (List.mem_filter.1 hp).1
theorem good_step {L : List En} (h : good L) (x : Wr) : good (step L x) := by
  unfold step
  by_cases c : rightW x = true
  · rw [if_pos c]
    by_cases d : 0 < szW x
    · rw [if_pos d]
      intro p hp
      rcases List.mem_append.1 hp with hp | hp
      · exact good_strike (good_strike h _) _ p hp
      · rw [List.mem_singleton.1 hp]
        exact ⟨d, (size_f c).2.2.1⟩
    · rw [if_neg d]
      exact good_strike h _
  · rw [if_neg c]
    exact h
theorem good_taken : ∀ (l : List Wr) {L : List En}, good L → good (taken L l)
  | [], L, h => h
  | x :: r, L, h => good_taken r (good_step h x)
theorem good_total : ∀ {L : List En}, good L → 0 ≤ total L ∧ total L ≤ 64 * (L.length : Int)
  | [], _ => ⟨by simp [total], by simp [total]⟩
  | x :: r, h => by
    have h1 := h x (by simp)
    have h2 := good_total (L := r) (fun p hp => h p (by simp [hp]))
    rw [total_cons, List.length_cons]
    omega
theorem good_wrap {L : List En} (h : good L) (hl : L.length ≤ 1000000) : wrap64 (total L) = total L := by
  have := good_total h
  exact wrap64_id (by omega) (by omega)
theorem u8_range {x : Int} (h : (Lit.int .u8 x).wf = true) : 0 ≤ x ∧ x ≤ 255 := by
  have h : IntKind.u8.min ≤ x ∧ x ≤ IntKind.u8.max := by simpa only [Lit.wf, Bool.and_eq_true, decide_eq_true_eq] using h
  exact h
theorem step_int (j : Nat) (h : j ≤ 4611686018427387904) : Value.int .i64 (wrap64 ((j : Int) + 1)) = .int .i64 ((j + 1 : Nat) : Int) := by
  rw [wrap64_id (by omega) (by omega)]
  rfl
end Go.Proofs.Ytbjpfgmmmdfbeaa.Quo

/- What was taken last of each key: the sum of the sizes, and how many there are. -/
set_option linter.unusedVariables false
set_option linter.unusedSimpArgs false
namespace Go.Proofs.Ytbjpfgmmmdfbeaa.Quo
open Go Go.RowKit Go.WideShapes Go.Proofs.Ytbjpfgmmmdfbeaa.Q Go.Proofs.YtbjpfgmmmdfbeaaW.PrintWords Go.Proofs.YtbjpfgmmmdfbeaaW.PrintLast Go.Proofs.YtbjpfgmmmdfbeaaW.PrintMore
open Go.Maps (Keyed)
open Go.Proofs.Ytbjpfgmmmdfbeaa.Pure (wrap64_id toList_data toList_iff wrs fits)
def eqK (y x : Wr) : Bool := (y.f0.toList == x.f0.toList) && (y.f1.toList == x.f1.toList)
def later (r : List Wr) (x : Wr) : Bool := r.any fun y => eqK y x && rightW y
def lst (x : Wr) (r : List Wr) : Bool := rightW x && !later r x
def sumL : List Wr → Int
  | [] => 0
  | x :: r => (if lst x r = true then szW x else 0) + sumL r
def cntL : List Wr → Int
  | [] => 0
  | x :: r => (if (lst x r && !x.f3) = true then 1 else 0) + cntL r
def free (ws : List Wr) (p : En) : Bool := !(ws.any fun y => rightW y && p.1.sameKey (kl y.f0 y.f1))
theorem same_kl (x y : Wr) (hx : x.f0.size ≤ 9223372036854775807 ∧ x.f1.size ≤ 9223372036854775807) (hy : y.f0.size ≤ 9223372036854775807 ∧ y.f1.size ≤ 9223372036854775807) : (kl x.f0 x.f1).sameKey (kl y.f0 y.f1) = eqK y x := by
  unfold eqK
  by_cases h : y.f0 = x.f0 ∧ y.f1 = x.f1
  · rw [h.1, h.2, Go.WideAt.sameKey_self (show Go.WideAt.IsKeyLit (kl x.f0 x.f1) from trivial)]
    simp
  · have hne : kl x.f0 x.f1 ≠ kl y.f0 y.f1 := fun e => h (by
      have q := kl_inj hx.1 hx.2 hy.1 hy.2 e
      exact ⟨q.1.symm, q.2.symm⟩)
    rw [Go.Maps.sameKey_ne hne]
    symm
    rw [Bool.and_eq_false_iff]
    by_cases h0 : y.f0 = x.f0
    · right
      exact beq_eq_false_iff_ne.2 (fun e => h ⟨h0, toList_iff.1 e⟩)
    · left
      exact beq_eq_false_iff_ne.2 (fun e => h0 (toList_iff.1 e))
theorem free_key (x : Wr) (r : List Wr) (z : Int) (hs : small (x :: r)) : free r (kl x.f0 x.f1, z) = !later r x := by
  unfold free later
  congr 1
  have hx := hs x (by simp)
  have : ∀ (l : List Wr), (∀ y ∈ l, y ∈ r) → l.any (fun y => rightW y && (kl x.f0 x.f1).sameKey (kl y.f0 y.f1)) = l.any (fun y => eqK y x && rightW y) := by
    intro l
    induction l with
    | nil => intro _; rfl
    | cons y t ih =>
      intro h
      rw [List.any_cons, List.any_cons, ih (fun z hz => h z (by simp [hz])), same_kl x y hx (hs y (by simp [h y (by simp)])), Bool.and_comm]
  exact this r (fun _ h => h)
theorem free_cons (x : Wr) (r : List Wr) (p : En) : free (x :: r) p = (!(rightW x && p.1.sameKey (kl x.f0 x.f1)) && free r p) := by
  unfold free
  rw [List.any_cons, Bool.not_or]
theorem strike_free (x : Wr) (r : List Wr) (L : List En) (c : rightW x = true) : (strike (kl x.f0 x.f1) L).filter (free r) = L.filter (free (x :: r)) := by
  unfold strike
  rw [List.filter_filter]
  refine List.filter_congr (fun p _ => ?_)
  rw [free_cons, c, Bool.true_and, Bool.and_comm]
theorem sz_zero {x : Wr} (c : rightW x = true) (d : ¬ 0 < szW x) : szW x = 0 ∧ x.f3 = true := by
  obtain ⟨_, h0, _, h1⟩ := size_f c
  refine ⟨by omega, ?_⟩
  cases hx : x.f3 with
  | true => rfl
  | false => exact absurd (h1 hx) d
theorem sz_pos {x : Wr} (d : 0 < szW x) : x.f3 = false := by
  cases hx : x.f3 with
  | false => rfl
  | true =>
    unfold szW at d
    rw [hx, if_pos rfl] at d
    omega
theorem step_filter (x : Wr) (r : List Wr) (L : List En) (hs : small (x :: r)) :
    (step L x).filter (free r) = L.filter (free (x :: r)) ++ (if (lst x r && !x.f3) = true then [(kl x.f0 x.f1, szW x)] else []) := by
  unfold step lst
  by_cases c : rightW x = true
  · rw [if_pos c, c, Bool.true_and]
    by_cases d : 0 < szW x
    · rw [if_pos d, strike_strike, List.filter_append, strike_free x r L c, sz_pos d]
      congr 1
      rw [List.filter_cons, free_key x r _ hs, List.filter_nil]
      simp
    · rw [if_neg d, strike_free x r L c, (sz_zero c d).2]
      simp
  · have c' : rightW x = false := by simpa using c
    rw [if_neg c, c', Bool.false_and, if_neg (by simp), List.append_nil]
    refine List.filter_congr (fun p _ => ?_)
    rw [free_cons, c']
    simp
theorem last_both : ∀ (ws : List Wr) (L : List En), small ws → total (taken L ws) = total (L.filter (free ws)) + sumL ws ∧ ((taken L ws).length : Int) = ((L.filter (free ws)).length : Int) + cntL ws
  | [], L, _ => by
    have e : L.filter (free []) = L := List.filter_eq_self.2 (fun p _ => rfl)
    rw [e]
    exact ⟨by simp [taken, sumL], by simp [taken, cntL]⟩
  | x :: r, L, hs => by
    obtain ⟨h1, h2⟩ := last_both r (step L x) (fun y hy => hs y (by simp [hy]))
    rw [show taken L (x :: r) = taken (step L x) r from rfl, h1, h2, step_filter x r L hs, total_append, List.length_append, sumL, cntL]
    by_cases c : (lst x r && !x.f3) = true
    · rw [if_pos c, if_pos c, if_pos (by simp at c; exact c.1)]
      refine ⟨?_, ?_⟩
      · rw [total_cons, total_nil]
        show _ + (szW x + 0) + _ = _
        omega
      · rw [List.length_singleton]
        omega
    · rw [if_neg c, if_neg c]
      have e : (if lst x r = true then szW x else 0) = 0 := by
        by_cases d : lst x r = true
        · rw [if_pos d]
          have hx : x.f3 = true := by
            cases hf : x.f3 with
            | true => rfl
            | false => rw [d, hf] at c; simp at c
          unfold szW
          rw [hx, if_pos rfl]
        · rw [if_neg d]
      rw [e, total_nil, List.length_nil]
      omega
theorem last_all (ws : List Wr) (hs : small ws) : total (taken [] ws) = sumL ws ∧ ((taken [] ws).length : Int) = cntL ws := by
  obtain ⟨h1, h2⟩ := last_both ws [] hs
  rw [h1, h2]
  simp [total]
theorem sum_bound : ∀ (r : List Wr), (0 ≤ sumL r ∧ sumL r ≤ 64 * (r.length : Int)) ∧ 0 ≤ cntL r ∧ cntL r ≤ (r.length : Int)
  | [] => by simp [sumL, cntL]
  | x :: r => by
    have ih := sum_bound r
    rw [sumL, cntL, List.length_cons]
    have h1 : 0 ≤ (if lst x r = true then szW x else 0) ∧ (if lst x r = true then szW x else 0) ≤ 64 := by
      by_cases c : lst x r = true
      · rw [if_pos c]
        have hr : rightW x = true := by unfold lst at c; simp at c; exact c.1
        have := size_f hr
        exact ⟨this.2.1, this.2.2.1⟩
      · rw [if_neg c]; omega
    have h2 : 0 ≤ (if (lst x r && !x.f3) = true then (1 : Int) else 0) ∧ (if (lst x r && !x.f3) = true then (1 : Int) else 0) ≤ 1 := by split <;> omega
    omega
end Go.Proofs.Ytbjpfgmmmdfbeaa.Quo

namespace Go.Proofs.Ytbjpfgmmmdfbeaa.Q
open Go.RowKit Go.Proofs.YtbjpfgmmmdfbeaaW.PrintWords Go.Proofs.YtbjpfgmmmdfbeaaW.PrintLast Go.Proofs.YtbjpfgmmmdfbeaaW.PrintMore
attribute [local go_sem] max2_int min2_int max_two min_two max_three min_three max_four min_four   -- for this text's walks alone
set_option linter.unusedVariables false
set_option linter.unusedSimpArgs false
/-! ### tenementlaw13_QuotaLast: function 5 -/
-- FOREIGN: writes taken one by one; what was last of each key counts
-- import Derived.Test.YtbjpfgmmmdfbeaaQuoS
-- import Derived.Deep.RegionHeld3
-- import Derived.Deep.CutBlock
open Classical in
noncomputable def tenementlaw13_QuotaLast.f (l0 : List S64) : Option Bool := if Quo.okL l0 then some true else none
theorem tenementlaw13_QuotaLast.C_sub {w : World} {ad : Addr} {xs : List Quo.Wr} (h : Kd.C k45 w (some ad) xs.length xs) (j : Nat) (h1 : j < xs.length) : Kd.C k45 w (some (ad.add (j * 4))) 1 [xs[j]'h1] := by
  refine ⟨rfl, by omega, fun _ => ⟨_, rfl, ?_⟩⟩
  intro i p hp
  have hi : i = 0 := by
    rcases i with _ | i
    · rfl
    · simp at hp
  subst hi
  obtain rfl : xs[j] = p := by simpa using hp
  obtain ⟨ad', e, hc⟩ := h.2.2 (by omega)
  cases e
  obtain ⟨c, hs, hr, hcell⟩ := hc j _ (List.getElem?_eq_getElem h1)
  refine ⟨c, hs, hr, fun i u hu => ?_⟩
  have e2 : (ad.add (j * 4)).add (0 * k45.sz + i) = ad.add (j * k45.sz + i) := by
    show (ad.add (j * 4)).add (0 * 4 + i) = ad.add (j * 4 + i)
    rw [Nat.zero_mul, Nat.zero_add]
    by_cases hi : i = 0
    · subst hi
      simp [Addr.add]
    · rw [add_field ad (j * 4) i (by omega)]
      have := add_field (ad.add (j * 4)) 0 i (by omega)
      rw [Nat.zero_add] at this
      rw [this]
      simp [Addr.add]
  rw [e2]
  exact hcell i u hu
theorem tenementlaw13_QuotaLast.bfin (p lt e r b : Bool) (h : b = (p && !lt)) : (b && !(e && r)) = (p && !(lt || (e && r))) := by
  subst h
  cases p <;> cases lt <;> cases e <;> cases r <;> rfl
set_option maxHeartbeats 8000000 in
set_option maxRecDepth 100000 in
theorem tenementlaw13_QuotaLast.calls (A0 : Option Addr) (c0 : Nat) (l0 : List S64) (r : Bool) (w : World) (hr0 : Kd.C k64 w A0 l0.length l0) (hc0 : l0.length ≤ c0) (h : tenementlaw13_QuotaLast.f l0 = some r) :
    Calls Try.prog 5 #[.slice A0 l0.length c0] w fun e w' => e = .returned (.bool r) ∧ Below w.heap.size w w' := by
  unfold tenementlaw13_QuotaLast.f at h
  by_cases hw : Quo.okL l0
  rotate_left
  · rw [if_neg hw] at h; cases h
  rw [if_pos hw] at h
  obtain rfl := Option.some.inj h
  clear h
  have HW := Aside0.mk hw
  have HR := Aside0.mk hr0
  clear hw hr0
  obtain ⟨ws, hws⟩ : ∃ ws, ws = Pure.wrs 20 false l0 [] := ⟨_, rfl⟩
  have HWE := Aside0.mk hws.symm
  have HWS : Aside0 (Quo.small ws) := ⟨hws ▸ Quo.wrs_small HW.out 20 false⟩
  have HWL : Aside0 (ws.length ≤ 20) := ⟨hws ▸ Quo.wrs_most l0 20 false⟩
  clear hws
  go_enter Try.func5, Try.ntmps5
  go_wp2_with (first
    | (go_at_call 8; refine (Quo.ex_c _).mono ?_; rintro e w1 ⟨rfl, hb⟩; have HB1 := Aside0.mk hb; clear hb)
    | (go_at_call 9; (with_reducible refine (Quo.new_q 1048576 _ (by omega) (by omega)).mono ?_); rintro e w2 ⟨g, rfl, hg, hst, hb⟩; have HG := Aside0.mk (Nat.le_trans HB1.out.size hg); have HS := Aside0.mk hst; have HB := Aside0.mk (below_step HB1.out hb); clear hg hst hb HB1)
    | (go_at_call 11; (with_reducible refine (Quo.writes_c A0 c0 l0 20 20 rfl false _ (Kd.C_below HR.out HB.out) hc0 HW.out (by omega) ws HWE.out).mono ?_); rintro e wu ⟨A2, c2, rfl, hl2, hC2, hb, hnb⟩; have HC := Aside0.mk hC2; have HNG : Aside0 (∀ ad, A2 = some ad → ad.block ≠ g) := ⟨fun ad e => by have := hnb ad e; have := HS.out.lt; omega⟩; replace HS := Aside0.mk (HS.out.below hb); replace HB := Aside0.mk (below_step HB.out hb); clear hC2 hb hnb))
  go_loopg [7, 8, 9, 10] ws.length (fun kq v7 v8 v9 v10 wr => ∃ (j : Nat), v9 = .int .i64 j ∧ v7 = .int .i64 (Quo.sumL ws - Quo.sumL (ws.drop j)) ∧ v8 = .int .i64 (Quo.cntL ws - Quo.cntL (ws.drop j)) ∧ Aside0 (j ≤ ws.length) ∧ Aside0 (ws.length - j ≤ kq) ∧ Aside0 (Quo.Sq wr g 1048576 (Quo.taken [] (ws.take j))) ∧ Aside0 (Below w.heap.size w wr) ∧ Aside0 (Kd.C k45 wr A2 ws.length ws))
  case atStart => exact ⟨0, rfl, by rw [List.drop_zero, Int.sub_self], by rw [List.drop_zero, Int.sub_self], ⟨by omega⟩, ⟨by omega⟩, HS, HB, HC⟩
  case round =>
    obtain ⟨j, rfl, rfl, rfl, HJ, HK, HS, HB, HC⟩ := hrel
    by_cases c1 : j < ws.length
    rotate_left
    · have c1b : decide ((j : Int) < (ws.length : Int)) = false := decide_eq_false (by omega)
      have hjl : j = ws.length := by have := HJ.out; omega
      subst hjl
      rw [List.take_length] at HS
      obtain ⟨e1, e2⟩ := Quo.last_all ws HWS.out
      have hgd := Quo.good_wrap (Quo.good_taken ws Quo.good_nil) (by have := Quo.taken_length ws []; have := HWL.out; simp only [List.length_nil] at *; omega)
      have HT := Aside0.mk (show wrap64 (Quo.total (Quo.taken [] ws)) = Quo.sumL ws - Quo.sumL (ws.drop ws.length) by rw [hgd, e1, List.drop_length]; simp [Quo.sumL])
      have HN := Aside0.mk (show ((Quo.taken [] ws).length : Int) = Quo.cntL ws - Quo.cntL (ws.drop ws.length) by rw [e2, List.drop_length]; simp [Quo.cntL])
      clear e1 e2 hgd
      generalize Quo.sumL ws - Quo.sumL (ws.drop ws.length) = S at *
      generalize Quo.cntL ws - Quo.cntL (ws.drop ws.length) = C at *
      go_wp2_with (first
        | (go_at_call 18; (with_reducible refine (Quo.used_q g _ _ _ HS.out _ HT.out).mono ?_); rintro e wu ⟨rfl, hb⟩; replace HS := Aside0.mk (HS.out.below hb); replace HB := Aside0.mk (below_step HB.out hb); clear hb)
        | (go_at_call 20; (with_reducible refine (Quo.keys_q g _ _ _ HS.out _ HN.out).mono ?_); rintro e wu ⟨rfl, hb⟩; replace HB := Aside0.mk (below_step HB.out hb); clear hb))
      go_ret
      exact ⟨rfl, HB.out⟩
    · have c1b : decide ((j : Int) < (ws.length : Int)) = true := decide_eq_true (by omega)
      have c0b : decide (0 ≤ (j : Int)) = true := decide_eq_true (by omega)
      have c2b : decide ((j : Int) ≤ (j : Int) + 1) = true := decide_eq_true (by omega)
      have c3b : decide ((j : Int) + 1 ≤ (c2 : Int)) = true := decide_eq_true (by omega)
      have c4b : decide (0 ≤ (j : Int) + 1) = true := decide_eq_true (by omega)
      have hj20 : j < 20 := by have := HWL.out; omega
      have hx : ws[j]? = .some (ws[j]'c1) := List.getElem?_eq_getElem c1
      have hm : ws[j]'c1 ∈ ws := List.getElem_mem c1
      obtain ⟨x, hxe⟩ : ∃ x, x = ws[j]'c1 := ⟨_, rfl⟩
      have HX := Aside0.mk hxe
      have HTK := Aside0.mk (show Quo.taken [] (ws.take (j + 1)) = Quo.step (Quo.taken [] (ws.take j)) x by rw [List.take_add_one, hx, hxe]; exact Quo.taken_snoc _ _ _)
      have HDR := Aside0.mk (show ws.drop j = x :: ws.drop (j + 1) by rw [hxe]; exact List.drop_eq_getElem_cons c1)
      have HXS := Aside0.mk (HWS.out _ hm)
      rw [← hxe] at HXS
      have HXL : Aside0 (Quo.small [x]) := ⟨fun y hy => by rw [List.mem_singleton.1 hy]; exact HXS.out⟩
      have hlen := Quo.taken_length (ws.take j) []
      rw [List.length_take, List.length_nil] at hlen
      have HGD := Aside0.mk (Quo.good_step (Quo.good_taken (ws.take j) Quo.good_nil) x)
      have hsl := Quo.step_length (Quo.taken [] (ws.take j)) x
      have HTT := Aside0.mk (Quo.good_wrap HGD.out (by have := HWL.out; omega))
      have htt := Quo.good_total HGD.out
      have HLN := Aside0.mk (show (Quo.taken [] (ws.take j)).length + 1 ≤ 1000000000 by omega)
      have HLE := Aside0.mk (show decide (Quo.total (Quo.step (Quo.taken [] (ws.take j)) x) ≤ 1048576) = true from decide_eq_true (by omega))
      have hcj : 1 ≤ c2 - j := by omega
      obtain ⟨ad, e0, h0, h1, h2, h3⟩ := at_T45 HC.out (j : Int) (by omega) (by omega)
      cases e0
      have HC1 := Aside0.mk (tenementlaw13_QuotaLast.C_sub HC.out j c1)
      rw [← hxe] at HC1
      have hrd : rd_T45 ws (j : Int) = x := by
        unfold rd_T45
        rw [Int.toNat_natCast, List.getD_eq_getElem?_getD, hx, hxe]
        rfl
      rw [hrd] at h0 h1 h2 h3
      have HF := Aside0.mk (Quo.right_f x)
      have HSZ := Aside0.mk (fun h => Quo.size_f (x := x) h)
      have HST := Aside0.mk (show Quo.taken (Quo.taken [] (ws.take j)) [x] = Quo.step (Quo.taken [] (ws.take j)) x from rfl)
      generalize Quo.taken [] (ws.take j) = L at *
      obtain ⟨L', hL'⟩ : ∃ L', L' = Quo.step L x := ⟨_, rfl⟩
      rw [← hL'] at HST HTT HLE HGD HTK
      clear hx hm hrd hlen hsl htt hL' hxe
      simp only [Int.toNat_natCast] at h0 h1 h2 h3
      have HH := Aside0.mk (And.intro h0 (And.intro h1 (And.intro h2 h3)))
      clear h0 h1 h2 h3
      go_wp2_with (first
        | (go_at_call 16; (with_reducible refine (Quo.take_q g _ _ _ 1 _ [x] rfl _ HS.out HC1.out hcj HXL.out HLN.out L' _ true HST.out HTT.out HLE.out).mono ?_); rintro e wu ⟨rfl, hst, hg⟩; replace HS := Aside0.mk (show Quo.Sq wu g _ L' from hst); replace HB := Aside0.mk (Quo.below_grown HB.out hg HG.out); replace HC := Aside0.mk (Quo.C_grown HC.out hg HNG.out); have h0 := hg.cell HH.out.1 (by have := HNG.out ad rfl; simpa [Quo.add_blk] using this); have h1 := hg.cell HH.out.2.1 (by have := HNG.out ad rfl; simpa [Quo.add_blk] using this); have h2 := hg.cell HH.out.2.2.1 (by have := HNG.out ad rfl; simpa [Quo.add_blk] using this); have h3 := hg.cell HH.out.2.2.2 (by have := HNG.out ad rfl; simpa [Quo.add_blk] using this); clear hst hg HC1 HH)
        | (go_at_call 23; (with_reducible refine (item_Right.calls x.f0 x.f1 x.f2 x.f3 _ _ HF.out).mono ?_); rintro e wu ⟨rfl, hb⟩; replace HS := Aside0.mk (HS.out.below hb); replace HB := Aside0.mk (below_step HB.out hb); replace HC := Aside0.mk (Kd.C_below HC.out hb); clear hb h0 h1 h2 h3))
      go_loopg [10, 11] ws.length (fun kq v10 v11 wr => ∃ (k : Nat), v11 = .int .i64 k ∧ v10 = .bool (Quo.rightW x && !Quo.later ((ws.take k).drop (j + 1)) x) ∧ Aside0 (j + 1 ≤ k ∧ k ≤ ws.length) ∧ Aside0 (ws.length - k ≤ kq) ∧ Aside0 (Quo.Sq wr g 1048576 L') ∧ Aside0 (Below w.heap.size w wr) ∧ Aside0 (Kd.C k45 wr (some ad) ws.length ws))
      case atStart => exact ⟨j + 1, by first | rfl | exact Quo.step_int j (by omega), by rw [List.drop_take, Nat.sub_self, List.take_zero]; simp [Quo.later], ⟨by omega⟩, ⟨by omega⟩, HS, HB, HC⟩
      case round =>
        obtain ⟨k, rfl, rfl, HJ2, HK2, HS, HB, HC⟩ := hrel
        by_cases d1 : k < ws.length
        rotate_left
        · have d1b : decide ((k : Int) < (ws.length : Int)) = false := decide_eq_false (by omega)
          have hk : k = ws.length := by have := HJ2.out; omega
          subst hk
          rw [List.take_length]
          obtain ⟨ad', e0, b0, b1, b2, b3⟩ := at_T45 HC.out (j : Int) (by omega) (by omega)
          cases e0
          have hrdj : rd_T45 ws (j : Int) = x := by
            unfold rd_T45
            rw [Int.toNat_natCast, List.getD_eq_getElem?_getD, List.getElem?_eq_getElem c1, HX.out]
            rfl
          rw [hrdj] at b0 b1 b2 b3
          simp only [Int.toNat_natCast] at b0 b1 b2 b3
          have q1 : Quo.sumL (ws.drop j) = (if Quo.lst x (ws.drop (j + 1)) = true then Quo.szW x else 0) + Quo.sumL (ws.drop (j + 1)) := by rw [HDR.out]; rfl
          have q2 : Quo.cntL (ws.drop j) = (if (Quo.lst x (ws.drop (j + 1)) && !x.f3) = true then 1 else 0) + Quo.cntL (ws.drop (j + 1)) := by rw [HDR.out]; rfl
          have n1 := Quo.sum_bound ws
          have n2 := Quo.sum_bound (ws.drop (j + 1))
          have n3 := Quo.sum_bound (ws.drop j)
          rw [List.length_drop] at n2 n3
          have hl : (Quo.rightW x && !Quo.later (ws.drop (j + 1)) x) = Quo.lst x (ws.drop (j + 1)) := rfl
          rw [hl]
          have HRT : Aside0 (Quo.lst x (ws.drop (j + 1)) = true → Quo.rightW x = true) := ⟨fun h => by unfold Quo.lst at h; simp at h; exact h.1⟩
          clear hrdj hl
          generalize Quo.lst x (ws.drop (j + 1)) = lb at *
          have HB7 := Aside0.mk (And.intro q1 (And.intro q2 (And.intro n1 (And.intro n2 n3))))
          clear q1 q2 n1 n2 n3
          cases lb with
          | false =>
            rw [if_neg (by simp), if_neg (by simp)] at HB7
            go_wp2
            go_roundg (ws.length - (j + 1))
            case measure => have := HK.out; omega
            case rel =>
              have b7 := HB7.out; have := HWL.out
              refine ⟨j + 1, by first | rfl | exact Quo.step_int j (by omega), ?_, ?_, ⟨by omega⟩, ⟨by omega⟩, ⟨by rw [HTK.out]; exact HS.out⟩, HB, HC⟩
              · congr 1; omega
              · congr 1; omega
          | true =>
            obtain ⟨s1, s2, s3, _⟩ := HSZ.out (HRT.out rfl)
            have HSF := Aside0.mk s1
            have HS23 := Aside0.mk (And.intro s2 s3)
            clear s1 s2 s3
            generalize Quo.szW x = sz at *
            cases hg3 : x.f3 with
            | true =>
              rw [hg3] at HB7 HSF b3
              rw [if_pos rfl, if_neg (by simp)] at HB7
              go_wp2_with (first | (go_at_call 24; (with_reducible refine (item_Size.calls x.f0 x.f1 x.f2 true _ _ HSF.out).mono ?_); rintro e wu ⟨rfl, hb⟩; replace HS := Aside0.mk (HS.out.below hb); replace HB := Aside0.mk (below_step HB.out hb); replace HC := Aside0.mk (Kd.C_below HC.out hb); have z3 := (hb.cell (World.block_lt_of_cell? _ _ b3)).trans b3; clear hb b0 b1 b2 b3))
              go_roundg (ws.length - (j + 1))
              case measure => have := HK.out; omega
              case rel =>
                have b7 := HB7.out; have := HWL.out
                refine ⟨j + 1, by first | rfl | exact Quo.step_int j (by omega), ?_, ?_, ⟨by omega⟩, ⟨by omega⟩, ⟨by rw [HTK.out]; exact HS.out⟩, HB, HC⟩
                · congr 1; have := HS23.out; first | (rw [Pure.wrap64_id (by omega) (by omega)]; omega) | omega
                · congr 1; omega
            | false =>
              rw [hg3] at HB7 HSF b3
              rw [if_pos rfl, if_pos (show (true && !false) = true from rfl)] at HB7
              go_wp2_with (first | (go_at_call 24; (with_reducible refine (item_Size.calls x.f0 x.f1 x.f2 false _ _ HSF.out).mono ?_); rintro e wu ⟨rfl, hb⟩; replace HS := Aside0.mk (HS.out.below hb); replace HB := Aside0.mk (below_step HB.out hb); replace HC := Aside0.mk (Kd.C_below HC.out hb); have z3 := (hb.cell (World.block_lt_of_cell? _ _ b3)).trans b3; clear hb b0 b1 b2 b3))
              go_roundg (ws.length - (j + 1))
              case measure => have := HK.out; omega
              case rel =>
                have b7 := HB7.out; have := HWL.out
                refine ⟨j + 1, by first | rfl | exact Quo.step_int j (by omega), ?_, ?_, ⟨by omega⟩, ⟨by omega⟩, ⟨by rw [HTK.out]; exact HS.out⟩, HB, HC⟩
                · congr 1; have := HS23.out; first | (rw [Pure.wrap64_id (by omega) (by omega)]; omega) | omega
                · congr 1; first | (rw [Pure.wrap64_id (by omega) (by omega)]; omega) | omega
        · have d1b : decide ((k : Int) < (ws.length : Int)) = true := decide_eq_true (by omega)
          have d0b : decide (0 ≤ (k : Int)) = true := decide_eq_true (by omega)
          have hy : ws[k]? = .some (ws[k]'d1) := List.getElem?_eq_getElem d1
          obtain ⟨y, hye⟩ : ∃ y, y = ws[k]'d1 := ⟨_, rfl⟩
          have HLT := Aside0.mk (show Quo.later ((ws.take (k + 1)).drop (j + 1)) x = (Quo.later ((ws.take k).drop (j + 1)) x || (Quo.eqK y x && Quo.rightW y)) by
            have hjk := HJ2.out
            rw [List.take_add_one, hy, ← hye, List.drop_append, List.length_take, show j + 1 - min k ws.length = 0 by omega]
            unfold Quo.later
            rw [List.any_append]
            simp)
          obtain ⟨ad', e0, a0, a1, a2, a3⟩ := at_T45 HC.out (k : Int) (by omega) (by omega)
          cases e0
          obtain ⟨ad', e0, b0, b1, b2, b3⟩ := at_T45 HC.out (j : Int) (by omega) (by omega)
          cases e0
          have hrdk : rd_T45 ws (k : Int) = y := by
            unfold rd_T45
            rw [Int.toNat_natCast, List.getD_eq_getElem?_getD, hy, hye]
            rfl
          have hrdj : rd_T45 ws (j : Int) = x := by
            unfold rd_T45
            rw [Int.toNat_natCast, List.getD_eq_getElem?_getD, List.getElem?_eq_getElem c1, HX.out]
            rfl
          rw [hrdk] at a0 a1 a2 a3
          rw [hrdj] at b0 b1 b2 b3
          simp only [Int.toNat_natCast] at a0 a1 a2 a3 b0 b1 b2 b3
          have HFY := Aside0.mk (Quo.right_f y)
          have hk20 : k < 20 := by have := HWL.out; omega
          clear hrdk hrdj hy hye
          have HLT2 := HLT.out
          generalize Quo.later ((ws.take k).drop (j + 1)) x = lt at *
          unfold Quo.eqK at HLT2
          have HLT3 := Aside0.mk HLT2
          clear HLT2 HLT
          obtain ⟨b, hb0⟩ : ∃ b, b = (Quo.rightW x && !lt) := ⟨_, rfl⟩
          rw [← hb0]
          have HBB := Aside0.mk hb0
          clear hb0
          go_wp2
          cases b with
          | false =>
            go_region
            go_wp2
            go_roundg (ws.length - (k + 1))
            case measure => have := HK2.out; omega
            case rel => exact ⟨k + 1, by first | rfl | exact Quo.step_int k (by omega), by rw [HLT3.out, ← tenementlaw13_QuotaLast.bfin _ _ _ _ _ HBB.out]; rfl, ⟨by have := HJ2.out; omega⟩, ⟨by omega⟩, ⟨HS.out.below (below_drew1 (Below.refl _ _))⟩, ⟨below_drew1 HB.out⟩, ⟨Kd.C_drew HC.out⟩⟩
          | true =>
            cases he0 : (y.f0.toList == x.f0.toList) with
            | false =>
              rw [he0] at HLT3
              go_region
              all_goals
                go_wp2
                go_roundg (ws.length - (k + 1))
                case measure => have := HK2.out; omega
                case rel => exact ⟨k + 1, by first | rfl | exact Quo.step_int k (by omega), by rw [HLT3.out, ← tenementlaw13_QuotaLast.bfin _ _ _ _ _ HBB.out]; rfl, ⟨by have := HJ2.out; omega⟩, ⟨by omega⟩, ⟨HS.out.below (below_drew1 (Below.refl _ _))⟩, ⟨below_drew1 HB.out⟩, ⟨Kd.C_drew HC.out⟩⟩
            | true =>
              cases he1 : (y.f1.toList == x.f1.toList) with
              | false =>
                rw [he0, he1] at HLT3
                go_region
                all_goals
                  go_wp2
                  go_roundg (ws.length - (k + 1))
                  case measure => have := HK2.out; omega
                  case rel => exact ⟨k + 1, by first | rfl | exact Quo.step_int k (by omega), by rw [HLT3.out, ← tenementlaw13_QuotaLast.bfin _ _ _ _ _ HBB.out]; rfl, ⟨by have := HJ2.out; omega⟩, ⟨by omega⟩, ⟨HS.out.below (below_drew1 (Below.refl _ _))⟩, ⟨below_drew1 HB.out⟩, ⟨Kd.C_drew HC.out⟩⟩
              | true =>
                rw [he0, he1] at HLT3
                go_region_held3 (fun w' => w'.cell? (ad.add (k * 4)) = some (.string y.f0) ∧ w'.cell? ⟨(ad.add (k * 4)).block, (ad.add (k * 4)).off + 1, none⟩ = some (.string y.f1) ∧ w'.cell? ⟨(ad.add (k * 4)).block, (ad.add (k * 4)).off + 2, none⟩ = some (.string y.f2) ∧ w'.cell? ⟨(ad.add (k * 4)).block, (ad.add (k * 4)).off + 3, none⟩ = some (.bool y.f3) ∧ w'.cell? (ad.add (j * 4)) = some (.string x.f0) ∧ w'.cell? ⟨(ad.add (j * 4)).block, (ad.add (j * 4)).off + 1, none⟩ = some (.string x.f1)) (go_keep) (first | (go_at_call 23; (with_reducible refine (item_Right.calls y.f0 y.f1 y.f2 y.f3 _ _ HFY.out).mono ?_); rintro e wu ⟨rfl, hb⟩; have hb9 := below_step (below_drew1 (Below.refl _ _)) hb; replace HS := Aside0.mk (HS.out.below hb9); replace HB := Aside0.mk (below_step (below_drew1 HB.out) hb); replace HC := Aside0.mk (Kd.C_below HC.out hb9); have z0 := (hb9.cell (World.block_lt_of_cell? _ _ a0)).trans a0; have z1 := (hb9.cell (World.block_lt_of_cell? _ _ a1)).trans a1; have z2 := (hb9.cell (World.block_lt_of_cell? _ _ a2)).trans a2; have z3 := (hb9.cell (World.block_lt_of_cell? _ _ a3)).trans a3; have y0 := (hb9.cell (World.block_lt_of_cell? _ _ b0)).trans b0; have y1 := (hb9.cell (World.block_lt_of_cell? _ _ b1)).trans b1; clear hb hb9))
                all_goals
                  go_wp2
                  go_roundg (ws.length - (k + 1))
                  case measure => have := HK2.out; omega
                  case rel => exact ⟨k + 1, by first | rfl | exact Quo.step_int k (by omega), by rw [HLT3.out, ← tenementlaw13_QuotaLast.bfin _ _ _ _ _ HBB.out]; rfl, ⟨by have := HJ2.out; omega⟩, ⟨by omega⟩, HS, HB, HC⟩
end Go.Proofs.Ytbjpfgmmmdfbeaa.Q

set_option linter.unusedVariables false
namespace Go.Proofs.Ytbjpfgmmmdfbeaa.Q
open Go.RowKit Go.Proofs.Ytbjpfgmmmdfbeaa.Q Go.Proofs.YtbjpfgmmmdfbeaaW.PrintWords Go.Proofs.YtbjpfgmmmdfbeaaW.PrintLast Go.Proofs.YtbjpfgmmmdfbeaaW.PrintMore
def tenementlaw13_QuotaLast.Pure : Prop := ∀ (x0 : List (S64)), ((∀ x_ ∈ x0, wf64 x_) ∧ x0.length * 64 ≤ 140737488351232) → tenementlaw13_QuotaLast.f x0 = some true
end Go.Proofs.Ytbjpfgmmmdfbeaa.Q

/- Just what was taken last of each key counts, whatever was taken of it ahead; what is gone counts nothing: the first 20 parts of writes, one by one. -/
set_option linter.unusedVariables false
set_option linter.unusedSimpArgs false
namespace Go.Proofs.Ytbjpfgmmmdfbeaa.Pure
open Go.RowKit Go.Proofs.Ytbjpfgmmmdfbeaa.Q Go.Proofs.YtbjpfgmmmdfbeaaW.PrintWords Go.Proofs.YtbjpfgmmmdfbeaaW.PrintLast Go.Proofs.YtbjpfgmmmdfbeaaW.PrintMore
theorem QuotaLast : tenementlaw13_QuotaLast.Pure := by
  intro l hl
  have hok : Quo.okL l := ⟨fun p hp => by
    have h := hl.1 p hp
    exact ⟨h.1.1, h.1.2.1, h.1.2.2.1⟩, by have h := hl.2; omega⟩
  unfold tenementlaw13_QuotaLast.f
  rw [if_pos hok]
end Go.Proofs.Ytbjpfgmmmdfbeaa.Pure
