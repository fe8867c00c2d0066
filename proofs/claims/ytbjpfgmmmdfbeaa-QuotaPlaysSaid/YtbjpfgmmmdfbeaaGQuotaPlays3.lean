import Derived.Test.YtbjpfgmmmdfbeaaGQuotaPlays0
import Derived.Test.YtbjpfgmmmdfbeaaGQuotaPlays2
import Derived.Test.YtbjpfgmmmdfbeaaGQuotaPlays1
import Derived.RegionTactic
import Derived.Deep.RegionHeld3
import Derived.Test.YtbjpfgmmmdfbeaaQx0
/- Writes and transactions as the laws make them. -/
set_option linter.unusedVariables false
set_option linter.unusedSimpArgs false
namespace Go.Proofs.Ytbjpfgmmmdfbeaa.Pure
open Go.RowKit Go.Proofs.Ytbjpfgmmmdfbeaa.Q Go.Proofs.YtbjpfgmmmdfbeaaW.PrintWords Go.Proofs.YtbjpfgmmmdfbeaaW.PrintLast Go.Proofs.YtbjpfgmmmdfbeaaW.PrintMore Go.Proofs.Ytbjpfgmmmdfbeaa.Plain

abbrev Wr := S45
abbrev Pt := S64
/-- A write whose texts are not too long. -/
def fits (x : Wr) : Prop := x.f0.size ≤ 140737488351232 ∧ x.f1.size ≤ 140737488351232 ∧ x.f2.size ≤ 140737488351232
theorem str_size (l : List Int) : (strOfNums l).size = l.length := by
  unfold strOfNums
  simp [ByteArray.size]
/-- What a part of a deal is. -/
def wrt (p : Pt) (own : Bool) : Wr :=
  if own = true then (if 224 ≤ p.f2 then ⟨strOfNums [98, IntKind.u8.wrap (48 + Int.tmod p.f2 2)], strOfNums [IntKind.u8.wrap (97 + Int.tmod (IntKind.u8.wrap (Int.tdiv p.f2 2)) 4)], ⟨#[]⟩, true⟩
    else ⟨strOfNums [98, IntKind.u8.wrap (48 + Int.tmod p.f2 2)], strOfNums [IntKind.u8.wrap (97 + Int.tmod (IntKind.u8.wrap (Int.tdiv p.f2 2)) 4)], p.f0.f2.extract 0 (min p.f0.f2.size 8), false⟩)
  else p.f0
theorem wrt_f (p : Pt) (own : Bool) (h : fits p.f0) : tenementlaw13_Put_write.f p.f0.f0 p.f0.f1 p.f0.f2 p.f0.f3 own p.f2 = some ((wrt p own).f0, (wrt p own).f1, (wrt p own).f2, (wrt p own).f3) := by
  unfold tenementlaw13_Put_write.f wrt
  cases own with
  | true =>
    rw [if_pos rfl, if_pos rfl, if_pos (by have := h.2.2; omega)]
    by_cases c : 224 ≤ p.f2
    · rw [if_pos c, if_pos c]
    · rw [if_neg c, if_neg c]
  | false => rw [if_neg (by simp), if_neg (by simp)]
theorem wrt_fits (p : Pt) (own : Bool) (h : fits p.f0) : fits (wrt p own) := by
  unfold wrt
  cases own with
  | true =>
    rw [if_pos rfl]
    have z : (⟨#[]⟩ : ByteArray).size = 0 := rfl
    by_cases c : 224 ≤ p.f2
    · rw [if_pos c]
      refine ⟨?_, ?_, ?_⟩
      · show (strOfNums _).size ≤ _; rw [str_size]; simp
      · show (strOfNums _).size ≤ _; rw [str_size]; simp
      · show (⟨#[]⟩ : ByteArray).size ≤ _; omega
    · rw [if_neg c]
      refine ⟨?_, ?_, ?_⟩
      · show (strOfNums _).size ≤ _; rw [str_size]; simp
      · show (strOfNums _).size ≤ _; rw [str_size]; simp
      · show (ByteArray.extract _ _ _).size ≤ _; rw [ByteArray.size_extract]; omega
  | false => rw [if_neg (by simp)]; exact h
/-- Do two writes stand at one key? -/
def same (w y : Wr) : Bool := decide (y.f0 = w.f0) && decide (y.f1 = w.f1)
def wrs (most : Nat) (whole : Bool) : List Pt → List Wr → List Wr
  | [], out => out
  | p :: ps, out => if out.length < most then (if (whole && out.any (same (wrt p (whole || p.f1)))) = true then wrs most whole ps out else wrs most whole ps (out ++ [wrt p (whole || p.f1)])) else out
theorem wrs_len (most : Nat) (whole : Bool) : ∀ l out, out.length ≤ most → (wrs most whole l out).length ≤ most
  | [], out, h => h
  | p :: ps, out, h => by
    unfold wrs
    by_cases c : out.length < most
    · rw [if_pos c]
      split
      · exact wrs_len most whole ps out h
      · exact wrs_len most whole ps _ (by simp; omega)
    · rw [if_neg c]; exact h
theorem wrs_all (most : Nat) (whole : Bool) (Q : Wr → Prop) : ∀ l out, (∀ p ∈ l, Q (wrt p (whole || p.f1))) → (∀ x ∈ out, Q x) → ∀ x ∈ wrs most whole l out, Q x
  | [], out, _, h => h
  | p :: ps, out, hl, h => by
    unfold wrs
    have hl' : ∀ q ∈ ps, Q (wrt q (whole || q.f1)) := fun q hq => hl q (by simp [hq])
    split
    · split
      · exact wrs_all most whole Q ps out hl' h
      · refine wrs_all most whole Q ps _ hl' (fun x hx => ?_)
        rcases List.mem_append.1 hx with hx | hx
        · exact h x hx
        · rw [List.mem_singleton.1 hx]; exact hl p (by simp)
    · exact h
theorem idx (i : Nat) (h : i ≤ 4611686018427387904) : wrap64 ((i : Int) + 1) = ((i + 1 : Nat) : Int) := by
  rw [wrap64_id (by omega) (by omega)]
  omega
theorem rdW (l : List Wr) (j : Nat) (h : j < l.length) : rd_T45 l (j : Int) = l[j] := by
  unfold rd_T45
  rw [Int.toNat_natCast, List.getD_eq_getElem?_getD, List.getElem?_eq_getElem h]
  rfl
theorem rdP (l : List Pt) (j : Nat) (h : j < l.length) : rd_T64 l (j : Int) = l[j] := by
  unfold rd_T64
  rw [Int.toNat_natCast, List.getD_eq_getElem?_getD, List.getElem?_eq_getElem h]
  rfl
theorem wr_l1 (l : List Pt) (most : Int) (whole : Bool) (out : List Wr) (i : Int) (w : Wr) (h7 : out.length ≤ 1000) (K : Nat) : ∀ d j fl, j + d = out.length →
    tenementlaw13_writes.l1 (K + d + 1) l most whole out i fl (j : Int) w.f0 w.f1 w.f2 w.f3 =
      if (whole && (fl || (out.drop j).any (same w))) = true then tenementlaw13_writes.l0 K l most whole out (wrap64 (i + 1)) else tenementlaw13_writes.l0 K l most whole (out ++ [w]) (wrap64 (i + 1)) := by
  intro d
  induction d with
  | zero =>
    intro j fl hj
    have e : out.drop j = [] := List.drop_eq_nil_of_le (by omega)
    rw [Nat.add_zero, tenementlaw13_writes.l1, if_neg (by omega), e, List.any_nil, Bool.or_false]
    cases whole with
    | true =>
      rw [if_pos rfl]
      cases fl with
      | true => rw [if_pos rfl, if_pos (by rfl)]
      | false => rw [if_neg (by simp), if_pos (by omega), if_neg (by simp)]
    | false => rw [if_neg (by simp), if_pos (by omega), if_neg (by simp)]
  | succ d ih =>
    intro j fl hj
    have hlt : j < out.length := by omega
    have e : out.drop j = out[j] :: out.drop (j + 1) := List.drop_eq_getElem_cons hlt
    rw [show K + (d + 1) + 1 = (K + d + 1) + 1 by omega, tenementlaw13_writes.l1, if_pos (by omega), idx j (by omega), e, List.any_cons]
    cases fl with
    | true =>
      rw [if_pos rfl, ih (j + 1) true (by omega)]
      simp only [Bool.true_or]
    | false =>
      rw [if_neg (by simp), if_pos (by omega), rdW out j hlt, Bool.false_or]
      by_cases c : (out[j].f0).toList = w.f0.toList
      · rw [if_pos c, ih (j + 1) _ (by omega)]
        have c0 := toList_iff.1 c
        have hs : ((out[j].f1).toList == w.f1.toList) = same w out[j] := by
          unfold same
          rw [decide_eq_true c0, Bool.true_and]
          by_cases c1 : out[j].f1 = w.f1
          · rw [decide_eq_true c1, c1]; simp
          · rw [decide_eq_false c1]
            exact beq_eq_false_iff_ne.2 (fun h => c1 (toList_iff.1 h))
        rw [hs]
      · rw [if_neg c, ih (j + 1) _ (by omega)]
        have hs : same w out[j] = false := by
          unfold same
          rw [decide_eq_false (fun h => c (by rw [h])), Bool.false_and]
        rw [hs, Bool.false_or]
theorem wr_l0 (l : List Pt) (most : Nat) (hm : most ≤ 100) (whole : Bool) (hl : ∀ p ∈ l, fits p.f0) (hz : l.length ≤ 4611686018427387904) : ∀ d i (out : List Wr) K, i + d = l.length → out.length ≤ most → (d + 1) * (most + 5) ≤ K →
    tenementlaw13_writes.l0 K l (most : Int) whole out (i : Int) = some (wrs most whole (l.drop i) out) := by
  intro d
  induction d with
  | zero =>
    intro i out K hi ho hK
    obtain ⟨K, rfl⟩ : ∃ m, K = m + 2 := ⟨K - 2, by omega⟩
    have e : l.drop i = [] := List.drop_eq_nil_of_le (by omega)
    rw [tenementlaw13_writes.l0, if_neg (by omega), tenementlaw13_writes.j1, if_neg (by simp), e]
    rfl
  | succ d ih =>
    intro i out K hi ho hK
    have hlt : i < l.length := by omega
    have e : l.drop i = l[i] :: l.drop (i + 1) := List.drop_eq_getElem_cons hlt
    have hK' : (d + 1) * (most + 5) + (most + 5) ≤ K := by
      rw [show (d + 1 + 1) * (most + 5) = (d + 1) * (most + 5) + (most + 5) by rw [Nat.add_mul, Nat.one_mul]] at hK
      exact hK
    have hf : fits l[i].f0 := hl _ (List.getElem_mem _)
    rw [e]
    unfold wrs
    by_cases c : out.length < most
    · rw [if_pos c]
      obtain ⟨m, hm'⟩ : ∃ m, K = (m + out.length + 1) + 3 ∧ (d + 1) * (most + 5) ≤ m := ⟨K - out.length - 4, by omega, by omega⟩
      rw [hm'.1, tenementlaw13_writes.l0, if_pos (by omega), decide_eq_true (by omega : (out.length : Int) < (most : Int)), tenementlaw13_writes.j1, if_pos rfl, if_pos (by omega), if_pos (by omega), rdP l i hlt]
      have key : ∀ own : Bool, own = (whole || l[i].f1) → tenementlaw13_writes.j2 (m + out.length + 1 + 1) l (most : Int) whole out (i : Int) l[i].f0.f0 l[i].f0.f1 l[i].f0.f2 l[i].f0.f3 own l[i].f2 =
          some (if (whole && out.any (same (wrt l[i] (whole || l[i].f1)))) = true then wrs most whole (l.drop (i + 1)) out else wrs most whole (l.drop (i + 1)) (out ++ [wrt l[i] (whole || l[i].f1)])) := by
        intro own ho'
        rw [tenementlaw13_writes.j2, wrt_f _ _ hf, Option.bind_some]
        show tenementlaw13_writes.l1 (m + out.length + 1) l (most : Int) whole out (i : Int) false 0 (wrt l[i] own).f0 (wrt l[i] own).f1 (wrt l[i] own).f2 (wrt l[i] own).f3 = _
        have h1 := wr_l1 l (most : Int) whole out (i : Int) (wrt l[i] own) (by omega) m out.length 0 false (by omega)
        rw [show ((0 : Nat) : Int) = 0 from rfl] at h1
        rw [h1, List.drop_zero, Bool.false_or, idx i (by omega), ho']
        split
        · rw [ih (i + 1) out m (by omega) ho hm'.2]
        · rw [ih (i + 1) _ m (by omega) (by simp; omega) hm'.2]
      cases whole with
      | true =>
        rw [if_pos rfl, key true rfl]
      | false =>
        rw [if_neg (by simp), key _ (by simp)]
    · rw [if_neg c]
      obtain ⟨m, rfl⟩ : ∃ m, K = m + 2 := ⟨K - 2, by omega⟩
      rw [tenementlaw13_writes.l0, if_pos (by omega), decide_eq_false (by omega : ¬ (out.length : Int) < (most : Int)), tenementlaw13_writes.j1, if_neg (by simp)]
theorem writes_f (l : List Pt) (most : Nat) (hm : most ≤ 100) (whole : Bool) (hl : ∀ p ∈ l, fits p.f0) (hz : l.length ≤ 4611686018427387904) {K : Nat} (hK : (l.length + 1) * (most + 5) ≤ K) :
    tenementlaw13_writes.f K l (most : Int) whole = some (wrs most whole l []) := by
  unfold tenementlaw13_writes.f
  have := wr_l0 l most hm whole hl hz l.length 0 [] K (by omega) (by simp) hK
  rw [show ((0 : Nat) : Int) = 0 from rfl, List.drop_zero] at this
  exact this
end Go.Proofs.Ytbjpfgmmmdfbeaa.Pure

/- What the laws of the chapter want besides: the writes that they make, what sums are. -/
set_option linter.unusedVariables false
set_option linter.unusedSimpArgs false
namespace Go.Proofs.Ytbjpfgmmmdfbeaa.Quo
open Go Go.RowKit Go.WideShapes Go.Proofs.Ytbjpfgmmmdfbeaa.Q Go.Proofs.YtbjpfgmmmdfbeaaW.PrintWords Go.Proofs.YtbjpfgmmmdfbeaaW.PrintLast Go.Proofs.YtbjpfgmmmdfbeaaW.PrintMore
open Go.Maps (Keyed)
open Go.Proofs.Ytbjpfgmmmdfbeaa.Pure (wrap64_id toList_data toList_iff wrs fits)
abbrev Pt := S64
/-- What came in may be: no text is too long. -/
def okL (l : List Pt) : Prop := (∀ p ∈ l, fits p.f0) ∧ l.length ≤ 140737488351232
theorem wrs_small {l : List Pt} (h : okL l) (most : Nat) (whole : Bool) : small (wrs most whole l []) := by
  intro x hx
  have hf := Pure.wrs_all most whole fits l [] (fun p hp => Pure.wrt_fits p _ (h.1 p hp)) (fun x hx => by cases hx) x hx
  exact ⟨by have := hf.1; omega, by have := hf.2.1; omega⟩
theorem wrs_most (l : List Pt) (most : Nat) (whole : Bool) : (wrs most whole l []).length ≤ most := Pure.wrs_len most whole l [] (by simp)
theorem writes_c (A : Option Addr) (c : Nat) (l : List Pt) (most : Nat) (m : Int) (he : (most : Int) = m) (whole : Bool) (w : World) (hr : Kd.C k64 w A l.length l) (hc : l.length ≤ c) (h : okL l) (hm : most ≤ 100) (ws : List Wr) (hws : wrs most whole l [] = ws) :
    Calls Try.prog 11 #[.slice A l.length c, .int .i64 m, .bool whole] w fun e w' => ∃ A' c', e = .returned (.slice A' ws.length c') ∧ ws.length ≤ c' ∧ Kd.C k45 w' A' ws.length ws ∧ Below w.heap.size w w' ∧ ∀ ad, A' = some ad → w.heap.size ≤ ad.block := by
  subst he
  subst hws
  refine (tenementlaw13_writes.calls _ A c l most whole _ w hr hc (Pure.writes_f l most hm whole h.1 (by have := h.2; omega) (Nat.le_refl _))).mono ?_
  rintro e w' ⟨v, rfl, hR, hb⟩
  obtain ⟨A', c', rfl, hl, hC⟩ := Kd.R_reads hR
  refine ⟨A', c', rfl, hl, hC, hb, ?_⟩
  rintro ad rfl
  obtain ⟨inner, ho⟩ := Kd.R_own hR
  exact own_base ho ad.block rfl
theorem add_blk (a : Addr) (i : Nat) : (a.add i).block = a.block := by
  unfold Addr.add
  split <;> rfl
/-- A row of writes in a block that is not the one that was written. -/
theorem C_grown {w w1 : World} {A : Option Addr} {n g : Nat} {xs : List Wr} (h : Kd.C k45 w A n xs) (hg : w.grownBy w1 (some g)) (hne : 0 < n → ∀ ad, A = some ad → ad.block ≠ g) : Kd.C k45 w1 A n xs := by
  refine ⟨h.1, h.2.1, fun hp => ?_⟩
  obtain ⟨ad, e, hc⟩ := h.2.2 hp
  refine ⟨ad, e, fun j p hj => ?_⟩
  obtain ⟨c, hs, hr, hcell⟩ := hc j p hj
  refine ⟨c, hs, (k45_open hr) ▸ k45_mk w1 p, fun i u hu => hg.cell (hcell i u hu) ?_⟩
  rw [add_blk]
  intro e'
  exact hne hp ad e (by simpa using e')
/-- A row of rows: the row at a place. -/
theorem at_row {w : World} {A : Option Addr} {n : Nat} {xs : List (List Pt)} (h : Kd.C (Kd.slice 64 k64) w A n xs) (j : Nat) (h1 : j < n) :
    ∃ ad x A' c', A = some ad ∧ xs[j]? = some x ∧ w.cell? (ad.add j) = some (.slice A' x.length c') ∧ x.length ≤ c' ∧ Kd.C k64 w A' x.length x := by
  obtain ⟨ad, c, e, _, hK, hc⟩ := Kd.C_get h [] (j : Int) (by omega) (by omega)
  have hl : j < xs.length := by have := h.1; omega
  obtain ⟨A', c', hcs, hle, hC⟩ := hK
  have hx : xs[j]? = some (xs.getD (j : Int).toNat []) := by
    rw [Int.toNat_natCast, List.getD_eq_getElem?_getD, List.getElem?_eq_getElem hl]
    rfl
  refine ⟨ad, _, A', c', e, hx, ?_, hle, hC⟩
  have h2 := hc 0 _ (by rw [hcs]; rfl)
  have e2 : (j : Int).toNat * (Kd.slice 64 k64).sz + 0 = j := by
    show (j : Int).toNat * 1 + 0 = j
    omega
  rwa [e2] at h2
/-- Sizes as they are kept. -/
def good (L : List En) : Prop := ∀ p ∈ L, 0 < p.2 ∧ p.2 ≤ 64
theorem good_nil : good [] := fun p hp => by cases hp
theorem good_strike {L : List En} (h : good L) (k : Lit) : good (strike k L) := fun p hp => h p (List.mem_filter.1 hp).1
theorem good_step {L : List En} (h : good L) (x : Wr) : good (step L x) := by
  unfold step
  by_cases c : rightW x = true
  · rw [if_pos c]
    by_cases d : 0 < szW x
    · rw [if_pos d]
      intro p hp
      rcases List.mem_append.1 hp with hp | hp
      · exact good_strike (good_strike h _) _ p hp
      · rw [List.mem_singleton.1 hp]
        exact ⟨d, (size_f c).2.2.1⟩
    · rw [if_neg d]
      exact good_strike h _
  · rw [if_neg c]
    exact h
theorem good_taken : ∀ (l : List Wr) {L : List En}, good L → good (taken L l)
  | [], L, h => h
  | x :: r, L, h => good_taken r (good_step h x)
theorem good_total : ∀ {L : List En}, good L → 0 ≤ total L ∧ total L ≤ 64 * (L.length : Int)
  | [], _ => ⟨by simp [total], by simp [total]⟩
  | x :: r, h => by
    have h1 := h x (by simp)
    have h2 := good_total (L := r) (fun p hp => h p (by simp [hp]))
    rw [total_cons, List.length_cons]
    omega
theorem good_wrap {L : List En} (h : good L) (hl : L.length ≤ 1000000) : wrap64 (total L) = total L := by
  have := good_total h
  exact wrap64_id (by omega) (by omega)
theorem u8_range {x : Int} (h : (Lit.int .u8 x).wf = true) : 0 ≤ x ∧ x ≤ 255 := by
  have h : IntKind.u8.min ≤ x ∧ x ≤ IntKind.u8.max := by simpa only [Lit.wf, Bool.and_eq_true, decide_eq_true_eq] using h
  exact h
theorem step_int (j : Nat) (h : j ≤ 4611686018427387904) : Value.int .i64 (wrap64 ((j : Int) + 1)) = .int .i64 ((j + 1 : Nat) : Int) := by
  rw [wrap64_id (by omega) (by omega)]
  rfl
end Go.Proofs.Ytbjpfgmmmdfbeaa.Quo

/- What was taken last of each key: the sum of the sizes, and how many there are. -/
set_option linter.unusedVariables false
set_option linter.unusedSimpArgs false
namespace Go.Proofs.Ytbjpfgmmmdfbeaa.Quo
open Go Go.RowKit Go.WideShapes Go.Proofs.Ytbjpfgmmmdfbeaa.Q Go.Proofs.YtbjpfgmmmdfbeaaW.PrintWords Go.Proofs.YtbjpfgmmmdfbeaaW.PrintLast Go.Proofs.YtbjpfgmmmdfbeaaW.PrintMore
open Go.Maps (Keyed)
open Go.Proofs.Ytbjpfgmmmdfbeaa.Pure (wrap64_id toList_data toList_iff wrs fits)
def eqK (y x : Wr) : Bool := (y.f0.toList == x.f0.toList) && (y.f1.toList == x.f1.toList)
def later (r : List Wr) (x : Wr) : Bool := r.any fun y => eqK y x && rightW y
def lst (x : Wr) (r : List Wr) : Bool := rightW x && !later r x
def sumL : List Wr → Int
  | [] => 0
  | x :: r => (if lst x r = true then szW x else 0) + sumL r
def cntL : List Wr → Int
  | [] => 0
  | x :: r => (if (lst x r && !x.f3) = true then 1 else 0) + cntL r
def free (ws : List Wr) (p : En) : Bool := !(ws.any fun y => rightW y && p.1.sameKey (kl y.f0 y.f1))
theorem same_kl (x y : Wr) (hx : x.f0.size ≤ 9223372036854775807 ∧ x.f1.size ≤ 9223372036854775807) (hy : y.f0.size ≤ 9223372036854775807 ∧ y.f1.size ≤ 9223372036854775807) : (kl x.f0 x.f1).sameKey (kl y.f0 y.f1) = eqK y x := by
  unfold eqK
  by_cases h : y.f0 = x.f0 ∧ y.f1 = x.f1
  · rw [h.1, h.2, Go.WideAt.sameKey_self (show Go.WideAt.IsKeyLit (kl x.f0 x.f1) from trivial)]
    simp
  · have hne : kl x.f0 x.f1 ≠ kl y.f0 y.f1 := fun e => h (by
      have q := kl_inj hx.1 hx.2 hy.1 hy.2 e
      exact ⟨q.1.symm, q.2.symm⟩)
    rw [Go.Maps.sameKey_ne hne]
    symm
    rw [Bool.and_eq_false_iff]
    by_cases h0 : y.f0 = x.f0
    · right
      exact beq_eq_false_iff_ne.2 (fun e => h ⟨h0, toList_iff.1 e⟩)
    · left
      exact beq_eq_false_iff_ne.2 (fun e => h0 (toList_iff.1 e))
theorem free_key (x : Wr) (r : List Wr) (z : Int) (hs : small (x :: r)) : free r (kl x.f0 x.f1, z) = !later r x := by
  unfold free later
  congr 1
  have hx := hs x (by simp)
  have : ∀ (l : List Wr), (∀ y ∈ l, y ∈ r) → l.any (fun y => rightW y && (kl x.f0 x.f1).sameKey (kl y.f0 y.f1)) = l.any (fun y => eqK y x && rightW y) := by
    intro l
    induction l with
    | nil => intro _; rfl
    | cons y t ih =>
      intro h
      rw [List.any_cons, List.any_cons, ih (fun z hz => h z (by simp [hz])), same_kl x y hx (hs y (by simp [h y (by simp)])), Bool.and_comm]
  exact this r (fun _ h => h)
theorem free_cons (x : Wr) (r : List Wr) (p : En) : free (x :: r) p = (!(rightW x && p.1.sameKey (kl x.f0 x.f1)) && free r p) := by
  unfold free
  rw [List.any_cons, Bool.not_or]
theorem strike_free (x : Wr) (r : List Wr) (L : List En) (c : rightW x = true) : (strike (kl x.f0 x.f1) L).filter (free r) = L.filter (free (x :: r)) := by
  unfold strike
  rw [List.filter_filter]
  refine List.filter_congr (fun p _ => ?_)
  rw [free_cons, c, Bool.true_and, Bool.and_comm]
theorem sz_zero {x : Wr} (c : rightW x = true) (d : ¬ 0 < szW x) : szW x = 0 ∧ x.f3 = true := by
  obtain ⟨_, h0, _, h1⟩ := size_f c
  refine ⟨by omega, ?_⟩
  cases hx : x.f3 with
  | true => rfl
  | false => exact absurd (h1 hx) d
theorem sz_pos {x : Wr} (d : 0 < szW x) : x.f3 = false := by
  cases hx : x.f3 with
  | false => rfl
  | true =>
    unfold szW at d
    rw [hx, if_pos rfl] at d
    omega
theorem step_filter (x : Wr) (r : List Wr) (L : List En) (hs : small (x :: r)) :
    (step L x).filter (free r) = L.filter (free (x :: r)) ++ (if (lst x r && !x.f3) = true then [(kl x.f0 x.f1, szW x)] else []) := by
  unfold step lst
  by_cases c : rightW x = true
  · rw [if_pos c, c, Bool.true_and]
    by_cases d : 0 < szW x
    · rw [if_pos d, strike_strike, List.filter_append, strike_free x r L c, sz_pos d]
      congr 1
      rw [List.filter_cons, free_key x r _ hs, List.filter_nil]
      simp
    · rw [if_neg d, strike_free x r L c, (sz_zero c d).2]
      simp
  · have c' : rightW x = false := by simpa using c
    rw [if_neg c, c', Bool.false_and, if_neg (by simp), List.append_nil]
    refine List.filter_congr (fun p _ => ?_)
    rw [free_cons, c']
    simp
theorem last_both : ∀ (ws : List Wr) (L : List En), small ws → total (taken L ws) = total (L.filter (free ws)) + sumL ws ∧ ((taken L ws).length : Int) = ((L.filter (free ws)).length : Int) + cntL ws
  | [], L, _ => by
    have e : L.filter (free []) = L := List.filter_eq_self.2 (fun p _ => rfl)
    rw [e]
    exact ⟨by simp [taken, sumL], by simp [taken, cntL]⟩
  | x :: r, L, hs => by
    obtain ⟨h1, h2⟩ := last_both r (step L x) (fun y hy => hs y (by simp [hy]))
    rw [show taken L (x :: r) = taken (step L x) r from rfl, h1, h2, step_filter x r L hs, total_append, List.length_append, sumL, cntL]
    by_cases c : (lst x r && !x.f3) = true
    · rw [if_pos c, if_pos c, if_pos (by simp at c; exact c.1)]
      refine ⟨?_, ?_⟩
      · rw [total_cons, total_nil]
        show _ + (szW x + 0) + _ = _
        omega
      · rw [List.length_singleton]
        omega
    · rw [if_neg c, if_neg c]
      have e : (if lst x r = true then szW x else 0) = 0 := by
        by_cases d : lst x r = true
        · rw [if_pos d]
          have hx : x.f3 = true := by
            cases hf : x.f3 with
            | true => rfl
            | false => rw [d, hf] at c; simp at c
          unfold szW
          rw [hx, if_pos rfl]
        · rw [if_neg d]
      rw [e, total_nil, List.length_nil]
      omega
theorem last_all (ws : List Wr) (hs : small ws) : total (taken [] ws) = sumL ws ∧ ((taken [] ws).length : Int) = cntL ws := by
  obtain ⟨h1, h2⟩ := last_both ws [] hs
  rw [h1, h2]
  simp [total]
theorem sum_bound : ∀ (r : List Wr), (0 ≤ sumL r ∧ sumL r ≤ 64 * (r.length : Int)) ∧ 0 ≤ cntL r ∧ cntL r ≤ (r.length : Int)
  | [] => by simp [sumL, cntL]
  | x :: r => by
    have ih := sum_bound r
    rw [sumL, cntL, List.length_cons]
    have h1 : 0 ≤ (if lst x r = true then szW x else 0) ∧ (if lst x r = true then szW x else 0) ≤ 64 := by
      by_cases c : lst x r = true
      · rw [if_pos c]
        have hr : rightW x = true := by unfold lst at c; simp at c; exact c.1
        have := size_f hr
        exact ⟨this.2.1, this.2.2.1⟩
      · rw [if_neg c]; omega
    have h2 : 0 ≤ (if (lst x r && !x.f3) = true then (1 : Int) else 0) ∧ (if (lst x r && !x.f3) = true then (1 : Int) else 0) ≤ 1 := by split <;> omega
    omega
end Go.Proofs.Ytbjpfgmmmdfbeaa.Quo

/- The document's Quota: what counts behind a write, behind a list; how much that is. -/
set_option linter.unusedVariables false
set_option linter.unusedSimpArgs false
namespace Go.Proofs.Ytbjpfgmmmdfbeaa.Quo
open Go Go.RowKit Go.WideShapes Go.Proofs.Ytbjpfgmmmdfbeaa.Q Go.Proofs.YtbjpfgmmmdfbeaaW.PrintWords Go.Proofs.YtbjpfgmmmdfbeaaW.PrintLast Go.Proofs.YtbjpfgmmmdfbeaaW.PrintMore
open Go.Maps (Keyed)
open Go.Proofs.Ytbjpfgmmmdfbeaa.Pure (wrap64_id toList_data toList_iff wrs fits idx)
abbrev Rw := S66
def rw_ (x : Wr) : Rw := ⟨x.f0, x.f1, x.f2, x.f3⟩
def wr_ (x : Rw) : Wr := ⟨x.f0, x.f1, x.f2, x.f3⟩
theorem wr_rw (x : Wr) : wr_ (rw_ x) = x := rfl
theorem rright_f (x : Rw) : tenementref08_Right.f x.f0 x.f1 x.f2 x.f3 = some (rightW (wr_ x)) := by
  have hr : rightW (wr_ x) = decide ((1 ≤ x.f0.size ∧ x.f0.size ≤ 16) ∧ (1 ≤ x.f1.size ∧ x.f1.size ≤ 16) ∧ x.f2.size ≤ 32 ∧ (x.f2.size = 0 ∨ x.f3 = false)) := by
    unfold rightW
    rw [right_is]
    rfl
  rw [hr]
  unfold tenementref08_Right.f
  by_cases a0 : (x.f0.size : Int) ≥ 1
  · rw [if_pos a0]
    by_cases a1 : (x.f0.size : Int) ≤ 16
    · rw [if_pos a1]
      by_cases b0 : (x.f1.size : Int) ≥ 1
      · rw [if_pos b0]
        by_cases b1 : (x.f1.size : Int) ≤ 16
        · rw [if_pos b1]
          by_cases c : (x.f2.size : Int) ≤ 32
          · rw [if_pos c]
            cases hg : x.f3 with
            | true =>
              rw [if_pos rfl]
              by_cases d : x.f2.size = 0
              · rw [decide_eq_true ⟨by omega, by omega, by omega, Or.inl d⟩, beq_iff_eq.2 (tl_nil.2 d)]
              · rw [decide_eq_false (fun h => by rcases h.2.2.2 with h | h; exact d h; cases h), beq_eq_false_iff_ne.2 (fun h => d (tl_nil.1 h))]
            | false => rw [if_neg (by simp), decide_eq_true ⟨by omega, by omega, by omega, Or.inr rfl⟩]
          · rw [if_neg c, decide_eq_false (by omega)]
        · rw [if_neg b1, decide_eq_false (by omega)]
      · rw [if_neg b0, decide_eq_false (by omega)]
    · rw [if_neg a1, decide_eq_false (by omega)]
  · rw [if_neg a0, decide_eq_false (by omega)]
theorem rsize_f {x : Rw} (h : rightW (wr_ x) = true) : tenementref08_Size.f x.f0 x.f1 x.f2 x.f3 = some (szW (wr_ x)) := by
  have := (size_f h).1
  unfold item_Size.f at this
  unfold tenementref08_Size.f
  exact this
def keep (x y : Rw) : Bool := !eqK (wr_ y) (wr_ x)
def wth (L : List Rw) (x : Rw) : List Rw := if rightW (wr_ x) = true then L.filter (keep x) ++ [x] else L
set_option maxHeartbeats 8000000 in
set_option maxRecDepth 100000 in
theorem with_c (A : Option Addr) (c : Nat) (L : List Rw) (x : Rw) (w : World) (hr : Kd.C k66 w A L.length L) (hc : L.length ≤ c) (hl : L.length ≤ 1000000000) :
    Calls Try.prog 35 #[.slice A L.length c, .agg #[.string x.f0, .string x.f1, .string x.f2, .bool x.f3]] w fun e w' => ∃ A' c', e = .returned (.slice A' (wth L x).length c') ∧ (wth L x).length ≤ c' ∧ Kd.C k66 w' A' (wth L x).length (wth L x) ∧ (A' = A ∨ ∀ ad, A' = some ad → w.heap.size ≤ ad.block) ∧ Below w.heap.size w w' := by
  have HR := Aside0.mk hr
  clear hr
  have HF := Aside0.mk (rright_f x)
  have HWT := Aside0.mk (show wth L x = if rightW (wr_ x) = true then L.filter (keep x) ++ [x] else L from rfl)
  generalize rightW (wr_ x) = b at HF HWT
  have HK := Aside0.mk (blk_new w (Obj.cells #[.string x.f0, .string x.f1, .string x.f2, .bool x.f3] 66))
  have HB0 := Aside0.mk (below_alloc (Below.refl w.heap.size w) (Obj.cells #[.string x.f0, .string x.f1, .string x.f2, .bool x.f3] 66))
  cases b with
  | false =>
    rw [if_neg (by simp)] at HWT
    go_enter Try.func35, Try.ntmps35
    go_wp2_with (go_at_call 37; (with_reducible refine (tenementref08_Right.calls x.f0 x.f1 x.f2 x.f3 _ _ HF.out).mono ?_); rintro e W0 ⟨rfl, hb⟩; have HB1 := Aside0.mk (below_step HB0.out hb); clear hb)
    go_ret
    rw [HWT.out]
    exact ⟨A, c, rfl, hc, Kd.C_below HR.out HB1.out, Or.inl rfl, HB1.out⟩
  | true =>
    rw [if_pos rfl] at HWT
    go_enter Try.func35, Try.ntmps35
    go_wp2_with (go_at_call 37; (with_reducible refine (tenementref08_Right.calls x.f0 x.f1 x.f2 x.f3 _ _ HF.out).mono ?_); rintro e W0 ⟨rfl, hb⟩; have HBW := Aside0.mk (below_step HB0.out hb); have HKB := Aside0.mk (blk_below HK.out hb); clear hb)
    have HRW := Aside0.mk (Kd.C_below HR.out HBW.out)
    clear HB0 HK HF
    go_loopg [5, 6] L.length (fun kq v5 v6 wr => ∃ (j : Nat), v6 = .int .i64 j ∧ Aside0 (j ≤ L.length) ∧ Aside0 (L.length - j ≤ kq) ∧ Aside0 (Kd.R k66 66 wr W0.heap.size (fun _ => True) v5 ((L.take j).filter (keep x))) ∧ Aside0 (Below W0.heap.size W0 wr))
    case atStart => exact ⟨0, rfl, ⟨by omega⟩, ⟨by omega⟩, ⟨Kd.R_nil _ _ _ _ _⟩, ⟨Below.refl _ _⟩⟩
    case round =>
      obtain ⟨j, rfl, HJ, HQ, HO, HB⟩ := hrel
      have hfl : ((L.take j).filter (keep x)).length ≤ L.length := Nat.le_trans (List.length_filter_le _ _) (by rw [List.length_take]; omega)
      have HLB := Aside0.mk (show (((L.take j).filter (keep x)).length + 1) * 56 ≤ 140737488355328 by omega)
      obtain ⟨q0, q1, q2, q3⟩ := Kc4_ (blk_below HKB.out HB.out)
      by_cases c1 : j < L.length
      rotate_left
      · have c1b : decide ((j : Int) < (L.length : Int)) = false := decide_eq_false (by omega)
        have hj : L.take j = L := List.take_of_length_le (by omega)
        rw [hj] at HO HLB
        clear hfl hj
        go_wp2_with (first | ((with_reducible refine gate_builtin (b := .append) (xs := #[.tmp 42, .tmp 44]) rfl ?_); at_builtin; refine Kd.R_append k66 (w0 := W0) W0.heap.size rfl (.tmp 42) (.tmp 44) 34 66 (.agg #[(.string ⟨#[]⟩), (.string ⟨#[]⟩), (.string ⟨#[]⟩), (.bool false)]) 56 rfl Try.underlying34 info66 rfl (by decide) (by omega) u5 (L.filter (keep x)) x [.string x.f0, .string x.f1, .string x.f2, .bool x.f3] (fun _ => True) (fun _ => False) rfl rfl ?aP (fun _ hk => hk.elim) ?aF ?aO ?aB ?aS ?aL ?_; (case aP => exact k66_mkM _ _ _ x); (case aF => exact (fun _ _ => trivial)); (case aO => exact HO.out); (case aB => exact HB.out); (case aS => exact below_size HB.out); (case aL => exact HLB.out); intro v1 w6 ho hb hg6 hat; have HO6 := Aside0.mk ho; have HB6 := Aside0.mk hb; clear ho hb hg6 hat))
        go_ret
        obtain ⟨A', c', hv, hcc, hC⟩ := Kd.R_reads HO6.out
        subst hv
        rw [HWT.out]
        obtain ⟨inner, hown⟩ := Kd.R_own HO6.out
        exact ⟨A', c', rfl, hcc, hC, Or.inr (fun ad e => by subst e; exact Nat.le_trans HBW.out.size (own_base hown ad.block rfl)), below_step HBW.out HB6.out⟩
      · have c1b : decide ((j : Int) < (L.length : Int)) = true := decide_eq_true (by omega)
        have c0b : decide (0 ≤ (j : Int)) = true := decide_eq_true (by omega)
        have hy : L[j]? = .some (L[j]'c1) := List.getElem?_eq_getElem c1
        obtain ⟨y, hye⟩ : ∃ y, y = L[j]'c1 := ⟨_, rfl⟩
        rw [← hye] at hy
        obtain ⟨ad, e0, a0, a1, a2, a3⟩ := at_T66 HRW.out (j : Int) (by omega) (by omega)
        cases e0
        have hrd : rd_T66 L (j : Int) = y := by
          unfold rd_T66
          rw [Int.toNat_natCast, List.getD_eq_getElem?_getD, hy]
          rfl
        rw [hrd] at a0 a1 a2 a3
        simp only [Int.toNat_natCast] at a0 a1 a2 a3
        replace a0 := (HB.out.cell (World.block_lt_of_cell? _ _ a0)).trans a0
        replace a1 := (HB.out.cell (World.block_lt_of_cell? _ _ a1)).trans a1
        replace a2 := (HB.out.cell (World.block_lt_of_cell? _ _ a2)).trans a2
        replace a3 := (HB.out.cell (World.block_lt_of_cell? _ _ a3)).trans a3
        have HTK := Aside0.mk (show (L.take (j + 1)).filter (keep x) = (L.take j).filter (keep x) ++ (if keep x y = true then [y] else []) by
          rw [List.take_add_one, hy, List.filter_append]
          congr 1
          simp only [Option.toList, List.filter_cons, List.filter_nil])
        have hkp : keep x y = !((y.f0.toList == x.f0.toList) && (y.f1.toList == x.f1.toList)) := rfl
        clear hy hye hrd
        go_wp2
        cases he0 : (y.f0.toList == x.f0.toList) with
        | false =>
          have hn0 : (y.f0.toList != x.f0.toList) = true := by rw [bne, he0]; rfl
          rw [hkp, he0, if_pos (by rfl)] at HTK
          clear hkp
          go_region
          all_goals
            have HA : wr.drew.cell? (ad.add (j * 4)) = some (.string y.f0) ∧ wr.drew.cell? ⟨(ad.add (j * 4)).block, (ad.add (j * 4)).off + 1, none⟩ = some (.string y.f1) ∧ wr.drew.cell? ⟨(ad.add (j * 4)).block, (ad.add (j * 4)).off + 2, none⟩ = some (.string y.f2) ∧ wr.drew.cell? ⟨(ad.add (j * 4)).block, (ad.add (j * 4)).off + 3, none⟩ = some (.bool y.f3) := ⟨a0, a1, a2, a3⟩
            have HO' := Kd.R_drew HO.out
            have HB' := below_drew1 HB.out
            clear a0 a1 a2 a3 q0 q1 q2 q3 HO HB
            generalize wr.drew = w5 at HA HO' HB' ⊢
            obtain ⟨a0, a1, a2, a3⟩ := HA
            have HO := Aside0.mk HO'
            have HB := Aside0.mk HB'
            clear HO' HB'
            go_wp2_with (first | ((with_reducible refine gate_builtin (b := .append) (xs := #[.tmp 35, .tmp 40]) rfl ?_); at_builtin; refine Kd.R_append k66 (w0 := W0) W0.heap.size rfl (.tmp 35) (.tmp 40) 34 66 (.agg #[(.string ⟨#[]⟩), (.string ⟨#[]⟩), (.string ⟨#[]⟩), (.bool false)]) 56 rfl Try.underlying34 info66 rfl (by decide) (by omega) u5 ((L.take j).filter (keep x)) y [.string y.f0, .string y.f1, .string y.f2, .bool y.f3] (fun _ => True) (fun _ => False) rfl rfl ?aP (fun _ hk => hk.elim) ?aF ?aO ?aB ?aS ?aL ?_; (case aP => exact k66_mkM _ _ _ y); (case aF => exact (fun _ _ => trivial)); (case aO => exact HO.out); (case aB => exact HB.out); (case aS => exact below_size HB.out); (case aL => exact HLB.out); intro v1 w6 ho hb hg6 hat; have HO6 := Aside0.mk ho; have HB6 := Aside0.mk hb; clear ho hb hg6 hat))
            go_roundg (L.length - (j + 1))
            case measure => have := HQ.out; omega
            case rel => exact ⟨j + 1, by first | rfl | exact step_int j (by omega), ⟨by omega⟩, ⟨by omega⟩, ⟨by rw [HTK.out]; exact HO6.out⟩, HB6⟩
        | true =>
          have hn0 : (y.f0.toList != x.f0.toList) = false := by rw [bne, he0]; rfl
          cases he1 : (y.f1.toList == x.f1.toList) with
          | false =>
            have hn1 : (y.f1.toList != x.f1.toList) = true := by rw [bne, he1]; rfl
            rw [hkp, he0, he1, if_pos (by rfl)] at HTK
            clear hkp
            go_region
            all_goals
              have HA : wr.drew.cell? (ad.add (j * 4)) = some (.string y.f0) ∧ wr.drew.cell? ⟨(ad.add (j * 4)).block, (ad.add (j * 4)).off + 1, none⟩ = some (.string y.f1) ∧ wr.drew.cell? ⟨(ad.add (j * 4)).block, (ad.add (j * 4)).off + 2, none⟩ = some (.string y.f2) ∧ wr.drew.cell? ⟨(ad.add (j * 4)).block, (ad.add (j * 4)).off + 3, none⟩ = some (.bool y.f3) := ⟨a0, a1, a2, a3⟩
              have HO' := Kd.R_drew HO.out
              have HB' := below_drew1 HB.out
              clear a0 a1 a2 a3 q0 q1 q2 q3 HO HB
              generalize wr.drew = w5 at HA HO' HB' ⊢
              obtain ⟨a0, a1, a2, a3⟩ := HA
              have HO := Aside0.mk HO'
              have HB := Aside0.mk HB'
              clear HO' HB'
              go_wp2_with (first | ((with_reducible refine gate_builtin (b := .append) (xs := #[.tmp 35, .tmp 40]) rfl ?_); at_builtin; refine Kd.R_append k66 (w0 := W0) W0.heap.size rfl (.tmp 35) (.tmp 40) 34 66 (.agg #[(.string ⟨#[]⟩), (.string ⟨#[]⟩), (.string ⟨#[]⟩), (.bool false)]) 56 rfl Try.underlying34 info66 rfl (by decide) (by omega) u5 ((L.take j).filter (keep x)) y [.string y.f0, .string y.f1, .string y.f2, .bool y.f3] (fun _ => True) (fun _ => False) rfl rfl ?aP (fun _ hk => hk.elim) ?aF ?aO ?aB ?aS ?aL ?_; (case aP => exact k66_mkM _ _ _ y); (case aF => exact (fun _ _ => trivial)); (case aO => exact HO.out); (case aB => exact HB.out); (case aS => exact below_size HB.out); (case aL => exact HLB.out); intro v1 w6 ho hb hg6 hat; have HO6 := Aside0.mk ho; have HB6 := Aside0.mk hb; clear ho hb hg6 hat))
              go_roundg (L.length - (j + 1))
              case measure => have := HQ.out; omega
              case rel => exact ⟨j + 1, by first | rfl | exact step_int j (by omega), ⟨by omega⟩, ⟨by omega⟩, ⟨by rw [HTK.out]; exact HO6.out⟩, HB6⟩
          | true =>
            have hn1 : (y.f1.toList != x.f1.toList) = false := by rw [bne, he1]; rfl
            rw [hkp, he0, he1, if_neg (by simp), List.append_nil] at HTK
            clear hkp
            go_region
            all_goals
              go_wp2
              go_roundg (L.length - (j + 1))
              case measure => have := HQ.out; omega
              case rel => exact ⟨j + 1, by first | rfl | exact step_int j (by omega), ⟨by omega⟩, ⟨by omega⟩, ⟨by rw [HTK.out]; exact Kd.R_drew HO.out⟩, ⟨below_drew1 HB.out⟩⟩
end Go.Proofs.Ytbjpfgmmmdfbeaa.Quo

/- The document's Quota: all, After, Take, Used, Keys; its sizes against the package's. -/
set_option linter.unusedVariables false
set_option linter.unusedSimpArgs false
namespace Go.Proofs.Ytbjpfgmmmdfbeaa.Quo
open Go Go.RowKit Go.WideShapes Go.Proofs.Ytbjpfgmmmdfbeaa.Q Go.Proofs.YtbjpfgmmmdfbeaaW.PrintWords Go.Proofs.YtbjpfgmmmdfbeaaW.PrintLast Go.Proofs.YtbjpfgmmmdfbeaaW.PrintMore
open Go.Maps (Keyed)
open Go.Proofs.Ytbjpfgmmmdfbeaa.Pure (wrap64_id toList_data toList_iff wrs fits idx)
def sumR : List Rw → Int
  | [] => 0
  | y :: r => szW (wr_ y) + sumR r
def okR (L : List Rw) : Prop := ∀ y ∈ L, rightW (wr_ y) = true
theorem sumR_bound : ∀ L : List Rw, okR L → 0 ≤ sumR L ∧ sumR L ≤ 64 * (L.length : Int)
  | [], _ => by simp [sumR]
  | y :: r, h => by
    have h1 := size_f (h y (by simp))
    have h2 := sumR_bound r (fun z hz => h z (by simp [hz]))
    rw [sumR, List.length_cons]
    omega
theorem sumR_snoc (y : Rw) : ∀ r : List Rw, sumR (r ++ [y]) = sumR r + szW (wr_ y)
  | [] => by simp [sumR]
  | z :: r => by rw [List.cons_append, sumR, sumR, sumR_snoc y r]; omega
theorem wth_right {L : List Rw} (h : okR L) (x : Rw) : okR (wth L x) := by
  unfold wth
  by_cases c : rightW (wr_ x) = true
  · rw [if_pos c]
    intro y hy
    rcases List.mem_append.1 hy with hy | hy
    · exact h y (List.mem_filter.1 hy).1
    · rw [List.mem_singleton.1 hy]; exact c
  · rw [if_neg c]; exact h
theorem wth_length (L : List Rw) (x : Rw) : (wth L x).length ≤ L.length + 1 := by
  have h1 := List.length_filter_le (keep x) L
  unfold wth
  split
  · rw [List.length_append, List.length_singleton]; omega
  · omega
def wthAll (L l : List Rw) : List Rw := l.foldl wth L
theorem wthAll_snoc (L l : List Rw) (x : Rw) : wthAll L (l ++ [x]) = wth (wthAll L l) x := by simp [wthAll, List.foldl_append]
theorem wthAll_length : ∀ (l L : List Rw), (wthAll L l).length ≤ L.length + l.length
  | [], L => Nat.le_refl _
  | x :: r, L => by
    have h := wthAll_length r (wth L x)
    have h1 := wth_length L x
    rw [show wthAll L (x :: r) = wthAll (wth L x) r from rfl, List.length_cons]
    omega
theorem wthAll_right : ∀ (l : List Rw) {L : List Rw}, okR L → okR (wthAll L l)
  | [], _, h => h
  | x :: r, _, h => wthAll_right r (wth_right h x)
theorem right_small {y : Rw} (h : rightW (wr_ y) = true) : (wr_ y).f0.size ≤ 9223372036854775807 ∧ (wr_ y).f1.size ≤ 9223372036854775807 := by
  have := (right_iff _).1 h
  omega
/-! ### against the package's -/
def ent (L : List Rw) : List En := (L.filter (fun y => decide (0 < szW (wr_ y)))).map (fun y => (kl y.f0 y.f1, szW (wr_ y)))
theorem ent_append (a b : List Rw) : ent (a ++ b) = ent a ++ ent b := by simp [ent]
theorem ent_filter (x : Rw) (hx : rightW (wr_ x) = true) : ∀ L : List Rw, okR L → ent (L.filter (keep x)) = strike (kl x.f0 x.f1) (ent L)
  | [], _ => rfl
  | y :: r, h => by
    have ih := ent_filter x hx r (fun z hz => h z (by simp [hz]))
    have hk : (kl y.f0 y.f1).sameKey (kl x.f0 x.f1) = eqK (wr_ x) (wr_ y) := same_kl (wr_ y) (wr_ x) (right_small (h y (by simp))) (right_small hx)
    have hs : eqK (wr_ x) (wr_ y) = eqK (wr_ y) (wr_ x) := by unfold eqK; rw [Bool.beq_comm (a := (wr_ x).f0.toList), Bool.beq_comm (a := (wr_ x).f1.toList)]
    have e1 : ent (y :: r) = (if 0 < szW (wr_ y) then [(kl y.f0 y.f1, szW (wr_ y))] else []) ++ ent r := by
      unfold ent
      rw [List.filter_cons]
      by_cases c : 0 < szW (wr_ y)
      · rw [if_pos (decide_eq_true c), if_pos c]; rfl
      · rw [if_neg (by simpa using c), if_neg c]; rfl
    have e2 : strike (kl x.f0 x.f1) (ent (y :: r)) = (if 0 < szW (wr_ y) ∧ keep x y = true then [(kl y.f0 y.f1, szW (wr_ y))] else []) ++ strike (kl x.f0 x.f1) (ent r) := by
      rw [e1]
      unfold strike
      rw [List.filter_append]
      congr 1
      by_cases c : 0 < szW (wr_ y)
      · rw [if_pos c, List.filter_cons, List.filter_nil]
        show (if (!(kl y.f0 y.f1).sameKey (kl x.f0 x.f1)) = true then _ else _) = _
        rw [hk, hs]
        by_cases d : keep x y = true
        · have d' : (!eqK (wr_ y) (wr_ x)) = true := d
          rw [if_pos d', if_pos ⟨c, d⟩]
        · have d' : ¬ (!eqK (wr_ y) (wr_ x)) = true := d
          rw [if_neg d', if_neg (fun h => d h.2)]
      · rw [if_neg c, if_neg (fun h => c h.1)]
        rfl
    rw [e2, ← ih, List.filter_cons]
    by_cases d : keep x y = true
    · rw [if_pos d]
      by_cases c : 0 < szW (wr_ y)
      · rw [if_pos ⟨c, d⟩]
        unfold ent
        rw [List.filter_cons, if_pos (decide_eq_true c)]
        rfl
      · rw [if_neg (fun h => c h.1)]
        unfold ent
        rw [List.filter_cons, if_neg (by simpa using c)]
        rfl
    · rw [if_neg d, if_neg (fun h => d h.2)]
      rfl
theorem ent_step (L : List Rw) (h : okR L) (x : Wr) : step (ent L) x = ent (wth L (rw_ x)) := by
  unfold step wth
  have hx : wr_ (rw_ x) = x := rfl
  rw [hx]
  by_cases c : rightW x = true
  · rw [if_pos c, if_pos c, ent_append, ent_filter (rw_ x) c L h]
    by_cases d : 0 < szW x
    · rw [if_pos d, strike_strike]
      congr 1
      unfold ent
      rw [List.filter_cons, if_pos (decide_eq_true (show 0 < szW (wr_ (rw_ x)) from d))]
      rfl
    · rw [if_neg d]
      unfold ent
      rw [List.filter_cons (x := rw_ x), if_neg (by rw [hx]; simpa using d), List.filter_nil, List.map_nil, List.append_nil]
      rfl
  · rw [if_neg c, if_neg c]
theorem ent_taken : ∀ (l : List Wr) (L : List Rw), okR L → taken (ent L) l = ent (wthAll L (l.map rw_))
  | [], L, _ => rfl
  | x :: r, L, h => by
    rw [show taken (ent L) (x :: r) = taken (step (ent L) x) r from rfl, ent_step L h x, ent_taken r _ (wth_right h _)]
    rfl
theorem ent_total : ∀ L : List Rw, okR L → total (ent L) = sumR L
  | [], _ => rfl
  | y :: r, h => by
    have ih := ent_total r (fun z hz => h z (by simp [hz]))
    have hs := (size_f (h y (by simp))).2.1
    rw [sumR, ← ih]
    unfold ent
    rw [List.filter_cons]
    by_cases c : 0 < szW (wr_ y)
    · rw [if_pos (decide_eq_true c), List.map_cons, total_cons]
    · rw [if_neg (by simpa using c)]
      omega
theorem ent_len (L : List Rw) : (ent L).length ≤ L.length := by
  unfold ent
  rw [List.length_map]
  exact List.length_filter_le _ _
/-! ### the sum -/
theorem rdR (L : List Rw) (j : Nat) (h : j < L.length) : rd_T66 L (j : Int) = L[j] := by
  unfold rd_T66
  rw [Int.toNat_natCast, List.getD_eq_getElem?_getD, List.getElem?_eq_getElem h]
  rfl
theorem sum_l0 (L : List Rw) (h : okR L) (hl : L.length ≤ 1000000) : ∀ m j k, j + m = L.length → m < k → tenementref13_sum.l0 k L (sumR (L.take j)) (j : Int) = some (sumR L)
  | 0, j, k, hj, hk => by
    obtain ⟨k, rfl⟩ : ∃ q, k = q + 1 := ⟨k - 1, by omega⟩
    rw [tenementref13_sum.l0, if_neg (by omega), List.take_of_length_le (by omega)]
  | m + 1, j, k, hj, hk => by
    obtain ⟨k, rfl⟩ : ∃ q, k = q + 1 := ⟨k - 1, by omega⟩
    have hlt : j < L.length := by omega
    have hr := h (L[j]) (List.getElem_mem hlt)
    have hb := sumR_bound (L.take j) (fun z hz => h z (List.mem_of_mem_take hz))
    rw [List.length_take] at hb
    have hs := size_f hr
    have e : sumR (L.take (j + 1)) = sumR (L.take j) + szW (wr_ L[j]) := by rw [List.take_add_one, List.getElem?_eq_getElem hlt]; exact sumR_snoc _ _
    rw [tenementref13_sum.l0, if_pos (by omega), if_pos (by omega), rdR L j hlt, rsize_f hr, Option.bind_some, wrap64_id (by omega) (by omega), ← e, idx j (by omega)]
    exact sum_l0 L h hl m (j + 1) k (by omega) (by omega)
theorem sum_f (L : List Rw) (h : okR L) (hl : L.length ≤ 1000000) : tenementref13_sum.f (L.length + 1) L = some (sumR L) := sum_l0 L h hl L.length 0 (L.length + 1) (by omega) (by omega)
/-! ### the walks -/
def RQ (w : World) (g g2 : Nat) (lim : Int) (L : List Rw) : Prop := ∃ A c, w.heap[g]? = some (.cells #[.int .i64 lim, .slice A L.length c] 62 (0, 0)) ∧ L.length ≤ c ∧ Kd.C k66 w A L.length L ∧ ∀ ad, A = some ad → ad.block ≠ g ∧ ad.block ≠ g2
theorem RQ.below {w w' : World} {g g2 : Nat} {lim : Int} {L : List Rw} (h : RQ w g g2 lim L) (hb : Below w.heap.size w w') : RQ w' g g2 lim L := by
  obtain ⟨A, c, h1, h2, h3, h4⟩ := h
  exact ⟨A, c, blk_below h1 hb, h2, Kd.C_below h3 hb, h4⟩
theorem RQ.lt {w : World} {g g2 : Nat} {lim : Int} {L : List Rw} (h : RQ w g g2 lim L) : g < w.heap.size := by
  obtain ⟨A, c, h1, _⟩ := h
  exact blk_lt h1
theorem CR_grown {w w1 : World} {A : Option Addr} {n g : Nat} {xs : List Rw} (h : Kd.C k66 w A n xs) (hg : w.grownBy w1 (some g)) (hne : ∀ ad, A = some ad → ad.block ≠ g) : Kd.C k66 w1 A n xs := by
  refine ⟨h.1, h.2.1, fun hp => ?_⟩
  obtain ⟨ad, e, hc⟩ := h.2.2 hp
  refine ⟨ad, e, fun j p hj => ?_⟩
  obtain ⟨c, hs, hr, hcell⟩ := hc j p hj
  refine ⟨c, hs, (k66_open hr) ▸ k66_mk w1 p, fun i u hu => hg.cell (hcell i u hu) ?_⟩
  rw [add_blk]
  intro e'
  exact hne ad e (by simpa using e')
theorem RQ.grown {w w' : World} {g g2 : Nat} {lim : Int} {L : List Rw} (h : RQ w g g2 lim L) (hg : w.grownBy w' (some g2)) (hne : g ≠ g2) : RQ w' g g2 lim L := by
  obtain ⟨A, c, h1, h2, h3, h4⟩ := h
  exact ⟨A, c, grown_blk hg h1 hne, h2, CR_grown h3 hg (fun ad e => (h4 ad e).2), h4⟩
theorem Sq.grown {w w' : World} {gp g : Nat} {lim : Int} {L : List En} {cs : Array Value} {ty : TypeId} (h : Sq w gp lim L) (hg : w.grownBy w' (some g)) (hne : gp ≠ g) (hb : w.heap[g]? = some (.cells cs ty (0, 0))) : Sq w' gp lim L := by
  obtain ⟨b, h⟩ := h
  refine ⟨b, h.kept hg (by simpa using hne) ?_⟩
  obtain ⟨es, ⟨e0, clock, hm, _⟩, _⟩ := h.2
  intro e
  have e : b = g := by simpa using e
  rw [e, hb] at hm
  cases hm
theorem new_far {A A3 : Option Addr} {g g2 a b : Nat} (h : A3 = A ∨ ∀ ad, A3 = some ad → b ≤ ad.block) (hn : ∀ ad, A = some ad → ad.block ≠ g ∧ ad.block ≠ g2) (h2 : g < a ∧ g2 < a) (h3 : a ≤ b) : ∀ ad, A3 = some ad → ad.block ≠ g ∧ ad.block ≠ g2 := by
  intro ad e
  rcases h with h | h
  · exact hn ad (h ▸ e)
  · have h1 := h ad e
    omega
theorem sq_grown {w w' : World} {gp g : Nat} {lim : Int} {E : List En} {L : List Rw} (h : Sq w gp lim E) (hg : w.grownBy w' (some g)) (hne : gp ≠ g) (hq : RQ w g gp lim L) : Sq w' gp lim E := by
  obtain ⟨A, c, h1, _⟩ := hq
  exact h.grown hg hne h1
set_option maxHeartbeats 8000000 in
set_option maxRecDepth 100000 in
theorem all_c (g g2 : Nat) (lim : Int) (L : List Rw) (A : Option Addr) (c : Nat) (l : List Rw) (w : World) (h : RQ w g g2 lim L) (h2 : g2 < w.heap.size) (hr : Kd.C k66 w A l.length l) (hc : l.length ≤ c) (hn : L.length + l.length ≤ 1000000) :
    Calls Try.prog 30 #[.pointer (some ⟨g, 0, none⟩), .slice A l.length c] w fun e w' => ∃ A' c', e = .returned (.slice A' (wthAll L l).length c') ∧ (wthAll L l).length ≤ c' ∧ Kd.C k66 w' A' (wthAll L l).length (wthAll L l) ∧ (∀ ad, A' = some ad → ad.block ≠ g ∧ ad.block ≠ g2) ∧ Below w.heap.size w w' := by
  have hlt := h.lt
  obtain ⟨Aq, cq, hq, hcq, hCq, hnq⟩ := h
  have HR := Aside0.mk hr
  have HCQ := Aside0.mk hCq
  have HNQ := Aside0.mk hnq
  have H2 := Aside0.mk (And.intro hlt h2)
  obtain ⟨k0, k1, z0, z1⟩ := Ke2_ hq
  clear hq hCq hnq hr hlt h2
  go_enter Try.func30, Try.ntmps30
  go_wp2
  clear k0 k1 z0 z1
  go_loopg [5, 6] l.length (fun kq v5 v6 wr => ∃ (j : Nat) (A' : Option Addr) (c' : Nat), v6 = .int .i64 j ∧ v5 = .slice A' (wthAll L (l.take j)).length c' ∧ Aside0 (j ≤ l.length) ∧ Aside0 (l.length - j ≤ kq) ∧ Aside0 ((wthAll L (l.take j)).length ≤ c') ∧ Aside0 (Kd.C k66 wr A' (wthAll L (l.take j)).length (wthAll L (l.take j))) ∧ Aside0 (∀ ad, A' = some ad → ad.block ≠ g ∧ ad.block ≠ g2) ∧ Aside0 (Below w.heap.size w wr))
  case atStart => exact ⟨0, Aq, cq, rfl, rfl, ⟨by omega⟩, ⟨by omega⟩, ⟨hcq⟩, HCQ, HNQ, ⟨Below.refl _ _⟩⟩
  case round =>
    obtain ⟨j, A', c', rfl, rfl, HJ, HK, HCC, HC, HN, HB⟩ := hrel
    by_cases c1 : j < l.length
    rotate_left
    · have c1b : decide ((j : Int) < (l.length : Int)) = false := decide_eq_false (by omega)
      have hj : l.take j = l := List.take_of_length_le (by omega)
      rw [hj] at HCC HC
      rw [hj]
      go_wp2
      go_ret
      exact ⟨A', c', rfl, HCC.out, HC.out, HN.out, HB.out⟩
    · have c1b : decide ((j : Int) < (l.length : Int)) = true := decide_eq_true (by omega)
      have c0b : decide (0 ≤ (j : Int)) = true := decide_eq_true (by omega)
      have hy : l[j]? = .some (l[j]'c1) := List.getElem?_eq_getElem c1
      obtain ⟨y, hye⟩ : ∃ y, y = l[j]'c1 := ⟨_, rfl⟩
      rw [← hye] at hy
      obtain ⟨ad, e0, a0, a1, a2, a3⟩ := at_T66 HR.out (j : Int) (by omega) (by omega)
      cases e0
      rw [rdR l j c1, ← hye] at a0 a1 a2 a3
      simp only [Int.toNat_natCast] at a0 a1 a2 a3
      replace a0 := (HB.out.cell (World.block_lt_of_cell? _ _ a0)).trans a0
      replace a1 := (HB.out.cell (World.block_lt_of_cell? _ _ a1)).trans a1
      replace a2 := (HB.out.cell (World.block_lt_of_cell? _ _ a2)).trans a2
      replace a3 := (HB.out.cell (World.block_lt_of_cell? _ _ a3)).trans a3
      have HTK := Aside0.mk (show wthAll L (l.take (j + 1)) = wth (wthAll L (l.take j)) y by rw [List.take_add_one, hy]; exact wthAll_snoc _ _ _)
      have hln := wthAll_length (l.take j) L
      rw [List.length_take] at hln
      have HLN := Aside0.mk (show (wthAll L (l.take j)).length ≤ 1000000000 by omega)
      clear hy hye hln
      generalize wthAll L (l.take j) = T at *
      go_wp2_with (first | (go_at_call 35; (with_reducible refine (with_c A' c' T y _ HC.out HCC.out HLN.out).mono ?_); rintro e wu ⟨A3, c3, rfl, hl3, hC3, hn3, hb⟩; have HC3 := Aside0.mk hC3; have HL3 := Aside0.mk hl3; have HN3 : Aside0 (∀ ad, A3 = some ad → ad.block ≠ g ∧ ad.block ≠ g2) := ⟨new_far hn3 HN.out H2.out HB.out.size⟩; replace HB := Aside0.mk (below_step HB.out hb); clear hC3 hl3 hn3 hb))
      go_roundg (l.length - (j + 1))
      case measure => have := HK.out; omega
      case rel => exact ⟨j + 1, A3, c3, by first | rfl | exact step_int j (by omega), by rw [HTK.out], ⟨by omega⟩, ⟨by omega⟩, ⟨by rw [HTK.out]; exact HL3.out⟩, ⟨by rw [HTK.out]; exact HC3.out⟩, HN3, HB⟩
set_option maxHeartbeats 8000000 in
set_option maxRecDepth 100000 in
theorem rafter_c (g g2 : Nat) (lim : Int) (L : List Rw) (A : Option Addr) (c : Nat) (l : List Rw) (w : World) (h : RQ w g g2 lim L) (h2 : g2 < w.heap.size) (hr : Kd.C k66 w A l.length l) (hc : l.length ≤ c) (hn : L.length + l.length ≤ 1000000) (ho : okR L) :
    Calls Try.prog 13 #[.pointer (some ⟨g, 0, none⟩), .slice A l.length c] w fun e w' => e = .returned (.int .i64 (sumR (wthAll L l))) ∧ Below w.heap.size w w' := by
  have HA := Aside0.mk (all_c g g2 lim L A c l w h h2 hr hc hn)
  have HS := Aside0.mk (sum_f (wthAll L l) (wthAll_right l ho) (by have := wthAll_length l L; omega))
  clear h hr ho h2
  go_enter Try.func13, Try.ntmps13
  go_wp2_with (first
    | (go_at_call 30; refine HA.out.mono ?_; rintro e wu ⟨A3, c3, rfl, hl3, hC3, hn3, hb⟩; have HC3 := Aside0.mk hC3; have HL3 := Aside0.mk hl3; have HB := Aside0.mk hb; clear hC3 hl3 hn3 hb HA)
    | (go_at_call 29; refine (tenementref13_sum.calls _ A3 c3 _ _ _ HC3.out HL3.out HS.out).mono ?_; rintro e w2 ⟨rfl, hb⟩; replace HB := Aside0.mk (below_step HB.out hb); clear hb))
  go_ret
  exact ⟨rfl, HB.out⟩
set_option maxHeartbeats 8000000 in
set_option maxRecDepth 100000 in
theorem rused_c (g g2 : Nat) (lim : Int) (L : List Rw) (w : World) (h : RQ w g g2 lim L) (hn : L.length ≤ 1000000) (ho : okR L) :
    Calls Try.prog 19 #[.pointer (some ⟨g, 0, none⟩)] w fun e w' => e = .returned (.int .i64 (sumR L)) ∧ Below w.heap.size w w' := by
  obtain ⟨Aq, cq, hq, hcq, hCq, hnq⟩ := h
  have HS := Aside0.mk (sum_f L ho hn)
  have HC := Aside0.mk hCq
  obtain ⟨k0, k1, z0, z1⟩ := Ke2_ hq
  clear hq hCq hnq ho
  go_enter Try.func19, Try.ntmps19
  go_wp2_with (first | (go_at_call 29; refine (tenementref13_sum.calls _ Aq cq _ _ _ HC.out hcq HS.out).mono ?_; rintro e w2 ⟨rfl, hb⟩; have HB := Aside0.mk hb; clear hb))
  go_ret
  exact ⟨rfl, HB.out⟩
set_option maxHeartbeats 8000000 in
set_option maxRecDepth 100000 in
theorem rkeys_c (g g2 : Nat) (lim : Int) (L : List Rw) (w : World) (h : RQ w g g2 lim L) (hn : L.length ≤ 1000000) (ho : okR L) :
    Calls Try.prog 21 #[.pointer (some ⟨g, 0, none⟩)] w fun e w' => e = .returned (.int .i64 (ent L).length) ∧ Below w.heap.size w w' := by
  obtain ⟨Aq, cq, hq, hcq, hCq, hnq⟩ := h
  have HC := Aside0.mk hCq
  have HQ := Aside0.mk hq
  have HO := Aside0.mk ho
  clear hq hCq hnq ho
  go_enter Try.func21, Try.ntmps21
  go_wp2
  go_loopg [3, 4] L.length (fun kq v3 v4 wr => ∃ (j : Nat), v4 = .int .i64 j ∧ v3 = .int .i64 (ent (L.take j)).length ∧ Aside0 (j ≤ L.length) ∧ Aside0 (L.length - j ≤ kq) ∧ Aside0 (Below w.heap.size w wr))
  case atStart => exact ⟨0, rfl, rfl, ⟨by omega⟩, ⟨by omega⟩, ⟨Below.refl _ _⟩⟩
  case round =>
    obtain ⟨j, rfl, rfl, HJ, HK, HB⟩ := hrel
    obtain ⟨k0, k1, z0, z1⟩ := Ke2_ (blk_below HQ.out HB.out)
    by_cases c1 : j < L.length
    rotate_left
    · have c1b : decide ((j : Int) < (L.length : Int)) = false := decide_eq_false (by omega)
      have hj : L.take j = L := List.take_of_length_le (by omega)
      rw [hj]
      go_wp2
      go_ret
      exact ⟨rfl, HB.out⟩
    · have c1b : decide ((j : Int) < (L.length : Int)) = true := decide_eq_true (by omega)
      have c0b : decide (0 ≤ (j : Int)) = true := decide_eq_true (by omega)
      have hy : L[j]? = .some (L[j]'c1) := List.getElem?_eq_getElem c1
      obtain ⟨y, hye⟩ : ∃ y, y = L[j]'c1 := ⟨_, rfl⟩
      rw [← hye] at hy
      have hyr : rightW (wr_ y) = true := HO.out y (hye ▸ List.getElem_mem c1)
      obtain ⟨ad, e0, a0, a1, a2, a3⟩ := at_T66 HC.out (j : Int) (by omega) (by omega)
      cases e0
      rw [rdR L j c1, ← hye] at a0 a1 a2 a3
      simp only [Int.toNat_natCast] at a0 a1 a2 a3
      replace a0 := (HB.out.cell (World.block_lt_of_cell? _ _ a0)).trans a0
      replace a1 := (HB.out.cell (World.block_lt_of_cell? _ _ a1)).trans a1
      replace a2 := (HB.out.cell (World.block_lt_of_cell? _ _ a2)).trans a2
      replace a3 := (HB.out.cell (World.block_lt_of_cell? _ _ a3)).trans a3
      have HS := Aside0.mk (rsize_f hyr)
      have hle := ent_len (L.take j)
      rw [List.length_take] at hle
      have hel : (ent (L.take j)).length ≤ 1000000 := by omega
      have hsz := (size_f hyr).2.1
      have HTK := Aside0.mk (show (ent (L.take (j + 1))).length = (ent (L.take j)).length + (if 0 < szW (wr_ y) then 1 else 0) by
        rw [List.take_add_one, hy]
        show (ent (L.take j ++ [y])).length = _
        rw [ent_append, List.length_append]
        congr 1
        unfold ent
        rw [List.filter_cons]
        by_cases c : 0 < szW (wr_ y)
        · rw [if_pos (decide_eq_true c), if_pos c]; rfl
        · rw [if_neg (by simpa using c), if_neg c]; rfl)
      clear hy hye hyr hle
      generalize szW (wr_ y) = z at *
      generalize (ent (L.take j)).length = cn at *
      by_cases hz : 0 < z
      · have hzb : decide (0 < z) = true := decide_eq_true hz
        rw [if_pos hz] at HTK
        go_wp2_with (first | (go_at_call 33; (with_reducible refine (tenementref08_Size.calls y.f0 y.f1 y.f2 y.f3 _ _ HS.out).mono ?_); rintro e w2 ⟨rfl, hb⟩; replace HB := Aside0.mk (below_step HB.out hb); clear hb))
        go_roundg (L.length - (j + 1))
        case measure => have := HK.out; omega
        case rel => exact ⟨j + 1, by first | rfl | exact step_int j (by omega), by rw [HTK.out]; first | rfl | exact step_int cn (by omega), ⟨by omega⟩, ⟨by omega⟩, HB⟩
      · have hzb : decide (0 < z) = false := decide_eq_false hz
        rw [if_neg hz] at HTK
        go_wp2_with (first | (go_at_call 33; (with_reducible refine (tenementref08_Size.calls y.f0 y.f1 y.f2 y.f3 _ _ HS.out).mono ?_); rintro e w2 ⟨rfl, hb⟩; replace HB := Aside0.mk (below_step HB.out hb); clear hb))
        go_roundg (L.length - (j + 1))
        case measure => have := HK.out; omega
        case rel => exact ⟨j + 1, by first | rfl | exact step_int j (by omega), by rw [HTK.out]; rfl, ⟨by omega⟩, ⟨by omega⟩, HB⟩
set_option maxHeartbeats 8000000 in
set_option maxRecDepth 100000 in
theorem rnew_c (lim : Int) (g2 : Nat) (w : World) (h0 : 0 ≤ lim) (h1 : lim ≤ 1073741824) :
    Calls Try.prog 10 #[.int .i64 lim] w fun e w' => e = .returned (.pointer (some ⟨w.heap.size, 0, none⟩)) ∧ RQ w' w.heap.size g2 lim [] ∧ Below w.heap.size w w' := by
  have q0 : decide (lim < 0) = false := decide_eq_false (by omega)
  have q1 : decide (1073741824 < lim) = false := decide_eq_false (by omega)
  go_enter Try.func10, Try.ntmps10
  go_wp2
  go_ret
  exact ⟨rfl, ⟨none, 0, blk_new _ _, Nat.le_refl _, Kd.C_nil _ _, fun ad e => by cases e⟩, below_alloc (Below.refl _ _) _⟩
set_option maxHeartbeats 8000000 in
set_option maxRecDepth 100000 in
theorem rnew_bad (lim : Int) (w : World) (h : lim < 0 ∨ 1073741824 < lim) :
    Calls Try.prog 10 #[.int .i64 lim] w fun e w' => e = .returned (.pointer none) ∧ Below w.heap.size w w' := by
  by_cases c : lim < 0
  · have q0 : decide (lim < 0) = true := decide_eq_true c
    go_enter Try.func10, Try.ntmps10
    go_wp2
    go_ret
    exact ⟨rfl, Below.refl _ _⟩
  · have q0 : decide (lim < 0) = false := decide_eq_false c
    have q1 : decide (1073741824 < lim) = true := decide_eq_true (by omega)
    go_enter Try.func10, Try.ntmps10
    go_wp2
    go_ret
    exact ⟨rfl, Below.refl _ _⟩
set_option maxHeartbeats 8000000 in
set_option maxRecDepth 100000 in
theorem rtake_c (g g2 : Nat) (lim : Int) (L : List Rw) (A : Option Addr) (c : Nat) (l : List Rw) (w : World) (h : RQ w g g2 lim L) (h2 : g2 < w.heap.size) (hr : Kd.C k66 w A l.length l) (hc : l.length ≤ c) (hn : L.length + l.length ≤ 1000000) (ho : okR L) :
    Calls Try.prog 17 #[.pointer (some ⟨g, 0, none⟩), .slice A l.length c] w fun e w' => e = .returned (.bool (decide (sumR (wthAll L l) ≤ lim))) ∧ RQ w' g g2 lim (if sumR (wthAll L l) ≤ lim then wthAll L l else L) ∧ w.grownBy w' (some g) := by
  have HH := Aside0.mk h
  have HR := Aside0.mk hr
  have HO := Aside0.mk ho
  have H2 := Aside0.mk h2
  have HLT := Aside0.mk h.lt
  obtain ⟨Aq, cq, hq, _, _, _⟩ := h
  obtain ⟨k0, k1, z0, z1⟩ := Ke2_ hq
  clear hr ho h2 hq
  by_cases hf : sumR (wthAll L l) ≤ lim
  · have hfb : decide (sumR (wthAll L l) ≤ lim) = true := decide_eq_true hf
    have hgb : decide (lim < sumR (wthAll L l)) = false := decide_eq_false (by omega)
    rw [hfb, if_pos hf]
    clear hf
    go_enter Try.func17, Try.ntmps17
    go_wp2
    have HD := Aside0.mk (show Below w.heap.size w w.drew from below_drew1 (Below.refl _ _))
    go_region_held3 (fun w' => w'.cell? ⟨g, 0, none⟩ = some (.int .i64 lim)) (go_keep)
      (first | (go_at_call 13; refine (rafter_c g g2 lim L A c l _ (HH.out.below HD.out) (Nat.lt_of_lt_of_le H2.out HD.out.size) (Kd.C_below HR.out HD.out) hc hn HO.out).mono ?_; rintro e w1 ⟨rfl, hb⟩; have HB := Aside0.mk (below_step HD.out hb); have k9 := (HB.out.cell (World.block_lt_of_cell? _ _ k0)).trans k0; clear hb))
    all_goals
      go_wp2_with (first
        | (go_at_call 30; refine (all_c g g2 lim L A c l _ (HH.out.below HB.out) (Nat.lt_of_lt_of_le H2.out HB.out.size) (Kd.C_below HR.out HB.out) hc hn).mono ?_; rintro e w2 ⟨A3, c3, rfl, hl3, hC3, hn3, hb⟩; have HC3 := Aside0.mk hC3; have HL3 := Aside0.mk hl3; have HN3 := Aside0.mk hn3; replace HB := Aside0.mk (below_step HB.out hb); have HK := Aside0.mk (show ∃ v, w2.heap[g]? = some (.cells #[.int .i64 lim, v] 62 (0, 0)) by obtain ⟨Aq, cq, hq, _⟩ := HH.out.below HB.out; exact ⟨_, hq⟩); obtain ⟨vq, hvq⟩ := HK.out; have HKQ := Aside0.mk hvq; obtain ⟨y0, y1, x0, x1⟩ := Ke2_ hvq; clear hb hl3 hC3 hn3 HK hvq))
      go_ret
      exact ⟨rfl, ⟨A3, c3, blk_put HKQ.out 1 (.slice A3 (wthAll L l).length c3) (cs' := #[.int .i64 lim, .slice A3 (wthAll L l).length c3]) rfl, HL3.out, CR_grown HC3.out (grown_set _ g 1 _) (fun ad e => (HN3.out ad e).1), HN3.out⟩, grown_put HB.out _⟩
  · have hfb : decide (sumR (wthAll L l) ≤ lim) = false := decide_eq_false hf
    have hgb : decide (lim < sumR (wthAll L l)) = true := decide_eq_true (by omega)
    rw [hfb, if_neg hf]
    clear hf
    go_enter Try.func17, Try.ntmps17
    go_wp2
    have HD := Aside0.mk (show Below w.heap.size w w.drew from below_drew1 (Below.refl _ _))
    go_region_held3 (fun w' => w'.cell? ⟨g, 0, none⟩ = some (.int .i64 lim)) (go_keep)
      (first | (go_at_call 13; refine (rafter_c g g2 lim L A c l _ (HH.out.below HD.out) (Nat.lt_of_lt_of_le H2.out HD.out.size) (Kd.C_below HR.out HD.out) hc hn HO.out).mono ?_; rintro e w1 ⟨rfl, hb⟩; have HB := Aside0.mk (below_step HD.out hb); have k9 := (HB.out.cell (World.block_lt_of_cell? _ _ k0)).trans k0; clear hb))
    all_goals
      go_wp2
      go_ret
      exact ⟨rfl, HH.out.below HB.out, (grown_of_below HB.out).but _⟩
theorem mapRw_l0 (ws : List Wr) (hl : ws.length ≤ 1000) : ∀ m j k, j + m = ws.length → m < k → tenementlaw13_refWrites.l0 k ws ((ws.take j).map rw_) (j : Int) = some (ws.map rw_)
  | 0, j, k, hj, hk => by
    obtain ⟨k, rfl⟩ : ∃ q, k = q + 1 := ⟨k - 1, by omega⟩
    rw [tenementlaw13_refWrites.l0, if_neg (by omega), List.take_of_length_le (by omega)]
  | m + 1, j, k, hj, hk => by
    obtain ⟨k, rfl⟩ : ∃ q, k = q + 1 := ⟨k - 1, by omega⟩
    have hlt : j < ws.length := by omega
    have e : (ws.take (j + 1)).map rw_ = (ws.take j).map rw_ ++ [rw_ ws[j]] := by rw [List.take_add_one, List.getElem?_eq_getElem hlt, List.map_append]; rfl
    have hr : rd_T45 ws (j : Int) = ws[j] := by
      unfold rd_T45
      rw [Int.toNat_natCast, List.getD_eq_getElem?_getD, List.getElem?_eq_getElem hlt]
      rfl
    rw [tenementlaw13_refWrites.l0, if_pos (by omega), if_pos (by omega), if_pos (by rw [List.length_map, List.length_take]; omega), hr, idx j (by omega)]
    show tenementlaw13_refWrites.l0 k ws ((ws.take j).map rw_ ++ [rw_ ws[j]]) _ = _
    rw [← e]
    exact mapRw_l0 ws hl m (j + 1) k (by omega) (by omega)
theorem refw_c (A : Option Addr) (c : Nat) (ws : List Wr) (w : World) (hr : Kd.C k45 w A ws.length ws) (hc : ws.length ≤ c) (hl : ws.length ≤ 1000) :
    Calls Try.prog 12 #[.slice A ws.length c] w fun e w' => ∃ A' c', e = .returned (.slice A' ws.length c') ∧ ws.length ≤ c' ∧ Kd.C k66 w' A' ws.length (ws.map rw_) ∧ Below w.heap.size w w' ∧ ∀ ad, A' = some ad → w.heap.size ≤ ad.block := by
  refine (tenementlaw13_refWrites.calls (ws.length + 1) A c ws _ w hr hc (mapRw_l0 ws hl ws.length 0 _ (by omega) (by omega))).mono ?_
  rintro e w' ⟨v, rfl, hR, hb⟩
  obtain ⟨A', c', rfl, hl', hC⟩ := Kd.R_reads hR
  rw [List.length_map] at hl' hC
  rw [List.length_map]
  refine ⟨A', c', rfl, hl', hC, hb, ?_⟩
  rintro ad rfl
  obtain ⟨inner, ho⟩ := Kd.R_own hR
  exact own_base ho ad.block rfl
end Go.Proofs.Ytbjpfgmmmdfbeaa.Quo

namespace Go.Proofs.Ytbjpfgmmmdfbeaa.Q
open Go.RowKit Go.Proofs.YtbjpfgmmmdfbeaaW.PrintWords Go.Proofs.YtbjpfgmmmdfbeaaW.PrintLast Go.Proofs.YtbjpfgmmmdfbeaaW.PrintMore
attribute [local go_sem] max2_int min2_int max_two min_two max_three min_three max_four min_four   -- for this text's walks alone
set_option linter.unusedVariables false
set_option linter.unusedSimpArgs false
/-! ### tenementlaw13_QuotaPlays: function 3 -/
-- FOREIGN: lists of writes, taken or refused by both
-- import Derived.Test.YtbjpfgmmmdfbeaaQuoU
open Classical in
noncomputable def tenementlaw13_QuotaPlays.f (a0 : Int) (a1 : Bool) (l2 : List (List S64)) : Option Bool := if (Lit.int .i64 a0).wf = true ∧ ∀ l ∈ l2, Quo.okL l then some true else none
theorem tenementlaw13_QuotaPlays.near (a : Int) : 0 ≤ wrap64 (Int.tmod (IntKind.u64.wrap a) 60) ∧ wrap64 (Int.tmod (IntKind.u64.wrap a) 60) ≤ 59 := by
  have h0 : 0 ≤ IntKind.u64.wrap a := by simp only [IntKind.wrap_u64]; omega
  have h1 : Int.tmod (IntKind.u64.wrap a) 60 = IntKind.u64.wrap a % 60 := Int.tmod_eq_emod_of_nonneg h0
  rw [h1, Pure.wrap64_id (by omega) (by omega)]
  omega
set_option maxHeartbeats 8000000 in
set_option maxRecDepth 100000 in
theorem tenementlaw13_QuotaPlays.calls (a0 : Int) (a1 : Bool) (A2 : Option Addr) (c2 : Nat) (l2 : List (List S64)) (r : Bool) (w : World) (hr2 : Kd.C (Kd.slice 64 k64) w A2 l2.length l2) (hc2 : l2.length ≤ c2) (h : tenementlaw13_QuotaPlays.f a0 a1 l2 = some r) :
    Calls Try.prog 3 #[.int .i64 a0, .bool a1, .slice A2 l2.length c2] w fun e w' => e = .returned (.bool r) ∧ Below w.heap.size w w' := by
  unfold tenementlaw13_QuotaPlays.f at h
  by_cases hw : (Lit.int .i64 a0).wf = true ∧ ∀ l ∈ l2, Quo.okL l
  rotate_left
  · rw [if_neg hw] at h; cases h
  rw [if_pos hw] at h
  obtain rfl := Option.some.inj h
  clear h
  have HW := Aside0.mk hw.2
  have HR := Aside0.mk hr2
  clear hw hr2
  cases a1 with
  | true =>
    have HNR := Aside0.mk (tenementlaw13_QuotaPlays.near a0)
    go_enter Try.func3, Try.ntmps3
    go_wp2_with (first | (go_at_call 8; refine (Quo.ex_c _).mono ?_; rintro e w1 ⟨rfl, hb⟩; have HB := Aside0.mk hb; clear hb))
    have hl0 := HNR.out.1
    have hl1' := HNR.out.2
    generalize (wrap64 (Int.tmod (IntKind.u64.wrap a0) 60)) = lim at *
    have hl1 : lim ≤ 1073741824 := by omega
    clear hl1' HNR
    go_wp2_with (first
      | (go_at_call 9; (with_reducible refine (Quo.new_q lim _ hl0 hl1).mono ?_); rintro e w2 ⟨g, rfl, hg, hst, hb⟩; have HG := Aside0.mk (Nat.le_trans HB.out.size hg); have HS := Aside0.mk hst; replace HB := Aside0.mk (below_step HB.out hb); clear hg hst hb)
      | (go_at_call 10; (with_reducible refine (Quo.rnew_c lim g _ hl0 hl1).mono ?_); rintro e w3 ⟨rfl, hq, hb⟩; have HGR := Aside0.mk HB.out.size; have HNE := Aside0.mk (Nat.ne_of_gt HS.out.lt); have HQ := Aside0.mk hq; replace HS := Aside0.mk (HS.out.below hb); replace HB := Aside0.mk (below_step HB.out hb); clear hq hb))
    obtain ⟨gr, hgr⟩ : ∃ gr, gr = w2.heap.size := ⟨_, rfl⟩
    rw [← hgr] at HGR HNE HQ
    rw [← hgr]
    clear hgr
    go_loopg [11] l2.length (fun kq v11 wr => ∃ (j : Nat) (L : List Quo.Rw), v11 = .int .i64 j ∧ Aside0 (j ≤ 30 ∧ j ≤ l2.length) ∧ Aside0 (l2.length - j ≤ kq) ∧ Aside0 (Quo.Sq wr g lim (Quo.ent L)) ∧ Aside0 (Quo.RQ wr gr g lim L) ∧ Aside0 (Below w.heap.size w wr) ∧ Aside0 (Quo.okR L) ∧ Aside0 (L.length ≤ 6 * j))
    case atStart => exact ⟨0, [], rfl, ⟨by omega⟩, ⟨by omega⟩, HS, HQ, HB, ⟨fun y hy => by cases hy⟩, ⟨by simp⟩⟩
    case round =>
      obtain ⟨j, L, rfl, HJ, HK, HS, HQ, HB, HOR, HLJ⟩ := hrel
      by_cases c1 : j < l2.length ∧ j < 30
      · obtain ⟨c1, c3⟩ := c1
        have c1b : decide ((j : Int) < (l2.length : Int)) = true := decide_eq_true (by omega)
        have c2b : decide ((j : Int) < 30) = true := decide_eq_true (by omega)
        have c0b : decide (0 ≤ (j : Int)) = true := decide_eq_true (by omega)
        obtain ⟨ad, x, A', c', e0, hx, hcell, hle, hC⟩ := Quo.at_row HR.out j c1
        cases e0
        replace hcell := (HB.out.cell (World.block_lt_of_cell? w _ hcell)).trans hcell
        have HC := Aside0.mk (Kd.C_below hC HB.out)
        have HOK := Aside0.mk (HW.out x (List.mem_of_getElem? hx))
        have HWS := Aside0.mk (Quo.wrs_small HOK.out 6 false)
        have hwl := Quo.wrs_most x 6 false
        clear hx hC
        generalize hws : Pure.wrs 6 false x [] = ws at *
        have HWE := Aside0.mk hws
        have hlj := HLJ.out
        have hel := Quo.ent_len L
        have HL6 := Aside0.mk (show ws.length ≤ 1000 by omega)
        have HLM := Aside0.mk (show (ws.map Quo.rw_).length = ws.length from List.length_map _)
        have HLL := Aside0.mk (show L.length + (ws.map Quo.rw_).length ≤ 1000000 by rw [List.length_map]; omega)
        have HLN := Aside0.mk (show (Quo.ent L).length + ws.length ≤ 1000000000 by omega)
        have HTK := Aside0.mk (Quo.ent_taken ws L HOR.out)
        have HO' := Aside0.mk (Quo.wthAll_right (ws.map Quo.rw_) HOR.out)
        have hwa := Quo.wthAll_length (ws.map Quo.rw_) L
        rw [List.length_map] at hwa
        have hsb := Quo.sumR_bound _ HO'.out
        have hsc := Quo.sumR_bound L HOR.out
        have HSC := Aside0.mk (show wrap64 (Quo.total (Quo.ent L)) = Quo.sumR L by rw [Quo.ent_total L HOR.out, Pure.wrap64_id (by omega) (by omega)])
        have HSD := Aside0.mk (show wrap64 (Quo.total (Quo.ent (Quo.wthAll L (ws.map Quo.rw_)))) = Quo.sumR (Quo.wthAll L (ws.map Quo.rw_)) by rw [Quo.ent_total _ HO'.out, Pure.wrap64_id (by omega) (by omega)])
        have HLJ' := Aside0.mk (show (Quo.wthAll L (ws.map Quo.rw_)).length ≤ 6 * (j + 1) by omega)
        have HL1 := Aside0.mk (show L.length ≤ 1000000 by omega)
        have HL2' := Aside0.mk (show (Quo.wthAll L (ws.map Quo.rw_)).length ≤ 1000000 by omega)
        obtain ⟨s, hs⟩ : ∃ s, s = Quo.sumR (Quo.wthAll L (ws.map Quo.rw_)) := ⟨_, rfl⟩
        have HSE := Aside0.mk hs.symm
        have HTS : Aside0 (wrap64 (Quo.total (Quo.ent (Quo.wthAll L (ws.map Quo.rw_)))) = s) := ⟨by rw [HSD.out, hs]⟩
        obtain ⟨t, ht⟩ : ∃ t, t = Quo.sumR L := ⟨_, rfl⟩
        clear hws hwl hlj hel hwa hsb hsc hs
        by_cases hf : s ≤ lim
        · have hfb : decide (s ≤ lim) = true := decide_eq_true hf
          have HF := Aside0.mk hf
          obtain ⟨s', hs'⟩ : ∃ s', s' = s := ⟨_, rfl⟩
          have HTU : Aside0 (wrap64 (Quo.total (Quo.ent (Quo.wthAll L (ws.map Quo.rw_)))) = s') := ⟨by rw [hs']; exact HTS.out⟩
          have HSU : Aside0 (Quo.sumR (Quo.wthAll L (ws.map Quo.rw_)) = s') := ⟨by rw [hs']; exact HSE.out⟩
          have HLU := HL2'
          have HOU := HO'
          clear hs' hf ht
          go_wp2_with (first
            | (go_at_call 11; (with_reducible refine (Quo.writes_c A' c' x 6 6 rfl false _ HC.out hle HOK.out (by omega) ws HWE.out).mono ?_); rintro e wu ⟨A5, c5, rfl, hl5, hC5, hb, hn5⟩; have HC2 := Aside0.mk hC5; have HL2 := Aside0.mk hl5; have HN2 : Aside0 (∀ ad, A5 = some ad → ad.block ≠ g) := ⟨fun ad e => by have := hn5 ad e; have := HS.out.lt; omega⟩; clear hl5 hC5 hn5; replace HS := Aside0.mk (HS.out.below hb); replace HQ := Aside0.mk (HQ.out.below hb); replace HB := Aside0.mk (below_step HB.out hb); clear hb)
            | (go_at_call 12; (with_reducible refine (Quo.refw_c A5 c5 ws _ HC2.out HL2.out HL6.out).mono ?_); rintro e wu ⟨A6, c6, rfl, hl6, hC6, hb, hn6⟩; have HN3 : Aside0 (∀ ad, A6 = some ad → ad.block ≠ g) := ⟨fun ad e => by have := hn6 ad e; have := HS.out.lt; omega⟩; replace HS := Aside0.mk (HS.out.below hb); replace HQ := Aside0.mk (HQ.out.below hb); replace HB := Aside0.mk (below_step HB.out hb); replace HC2 := Aside0.mk (Kd.C_below HC2.out hb); have HC3 := Aside0.mk (show Kd.C k66 wu A6 (ws.map Quo.rw_).length (ws.map Quo.rw_) by rw [List.length_map]; exact hC6); have HL3 := Aside0.mk (show (ws.map Quo.rw_).length ≤ c6 by rw [List.length_map]; exact hl6); clear hl6 hC6 hn6 hb)
            | (go_at_call 13; rw [← HLM.out]; (with_reducible refine (Quo.rafter_c gr g lim L A6 c6 (ws.map Quo.rw_) _ HQ.out HS.out.lt HC3.out HL3.out HLL.out HOR.out).mono ?_); rintro e wu ⟨rfl, hb⟩; rw [HSE.out]; replace HS := Aside0.mk (HS.out.below hb); replace HQ := Aside0.mk (HQ.out.below hb); replace HB := Aside0.mk (below_step HB.out hb); (try replace HC2 := Aside0.mk (Kd.C_below HC2.out hb)); (try replace HC3 := Aside0.mk (Kd.C_below HC3.out hb)); clear hb)
            | (go_at_call 14; (with_reducible refine (Quo.after_q g _ _ A5 _ c5 ws rfl _ HS.out HC2.out HL2.out HWS.out HLN.out _ s HTK.out HTS.out).mono ?_); rintro e wu ⟨rfl, hb⟩; replace HS := Aside0.mk (HS.out.below hb); replace HQ := Aside0.mk (HQ.out.below hb); replace HB := Aside0.mk (below_step HB.out hb); (try replace HC2 := Aside0.mk (Kd.C_below HC2.out hb)); (try replace HC3 := Aside0.mk (Kd.C_below HC3.out hb)); clear hb)
            | (go_at_call 15; (with_reducible refine (Quo.fits_q g _ _ A5 _ c5 ws rfl _ HS.out HC2.out HL2.out HWS.out HLN.out _ s true HTK.out HTS.out hfb).mono ?_); rintro e wu ⟨rfl, hb⟩; replace HS := Aside0.mk (HS.out.below hb); replace HQ := Aside0.mk (HQ.out.below hb); replace HB := Aside0.mk (below_step HB.out hb); (try replace HC2 := Aside0.mk (Kd.C_below HC2.out hb)); (try replace HC3 := Aside0.mk (Kd.C_below HC3.out hb)); clear hb)
            | (go_at_call 16; (with_reducible refine (Quo.take_q g _ _ A5 _ c5 ws rfl _ HS.out HC2.out HL2.out HWS.out HLN.out _ s true HTK.out HTS.out hfb).mono ?_); rintro e wu ⟨rfl, hst, hg⟩; replace HS := Aside0.mk (show Quo.Sq wu g lim (Quo.ent (Quo.wthAll L (ws.map Quo.rw_))) from hst); replace HQ := Aside0.mk (HQ.out.grown hg HNE.out); replace HB := Aside0.mk (Quo.below_grown HB.out hg HG.out); replace HC3 := Aside0.mk (Quo.CR_grown HC3.out hg HN3.out); clear hst hg HC2)
            | (go_at_call 17; rw [← HLM.out]; (with_reducible refine (Quo.rtake_c gr g lim L A6 c6 (ws.map Quo.rw_) _ HQ.out HS.out.lt HC3.out HL3.out HLL.out HOR.out).mono ?_); rintro e wu ⟨rfl, hst, hg⟩; rw [HSE.out, hfb]; rw [HSE.out] at hst; replace HS := Aside0.mk (Quo.sq_grown HS.out hg HNE.out.symm HQ.out); replace HQ := Aside0.mk (show Quo.RQ wu gr g lim (Quo.wthAll L (ws.map Quo.rw_)) by rw [if_pos HF.out] at hst; exact hst); replace HB := Aside0.mk (Quo.below_grown HB.out hg HGR.out); clear hst hg HC3)
            | (go_at_call 18; (with_reducible refine (Quo.used_q g _ _ _ HS.out s' HTU.out).mono ?_); rintro e wu ⟨rfl, hb⟩; replace HS := Aside0.mk (HS.out.below hb); replace HQ := Aside0.mk (HQ.out.below hb); replace HB := Aside0.mk (below_step HB.out hb); clear hb)
            | (go_at_call 19; (with_reducible refine (Quo.rused_c gr g lim _ _ HQ.out HLU.out HOU.out).mono ?_); rintro e wu ⟨rfl, hb⟩; rw [HSU.out]; replace HS := Aside0.mk (HS.out.below hb); replace HQ := Aside0.mk (HQ.out.below hb); replace HB := Aside0.mk (below_step HB.out hb); clear hb)
            | (go_at_call 20; (with_reducible refine (Quo.keys_q g _ _ _ HS.out _ rfl).mono ?_); rintro e wu ⟨rfl, hb⟩; replace HS := Aside0.mk (HS.out.below hb); replace HQ := Aside0.mk (HQ.out.below hb); replace HB := Aside0.mk (below_step HB.out hb); clear hb)
            | (go_at_call 21; (with_reducible refine (Quo.rkeys_c gr g lim _ _ HQ.out HLU.out HOU.out).mono ?_); rintro e wu ⟨rfl, hb⟩; replace HS := Aside0.mk (HS.out.below hb); replace HQ := Aside0.mk (HQ.out.below hb); replace HB := Aside0.mk (below_step HB.out hb); clear hb)
            | (go_at_call 22; (with_reducible refine (Quo.limit_q g _ _ _ HS.out).mono ?_); rintro e wu ⟨rfl, hb⟩; replace HS := Aside0.mk (HS.out.below hb); replace HQ := Aside0.mk (HQ.out.below hb); replace HB := Aside0.mk (below_step HB.out hb); clear hb))
          go_roundg (l2.length - (j + 1))
          case measure => have := HK.out; omega
          case rel => exact ⟨j + 1, _, by first | rfl | exact Quo.step_int j (by omega), ⟨by omega⟩, ⟨by omega⟩, HS, HQ, HB, HO', HLJ'⟩
        · have hfb : decide (s ≤ lim) = false := decide_eq_false hf
          have HF := Aside0.mk hf
          obtain ⟨s', hs'⟩ : ∃ s', s' = t := ⟨_, rfl⟩
          have HTU : Aside0 (wrap64 (Quo.total (Quo.ent L)) = s') := ⟨by rw [hs', ht]; exact HSC.out⟩
          have HSU : Aside0 (Quo.sumR L = s') := ⟨by rw [hs', ht]⟩
          have HLU := HL1
          have HOU := HOR
          clear hs' hf ht
          go_wp2_with (first
            | (go_at_call 11; (with_reducible refine (Quo.writes_c A' c' x 6 6 rfl false _ HC.out hle HOK.out (by omega) ws HWE.out).mono ?_); rintro e wu ⟨A5, c5, rfl, hl5, hC5, hb, hn5⟩; have HC2 := Aside0.mk hC5; have HL2 := Aside0.mk hl5; have HN2 : Aside0 (∀ ad, A5 = some ad → ad.block ≠ g) := ⟨fun ad e => by have := hn5 ad e; have := HS.out.lt; omega⟩; clear hl5 hC5 hn5; replace HS := Aside0.mk (HS.out.below hb); replace HQ := Aside0.mk (HQ.out.below hb); replace HB := Aside0.mk (below_step HB.out hb); clear hb)
            | (go_at_call 12; (with_reducible refine (Quo.refw_c A5 c5 ws _ HC2.out HL2.out HL6.out).mono ?_); rintro e wu ⟨A6, c6, rfl, hl6, hC6, hb, hn6⟩; have HN3 : Aside0 (∀ ad, A6 = some ad → ad.block ≠ g) := ⟨fun ad e => by have := hn6 ad e; have := HS.out.lt; omega⟩; replace HS := Aside0.mk (HS.out.below hb); replace HQ := Aside0.mk (HQ.out.below hb); replace HB := Aside0.mk (below_step HB.out hb); replace HC2 := Aside0.mk (Kd.C_below HC2.out hb); have HC3 := Aside0.mk (show Kd.C k66 wu A6 (ws.map Quo.rw_).length (ws.map Quo.rw_) by rw [List.length_map]; exact hC6); have HL3 := Aside0.mk (show (ws.map Quo.rw_).length ≤ c6 by rw [List.length_map]; exact hl6); clear hl6 hC6 hn6 hb)
            | (go_at_call 13; rw [← HLM.out]; (with_reducible refine (Quo.rafter_c gr g lim L A6 c6 (ws.map Quo.rw_) _ HQ.out HS.out.lt HC3.out HL3.out HLL.out HOR.out).mono ?_); rintro e wu ⟨rfl, hb⟩; rw [HSE.out]; replace HS := Aside0.mk (HS.out.below hb); replace HQ := Aside0.mk (HQ.out.below hb); replace HB := Aside0.mk (below_step HB.out hb); (try replace HC2 := Aside0.mk (Kd.C_below HC2.out hb)); (try replace HC3 := Aside0.mk (Kd.C_below HC3.out hb)); clear hb)
            | (go_at_call 14; (with_reducible refine (Quo.after_q g _ _ A5 _ c5 ws rfl _ HS.out HC2.out HL2.out HWS.out HLN.out _ s HTK.out HTS.out).mono ?_); rintro e wu ⟨rfl, hb⟩; replace HS := Aside0.mk (HS.out.below hb); replace HQ := Aside0.mk (HQ.out.below hb); replace HB := Aside0.mk (below_step HB.out hb); (try replace HC2 := Aside0.mk (Kd.C_below HC2.out hb)); (try replace HC3 := Aside0.mk (Kd.C_below HC3.out hb)); clear hb)
            | (go_at_call 15; (with_reducible refine (Quo.fits_q g _ _ A5 _ c5 ws rfl _ HS.out HC2.out HL2.out HWS.out HLN.out _ s false HTK.out HTS.out hfb).mono ?_); rintro e wu ⟨rfl, hb⟩; replace HS := Aside0.mk (HS.out.below hb); replace HQ := Aside0.mk (HQ.out.below hb); replace HB := Aside0.mk (below_step HB.out hb); (try replace HC2 := Aside0.mk (Kd.C_below HC2.out hb)); (try replace HC3 := Aside0.mk (Kd.C_below HC3.out hb)); clear hb)
            | (go_at_call 16; (with_reducible refine (Quo.take_q g _ _ A5 _ c5 ws rfl _ HS.out HC2.out HL2.out HWS.out HLN.out _ s false HTK.out HTS.out hfb).mono ?_); rintro e wu ⟨rfl, hst, hg⟩; replace HS := Aside0.mk (show Quo.Sq wu g lim (Quo.ent L) from hst); replace HQ := Aside0.mk (HQ.out.grown hg HNE.out); replace HB := Aside0.mk (Quo.below_grown HB.out hg HG.out); replace HC3 := Aside0.mk (Quo.CR_grown HC3.out hg HN3.out); clear hst hg HC2)
            | (go_at_call 17; rw [← HLM.out]; (with_reducible refine (Quo.rtake_c gr g lim L A6 c6 (ws.map Quo.rw_) _ HQ.out HS.out.lt HC3.out HL3.out HLL.out HOR.out).mono ?_); rintro e wu ⟨rfl, hst, hg⟩; rw [HSE.out, hfb]; rw [HSE.out] at hst; replace HS := Aside0.mk (Quo.sq_grown HS.out hg HNE.out.symm HQ.out); replace HQ := Aside0.mk (show Quo.RQ wu gr g lim L by rw [if_neg (show ¬ s ≤ lim by have := HF.out; omega)] at hst; exact hst); replace HB := Aside0.mk (Quo.below_grown HB.out hg HGR.out); clear hst hg HC3)
            | (go_at_call 18; (with_reducible refine (Quo.used_q g _ _ _ HS.out s' HTU.out).mono ?_); rintro e wu ⟨rfl, hb⟩; replace HS := Aside0.mk (HS.out.below hb); replace HQ := Aside0.mk (HQ.out.below hb); replace HB := Aside0.mk (below_step HB.out hb); clear hb)
            | (go_at_call 19; (with_reducible refine (Quo.rused_c gr g lim _ _ HQ.out HLU.out HOU.out).mono ?_); rintro e wu ⟨rfl, hb⟩; rw [HSU.out]; replace HS := Aside0.mk (HS.out.below hb); replace HQ := Aside0.mk (HQ.out.below hb); replace HB := Aside0.mk (below_step HB.out hb); clear hb)
            | (go_at_call 20; (with_reducible refine (Quo.keys_q g _ _ _ HS.out _ rfl).mono ?_); rintro e wu ⟨rfl, hb⟩; replace HS := Aside0.mk (HS.out.below hb); replace HQ := Aside0.mk (HQ.out.below hb); replace HB := Aside0.mk (below_step HB.out hb); clear hb)
            | (go_at_call 21; (with_reducible refine (Quo.rkeys_c gr g lim _ _ HQ.out HLU.out HOU.out).mono ?_); rintro e wu ⟨rfl, hb⟩; replace HS := Aside0.mk (HS.out.below hb); replace HQ := Aside0.mk (HQ.out.below hb); replace HB := Aside0.mk (below_step HB.out hb); clear hb)
            | (go_at_call 22; (with_reducible refine (Quo.limit_q g _ _ _ HS.out).mono ?_); rintro e wu ⟨rfl, hb⟩; replace HS := Aside0.mk (HS.out.below hb); replace HQ := Aside0.mk (HQ.out.below hb); replace HB := Aside0.mk (below_step HB.out hb); clear hb))
          go_roundg (l2.length - (j + 1))
          case measure => have := HK.out; omega
          case rel => exact ⟨j + 1, _, by first | rfl | exact Quo.step_int j (by omega), ⟨by omega⟩, ⟨by omega⟩, HS, HQ, HB, HOR, ⟨by have := HLJ.out; omega⟩⟩
      · by_cases d : j < l2.length
        case' pos =>
          have c1b : decide ((j : Int) < (l2.length : Int)) = true := decide_eq_true (by omega)
          have c2b : decide ((j : Int) < 30) = false := decide_eq_false (by omega)
        case' neg => have c1b : decide ((j : Int) < (l2.length : Int)) = false := decide_eq_false (by omega)
        all_goals
          go_wp2
          go_ret
          exact ⟨rfl, HB.out⟩
  | false =>
    by_cases hbad : a0 < 0 ∨ 1073741824 < a0
    · go_enter Try.func3, Try.ntmps3
      go_wp2_with (first
        | (go_at_call 8; refine (Quo.ex_c _).mono ?_; rintro e w1 ⟨rfl, hb⟩; have HB := Aside0.mk hb; clear hb)
        | (go_at_call 9; (with_reducible refine (Quo.new_bad a0 _ hbad).mono ?_); rintro e w2 ⟨rfl, hb⟩; replace HB := Aside0.mk (below_step HB.out hb); clear hb)
        | (go_at_call 10; (with_reducible refine (Quo.rnew_bad a0 _ hbad).mono ?_); rintro e w3 ⟨rfl, hb⟩; replace HB := Aside0.mk (below_step HB.out hb); clear hb))
      go_ret
      exact ⟨rfl, HB.out⟩
    · have hl0 : 0 ≤ a0 := by omega
      have hl1 : a0 ≤ 1073741824 := by omega
      clear hbad
      generalize a0 = lim at *
      go_enter Try.func3, Try.ntmps3
      go_wp2_with (first | (go_at_call 8; refine (Quo.ex_c _).mono ?_; rintro e w1 ⟨rfl, hb⟩; have HB := Aside0.mk hb; clear hb))
      go_wp2_with (first
        | (go_at_call 9; (with_reducible refine (Quo.new_q lim _ hl0 hl1).mono ?_); rintro e w2 ⟨g, rfl, hg, hst, hb⟩; have HG := Aside0.mk (Nat.le_trans HB.out.size hg); have HS := Aside0.mk hst; replace HB := Aside0.mk (below_step HB.out hb); clear hg hst hb)
        | (go_at_call 10; (with_reducible refine (Quo.rnew_c lim g _ hl0 hl1).mono ?_); rintro e w3 ⟨rfl, hq, hb⟩; have HGR := Aside0.mk HB.out.size; have HNE := Aside0.mk (Nat.ne_of_gt HS.out.lt); have HQ := Aside0.mk hq; replace HS := Aside0.mk (HS.out.below hb); replace HB := Aside0.mk (below_step HB.out hb); clear hq hb))
      obtain ⟨gr, hgr⟩ : ∃ gr, gr = w2.heap.size := ⟨_, rfl⟩
      rw [← hgr] at HGR HNE HQ
      rw [← hgr]
      clear hgr
      go_loopg [11] l2.length (fun kq v11 wr => ∃ (j : Nat) (L : List Quo.Rw), v11 = .int .i64 j ∧ Aside0 (j ≤ 30 ∧ j ≤ l2.length) ∧ Aside0 (l2.length - j ≤ kq) ∧ Aside0 (Quo.Sq wr g lim (Quo.ent L)) ∧ Aside0 (Quo.RQ wr gr g lim L) ∧ Aside0 (Below w.heap.size w wr) ∧ Aside0 (Quo.okR L) ∧ Aside0 (L.length ≤ 6 * j))
      case atStart => exact ⟨0, [], rfl, ⟨by omega⟩, ⟨by omega⟩, HS, HQ, HB, ⟨fun y hy => by cases hy⟩, ⟨by simp⟩⟩
      case round =>
        obtain ⟨j, L, rfl, HJ, HK, HS, HQ, HB, HOR, HLJ⟩ := hrel
        by_cases c1 : j < l2.length ∧ j < 30
        · obtain ⟨c1, c3⟩ := c1
          have c1b : decide ((j : Int) < (l2.length : Int)) = true := decide_eq_true (by omega)
          have c2b : decide ((j : Int) < 30) = true := decide_eq_true (by omega)
          have c0b : decide (0 ≤ (j : Int)) = true := decide_eq_true (by omega)
          obtain ⟨ad, x, A', c', e0, hx, hcell, hle, hC⟩ := Quo.at_row HR.out j c1
          cases e0
          replace hcell := (HB.out.cell (World.block_lt_of_cell? w _ hcell)).trans hcell
          have HC := Aside0.mk (Kd.C_below hC HB.out)
          have HOK := Aside0.mk (HW.out x (List.mem_of_getElem? hx))
          have HWS := Aside0.mk (Quo.wrs_small HOK.out 6 false)
          have hwl := Quo.wrs_most x 6 false
          clear hx hC
          generalize hws : Pure.wrs 6 false x [] = ws at *
          have HWE := Aside0.mk hws
          have hlj := HLJ.out
          have hel := Quo.ent_len L
          have HL6 := Aside0.mk (show ws.length ≤ 1000 by omega)
          have HLM := Aside0.mk (show (ws.map Quo.rw_).length = ws.length from List.length_map _)
          have HLL := Aside0.mk (show L.length + (ws.map Quo.rw_).length ≤ 1000000 by rw [List.length_map]; omega)
          have HLN := Aside0.mk (show (Quo.ent L).length + ws.length ≤ 1000000000 by omega)
          have HTK := Aside0.mk (Quo.ent_taken ws L HOR.out)
          have HO' := Aside0.mk (Quo.wthAll_right (ws.map Quo.rw_) HOR.out)
          have hwa := Quo.wthAll_length (ws.map Quo.rw_) L
          rw [List.length_map] at hwa
          have hsb := Quo.sumR_bound _ HO'.out
          have hsc := Quo.sumR_bound L HOR.out
          have HSC := Aside0.mk (show wrap64 (Quo.total (Quo.ent L)) = Quo.sumR L by rw [Quo.ent_total L HOR.out, Pure.wrap64_id (by omega) (by omega)])
          have HSD := Aside0.mk (show wrap64 (Quo.total (Quo.ent (Quo.wthAll L (ws.map Quo.rw_)))) = Quo.sumR (Quo.wthAll L (ws.map Quo.rw_)) by rw [Quo.ent_total _ HO'.out, Pure.wrap64_id (by omega) (by omega)])
          have HLJ' := Aside0.mk (show (Quo.wthAll L (ws.map Quo.rw_)).length ≤ 6 * (j + 1) by omega)
          have HL1 := Aside0.mk (show L.length ≤ 1000000 by omega)
          have HL2' := Aside0.mk (show (Quo.wthAll L (ws.map Quo.rw_)).length ≤ 1000000 by omega)
          obtain ⟨s, hs⟩ : ∃ s, s = Quo.sumR (Quo.wthAll L (ws.map Quo.rw_)) := ⟨_, rfl⟩
          have HSE := Aside0.mk hs.symm
          have HTS : Aside0 (wrap64 (Quo.total (Quo.ent (Quo.wthAll L (ws.map Quo.rw_)))) = s) := ⟨by rw [HSD.out, hs]⟩
          obtain ⟨t, ht⟩ : ∃ t, t = Quo.sumR L := ⟨_, rfl⟩
          clear hws hwl hlj hel hwa hsb hsc hs
          by_cases hf : s ≤ lim
          · have hfb : decide (s ≤ lim) = true := decide_eq_true hf
            have HF := Aside0.mk hf
            obtain ⟨s', hs'⟩ : ∃ s', s' = s := ⟨_, rfl⟩
            have HTU : Aside0 (wrap64 (Quo.total (Quo.ent (Quo.wthAll L (ws.map Quo.rw_)))) = s') := ⟨by rw [hs']; exact HTS.out⟩
            have HSU : Aside0 (Quo.sumR (Quo.wthAll L (ws.map Quo.rw_)) = s') := ⟨by rw [hs']; exact HSE.out⟩
            have HLU := HL2'
            have HOU := HO'
            clear hs' hf ht
            go_wp2_with (first
              | (go_at_call 11; (with_reducible refine (Quo.writes_c A' c' x 6 6 rfl false _ HC.out hle HOK.out (by omega) ws HWE.out).mono ?_); rintro e wu ⟨A5, c5, rfl, hl5, hC5, hb, hn5⟩; have HC2 := Aside0.mk hC5; have HL2 := Aside0.mk hl5; have HN2 : Aside0 (∀ ad, A5 = some ad → ad.block ≠ g) := ⟨fun ad e => by have := hn5 ad e; have := HS.out.lt; omega⟩; clear hl5 hC5 hn5; replace HS := Aside0.mk (HS.out.below hb); replace HQ := Aside0.mk (HQ.out.below hb); replace HB := Aside0.mk (below_step HB.out hb); clear hb)
              | (go_at_call 12; (with_reducible refine (Quo.refw_c A5 c5 ws _ HC2.out HL2.out HL6.out).mono ?_); rintro e wu ⟨A6, c6, rfl, hl6, hC6, hb, hn6⟩; have HN3 : Aside0 (∀ ad, A6 = some ad → ad.block ≠ g) := ⟨fun ad e => by have := hn6 ad e; have := HS.out.lt; omega⟩; replace HS := Aside0.mk (HS.out.below hb); replace HQ := Aside0.mk (HQ.out.below hb); replace HB := Aside0.mk (below_step HB.out hb); replace HC2 := Aside0.mk (Kd.C_below HC2.out hb); have HC3 := Aside0.mk (show Kd.C k66 wu A6 (ws.map Quo.rw_).length (ws.map Quo.rw_) by rw [List.length_map]; exact hC6); have HL3 := Aside0.mk (show (ws.map Quo.rw_).length ≤ c6 by rw [List.length_map]; exact hl6); clear hl6 hC6 hn6 hb)
              | (go_at_call 13; rw [← HLM.out]; (with_reducible refine (Quo.rafter_c gr g lim L A6 c6 (ws.map Quo.rw_) _ HQ.out HS.out.lt HC3.out HL3.out HLL.out HOR.out).mono ?_); rintro e wu ⟨rfl, hb⟩; rw [HSE.out]; replace HS := Aside0.mk (HS.out.below hb); replace HQ := Aside0.mk (HQ.out.below hb); replace HB := Aside0.mk (below_step HB.out hb); (try replace HC2 := Aside0.mk (Kd.C_below HC2.out hb)); (try replace HC3 := Aside0.mk (Kd.C_below HC3.out hb)); clear hb)
              | (go_at_call 14; (with_reducible refine (Quo.after_q g _ _ A5 _ c5 ws rfl _ HS.out HC2.out HL2.out HWS.out HLN.out _ s HTK.out HTS.out).mono ?_); rintro e wu ⟨rfl, hb⟩; replace HS := Aside0.mk (HS.out.below hb); replace HQ := Aside0.mk (HQ.out.below hb); replace HB := Aside0.mk (below_step HB.out hb); (try replace HC2 := Aside0.mk (Kd.C_below HC2.out hb)); (try replace HC3 := Aside0.mk (Kd.C_below HC3.out hb)); clear hb)
              | (go_at_call 15; (with_reducible refine (Quo.fits_q g _ _ A5 _ c5 ws rfl _ HS.out HC2.out HL2.out HWS.out HLN.out _ s true HTK.out HTS.out hfb).mono ?_); rintro e wu ⟨rfl, hb⟩; replace HS := Aside0.mk (HS.out.below hb); replace HQ := Aside0.mk (HQ.out.below hb); replace HB := Aside0.mk (below_step HB.out hb); (try replace HC2 := Aside0.mk (Kd.C_below HC2.out hb)); (try replace HC3 := Aside0.mk (Kd.C_below HC3.out hb)); clear hb)
              | (go_at_call 16; (with_reducible refine (Quo.take_q g _ _ A5 _ c5 ws rfl _ HS.out HC2.out HL2.out HWS.out HLN.out _ s true HTK.out HTS.out hfb).mono ?_); rintro e wu ⟨rfl, hst, hg⟩; replace HS := Aside0.mk (show Quo.Sq wu g lim (Quo.ent (Quo.wthAll L (ws.map Quo.rw_))) from hst); replace HQ := Aside0.mk (HQ.out.grown hg HNE.out); replace HB := Aside0.mk (Quo.below_grown HB.out hg HG.out); replace HC3 := Aside0.mk (Quo.CR_grown HC3.out hg HN3.out); clear hst hg HC2)
              | (go_at_call 17; rw [← HLM.out]; (with_reducible refine (Quo.rtake_c gr g lim L A6 c6 (ws.map Quo.rw_) _ HQ.out HS.out.lt HC3.out HL3.out HLL.out HOR.out).mono ?_); rintro e wu ⟨rfl, hst, hg⟩; rw [HSE.out, hfb]; rw [HSE.out] at hst; replace HS := Aside0.mk (Quo.sq_grown HS.out hg HNE.out.symm HQ.out); replace HQ := Aside0.mk (show Quo.RQ wu gr g lim (Quo.wthAll L (ws.map Quo.rw_)) by rw [if_pos HF.out] at hst; exact hst); replace HB := Aside0.mk (Quo.below_grown HB.out hg HGR.out); clear hst hg HC3)
              | (go_at_call 18; (with_reducible refine (Quo.used_q g _ _ _ HS.out s' HTU.out).mono ?_); rintro e wu ⟨rfl, hb⟩; replace HS := Aside0.mk (HS.out.below hb); replace HQ := Aside0.mk (HQ.out.below hb); replace HB := Aside0.mk (below_step HB.out hb); clear hb)
              | (go_at_call 19; (with_reducible refine (Quo.rused_c gr g lim _ _ HQ.out HLU.out HOU.out).mono ?_); rintro e wu ⟨rfl, hb⟩; rw [HSU.out]; replace HS := Aside0.mk (HS.out.below hb); replace HQ := Aside0.mk (HQ.out.below hb); replace HB := Aside0.mk (below_step HB.out hb); clear hb)
              | (go_at_call 20; (with_reducible refine (Quo.keys_q g _ _ _ HS.out _ rfl).mono ?_); rintro e wu ⟨rfl, hb⟩; replace HS := Aside0.mk (HS.out.below hb); replace HQ := Aside0.mk (HQ.out.below hb); replace HB := Aside0.mk (below_step HB.out hb); clear hb)
              | (go_at_call 21; (with_reducible refine (Quo.rkeys_c gr g lim _ _ HQ.out HLU.out HOU.out).mono ?_); rintro e wu ⟨rfl, hb⟩; replace HS := Aside0.mk (HS.out.below hb); replace HQ := Aside0.mk (HQ.out.below hb); replace HB := Aside0.mk (below_step HB.out hb); clear hb)
              | (go_at_call 22; (with_reducible refine (Quo.limit_q g _ _ _ HS.out).mono ?_); rintro e wu ⟨rfl, hb⟩; replace HS := Aside0.mk (HS.out.below hb); replace HQ := Aside0.mk (HQ.out.below hb); replace HB := Aside0.mk (below_step HB.out hb); clear hb))
            go_roundg (l2.length - (j + 1))
            case measure => have := HK.out; omega
            case rel => exact ⟨j + 1, _, by first | rfl | exact Quo.step_int j (by omega), ⟨by omega⟩, ⟨by omega⟩, HS, HQ, HB, HO', HLJ'⟩
          · have hfb : decide (s ≤ lim) = false := decide_eq_false hf
            have HF := Aside0.mk hf
            obtain ⟨s', hs'⟩ : ∃ s', s' = t := ⟨_, rfl⟩
            have HTU : Aside0 (wrap64 (Quo.total (Quo.ent L)) = s') := ⟨by rw [hs', ht]; exact HSC.out⟩
            have HSU : Aside0 (Quo.sumR L = s') := ⟨by rw [hs', ht]⟩
            have HLU := HL1
            have HOU := HOR
            clear hs' hf ht
            go_wp2_with (first
              | (go_at_call 11; (with_reducible refine (Quo.writes_c A' c' x 6 6 rfl false _ HC.out hle HOK.out (by omega) ws HWE.out).mono ?_); rintro e wu ⟨A5, c5, rfl, hl5, hC5, hb, hn5⟩; have HC2 := Aside0.mk hC5; have HL2 := Aside0.mk hl5; have HN2 : Aside0 (∀ ad, A5 = some ad → ad.block ≠ g) := ⟨fun ad e => by have := hn5 ad e; have := HS.out.lt; omega⟩; clear hl5 hC5 hn5; replace HS := Aside0.mk (HS.out.below hb); replace HQ := Aside0.mk (HQ.out.below hb); replace HB := Aside0.mk (below_step HB.out hb); clear hb)
              | (go_at_call 12; (with_reducible refine (Quo.refw_c A5 c5 ws _ HC2.out HL2.out HL6.out).mono ?_); rintro e wu ⟨A6, c6, rfl, hl6, hC6, hb, hn6⟩; have HN3 : Aside0 (∀ ad, A6 = some ad → ad.block ≠ g) := ⟨fun ad e => by have := hn6 ad e; have := HS.out.lt; omega⟩; replace HS := Aside0.mk (HS.out.below hb); replace HQ := Aside0.mk (HQ.out.below hb); replace HB := Aside0.mk (below_step HB.out hb); replace HC2 := Aside0.mk (Kd.C_below HC2.out hb); have HC3 := Aside0.mk (show Kd.C k66 wu A6 (ws.map Quo.rw_).length (ws.map Quo.rw_) by rw [List.length_map]; exact hC6); have HL3 := Aside0.mk (show (ws.map Quo.rw_).length ≤ c6 by rw [List.length_map]; exact hl6); clear hl6 hC6 hn6 hb)
              | (go_at_call 13; rw [← HLM.out]; (with_reducible refine (Quo.rafter_c gr g lim L A6 c6 (ws.map Quo.rw_) _ HQ.out HS.out.lt HC3.out HL3.out HLL.out HOR.out).mono ?_); rintro e wu ⟨rfl, hb⟩; rw [HSE.out]; replace HS := Aside0.mk (HS.out.below hb); replace HQ := Aside0.mk (HQ.out.below hb); replace HB := Aside0.mk (below_step HB.out hb); (try replace HC2 := Aside0.mk (Kd.C_below HC2.out hb)); (try replace HC3 := Aside0.mk (Kd.C_below HC3.out hb)); clear hb)
              | (go_at_call 14; (with_reducible refine (Quo.after_q g _ _ A5 _ c5 ws rfl _ HS.out HC2.out HL2.out HWS.out HLN.out _ s HTK.out HTS.out).mono ?_); rintro e wu ⟨rfl, hb⟩; replace HS := Aside0.mk (HS.out.below hb); replace HQ := Aside0.mk (HQ.out.below hb); replace HB := Aside0.mk (below_step HB.out hb); (try replace HC2 := Aside0.mk (Kd.C_below HC2.out hb)); (try replace HC3 := Aside0.mk (Kd.C_below HC3.out hb)); clear hb)
              | (go_at_call 15; (with_reducible refine (Quo.fits_q g _ _ A5 _ c5 ws rfl _ HS.out HC2.out HL2.out HWS.out HLN.out _ s false HTK.out HTS.out hfb).mono ?_); rintro e wu ⟨rfl, hb⟩; replace HS := Aside0.mk (HS.out.below hb); replace HQ := Aside0.mk (HQ.out.below hb); replace HB := Aside0.mk (below_step HB.out hb); (try replace HC2 := Aside0.mk (Kd.C_below HC2.out hb)); (try replace HC3 := Aside0.mk (Kd.C_below HC3.out hb)); clear hb)
              | (go_at_call 16; (with_reducible refine (Quo.take_q g _ _ A5 _ c5 ws rfl _ HS.out HC2.out HL2.out HWS.out HLN.out _ s false HTK.out HTS.out hfb).mono ?_); rintro e wu ⟨rfl, hst, hg⟩; replace HS := Aside0.mk (show Quo.Sq wu g lim (Quo.ent L) from hst); replace HQ := Aside0.mk (HQ.out.grown hg HNE.out); replace HB := Aside0.mk (Quo.below_grown HB.out hg HG.out); replace HC3 := Aside0.mk (Quo.CR_grown HC3.out hg HN3.out); clear hst hg HC2)
              | (go_at_call 17; rw [← HLM.out]; (with_reducible refine (Quo.rtake_c gr g lim L A6 c6 (ws.map Quo.rw_) _ HQ.out HS.out.lt HC3.out HL3.out HLL.out HOR.out).mono ?_); rintro e wu ⟨rfl, hst, hg⟩; rw [HSE.out, hfb]; rw [HSE.out] at hst; replace HS := Aside0.mk (Quo.sq_grown HS.out hg HNE.out.symm HQ.out); replace HQ := Aside0.mk (show Quo.RQ wu gr g lim L by rw [if_neg (show ¬ s ≤ lim by have := HF.out; omega)] at hst; exact hst); replace HB := Aside0.mk (Quo.below_grown HB.out hg HGR.out); clear hst hg HC3)
              | (go_at_call 18; (with_reducible refine (Quo.used_q g _ _ _ HS.out s' HTU.out).mono ?_); rintro e wu ⟨rfl, hb⟩; replace HS := Aside0.mk (HS.out.below hb); replace HQ := Aside0.mk (HQ.out.below hb); replace HB := Aside0.mk (below_step HB.out hb); clear hb)
              | (go_at_call 19; (with_reducible refine (Quo.rused_c gr g lim _ _ HQ.out HLU.out HOU.out).mono ?_); rintro e wu ⟨rfl, hb⟩; rw [HSU.out]; replace HS := Aside0.mk (HS.out.below hb); replace HQ := Aside0.mk (HQ.out.below hb); replace HB := Aside0.mk (below_step HB.out hb); clear hb)
              | (go_at_call 20; (with_reducible refine (Quo.keys_q g _ _ _ HS.out _ rfl).mono ?_); rintro e wu ⟨rfl, hb⟩; replace HS := Aside0.mk (HS.out.below hb); replace HQ := Aside0.mk (HQ.out.below hb); replace HB := Aside0.mk (below_step HB.out hb); clear hb)
              | (go_at_call 21; (with_reducible refine (Quo.rkeys_c gr g lim _ _ HQ.out HLU.out HOU.out).mono ?_); rintro e wu ⟨rfl, hb⟩; replace HS := Aside0.mk (HS.out.below hb); replace HQ := Aside0.mk (HQ.out.below hb); replace HB := Aside0.mk (below_step HB.out hb); clear hb)
              | (go_at_call 22; (with_reducible refine (Quo.limit_q g _ _ _ HS.out).mono ?_); rintro e wu ⟨rfl, hb⟩; replace HS := Aside0.mk (HS.out.below hb); replace HQ := Aside0.mk (HQ.out.below hb); replace HB := Aside0.mk (below_step HB.out hb); clear hb))
            go_roundg (l2.length - (j + 1))
            case measure => have := HK.out; omega
            case rel => exact ⟨j + 1, _, by first | rfl | exact Quo.step_int j (by omega), ⟨by omega⟩, ⟨by omega⟩, HS, HQ, HB, HOR, ⟨by have := HLJ.out; omega⟩⟩
        · by_cases d : j < l2.length
          case' pos =>
            have c1b : decide ((j : Int) < (l2.length : Int)) = true := decide_eq_true (by omega)
            have c2b : decide ((j : Int) < 30) = false := decide_eq_false (by omega)
          case' neg => have c1b : decide ((j : Int) < (l2.length : Int)) = false := decide_eq_false (by omega)
          all_goals
            go_wp2
            go_ret
            exact ⟨rfl, HB.out⟩
end Go.Proofs.Ytbjpfgmmmdfbeaa.Q

set_option linter.unusedVariables false
namespace Go.Proofs.Ytbjpfgmmmdfbeaa.Q
open Go.RowKit Go.Proofs.Ytbjpfgmmmdfbeaa.Q Go.Proofs.YtbjpfgmmmdfbeaaW.PrintWords Go.Proofs.YtbjpfgmmmdfbeaaW.PrintLast Go.Proofs.YtbjpfgmmmdfbeaaW.PrintMore
def tenementlaw13_QuotaPlays.Pure : Prop := ∀ (x0 : Int) (x1 : Bool) (x2 : List (List (S64))), ((Lit.int .i64 x0).wf = true) → ((∀ x_ ∈ x2, (∀ x__ ∈ x_, wf64 x__) ∧ x_.length * 64 ≤ 140737488351232) ∧ x2.length * 24 ≤ 140737488351232) → tenementlaw13_QuotaPlays.f x0 x1 x2 = some true
end Go.Proofs.Ytbjpfgmmmdfbeaa.Q

/- Writes are taken, or refused, list by list, as the document's answer says: for every limit, and the first 30 lists of parts of writes. -/
set_option linter.unusedVariables false
set_option linter.unusedSimpArgs false
namespace Go.Proofs.Ytbjpfgmmmdfbeaa.Pure
open Go.RowKit Go.Proofs.Ytbjpfgmmmdfbeaa.Q Go.Proofs.YtbjpfgmmmdfbeaaW.PrintWords Go.Proofs.YtbjpfgmmmdfbeaaW.PrintLast Go.Proofs.YtbjpfgmmmdfbeaaW.PrintMore
theorem QuotaPlays : tenementlaw13_QuotaPlays.Pure := by
  intro a n l ha hl
  have hok : ∀ x ∈ l, Quo.okL x := fun x hx => ⟨fun p hp => by
    have h := (hl.1 x hx).1 p hp
    exact ⟨h.1.1, h.1.2.1, h.1.2.2.1⟩, by have h := (hl.1 x hx).2; omega⟩
  unfold tenementlaw13_QuotaPlays.f
  rw [if_pos ⟨ha, hok⟩]
end Go.Proofs.Ytbjpfgmmmdfbeaa.Pure
