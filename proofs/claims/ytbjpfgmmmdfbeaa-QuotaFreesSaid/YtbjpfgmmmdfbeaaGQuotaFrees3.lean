import Derived.Test.YtbjpfgmmmdfbeaaGQuotaFrees0
import Derived.Test.YtbjpfgmmmdfbeaaGQuotaFrees2
import Derived.Test.YtbjpfgmmmdfbeaaQx0
import Derived.Deep.RegionHeld3
import Derived.Test.YtbjpfgmmmdfbeaaGQuotaFrees1
/- Writes and transactions as the laws make them. -/
set_option linter.unusedVariables false
set_option linter.unusedSimpArgs false
namespace Go.Proofs.Ytbjpfgmmmdfbeaa.Pure
open Go.RowKit Go.Proofs.Ytbjpfgmmmdfbeaa.Q Go.Proofs.YtbjpfgmmmdfbeaaW.PrintWords Go.Proofs.YtbjpfgmmmdfbeaaW.PrintLast Go.Proofs.YtbjpfgmmmdfbeaaW.PrintMore Go.Proofs.Ytbjpfgmmmdfbeaa.Plain

abbrev Wr := S45
abbrev Pt := S64
/-- A write whose texts are not too long. -/
def fits (x : Wr) : Prop := x.f0.size ≤ 140737488351232 ∧ x.f1.size ≤ 140737488351232 ∧ x.f2.size ≤ 140737488351232
theorem str_size (l : List Int) : (strOfNums l).size = l.length := by
  unfold strOfNums
  simp [ByteArray.size]
/-- What a part of a deal is. -/
def wrt (p : Pt) (own : Bool) : Wr :=
  if own = true then (if 224 ≤ p.f2 then ⟨strOfNums [98, IntKind.u8.wrap (48 + Int.tmod p.f2 2)], strOfNums [IntKind.u8.wrap (97 + Int.tmod (IntKind.u8.wrap (Int.tdiv p.f2 2)) 4)], ⟨#[]⟩, true⟩
    else ⟨strOfNums [98, IntKind.u8.wrap (48 + Int.tmod p.f2 2)], strOfNums [IntKind.u8.wrap (97 + Int.tmod (IntKind.u8.wrap (Int.tdiv p.f2 2)) 4)], p.f0.f2.extract 0 (min p.f0.f2.size 8), false⟩)
  else p.f0
theorem wrt_f (p : Pt) (own : Bool) (h : fits p.f0) : tenementlaw13_Put_write.f p.f0.f0 p.f0.f1 p.f0.f2 p.f0.f3 own p.f2 = some ((wrt p own).f0, (wrt p own).f1, (wrt p own).f2, (wrt p own).f3) := by
  unfold tenementlaw13_Put_write.f wrt
  cases own with
  | true =>
    rw [if_pos rfl, if_pos rfl, if_pos (by have := h.2.2; omega)]
    by_cases c : 224 ≤ p.f2
    · rw [if_pos c, if_pos c]
    · rw [if_neg c, if_neg c]
  | false => rw [if_neg (by simp), if_neg (by simp)]
theorem wrt_fits (p : Pt) (own : Bool) (h : fits p.f0) : fits (wrt p own) := by
  unfold wrt
  cases own with
  | true =>
    rw [if_pos rfl]
    have z : (⟨#[]⟩ : ByteArray).size = 0 := rfl
    by_cases c : 224 ≤ p.f2
    · rw [if_pos c]
      refine ⟨?_, ?_, ?_⟩
      · show (strOfNums _).size ≤ _; rw [str_size]; simp
      · show (strOfNums _).size ≤ _; rw [str_size]; simp
      · show (⟨#[]⟩ : ByteArray).size ≤ _; omega
    · rw [if_neg c]
      refine ⟨?_, ?_, ?_⟩
      · show (strOfNums _).size ≤ _; rw [str_size]; simp
      · show (strOfNums _).size ≤ _; rw [str_size]; simp
      · show (ByteArray.extract _ _ _).size ≤ _; rw [ByteArray.size_extract]; omega
  | false => rw [if_neg (by simp)]; exact h
/-- Do two writes stand at one key? -/
def same (w y : Wr) : Bool := decide (y.f0 = w.f0) && decide (y.f1 = w.f1)
def wrs (most : Nat) (whole : Bool) : List Pt → List Wr → List Wr
  | [], out => out
  | p :: ps, out => if out.length < most then (if (whole && out.any (same (wrt p (whole || p.f1)))) = true then wrs most whole ps out else wrs most whole ps (out ++ [wrt p (whole || p.f1)])) else out
theorem wrs_len (most : Nat) (whole : Bool) : ∀ l out, out.length ≤ most → (wrs most whole l out).length ≤ most
  | [], out, h => h
  | p :: ps, out, h => by
    unfold wrs
    by_cases c : out.length < most
    · rw [if_pos c]
      split
      · exact wrs_len most whole ps out h
      · exact wrs_len most whole ps _ (by simp; omega)
    · rw [if_neg c]; exact h
theorem wrs_all (most : Nat) (whole : Bool) (Q : Wr → Prop) : ∀ l out, (∀ p ∈ l, Q (wrt p (whole || p.f1))) → (∀ x ∈ out, Q x) → ∀ x ∈ wrs most whole l out, Q x
  | [], out, _, h => h
  | p :: ps, out, hl, h => by
    unfold wrs
    have hl' : ∀ q ∈ ps, Q (wrt q (whole || q.f1)) := fun q hq => hl q (by simp [hq])
    split
    · split
      · exact wrs_all most whole Q ps out hl' h
      · refine wrs_all most whole Q ps _ hl' (fun x hx => ?_)
        rcases List.mem_append.1 hx with hx | hx
        · exact h x hx
        · rw [List.mem_singleton.1 hx]; exact hl p (by simp)
    · exact h
theorem idx (i : Nat) (h : i ≤ 4611686018427387904) : wrap64 ((i : Int) + 1) = ((i + 1 : Nat) : Int) := by
  rw [wrap64_id (by omega) (by omega)]
  omega
theorem rdW (l : List Wr) (j : Nat) (h : j < l.length) : rd_T45 l (j : Int) = l[j] := by
  unfold rd_T45
  rw [Int.toNat_natCast, List.getD_eq_getElem?_getD, List.getElem?_eq_getElem h]
  rfl
theorem rdP (l : List Pt) (j : Nat) (h : j < l.length) : rd_T64 l (j : Int) = l[j] := by
  unfold rd_T64
  rw [Int.toNat_natCast, List.getD_eq_getElem?_getD, List.getElem?_eq_getElem h]
  rfl
theorem wr_l1 (l : List Pt) (most : Int) (whole : Bool) (out : List Wr) (i : Int) (w : Wr) (h7 : out.length ≤ 1000) (K : Nat) : ∀ d j fl, j + d = out.length →
    tenementlaw13_writes.l1 (K + d + 1) l most whole out i fl (j : Int) w.f0 w.f1 w.f2 w.f3 =
      if (whole && (fl || (out.drop j).any (same w))) = true then tenementlaw13_writes.l0 K l most whole out (wrap64 (i + 1)) else tenementlaw13_writes.l0 K l most whole (out ++ [w]) (wrap64 (i + 1)) := by
  intro d
  induction d with
  | zero =>
    intro j fl hj
    have e : out.drop j = [] := List.drop_eq_nil_of_le (by omega)
    rw [Nat.add_zero, tenementlaw13_writes.l1, if_neg (by omega), e, List.any_nil, Bool.or_false]
    cases whole with
    | true =>
      rw [if_pos rfl]
      cases fl with
      | true => rw [if_pos rfl, if_pos (by rfl)]
      | false => rw [if_neg (by simp), if_pos (by omega), if_neg (by simp)]
    | false => rw [if_neg (by simp), if_pos (by omega), if_neg (by simp)]
  | succ d ih =>
    intro j fl hj
    have hlt : j < out.length := by omega
    have e : out.drop j = out[j] :: out.drop (j + 1) := List.drop_eq_getElem_cons hlt
    rw [show K + (d + 1) + 1 = (K + d + 1) + 1 by omega, tenementlaw13_writes.l1, if_pos (by omega), idx j (by omega), e, List.any_cons]
    cases fl with
    | true =>
      rw [if_pos rfl, ih (j + 1) true (by omega)]
      simp only [Bool.true_or]
    | false =>
      rw [if_neg (by simp), if_pos (by omega), rdW out j hlt, Bool.false_or]
      by_cases c : (out[j].f0).toList = w.f0.toList
      · rw [if_pos c, ih (j + 1) _ (by omega)]
        have c0 := toList_iff.1 c
        have hs : ((out[j].f1).toList == w.f1.toList) = same w out[j] := by
          unfold same
          rw [decide_eq_true c0, Bool.true_and]
          by_cases c1 : out[j].f1 = w.f1
          · rw [decide_eq_true c1, c1]; simp
          · rw [decide_eq_false c1]
            exact beq_eq_false_iff_ne.2 (fun h => c1 (toList_iff.1 h))
        rw [hs]
      · rw [if_neg c, ih (j + 1) _ (by omega)]
        have hs : same w out[j] = false := by
          unfold same
          rw [decide_eq_false (fun h => c (by rw [h])), Bool.false_and]
        rw [hs, Bool.false_or]
theorem wr_l0 (l : List Pt) (most : Nat) (hm : most ≤ 100) (whole : Bool) (hl : ∀ p ∈ l, fits p.f0) (hz : l.length ≤ 4611686018427387904) : ∀ d i (out : List Wr) K, i + d = l.length → out.length ≤ most → (d + 1) * (most + 5) ≤ K →
    tenementlaw13_writes.l0 K l (most : Int) whole out (i : Int) = some (wrs most whole (l.drop i) out) := by
  intro d
  induction d with
  | zero =>
    intro i out K hi ho hK
    obtain ⟨K, rfl⟩ : ∃ m, K = m + 2 := ⟨K - 2, by omega⟩
    have e : l.drop i = [] := List.drop_eq_nil_of_le (by omega)
    rw [tenementlaw13_writes.l0, if_neg (by omega), tenementlaw13_writes.j1, if_neg (by simp), e]
    rfl
  | succ d ih =>
    intro i out K hi ho hK
    have hlt : i < l.length := by omega
    have e : l.drop i = l[i] :: l.drop (i + 1) := List.drop_eq_getElem_cons hlt
    have hK' : (d + 1) * (most + 5) + (most + 5) ≤ K := by
      rw [show (d + 1 + 1) * (most + 5) = (d + 1) * (most + 5) + (most + 5) by rw [Nat.add_mul, Nat.one_mul]] at hK
      exact hK
    have hf : fits l[i].f0 := hl _ (List.getElem_mem _)
    rw [e]
    unfold wrs
    by_cases c : out.length < most
    · rw [if_pos c]
      obtain ⟨m, hm'⟩ : ∃ m, K = (m + out.length + 1) + 3 ∧ (d + 1) * (most + 5) ≤ m := ⟨K - out.length - 4, by omega, by omega⟩
      rw [hm'.1, tenementlaw13_writes.l0, if_pos (by omega), decide_eq_true (by omega : (out.length : Int) < (most : Int)), tenementlaw13_writes.j1, if_pos rfl, if_pos (by omega), if_pos (by omega), rdP l i hlt]
      have key : ∀ own : Bool, own = (whole || l[i].f1) → tenementlaw13_writes.j2 (m + out.length + 1 + 1) l (most : Int) whole out (i : Int) l[i].f0.f0 l[i].f0.f1 l[i].f0.f2 l[i].f0.f3 own l[i].f2 =
          some (if (whole && out.any (same (wrt l[i] (whole || l[i].f1)))) = true then wrs most whole (l.drop (i + 1)) out else wrs most whole (l.drop (i + 1)) (out ++ [wrt l[i] (whole || l[i].f1)])) := by
        intro own ho'
        rw [tenementlaw13_writes.j2, wrt_f _ _ hf, Option.bind_some]
        show tenementlaw13_writes.l1 (m + out.length + 1) l (most : Int) whole out (i : Int) false 0 (wrt l[i] own).f0 (wrt l[i] own).f1 (wrt l[i] own).f2 (wrt l[i] own).f3 = _
        have h1 := wr_l1 l (most : Int) whole out (i : Int) (wrt l[i] own) (by omega) m out.length 0 false (by omega)
        rw [show ((0 : Nat) : Int) = 0 from rfl] at h1
        rw [h1, List.drop_zero, Bool.false_or, idx i (by omega), ho']
        split
        · rw [ih (i + 1) out m (by omega) ho hm'.2]
        · rw [ih (i + 1) _ m (by omega) (by simp; omega) hm'.2]
      cases whole with
      | true =>
        rw [if_pos rfl, key true rfl]
      | false =>
        rw [if_neg (by simp), key _ (by simp)]
    · rw [if_neg c]
      obtain ⟨m, rfl⟩ : ∃ m, K = m + 2 := ⟨K - 2, by omega⟩
      rw [tenementlaw13_writes.l0, if_pos (by omega), decide_eq_false (by omega : ¬ (out.length : Int) < (most : Int)), tenementlaw13_writes.j1, if_neg (by simp)]
theorem writes_f (l : List Pt) (most : Nat) (hm : most ≤ 100) (whole : Bool) (hl : ∀ p ∈ l, fits p.f0) (hz : l.length ≤ 4611686018427387904) {K : Nat} (hK : (l.length + 1) * (most + 5) ≤ K) :
    tenementlaw13_writes.f K l (most : Int) whole = some (wrs most whole l []) := by
  unfold tenementlaw13_writes.f
  have := wr_l0 l most hm whole hl hz l.length 0 [] K (by omega) (by simp) hK
  rw [show ((0 : Nat) : Int) = 0 from rfl, List.drop_zero] at this
  exact this
end Go.Proofs.Ytbjpfgmmmdfbeaa.Pure

/- What the laws of the chapter want besides: the writes that they make, what sums are. -/
set_option linter.unusedVariables false
set_option linter.unusedSimpArgs false
namespace Go.Proofs.Ytbjpfgmmmdfbeaa.Quo
open Go Go.RowKit Go.WideShapes Go.Proofs.Ytbjpfgmmmdfbeaa.Q Go.Proofs.YtbjpfgmmmdfbeaaW.PrintWords Go.Proofs.YtbjpfgmmmdfbeaaW.PrintLast Go.Proofs.YtbjpfgmmmdfbeaaW.PrintMore
open Go.Maps (Keyed)
open Go.Proofs.Ytbjpfgmmmdfbeaa.Pure (wrap64_id toList_data toList_iff wrs fits)
abbrev Pt := S64
/-- What came in may be: no text is too long. -/
def okL (l : List Pt) : Prop := (∀ p ∈ l, fits p.f0) ∧ l.length ≤ 140737488351232
theorem wrs_small {l : List Pt} (h : okL l) (most : Nat) (whole : Bool) : small (wrs most whole l []) := by
  intro x hx
  have hf := Pure.wrs_all most whole fits l [] (fun p hp => Pure.wrt_fits p _ (h.1 p hp)) (fun x hx => by cases hx) x hx
  exact ⟨by have := hf.1; omega, by have := hf.2.1; omega⟩
theorem wrs_most (l : List Pt) (most : Nat) (whole : Bool) : (wrs most whole l []).length ≤ most := Pure.wrs_len most whole l [] (by simp)
theorem writes_c (A : Option Addr) (c : Nat) (l : List Pt) (most : Nat) (m : Int) (he : (most : Int) = m) (whole : Bool) (w : World) (hr : Kd.C k64 w A l.length l) (hc : l.length ≤ c) (h : okL l) (hm : most ≤ 100) (ws : List Wr) (hws : wrs most whole l [] = ws) :
    Calls Try.prog 11 #[.slice A l.length c, .int .i64 m, .bool whole] w fun e w' => ∃ A' c', e = .returned (.slice A' ws.length c') ∧ ws.length ≤ c' ∧ Kd.C k45 w' A' ws.length ws ∧ Below w.heap.size w w' ∧ ∀ ad, A' = some ad → w.heap.size ≤ ad.block := by
  subst he
  subst hws
  refine (tenementlaw13_writes.calls _ A c l most whole _ w hr hc (Pure.writes_f l most hm whole h.1 (by have := h.2; omega) (Nat.le_refl _))).mono ?_
  rintro e w' ⟨v, rfl, hR, hb⟩
  obtain ⟨A', c', rfl, hl, hC⟩ := Kd.R_reads hR
  refine ⟨A', c', rfl, hl, hC, hb, ?_⟩
  rintro ad rfl
  obtain ⟨inner, ho⟩ := Kd.R_own hR
  exact own_base ho ad.block rfl
theorem add_blk (a : Addr) (i : Nat) : (a.add i).block = a.block := by
  unfold Addr.add
  split <;> rfl
/-- A row of writes in a block that is not the one that was written. -/
theorem C_grown {w w1 : World} {A : Option Addr} {n g : Nat} {xs : List Wr} (h : Kd.C k45 w A n xs) (hg : w.grownBy w1 (some g)) (hne : 0 < n → ∀ ad, A = some ad → ad.block ≠ g) : Kd.C k45 w1 A n xs := by
  refine ⟨h.1, h.2.1, fun hp => ?_⟩
  obtain ⟨ad, e, hc⟩ := h.2.2 hp
  refine ⟨ad, e, fun j p hj => ?_⟩
  obtain ⟨c, hs, hr, hcell⟩ := hc j p hj
  refine ⟨c, hs, (k45_open hr) ▸ k45_mk w1 p, fun i u hu => hg.cell (hcell i u hu) ?_⟩
  rw [add_blk]
  intro e'
  exact hne hp ad e (by simpa using e')
/-- A row of rows: the row at a place. -/
theorem at_row {w : World} {A : Option Addr} {n : Nat} {xs : List (List Pt)} (h : Kd.C (Kd.slice 64 k64) w A n xs) (j : Nat) (h1 : j < n) :
    ∃ ad x A' c', A = some ad ∧ xs[j]? = some x ∧ w.cell? (ad.add j) = some (.slice A' x.length c') ∧ x.length ≤ c' ∧ Kd.C k64 w A' x.length x := by
  obtain ⟨ad, c, e, _, hK, hc⟩ := Kd.C_get h [] (j : Int) (by omega) (by omega)
  have hl : j < xs.length := by have := h.1; omega
  obtain ⟨A', c', hcs, hle, hC⟩ := hK
  have hx : xs[j]? = some (xs.getD (j : Int).toNat []) := by
    rw [Int.toNat_natCast, List.getD_eq_getElem?_getD, List.getElem?_eq_getElem hl]
    rfl
  refine ⟨ad, _, A', c', e, hx, ?_, hle, hC⟩
  have h2 := hc 0 _ (by rw [hcs]; rfl)
  have e2 : (j : Int).toNat * (Kd.slice 64 k64).sz + 0 = j := by
    show (j : Int).toNat * 1 + 0 = j
    omega
  rwa [e2] at h2
/-- Sizes as they are kept. -/
def good (L : List En) : Prop := ∀ p ∈ L, 0 < p.2 ∧ p.2 ≤ 64
theorem good_nil : good [] := fun p hp => by cases hp
theorem good_strike {L : List En} (h : good L) (k : Lit) : good (strike k L) := fun p hp => h p (List.mem_filter.1 hp).1
theorem good_step {L : List En} (h : good L) (x : Wr) : good (step L x) := by
  unfold step
  by_cases c : rightW x = true
  · rw [if_pos c]
    by_cases d : 0 < szW x
    · rw [if_pos d]
      intro p hp
      rcases List.mem_append.1 hp with hp | hp
      · exact good_strike (good_strike h _) _ p hp
      · rw [List.mem_singleton.1 hp]
        exact ⟨d, (size_f c).2.2.1⟩
    · rw [if_neg d]
      exact good_strike h _
  · rw [if_neg c]
    exact h
theorem good_taken : ∀ (l : List Wr) {L : List En}, good L → good (taken L l)
  | [], L, h => h
  | x :: r, L, h => good_taken r (good_step h x)
theorem good_total : ∀ {L : List En}, good L → 0 ≤ total L ∧ total L ≤ 64 * (L.length : Int)
  | [], _ => ⟨by simp [total], by simp [total]⟩
  | x :: r, h => by
    have h1 := h x (by simp)
    have h2 := good_total (L := r) (fun p hp => h p (by simp [hp]))
    rw [total_cons, List.length_cons]
    omega
theorem good_wrap {L : List En} (h : good L) (hl : L.length ≤ 1000000) : wrap64 (total L) = total L := by
  have := good_total h
  exact wrap64_id (by omega) (by omega)
theorem u8_range {x : Int} (h : (Lit.int .u8 x).wf = true) : 0 ≤ x ∧ x ≤ 255 := by
  have h : IntKind.u8.min ≤ x ∧ x ≤ IntKind.u8.max := by simpa only [Lit.wf, Bool.and_eq_true, decide_eq_true_eq] using h
  exact h
theorem step_int (j : Nat) (h : j ≤ 4611686018427387904) : Value.int .i64 (wrap64 ((j : Int) + 1)) = .int .i64 ((j + 1 : Nat) : Int) := by
  rw [wrap64_id (by omega) (by omega)]
  rfl
end Go.Proofs.Ytbjpfgmmmdfbeaa.Quo

/- What was taken last of each key: the sum of the sizes, and how many there are. -/
set_option linter.unusedVariables false
set_option linter.unusedSimpArgs false
namespace Go.Proofs.Ytbjpfgmmmdfbeaa.Quo
open Go Go.RowKit Go.WideShapes Go.Proofs.Ytbjpfgmmmdfbeaa.Q Go.Proofs.YtbjpfgmmmdfbeaaW.PrintWords Go.Proofs.YtbjpfgmmmdfbeaaW.PrintLast Go.Proofs.YtbjpfgmmmdfbeaaW.PrintMore
open Go.Maps (Keyed)
open Go.Proofs.Ytbjpfgmmmdfbeaa.Pure (wrap64_id toList_data toList_iff wrs fits)
def eqK (y x : Wr) : Bool := (y.f0.toList == x.f0.toList) && (y.f1.toList == x.f1.toList)
def later (r : List Wr) (x : Wr) : Bool := r.any fun y => eqK y x && rightW y
def lst (x : Wr) (r : List Wr) : Bool := rightW x && !later r x
def sumL : List Wr → Int
  | [] => 0
  | x :: r => (if lst x r = true then szW x else 0) + sumL r
def cntL : List Wr → Int
  | [] => 0
  | x :: r => (if (lst x r && !x.f3) = true then 1 else 0) + cntL r
def free (ws : List Wr) (p : En) : Bool := !(ws.any fun y => rightW y && p.1.sameKey (kl y.f0 y.f1))
theorem same_kl (x y : Wr) (hx : x.f0.size ≤ 9223372036854775807 ∧ x.f1.size ≤ 9223372036854775807) (hy : y.f0.size ≤ 9223372036854775807 ∧ y.f1.size ≤ 9223372036854775807) : (kl x.f0 x.f1).sameKey (kl y.f0 y.f1) = eqK y x := by
  unfold eqK
  by_cases h : y.f0 = x.f0 ∧ y.f1 = x.f1
  · rw [h.1, h.2, Go.WideAt.sameKey_self (show Go.WideAt.IsKeyLit (kl x.f0 x.f1) from trivial)]
    simp
  · have hne : kl x.f0 x.f1 ≠ kl y.f0 y.f1 := fun e => h (by
      have q := kl_inj hx.1 hx.2 hy.1 hy.2 e
      exact ⟨q.1.symm, q.2.symm⟩)
    rw [Go.Maps.sameKey_ne hne]
    symm
    rw [Bool.and_eq_false_iff]
    by_cases h0 : y.f0 = x.f0
    · right
      exact beq_eq_false_iff_ne.2 (fun e => h ⟨h0, toList_iff.1 e⟩)
    · left
      exact beq_eq_false_iff_ne.2 (fun e => h0 (toList_iff.1 e))
theorem free_key (x : Wr) (r : List Wr) (z : Int) (hs : small (x :: r)) : free r (kl x.f0 x.f1, z) = !later r x := by
  unfold free later
  congr 1
  have hx := hs x (by simp)
  have : ∀ (l : List Wr), (∀ y ∈ l, y ∈ r) → l.any (fun y => rightW y && (kl x.f0 x.f1).sameKey (kl y.f0 y.f1)) = l.any (fun y => eqK y x && rightW y) := by
    intro l
    induction l with
    | nil => intro _; rfl
    | cons y t ih =>
      intro h
      rw [List.any_cons, List.any_cons, ih (fun z hz => h z (by simp [hz])), same_kl x y hx (hs y (by simp [h y (by simp)])), Bool.and_comm]
  exact this r (fun _ h => h)
theorem free_cons (x : Wr) (r : List Wr) (p : En) : free (x :: r) p = (!(rightW x && p.1.sameKey (kl x.f0 x.f1)) && free r p) := by
  unfold free
  rw [List.any_cons, Bool.not_or]
theorem strike_free (x : Wr) (r : List Wr) (L : List En) (c : rightW x = true) : (strike (kl x.f0 x.f1) L).filter (free r) = L.filter (free (x :: r)) := by
  unfold strike
  rw [List.filter_filter]
  refine List.filter_congr (fun p _ => ?_)
  rw [free_cons, c, Bool.true_and, Bool.and_comm]
theorem sz_zero {x : Wr} (c : rightW x = true) (d : ¬ 0 < szW x) : szW x = 0 ∧ x.f3 = true := by
  obtain ⟨_, h0, _, h1⟩ := size_f c
  refine ⟨by omega, ?_⟩
  cases hx : x.f3 with
  | true => rfl
  | false => exact absurd (h1 hx) d
theorem sz_pos {x : Wr} (d : 0 < szW x) : x.f3 = false := by
  cases hx : x.f3 with
  | false => rfl
  | true =>
    unfold szW at d
    rw [hx, if_pos rfl] at d
    omega
theorem step_filter (x : Wr) (r : List Wr) (L : List En) (hs : small (x :: r)) :
    (step L x).filter (free r) = L.filter (free (x :: r)) ++ (if (lst x r && !x.f3) = true then [(kl x.f0 x.f1, szW x)] else []) := by
  unfold step lst
  by_cases c : rightW x = true
  · rw [if_pos c, c, Bool.true_and]
    by_cases d : 0 < szW x
    · rw [if_pos d, strike_strike, List.filter_append, strike_free x r L c, sz_pos d]
      congr 1
      rw [List.filter_cons, free_key x r _ hs, List.filter_nil]
      simp
    · rw [if_neg d, strike_free x r L c, (sz_zero c d).2]
      simp
  · have c' : rightW x = false := by simpa using c
    rw [if_neg c, c', Bool.false_and, if_neg (by simp), List.append_nil]
    refine List.filter_congr (fun p _ => ?_)
    rw [free_cons, c']
    simp
theorem last_both : ∀ (ws : List Wr) (L : List En), small ws → total (taken L ws) = total (L.filter (free ws)) + sumL ws ∧ ((taken L ws).length : Int) = ((L.filter (free ws)).length : Int) + cntL ws
  | [], L, _ => by
    have e : L.filter (free []) = L := List.filter_eq_self.2 (fun p _ => rfl)
    rw [e]
    exact ⟨by simp [taken, sumL], by simp [taken, cntL]⟩
  | x :: r, L, hs => by
    obtain ⟨h1, h2⟩ := last_both r (step L x) (fun y hy => hs y (by simp [hy]))
    rw [show taken L (x :: r) = taken (step L x) r from rfl, h1, h2, step_filter x r L hs, total_append, List.length_append, sumL, cntL]
    by_cases c : (lst x r && !x.f3) = true
    · rw [if_pos c, if_pos c, if_pos (by simp at c; exact c.1)]
      refine ⟨?_, ?_⟩
      · rw [total_cons, total_nil]
        show _ + (szW x + 0) + _ = _
        omega
      · rw [List.length_singleton]
        omega
    · rw [if_neg c, if_neg c]
      have e : (if lst x r = true then szW x else 0) = 0 := by
        by_cases d : lst x r = true
        · rw [if_pos d]
          have hx : x.f3 = true := by
            cases hf : x.f3 with
            | true => rfl
            | false => rw [d, hf] at c; simp at c
          unfold szW
          rw [hx, if_pos rfl]
        · rw [if_neg d]
      rw [e, total_nil, List.length_nil]
      omega
theorem last_all (ws : List Wr) (hs : small ws) : total (taken [] ws) = sumL ws ∧ ((taken [] ws).length : Int) = cntL ws := by
  obtain ⟨h1, h2⟩ := last_both ws [] hs
  rw [h1, h2]
  simp [total]
theorem sum_bound : ∀ (r : List Wr), (0 ≤ sumL r ∧ sumL r ≤ 64 * (r.length : Int)) ∧ 0 ≤ cntL r ∧ cntL r ≤ (r.length : Int)
  | [] => by simp [sumL, cntL]
  | x :: r => by
    have ih := sum_bound r
    rw [sumL, cntL, List.length_cons]
    have h1 : 0 ≤ (if lst x r = true then szW x else 0) ∧ (if lst x r = true then szW x else 0) ≤ 64 := by
      by_cases c : lst x r = true
      · rw [if_pos c]
        have hr : rightW x = true := by unfold lst at c; simp at c; exact c.1
        have := size_f hr
        exact ⟨this.2.1, this.2.2.1⟩
      · rw [if_neg c]; omega
    have h2 : 0 ≤ (if (lst x r && !x.f3) = true then (1 : Int) else 0) ∧ (if (lst x r && !x.f3) = true then (1 : Int) else 0) ≤ 1 := by split <;> omega
    omega
end Go.Proofs.Ytbjpfgmmmdfbeaa.Quo

/- Writes that are whole: each is the last one of its key; with all gone nothing is left. -/
set_option linter.unusedVariables false
set_option linter.unusedSimpArgs false
namespace Go.Proofs.Ytbjpfgmmmdfbeaa.Quo
open Go Go.RowKit Go.WideShapes Go.Proofs.Ytbjpfgmmmdfbeaa.Q Go.Proofs.YtbjpfgmmmdfbeaaW.PrintWords Go.Proofs.YtbjpfgmmmdfbeaaW.PrintLast Go.Proofs.YtbjpfgmmmdfbeaaW.PrintMore
open Go.Maps (Keyed)
open Go.Proofs.Ytbjpfgmmmdfbeaa.Pure (wrap64_id toList_data toList_iff wrs fits wrt same str_size)
def sumS : List Wr → Int
  | [] => 0
  | x :: r => szW x + sumS r
theorem sumS_snoc (x : Wr) : ∀ r : List Wr, sumS (r ++ [x]) = sumS r + szW x
  | [] => by simp [sumS]
  | y :: r => by
    rw [List.cons_append, sumS, sumS, sumS_snoc x r]
    omega
theorem wrt_right (p : Pt) : rightW (wrt p true) = true ∧ (wrt p true).f0.size = 2 := by
  rw [right_iff]
  unfold wrt
  rw [if_pos rfl]
  have z : (⟨#[]⟩ : ByteArray).size = 0 := rfl
  by_cases c : 224 ≤ p.f2
  · rw [if_pos c]
    refine ⟨⟨⟨?_, ?_⟩, ⟨?_, ?_⟩, ?_, Or.inl rfl⟩, ?_⟩
    · show 1 ≤ (strOfNums _).size; rw [str_size]; simp
    · show (strOfNums _).size ≤ _; rw [str_size]; simp
    · show 1 ≤ (strOfNums _).size; rw [str_size]; simp
    · show (strOfNums _).size ≤ _; rw [str_size]; simp
    · show (⟨#[]⟩ : ByteArray).size ≤ _; omega
    · show (strOfNums _).size = _; rw [str_size]; simp
  · rw [if_neg c]
    refine ⟨⟨⟨?_, ?_⟩, ⟨?_, ?_⟩, ?_, Or.inr rfl⟩, ?_⟩
    · show 1 ≤ (strOfNums _).size; rw [str_size]; simp
    · show (strOfNums _).size ≤ _; rw [str_size]; simp
    · show 1 ≤ (strOfNums _).size; rw [str_size]; simp
    · show (strOfNums _).size ≤ _; rw [str_size]; simp
    · show (ByteArray.extract _ _ _).size ≤ _; rw [ByteArray.size_extract]; omega
    · show (strOfNums _).size = _; rw [str_size]; simp
theorem wrs_right (l : List Pt) (most : Nat) : ∀ x ∈ wrs most true l [], rightW x = true ∧ x.f0.size = 2 :=
  Pure.wrs_all most true (fun x => rightW x = true ∧ x.f0.size = 2) l [] (fun p _ => wrt_right p) (fun x hx => by cases hx)
theorem wrs_apart (most : Nat) : ∀ (l : List Pt) (out : List Wr), out.Pairwise (fun x y => same y x = false) → (wrs most true l out).Pairwise (fun x y => same y x = false)
  | [], out, h => h
  | p :: ps, out, h => by
    unfold wrs
    by_cases c : out.length < most
    · rw [if_pos c]
      by_cases d : (true && out.any (same (wrt p (true || p.f1)))) = true
      · rw [if_pos d]
        exact wrs_apart most ps out h
      · rw [if_neg d]
        refine wrs_apart most ps _ (List.pairwise_append.2 ⟨h, List.pairwise_singleton _ _, ?_⟩)
        intro x hx y hy
        rw [List.mem_singleton.1 hy]
        have e : out.any (same (wrt p (true || p.f1))) = false := by simpa using d
        have := List.any_eq_false.1 e x hx
        simpa using this
    · rw [if_neg c]
      exact h
theorem later_none (x : Wr) (r : List Wr) (h : ∀ y ∈ r, same y x = false) : later r x = false := by
  unfold later
  rw [List.any_eq_false]
  intro y hy
  have h1 := h y hy
  unfold same at h1
  have h2 : eqK y x = false := by
    unfold eqK
    rw [Bool.and_eq_false_iff] at h1 ⊢
    rcases h1 with h1 | h1
    · exact Or.inl (beq_eq_false_iff_ne.2 (fun e => (of_decide_eq_false h1) (toList_iff.1 e).symm))
    · exact Or.inr (beq_eq_false_iff_ne.2 (fun e => (of_decide_eq_false h1) (toList_iff.1 e).symm))
  rw [h2]
  simp
theorem sumL_apart : ∀ ws : List Wr, (∀ x ∈ ws, rightW x = true) → ws.Pairwise (fun x y => same y x = false) → sumL ws = sumS ws
  | [], _, _ => rfl
  | x :: r, h, hp => by
    obtain ⟨h1, h2⟩ := List.pairwise_cons.1 hp
    have e : lst x r = true := by
      unfold lst
      rw [h x (by simp), later_none x r h1]
      rfl
    rw [sumL, sumS, if_pos e, sumL_apart r (fun y hy => h y (by simp [hy])) h2]
/-- The same write, gone. -/
def gw (x : Wr) : Wr := ⟨x.f0, x.f1, ⟨#[]⟩, true⟩
theorem gw_right {x : Wr} (h : rightW x = true) : rightW (gw x) = true := by
  rw [right_iff] at h ⊢
  exact ⟨h.1, h.2.1, by show (⟨#[]⟩ : ByteArray).size ≤ 32; decide, Or.inl rfl⟩
theorem taken_keys : ∀ (ws : List Wr) (L : List En), ∀ p ∈ taken L ws, p ∈ L ∨ ∃ x ∈ ws, rightW x = true ∧ p.1 = kl x.f0 x.f1
  | [], L, p, h => Or.inl h
  | x :: r, L, p, h => by
    rcases taken_keys r (step L x) p h with h | ⟨y, hy, e⟩
    · unfold step at h
      by_cases c : rightW x = true
      · rw [if_pos c] at h
        by_cases d : 0 < szW x
        · rw [if_pos d] at h
          rcases List.mem_append.1 h with h | h
          · exact Or.inl (List.mem_filter.1 (List.mem_filter.1 h).1).1
          · exact Or.inr ⟨x, by simp, c, by rw [List.mem_singleton.1 h]⟩
        · rw [if_neg d] at h
          exact Or.inl (List.mem_filter.1 h).1
      · rw [if_neg c] at h
        exact Or.inl h
    · exact Or.inr ⟨y, by simp [hy], e⟩
theorem cnt_gone : ∀ ws : List Wr, cntL (ws.map gw) = 0
  | [] => rfl
  | x :: r => by
    rw [List.map_cons, cntL, cnt_gone r, if_neg (by simp [gw])]
    rfl
theorem small_gone {ws : List Wr} (h : small ws) : small (ws.map gw) := by
  intro y hy
  obtain ⟨x, hx, rfl⟩ := List.mem_map.1 hy
  exact h x hx
theorem all_gone (ws : List Wr) (hs : small ws) (hr : ∀ x ∈ ws, rightW x = true) : taken (taken [] ws) (ws.map gw) = [] := by
  have h := (last_both (ws.map gw) (taken [] ws) (small_gone hs)).2
  rw [cnt_gone] at h
  have e : (taken [] ws).filter (free (ws.map gw)) = [] := by
    rw [List.filter_eq_nil_iff]
    intro p hp
    rcases taken_keys ws [] p hp with h | ⟨x, hx, hrx, hk⟩
    · cases h
    · unfold free
      have : ((ws.map gw).any fun y => rightW y && p.1.sameKey (kl y.f0 y.f1)) = true := List.any_eq_true.2 ⟨gw x, List.mem_map.2 ⟨x, hx, rfl⟩, by
        rw [gw_right hrx, hk]
        exact Go.WideAt.sameKey_self (show Go.WideAt.IsKeyLit (kl x.f0 x.f1) from trivial)⟩
      rw [this]
      simp
  rw [e] at h
  simpa using h
/-- What is great: a write at a key that no other one has. -/
def bigW (v : ByteArray) : Wr := ⟨⟨#[122]⟩, ⟨#[122]⟩, v, false⟩
theorem big_right {v : ByteArray} (h : v.size ≤ 32) : rightW (bigW v) = true ∧ szW (bigW v) = 2 + (v.size : Int) := by
  refine ⟨(right_iff _).2 ⟨(show 1 ≤ (⟨#[122]⟩ : ByteArray).size ∧ (⟨#[122]⟩ : ByteArray).size ≤ 16 by decide), (show 1 ≤ (⟨#[122]⟩ : ByteArray).size ∧ (⟨#[122]⟩ : ByteArray).size ≤ 16 by decide), h, Or.inr rfl⟩, ?_⟩
  show (1 : Int) + 1 + (v.size : Int) = _
  omega
theorem big_alone {v : ByteArray} (h : v.size ≤ 32) : taken [] [bigW v] = [(kl ⟨#[122]⟩ ⟨#[122]⟩, 2 + (v.size : Int))] := by
  obtain ⟨h1, h2⟩ := big_right h
  show step [] (bigW v) = _
  unfold step
  rw [if_pos h1, h2, if_pos (by omega)]
  rfl
theorem big_more {v : ByteArray} (h : v.size ≤ 32) (ws : List Wr) (hs : small ws) (hb : ∀ x ∈ ws, x.f0.size = 2) : total (taken (taken [] ws) [bigW v]) = total (taken [] ws) + (2 + (v.size : Int)) := by
  obtain ⟨h1, h2⟩ := big_right h
  have e : strike (kl ⟨#[122]⟩ ⟨#[122]⟩) (taken [] ws) = taken [] ws := List.filter_eq_self.2 (fun p hp => by
    rcases taken_keys ws [] p hp with h | ⟨x, hx, _, hk⟩
    · cases h
    · rw [hk, Go.Maps.sameKey_ne (fun e => by
        have q := (kl_inj (hs x hx).1 (hs x hx).2 (by decide) (by decide) e).1
        have := hb x hx
        rw [q] at this
        exact absurd this (by decide))]
      rfl)
  show total (step (taken [] ws) (bigW v)) = _
  unfold step
  rw [if_pos h1, h2, if_pos (by omega)]
  show total (strike (kl ⟨#[122]⟩ ⟨#[122]⟩) (strike (kl ⟨#[122]⟩ ⟨#[122]⟩) (taken [] ws)) ++ [(kl ⟨#[122]⟩ ⟨#[122]⟩, 2 + (v.size : Int))]) = _
  rw [e, e, total_append]
  simp [total]
end Go.Proofs.Ytbjpfgmmmdfbeaa.Quo

namespace Go.Proofs.Ytbjpfgmmmdfbeaa.Q
open Go.RowKit Go.Proofs.YtbjpfgmmmdfbeaaW.PrintWords Go.Proofs.YtbjpfgmmmdfbeaaW.PrintLast Go.Proofs.YtbjpfgmmmdfbeaaW.PrintMore
attribute [local go_sem] max2_int min2_int max_two min_two max_three min_three max_four min_four   -- for this text's walks alone
set_option linter.unusedVariables false
set_option linter.unusedSimpArgs false
/-! ### tenementlaw13_QuotaFrees: function 7 -/
-- FOREIGN: writes taken, and all of them gone again
-- import Derived.Test.YtbjpfgmmmdfbeaaQuoG
-- import Derived.Deep.RegionHeld3
open Classical in
noncomputable def tenementlaw13_QuotaFrees.f (l0 : List S64) (a1 : ByteArray) : Option Bool := if Quo.okL l0 ∧ a1.size ≤ 140737488351232 then some true else none
theorem tenementlaw13_QuotaFrees.st (r : List Quo.Wr) (h : ∀ x ∈ r, Quo.rightW x = true) : 0 ≤ Quo.sumS r ∧ Quo.sumS r ≤ 64 * (r.length : Int) := by
  induction r with
  | nil => simp [Quo.sumS]
  | cons x r ih =>
    have h1 := Quo.size_f (h x (by simp))
    have h2 := ih (fun y hy => h y (by simp [hy]))
    rw [Quo.sumS, List.length_cons]
    omega
theorem tenementlaw13_QuotaFrees.far {w : World} {A : Option Addr} {ws : List Quo.Wr} {g : Nat} (h : Kd.C k45 w A ws.length ws) (hg : w.heap.size ≤ g) : 0 < ws.length → ∀ ad, A = some ad → ad.block ≠ g := by
  intro h0 ad e
  obtain ⟨ad', e0, b0, _⟩ := at_T45 h 0 (by omega) (by omega)
  rw [e] at e0
  cases e0
  have := World.block_lt_of_cell? w _ b0
  rw [Quo.add_blk] at this
  omega
set_option maxHeartbeats 8000000 in
set_option maxRecDepth 100000 in
theorem tenementlaw13_QuotaFrees.calls (A0 : Option Addr) (c0 : Nat) (l0 : List S64) (a1 : ByteArray) (r : Bool) (w : World) (hr0 : Kd.C k64 w A0 l0.length l0) (hc0 : l0.length ≤ c0) (h : tenementlaw13_QuotaFrees.f l0 a1 = some r) :
    Calls Try.prog 7 #[.slice A0 l0.length c0, .string a1] w fun e w' => e = .returned (.bool r) ∧ Below w.heap.size w w' := by
  unfold tenementlaw13_QuotaFrees.f at h
  by_cases hw : Quo.okL l0 ∧ a1.size ≤ 140737488351232
  rotate_left
  · rw [if_neg hw] at h; cases h
  rw [if_pos hw] at h
  obtain rfl := Option.some.inj h
  clear h
  have HW := Aside0.mk hw.1
  have HV := Aside0.mk hw.2
  have HR := Aside0.mk hr0
  clear hw hr0
  have hmm : (if 32 < (a1.size : Int) then 32 else (a1.size : Int)) = ((min a1.size 32 : Nat) : Int) := by split <;> omega
  have m0 : decide ((0 : Int) ≤ ((min a1.size 32 : Nat) : Int)) = true := decide_eq_true (by omega)
  have m1 : decide (((min a1.size 32 : Nat) : Int) ≤ (a1.size : Int)) = true := decide_eq_true (by omega)
  obtain ⟨ws, hws⟩ : ∃ ws, ws = Pure.wrs 8 true l0 [] := ⟨_, rfl⟩
  have HWE := Aside0.mk hws.symm
  have HWS : Aside0 (Quo.small ws) := ⟨hws ▸ Quo.wrs_small HW.out 8 true⟩
  have HWL : Aside0 (ws.length ≤ 8) := ⟨hws ▸ Quo.wrs_most l0 8 true⟩
  have HWR : Aside0 (∀ x ∈ ws, Quo.rightW x = true ∧ x.f0.size = 2) := ⟨hws ▸ Quo.wrs_right l0 8⟩
  have HWA : Aside0 (ws.Pairwise (fun x y => Pure.same y x = false)) := ⟨hws ▸ Quo.wrs_apart 8 l0 [] List.Pairwise.nil⟩
  clear hws
  go_enter Try.func7, Try.ntmps7
  go_wp2_with (first
    | (go_at_call 8; refine (Quo.ex_c _).mono ?_; rintro e w1 ⟨rfl, hb⟩; have HB := Aside0.mk hb; clear hb)
    | (go_at_call 11; (with_reducible refine (Quo.writes_c A0 c0 l0 8 8 rfl true _ (Kd.C_below HR.out HB.out) hc0 HW.out (by omega) ws HWE.out).mono ?_); rintro e wu ⟨A2, c2, rfl, hl2, hC2, hb, hnb⟩; have HC := Aside0.mk hC2; replace HB := Aside0.mk (below_step HB.out hb); clear hC2 hb hnb))
  go_loopg [7, 8] ws.length (fun kq v7 v8 wr => ∃ (j : Nat), v8 = .int .i64 j ∧ v7 = .int .i64 (Quo.sumS (ws.take j)) ∧ Aside0 (j ≤ ws.length) ∧ Aside0 (ws.length - j ≤ kq) ∧ Aside0 (Below w.heap.size w wr) ∧ Aside0 (Kd.C k45 wr A2 ws.length ws))
  case atStart => exact ⟨0, rfl, rfl, ⟨by omega⟩, ⟨by omega⟩, HB, HC⟩
  case round =>
    obtain ⟨j, rfl, rfl, HJ, HK, HB, HC⟩ := hrel
    by_cases c1 : j < ws.length
    · have c1b : decide ((j : Int) < (ws.length : Int)) = true := decide_eq_true (by omega)
      have c0b : decide (0 ≤ (j : Int)) = true := decide_eq_true (by omega)
      have hx : ws[j]? = .some (ws[j]'c1) := List.getElem?_eq_getElem c1
      obtain ⟨x, hxe⟩ : ∃ x, x = ws[j]'c1 := ⟨_, rfl⟩
      have hxr := HWR.out (ws[j]'c1) (List.getElem_mem c1)
      rw [← hxe] at hx hxr
      obtain ⟨s1, s2, s3, _⟩ := Quo.size_f hxr.1
      have HSF := Aside0.mk s1
      have HTK := Aside0.mk (show Quo.sumS (ws.take (j + 1)) = Quo.sumS (ws.take j) + Quo.szW x by rw [List.take_add_one, hx]; exact Quo.sumS_snoc _ _)
      have hst := tenementlaw13_QuotaFrees.st (ws.take j) (fun y hy => (HWR.out y (List.mem_of_mem_take hy)).1)
      rw [List.length_take] at hst
      have HB7 := Aside0.mk (And.intro s2 (And.intro s3 hst))
      obtain ⟨ad', e0, b0, b1, b2, b3⟩ := at_T45 HC.out (j : Int) (by omega) (by omega)
      have hrdj : rd_T45 ws (j : Int) = x := by
        unfold rd_T45
        rw [Int.toNat_natCast, List.getD_eq_getElem?_getD, hx]
        rfl
      cases e0
      rw [hrdj] at b0 b1 b2 b3
      simp only [Int.toNat_natCast] at b0 b1 b2 b3
      clear hrdj hx hxe hxr s1 s2 s3 hst
      go_wp2_with (first | (go_at_call 24; (with_reducible refine (item_Size.calls x.f0 x.f1 x.f2 x.f3 _ _ HSF.out).mono ?_); rintro e wu ⟨rfl, hb⟩; replace HB := Aside0.mk (below_step HB.out hb); replace HC := Aside0.mk (Kd.C_below HC.out hb); clear hb b0 b1 b2 b3))
      go_roundg (ws.length - (j + 1))
      case measure => have := HK.out; omega
      case rel =>
        have b7 := HB7.out; have := HWL.out
        exact ⟨j + 1, by first | rfl | exact Quo.step_int j (by omega), by rw [HTK.out, Pure.wrap64_id (by omega) (by omega)], ⟨by omega⟩, ⟨by omega⟩, HB, HC⟩
    · have c1b : decide ((j : Int) < (ws.length : Int)) = false := decide_eq_false (by omega)
      have hjl : j = ws.length := by have := HJ.out; omega
      subst hjl
      rw [List.take_length]
      have hst := tenementlaw13_QuotaFrees.st ws (fun y hy => (HWR.out y hy).1)
      obtain ⟨e1, _⟩ := Quo.last_all ws HWS.out
      have e2 := Quo.sumL_apart ws (fun y hy => (HWR.out y hy).1) HWA.out
      have HT1 := Aside0.mk (show Quo.total (Quo.taken [] ws) = Quo.sumS ws from e1.trans e2)
      have hz : Quo.sumS ws ≤ 512 := by have := HWL.out; omega
      have hz0 := hst.1
      clear hst e1 e2 HK HJ
      generalize Quo.sumS ws = sz at *
      have hvs : (a1.extract 0 (min a1.size 32)).size ≤ 32 := by rw [ByteArray.size_extract]; omega
      obtain ⟨zb, hzb⟩ : ∃ zb, zb = 2 + ((a1.extract 0 (min a1.size 32)).size : Int) := ⟨_, rfl⟩
      have HVS := Aside0.mk hvs
      have HZB := Aside0.mk hzb
      have hb2 : 2 ≤ zb := by omega
      have hb3 : zb ≤ 34 := by omega
      have HT2 := Aside0.mk (show Quo.total (Quo.taken (Quo.taken [] ws) [Quo.bigW (a1.extract 0 (min a1.size 32))]) = sz + zb by rw [Quo.big_more hvs ws HWS.out (fun x hx => (HWR.out x hx).2), HT1.out, hzb])
      have HT3 := Aside0.mk (show Quo.taken [] [Quo.bigW (a1.extract 0 (min a1.size 32))] = [(Quo.kl ⟨#[122]⟩ ⟨#[122]⟩, zb)] by rw [Quo.big_alone hvs, hzb])
      have HSB := Aside0.mk (show item_Size.f ⟨#[122]⟩ ⟨#[122]⟩ (a1.extract 0 (min a1.size 32)) false = some zb by have := (Quo.size_f (Quo.big_right hvs).1).1; rw [(Quo.big_right hvs).2, ← hzb] at this; exact this)
      have HG0 := Aside0.mk (Quo.all_gone ws HWS.out (fun x hx => (HWR.out x hx).1))
      have HSM : Aside0 (Quo.small [Quo.bigW (a1.extract 0 (min a1.size 32))]) := ⟨fun y hy => by rw [List.mem_singleton.1 hy]; exact ⟨show (⟨#[122]⟩ : ByteArray).size ≤ 9223372036854775807 by decide, show (⟨#[122]⟩ : ByteArray).size ≤ 9223372036854775807 by decide⟩⟩
      have HW1 := Aside0.mk (show wrap64 (Quo.total (Quo.taken [] ws)) = sz by rw [HT1.out, Pure.wrap64_id (by omega) (by omega)])
      have HW2 := Aside0.mk (show wrap64 (Quo.total (Quo.taken (Quo.taken [] ws) [Quo.bigW (a1.extract 0 (min a1.size 32))])) = sz + zb by rw [HT2.out, Pure.wrap64_id (by omega) (by omega)])
      have hl1 := Quo.taken_length ws []
      simp only [List.length_nil, Nat.zero_add] at hl1
      have HLA := Aside0.mk (show ([] : List Quo.En).length + ws.length ≤ 1000000000 by have := HWL.out; simp only [List.length_nil]; omega)
      have HLB := Aside0.mk (show (Quo.taken [] ws).length + 1 ≤ 1000000000 by have := HWL.out; omega)
      have d1 : decide (sz ≤ sz + 1) = true := decide_eq_true (by omega)
      have d2 : decide (sz + zb ≤ sz + 1) = false := decide_eq_false (by omega)
      have d2c : decide (zb ≤ 1) = false := decide_eq_false (by omega)
      clear hvs hzb hl1
      go_wp2_with (first
        | (go_at_call 9; (with_reducible refine (Quo.new_q _ _ (by omega) (by omega)).mono ?_); rintro e w2 ⟨g, rfl, hg, hst, hb⟩; have HG := Aside0.mk (Nat.le_trans HB.out.size hg); have HNA := Aside0.mk (tenementlaw13_QuotaFrees.far HC.out hg); have HS := Aside0.mk (hst.alloc (Obj.cells #[.string ⟨#[122]⟩, .string ⟨#[122]⟩, .string (a1.extract 0 (min a1.size 32)), .bool false] 45)); have HNE := Aside0.mk (Nat.ne_of_gt hst.lt); have HK := Aside0.mk (blk_new w2 (Obj.cells #[.string ⟨#[122]⟩, .string ⟨#[122]⟩, .string (a1.extract 0 (min a1.size 32)), .bool false] 45)); replace HC := Aside0.mk (Kd.C_below (Kd.C_below HC.out hb) (below_alloc (Below.refl _ _) (Obj.cells #[.string ⟨#[122]⟩, .string ⟨#[122]⟩, .string (a1.extract 0 (min a1.size 32)), .bool false] 45))); replace HB := Aside0.mk (below_alloc (below_step HB.out hb) (Obj.cells #[.string ⟨#[122]⟩, .string ⟨#[122]⟩, .string (a1.extract 0 (min a1.size 32)), .bool false] 45)); clear hg hst hb)
        | (go_at_call 16; (with_reducible refine (Quo.take_q g _ _ A2 _ c2 ws rfl _ HS.out HC.out hl2 HWS.out HLA.out _ sz true rfl HW1.out d1).mono ?_); rintro e wu ⟨rfl, hst, hg⟩; replace HS := Aside0.mk (show Quo.Sq wu g _ (Quo.taken [] ws) from hst); replace HB := Aside0.mk (Quo.below_grown HB.out hg HG.out); replace HK := Aside0.mk (Quo.grown_blk hg HK.out HNE.out); replace HC := Aside0.mk (Quo.C_grown HC.out hg HNA.out); clear hst hg)
        | (go_at_call 15; (with_reducible refine (Quo.fits_q g _ _ _ 1 1 [Quo.bigW (a1.extract 0 (min a1.size 32))] rfl _ HS.out (Quo.C_one (x := Quo.bigW (a1.extract 0 (min a1.size 32))) HK.out) (by decide) HSM.out HLB.out _ _ false rfl HW2.out d2).mono ?_); rintro e wu ⟨rfl, hb⟩; replace HS := Aside0.mk (HS.out.below hb); replace HB := Aside0.mk (below_step HB.out hb); replace HC := Aside0.mk (Kd.C_below HC.out hb); replace HK := Aside0.mk (blk_below HK.out hb); obtain ⟨k0, k1, k2, k3⟩ := Kc4_ HK.out; clear hb)
        | (go_at_call 24; (with_reducible refine (item_Size.calls ⟨#[122]⟩ ⟨#[122]⟩ (a1.extract 0 (min a1.size 32)) false _ _ HSB.out).mono ?_); rintro e W0 ⟨rfl, hb⟩; replace HS := Aside0.mk (HS.out.below hb); replace HB := Aside0.mk (below_step HB.out hb); replace HC := Aside0.mk (Kd.C_below HC.out hb); replace HK := Aside0.mk (blk_below HK.out hb); clear hb k0 k1 k2 k3))
      clear HNA
      go_loopg [15, 16] ws.length (fun kq v15 v16 wr => ∃ (j : Nat), v16 = .int .i64 j ∧ Aside0 (j ≤ ws.length) ∧ Aside0 (ws.length - j ≤ kq) ∧ Aside0 (Below W0.heap.size W0 wr) ∧ Aside0 (Kd.R k45 45 wr W0.heap.size (fun _ => True) v15 ((ws.take j).map Quo.gw)))
      case atStart => exact ⟨0, rfl, ⟨by omega⟩, ⟨by omega⟩, ⟨Below.refl _ _⟩, ⟨Kd.R_nil _ _ _ _ _⟩⟩
      case round =>
        obtain ⟨j, rfl, HJ, HK2, HBW, HO⟩ := hrel
        by_cases c1 : j < ws.length
        · have c1b : decide ((j : Int) < (ws.length : Int)) = true := decide_eq_true (by omega)
          have c0b : decide (0 ≤ (j : Int)) = true := decide_eq_true (by omega)
          have hx : ws[j]? = .some (ws[j]'c1) := List.getElem?_eq_getElem c1
          obtain ⟨x, hxe⟩ : ∃ x, x = ws[j]'c1 := ⟨_, rfl⟩
          rw [← hxe] at hx
          have HTK := Aside0.mk (show (ws.take (j + 1)).map Quo.gw = (ws.take j).map Quo.gw ++ [Quo.gw x] by rw [List.take_add_one, hx, List.map_append]; rfl)
          obtain ⟨ad, e0, b0, b1, b2, b3⟩ := at_T45 HC.out (j : Int) (by omega) (by omega)
          have hrdj : rd_T45 ws (j : Int) = x := by
            unfold rd_T45
            rw [Int.toNat_natCast, List.getD_eq_getElem?_getD, hx]
            rfl
          cases e0
          rw [hrdj] at b0 b1
          simp only [Int.toNat_natCast] at b0 b1
          clear b2 b3 hrdj hx hxe
          have HX0 := Aside0.mk b0
          have HX1 := Aside0.mk b1
          replace b0 := (HBW.out.cell (World.block_lt_of_cell? _ _ b0)).trans b0
          replace b1 := (HBW.out.cell (World.block_lt_of_cell? _ _ b1)).trans b1
          go_wp2
          replace HO := Aside0.mk (Kd.R_drew HO.out)
          replace HBW := Aside0.mk (below_drew1 HBW.out)
          replace b0 : wr.drew.cell? (ad.add (j * 4)) = some (.string x.f0) := b0
          replace b1 : wr.drew.cell? ⟨(ad.add (j * 4)).block, (ad.add (j * 4)).off + 1, none⟩ = some (.string x.f1) := b1
          refine start_ (n := 15) (S := fun w' => w'.cell? (ad.add (j * 4)) = some (.string x.f0) ∧ w'.cell? ⟨(ad.add (j * 4)).block, (ad.add (j * 4)).off + 1, none⟩ = some (.string x.f1)) (ds := []) #[false, false, false, false, false, false, false, false, false, false, false, false, false, false, false] (by kernel_rfl) rfl rfl ⟨b0, b1⟩ (fun hHeld => ?_)
          generalize wr.drew = w5 at HO HBW b0 b1 hHeld ⊢
          refine pure_ (i := 0) (N := some 77) (v := ?_) (a' := ?_) #[true, false, false, false, false, false, false, false, false, false, false, false, false, false, false] rfl rfl (by kernel_rfl) (fun _ _ _ h => h) (Or.inl ⟨by rfl, ?_⟩) ?_ ?_
          rotate_left
          · intro w'
            go_simp
            with_reducible rfl
          rotate_left
          · simp only [Act.put, List.setIfInBounds_toArray, List.set_cons_zero, List.set_cons_succ, i64_w, i32_w]
            rfl
          refine pure_ (i := 1) (N := some 78) (v := ?_) (a' := ?_) #[true, true, false, false, false, false, false, false, false, false, false, false, false, false, false] rfl rfl (by kernel_rfl) (fun _ _ _ h => h) (Or.inl ⟨by rfl, ?_⟩) ?_ ?_
          rotate_left
          · intro w'
            go_simp
            with_reducible rfl
          rotate_left
          · simp only [Act.put, List.setIfInBounds_toArray, List.set_cons_zero, List.set_cons_succ, i64_w, i32_w]
            rfl
          refine pure_ (i := 2) (N := some 79) (v := ?_) (a' := ?_) #[true, true, true, false, false, false, false, false, false, false, false, false, false, false, false] rfl rfl (by kernel_rfl) (fun _ _ _ h => h) (Or.inl ⟨by rfl, ?_⟩) ?_ ?_
          rotate_left
          · intro w'
            go_simp
            with_reducible rfl
          rotate_left
          · simp only [Act.put, List.setIfInBounds_toArray, List.set_cons_zero, List.set_cons_succ, i64_w, i32_w]
            rfl
          refine pure_ (i := 3) (N := some 80) (v := ?_) (a' := ?_) #[true, true, true, true, false, false, false, false, false, false, false, false, false, false, false] rfl rfl (by kernel_rfl) (fun _ _ _ h => h) (Or.inl ⟨by rfl, ?_⟩) ?_ ?_
          rotate_left
          · intro w'
            go_simp
            with_reducible rfl
          rotate_left
          · simp only [Act.put, List.setIfInBounds_toArray, List.set_cons_zero, List.set_cons_succ, i64_w, i32_w]
            rfl
          refine pure_ (i := 4) (N := some 81) (v := ?_) (a' := ?_) #[true, true, true, true, true, false, false, false, false, false, false, false, false, false, false] rfl rfl (by kernel_rfl) (fun _ _ _ h => h) (Or.inl ⟨by rfl, ?_⟩) ?_ ?_
          rotate_left
          · intro w'
            go_simp
            with_reducible rfl
          rotate_left
          · simp only [Act.put, List.setIfInBounds_toArray, List.set_cons_zero, List.set_cons_succ, i64_w, i32_w]
            rfl
          refine take_ (i := 5) (N := some 82) (v := ?_) (a' := ?_) #[true, true, true, true, true, true, false, false, false, false, false, false, false, false, false] rfl rfl (by kernel_rfl) (fun _ _ _ h => h) (Or.inl ⟨by rfl, ?_⟩) hHeld ?_ ?_
          rotate_left
          · rintro w' ⟨s0, s1⟩
            go_simp
            with_reducible rfl
          rotate_left
          · simp only [Act.put, List.setIfInBounds_toArray, List.set_cons_zero, List.set_cons_succ, i64_w, i32_w]
            rfl
          refine pure_ (i := 6) (N := some 83) (v := ?_) (a' := ?_) #[true, true, true, true, true, true, true, false, false, false, false, false, false, false, false] rfl rfl (by kernel_rfl) (fun _ _ _ h => h) (Or.inl ⟨by rfl, ?_⟩) ?_ ?_
          rotate_left
          · intro w'
            go_simp
            with_reducible rfl
          rotate_left
          · simp only [Act.put, List.setIfInBounds_toArray, List.set_cons_zero, List.set_cons_succ, i64_w, i32_w]
            rfl
          refine pure_ (i := 7) (N := some 84) (v := ?_) (a' := ?_) #[true, true, true, true, true, true, true, true, false, false, false, false, false, false, false] rfl rfl (by kernel_rfl) (fun _ _ _ h => h) (Or.inl ⟨by rfl, ?_⟩) ?_ ?_
          rotate_left
          · intro w'
            go_simp
            with_reducible rfl
          rotate_left
          · simp only [Act.put, List.setIfInBounds_toArray, List.set_cons_zero, List.set_cons_succ, i64_w, i32_w]
            rfl
          refine pure_ (i := 8) (N := some 85) (v := ?_) (a' := ?_) #[true, true, true, true, true, true, true, true, true, false, false, false, false, false, false] rfl rfl (by kernel_rfl) (fun _ _ _ h => h) (Or.inl ⟨by rfl, ?_⟩) ?_ ?_
          rotate_left
          · intro w'
            go_simp
            with_reducible rfl
          rotate_left
          · simp only [Act.put, List.setIfInBounds_toArray, List.set_cons_zero, List.set_cons_succ, i64_w, i32_w]
            rfl
          refine pure_ (i := 9) (N := some 86) (v := ?_) (a' := ?_) #[true, true, true, true, true, true, true, true, true, true, false, false, false, false, false] rfl rfl (by kernel_rfl) (fun _ _ _ h => h) (Or.inl ⟨by rfl, ?_⟩) ?_ ?_
          rotate_left
          · intro w'
            go_simp
            with_reducible rfl
          rotate_left
          · simp only [Act.put, List.setIfInBounds_toArray, List.set_cons_zero, List.set_cons_succ, i64_w, i32_w]
            rfl
          refine take_ (i := 10) (N := some 87) (v := ?_) (a' := ?_) #[true, true, true, true, true, true, true, true, true, true, true, false, false, false, false] rfl rfl (by kernel_rfl) (fun _ _ _ h => h) (Or.inl ⟨by rfl, ?_⟩) hHeld ?_ ?_
          rotate_left
          · rintro w' ⟨s0, s1⟩
            go_simp
            with_reducible rfl
          rotate_left
          · simp only [Act.put, List.setIfInBounds_toArray, List.set_cons_zero, List.set_cons_succ, i64_w, i32_w]
            rfl
          refine pure_ (i := 11) (N := some 88) (v := ?_) (a' := ?_) #[true, true, true, true, true, true, true, true, true, true, true, true, false, false, false] rfl rfl (by kernel_rfl) (fun _ _ _ h => h) (Or.inl ⟨by rfl, ?_⟩) ?_ ?_
          rotate_left
          · intro w'
            go_simp
            with_reducible rfl
          rotate_left
          · simp only [Act.put, List.setIfInBounds_toArray, List.set_cons_zero, List.set_cons_succ, i64_w, i32_w]
            rfl
          refine one_ (i := 12) (N := some 89) #[true, true, true, true, true, true, true, true, true, true, true, true, true, false, false] rfl rfl (by kernel_rfl) (by decide) (fun K hK => ?_)
          refine value_ (w1 := ?_) (v := ?_) (by rfl) rfl ?_ ?_
          rotate_left 2
          · go_simp
            constructor
            · rfl
            · rfl
          refine hK.out _ _ ⟨(World.cell?_alloc_lt _ _ _ (World.block_lt_of_cell? _ _ b0)).trans b0, (World.cell?_alloc_lt _ _ _ (World.block_lt_of_cell? _ _ b1)).trans b1⟩ (fun hHeld => ?_)
          clear hK K
          refine norm_ (a' := ?_) ?_ ?_
          rotate_left
          · show Act.put _ (some 89) _ = _
            simp only [Act.put, List.setIfInBounds_toArray, List.set_cons_zero, List.set_cons_succ, i64_w, i32_w]
            rfl
          refine one_ (i := 13) (N := some 90) #[true, true, true, true, true, true, true, true, true, true, true, true, true, true, false] rfl rfl (by kernel_rfl) (by decide) (fun K hK => ?_)
          refine Kd.R_append_step k45 (w0 := W0) W0.heap.size (by rfl) (.tmp 77) (.tmp 89) 31 45 (.agg #[(.string ⟨#[]⟩), (.string ⟨#[]⟩), (.string ⟨#[]⟩), (.bool false)]) 56 rfl Try.underlying31 info45 rfl (by decide) (by omega) u15 ((ws.take j).map Quo.gw) (Quo.gw x) [.string x.f0, .string x.f1, .string ⟨#[]⟩, .bool true] (fun _ => True) (fun _ => False) rfl rfl ?aP (fun _ hk => hk.elim) ?aF ?aO ?aB ?aS ?aL ?_
          (case aP => exact k45_mkM _ _ _ (Quo.gw x))
          (case aF => exact (fun _ _ => trivial))
          (case aO => exact HO.out)
          (case aB => exact HBW.out)
          (case aS => exact (below_size HBW.out))
          (case aL => rw [List.length_map, List.length_take]; have := HWL.out; omega)
          intro v1 w6 ho hb hg6 hat
          rw [← HTK.out] at ho
          have HO6 := Aside0.mk ho
          have HB6 := Aside0.mk hb
          clear ho hg6 hat
          refine hK.out _ _ ⟨(hb.cell (World.block_lt_of_cell? _ _ HX0.out)).trans HX0.out, (hb.cell (World.block_lt_of_cell? _ _ HX1.out)).trans HX1.out⟩ (fun hHeld => ?_)
          clear hK K
          refine norm_ (a' := ?_) ?_ ?_
          rotate_left
          · show Act.put _ (some 90) _ = _
            simp only [Act.put, List.setIfInBounds_toArray, List.set_cons_zero, List.set_cons_succ, i64_w, i32_w]
            rfl
          refine pure_ (i := 14) (N := some 15) (v := ?_) (a' := ?_) #[true, true, true, true, true, true, true, true, true, true, true, true, true, true, true] rfl rfl (by kernel_rfl) (fun _ _ _ h => h) (Or.inl ⟨by rfl, ?_⟩) ?_ ?_
          rotate_left
          · intro w'
            go_simp
            with_reducible rfl
          rotate_left
          · simp only [Act.put, List.setIfInBounds_toArray, List.set_cons_zero, List.set_cons_succ, i64_w, i32_w]
            rfl
          refine done_ (by kernel_rfl) ?_
          try go_wp2
          go_roundg (ws.length - (j + 1))
          case measure => have := HK2.out; omega
          case rel => have := HWL.out; exact ⟨j + 1, by first | rfl | exact Quo.step_int j (by omega), ⟨by omega⟩, ⟨by omega⟩, HB6, HO6⟩
        · have c1b : decide ((j : Int) < (ws.length : Int)) = false := decide_eq_false (by omega)
          have hjl : j = ws.length := by have := HJ.out; omega
          subst hjl
          rw [List.take_length] at HO
          obtain ⟨A3, c3, hv, hc3, hC3⟩ := Kd.R_reads HO.out
          subst hv
          replace HS := Aside0.mk (HS.out.below HBW.out)
          replace HB := Aside0.mk (below_step HB.out HBW.out)
          replace HK := Aside0.mk (blk_below HK.out HBW.out)
          rw [List.length_map] at hc3 hC3
          have HSG := Aside0.mk (Quo.small_gone HWS.out)
          have HLG := Aside0.mk (show (Quo.taken [] ws).length + ws.length ≤ 1000000000 by have h1 := Quo.taken_length ws []; have := HWL.out; simp only [List.length_nil] at h1; omega)
          have d3 : decide (0 ≤ sz + 1) = true := decide_eq_true (by omega)
          have HW3 := Aside0.mk (show wrap64 (Quo.total [(Quo.kl ⟨#[122]⟩ ⟨#[122]⟩, zb)]) = zb by rw [Quo.total_cons, Quo.total_nil, Pure.wrap64_id (by omega) (by omega)]; omega)
          clear HO HBW HJ HK2
          by_cases hd : zb ≤ sz + 1
          · have hdb : decide (zb ≤ sz + 1) = true := decide_eq_true hd
            go_wp2_with (first
              | (go_at_call 16; (with_reducible refine (Quo.take_q g _ _ A3 ws.length c3 (ws.map Quo.gw) (List.length_map _) _ HS.out hC3 hc3 HSG.out HLG.out [] 0 true HG0.out (by kernel_rfl) d3).mono ?_); rintro e wu ⟨rfl, hst, hg⟩; replace HS := Aside0.mk (show Quo.Sq wu g _ [] from hst); replace HB := Aside0.mk (Quo.below_grown HB.out hg HG.out); replace HK := Aside0.mk (Quo.grown_blk hg HK.out HNE.out); clear hst hg)
              | (go_at_call 16; (with_reducible refine (Quo.take_q g _ _ _ 1 1 [Quo.bigW (a1.extract 0 (min a1.size 32))] rfl _ HS.out (Quo.C_one (x := Quo.bigW (a1.extract 0 (min a1.size 32))) HK.out) (by decide) HSM.out (by decide) _ zb true HT3.out HW3.out hdb).mono ?_); rintro e wu ⟨rfl, hst, hg⟩; replace HS := Aside0.mk (show Quo.Sq wu g _ [(Quo.kl ⟨#[122]⟩ ⟨#[122]⟩, zb)] from hst); replace HB := Aside0.mk (Quo.below_grown HB.out hg HG.out); replace HK := Aside0.mk (Quo.grown_blk hg HK.out HNE.out); clear hst hg)
              | (go_at_call 20; (with_reducible refine (Quo.keys_q g _ _ _ HS.out 1 rfl).mono ?_); rintro e wu ⟨rfl, hb⟩; replace HS := Aside0.mk (HS.out.below hb); replace HB := Aside0.mk (below_step HB.out hb); replace HK := Aside0.mk (blk_below HK.out hb); obtain ⟨k0, k1, k2, k3⟩ := Kc4_ HK.out; clear hb)
              | (go_at_call 24; (with_reducible refine (item_Size.calls ⟨#[122]⟩ ⟨#[122]⟩ (a1.extract 0 (min a1.size 32)) false _ _ HSB.out).mono ?_); rintro e wu ⟨rfl, hb⟩; replace HS := Aside0.mk (HS.out.below hb); replace HB := Aside0.mk (below_step HB.out hb); clear hb k0 k1 k2 k3)
              | (go_at_call 18; (with_reducible refine (Quo.used_q g _ _ _ HS.out 0 (by kernel_rfl)).mono ?_); rintro e wu ⟨rfl, hb⟩; replace HB := Aside0.mk (below_step HB.out hb); clear hb))
            go_ret
            exact ⟨rfl, HB.out⟩
          · have hdb : decide (zb ≤ sz + 1) = false := decide_eq_false hd
            go_wp2_with (first
              | (go_at_call 16; (with_reducible refine (Quo.take_q g _ _ A3 ws.length c3 (ws.map Quo.gw) (List.length_map _) _ HS.out hC3 hc3 HSG.out HLG.out [] 0 true HG0.out (by kernel_rfl) d3).mono ?_); rintro e wu ⟨rfl, hst, hg⟩; replace HS := Aside0.mk (show Quo.Sq wu g _ [] from hst); replace HB := Aside0.mk (Quo.below_grown HB.out hg HG.out); replace HK := Aside0.mk (Quo.grown_blk hg HK.out HNE.out); clear hst hg)
              | (go_at_call 16; (with_reducible refine (Quo.take_q g _ _ _ 1 1 [Quo.bigW (a1.extract 0 (min a1.size 32))] rfl _ HS.out (Quo.C_one (x := Quo.bigW (a1.extract 0 (min a1.size 32))) HK.out) (by decide) HSM.out (by decide) _ zb false HT3.out HW3.out hdb).mono ?_); rintro e wu ⟨rfl, hst, hg⟩; replace HS := Aside0.mk (show Quo.Sq wu g _ [] from hst); replace HB := Aside0.mk (Quo.below_grown HB.out hg HG.out); replace HK := Aside0.mk (Quo.grown_blk hg HK.out HNE.out); clear hst hg)
              | (go_at_call 20; (with_reducible refine (Quo.keys_q g _ _ _ HS.out 0 rfl).mono ?_); rintro e wu ⟨rfl, hb⟩; replace HS := Aside0.mk (HS.out.below hb); replace HB := Aside0.mk (below_step HB.out hb); replace HK := Aside0.mk (blk_below HK.out hb); obtain ⟨k0, k1, k2, k3⟩ := Kc4_ HK.out; clear hb)
              | (go_at_call 24; (with_reducible refine (item_Size.calls ⟨#[122]⟩ ⟨#[122]⟩ (a1.extract 0 (min a1.size 32)) false _ _ HSB.out).mono ?_); rintro e wu ⟨rfl, hb⟩; replace HS := Aside0.mk (HS.out.below hb); replace HB := Aside0.mk (below_step HB.out hb); clear hb k0 k1 k2 k3)
              | (go_at_call 18; (with_reducible refine (Quo.used_q g _ _ _ HS.out 0 (by kernel_rfl)).mono ?_); rintro e wu ⟨rfl, hb⟩; replace HB := Aside0.mk (below_step HB.out hb); clear hb))
            go_ret
            exact ⟨rfl, HB.out⟩
end Go.Proofs.Ytbjpfgmmmdfbeaa.Q

set_option linter.unusedVariables false
namespace Go.Proofs.Ytbjpfgmmmdfbeaa.Q
open Go.RowKit Go.Proofs.Ytbjpfgmmmdfbeaa.Q Go.Proofs.YtbjpfgmmmdfbeaaW.PrintWords Go.Proofs.YtbjpfgmmmdfbeaaW.PrintLast Go.Proofs.YtbjpfgmmmdfbeaaW.PrintMore
def tenementlaw13_QuotaFrees.Pure : Prop := ∀ (x0 : List (S64)) (x1 : ByteArray), ((∀ x_ ∈ x0, wf64 x_) ∧ x0.length * 64 ≤ 140737488351232) → (x1.size ≤ 140737488351232) → tenementlaw13_QuotaFrees.f x0 x1 = some true
end Go.Proofs.Ytbjpfgmmmdfbeaa.Q

/- What is gone is free again: with all gone nothing is used, and what did not fit does: parts of writes made whole, at most 8, and a value. -/
set_option linter.unusedVariables false
set_option linter.unusedSimpArgs false
namespace Go.Proofs.Ytbjpfgmmmdfbeaa.Pure
open Go.RowKit Go.Proofs.Ytbjpfgmmmdfbeaa.Q Go.Proofs.YtbjpfgmmmdfbeaaW.PrintWords Go.Proofs.YtbjpfgmmmdfbeaaW.PrintLast Go.Proofs.YtbjpfgmmmdfbeaaW.PrintMore
theorem QuotaFrees : tenementlaw13_QuotaFrees.Pure := by
  intro l s hl hs
  have hok : Quo.okL l := ⟨fun p hp => by
    have h := hl.1 p hp
    exact ⟨h.1.1, h.1.2.1, h.1.2.2.1⟩, by have h := hl.2; omega⟩
  unfold tenementlaw13_QuotaFrees.f
  rw [if_pos ⟨hok, hs⟩]
end Go.Proofs.Ytbjpfgmmmdfbeaa.Pure
