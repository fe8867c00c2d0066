import Derived.Test.YthjhkcebcgdeoaaGJudgeReads0
import Derived.Test.YthjhkcebcgdeoaaGJudgeReads2
import Derived.Test.YthjhkcebcgdeoaaGJudgeReads7
import Derived.Test.YthjhkcebcgdeoaaGJudgeReads6
import Derived.Test.YthjhkcebcgdeoaaGJudgeReads8
import Derived.Test.YthjhkcebcgdeoaaGJudgeReads3
import Derived.Test.YthjhkcebcgdeoaaGJudgeReads5
import Derived.Test.YthjhkcebcgdeoaaGJudgeReads4
set_option linter.unusedVariables false
set_option linter.unusedSimpArgs false
namespace Go.Proofs.Ythjhkcebcgdeoaa.Pure
open Go.RowKit Go.Proofs.Ythjhkcebcgdeoaa.Q Go.Proofs.YthjhkcebcgdeoaaW.PrintWords Go.Proofs.YthjhkcebcgdeoaaW.PrintLast Go.Proofs.YthjhkcebcgdeoaaW.PrintMore Go.Proofs.Ythjhkcebcgdeoaa.Plain
abbrev Wr := S24
abbrev Pt := S26
def fits (x : Wr) : Prop := x.f0.size ≤ 140737488351232 ∧ x.f1.size ≤ 140737488351232 ∧ x.f2.size ≤ 140737488351232
theorem str_size (l : List Int) : (strOfNums l).size = l.length := by
 unfold strOfNums
 simp [ByteArray.size]
def wrt (p : Pt) (own : Bool) : Wr :=
 if own = true then (if 224 ≤ p.f2 then ⟨strOfNums [98, IntKind.u8.wrap (48 + Int.tmod p.f2 2)], strOfNums [IntKind.u8.wrap (97 + Int.tmod (IntKind.u8.wrap (Int.tdiv p.f2 2)) 4)], ⟨#[]⟩, true⟩
  else ⟨strOfNums [98, IntKind.u8.wrap (48 + Int.tmod p.f2 2)], strOfNums [IntKind.u8.wrap (97 + Int.tmod (IntKind.u8.wrap (Int.tdiv p.f2 2)) 4)], p.f0.f2.extract 0 (min p.f0.f2.size 8), false⟩)
 else p.f0
theorem wrt_f (p : Pt) (own : Bool) (h : fits p.f0) : tenementlaw22_Put_write.f p.f0.f0 p.f0.f1 p.f0.f2 p.f0.f3 own p.f2 = some ((wrt p own).f0, (wrt p own).f1, (wrt p own).f2, (wrt p own).f3) := by
 unfold tenementlaw22_Put_write.f wrt
 cases own with
 | true =>
  rw [if_pos rfl, if_pos rfl, if_pos (by have := h.2.2; omega)]
  by_cases c : 224 ≤ p.f2
  ·rw [if_pos c, if_pos c]
  ·rw [if_neg c, if_neg c]
 | false => rw [if_neg (by simp), if_neg (by simp)]
theorem wrt_fits (p : Pt) (own : Bool) (h : fits p.f0) : fits (wrt p own) := by
 unfold wrt
 cases own with
 | true =>
  rw [if_pos rfl]
  have z : (⟨#[]⟩ : ByteArray).size = 0 := rfl
  by_cases c : 224 ≤ p.f2
  ·rw [if_pos c]
   refine ⟨?_, ?_, ?_⟩
   ·show (strOfNums _).size ≤ _; rw [str_size]; simp
   ·show (strOfNums _).size ≤ _; rw [str_size]; simp
   ·show (⟨#[]⟩ : ByteArray).size ≤ _; omega
  ·rw [if_neg c]
   refine ⟨?_, ?_, ?_⟩
   ·show (strOfNums _).size ≤ _; rw [str_size]; simp
   ·show (strOfNums _).size ≤ _; rw [str_size]; simp
   ·show (ByteArray.extract _ _ _).size ≤ _; rw [ByteArray.size_extract]; omega
 | false => rw [if_neg (by simp)]; exact h
def same (w y : Wr) : Bool := decide (y.f0 = w.f0) && decide (y.f1 = w.f1)
def wrs (most : Nat) (whole : Bool) : List Pt → List Wr → List Wr
 | [], out => out
 | p :: ps, out => if out.length < most then (if (whole && out.any (same (wrt p (whole || p.f1)))) = true then wrs most whole ps out else wrs most whole ps (out ++ [wrt p (whole || p.f1)])) else out
theorem wrs_len (most : Nat) (whole : Bool) : ∀ l out, out.length ≤ most → (wrs most whole l out).length ≤ most
 | [], out, h => h
 | p :: ps, out, h => by
  unfold wrs
  by_cases c : out.length < most
  ·rw [if_pos c]
   split
   ·exact wrs_len most whole ps out h
   ·exact wrs_len most whole ps _ (by simp; omega)
  ·rw [if_neg c]; exact h
theorem wrs_all (most : Nat) (whole : Bool) (Q : Wr → Prop) : ∀ l out, (∀ p ∈ l, Q (wrt p (whole || p.f1))) → (∀ x ∈ out, Q x) → ∀ x ∈ wrs most whole l out, Q x
 | [], out, _, h => h
 | p :: ps, out, hl, h => by
  unfold wrs
  have hl' : ∀ q ∈ ps, Q (wrt q (whole || q.f1)) := fun q hq => hl q (by simp [hq])
  split
  ·split
   ·exact wrs_all most whole Q ps out hl' h
   ·refine wrs_all most whole Q ps _ hl' (fun x hx => ?_)
    rcases List.mem_append.1 hx with hx | hx
    ·exact h x hx
    ·rw [List.mem_singleton.1 hx]; exact hl p (by simp)
  ·exact h
theorem idx (i : Nat) (h : i ≤ 4611686018427387904) : wrap64 ((i : Int) + 1) = ((i + 1 : Nat) : Int) := by
 rw [wrap64_id (by omega) (by omega)]
 omega
theorem rdW (l : List Wr) (j : Nat) (h : j < l.length) : rd_T24 l (j : Int) = l[j] := by
 unfold rd_T24
 rw [Int.toNat_natCast, List.getD_eq_getElem?_getD, List.getElem?_eq_getElem h]
 rfl
theorem rdP (l : List Pt) (j : Nat) (h : j < l.length) : rd_T26 l (j : Int) = l[j] := by
 unfold rd_T26
 rw [Int.toNat_natCast, List.getD_eq_getElem?_getD, List.getElem?_eq_getElem h]
 rfl
theorem wr_l1 (l : List Pt) (most : Int) (whole : Bool) (out : List Wr) (i : Int) (w : Wr) (h7 : out.length ≤ 1000) (K : Nat) : ∀ d j fl, j + d = out.length →
  tenementlaw22_writes.l1 (K + d + 1) l most whole out i fl (j : Int) w.f0 w.f1 w.f2 w.f3 =
   if (whole && (fl || (out.drop j).any (same w))) = true then tenementlaw22_writes.l0 K l most whole out (wrap64 (i + 1)) else tenementlaw22_writes.l0 K l most whole (out ++ [w]) (wrap64 (i + 1)) := by
 intro d
 induction d with
 | zero =>
  intro j fl hj
  have e : out.drop j = [] := List.drop_eq_nil_of_le (by omega)
  rw [Nat.add_zero, tenementlaw22_writes.l1, if_neg (by omega), e, List.any_nil, Bool.or_false]
  cases whole with
  | true =>
   rw [if_pos rfl]
   cases fl with
   | true => rw [if_pos rfl, if_pos (by rfl)]
   | false => rw [if_neg (by simp), if_pos (by omega), if_neg (by simp)]
  | false => rw [if_neg (by simp), if_pos (by omega), if_neg (by simp)]
 | succ d ih =>
  intro j fl hj
  have hlt : j < out.length := by omega
  have e : out.drop j = out[j] :: out.drop (j + 1) := List.drop_eq_getElem_cons hlt
  rw [show K + (d + 1) + 1 = (K + d + 1) + 1 by omega, tenementlaw22_writes.l1, if_pos (by omega), idx j (by omega), e, List.any_cons]
  cases fl with
  | true =>
   rw [if_pos rfl, ih (j + 1) true (by omega)]
   simp only [Bool.true_or]
  | false =>
   rw [if_neg (by simp), if_pos (by omega), rdW out j hlt, Bool.false_or]
   by_cases c : (out[j].f0).toList = w.f0.toList
   ·rw [if_pos c, ih (j + 1) _ (by omega)]
    have c0 := toList_iff.1 c
    have hs : ((out[j].f1).toList == w.f1.toList) = same w out[j] := by
     unfold same
     rw [decide_eq_true c0, Bool.true_and]
     by_cases c1 : out[j].f1 = w.f1
     ·rw [decide_eq_true c1, c1]; simp
     ·rw [decide_eq_false c1]
      exact beq_eq_false_iff_ne.2 (fun h => c1 (toList_iff.1 h))
    rw [hs]
   ·rw [if_neg c, ih (j + 1) _ (by omega)]
    have hs : same w out[j] = false := by
     unfold same
     rw [decide_eq_false (fun h => c (by rw [h])), Bool.false_and]
    rw [hs, Bool.false_or]
theorem wr_l0 (l : List Pt) (most : Nat) (hm : most ≤ 100) (whole : Bool) (hl : ∀ p ∈ l, fits p.f0) (hz : l.length ≤ 4611686018427387904) : ∀ d i (out : List Wr) K, i + d = l.length → out.length ≤ most → (d + 1) * (most + 5) ≤ K →
  tenementlaw22_writes.l0 K l (most : Int) whole out (i : Int) = some (wrs most whole (l.drop i) out) := by
 intro d
 induction d with
 | zero =>
  intro i out K hi ho hK
  obtain ⟨K, rfl⟩ : ∃ m, K = m + 2 := ⟨K - 2, by omega⟩
  have e : l.drop i = [] := List.drop_eq_nil_of_le (by omega)
  rw [tenementlaw22_writes.l0, if_neg (by omega), tenementlaw22_writes.j1, if_neg (by simp), e]
  rfl
 | succ d ih =>
  intro i out K hi ho hK
  have hlt : i < l.length := by omega
  have e : l.drop i = l[i] :: l.drop (i + 1) := List.drop_eq_getElem_cons hlt
  have hK' : (d + 1) * (most + 5) + (most + 5) ≤ K := by
   rw [show (d + 1 + 1) * (most + 5) = (d + 1) * (most + 5) + (most + 5) by rw [Nat.add_mul, Nat.one_mul]] at hK
   exact hK
  have hf : fits l[i].f0 := hl _ (List.getElem_mem _)
  rw [e]
  unfold wrs
  by_cases c : out.length < most
  ·rw [if_pos c]
   obtain ⟨m, hm'⟩ : ∃ m, K = (m + out.length + 1) + 3 ∧ (d + 1) * (most + 5) ≤ m := ⟨K - out.length - 4, by omega, by omega⟩
   rw [hm'.1, tenementlaw22_writes.l0, if_pos (by omega), decide_eq_true (by omega : (out.length : Int) < (most : Int)), tenementlaw22_writes.j1, if_pos rfl, if_pos (by omega), if_pos (by omega), rdP l i hlt]
   have key : ∀ own : Bool, own = (whole || l[i].f1) → tenementlaw22_writes.j2 (m + out.length + 1 + 1) l (most : Int) whole out (i : Int) l[i].f0.f0 l[i].f0.f1 l[i].f0.f2 l[i].f0.f3 own l[i].f2 =
     some (if (whole && out.any (same (wrt l[i] (whole || l[i].f1)))) = true then wrs most whole (l.drop (i + 1)) out else wrs most whole (l.drop (i + 1)) (out ++ [wrt l[i] (whole || l[i].f1)])) := by
    intro own ho'
    rw [tenementlaw22_writes.j2, wrt_f _ _ hf, Option.bind_some]
    show tenementlaw22_writes.l1 (m + out.length + 1) l (most : Int) whole out (i : Int) false 0 (wrt l[i] own).f0 (wrt l[i] own).f1 (wrt l[i] own).f2 (wrt l[i] own).f3 = _
    have h1 := wr_l1 l (most : Int) whole out (i : Int) (wrt l[i] own) (by omega) m out.length 0 false (by omega)
    rw [show ((0 : Nat) : Int) = 0 from rfl] at h1
    rw [h1, List.drop_zero, Bool.false_or, idx i (by omega), ho']
    split
    ·rw [ih (i + 1) out m (by omega) ho hm'.2]
    ·rw [ih (i + 1) _ m (by omega) (by simp; omega) hm'.2]
   cases whole with
   | true =>
    rw [if_pos rfl, key true rfl]
   | false =>
    rw [if_neg (by simp), key _ (by simp)]
  ·rw [if_neg c]
   obtain ⟨m, rfl⟩ : ∃ m, K = m + 2 := ⟨K - 2, by omega⟩
   rw [tenementlaw22_writes.l0, if_pos (by omega), decide_eq_false (by omega : ¬ (out.length : Int) < (most : Int)), tenementlaw22_writes.j1, if_neg (by simp)]
theorem writes_f (l : List Pt) (most : Nat) (hm : most ≤ 100) (whole : Bool) (hl : ∀ p ∈ l, fits p.f0) (hz : l.length ≤ 4611686018427387904) {K : Nat} (hK : (l.length + 1) * (most + 5) ≤ K) :
  tenementlaw22_writes.f K l (most : Int) whole = some (wrs most whole l []) := by
 unfold tenementlaw22_writes.f
 have := wr_l0 l most hm whole hl hz l.length 0 [] K (by omega) (by simp) hK
 rw [show ((0 : Nat) : Int) = 0 from rfl, List.drop_zero] at this
 exact this
end Go.Proofs.Ythjhkcebcgdeoaa.Pure

set_option linter.unusedVariables false
set_option linter.unusedSimpArgs false
namespace Go.Proofs.Ythjhkcebcgdeoaa.Pure
open Go Go.RowKit Go.Proofs.Ythjhkcebcgdeoaa.Q Go.Proofs.YthjhkcebcgdeoaaW.PrintWords Go.Proofs.YthjhkcebcgdeoaaW.PrintLast Go.Proofs.YthjhkcebcgdeoaaW.PrintMore Go.Proofs.Ythjhkcebcgdeoaa.Plain
open Go.Proofs.Ythjhkcebcgdeoaa.Jud (Tx St)
abbrev Dl := S61
theorem deal_own3 (v0 v1 v2 v3 d : Int) (h0 : (Lit.int .u64 v0).wf = true) (h1 : (Lit.int .u64 v1).wf = true) (h2 : (Lit.int .u64 v2).wf = true) (o : Bool) (l : List Pt) (hl : ∀ p ∈ l, fits p.f0) (hz : l.length ≤ 4611686018427387904) {K : Nat} (hK : (l.length + 1) * 15 + 10 ≤ K) :
  ∃ (a b c g e : Nat) (xs : List Wr), tenementlaw22_Deal_deal.f K v0 v1 v2 v3 d o l true = some ((a : Int), (b : Int), (c : Int), (g : Int), (e : Int), xs) ∧ (a ≤ 4 ∧ b ≤ 4 ∧ c ≤ 4 ∧ g ≤ 4) ∧ 1 ≤ e ∧ e ≤ 3 ∧ (∀ x ∈ xs, fits x) ∧ 1 ≤ xs.length ∧ xs.length ≤ 8 := by
 unfold tenementlaw22_Deal_deal.f
 obtain ⟨n0, n1, n2, n3, dc, em, hn4, hd1, hd3, hS⟩ := mark_own (v3 := v3) (d := d) h0 h1 h2 (k := K) (by omega)
 have ew := writes_f l 8 (by omega) true hl hz (K := K) (by omega)
 have hln := wrs_len 8 true l [] (by simp)
 rw [show ((8 : Nat) : Int) = 8 from rfl] at ew
 rw [if_pos rfl, em, Option.bind_some, ew, Option.bind_some]
 by_cases c : ((wrs 8 true l []).length : Int) = 0
 ·rw [if_pos c]
  have z2 : (⟨#[98, 48]⟩ : ByteArray).size = 2 := rfl
  have z1 : (⟨#[97]⟩ : ByteArray).size = 1 := rfl
  have z3 : (⟨#[118]⟩ : ByteArray).size = 1 := rfl
  refine ⟨n0, n1, n2, n3, dc, _, rfl, hn4, hd1, hd3, ?_, by simp, by simp⟩
  intro x hx1
  rw [List.mem_singleton.1 hx1]
  exact ⟨show (⟨#[98, 48]⟩ : ByteArray).size ≤ _ by omega, show (⟨#[97]⟩ : ByteArray).size ≤ _ by omega, show (⟨#[118]⟩ : ByteArray).size ≤ _ by omega⟩
 ·rw [if_neg c]
  exact ⟨n0, n1, n2, n3, dc, _, rfl, hn4, hd1, hd3, wrs_all 8 true fits l [] (fun p hp => wrt_fits p _ (hl p hp)) (by simp), by omega, hln⟩
def OwnN (i : Nat) (t : Tx) : Prop := ((t.f0.f1 = 1 ∧ t.f0.f0.f0 = (i : Int) + 1) ∨ (t.f0.f1 = 2 ∧ t.f0.f0.f1 = (i : Int) + 1) ∨ (t.f0.f1 = 3 ∧ t.f0.f0.f2 = (i : Int) + 1)) ∧ 1 ≤ t.f1.length ∧ t.f1.length ≤ 8 ∧ (∀ x ∈ t.f1, fits x) ∧ (0 ≤ t.f0.f0.f0 ∧ t.f0.f0.f0 ≤ 1000) ∧ (0 ≤ t.f0.f0.f1 ∧ t.f0.f0.f1 ≤ 1000) ∧ (0 ≤ t.f0.f0.f2 ∧ t.f0.f0.f2 ≤ 1000) ∧ (0 ≤ t.f0.f0.f3 ∧ t.f0.f0.f3 ≤ 1000)
def Owned (l : List Tx) : Prop := ∀ i t, l[i]? = some t → OwnN i t
theorem owned_snoc {l : List Tx} {t : Tx} (h : Owned l) (ht : OwnN l.length t) : Owned (l ++ [t]) := by
 intro i x hx
 rcases Nat.lt_trichotomy i l.length with hlt | rfl | hgt
 ·rw [List.getElem?_append_left hlt] at hx
  exact h i x hx
 ·rw [List.getElem?_append_right (Nat.le_refl _), Nat.sub_self] at hx
  obtain rfl := Option.some.inj hx
  exact ht
 ·rw [List.getElem?_append_right (by omega), List.getElem?_eq_none (by simp; omega)] at hx
  cases hx
theorem own_deal (l : List Pt) (hl : ∀ p ∈ l, fits p.f0) (hz : l.length ≤ 4611686018427387904) (v0 v1 v2 v3 d : Int) (h0 : (Lit.int .u64 v0).wf = true) (h1 : (Lit.int .u64 v1).wf = true) (h2 : (Lit.int .u64 v2).wf = true) (o : Bool) (i : Nat) (hi : i < 100) {K : Nat} (hK : (l.length + 1) * 15 + 10 ≤ K) :
  ∃ (a b c g e : Int) (xs : List Wr) (a' b' c' g' : Int), tenementlaw22_Deal_deal.f K v0 v1 v2 v3 d o l true = some (a, b, c, g, e, xs) ∧ vec_With.f a b c g e (IntKind.u64.wrap (wrap64 ((i : Int) + 1))) = some (a', b', c', g') ∧ OwnN i ⟨⟨⟨a', b', c', g'⟩, e⟩, xs⟩ := by
 obtain ⟨a, b, c, g, e, xs, hf, hn, he1, he3, hfx, hx1, hx8⟩ := deal_own3 v0 v1 v2 v3 d h0 h1 h2 o l hl hz hK
 have hw : IntKind.u64.wrap (wrap64 ((i : Int) + 1)) = (i : Int) + 1 := by rw [wrap64_id (by omega) (by omega), IntKind.wrap_u64]; omega
 refine ⟨a, b, c, g, e, xs, _, _, _, _, hf, rfl, ?_⟩
 rw [hw]
 refine ⟨?_, hx1, hx8, hfx, ?_, ?_, ?_, ?_⟩
 ·rcases (show e = 1 ∨ e = 2 ∨ e = 3 by omega) with rfl | rfl | rfl
  ·exact .inl ⟨rfl, rfl⟩
  ·exact .inr (.inl ⟨rfl, rfl⟩)
  ·exact .inr (.inr ⟨rfl, rfl⟩)
 ·show 0 ≤ (if (e : Int) = 1 then (i : Int) + 1 else a) ∧ (if (e : Int) = 1 then (i : Int) + 1 else a) ≤ 1000
  split <;> omega
 ·show 0 ≤ (if (e : Int) = 2 then (i : Int) + 1 else b) ∧ (if (e : Int) = 2 then (i : Int) + 1 else b) ≤ 1000
  split <;> omega
 ·show 0 ≤ (if (e : Int) = 3 then (i : Int) + 1 else c) ∧ (if (e : Int) = 3 then (i : Int) + 1 else c) ≤ 1000
  split <;> omega
 ·show 0 ≤ (if (e : Int) = 4 then (i : Int) + 1 else g) ∧ (if (e : Int) = 4 then (i : Int) + 1 else g) ≤ 1000
  split <;> omega
theorem rd61 (l : List Dl) (j : Nat) (h : j < l.length) : rd_T61 l (j : Int) = l[j] := by
 unfold rd_T61
 rw [Int.toNat_natCast, List.getD_eq_getElem?_getD, List.getElem?_eq_getElem h]
 rfl
end Go.Proofs.Ythjhkcebcgdeoaa.Pure

set_option linter.unusedVariables false
set_option linter.unusedSimpArgs false
namespace Go.Proofs.Ythjhkcebcgdeoaa.Pure
open Go Go.RowKit Go.Proofs.Ythjhkcebcgdeoaa.Q Go.Proofs.YthjhkcebcgdeoaaW.PrintWords Go.Proofs.YthjhkcebcgdeoaaW.PrintLast Go.Proofs.YthjhkcebcgdeoaaW.PrintMore Go.Proofs.Ythjhkcebcgdeoaa.Plain
open Go.Proofs.Ythjhkcebcgdeoaa.Jud (Tx St one lst)
theorem vector_f {v0 v1 v2 v3 : Int} (h0 : (Lit.int .u64 v0).wf = true) (h1 : (Lit.int .u64 v1).wf = true) (h2 : (Lit.int .u64 v2).wf = true) (h3 : (Lit.int .u64 v3).wf = true) (own : Bool) {k : Nat} (hk : 5 ≤ k) :
  ∃ n0 n1 n2 n3 : Int, tenementlaw22_Vector_vector.f k v0 v1 v2 v3 own = some (n0, n1, n2, n3) := by
 have h0 := u64_of h0
 have h1 := u64_of h1
 have h2 := u64_of h2
 have h3 := u64_of h3
 unfold tenementlaw22_Vector_vector.f
 cases own with
 | false =>
  rw [if_neg (by simp)]
  exact ⟨_, _, _, _, rfl⟩
 | true =>
  rw [if_pos rfl]
  obtain ⟨k, rfl⟩ : ∃ m, k = m + 5 := ⟨k - 5, by omega⟩
  have e : tenementlaw22_Vector_vector.l0 (k + 5) 0 v0 v1 v2 v3 true = some (Int.tmod v0 4, Int.tmod v1 4, Int.tmod v2 4, Int.tmod v3 4) := by
   rw [tenementlaw22_Vector_vector.l0, if_pos (by omega), if_pos rfl, show wrap64 (0 + 1) = 1 from wrap64_id (by omega) (by omega)]
   rw [tenementlaw22_Vector_vector.l0, if_pos (by omega), if_neg (by omega), if_pos rfl, show wrap64 (1 + 1) = 2 from wrap64_id (by omega) (by omega)]
   rw [tenementlaw22_Vector_vector.l0, if_pos (by omega), if_neg (by omega), if_neg (by omega), if_pos rfl, show wrap64 (2 + 1) = 3 from wrap64_id (by omega) (by omega)]
   rw [tenementlaw22_Vector_vector.l0, if_pos (by omega), if_neg (by omega), if_neg (by omega), if_neg (by omega), if_pos rfl, show wrap64 (3 + 1) = 4 from wrap64_id (by omega) (by omega)]
   rw [tenementlaw22_Vector_vector.l0, if_neg (by omega)]
  exact ⟨_, _, _, _, e⟩
def MadeN (K : Nat) (p : Dl) (i : Nat) (t : Tx) : Prop := ∃ a b c g : Int, tenementlaw22_Deal_deal.f K p.f0.f0.f0.f0 p.f0.f0.f0.f1 p.f0.f0.f0.f2 p.f0.f0.f0.f3 p.f0.f0.f1 p.f0.f1 p.f1 true = some (a, b, c, g, t.f0.f1, t.f1) ∧ vec_With.f a b c g t.f0.f1 ((i : Int) + 1) = some (t.f0.f0.f0, t.f0.f0.f1, t.f0.f0.f2, t.f0.f0.f3)
theorem deals_most (x : List Dl) : ∃ M, ∀ p ∈ x, (p.f1.length + 1) * 15 + 10 ≤ M := by
 induction x with
 | nil => exact ⟨0, by simp⟩
 | cons p r ih =>
  obtain ⟨M, hM⟩ := ih
  refine ⟨M + ((p.f1.length + 1) * 15 + 10), fun q hq => ?_⟩
  rcases List.mem_cons.1 hq with rfl | hq
  ·omega
  ·have := hM q hq; omega
theorem rd_left (l : List Tx) (t : Tx) (i : Nat) (h : i < l.length) : rd_T64 (l ++ [t]) (i : Int) = rd_T64 l (i : Int) := by
 unfold rd_T64
 rw [Int.toNat_natCast, List.getD_eq_getElem?_getD, List.getD_eq_getElem?_getD, List.getElem?_append_left h]
theorem rd_last (l : List Tx) (t : Tx) : rd_T64 (l ++ [t]) (l.length : Int) = t := by
 unfold rd_T64
 rw [Int.toNat_natCast, List.getD_eq_getElem?_getD, List.getElem?_append_right (Nat.le_refl _), Nat.sub_self]
 rfl
theorem made_ex (x : List Dl) (hx : ∀ p ∈ x, wf61 p) {M K : Nat} (hM : ∀ p ∈ x, (p.f1.length + 1) * 15 + 10 ≤ M) (hK : M ≤ K) : ∀ n, n ≤ x.length → n ≤ 10 →
  ∃ al : List Tx, al.length = n ∧ Owned al ∧ ∀ i : Nat, i < al.length → MadeN K (rd_T61 x i) i (rd_T64 al i) := by
 intro n
 induction n with
 | zero => exact fun _ _ => ⟨[], rfl, fun i t h => by simp at h, fun i h => absurd h (Nat.not_lt_zero _)⟩
 | succ n ih =>
  intro h1 h2
  obtain ⟨al, hl, hO, hm⟩ := ih (by omega) (by omega)
  have hrd := rd61 x n (by omega)
  have hmem : x[n]'(by omega) ∈ x := List.getElem_mem _
  have hw := hx _ hmem
  have hMk := hM _ hmem
  rw [← hrd] at hw hMk
  obtain ⟨p, hp⟩ : ∃ p, p = rd_T61 x (n : Int) := ⟨_, rfl⟩
  rw [← hp] at hw hMk
  obtain ⟨⟨⟨⟨v0, v1, v2, v3⟩, dd⟩, o⟩, ps, own⟩ := p
  have hl' : ∀ p ∈ ps, fits p.f0 := fun p hp => ⟨(hw.2.1.1 p hp).1.1, (hw.2.1.1 p hp).1.2.1, (hw.2.1.1 p hp).1.2.2.1⟩
  have hps : ps.length * 64 ≤ 140737488351232 := hw.2.1.2
  obtain ⟨a, b, c', g, e, xs, a', b', c'', g', hf, hwith, hown⟩ := own_deal ps hl' (by omega) v0 v1 v2 v3 dd hw.1.1.1.1 hw.1.1.1.2.1 hw.1.1.1.2.2.1 o n (by omega) (K := K) (by simp only at hMk; omega)
  rw [show IntKind.u64.wrap (wrap64 ((n : Int) + 1)) = (n : Int) + 1 by rw [wrap64_id (by omega) (by omega), IntKind.wrap_u64]; omega] at hwith
  refine ⟨al ++ [⟨⟨⟨a', b', c'', g'⟩, e⟩, xs⟩], by simp [hl], owned_snoc hO (by rw [hl]; exact hown), fun i hi => ?_⟩
  by_cases c : i < al.length
  ·rw [rd_left al _ i c]
   exact hm i c
  ·have hin : i = n := by rw [List.length_append, List.length_singleton] at hi; omega
   subst hin
   rw [← hp, ← hl, rd_last, hl]
   exact ⟨a, b, c', g, hf, hwith⟩
def sn (a b c d : Int) (x : St) : Bool := decide (x.f0.f0 ≤ a ∧ x.f0.f1 ≤ b ∧ x.f0.f2 ≤ c ∧ x.f0.f3 ≤ d)
theorem wrs_allf (is : St → Bool) (b k : ByteArray) : ∀ l : List Tx, Jud.wrs is b k l = Jud.wrs (fun _ => true) b k (l.filter fun t => is t.f0)
 | [] => rfl
 | x :: l => by
  have h := wrs_allf is b k l
  unfold Jud.wrs at h ⊢
  rw [List.flatMap_cons, h, List.filter_cons]
  cases c : is x.f0 with
  | true =>
   rw [if_pos rfl, List.flatMap_cons]
   congr 1
   unfold one
   rw [c]
  | false =>
   rw [if_neg (by simp)]
   unfold one
   rw [c]
   simp
theorem lst_all (is : St → Bool) (od : St → St → Int) (b k : ByteArray) (l : List Tx) : lst is od b k l = lst (fun _ => true) od b k (l.filter fun t => is t.f0) := by
 unfold lst
 rw [wrs_allf is b k l]
theorem lst_none (is : St → Bool) (od : St → St → Int) (b k : ByteArray) (l : List Tx) (h : ∀ t ∈ l, is t.f0 = false) : lst is od b k l = ⟨⟨#[]⟩, ⟨#[]⟩, ⟨#[]⟩, true⟩ := by
 rw [lst_all is od b k l, show (l.filter fun t => is t.f0) = [] from List.filter_eq_nil_iff.2 (fun t ht => by rw [h t ht]; simp)]
 rfl
theorem owned_small {l : List Tx} (h : Owned l) (hl : l.length ≤ 10) : l.length ≤ 1000000 ∧ ∀ x ∈ l, x.f1.length ≤ 1000 := by
 refine ⟨by omega, fun x hx => ?_⟩
 obtain ⟨i, hi⟩ := List.mem_iff_getElem?.1 hx
 have := (h i x hi).2.2.1
 omega
end Go.Proofs.Ythjhkcebcgdeoaa.Pure
