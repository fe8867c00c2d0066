import Derived.Test.YthjhkcebcgdeoaaGJudgeTells12
import Derived.Test.YthjhkcebcgdeoaaGJudgeTells8
import Derived.Test.YthjhkcebcgdeoaaGJudgeTells13
import Derived.Test.YthjhkcebcgdeoaaGJudgeTells7
import Derived.Test.YthjhkcebcgdeoaaGJudgeTells5
import Derived.Test.YthjhkcebcgdeoaaGJudgeTells4
set_option linter.unusedVariables false
set_option linter.unusedSimpArgs false
namespace Go.Proofs.Ythjhkcebcgdeoaa.Pure
open Go Go.RowKit Go.Proofs.Ythjhkcebcgdeoaa.Q Go.Proofs.YthjhkcebcgdeoaaW.PrintWords Go.Proofs.YthjhkcebcgdeoaaW.PrintLast Go.Proofs.YthjhkcebcgdeoaaW.PrintMore Go.Proofs.Ythjhkcebcgdeoaa.Plain
open Go.Proofs.Ythjhkcebcgdeoaa.Jud (Tx St Wn one lst allS hit srt put past idxs byStamp srt_length idxs_length isN nOfT vl good closedJ)
theorem rsame_l0 (a b c d e a' b' c' d' e' : Int) (xs ys : List Wr) (hl : xs.length = ys.length) (hz : xs.length ≤ 1000) (K : Nat) : ∀ m i, i + m = xs.length →
  tenementref08_Same.l0 (K + m + 1) (i : Int) a b c d e (xs.map rw_) a' b' c' d' e' (ys.map rw_) = some (eqb (xs.drop i) (ys.drop i)) := by
 have hm1 : ((xs.map rw_).length : Int) = (xs.length : Int) := by rw [List.length_map]
 have hm2 : ((ys.map rw_).length : Int) = (ys.length : Int) := by rw [List.length_map]
 intro m
 induction m with
 | zero =>
  intro i hi
  rw [Nat.add_zero, tenementref08_Same.l0, if_neg (by omega), List.drop_eq_nil_of_le (by omega)]
  rfl
 | succ m ih =>
  intro i hi
  have h1 : i < xs.length := by omega
  have h2 : i < ys.length := by omega
  have e1 : xs.drop i = xs[i] :: xs.drop (i + 1) := List.drop_eq_getElem_cons h1
  have e2 : ys.drop i = ys[i] :: ys.drop (i + 1) := List.drop_eq_getElem_cons h2
  rw [show K + (m + 1) + 1 = (K + m + 1) + 1 by omega, tenementref08_Same.l0, if_pos (by omega), if_pos (by omega), if_pos (by omega), rdMW xs i h1, rdMW ys i h2, neq_eq, e1, e2]
  show (if (!weq xs[i] ys[i]) = true then _ else _) = some (weq xs[i] ys[i] && _)
  cases weq xs[i] ys[i] with
  | true => rw [if_neg (by simp), idxj i (by omega), ih (i + 1) (by omega)]; rfl
  | false => rw [if_pos (show (!false) = true from rfl)]; rfl
theorem rsame_f (a b c d e : Int) (xs : List Wr) (a' b' c' d' e' : Int) (ys : List Wr) (hz : xs.length ≤ 1000) {k : Nat} (hk : xs.length + 2 ≤ k) : tenementref08_Same.f k a b c d e (xs.map rw_) a' b' c' d' e' (ys.map rw_) = some (sameJ a b c d e xs a' b' c' d' e' ys) := by
 have hm1 : ((xs.map rw_).length : Int) = (xs.length : Int) := by rw [List.length_map]
 have hm2 : ((ys.map rw_).length : Int) = (ys.length : Int) := by rw [List.length_map]
 obtain ⟨K, rfl⟩ : ∃ m, k = (m + xs.length + 1) + 1 := ⟨k - xs.length - 2, by omega⟩
 unfold tenementref08_Same.f sameJ
 rw [neq5]
 cases ((a == a' && (b == b' && (c == c' && (d == d')))) && (e == e')) with
 | false => rw [if_pos (show (!false) = true from rfl), tenementref08_Same.j0, if_pos rfl]; rfl
 | true =>
  rw [if_neg (by simp), Bool.true_and, tenementref08_Same.j0, hm1, hm2]
  by_cases hl : xs.length = ys.length
  ·have h := rsame_l0 a b c d e a' b' c' d' e' xs ys hl hz K xs.length 0 (by omega)
   rw [show ((0 : Nat) : Int) = 0 from rfl, List.drop_zero, List.drop_zero] at h
   have hb : ((xs.length : Int) != (ys.length : Int)) = false := by rw [hl]; exact bne_self_eq_false _
   rw [hb, if_neg (by simp), h, decide_eq_true hl, Bool.true_and]
  ·have hb : ((xs.length : Int) != (ys.length : Int)) = true := bne_iff_ne.2 (by omega)
   rw [hb, if_pos rfl, decide_eq_false hl]; rfl
theorem wr1 {n : Nat} (hn : n ≤ 100000) : wrap64 ((n : Int) + 1) = ((n + 1 : Nat) : Int) := by rw [wrap64_id (by omega) (by omega)]; omega
def sm2 (x y : Tx) : Bool := sameJ x.f0.f0.f0 x.f0.f0.f1 x.f0.f0.f2 x.f0.f0.f3 x.f0.f1 x.f1 y.f0.f0.f0 y.f0.f0.f1 y.f0.f0.f2 y.f0.f0.f3 y.f0.f1 y.f1
section
variable (a b : List Tx)
theorem sub_l1 (hb12 : b.length ≤ 12) {i : Nat} (hi : i < a.length) (hi2 : a.length ≤ 12) (h10 : a[i].f1.length ≤ 10) (B : Nat) (hB : 16 ≤ B) (r : Bool) (hr : ∀ K', B ≤ K' → tenementref22_Subset.l0 K' (a.map rt_) (b.map rt_) ((i + 1 : Nat) : Int) = some r) :
  ∀ (d j K : Nat) (t : Bool), j + d = b.length → B + d + 1 ≤ K → tenementref22_Subset.l1 K (a.map rt_) (b.map rt_) i t j = some ((t || (b.drop j).any (sm2 a[i])) && r) := by
 intro d
 induction d with
 | zero =>
  intro j K t hj hK
  obtain ⟨K, rfl⟩ : ∃ q, K = q + 1 := ⟨K - 1, by omega⟩
  rw [tenementref22_Subset.l1, if_neg (by rw [List.length_map]; omega), List.drop_of_length_le (by omega), wr1 (by omega)]
  cases t with
  | true => rw [if_pos rfl, hr K (by omega)]; rfl
  | false => rw [if_neg (by simp)]; rfl
 | succ d ih =>
  intro j K t hj hK
  obtain ⟨K, rfl⟩ : ∃ q, K = q + 1 := ⟨K - 1, by omega⟩
  have hjl : j < b.length := by omega
  have hdrop : b.drop j = b[j] :: b.drop (j + 1) := List.drop_eq_getElem_cons hjl
  rw [tenementref22_Subset.l1, if_pos (by rw [List.length_map]; omega), wr1 (by omega)]
  cases t with
  | true =>
   rw [if_pos rfl, ih (j + 1) K true (by omega) (by omega)]
   rfl
  | false =>
   rw [if_neg (by simp), if_pos (by omega), if_pos (by rw [List.length_map]; omega), if_pos (by omega), rdM a i hi, rdM b j hjl]
   show (tenementref08_Same.f K a[i].f0.f0.f0 a[i].f0.f0.f1 a[i].f0.f0.f2 a[i].f0.f0.f3 a[i].f0.f1 (a[i].f1.map rw_) b[j].f0.f0.f0 b[j].f0.f0.f1 b[j].f0.f0.f2 b[j].f0.f0.f3 b[j].f0.f1 (b[j].f1.map rw_)).bind _ = _
   rw [rsame_f _ _ _ _ _ _ _ _ _ _ _ _ (by omega) (by omega), Option.bind_some, ih (j + 1) K _ (by omega) (by omega), hdrop, List.any_cons, Bool.false_or]
   rfl
theorem sub_l0 (ha12 : a.length ≤ 12) (hb12 : b.length ≤ 12) (ha : ∀ t ∈ a, t.f1.length ≤ 10) : ∀ (d i K : Nat), i + d = a.length → d * 16 + 20 ≤ K → tenementref22_Subset.l0 K (a.map rt_) (b.map rt_) i = some ((a.drop i).all fun x => b.any (sm2 x)) := by
 intro d
 induction d with
 | zero =>
  intro i K hi hK
  obtain ⟨K, rfl⟩ : ∃ q, K = q + 1 := ⟨K - 1, by omega⟩
  rw [tenementref22_Subset.l0, if_neg (by rw [List.length_map]; omega), List.drop_of_length_le (by omega)]
  rfl
 | succ d ih =>
  intro i K hi hK
  obtain ⟨K, rfl⟩ : ∃ q, K = q + 1 := ⟨K - 1, by omega⟩
  have hil : i < a.length := by omega
  have hdrop : a.drop i = a[i] :: a.drop (i + 1) := List.drop_eq_getElem_cons hil
  rw [tenementref22_Subset.l0, if_pos (by rw [List.length_map]; omega), hdrop, List.all_cons]
  have := sub_l1 a b hb12 hil ha12 (ha _ (List.getElem_mem hil)) (d * 16 + 20) (by omega) _ (fun K' hK' => ih (i + 1) K' (by omega) hK') b.length 0 K false (by omega) (by omega)
  rw [List.drop_zero, Bool.false_or] at this
  exact this
theorem rsub_f (ha12 : a.length ≤ 12) (hb12 : b.length ≤ 12) (ha : ∀ t ∈ a, t.f1.length ≤ 10) (hb : ∀ t ∈ b, t.f1.length ≤ 10) {K : Nat} (hK : 250 ≤ K) : ∃ p, judge_Subset.f a b = some p ∧ tenementref22_Subset.f K (a.map rt_) (b.map rt_) = some p := by
 refine ⟨a.all fun x => b.any (sm2 x), ?_, ?_⟩
 ·unfold judge_Subset.f
  rw [if_pos ⟨(show judge_Subset.ok a from ⟨by omega, fun t ht => by have := ha t ht; omega⟩), (show judge_Subset.ok b from ⟨by omega, fun t ht => by have := hb t ht; omega⟩)⟩]
  rfl
 ·have := sub_l0 a b ha12 hb12 ha a.length 0 K (by omega) (by omega)
  rw [List.drop_zero] at this
  exact this
end
section
variable (l : List Tx)
def insAt (cf : Int → Int → Int) (x : Int) (o : List Int) : Nat → List Int
 | 0 => [x] ++ o
 | n + 1 => if cf x (rd o (n : Int)) < 0 then insAt cf x o n else o.take (n + 1) ++ [x] ++ o.drop (n + 1)
theorem insAt_past (cf : Int → Int → Int) (x : Int) (o : List Int) : ∀ n, n ≤ o.length → (past cf x (o.take n).reverse).reverse ++ o.drop n = insAt cf x o n := by
 intro n
 induction n with
 | zero => intro _; rw [List.take_zero, List.drop_zero]; rfl
 | succ n ih =>
  intro hn
  have hx : o[n]? = some o[n] := List.getElem?_eq_getElem (by omega)
  rw [insAt, rdI hx, List.take_add_one, hx]
  show (past cf x (o.take n ++ [o[n]]).reverse).reverse ++ o.drop (n + 1) = _
  rw [List.reverse_append]
  show (past cf x (o[n] :: (o.take n).reverse)).reverse ++ o.drop (n + 1) = _
  rw [past]
  by_cases c : cf x o[n] < 0
  ·rw [if_pos c, if_pos c, ← ih (by omega), List.reverse_cons, List.append_assoc]
   congr 1
   exact (List.drop_eq_getElem_cons (show n < o.length by omega)).symm
  ·rw [if_neg c, if_neg c, List.reverse_cons, List.reverse_cons, List.reverse_reverse]
   rfl
theorem put_at (cf : Int → Int → Int) (o : List Int) (x : Int) : put cf o x = insAt cf x o o.length := by
 rw [← insAt_past cf x o o.length (Nat.le_refl _), List.take_of_length_le (Nat.le_refl _), List.drop_of_length_le (Nat.le_refl _), List.append_nil]
 rfl
theorem ord_l1 (h12 : l.length ≤ 12) (hw : ∀ t ∈ l, wfT t) {i : Nat} (hi : i < l.length) (o : List Int) (hol : o.length ≤ 12) (hor : ∀ y ∈ o, 0 ≤ y ∧ y < l.length) (B : Nat) (hB : 6 ≤ B) (r : Option (List Int)) :
  ∀ (n K : Nat), n ≤ o.length → B + n + 1 ≤ K → (∀ K', B ≤ K' → tenementref22_Order.l0 K' (l.map rt_) (insAt (byStamp odT l) i o n) ((i + 1 : Nat) : Int) = r) → tenementref22_Order.l1 K (l.map rt_) o i n = r := by
 intro n
 have put1 : ∀ (K n : Nat), n ≤ o.length → (if 0 ≤ (n : Int) then (if (n : Int) ≤ (o.length : Int) then ((some (o.take (n : Int).toNat : List Int)).bind fun y252 => (if ([] : List Int).length + y252.length < 17592186044416 then ((some (([] : List Int) ++ y252 : List Int)).bind fun y256 => (if y256.length < 17592186044416 then ((some (y256 ++ [(i : Int)] : List Int)).bind fun y259 => ((some (o.drop (n : Int).toNat : List Int)).bind fun y262 => (if y259.length + y262.length < 17592186044416 then (tenementref22_Order.l0 K (l.map rt_) (y259 ++ y262) (wrap64 ((i : Int) + 1))) else (none)))) else (none))) else (none))) else (none)) else (none)) = tenementref22_Order.l0 K (l.map rt_) (o.take n ++ [(i : Int)] ++ o.drop n) ((i + 1 : Nat) : Int) := by
  intro K n hn
  have ht : (o.take n).length ≤ 12 := by rw [List.length_take]; omega
  have hd : (o.drop n).length ≤ 12 := by rw [List.length_drop]; omega
  rw [if_pos (by omega), if_pos (by omega), Option.bind_some, Int.toNat_natCast, List.length_nil, if_pos (by omega), Option.bind_some, List.nil_append, if_pos (by omega), Option.bind_some, Option.bind_some, if_pos (by rw [List.length_append, List.length_singleton]; omega), wr1 (by omega)]
 induction n with
 | zero =>
  intro K hn hK hr
  obtain ⟨K, rfl⟩ : ∃ q, K = q + 1 := ⟨K - 1, by omega⟩
  rw [tenementref22_Order.l1, if_neg (by omega)]
  refine (put1 K 0 (by omega)).trans ?_
  rw [List.take_zero, List.drop_zero, List.nil_append]
  exact hr K (by omega)
 | succ n ih =>
  intro K hn hK hr
  obtain ⟨K, rfl⟩ : ∃ q, K = q + 1 := ⟨K - 1, by omega⟩
  have hn1 : wrap64 (((n + 1 : Nat) : Int) - 1) = (n : Int) := by rw [wrap64_id (by omega) (by omega)]; omega
  have hx : o[n]? = some o[n] := List.getElem?_eq_getElem (by omega)
  have hox := hor _ (List.getElem_mem (show n < o.length by omega))
  rw [tenementref22_Order.l1, if_pos (by omega), hn1, if_pos (by omega), if_pos (by omega), rdI hx]
  rw [insAt, rdI hx] at hr
  generalize o[n] = y at hox hr
  obtain ⟨y, rfl⟩ : ∃ m : Nat, y = (m : Int) := ⟨y.toNat, by omega⟩
  have hyl : y < l.length := by omega
  have hxl := Jud.rd64_eq l y hyl
  have hxi := Jud.rd64_eq l i hi
  have ey : rd_T64 l (y : Int) = l[y] := (Option.some.inj (hxl.symm.trans (List.getElem?_eq_getElem hyl)))
  have ei : rd_T64 l (i : Int) = l[i] := (Option.some.inj (hxi.symm.trans (List.getElem?_eq_getElem hi)))
  rw [if_pos (by omega), if_pos (by rw [List.length_map]; omega), if_pos (by omega), if_pos (by rw [List.length_map]; omega), rdM l y hyl, rdM l i hi]
  show (tenementref07_Order.f K l[y].f0.f0.f0 l[y].f0.f0.f1 l[y].f0.f0.f2 l[y].f0.f0.f3 l[y].f0.f1 l[i].f0.f0.f0 l[i].f0.f0.f1 l[i].f0.f0.f2 l[i].f0.f0.f3 l[i].f0.f1).bind _ = _
  rw [rorder_f l[y].f0 l[i].f0 (hw _ (List.getElem_mem hyl)).1 (hw _ (List.getElem_mem hi)).1 (by omega), Option.bind_some]
  have hneg := odT_neg l[i].f0 l[y].f0
  have hcf : byStamp odT l (i : Int) (y : Int) = odT l[i].f0 l[y].f0 := by unfold byStamp; rw [ey, ei]
  rw [hcf] at hr
  by_cases c : odT l[i].f0 l[y].f0 < 0
  ·rw [if_pos (by omega)]
   rw [if_pos c] at hr
   exact ih K (by omega) (by omega) hr
  ·rw [if_neg (by omega)]
   rw [if_neg c] at hr
   exact (put1 K (n + 1) hn).trans (hr K (by omega))
theorem ord_l0 (h12 : l.length ≤ 12) (hw : ∀ t ∈ l, wfT t) : ∀ (d i K : Nat), i + d = l.length → d * 16 + 20 ≤ K → tenementref22_Order.l0 K (l.map rt_) (srt (byStamp odT l) (idxs i)) i = some (srt (byStamp odT l) (idxs l.length)) := by
 intro d
 induction d with
 | zero =>
  intro i K hi hK
  obtain ⟨K, rfl⟩ : ∃ q, K = q + 1 := ⟨K - 1, by omega⟩
  rw [tenementref22_Order.l0, if_neg (by rw [List.length_map]; omega), show i = l.length by omega]
 | succ d ih =>
  intro i K hi hK
  obtain ⟨K, rfl⟩ : ∃ q, K = q + 1 := ⟨K - 1, by omega⟩
  have hol : (srt (byStamp odT l) (idxs i)).length = i := by rw [srt_length, idxs_length]
  have hneg : ∀ p q, byStamp odT l q p = -byStamp odT l p q := fun p q => odT_neg _ _
  obtain ⟨_, c2⟩ := ch_srt (byStamp odT l) hneg i
  rw [tenementref22_Order.l0, if_pos (by rw [List.length_map]; omega)]
  refine ord_l1 l h12 hw (by omega) _ (by omega) (fun y hy => by have := c2 y hy; omega) (d * 16 + 20) (by omega) _ _ K (Nat.le_refl _) (by rw [hol]; omega) (fun K' hK' => ?_)
  have e : srt (byStamp odT l) (idxs (i + 1)) = put (byStamp odT l) (srt (byStamp odT l) (idxs i)) (i : Int) := by rw [← Go.Proofs.Ythjhkcebcgdeoaa.Jud.idxs_snoc, Go.Proofs.Ythjhkcebcgdeoaa.Jud.srt_snoc]
  rw [← put_at, ← e]
  exact ih (i + 1) K' (by omega) hK'
theorem rorders_f (h12 : l.length ≤ 12) (hw : ∀ t ∈ l, wfT t) {K : Nat} (hK : 250 ≤ K) : ∃ os, judge_Order.f l = some os ∧ tenementref22_Order.f K (l.map rt_) = some os ∧ os.length ≤ 1000 := by
 refine ⟨srt (byStamp odT l) (idxs l.length), ?_, ?_, by rw [srt_length, idxs_length]; omega⟩
 ·unfold judge_Order.f
  rw [if_pos (show judge_Order.ok l from ⟨h12, fun t ht => by have := (hw t ht).2.2.2; omega⟩)]
  rfl
 ·exact ord_l0 l h12 hw l.length 0 K (by omega) (by omega)
end
section
variable (l : List Tx) (s0 s1 s2 s3 : Int)
def sn4 (x : St) : Bool := decide (x.f0.f0 ≤ s0 ∧ x.f0.f1 ≤ s1 ∧ x.f0.f2 ≤ s2 ∧ x.f0.f3 ≤ s3)
theorem cl_l2 (h12 : l.length ≤ 12) (dc most n : Int) (B : Nat) (hB : 6 ≤ B) (r : Bool) (hr : ∀ K', B ≤ K' → tenementref22_Closed.l1 K' (l.map rt_) dc most (IntKind.u64.wrap (n + 1)) s0 s1 s2 s3 = some r) :
  ∀ (d i K : Nat) (t : Bool), i + d = l.length → B + 2 * d + 1 ≤ K → tenementref22_Closed.l2 K (l.map rt_) dc most n t i s0 s1 s2 s3 = some (((l.drop i).all fun x => !isN dc n x || sn4 s0 s1 s2 s3 x.f0) && ((t || (l.drop i).any (isN dc n)) && r)) := by
 intro d
 induction d with
 | zero =>
  intro i K t hi hK
  obtain ⟨K, rfl⟩ : ∃ q, K = q + 1 := ⟨K - 1, by omega⟩
  rw [tenementref22_Closed.l2, if_neg (by rw [List.length_map]; omega), List.drop_of_length_le (by omega)]
  cases t with
  | true => rw [if_pos rfl, hr K (by omega)]; rfl
  | false => rw [if_neg (by simp)]; rfl
 | succ d ih =>
  intro i K t hi hK
  obtain ⟨K, rfl⟩ : ∃ q, K = q + 2 := ⟨K - 2, by omega⟩
  have hil : i < l.length := by omega
  have hdrop : l.drop i = l[i] :: l.drop (i + 1) := List.drop_eq_getElem_cons hil
  have hj : ∀ q : Bool, q = isN dc n l[i] → tenementref22_Closed.j3 (K + 1) (l.map rt_) dc most n t i q s0 s1 s2 s3 = some (((l.drop i).all fun x => !isN dc n x || sn4 s0 s1 s2 s3 x.f0) && ((t || (l.drop i).any (isN dc n)) && r)) := by
   intro q hq
   rw [hdrop, List.all_cons, List.any_cons, ← hq, tenementref22_Closed.j3, wr1 (by omega)]
   cases q with
   | false =>
    rw [if_neg (by simp), ih (i + 1) K t (by omega) (by omega)]
    simp
   | true =>
    rw [if_pos rfl, if_pos (by omega), if_pos (by rw [List.length_map]; omega), rdM l i hil]
    show (tenementref07_Seen.f K l[i].f0.f0.f0 l[i].f0.f0.f1 l[i].f0.f0.f2 l[i].f0.f0.f3 l[i].f0.f1 s0 s1 s2 s3).bind _ = _
    rw [rseen_f _ _ _ _ _ _ _ _ _ (by omega), Option.bind_some]
    show (if sn4 s0 s1 s2 s3 l[i].f0 = true then _ else _) = _
    cases sn4 s0 s1 s2 s3 l[i].f0 with
    | true => rw [if_pos rfl, ih (i + 1) K true (by omega) (by omega)]; simp
    | false => rw [if_neg (by simp)]; simp
  rw [tenementref22_Closed.l2, if_pos (by rw [List.length_map]; omega), if_pos (by omega), rdM l i hil]
  show (if l[i].f0.f1 = dc then _ else _) = _
  by_cases c : l[i].f0.f1 = dc
  ·rw [if_pos c]
   show (tenementref07_Stamp_N.f l[i].f0.f0.f0 l[i].f0.f0.f1 l[i].f0.f0.f2 l[i].f0.f0.f3 l[i].f0.f1).bind _ = _
   rw [show tenementref07_Stamp_N.f l[i].f0.f0.f0 l[i].f0.f0.f1 l[i].f0.f0.f2 l[i].f0.f0.f3 l[i].f0.f1 = some (nOfT l[i]) from rfl, Option.bind_some]
   refine hj _ ?_
   unfold isN
   rw [Bool.eq_iff_iff, beq_iff_eq, decide_eq_true_iff]
   exact ⟨fun h => ⟨c, h⟩, fun h => h.2⟩
  ·rw [if_neg c]
   refine hj _ ?_
   unfold isN
   exact (decide_eq_false (fun h => c h.1)).symm
theorem cl_l1 (h12 : l.length ≤ 12) (dc : Int) (most : Nat) (hm : most ≤ 4096) (B : Nat) (hB : 6 ≤ B) (r : Bool) (hr : ∀ K', B ≤ K' → tenementref22_Closed.l0 K' (l.map rt_) (wrap64 (dc + 1)) s0 s1 s2 s3 = some r) :
  ∀ (d m K : Nat), m + d = most → B + 30 * d + 1 ≤ K → tenementref22_Closed.l1 K (l.map rt_) dc most ((m + 1 : Nat) : Int) s0 s1 s2 s3 = some (((List.range' m d).all fun n => vl (sn4 s0 s1 s2 s3) l dc ((n : Int) + 1)) && r) := by
 intro d
 induction d with
 | zero =>
  intro m K hmd hK
  obtain ⟨K, rfl⟩ : ∃ q, K = q + 1 := ⟨K - 1, by omega⟩
  rw [tenementref22_Closed.l1, if_neg (by omega), hr K (by omega)]
  rfl
 | succ d ih =>
  intro m K hmd hK
  obtain ⟨K, rfl⟩ : ∃ q, K = q + 1 := ⟨K - 1, by omega⟩
  have hwr : IntKind.u64.wrap (((m + 1 : Nat) : Int) + 1) = ((m + 1 + 1 : Nat) : Int) := by rw [IntKind.wrap_u64]; omega
  rw [tenementref22_Closed.l1, if_pos (by omega)]
  have := cl_l2 l s0 s1 s2 s3 h12 dc most ((m + 1 : Nat) : Int) (B + 30 * d + 1) (by omega) _ (fun K' hK' => by rw [hwr]; exact ih (m + 1) K' (by omega) hK') l.length 0 K false (by omega) (by omega)
  refine Eq.trans this ?_
  rw [List.drop_zero, List.range'_succ, List.all_cons]
  unfold vl
  rw [show ((m + 1 : Nat) : Int) = (m : Int) + 1 by omega, Bool.false_or]
  congr 1
  generalize (l.all fun x => !isN dc ((m : Int) + 1) x || sn4 s0 s1 s2 s3 x.f0) = p
  generalize l.any (isN dc ((m : Int) + 1)) = q
  cases p <;> cases q <;> simp
theorem cl_l0 (h12 : l.length ≤ 12) (h0 : 0 ≤ s0) (h1 : 0 ≤ s1) (h2 : 0 ≤ s2) (h3 : 0 ≤ s3) : ∀ (d c K : Nat), c + d = 4 → d * 150000 + 20 ≤ K → tenementref22_Closed.l0 K (l.map rt_) ((c + 1 : Nat) : Int) s0 s1 s2 s3 = some ((List.range' c d).all fun x => good (sn4 s0 s1 s2 s3) l s0 s1 s2 s3 (x + 1)) := by
 intro d
 induction d with
 | zero =>
  intro c K hc hK
  obtain ⟨K, rfl⟩ : ∃ q, K = q + 1 := ⟨K - 1, by omega⟩
  rw [tenementref22_Closed.l0, if_neg (by omega)]
  rfl
 | succ d ih =>
  intro c K hc hK
  obtain ⟨K, rfl⟩ : ∃ q, K = q + 1 := ⟨K - 1, by omega⟩
  rw [tenementref22_Closed.l0, if_pos (by omega), show tenementref06_At.f s0 s1 s2 s3 ((c + 1 : Nat) : Int) = some (nOf s0 s1 s2 s3 ((c + 1 : Nat) : Int)) from rfl, Option.bind_some, List.range'_succ, List.all_cons]
  have hnn : 0 ≤ nOf s0 s1 s2 s3 ((c + 1 : Nat) : Int) := Jud.nOf_nonneg h0 h1 h2 h3 _
  by_cases g : nOf s0 s1 s2 s3 ((c + 1 : Nat) : Int) > 4096
  ·rw [if_pos g]
   have : good (sn4 s0 s1 s2 s3) l s0 s1 s2 s3 (c + 1) = false := by
    unfold good
    rw [decide_eq_false (by omega), Bool.false_and]
   rw [this, Bool.false_and]
  ·rw [if_neg g]
   have hg : good (sn4 s0 s1 s2 s3) l s0 s1 s2 s3 (c + 1) = (List.range (nOf s0 s1 s2 s3 ((c + 1 : Nat) : Int)).toNat).all (fun m => vl (sn4 s0 s1 s2 s3) l ((c + 1 : Nat) : Int) ((m : Int) + 1)) := by
    unfold good
    rw [decide_eq_true (by omega), Bool.true_and]
   rw [hg]
   generalize nOf s0 s1 s2 s3 ((c + 1 : Nat) : Int) = v at hnn g ⊢
   obtain ⟨v, rfl⟩ : ∃ m : Nat, v = (m : Int) := ⟨v.toNat, by omega⟩
   rw [Int.toNat_natCast, List.range_eq_range']
   have hwr : wrap64 (((c + 1 : Nat) : Int) + 1) = ((c + 1 + 1 : Nat) : Int) := wr1 (by omega)
   exact cl_l1 l s0 s1 s2 s3 h12 _ v (by omega) (d * 150000 + 20) (by omega) _ (fun K' hK' => by rw [hwr]; exact ih (c + 1) K' (by omega) hK') v 0 K (by omega) (by omega)
theorem rclosed_f (h12 : l.length ≤ 12) (hw : ∀ t ∈ l, wfT t) (h0 : 0 ≤ s0) (h1 : 0 ≤ s1) (h2 : 0 ≤ s2) (h3 : 0 ≤ s3) {K : Nat} (hK : 700000 ≤ K) : ∃ q, judge_Closed.f l s0 s1 s2 s3 = some q ∧ tenementref22_Closed.f K (l.map rt_) s0 s1 s2 s3 = some q := by
 refine ⟨closedJ (sn4 s0 s1 s2 s3) l s0 s1 s2 s3, ?_, ?_⟩
 ·unfold judge_Closed.f
  rw [if_pos (show judge_Closed.ok l s0 s1 s2 s3 from ⟨⟨h0, h1, h2, h3⟩, by omega, fun t ht => by
   obtain ⟨⟨u0, u1, u2, u3⟩, hd, _⟩ := hw t ht
   unfold u64B at u0 u1 u2 u3
   refine ⟨hd, ?_⟩
   unfold nOf
   constructor <;> (repeat' split) <;> omega⟩)]
  rfl
 ·have := cl_l0 l s0 s1 s2 s3 h12 h0 h1 h2 h3 4 0 K (by omega) (by omega)
  unfold closedJ
  rw [List.range_eq_range']
  exact this
end
end Go.Proofs.Ythjhkcebcgdeoaa.Pure
