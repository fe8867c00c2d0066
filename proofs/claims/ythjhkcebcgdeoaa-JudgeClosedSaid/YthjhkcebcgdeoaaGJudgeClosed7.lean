import Derived.Test.YthjhkcebcgdeoaaGJudgeClosed3
import Derived.Test.YthjhkcebcgdeoaaGJudgeClosed5
import Derived.Test.YthjhkcebcgdeoaaGJudgeClosed6
set_option linter.unusedVariables false
set_option linter.unusedSimpArgs false
namespace Go.Proofs.Ythjhkcebcgdeoaa.Pure
open Go Go.RowKit Go.Proofs.Ythjhkcebcgdeoaa.Q Go.Proofs.YthjhkcebcgdeoaaW.PrintWords Go.Proofs.YthjhkcebcgdeoaaW.PrintLast Go.Proofs.YthjhkcebcgdeoaaW.PrintMore Go.Proofs.Ythjhkcebcgdeoaa.Plain
open Go.Proofs.Ythjhkcebcgdeoaa.Jud (Tx St vl isN nOfT good closedJ)
theorem u8_wf {z : Int} (h : (Lit.int .u8 z).wf = true) : 0 ≤ z ∧ z ≤ 255 := by
 have e1 : IntKind.u8.min = 0 := by decide
 have e2 : IntKind.u8.max = 255 := by decide
 simpa only [Lit.wf, e1, e2, Bool.and_eq_true, decide_eq_true_eq] using h
def mkT (i : Int) : Tx := ⟨⟨⟨0, 0, i, 0⟩, 3⟩, []⟩
def snV (v : Int) : St → Bool := fun x => decide (x.f0.f0 ≤ 0 ∧ x.f0.f1 ≤ 0 ∧ x.f0.f2 ≤ v ∧ x.f0.f3 ≤ 0)
theorem isN_mk (m i : Int) : isN 3 m (mkT i) = decide (i = m) := by
 show decide ((3 : Int) = 3 ∧ nOf 0 0 i 0 3 = m) = decide (i = m)
 simp [nOf]
theorem vl_mk (v m : Int) (hm : m ≤ v) (I : List Int) : vl (snV v) (I.map mkT) 3 m = decide (m ∈ I) := by
 unfold vl
 rw [Bool.eq_iff_iff, Bool.and_eq_true, decide_eq_true_iff, List.any_eq_true, List.all_eq_true]
 constructor
 ·rintro ⟨⟨x, hx, hi⟩, _⟩
  obtain ⟨i, hI, rfl⟩ := List.mem_map.1 hx
  rw [isN_mk, decide_eq_true_iff] at hi
  exact hi ▸ hI
 ·intro h
  refine ⟨⟨mkT m, List.mem_map.2 ⟨m, h, rfl⟩, by rw [isN_mk]; simp⟩, fun x hx => ?_⟩
  obtain ⟨i, hI, rfl⟩ := List.mem_map.1 hx
  rw [isN_mk]
  by_cases e : i = m
  ·subst e
   have : snV v (mkT i).f0 = true := decide_eq_true ⟨Int.le_refl 0, Int.le_refl 0, hm, Int.le_refl 0⟩
   rw [this]
   simp
  ·simp [e]
theorem closed_I (I : List Int) (hI : I.length ≤ 1000000) (hr : ∀ i ∈ I, 0 ≤ i ∧ i ≤ 1000) (v : Nat) (hv : v ≤ 4096) : judge_Closed.f (I.map mkT) 0 0 v 0 = some (decide (∀ m, m < v → ((m : Int) + 1) ∈ I)) := by
 unfold judge_Closed.f
 rw [if_pos (by
  refine ⟨⟨by omega, by omega, by omega, by omega⟩, by rw [List.length_map]; exact hI, fun x hx => ?_⟩
  obtain ⟨i, hi, rfl⟩ := List.mem_map.1 hx
  have := hr i hi
  have e : nOf (mkT i).f0.f0.f0 (mkT i).f0.f0.f1 (mkT i).f0.f0.f2 (mkT i).f0.f0.f3 (mkT i).f0.f1 = i := by show nOf 0 0 i 0 3 = i; simp [nOf]
  rw [e]
  refine ⟨?_, by omega, by omega⟩
  show -9223372036854775808 ≤ (3 : Int) ∧ (3 : Int) ≤ 9223372036854775807
  omega)]
 congr 1
 show closedJ (snV v) (I.map mkT) 0 0 v 0 = _
 have g0 : ∀ d : Nat, nOf 0 0 (v : Int) 0 d = 0 → good (snV v) (I.map mkT) 0 0 v 0 d = true := by
  intro d hd
  unfold good
  rw [hd]
  rfl
 have e1 := g0 1 (by simp [nOf])
 have e2 := g0 2 (by simp [nOf])
 have e4 := g0 4 (by simp [nOf])
 have e3 : good (snV v) (I.map mkT) 0 0 v 0 3 = decide (∀ m, m < v → ((m : Int) + 1) ∈ I) := by
  unfold good
  have hn : nOf 0 0 (v : Int) 0 (3 : Nat) = (v : Int) := by simp [nOf]
  rw [hn, decide_eq_true (by omega), Bool.true_and, Int.toNat_natCast, Bool.eq_iff_iff, List.all_eq_true, decide_eq_true_iff]
  constructor
  ·intro h m hm
   have := h m (List.mem_range.2 hm)
   rw [show ((3 : Nat) : Int) = 3 from rfl, vl_mk v _ (by omega)] at this
   exact of_decide_eq_true this
  ·intro h m hm
   have hm := List.mem_range.1 hm
   rw [show ((3 : Nat) : Int) = 3 from rfl, vl_mk v _ (by omega)]
   exact decide_eq_true (h m hm)
 show ((List.range 4).all fun d => good (snV v) (I.map mkT) 0 0 v 0 (d + 1)) = _
 rw [show List.range 4 = [0, 1, 2, 3] from rfl]
 simp only [List.all_cons, List.all_nil, e1, e2, e3, e4, Bool.true_and, Bool.and_true]
def Iv (n : Nat) : List Int := (List.range n).map (fun i : Nat => (i : Int) + 1)
theorem Iv_length (n : Nat) : (Iv n).length = n := by unfold Iv; simp
theorem Iv_snoc (n : Nat) : Iv (n + 1) = Iv n ++ [(n : Int) + 1] := by unfold Iv; rw [List.range_succ, List.map_append]; rfl
theorem Iv_mem {n : Nat} {i : Int} (h : i ∈ Iv n) : 1 ≤ i ∧ i ≤ n := by
 unfold Iv at h
 obtain ⟨j, hj, rfl⟩ := List.mem_map.1 h
 have := List.mem_range.1 hj
 omega
theorem Iv_get (n j : Nat) (h : j < n) : (Iv n)[j]? = some ((j : Int) + 1) := by
 unfold Iv
 rw [List.getElem?_map, List.getElem?_range h]
 rfl
theorem mem_take {n k m : Nat} (hk : k ≤ n) : ((m : Int) + 1) ∈ (Iv n).take k ↔ m < k := by
 rw [List.mem_iff_getElem?]
 constructor
 ·rintro ⟨i, hi⟩
  rw [List.getElem?_take] at hi
  split at hi
  ·rw [Iv_get n i (by omega)] at hi
   have := Option.some.inj hi
   omega
  ·cases hi
 ·intro h
  exact ⟨m, by rw [List.getElem?_take, if_pos h, Iv_get n m (by omega)]⟩
theorem mem_drop {n k m : Nat} : ((m : Int) + 1) ∈ (Iv n).drop k ↔ k ≤ m ∧ m < n := by
 rw [List.mem_iff_getElem?]
 constructor
 ·rintro ⟨i, hi⟩
  rw [List.getElem?_drop] at hi
  by_cases hlt : k + i < n
  ·rw [Iv_get n _ hlt] at hi
   have := Option.some.inj hi
   omega
  ·rw [List.getElem?_eq_none (by rw [Iv_length]; omega)] at hi
   cases hi
 ·rintro ⟨h1, h2⟩
  exact ⟨m - k, by rw [List.getElem?_drop, show k + (m - k) = m by omega, Iv_get n m h2]⟩
theorem closed_all (n v : Nat) (hn : n ≤ 1000) (hv : v ≤ 4096) : judge_Closed.f ((Iv n).map mkT) 0 0 v 0 = some (decide (v ≤ n)) := by
 rw [closed_I (Iv n) (by rw [Iv_length]; omega) (fun i hi => by have := Iv_mem hi; omega) v hv]
 congr 1
 rw [decide_eq_decide]
 have hm : ∀ m, ((m : Nat) : Int) + 1 ∈ Iv n ↔ m < n := fun m => by
  have := mem_take (n := n) (k := n) (m := m) (Nat.le_refl _)
  rw [List.take_of_length_le (by rw [Iv_length]; exact Nat.le_refl _)] at this
  exact this
 constructor
 ·intro h
  rcases Nat.lt_or_ge n v with hlt | hge
  ·have := (hm n).1 (h n hlt)
   omega
  ·exact hge
 ·intro h m hlt
  exact (hm m).2 (by omega)
theorem closed_cut (n k v : Nat) (hk : k < n) (hn : n ≤ 1000) (hv : v ≤ 4096) : judge_Closed.f (((Iv n).take k ++ (Iv n).drop (k + 1)).map mkT) 0 0 v 0 = some (decide (v ≤ k)) := by
 rw [closed_I _ (by rw [List.length_append, List.length_take, List.length_drop, Iv_length]; omega) (fun i hi => by
  rcases List.mem_append.1 hi with h | h
  ·have := Iv_mem (List.mem_of_mem_take h); omega
  ·have := Iv_mem (List.mem_of_mem_drop h); omega) v hv]
 congr 1
 rw [decide_eq_decide]
 constructor
 ·intro h
  rcases Nat.lt_or_ge k v with hlt | hge
  ·have := h k hlt
   rw [List.mem_append, mem_take (by omega), mem_drop] at this
   omega
  ·exact hge
 ·intro h m hlt
  rw [List.mem_append, mem_take (by omega), mem_drop]
  omega
theorem closed_nil : judge_Closed.f ([] : List Tx) 0 0 0 0 = some true := by
 have := closed_all 0 0 (by omega) (by omega)
 exact this
set_option maxRecDepth 100000 in
theorem JudgeClosed : tenementlaw22_JudgeClosed.Pure := by
 intro a0 a1 a2 h0 h1 h2
 have h0 := u8_wf h0
 have h1 := u8_wf h1
 have h2 := u8_wf h2
 obtain ⟨n, hn⟩ : ∃ n : Nat, wrap64 (1 + wrap64 (Int.tmod a0 20)) = (n : Int) ∧ 1 ≤ n ∧ n ≤ 20 := by
  have e : Int.tmod a0 20 = a0 % 20 := Int.tmod_eq_emod_of_nonneg h0.1
  rw [e, wrap64_id (x := a0 % 20) (by omega) (by omega), wrap64_id (by omega) (by omega)]
  exact ⟨(1 + a0 % 20).toNat, by omega, by omega, by omega⟩
 obtain ⟨hn, hn1, hn2⟩ := hn
 obtain ⟨k, hk, hkn⟩ : ∃ k : Nat, Int.tmod (wrap64 a1) (n : Int) = (k : Int) ∧ k < n := by
  have hlt := Int.emod_lt_of_pos a1 (show 0 < (n : Int) by omega)
  have hge := Int.emod_nonneg a1 (show (n : Int) ≠ 0 by omega)
  rw [wrap64_id (by omega) (by omega), Int.tmod_eq_emod_of_nonneg h1.1]
  exact ⟨(a1 % (n : Int)).toNat, by omega, by omega⟩
 obtain ⟨v, hv, hv24⟩ : ∃ v : Nat, wrap64 (Int.tmod a2 24) = (v : Int) ∧ v < 24 := by
  rw [Int.tmod_eq_emod_of_nonneg h2.1, wrap64_id (by omega) (by omega)]
  exact ⟨(a2 % 24).toNat, by omega, by omega⟩
 have hvu : IntKind.u64.wrap (v : Int) = (v : Int) := by rw [IntKind.wrap_u64]; omega
 have hk1 : wrap64 ((k : Int) + 1) = ((k + 1 : Nat) : Int) := by rw [wrap64_id (by omega) (by omega)]; omega
 have step : ∀ m j K, j + m = n → tenementlaw22_JudgeClosed.l0 (K + m + 1) a1 a2 true n ((Iv j).map mkT) ((j : Int) + 1) = some true := by
  intro m
  induction m with
  | zero =>
   intro j K hj
   have hj : j = n := by omega
   subst hj
   have hl : ((Iv j).map mkT).length = j := by rw [List.length_map, Iv_length]
   rw [Nat.add_zero, tenementlaw22_JudgeClosed.l0, if_neg (by omega), if_neg (by omega), hk, if_pos (by omega), hl, if_pos (by omega), Option.bind_some, Int.toNat_natCast, if_pos (by rw [List.length_take, hl]; simp; omega), Option.bind_some, hk1, if_pos (by omega), if_pos (by omega), Option.bind_some, Int.toNat_natCast,
    if_pos (by rw [List.nil_append, List.length_take, List.length_drop, hl]; omega), Option.bind_some, hv, hvu]
   show (if true = true then (judge_Closed.f ((Iv j).map mkT) 0 0 v 0).bind _ else none) = _
   rw [if_pos rfl, closed_all j v (by omega) (by omega), Option.bind_some, List.nil_append, ← List.map_take, ← List.map_drop, ← List.map_append]
   have hcut := closed_cut j k v hkn (by omega) (by omega)
   by_cases c1 : v ≤ j
   ·rw [decide_eq_true c1, if_pos rfl, if_pos (by omega)]
    show ((judge_Closed.f (((Iv j).take k ++ (Iv j).drop (k + 1)).map mkT) 0 0 v 0).bind _) = _
    rw [hcut, Option.bind_some]
    by_cases c2 : v ≤ k
    ·rw [decide_eq_true c2, if_pos rfl, if_pos (by omega), closed_nil, Option.bind_some, if_pos rfl]
    ·rw [decide_eq_false c2, if_neg (by simp), if_neg (by omega), closed_nil, Option.bind_some, if_pos rfl]
   ·rw [decide_eq_false c1, if_neg (by simp), if_neg (by omega)]
    show ((judge_Closed.f (((Iv j).take k ++ (Iv j).drop (k + 1)).map mkT) 0 0 v 0).bind _) = _
    rw [hcut, Option.bind_some, decide_eq_false (by omega), if_neg (by simp), if_neg (by omega), closed_nil, Option.bind_some, if_pos rfl]
  | succ m ih =>
   intro j K hj
   have hl : ((Iv j).map mkT).length = j := by rw [List.length_map, Iv_length]
   have hw : IntKind.u64.wrap ((j : Int) + 1) = (j : Int) + 1 := by rw [IntKind.wrap_u64]; omega
   rw [show K + (m + 1) + 1 = (K + m + 1) + 1 by omega, tenementlaw22_JudgeClosed.l0, if_pos (by omega)]
   show (if ((Iv j).map mkT).length < 2199023255552 then tenementlaw22_JudgeClosed.l0 (K + m + 1) a1 a2 true n ((Iv j).map mkT ++ [mkT (IntKind.u64.wrap ((j : Int) + 1))]) (wrap64 ((j : Int) + 1 + 1)) else none) = _
   rw [if_pos (by omega), hw, wrap64_id (by omega) (by omega)]
   have := ih (j + 1) K (by omega)
   rw [Iv_snoc, List.map_append] at this
   rw [show (j : Int) + 1 + 1 = ((j + 1 : Nat) : Int) + 1 by omega]
   exact this
 refine ⟨n + 1, ?_⟩
 unfold tenementlaw22_JudgeClosed.f
 show (if true = true then tenementlaw22_JudgeClosed.l0 (n + 1) a1 a2 true (wrap64 (1 + wrap64 (Int.tmod a0 20))) [] 1 else none) = _
 rw [if_pos rfl, hn]
 have := step n 0 0 (by omega)
 rw [Nat.zero_add] at this
 exact this
end Go.Proofs.Ythjhkcebcgdeoaa.Pure
