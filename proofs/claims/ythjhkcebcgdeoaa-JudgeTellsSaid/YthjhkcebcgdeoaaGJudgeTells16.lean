import Derived.Test.YthjhkcebcgdeoaaGJudgeTells12
import Derived.Test.YthjhkcebcgdeoaaGJudgeTells15
set_option linter.unusedVariables false
set_option linter.unusedSimpArgs false
namespace Go.Proofs.Ythjhkcebcgdeoaa.Pure
open Go Go.RowKit Go.Proofs.Ythjhkcebcgdeoaa.Q Go.Proofs.YthjhkcebcgdeoaaW.PrintWords Go.Proofs.YthjhkcebcgdeoaaW.PrintLast Go.Proofs.YthjhkcebcgdeoaaW.PrintMore Go.Proofs.Ythjhkcebcgdeoaa.Plain
open Go.Proofs.Ythjhkcebcgdeoaa.Jud (Tx St Wn one lst allS hit liveJ lastOf szJ prs nub nub_mem nub_nodup sum_perm Pr eqP eqP_iff)
theorem wl1 {n : Nat} (hn : n ≤ 100000) : wrap64 ((n : Int) + 1) = ((n + 1 : Nat) : Int) := by rw [wrap64_id (by omega) (by omega)]; omega
def kk (ws : List Wr) : List Pr := ws.map fun y => (y.f0, y.f1)
def fo : List Pr → List Pr → List Pr
 | _, [] => []
 | pre, p :: r => if pre.any (eqP p) then fo (pre ++ [p]) r else p :: fo (pre ++ [p]) r
theorem any_eqP (p : Pr) (l : List Pr) : l.any (eqP p) = true ↔ p ∈ l := by
 rw [List.any_eq_true]
 exact ⟨fun ⟨x, hx, he⟩ => (eqP_iff.1 he) ▸ hx, fun h => ⟨p, h, eqP_iff.2 rfl⟩⟩
theorem fo_mem (q : Pr) : ∀ (r pre : List Pr), q ∈ fo pre r ↔ q ∈ r ∧ q ∉ pre
 | [], pre => by simp [fo]
 | p :: r, pre => by
  unfold fo
  by_cases c : pre.any (eqP p) = true
  ·have hp := (any_eqP p pre).1 c
   rw [if_pos c, fo_mem q r, List.mem_cons, List.mem_append, List.mem_singleton]
   exact ⟨fun ⟨h1, h2⟩ => ⟨.inr h1, fun h => h2 (.inl h)⟩, fun ⟨h1, h2⟩ => ⟨h1.elim (fun e => absurd (e ▸ hp) h2) id, fun h => h.elim h2 (fun e => h2 (e ▸ hp))⟩⟩
  ·have hp : p ∉ pre := fun h => c ((any_eqP p pre).2 h)
   rw [if_neg c, List.mem_cons, fo_mem q r, List.mem_cons, List.mem_append, List.mem_singleton]
   constructor
   ·rintro (rfl | ⟨h1, h2⟩)
    ·exact ⟨.inl rfl, hp⟩
    ·exact ⟨.inr h1, fun h => h2 (.inl h)⟩
   ·rintro ⟨h1, h2⟩
    by_cases e : q = p
    ·exact .inl e
    ·exact .inr ⟨h1.elim (fun e' => absurd e' e) id, fun h => h.elim h2 e⟩
theorem fo_nodup : ∀ (r pre : List Pr), (fo pre r).Nodup
 | [], pre => by simp [fo]
 | p :: r, pre => by
  unfold fo
  by_cases c : pre.any (eqP p) = true
  ·rw [if_pos c]; exact fo_nodup r _
  ·rw [if_neg c, List.nodup_cons]
   refine ⟨fun h => ?_, fo_nodup r _⟩
   exact ((fo_mem p r _).1 h).2 (by simp)
theorem isS_all : isS true 0 0 0 0 = allS := by funext x; rfl
section
variable (l : List Tx)
theorem size_last (h12 : l.length ≤ 12) (hw : ∀ t ∈ l, wfT t) (wb wk : ByteArray) (G : Int → Option Int) {K : Nat} (hK : 250 ≤ K) :
  ((tenementref22_last.f K (l.map rt_) wb wk 0 0 0 0 true).bind fun bt => (tenementref08_Size.f bt.1 bt.2.1 bt.2.2.1 bt.2.2.2.1).bind G) = G (lastOf odT l (wb, wk)) := by
 rw [rlast_f l h12 hw wb wk true 0 0 0 0 hK, Option.bind_some, isS_all]
 have e : ∀ y : Wr, tenementref08_Size.f y.f0 y.f1 y.f2 y.f3 = some (szJ y) := by
  intro y
  unfold tenementref08_Size.f szJ
  cases y.f3 with
  | true => rw [if_pos rfl, if_pos rfl]
  | false => rw [if_neg (by simp), if_neg (by simp)]
 have hl : lastOf odT l (wb, wk) = szJ (lst allS odT wb wk l) := rfl
 rw [hl]
 cases c : (Jud.wrs allS wb wk l).isEmpty with
 | true =>
  have h3 := lst_empty (is := allS) (b := wb) (k := wk) (l := l) c
  have hz : szJ (lst allS odT wb wk l) = 0 := by
   unfold szJ
   rw [h3, if_pos rfl]
  rw [hz, if_pos rfl]
  show (tenementref08_Size.f ⟨#[]⟩ ⟨#[]⟩ ⟨#[]⟩ false).bind G = G 0
  have e0 : tenementref08_Size.f ⟨#[]⟩ ⟨#[]⟩ ⟨#[]⟩ false = some 0 := by
   unfold tenementref08_Size.f
   rw [if_neg (by simp)]
   have z : ((⟨#[]⟩ : ByteArray).size : Int) = 0 := rfl
   have h0 : wrap64 0 = 0 := wrap64_id (by omega) (by omega)
   rw [z]
   simp only [Int.add_zero, h0]
  rw [e0]
  rfl
 | false =>
  rw [if_neg (by simp)]
  show (tenementref08_Size.f (lst allS odT wb wk l).f0 (lst allS odT wb wk l).f1 (lst allS odT wb wk l).f2 (lst allS odT wb wk l).f3).bind G = _
  rw [e]
  rfl
theorem lv_l3 (h12 : l.length ≤ 12) (s : Int) (i k : Nat) (w : Wr) {c : Nat} (hc : c < l.length) (h10 : l[c].f1.length ≤ 10) (V : List Wr) (hV : (c < i ∧ V = l[c].f1) ∨ (c = i ∧ V = l[c].f1.take k)) (B : Nat) (R : Bool → Option Int) (hR : ∀ K', B ≤ K' → ∀ f, tenementref22_Live.l2 K' (l.map rt_) s i k f ((c + 1 : Nat) : Int) w.f0 w.f1 w.f2 w.f3 = R f) :
  ∀ (d j K : Nat) (f : Bool), j + d = l[c].f1.length → B + d + 1 ≤ K → tenementref22_Live.l3 K (l.map rt_) s i k f c j w.f0 w.f1 w.f2 w.f3 = R (f && !(V.drop j).any (hit w.f0 w.f1)) := by
 intro d
 induction d with
 | zero =>
  intro j K f hj hK
  obtain ⟨K, rfl⟩ : ∃ q, K = q + 1 := ⟨K - 1, by omega⟩
  have hVj : V.drop j = [] := by
   refine List.drop_of_length_le ?_
   rcases hV with ⟨_, rfl⟩ | ⟨_, rfl⟩
   ·omega
   ·rw [List.length_take]; omega
  rw [tenementref22_Live.l3, if_pos (by omega), if_pos (by rw [List.length_map]; omega), rdM l c hc, if_neg (by show ¬ ((j : Int) < ((l[c].f1.map rw_).length : Int)); rw [List.length_map]; omega), wl1 (by omega), hR K (by omega), hVj]
  simp
 | succ d ih =>
  intro j K f hj hK
  obtain ⟨K, rfl⟩ : ∃ q, K = q + 1 := ⟨K - 1, by omega⟩
  have hjl : j < l[c].f1.length := by omega
  have hrd : rd_T86 (rt_ l[c]).f1 (j : Int) = rw_ l[c].f1[j] := rdMW l[c].f1 j hjl
  -- the comparison, one for both ways
  have cmp : V.drop j = l[c].f1[j] :: V.drop (j + 1) → (if ((rw_ l[c].f1[j]).f0).toList = w.f0.toList then (if ((rw_ l[c].f1[j]).f1).toList = w.f1.toList then tenementref22_Live.l3 K (l.map rt_) s i k false c ((j + 1 : Nat) : Int) w.f0 w.f1 w.f2 w.f3 else tenementref22_Live.l3 K (l.map rt_) s i k f c ((j + 1 : Nat) : Int) w.f0 w.f1 w.f2 w.f3) else tenementref22_Live.l3 K (l.map rt_) s i k f c ((j + 1 : Nat) : Int) w.f0 w.f1 w.f2 w.f3) = R (f && !(V.drop j).any (hit w.f0 w.f1)) := by
   intro hd
   rw [hd, List.any_cons]
   by_cases c0 : ((rw_ l[c].f1[j]).f0).toList = w.f0.toList
   ·rw [if_pos c0]
    by_cases c1 : ((rw_ l[c].f1[j]).f1).toList = w.f1.toList
    ·rw [if_pos c1, ih (j + 1) K false (by omega) (by omega)]
     have : hit w.f0 w.f1 l[c].f1[j] = true := by
      unfold hit
      rw [Bool.and_eq_true, beq_iff_eq, beq_iff_eq]
      exact ⟨c0, c1⟩
     rw [this]
     simp
    ·rw [if_neg c1, ih (j + 1) K f (by omega) (by omega)]
     have : hit w.f0 w.f1 l[c].f1[j] = false := by
      unfold hit
      rw [Bool.and_eq_false_iff]
      exact .inr (beq_eq_false_iff_ne.2 c1)
     rw [this, Bool.false_or]
   ·rw [if_neg c0, ih (j + 1) K f (by omega) (by omega)]
    have : hit w.f0 w.f1 l[c].f1[j] = false := by
     unfold hit
     rw [Bool.and_eq_false_iff]
     exact .inl (beq_eq_false_iff_ne.2 c0)
    rw [this, Bool.false_or]
  rw [tenementref22_Live.l3, if_pos (by omega), if_pos (by rw [List.length_map]; omega), rdM l c hc, if_pos (by show (j : Int) < ((l[c].f1.map rw_).length : Int); rw [List.length_map]; omega), hrd, wl1 (by omega)]
  rcases hV with ⟨h1, hV⟩ | ⟨h1, hV⟩
  ·rw [if_pos (by omega), if_pos (by omega)]
   exact cmp (by rw [hV]; exact List.drop_eq_getElem_cons hjl)
  ·rw [if_neg (by omega)]
   by_cases hk : j < k
   ·rw [if_pos (by omega), if_pos (by omega)]
    refine cmp ?_
    have hjt : j < (l[c].f1.take k).length := by rw [List.length_take]; omega
    have := List.drop_eq_getElem_cons hjt
    rw [hV, this, List.getElem_take]
   ·rw [if_neg (by omega), ih (j + 1) K f (by omega) (by omega)]
    have e1 : V.drop j = [] := by rw [hV]; exact List.drop_of_length_le (by rw [List.length_take]; omega)
    have e2 : V.drop (j + 1) = [] := by rw [hV]; exact List.drop_of_length_le (by rw [List.length_take]; omega)
    rw [e1, e2]
theorem lv_l2 (h12 : l.length ≤ 12) (hw : ∀ t ∈ l, wfT t) (s : Int) {i : Nat} (hi : i < l.length) (k : Nat) (hk : k < l[i].f1.length) (w : Wr) (B : Nat) (hB : 250 ≤ B) (r1 r2 : Option Int)
  (h1 : ∀ K', B ≤ K' → tenementref22_Live.l1 K' (l.map rt_) (wrap64 (s + lastOf odT l (w.f0, w.f1))) i ((k + 1 : Nat) : Int) = r1) (h2 : ∀ K', B ≤ K' → tenementref22_Live.l1 K' (l.map rt_) s i ((k + 1 : Nat) : Int) = r2) :
  ∀ (d c K : Nat) (f : Bool), c + d = i + 1 → B + 13 * d + 1 ≤ K → tenementref22_Live.l2 K (l.map rt_) s i k f c w.f0 w.f1 w.f2 w.f3 = if (f && !(if c ≤ i then (((l.take i).drop c).flatMap (·.f1) ++ l[i].f1.take k).any (hit w.f0 w.f1) else false)) = true then r1 else r2 := by
 intro d
 induction d with
 | zero =>
  intro c K f hc hK
  obtain ⟨K, rfl⟩ : ∃ q, K = q + 1 := ⟨K - 1, by omega⟩
  have hkl : l[i].f1.length ≤ 10 := (hw _ (List.getElem_mem hi)).2.2.2
  rw [tenementref22_Live.l2, if_neg (by omega), if_neg (show ¬ c ≤ i by omega), wl1 (by omega)]
  cases f with
  | false => rw [if_neg (by simp), if_neg (by simp), h2 K (by omega)]
  | true =>
   rw [if_pos rfl, if_pos (by simp)]
   exact (size_last l h12 hw w.f0 w.f1 (fun t => tenementref22_Live.l1 K (l.map rt_) (wrap64 (s + t)) i ((k + 1 : Nat) : Int)) (by omega)).trans (h1 K (by omega))
 | succ d ih =>
  intro c K f hc hK
  obtain ⟨K, rfl⟩ : ∃ q, K = q + 1 := ⟨K - 1, by omega⟩
  have hcl : c < l.length := by omega
  have h10 : l[c].f1.length ≤ 10 := (hw _ (List.getElem_mem hcl)).2.2.2
  rw [tenementref22_Live.l2, if_pos (by omega), if_pos (show c ≤ i by omega)]
  by_cases hci : c < i
  ·have hdrop : (l.take i).drop c = l[c] :: (l.take i).drop (c + 1) := by
    have hct : c < (l.take i).length := by rw [List.length_take]; omega
    have := List.drop_eq_getElem_cons hct
    rw [this, List.getElem_take]
   have := lv_l3 l h12 s i k w hcl h10 l[c].f1 (.inl ⟨hci, rfl⟩) (B + 13 * d + 1) _ (fun K' hK' f => ih (c + 1) K' f (by omega) hK') l[c].f1.length 0 K f (by omega) (by omega)
   refine Eq.trans this ?_
   rw [List.drop_zero, if_pos (show c + 1 ≤ i by omega), hdrop, List.flatMap_cons, List.append_assoc, show (l[c].f1 ++ (((l.take i).drop (c + 1)).flatMap (·.f1) ++ l[i].f1.take k)).any (hit w.f0 w.f1) = (l[c].f1.any (hit w.f0 w.f1) || (((l.take i).drop (c + 1)).flatMap (·.f1) ++ l[i].f1.take k).any (hit w.f0 w.f1)) from List.any_append]
   generalize (((l.take i).drop (c + 1)).flatMap (·.f1) ++ l[i].f1.take k).any (hit w.f0 w.f1) = q
   cases f <;> cases l[c].f1.any (hit w.f0 w.f1) <;> cases q <;> rfl
  ·have hce : c = i := by omega
   subst hce
   have := lv_l3 l h12 s c k w hcl h10 (l[c].f1.take k) (.inr ⟨rfl, rfl⟩) (B + 13 * d + 1) _ (fun K' hK' f => ih (c + 1) K' f (by omega) hK') l[c].f1.length 0 K f (by omega) (by omega)
   refine Eq.trans this ?_
   rw [List.drop_zero, if_neg (show ¬ c + 1 ≤ c by omega), List.drop_of_length_le (by rw [List.length_take]; omega)]
   simp
theorem kk_any (w : Wr) (ws : List Wr) : ws.any (hit w.f0 w.f1) = (kk ws).any (eqP (w.f0, w.f1)) := by
 rw [Bool.eq_iff_iff, any_eqP, List.any_eq_true]
 unfold kk
 rw [List.mem_map]
 constructor
 ·rintro ⟨y, hy, h⟩
  unfold hit at h
  rw [Bool.and_eq_true, beq_iff_eq, beq_iff_eq, toList_iff, toList_iff] at h
  exact ⟨y, hy, by rw [h.1, h.2]⟩
 ·rintro ⟨y, hy, h⟩
  refine ⟨y, hy, ?_⟩
  unfold hit
  rw [Bool.and_eq_true, beq_iff_eq, beq_iff_eq, toList_iff, toList_iff]
  exact ⟨congrArg Prod.fst h, congrArg Prod.snd h⟩
theorem kk_prs : ∀ l : List Tx, kk (l.flatMap (·.f1)) = prs l
 | [] => rfl
 | x :: l => by
  unfold kk prs
  rw [List.flatMap_cons, List.map_append, List.flatMap_cons]
  congr 1
  exact kk_prs l
theorem kk_app (a b : List Wr) : kk (a ++ b) = kk a ++ kk b := by unfold kk; rw [List.map_append]
theorem lv_l1 (h12 : l.length ≤ 12) (hw : ∀ t ∈ l, wfT t) {i : Nat} (hi : i < l.length) (B : Nat) (hB : 250 ≤ B)
  (h0 : ∀ K' s, B ≤ K' → tenementref22_Live.l0 K' (l.map rt_) (wrap64 s) ((i + 1 : Nat) : Int) = some (wrap64 (s + ((fo (prs (l.take (i + 1))) (prs (l.drop (i + 1)))).map (lastOf odT l)).sum))) :
  ∀ (e k K : Nat) (s : Int), k + e = l[i].f1.length → B + 200 * e + 1 ≤ K → tenementref22_Live.l1 K (l.map rt_) (wrap64 s) i k = some (wrap64 (s + ((fo (prs (l.take i) ++ kk (l[i].f1.take k)) (kk (l[i].f1.drop k) ++ prs (l.drop (i + 1)))).map (lastOf odT l)).sum)) := by
 intro e
 induction e with
 | zero =>
  intro k K s hk hK
  obtain ⟨K, rfl⟩ : ∃ q, K = q + 1 := ⟨K - 1, by omega⟩
  have htk : prs (l.take i) ++ kk (l[i].f1.take k) = prs (l.take (i + 1)) := by
   rw [List.take_of_length_le (show l[i].f1.length ≤ k by omega), List.take_add_one, List.getElem?_eq_getElem hi]
   show _ = prs (l.take i ++ [l[i]])
   unfold prs kk
   rw [List.flatMap_append, List.flatMap_cons, List.flatMap_nil, List.append_nil]
  rw [tenementref22_Live.l1, if_pos (by omega), if_pos (by rw [List.length_map]; omega), rdM l i hi, if_neg (by show ¬ ((k : Int) < ((l[i].f1.map rw_).length : Int)); rw [List.length_map]; omega), wl1 (by omega), h0 K s (by omega), htk, List.drop_of_length_le (show l[i].f1.length ≤ k by omega)]
  rfl
 | succ e ih =>
  intro k K s hk hK
  obtain ⟨K, rfl⟩ : ∃ q, K = q + 1 := ⟨K - 1, by omega⟩
  have hkl : k < l[i].f1.length := by omega
  have hdrop : l[i].f1.drop k = l[i].f1[k] :: l[i].f1.drop (k + 1) := List.drop_eq_getElem_cons hkl
  have htake : kk (l[i].f1.take (k + 1)) = kk (l[i].f1.take k) ++ [(l[i].f1[k].f0, l[i].f1[k].f1)] := by
   rw [List.take_add_one, List.getElem?_eq_getElem hkl]
   show kk (l[i].f1.take k ++ [l[i].f1[k]]) = _
   rw [kk_app]
   rfl
  rw [tenementref22_Live.l1, if_pos (by omega), if_pos (by rw [List.length_map]; omega), rdM l i hi, if_pos (by show (k : Int) < ((l[i].f1.map rw_).length : Int); rw [List.length_map]; omega), if_pos (by omega), show rd_T86 (rt_ l[i]).f1 (k : Int) = rw_ l[i].f1[k] from rdMW l[i].f1 k hkl]
  have h2 := fun K' (hK' : B + 200 * e + 1 ≤ K') => ih (k + 1) K' s (by omega) hK'
  have h1 := fun K' (hK' : B + 200 * e + 1 ≤ K') => ih (k + 1) K' (s + lastOf odT l (l[i].f1[k].f0, l[i].f1[k].f1)) (by omega) hK'
  have hws : ∀ t, wrap64 (wrap64 s + t) = wrap64 (s + t) := fun t => by unfold wrap64; omega
  have := lv_l2 l h12 hw (wrap64 s) hi k hkl l[i].f1[k] (B + 200 * e + 1) (by omega) _ _ (fun K' hK' => by rw [hws]; exact h1 K' hK') h2 (i + 1) 0 K true (by omega) (by omega)
  refine Eq.trans this ?_
  rw [if_pos (Nat.zero_le i), List.drop_zero, kk_any, kk_app, kk_prs, hdrop]
  show _ = some (wrap64 (s + ((fo (prs (l.take i) ++ kk (l[i].f1.take k)) ((l[i].f1[k].f0, l[i].f1[k].f1) :: (kk (l[i].f1.drop (k + 1)) ++ prs (l.drop (i + 1))))).map (lastOf odT l)).sum))
  rw [fo, htake, ← List.append_assoc]
  cases c : (prs (l.take i) ++ kk (l[i].f1.take k)).any (eqP (l[i].f1[k].f0, l[i].f1[k].f1)) with
  | true => rw [if_neg (by simp), if_pos rfl]
  | false =>
   rw [if_pos (by simp), if_neg (by simp), List.map_cons, List.sum_cons]
   congr 2
   omega
theorem lv_l0 (h12 : l.length ≤ 12) (hw : ∀ t ∈ l, wfT t) : ∀ (d i K : Nat) (s : Int), i + d = l.length → d * 2100 + 300 ≤ K → tenementref22_Live.l0 K (l.map rt_) (wrap64 s) i = some (wrap64 (s + ((fo (prs (l.take i)) (prs (l.drop i))).map (lastOf odT l)).sum)) := by
 intro d
 induction d with
 | zero =>
  intro i K s hi hK
  obtain ⟨K, rfl⟩ : ∃ q, K = q + 1 := ⟨K - 1, by omega⟩
  rw [tenementref22_Live.l0, if_neg (by rw [List.length_map]; omega), List.drop_of_length_le (by omega)]
  show some (wrap64 s) = some (wrap64 (s + 0))
  rw [Int.add_zero]
 | succ d ih =>
  intro i K s hi hK
  obtain ⟨K, rfl⟩ : ∃ q, K = q + 1 := ⟨K - 1, by omega⟩
  have hil : i < l.length := by omega
  have h10 : l[i].f1.length ≤ 10 := (hw _ (List.getElem_mem hil)).2.2.2
  have hdrop : l.drop i = l[i] :: l.drop (i + 1) := List.drop_eq_getElem_cons hil
  rw [tenementref22_Live.l0, if_pos (by rw [List.length_map]; omega)]
  have := lv_l1 l h12 hw hil (d * 2100 + 300) (by omega) (fun K' s hK' => ih (i + 1) K' s (by omega) hK') l[i].f1.length 0 K s (by omega) (by omega)
  refine Eq.trans this ?_
  have e1 : prs (l.take i) ++ kk (l[i].f1.take 0) = prs (l.take i) := by rw [List.take_zero]; exact List.append_nil _
  have e2 : kk (l[i].f1.drop 0) ++ prs (l.drop (i + 1)) = prs (l.drop i) := by
   rw [List.drop_zero, hdrop]
   unfold prs kk
   rw [List.flatMap_cons]
  rw [e1, e2]
theorem rlive_f (h12 : l.length ≤ 12) (hw : ∀ t ∈ l, wfT t) {K : Nat} (hK : 30000 ≤ K) : ∃ n, judge_Live.f l = some n ∧ tenementref22_Live.f K (l.map rt_) = some n := by
 refine ⟨liveJ odT l, ?_, ?_⟩
 ·unfold judge_Live.f
  rw [if_pos (show judge_Live.ok l from ⟨by omega, fun x hx => ⟨by have := (hw x hx).2.2.2; omega, fun y hy => by have := (hw x hx).2.2.1 y hy; unfold fits at this; omega⟩⟩)]
  rfl
 ·have := lv_l0 l h12 hw l.length 0 K 0 (by omega) (by omega)
  rw [List.take_zero, List.drop_zero, Int.zero_add, wrap64_id (x := 0) (by omega) (by omega)] at this
  refine Eq.trans this ?_
  unfold liveJ
  congr 2
  refine sum_perm (List.Perm.map _ ?_)
  refine (List.perm_ext_iff_of_nodup (fo_nodup _ _) (nub_nodup _)).2 (fun q => ?_)
  rw [nub_mem, fo_mem]
  exact ⟨fun h => h.1, fun h => ⟨h, by simp [prs]⟩⟩
end
end Go.Proofs.Ythjhkcebcgdeoaa.Pure
