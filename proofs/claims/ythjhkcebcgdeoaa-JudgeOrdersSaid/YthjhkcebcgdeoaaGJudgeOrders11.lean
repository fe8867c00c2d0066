import Derived.Test.YthjhkcebcgdeoaaGJudgeOrders10
import Derived.Test.YthjhkcebcgdeoaaGJudgeOrders6
import Derived.Test.YthjhkcebcgdeoaaGJudgeOrders9
set_option linter.unusedVariables false
namespace Go.Proofs.Ythjhkcebcgdeoaa.Q
open Go.RowKit Go.Proofs.Ythjhkcebcgdeoaa.Q Go.Proofs.YthjhkcebcgdeoaaW.PrintWords Go.Proofs.YthjhkcebcgdeoaaW.PrintLast Go.Proofs.YthjhkcebcgdeoaaW.PrintMore
def tenementlaw22_JudgeOrders.Pure : Prop := ∀ (x0 : List (S61)), ((∀ x_ ∈ x0, wf61 x_) ∧ x0.length * 80 ≤ 140737488351232) → ∃ k, tenementlaw22_JudgeOrders.f k x0 = some true
end Go.Proofs.Ythjhkcebcgdeoaa.Q

set_option linter.unusedVariables false
set_option linter.unusedSimpArgs false
namespace Go.Proofs.Ythjhkcebcgdeoaa.Pure
open Go Go.RowKit Go.Proofs.Ythjhkcebcgdeoaa.Q Go.Proofs.YthjhkcebcgdeoaaW.PrintWords Go.Proofs.YthjhkcebcgdeoaaW.PrintLast Go.Proofs.YthjhkcebcgdeoaaW.PrintMore Go.Proofs.Ythjhkcebcgdeoaa.Plain
open Go.Proofs.Ythjhkcebcgdeoaa.Jud (Tx St srt put past idxs byStamp srt_length idxs_length)
theorem past_perm (cf : Int → Int → Int) (x : Int) : ∀ r : List Int, (past cf x r).Perm (x :: r)
 | [] => List.Perm.refl _
 | y :: r => by
  unfold past
  split
  ·exact ((past_perm cf x r).cons y).trans (List.Perm.swap x y r)
  ·exact List.Perm.refl _
theorem put_perm (cf : Int → Int → Int) (s : List Int) (x : Int) : (put cf s x).Perm (s ++ [x]) := by
 unfold put
 refine (List.reverse_perm _).trans ((past_perm cf x s.reverse).trans ?_)
 exact ((List.reverse_perm s).cons x).trans (List.perm_append_comm (l₁ := [x]))
theorem srt_perm (cf : Int → Int → Int) : ∀ (l s : List Int), (l.foldl (put cf) s).Perm (s ++ l)
 | [], s => by simp
 | x :: l, s => by
  rw [List.foldl_cons]
  refine (srt_perm cf l _).trans (((put_perm cf s x).append_right l).trans ?_)
  rw [List.append_assoc]
  exact List.Perm.refl _
def Bef (cf : Int → Int → Int) (u v : Int) : Prop := cf u v < 0 ∨ (cf u v = 0 ∧ u < v)
def ch (cf : Int → Int → Int) : List Int → Prop
 | [] => True
 | [_] => True
 | u :: v :: r => Bef cf v u ∧ ch cf (v :: r)
theorem ch_tail {cf : Int → Int → Int} {u : Int} {r : List Int} (h : ch cf (u :: r)) : ch cf r := by
 cases r with
 | nil => trivial
 | cons v r => exact h.2
theorem ch_past (cf : Int → Int → Int) (hneg : ∀ a b, cf b a = -cf a b) (x : Int) : ∀ (r : List Int), (∀ y ∈ r, y < x) → ch cf r → ch cf (past cf x r) ∧ ∀ w, cf x w < 0 → ch cf (w :: r) → ch cf (w :: past cf x r)
 | [], _, _ => ⟨trivial, fun w hw _ => ⟨.inl hw, trivial⟩⟩
 | y :: r, hlt, hc => by
  have hy := hlt y (by simp)
  have ih := ch_past cf hneg x r (fun z hz => hlt z (List.mem_cons_of_mem _ hz)) (ch_tail hc)
  by_cases c : cf x y < 0
  ·have e : past cf x (y :: r) = y :: past cf x r := by rw [past, if_pos c]
   rw [e]
   have h1 := ih.2 y c hc
   exact ⟨h1, fun w _ hw => ⟨hw.1, h1⟩⟩
  ·have e : past cf x (y :: r) = x :: y :: r := by rw [past, if_neg c]
   rw [e]
   have hb : Bef cf y x := by
    have := hneg x y
    unfold Bef
    omega
   exact ⟨⟨hb, hc⟩, fun w hw _ => ⟨.inl hw, hb, hc⟩⟩
theorem ch_srt (cf : Int → Int → Int) (hneg : ∀ a b, cf b a = -cf a b) : ∀ n, ch cf (srt cf (idxs n)).reverse ∧ ∀ y ∈ srt cf (idxs n), 0 ≤ y ∧ y < n
 | 0 => ⟨trivial, by simp [srt, idxs]⟩
 | n + 1 => by
  obtain ⟨h1, h2⟩ := ch_srt cf hneg n
  have e : srt cf (idxs (n + 1)) = put cf (srt cf (idxs n)) (n : Int) := by rw [← Go.Proofs.Ythjhkcebcgdeoaa.Jud.idxs_snoc, Go.Proofs.Ythjhkcebcgdeoaa.Jud.srt_snoc]
  rw [e]
  refine ⟨?_, ?_⟩
  ·unfold put
   rw [List.reverse_reverse]
   exact (ch_past cf hneg n _ (fun y hy => (h2 y (List.mem_reverse.1 hy)).2) h1).1
  ·intro y hy
   have := (put_perm cf (srt cf (idxs n)) n).mem_iff.1 hy
   rcases List.mem_append.1 this with h | h
   ·have := h2 y h; omega
   ·rw [List.mem_singleton.1 h]; omega
theorem ch_at {cf : Int → Int → Int} : ∀ {r : List Int} {i : Nat} {u v : Int}, ch cf r → r[i]? = some u → r[i + 1]? = some v → Bef cf v u
 | [], i, u, v, _, h, _ => by cases h
 | [a], i, u, v, _, _, h => by simp at h
 | a :: b :: r, 0, u, v, hc, h, h' => by
  obtain rfl := Option.some.inj h
  obtain rfl := Option.some.inj h'
  exact hc.1
 | a :: b :: r, i + 1, u, v, hc, h, h' => ch_at hc.2 h h'
theorem ch_rev {cf : Int → Int → Int} {s : List Int} {i : Nat} {u v : Int} (hc : ch cf s.reverse) (hu : s[i]? = some u) (hv : s[i + 1]? = some v) : Bef cf u v := by
 have hl : i + 1 < s.length := (List.getElem?_eq_some_iff.1 hv).1
 refine ch_at (i := s.length - 2 - i) hc ?_ ?_
 ·rw [List.getElem?_reverse (by omega), show s.length - 1 - (s.length - 2 - i) = i + 1 by omega]; exact hv
 ·rw [List.getElem?_reverse (by omega), show s.length - 1 - (s.length - 2 - i + 1) = i by omega]; exact hu
theorem idxs_nodup (n : Nat) : (idxs n).Nodup := by
 unfold idxs
 refine List.pairwise_map.2 ((List.nodup_range (n := n)).imp (fun {a b} h e => h (by injection e)))
theorem rdI {l : List Int} {i : Nat} {x : Int} (h : l[i]? = some x) : rd l (i : Int) = x := by
 unfold rd
 rw [Int.toNat_natCast, List.getD_eq_getElem?_getD, h]
 rfl
def odT (x y : St) : Int := lex (key x.f0.f0 x.f0.f1 x.f0.f2 x.f0.f3 x.f1) (key y.f0.f0 y.f0.f1 y.f0.f2 y.f0.f3 y.f1)
theorem odT_neg (x y : St) : odT y x = -odT x y := lex_neg _ _
theorem order_is (a : List Tx) (h12 : a.length ≤ 12) (hw : ∀ t ∈ a, wfT t) : judge_Order.f a = some (srt (byStamp odT a) (idxs a.length)) := by
 unfold judge_Order.f
 rw [if_pos ⟨h12, fun t ht => by have := (hw t ht).2.2.2; omega⟩]
 rfl
theorem orders_loop (a : List Tx) (h12 : a.length ≤ 12) (o : List Int) (ho : o.length = a.length) (hr : ∀ y ∈ o, 0 ≤ y ∧ y < a.length) (hn : o.Nodup) (hch : ∀ i u v, o[i]? = some u → o[i + 1]? = some v → Bef (byStamp odT a) u v) :
  ∀ d i (met : List Bool) (K : Nat), i + d = a.length → met.length = a.length → (∀ v : Nat, met.getD v false = true → (v : Int) ∈ o.take i) → 2 * d + 10 ≤ K → tenementlaw22_JudgeOrders.l0 K true a o met (i : Int) = some true := by
 intro d
 induction d with
 | zero =>
  intro i met K hi hm hv hK
  obtain ⟨K, rfl⟩ : ∃ q, K = q + 1 := ⟨K - 1, by omega⟩
  rw [tenementlaw22_JudgeOrders.l0, if_neg (by omega), if_pos rfl]
 | succ d ih =>
  intro i met K hi hm hv hK
  obtain ⟨K, rfl⟩ : ∃ q, K = q + 2 := ⟨K - 2, by omega⟩
  have hil : i < o.length := by omega
  have hx : o[i]? = some o[i] := List.getElem?_eq_getElem hil
  have hxm := List.getElem_mem hil
  have hrx := hr _ hxm
  have hnot : o[i] ∉ o.take i := by
   intro hm
   obtain ⟨j, hj⟩ := List.mem_iff_getElem?.1 hm
   rw [List.getElem?_take] at hj
   split at hj
   ·rename_i hji
    have := (List.getElem?_inj (by omega) hn).1 (hj.trans hx.symm)
    omega
   ·cases hj
  have htk : o.take (i + 1) = o.take i ++ [o[i]] := by rw [List.take_add_one, hx]; rfl
  generalize o[i] = x at hx hrx hnot htk
  obtain ⟨n, rfl⟩ : ∃ n : Nat, x = (n : Int) := ⟨x.toNat, by omega⟩
  have hmet : rdOf false met (n : Int) = false := by
   cases hb : rdOf false met (n : Int) with
   | false => rfl
   | true =>
    unfold rdOf at hb
    rw [Int.toNat_natCast] at hb
    exact absurd (hv n hb) hnot
  have hrest : tenementlaw22_JudgeOrders.l0 K true a o (met.set n true) (wrap64 ((i : Int) + 1)) = some true := by
   rw [show wrap64 ((i : Int) + 1) = ((i + 1 : Nat) : Int) by rw [wrap64_id (by omega) (by omega)]; omega]
   refine ih (i + 1) (met.set n true) K (by omega) (by rw [List.length_set]; exact hm) (fun v h => ?_) (by omega)
   rw [htk, List.mem_append, List.mem_singleton]
   rw [List.getD_eq_getElem?_getD, List.getElem?_set] at h
   by_cases e : n = v
   ·exact .inr (by rw [e])
   ·rw [if_neg e, ← List.getD_eq_getElem?_getD] at h
    exact .inl (hv v h)
  rw [tenementlaw22_JudgeOrders.l0, if_pos (by omega), if_pos (by omega), rdI hx, if_neg (by omega), if_neg (by omega), if_pos (by omega), if_pos (by omega), hmet, tenementlaw22_JudgeOrders.j1, if_neg (by simp), if_pos (by omega), if_pos (by omega), rdI hx, if_pos (by omega), if_pos (by omega), Option.bind_some, Int.toNat_natCast]
  by_cases h0 : (i : Int) > 0
  ·obtain ⟨j, rfl⟩ : ∃ j, i = j + 1 := ⟨i - 1, by omega⟩
   have hj1 : wrap64 (((j + 1 : Nat) : Int) - 1) = (j : Int) := by rw [wrap64_id (by omega) (by omega)]; omega
   have hy : o[j]? = some o[j] := List.getElem?_eq_getElem (by omega)
   have hry := hr _ (List.getElem_mem (show j < o.length by omega))
   generalize o[j] = y at hy hry
   have hb := hch j y n hy hx
   rw [if_pos h0, hj1, if_pos (by omega), if_pos (by omega), rdI hy, if_pos (by omega), if_pos (by omega), if_pos (by omega)]
   rw [order_f _ _ _ _ _ _ _ _ _ _ (k := K) (by omega), Option.bind_some]
   have hb' : odT (rd_T64 a y).f0 (rd_T64 a n).f0 < 0 ∨ (odT (rd_T64 a y).f0 (rd_T64 a n).f0 = 0 ∧ y < n) := hb
   unfold odT at hb'
   rw [if_neg (by omega)]
   by_cases hz : lex (key (rd_T64 a y).f0.f0.f0 (rd_T64 a y).f0.f0.f1 (rd_T64 a y).f0.f0.f2 (rd_T64 a y).f0.f0.f3 (rd_T64 a y).f0.f1) (key (rd_T64 a n).f0.f0.f0 (rd_T64 a n).f0.f0.f1 (rd_T64 a n).f0.f0.f2 (rd_T64 a n).f0.f0.f3 (rd_T64 a n).f0.f1) = 0
   ·rw [if_pos hz, if_neg (by omega)]
    exact hrest
   ·rw [if_neg hz]
    exact hrest
  ·rw [if_neg h0]
   exact hrest
set_option maxRecDepth 100000 in
theorem JudgeOrders : tenementlaw22_JudgeOrders.Pure := by
 intro x hx
 obtain ⟨K, a, hd, h12, hax, hw⟩ := deals_f x hx.1
 obtain ⟨o, hoe⟩ : ∃ o, o = srt (byStamp odT a) (idxs a.length) := ⟨_, rfl⟩
 have hneg : ∀ p q, byStamp odT a q p = -byStamp odT a p q := fun p q => odT_neg _ _
 have hol : o.length = a.length := by rw [hoe, srt_length, idxs_length]
 obtain ⟨c1, c2⟩ := ch_srt (byStamp odT a) hneg a.length
 have hper : o.Perm (idxs a.length) := by
  rw [hoe]
  have := srt_perm (byStamp odT a) (idxs a.length) []
  rw [List.nil_append] at this
  exact this
 have hnd : o.Nodup := hper.nodup_iff.2 (idxs_nodup _)
 rw [← hoe] at c1 c2
 have hd' : tenementlaw22_deals.f (K + 100) x = some (a, a.map rt_) := at_rounds (fun k => tenementlaw22_deals.mono x k) (Nat.le_add_right _ _) hd
 refine ⟨K + 100, ?_⟩
 unfold tenementlaw22_JudgeOrders.f
 show (if true = true then ((tenementlaw22_deals.f (K + 100) x).bind _) else none) = _
 rw [if_pos rfl, hd', Option.bind_some]
 show ((judge_Order.f a).bind _) = _
 rw [order_is a h12 hw, Option.bind_some, ← hoe, if_pos (by rw [hol]), if_pos (by omega), if_pos (by rw [Int.toNat_natCast]; show a.length ≤ _; omega), Int.toNat_natCast]
 exact orders_loop a h12 o hol c2 hnd (fun i u v hu hv => ch_rev c1 hu hv) a.length 0 _ _ (by omega) (by simp) (fun v h => by
  rw [List.getD_eq_getElem?_getD, List.getElem?_replicate] at h
  split at h <;> simp at h) (by omega)
end Go.Proofs.Ythjhkcebcgdeoaa.Pure
