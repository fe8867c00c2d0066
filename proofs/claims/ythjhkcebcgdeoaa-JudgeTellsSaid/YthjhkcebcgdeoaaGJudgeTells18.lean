import Derived.Test.YthjhkcebcgdeoaaGJudgeTells17
import Derived.Test.YthjhkcebcgdeoaaGJudgeTells8
import Derived.Test.YthjhkcebcgdeoaaGJudgeTells14
import Derived.Test.YthjhkcebcgdeoaaGJudgeTells16
set_option linter.unusedVariables false
namespace Go.Proofs.Ythjhkcebcgdeoaa.Q
open Go.RowKit Go.Proofs.Ythjhkcebcgdeoaa.Q Go.Proofs.YthjhkcebcgdeoaaW.PrintWords Go.Proofs.YthjhkcebcgdeoaaW.PrintLast Go.Proofs.YthjhkcebcgdeoaaW.PrintMore
def tenementlaw22_JudgeTells.Pure : Prop := ∀ (x0 : List (S61)) (x1 : List (S61)) (x2 : S26) (x3 : S31) (x4 : Int), ((∀ x_ ∈ x0, wf61 x_) ∧ x0.length * 80 ≤ 140737488351232) → ((∀ x_ ∈ x1, wf61 x_) ∧ x1.length * 80 ≤ 140737488351232) → (wf26 x2) → (wf31 x3) → ((Lit.int .u8 x4).wf = true) → tenementlaw22_JudgeTells.f x0 x1 (x2.f0.f0) (x2.f0.f1) (x2.f0.f2) (x2.f0.f3) (x2.f1) (x2.f2) (x3.f0.f0) (x3.f0.f1) (x3.f0.f2) (x3.f0.f3) (x3.f1) x4 = some true
end Go.Proofs.Ythjhkcebcgdeoaa.Q

set_option linter.unusedVariables false
set_option linter.unusedSimpArgs false
namespace Go.Proofs.Ythjhkcebcgdeoaa.Pure
open Go Go.RowKit Go.Proofs.Ythjhkcebcgdeoaa.Q Go.Proofs.YthjhkcebcgdeoaaW.PrintWords Go.Proofs.YthjhkcebcgdeoaaW.PrintLast Go.Proofs.YthjhkcebcgdeoaaW.PrintMore Go.Proofs.Ythjhkcebcgdeoaa.Plain
open Go.Proofs.Ythjhkcebcgdeoaa.Jud (Tx St)
theorem vector_nn {v0 v1 v2 v3 : Int} (h0 : (Lit.int .u64 v0).wf = true) (h1 : (Lit.int .u64 v1).wf = true) (h2 : (Lit.int .u64 v2).wf = true) (h3 : (Lit.int .u64 v3).wf = true) (own : Bool) {k : Nat} (hk : 5 ≤ k) :
  ∃ n0 n1 n2 n3 : Int, tenementlaw22_Vector_vector.f k v0 v1 v2 v3 own = some (n0, n1, n2, n3) ∧ 0 ≤ n0 ∧ 0 ≤ n1 ∧ 0 ≤ n2 ∧ 0 ≤ n3 := by
 have h0 := u64_of h0
 have h1 := u64_of h1
 have h2 := u64_of h2
 have h3 := u64_of h3
 unfold tenementlaw22_Vector_vector.f
 cases own with
 | false =>
  rw [if_neg (by simp)]
  exact ⟨_, _, _, _, rfl, by omega, by omega, by omega, by omega⟩
 | true =>
  rw [if_pos rfl]
  obtain ⟨k, rfl⟩ : ∃ m, k = m + 5 := ⟨k - 5, by omega⟩
  have e : tenementlaw22_Vector_vector.l0 (k + 5) 0 v0 v1 v2 v3 true = some (Int.tmod v0 4, Int.tmod v1 4, Int.tmod v2 4, Int.tmod v3 4) := by
   rw [tenementlaw22_Vector_vector.l0, if_pos (by omega), if_pos rfl, show wrap64 (0 + 1) = 1 from wrap64_id (by omega) (by omega)]
   rw [tenementlaw22_Vector_vector.l0, if_pos (by omega), if_neg (by omega), if_pos rfl, show wrap64 (1 + 1) = 2 from wrap64_id (by omega) (by omega)]
   rw [tenementlaw22_Vector_vector.l0, if_pos (by omega), if_neg (by omega), if_neg (by omega), if_pos rfl, show wrap64 (2 + 1) = 3 from wrap64_id (by omega) (by omega)]
   rw [tenementlaw22_Vector_vector.l0, if_pos (by omega), if_neg (by omega), if_neg (by omega), if_neg (by omega), if_pos rfl, show wrap64 (3 + 1) = 4 from wrap64_id (by omega) (by omega)]
   rw [tenementlaw22_Vector_vector.l0, if_neg (by omega)]
  exact ⟨_, _, _, _, e, Int.tmod_nonneg 4 (by omega), Int.tmod_nonneg 4 (by omega), Int.tmod_nonneg 4 (by omega), Int.tmod_nonneg 4 (by omega)⟩
theorem u8_in {z : Int} (h : (Lit.int .u8 z).wf = true) : 0 ≤ z ∧ z ≤ 255 := by
 have e1 : IntKind.u8.min = 0 := by decide
 have e2 : IntKind.u8.max = 255 := by decide
 simpa only [Lit.wf, e1, e2, Bool.and_eq_true, decide_eq_true_eq] using h
theorem JudgeTells : tenementlaw22_JudgeTells.Pure := by
 intro x y p at_ m hx hy hp ha hm
 obtain ⟨K1, a, hd1, h12, _, hw⟩ := deals_f x hx.1
 obtain ⟨K2, b0, hd2, h12', _, hw'⟩ := deals_f y hy.1
 obtain ⟨K, hK⟩ : ∃ K, K = K1 + K2 + 700000 := ⟨_, rfl⟩
 have hdA : tenementlaw22_deals.f K x = some (a, a.map rt_) := at_rounds (fun k => tenementlaw22_deals.mono x k) (by omega) hd1
 have hdB : tenementlaw22_deals.f K y = some (b0, b0.map rt_) := at_rounds (fun k => tenementlaw22_deals.mono y k) (by omega) hd2
 obtain ⟨s0, s1, s2, s3, hv, n0, n1, n2, n3⟩ := vector_nn ha.1.1 ha.1.2.1 ha.1.2.2.1 ha.1.2.2.2 at_.f1 (k := K) (by omega)
 have hwr := wrt_f p p.f1 ⟨hp.1.1, hp.1.2.1, hp.1.2.2.1⟩
 generalize wrt p p.f1 = w at hwr
 obtain ⟨wb, wk, wv, wg⟩ := w
 have hok : a.length ≤ 1000000 ∧ ∀ t ∈ a, t.f1.length ≤ 1000 := ⟨by omega, fun t ht => by have := (hw t ht).2.2.2; omega⟩
 obtain ⟨c, o1, hr1⟩ : ∃ c o1, judge_Read.f a wb wk s0 s1 s2 s3 = some (c, o1) := by
  unfold judge_Read.f
  rw [if_pos (show judge_Read.ok a from hok)]
  exact ⟨_, _, rfl⟩
 obtain ⟨e, o2, hl1⟩ : ∃ e o2, judge_Last.f a wb wk = some (e, o2) := by
  unfold judge_Last.f
  rw [if_pos (show judge_Last.ok a from hok)]
  exact ⟨_, _, rfl⟩
 have hr2 := (rread_f a h12 hw wb wk s0 s1 s2 s3 (K := K) (by omega)).trans hr1
 have hl2 := (rlst_f a h12 hw wb wk (K := K) (by omega)).trans hl1
 obtain ⟨os, ho1, ho2, ho3⟩ := rorders_f a h12 hw (K := K) (by omega)
 obtain ⟨q, hc1, hc2⟩ := rclosed_f a s0 s1 s2 s3 h12 hw n0 n1 n2 n3 (K := K) (by omega)
 obtain ⟨n, hn1, hn2⟩ := rlive_f a h12 hw (K := K) (by omega)
 have ha10 : ∀ t ∈ a, t.f1.length ≤ 10 := fun t ht => (hw t ht).2.2.2
 have hsub : ∀ b : List Tx, b.length ≤ 12 → (∀ t ∈ b, t.f1.length ≤ 10) → ∃ p1 p2 : Bool, judge_Subset.f a b = some p1 ∧ tenementref22_Subset.f K (a.map rt_) (b.map rt_) = some p1 ∧ judge_Subset.f b a = some p2 ∧ tenementref22_Subset.f K (b.map rt_) (a.map rt_) = some p2 := by
  intro b hb hb10
  obtain ⟨p1, h1, h2⟩ := rsub_f a b h12 hb ha10 hb10 (K := K) (by omega)
  obtain ⟨p2, h3, h4⟩ := rsub_f b a hb h12 hb10 ha10 (K := K) (by omega)
  exact ⟨p1, p2, h1, h2, h3, h4⟩
 unfold tenementlaw22_JudgeTells.f
 refine if_pos ⟨K, a, b0, a.map rt_, b0.map rt_, wb, wk, wv, wg, s0, s1, s2, s3, c, o1, e, o2, os, q, n, u8_in hm, hdA, hdB, h12, by rw [List.length_map], hwr, hv, hr1, hr2, hl1, hl2, ho1, ho2, ho3, hc1, hc2, hn1, hn2, fun b s h => ?_⟩
 rcases h with ⟨rfl, rfl⟩ | ⟨m, _, rfl, rfl⟩
 ·exact hsub _ h12' (fun t ht => (hw' t ht).2.2.2)
 ·rw [← List.map_take]
  exact hsub _ (by rw [List.length_take]; omega) (fun t ht => ha10 t (List.mem_of_mem_take ht))
end Go.Proofs.Ythjhkcebcgdeoaa.Pure
