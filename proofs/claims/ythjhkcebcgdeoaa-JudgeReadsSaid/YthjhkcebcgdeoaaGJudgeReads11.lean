import Derived.Test.YthjhkcebcgdeoaaGJudgeReads10
import Derived.Test.YthjhkcebcgdeoaaGJudgeReads7
import Derived.Test.YthjhkcebcgdeoaaGJudgeReads9
set_option linter.unusedVariables false
namespace Go.Proofs.Ythjhkcebcgdeoaa.Q
open Go.RowKit Go.Proofs.Ythjhkcebcgdeoaa.Q Go.Proofs.YthjhkcebcgdeoaaW.PrintWords Go.Proofs.YthjhkcebcgdeoaaW.PrintLast Go.Proofs.YthjhkcebcgdeoaaW.PrintMore
def tenementlaw22_JudgeReads.Pure : Prop := ∀ (x0 : List (S61)) (x1 : S26) (x2 : S31) (x3 : S31), ((∀ x_ ∈ x0, wf61 x_) ∧ x0.length * 80 ≤ 140737488351232) → (wf26 x1) → (wf31 x2) → (wf31 x3) → tenementlaw22_JudgeReads.f x0 (x1.f0.f0) (x1.f0.f1) (x1.f0.f2) (x1.f0.f3) (x1.f1) (x1.f2) (x2.f0.f0) (x2.f0.f1) (x2.f0.f2) (x2.f0.f3) (x2.f1) (x3.f0.f0) (x3.f0.f1) (x3.f0.f2) (x3.f0.f3) (x3.f1) = some true
end Go.Proofs.Ythjhkcebcgdeoaa.Q

set_option linter.unusedVariables false
set_option linter.unusedSimpArgs false
namespace Go.Proofs.Ythjhkcebcgdeoaa.Pure
open Go Go.RowKit Go.Proofs.Ythjhkcebcgdeoaa.Q Go.Proofs.YthjhkcebcgdeoaaW.PrintWords Go.Proofs.YthjhkcebcgdeoaaW.PrintLast Go.Proofs.YthjhkcebcgdeoaaW.PrintMore Go.Proofs.Ythjhkcebcgdeoaa.Plain
open Go.Proofs.Ythjhkcebcgdeoaa.Jud (Tx St one lst)
theorem read_last (al : List Tx) (h : al.length ≤ 1000000 ∧ ∀ x ∈ al, x.f1.length ≤ 1000) (b k : ByteArray) (s0 s1 s2 s3 : Int) :
  ∃ (r : ByteArray) (o : Bool), judge_Read.f al b k s0 s1 s2 s3 = some (r, o) ∧ judge_Last.f (al.filter (fun t : Tx => decide (t.f0.f0.f0 ≤ s0 ∧ t.f0.f0.f1 ≤ s1 ∧ t.f0.f0.f2 ≤ s2 ∧ t.f0.f0.f3 ≤ s3))) b k = some (r, o) := by
 obtain ⟨F, hF⟩ : ∃ F, F = al.filter (fun t : Tx => decide (t.f0.f0.f0 ≤ s0 ∧ t.f0.f0.f1 ≤ s1 ∧ t.f0.f0.f2 ≤ s2 ∧ t.f0.f0.f3 ≤ s3)) := ⟨_, rfl⟩
 have e2 : judge_Last.f F b k = some (if (lst (fun _ => true) judge_Last.od b k F).f3 then ⟨#[]⟩ else (lst (fun _ => true) judge_Last.od b k F).f2, !(lst (fun _ => true) judge_Last.od b k F).f3) := by
  unfold judge_Last.f
  rw [if_pos (show judge_Last.ok _ from hF ▸ ⟨Nat.le_trans (List.length_filter_le _ _) h.1, fun x hx => h.2 x (List.mem_filter.1 hx).1⟩)]
 rw [← hF]
 refine ⟨_, _, ?_, e2⟩
 unfold judge_Read.f
 rw [if_pos (show judge_Read.ok al from h), lst_all (fun x => decide (x.f0.f0 ≤ s0 ∧ x.f0.f1 ≤ s1 ∧ x.f0.f2 ≤ s2 ∧ x.f0.f3 ≤ s3)) judge_Read.od b k al, hF]
 rfl
theorem JudgeReads : tenementlaw22_JudgeReads.Pure := by
 intro x p at_ more hx hp ha hm
 obtain ⟨M, hM⟩ := deals_most x
 obtain ⟨al, hl, hO, hmd⟩ := made_ex x hx.1 hM (show M ≤ M + 5 by omega) (min x.length 10) (by omega) (by omega)
 obtain ⟨v0, v1, v2, v3, hv⟩ := vector_f ha.1.1 ha.1.2.1 ha.1.2.2.1 ha.1.2.2.2 at_.f1 (k := M + 5) (by omega)
 obtain ⟨m0, m1, m2, m3, hmm⟩ := vector_f hm.1.1 hm.1.2.1 hm.1.2.2.1 hm.1.2.2.2 more.f1 (k := M + 5) (by omega)
 have hok := owned_small hO (by omega)
 have hw := wrt_f p true ⟨hp.1.1, hp.1.2.1, hp.1.2.2.1⟩
 obtain ⟨b, o1, r1, l1⟩ := read_last al hok (wrt p true).f0 (wrt p true).f1 v0 v1 v2 v3
 obtain ⟨d, o2, r2, l2⟩ := read_last al hok (wrt p true).f0 (wrt p true).f1 (mx v0 m0) (mx v1 m1) (mx v2 m2) (mx v3 m3)
 have hz : judge_Read.f al (wrt p true).f0 (wrt p true).f1 0 0 0 0 = some (⟨#[]⟩, false) := by
  unfold judge_Read.f
  rw [if_pos (show judge_Read.ok al from hok), lst_none (fun x => decide (x.f0.f0 ≤ 0 ∧ x.f0.f1 ≤ 0 ∧ x.f0.f2 ≤ 0 ∧ x.f0.f3 ≤ 0)) judge_Read.od _ _ al (fun t ht => by
   obtain ⟨i, hi⟩ := List.mem_iff_getElem?.1 ht
   have := (hO i t hi).1
   exact decide_eq_false (by omega))]
  rfl
 unfold tenementlaw22_JudgeReads.f
 exact if_pos ⟨M + 5, v0, v1, v2, v3, m0, m1, m2, m3, mx v0 m0, mx v1 m1, mx v2 m2, mx v3 m3, al, (wrt p true).f0, (wrt p true).f1, (wrt p true).f2, (wrt p true).f3, b, d, ⟨#[]⟩, o1, o2, hv, hmm, rfl, hw, ⟨hl, hmd⟩, r1, l1, r2, l2, hz⟩
end Go.Proofs.Ythjhkcebcgdeoaa.Pure
