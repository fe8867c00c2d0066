import Derived.Test.YtoagfdpgnfinhaaGStreamOnce3
import Derived.Test.YtoagfdpgnfinhaaGStreamOnce7
/- Handed in whatever order, over and over, the transactions of one datacenter are each next just once, in their order. -/
set_option linter.unusedVariables false
set_option linter.unusedSimpArgs false
namespace Go.Proofs.Ytoagfdpgnfinhaa.Pure
open Go.RowKit Go.Proofs.Ytoagfdpgnfinhaa.Q Go.Proofs.YtoagfdpgnfinhaaW.PrintWords Go.Proofs.YtoagfdpgnfinhaaW.PrintLast Go.Proofs.YtoagfdpgnfinhaaW.PrintMore Go.Proofs.Ytoagfdpgnfinhaa.Plain

def ans (n t : Nat) : Int := if n ≤ t then -1 else if n = t + 1 then 1 else 0
theorem rd_all : ∀ t < 7, ∀ n < 7, 1 ≤ n → stream_Ready.f 0 0 0 (t : Nat) 0 0 0 (n : Nat) 4 = some (ans n t) := by decide +kernel
theorem rd_none : ∀ t < 7, stream_Ready.f 0 0 0 (t : Nat) 0 0 0 0 0 = some 0 := by decide +kernel
theorem with_all : ∀ n < 7, vec_With.f 0 0 0 0 4 (n : Nat) = some (0, 0, 0, (n : Int)) := by decide +kernel
theorem at_all : ∀ t < 7, vec_At.f 0 0 0 (t : Nat) 4 = some (t : Int) := by decide +kernel
theorem join_all (t n : Nat) : vec_Join.f 0 0 0 (t : Int) 0 0 0 (n : Int) = some (0, 0, 0, ((max t n : Nat) : Int)) := by
  have e : mx (t : Int) n = ((max t n : Nat) : Int) := by unfold mx; split <;> omega
  unfold vec_Join.f
  rw [e]
  rfl
theorem u8_of {x : Int} (h : (Lit.int .u8 x).wf = true) : 0 ≤ x ∧ x ≤ 255 := by
  have e1 : IntKind.u8.min = 0 := by decide
  have e2 : IntKind.u8.max = 255 := by decide
  simpa only [Lit.wf, e1, e2, Bool.and_eq_true, decide_eq_true_eq] using h
theorem num_of {x : Int} (h : 0 ≤ x ∧ x ≤ 255) : ∃ n : Nat, n < 7 ∧ 1 ≤ n ∧ IntKind.u64.wrap (1 + IntKind.u64.wrap (Int.tmod x 6)) = (n : Int) := by
  have e : Int.tmod x 6 = x % 6 := Int.tmod_eq_emod_of_nonneg h.1
  refine ⟨(1 + x % 6).toNat, by omega, by omega, ?_⟩
  rw [e]
  simp only [IntKind.wrap_u64]
  omega
theorem round (l : List Int) (hl : ∀ x ∈ l, (Lit.int .u8 x).wf = true) : ∀ d : Nat, ∀ i t K : Nat, i + d = 41 → t < 7 → 3 * d + 3 ≤ K → tenementlaw15_StreamOnce.l0 K l true (i : Int) 0 0 0 (t : Int) = some true := by
  intro d
  induction d with
  | zero =>
    intro i t K hi ht hK
    obtain ⟨K, rfl⟩ : ∃ k, K = k + 1 + 1 := ⟨K - 2, by omega⟩
    have c : decide ((i : Int) < 40) = false := decide_eq_false (by omega)
    rw [tenementlaw15_StreamOnce.l0, c]
    have e : tenementlaw15_StreamOnce.j1 (K + 1) l true (i : Int) false 0 0 0 (t : Int) = some true := by
      rw [tenementlaw15_StreamOnce.j1, if_neg (by simp), if_pos rfl, rd_none t ht, Option.bind_some, if_pos rfl]
    split <;> exact e
  | succ d ih =>
    intro i t K hi ht hK
    obtain ⟨K, rfl⟩ : ∃ k, K = k + 1 + 1 + 1 := ⟨K - 3, by omega⟩
    have e : tenementlaw15_StreamOnce.j1 (K + 1 + 1) l true (i : Int) false 0 0 0 (t : Int) = some true := by
      rw [tenementlaw15_StreamOnce.j1, if_neg (by simp), if_pos rfl, rd_none t ht, Option.bind_some, if_pos rfl]
    rw [tenementlaw15_StreamOnce.l0]
    by_cases c1 : (i : Int) < (l.length : Int)
    rotate_left
    · rw [if_neg c1]; exact e
    rw [if_pos c1]
    by_cases c2 : (i : Int) < 40
    rotate_left
    · rw [decide_eq_false c2]; exact e
    rw [decide_eq_true c2]
    clear e
    have hi2 : i < l.length := by omega
    have hx : rd l (i : Int) ∈ l := by
      unfold rd
      rw [Int.toNat_natCast, List.getD_eq_getElem?_getD, List.getElem?_eq_getElem hi2]
      exact List.getElem_mem hi2
    obtain ⟨n, hn, hn1, en⟩ := num_of (u8_of (hl _ hx))
    have et : IntKind.u64.wrap ((t : Int) + 1) = (t : Int) + 1 := by simp only [IntKind.wrap_u64]; omega
    have ew : wrap64 ((i : Int) + 1) = ((i + 1 : Nat) : Int) := by unfold wrap64; omega
    have H1 : ∀ r : Int, r = ans n t → tenementlaw15_StreamOnce.j2 (K + 1) l true (i : Int) r false 0 0 0 (t : Int) 0 0 0 (n : Int) 4 = some true := by
      intro r hr
      rw [tenementlaw15_StreamOnce.j2, if_neg (by simp), join_all t n, Option.bind_some, ew]
      split
      · exact ih (i + 1) (max t n) K (by omega) (by omega) (by omega)
      · exact ih (i + 1) t K (by omega) ht (by omega)
    have hr : ((n : Int) ≤ t ∧ ans n t = -1) ∨ ((n : Int) = t + 1 ∧ ans n t = 1) ∨ ((t : Int) + 1 < n ∧ ans n t = 0) := by
      unfold ans
      by_cases a : n ≤ t
      · exact Or.inl ⟨by omega, if_pos a⟩
      · rw [if_neg a]
        by_cases b : n = t + 1
        · exact Or.inr (Or.inl ⟨by omega, if_pos b⟩)
        · exact Or.inr (Or.inr ⟨by omega, if_neg b⟩)
    rw [tenementlaw15_StreamOnce.j1, if_pos rfl, if_pos (by omega), if_pos c1, en, with_all n hn, Option.bind_some, at_all t ht, Option.bind_some]
    show (stream_Ready.f 0 0 0 (t : Int) 0 0 0 (n : Int) 4).bind _ = _
    rw [rd_all t ht n hn hn1, Option.bind_some, et]
    have H := H1 _ rfl
    clear H1 ih en et ew hx hi2 hl hK
    generalize ans n t = r at *
    rcases hr with ⟨h1, rfl⟩ | ⟨h1, rfl⟩ | ⟨h1, rfl⟩
    all_goals
      repeat' split
      all_goals first | exact H | (exfalso; omega)
theorem StreamOnce : tenementlaw15_StreamOnce.Pure := by
  intro l _ _ hl
  refine ⟨200, ?_⟩
  unfold tenementlaw15_StreamOnce.f
  rw [show tenementlaw15_examples.f = some true from rfl, Option.bind_some, if_pos rfl]
  exact round l hl 41 0 0 200 (by omega) (by omega) (by omega)
end Go.Proofs.Ytoagfdpgnfinhaa.Pure
