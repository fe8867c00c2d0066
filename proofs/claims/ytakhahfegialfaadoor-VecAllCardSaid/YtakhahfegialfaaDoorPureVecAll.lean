/- The meet of all is at most each, and what is at most each is at most it; of one it is that. -/
import Derived.Test.YtakhahfegialfaaDoorVecO
import Derived.Test.YtakhahfegialfaaDoorQSayVecAll
import Derived.Test.YtakhahfegialfaaDoorQxf18
set_option linter.unusedVariables false
set_option linter.unusedSimpArgs false
namespace Go.Proofs.YtakhahfegialfaaDoor.Pure
open Go.RowKit Go.Proofs.YtakhahfegialfaaDoor.Q Go.Proofs.YtakhahfegialfaaDoorW.PrintWords Go.Proofs.YtakhahfegialfaaDoorW.PrintLast Go.Proofs.YtakhahfegialfaaDoorW.PrintMore Go.Proofs.YtakhahfegialfaaDoor.Plain

def Le (v w : S24) : Prop := v.f0 ≤ w.f0 ∧ v.f1 ≤ w.f1 ∧ v.f2 ≤ w.f2 ∧ v.f3 ≤ w.f3
theorem mn_le (a b : Int) : mn a b ≤ a ∧ mn a b ≤ b ∧ ∀ x, x ≤ a → x ≤ b → x ≤ mn a b := by
  unfold mn
  split <;> exact ⟨by omega, by omega, fun x h1 h2 => by omega⟩
theorem rd_nat (l : List S24) (i : Nat) : rd_T24 l (i : Int) = l.getD i z24 := by
  unfold rd_T24
  rw [Int.toNat_natCast]
theorem succ_w {i : Nat} (h : i ≤ 100) : wrap64 ((i : Int) + 1) = ((i + 1 : Nat) : Int) := by rw [wrap64_id (by omega) (by omega)]; omega
theorem all_loop (ys : List S24) (hy : ys.length ≤ 100) : ∀ (d k i : Nat) (s : S24), i + d = ys.length → d + 1 ≤ k →
    ∃ m : S24, vec_All.l0 k ys (ys.length : Int) (i : Int) s.f0 s.f1 s.f2 s.f3 = some (m.f0, m.f1, m.f2, m.f3) ∧ Le m s ∧ (∀ j, i ≤ j → j < ys.length → Le m (ys.getD j z24)) ∧
      ∀ w, Le w s → (∀ j, i ≤ j → j < ys.length → Le w (ys.getD j z24)) → Le w m := by
  intro d
  induction d with
  | zero =>
    intro k i s hi hk
    obtain ⟨k, rfl⟩ : ∃ m, k = m + 1 := ⟨k - 1, by omega⟩
    refine ⟨s, ?_, ⟨Int.le_refl _, Int.le_refl _, Int.le_refl _, Int.le_refl _⟩, fun j h1 h2 => absurd h2 (by omega), fun w hw _ => hw⟩
    rw [vec_All.l0, if_neg (by omega)]
  | succ d ih =>
    intro k i s hi hk
    obtain ⟨k, rfl⟩ : ∃ m, k = m + 1 := ⟨k - 1, by omega⟩
    obtain ⟨y, hyi⟩ : ∃ y, y = ys.getD i z24 := ⟨_, rfl⟩
    obtain ⟨m, h1, h2, h3, h4⟩ := ih k (i + 1) ⟨mn s.f0 y.f0, mn s.f1 y.f1, mn s.f2 y.f2, mn s.f3 y.f3⟩ (by omega) (by omega)
    have n0 := mn_le s.f0 y.f0
    have n1 := mn_le s.f1 y.f1
    have n2 := mn_le s.f2 y.f2
    have n3 := mn_le s.f3 y.f3
    obtain ⟨a0, a1, a2, a3⟩ := h2
    simp only at a0 a1 a2 a3
    refine ⟨m, ?_, ⟨by omega, by omega, by omega, by omega⟩, ?_, ?_⟩
    · rw [vec_All.l0, if_pos (by omega), if_pos (by omega), if_pos (by omega), rd_nat, ← hyi]
      show (some (mn s.f0 y.f0, mn s.f1 y.f1, mn s.f2 y.f2, mn s.f3 y.f3)).bind _ = _
      rw [Option.bind_some, succ_w (by omega)]
      exact h1
    · intro j hj1 hj2
      by_cases e : j = i
      · subst e
        rw [← hyi]
        exact ⟨by omega, by omega, by omega, by omega⟩
      · exact h3 j (by omega) hj2
    · intro w hw hall
      have hi' := hall i (Nat.le_refl _) (by omega)
      rw [← hyi] at hi'
      obtain ⟨b0, b1, b2, b3⟩ := hw
      obtain ⟨c0, c1, c2, c3⟩ := hi'
      exact h4 w ⟨n0.2.2 _ b0 c0, n1.2.2 _ b1 c1, n2.2.2 _ b2 c2, n3.2.2 _ b3 c3⟩ (fun j hj1 hj2 => hall j (by omega) hj2)
theorem all_f {L : List S24} (h0 : 0 < L.length) (hL : L.length ≤ 100) {k : Nat} (hk : 102 ≤ k) :
    ∃ m : S24, vec_All.f k L = some (m.f0, m.f1, m.f2, m.f3) ∧ (∀ j, j < L.length → Le m (L.getD j z24)) ∧ ∀ w, (∀ j, j < L.length → Le w (L.getD j z24)) → Le w m := by
  obtain ⟨x, r, rfl⟩ : ∃ x r, L = x :: r := by
    cases L with
    | nil => simp at h0
    | cons x r => exact ⟨x, r, rfl⟩
  rw [List.length_cons] at hL
  obtain ⟨m, h1, h2, h3, h4⟩ := all_loop r (by omega) r.length k 0 x (by omega) (by omega)
  refine ⟨m, ?_, ?_, ?_⟩
  · unfold vec_All.f
    rw [List.length_cons, if_neg (by omega), if_pos (by omega), if_pos (by omega), Option.bind_some]
    exact h1
  · intro j hj
    cases j with
    | zero => exact h2
    | succ j => rw [List.length_cons] at hj; exact h3 j (Nat.zero_le _) (by omega)
  · intro w hw
    refine h4 w (hw 0 (by rw [List.length_cons]; omega)) (fun j _ hj => ?_)
    exact hw (j + 1) (by rw [List.length_cons]; omega)
theorem all_one (x : S24) {k : Nat} (hk : 1 ≤ k) : vec_All.f k [x] = some (x.f0, x.f1, x.f2, x.f3) := by
  obtain ⟨k, rfl⟩ : ∃ m, k = m + 1 := ⟨k - 1, by omega⟩
  rfl
theorem all_take {L : List S24} (h0 : 0 < L.length) {k : Nat} (hk : 1 ≤ k) : vec_All.f k (L.take 1) = some ((rd_T24 L 0).f0, (rd_T24 L 0).f1, (rd_T24 L 0).f2, (rd_T24 L 0).f3) := by
  cases L with
  | nil => simp at h0
  | cons x r => exact all_one x hk
theorem last_true {L : List S24} (h0 : 0 < L.length) {k : Nat} (hk : 1 ≤ k) :
    (if 1 ≤ (L.length : Int) then ((vec_All.f k (L.take 1)).bind fun bt => (if 0 < (L.length : Int) then (if (bt.1 == ((rd_T24 L 0).f0) && (bt.2.1 == ((rd_T24 L 0).f1) && (bt.2.2.1 == ((rd_T24 L 0).f2) && (bt.2.2.2 == ((rd_T24 L 0).f3))))) = true then (some true) else (none)) else (none))) else (none)) = some true := by
  rw [if_pos (by omega), all_take h0 hk, Option.bind_some, if_pos (by omega), if_pos (beq4 _ _ _ _)]
theorem judge {L : List S24} (h0 : 0 < L.length) (hL : L.length ≤ 100) {m : S24} (b0 b1 b2 b3 : Int) (h1 : ∀ j, j < L.length → Le m (L.getD j z24)) (h2 : ∀ w, (∀ j, j < L.length → Le w (L.getD j z24)) → Le w m) :
    ∀ (d k i : Nat) (under : Bool), i + d = L.length → d + 3 ≤ k → (under = true → ∀ j, j < i → Le ⟨b0, b1, b2, b3⟩ (L.getD j z24)) →
      tenementlaw06_VecAll.l1 k true L under (i : Int) m.f0 m.f1 m.f2 m.f3 b0 b1 b2 b3 = some true := by
  intro d
  induction d with
  | zero =>
    intro k i under hi hk hu
    obtain ⟨k, rfl⟩ : ∃ m, k = m + 1 := ⟨k - 1, by omega⟩
    rw [tenementlaw06_VecAll.l1, if_neg (by omega), if_neg (by omega), if_pos rfl]
    cases under with
    | true =>
      rw [if_pos rfl]
      have hle := h2 ⟨b0, b1, b2, b3⟩ (fun j hj => hu rfl j (by omega))
      rw [vleq_true hle, Option.bind_some, if_pos rfl]
      exact last_true h0 (by omega)
    | false =>
      rw [if_neg (by simp)]
      exact last_true h0 (by omega)
  | succ d ih =>
    intro k i under hi hk hu
    obtain ⟨k, rfl⟩ : ∃ m, k = m + 1 := ⟨k - 1, by omega⟩
    rw [tenementlaw06_VecAll.l1, if_pos (by omega), if_pos (by omega), rd_nat, vleq_true (h1 i (by omega)), Option.bind_some, if_pos rfl]
    cases under with
    | true =>
      rw [if_pos rfl, vleq_f, Option.bind_some, succ_w (by omega)]
      refine ih k (i + 1) _ (by omega) (by omega) (fun hd j hj => ?_)
      by_cases e : j = i
      · subst e; have hd2 := of_decide_eq_true hd; exact hd2
      · exact hu rfl j (by omega)
    | false =>
      rw [if_neg (by simp), succ_w (by omega)]
      exact ih k (i + 1) _ (by omega) (by omega) (fun hd => absurd hd (by simp))
theorem VecAll : tenementlaw06_VecAll.Pure := by
  intro l x hl hx
  obtain ⟨⟨x0, x1, x2, x3⟩, own⟩ := x
  have hj : ∀ (k : Nat) (L : List S24), 200 ≤ k → L.length ≤ 8 → tenementlaw06_VecAll.j1 k true L x0 x1 x2 x3 own = some true := by
    intro k L hk hL
    obtain ⟨k, rfl⟩ : ∃ m, k = m + 1 := ⟨k - 1, by omega⟩
    obtain ⟨n0, n1, n2, n3, ev, _, _, _, _⟩ := vector_f hx.1.1 hx.1.2.1 hx.1.2.2.1 hx.1.2.2.2 own (k := k) (by omega)
    rw [tenementlaw06_VecAll.j1]
    rcases Nat.eq_zero_or_pos L.length with h0 | h0
    · obtain rfl := List.eq_nil_of_length_eq_zero h0
      have e : vec_All.f k ([] : List S24) = some (0, 0, 0, 0) := rfl
      rw [e, Option.bind_some, ev, Option.bind_some]
      obtain ⟨k, rfl⟩ : ∃ m, k = m + 1 := ⟨k - 1, by omega⟩
      rw [tenementlaw06_VecAll.l1, if_neg (by simp), if_pos (by simp), if_pos rfl]
      have e2 : vec_Sum.f 0 0 0 0 = some 0 := by decide +kernel
      rw [e2, Option.bind_some, if_pos rfl]
    · obtain ⟨m, e, h1, h2⟩ := all_f h0 (by omega) (k := k) (by omega)
      rw [e, Option.bind_some, ev, Option.bind_some]
      exact judge h0 (by omega) n0 n1 n2 n3 h1 h2 L.length k 0 true (by omega) (by omega) (fun _ j hj => absurd hj (by omega))
  have hloop : ∀ (d k i : Nat) (L : List S24), i + d = 8 → d + 210 ≤ k → L.length = i → tenementlaw06_VecAll.l0 k l true L (i : Int) x0 x1 x2 x3 own = some true := by
    intro d
    induction d with
    | zero =>
      intro k i L hi hk hL
      obtain ⟨k, rfl⟩ : ∃ m, k = m + 1 := ⟨k - 1, by omega⟩
      rw [tenementlaw06_VecAll.l0]
      by_cases c : (i : Int) < (l.length : Int)
      · rw [if_pos c, if_neg (by omega)]
        exact hj k L (by omega) (by omega)
      · rw [if_neg c]
        exact hj k L (by omega) (by omega)
    | succ d ih =>
      intro k i L hi hk hL
      obtain ⟨k, rfl⟩ : ∃ m, k = m + 1 := ⟨k - 1, by omega⟩
      rw [tenementlaw06_VecAll.l0]
      by_cases c : (i : Int) < (l.length : Int)
      · rw [if_pos c, if_pos (by omega), if_pos (by omega)]
        have hm : rd_T26 l (i : Int) ∈ l := by
          unfold rd_T26
          rw [Int.toNat_natCast, List.getD_eq_getElem?_getD, List.getElem?_eq_getElem (show i < l.length by omega)]
          exact List.getElem_mem _
        have hw := hl.1 _ hm
        generalize rd_T26 l (i : Int) = y at *
        obtain ⟨n0, n1, n2, n3, ev, _, _, _, _⟩ := vector_f hw.1.1 hw.1.2.1 hw.1.2.2.1 hw.1.2.2.2 y.f1 (k := k) (by omega)
        rw [ev, Option.bind_some, if_pos (by omega), succ_w (by omega)]
        exact ih k (i + 1) _ (by omega) (by omega) (by simp [hL])
      · rw [if_neg c]
        exact hj k L (by omega) (by omega)
  refine ⟨300, ?_⟩
  show tenementlaw06_VecAll.f 300 l x0 x1 x2 x3 own = some true
  unfold tenementlaw06_VecAll.f
  rw [examples_f (by omega), Option.bind_some, if_pos rfl]
  exact hloop 8 300 0 [] (by omega) (by omega) rfl
end Go.Proofs.YtakhahfegialfaaDoor.Pure
