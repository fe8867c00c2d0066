/- Any reader reads numbers and texts as the document's does; what is put is the same. -/
import Derived.Test.YtlpipngfpcpfbaaPackR
import Derived.Test.YtlpipngfpcpfbaaQSayPackPlays
import Derived.Test.YtlpipngfpcpfbaaQx9
set_option linter.unusedVariables false
namespace Go.Proofs.Ytlpipngfpcpfbaa.Pure
open Go.RowKit Go.Proofs.Ytlpipngfpcpfbaa.Q Go.Proofs.YtlpipngfpcpfbaaW.PrintWords Go.Proofs.YtlpipngfpcpfbaaW.PrintLast Go.Proofs.YtlpipngfpcpfbaaW.PrintMore Go.Proofs.Ytlpipngfpcpfbaa.Plain

theorem i64_of {x : Int} (h : (Lit.int .i64 x).wf = true) : -9223372036854775808 ≤ x ∧ x ≤ 9223372036854775807 := by
  have h : IntKind.i64.min ≤ x ∧ x ≤ IntKind.i64.max := by simpa only [Lit.wf, Bool.and_eq_true, decide_eq_true_eq] using h
  exact h
theorem i64_to {x : Int} (h : -9223372036854775808 ≤ x ∧ x ≤ 9223372036854775807) : (Lit.int .i64 x).wf = true := by
  have h : IntKind.i64.min ≤ x ∧ x ≤ IntKind.i64.max := h
  simpa only [Lit.wf, Bool.and_eq_true, decide_eq_true_eq] using h
theorem u64_of {x : Int} (h : (Lit.int .u64 x).wf = true) : 0 ≤ x ∧ x ≤ 18446744073709551615 := by
  have h : IntKind.u64.min ≤ x ∧ x ≤ IntKind.u64.max := by simpa only [Lit.wf, Bool.and_eq_true, decide_eq_true_eq] using h
  exact h
theorem u8_of {x : Int} (h : (Lit.int .u8 x).wf = true) : 0 ≤ x ∧ x ≤ 255 := by
  have h : IntKind.u8.min ≤ x ∧ x ≤ IntKind.u8.max := by simpa only [Lit.wf, Bool.and_eq_true, decide_eq_true_eq] using h
  exact h
theorem tmod_i64 {x m : Int} (h : (Lit.int .i64 x).wf = true) : (Lit.int .i64 (Int.tmod x m)).wf = true := by
  have := i64_of h
  have h1 : (Int.tmod x m).natAbs ≤ x.natAbs := by
    rw [Int.natAbs_tmod]; exact Nat.mod_le _ _
  refine i64_to ?_
  rcases Int.le_total 0 x with c | c
  · have h2 := Int.tmod_nonneg m c
    omega
  · have h2 := Int.tmod_nonneg m (show 0 ≤ -x by omega)
    rw [Int.neg_tmod] at h2
    omega
theorem plays_end {l : List S43} {n K : Int} {s : ByteArray} (hn : (Lit.int .u64 n).wf = true) (hK : (Lit.int .i64 K).wf = true) (hs : s.size ≤ 140737488351232) {k : Nat} (hk : 34 ≤ k) (r t : ByteArray) (b c : Bool) (i : Int) :
    tenementlaw02_PackPlays.j1 (k + 1) l n K s true i false r b t c = some true := by
  have hn := u64_of hn
  obtain ⟨n, rfl⟩ := Int.eq_ofNat_of_zero_le hn.1
  have hn : n < 18446744073709551616 := by omega
  obtain ⟨r1, h1, h2⟩ := put_same hn hK hk
  obtain ⟨r2, h3, h4⟩ := put_same hn (tmod_i64 (m := 10) hK) hk
  simp only [tenementlaw02_PackPlays.j1]
  rw [if_neg (by simp), if_pos trivial, h1, h2, h3, h4, Vary_f hn (by omega), RVary_f hn (by omega), Text_f (by omega) (by omega), RText_f (by omega) (by omega)]
  simp only [Option.bind_some]
  simp only [if_true]
theorem plays_j3 {l : List S43} {n K : Int} {s : ByteArray} {k : Nat} (i : Nat) (hi : i < 20) (r : ByteArray) (b : Bool)
    (ih : tenementlaw02_PackPlays.l0 k l n K s true ((i + 1 : Nat) : Int) r b r b = some true) :
    tenementlaw02_PackPlays.j3 (k + 1) l n K s true (i : Int) true r b r b = some true := by
  simp only [tenementlaw02_PackPlays.j3]
  have hw : wrap64 ((i : Int) + 1) = ((i + 1 : Nat) : Int) := by rw [wrap64_id (by omega) (by omega)]; omega
  rw [if_pos trivial, if_pos trivial, Done_f, RDone_f, hw, ih]
  cases b with
  | true => simp
  | false =>
    by_cases e : r = ⟨#[]⟩ <;> simp [e]
theorem plays_loop {l : List S43} (hl : ∀ x ∈ l, wf43 x) {n K : Int} {s : ByteArray} (hn : (Lit.int .u64 n).wf = true) (hK : (Lit.int .i64 K).wf = true) (hs : s.size ≤ 140737488351232) (d : Nat) : ∀ (k i : Nat) (r : ByteArray) (b : Bool), i + d = min l.length 20 → 4 * d + 44 ≤ k → r.size ≤ 140737488351232 →
    tenementlaw02_PackPlays.l0 k l n K s true (i : Int) r b r b = some true := by
  induction d with
  | zero =>
    intro k i r b hi hk hr
    obtain ⟨k, rfl⟩ : ∃ m, k = m + 2 := ⟨k - 2, by omega⟩
    simp only [tenementlaw02_PackPlays.l0]
    by_cases c : (i : Int) < (l.length : Int)
    · rw [if_pos c, show decide ((i : Int) < 20) = false from decide_eq_false (by omega)]
      exact plays_end hn hK hs (by omega) _ _ _ _ _
    · rw [if_neg c]
      exact plays_end hn hK hs (by omega) _ _ _ _ _
  | succ d ih =>
    intro k i r b hi hk hr
    obtain ⟨k, rfl⟩ : ∃ m, k = m + 4 := ⟨k - 4, by omega⟩
    have hlt : i < l.length := by omega
    have hwf : wf43 (rd_T43 l (i : Int)) := by
      unfold rd_T43
      rw [show ((i : Int)).toNat = i by omega, List.getD_eq_getElem?_getD, List.getElem?_eq_getElem hlt]
      exact hl _ (List.getElem_mem hlt)
    have IH : ∀ (r : ByteArray) (b : Bool), r.size ≤ 140737488351232 → tenementlaw02_PackPlays.l0 k l n K s true ((i + 1 : Nat) : Int) r b r b = some true := fun r b h => ih k (i + 1) r b (by omega) (by omega) h
    have hj2 : ∀ j : Int, (Lit.int .i64 j).wf = true → tenementlaw02_PackPlays.j2 (k + 2) l n K s true (i : Int) j r b r b = some true := by
      intro j hj
      simp only [tenementlaw02_PackPlays.j2]
      rw [if_pos (Int.natCast_nonneg i), if_pos (Int.ofNat_lt.2 hlt)]
      obtain ⟨r0, h1, h2, h3⟩ := number_same (s := r) (b := b) (K := j) (by omega) (show 34 ≤ k + 1 by omega)
      obtain ⟨r1, g1, g2, g3, _⟩ := vary_same (s := r) (b := b) (by omega) (show 34 ≤ k + 1 by omega)
      obtain ⟨r2, f1, f2, f3⟩ := text_same (s := r) (b := b) (most := j) (by omega) hj (show 34 ≤ k + 1 by omega)
      rw [h1, h2, g1, g2, f1, f2]
      simp only [Option.bind_some, beq_self_eq_true]
      rw [plays_j3 i (by omega) _ _ (IH _ _ (by omega)), plays_j3 i (by omega) _ _ (IH _ _ (by omega)), plays_j3 i (by omega) _ _ (IH _ _ (by omega)), plays_j3 i (by omega) _ _ (IH _ _ (by omega))]
      simp
    simp only [tenementlaw02_PackPlays.l0]
    rw [if_pos (Int.ofNat_lt.2 hlt), show decide ((i : Int) < 20) = true from decide_eq_true (by omega)]
    simp only [tenementlaw02_PackPlays.j1]
    rw [if_pos trivial, if_pos (Int.natCast_nonneg i), if_pos (Int.ofNat_lt.2 hlt), hj2 _ (tmod_i64 hwf.2), hj2 _ hwf.2]
    simp
theorem examples_40 : tenementlaw02_examples.f 40 = some true := by decide +kernel
theorem examples_f {k : Nat} (hk : 40 ≤ k) : tenementlaw02_examples.f k = some true := at_rounds tenementlaw02_examples.mono hk examples_40
theorem PackPlays : tenementlaw02_PackPlays.Pure := by
  intro a0 l a2 a3 a4 h0 h1 h2 h3 h4
  refine ⟨200, ?_⟩
  unfold tenementlaw02_PackPlays.f
  rw [examples_f (by omega)]
  simp only [Option.bind_some]
  rw [if_pos trivial]
  exact plays_loop h1.1 h2 h3 h4 (min l.length 20) 200 0 a0.f0 a0.f1 (by omega) (by omega) h0.1
end Go.Proofs.Ytlpipngfpcpfbaa.Pure
