import Derived.Test.YtplgbkobpanbfaaGGateBounds3
import Derived.Test.YtplgbkobpanbfaaGGateBounds4
/- A request is right just if its numbers are a byte's, and its texts not too long; what is not right has no bytes. -/
set_option linter.unusedVariables false
set_option linter.unusedSimpArgs false
namespace Go.Proofs.Ytplgbkobpanbfaa.Pure
open Go.RowKit Go.Proofs.Ytplgbkobpanbfaa.Q Go.Proofs.YtplgbkobpanbfaaW.PrintWords Go.Proofs.YtplgbkobpanbfaaW.PrintLast Go.Proofs.YtplgbkobpanbfaaW.PrintMore Go.Proofs.Ytplgbkobpanbfaa.Plain

theorem b_u8 {x : Int} (h : (Lit.int .u8 x).wf = true) : 0 ≤ x ∧ x ≤ 255 := by
  have h : IntKind.u8.min ≤ x ∧ x ≤ IntKind.u8.max := by simpa only [Lit.wf, Bool.and_eq_true, decide_eq_true_eq] using h
  exact h
theorem b_i16 {x : Int} (h : (Lit.int .i16 x).wf = true) : -32768 ≤ x ∧ x ≤ 32767 := by
  have h : IntKind.i16.min ≤ x ∧ x ≤ IntKind.i16.max := by simpa only [Lit.wf, Bool.and_eq_true, decide_eq_true_eq] using h
  exact h
theorem zs_size (n : Nat) : (tenementlaw19_GateBounds.zs n).size = n := by
  unfold tenementlaw19_GateBounds.zs strOfNums
  simp [ByteArray.size]
theorem want_ok (a0 a1 a2 a3 : Int) (n0 n1 n2 : Nat) : tenementlaw19_GateBounds.want a0 a1 a2 a3 n0 n1 n2 = decide (ok19 (tenementlaw19_GateBounds.zs n0) a0 a1 a2 a3 (tenementlaw19_GateBounds.zs n1) ⟨#[107]⟩ (tenementlaw19_GateBounds.zs n2)) := by
  have z : (⟨#[107]⟩ : ByteArray).size = 1 := rfl
  have s0 := zs_size n0
  have s1 := zs_size n1
  have s2 := zs_size n2
  rw [Bool.eq_iff_iff, decide_eq_true_eq]
  unfold tenementlaw19_GateBounds.want ok19
  simp only [Bool.and_eq_true, decide_eq_true_eq]
  omega
theorem GateBounds : tenementlaw19_GateBounds.Pure := by
  intro a0 a1 a2 a3 a4 a5 h0 h1 h2 h3 h4 h5
  have h0 := b_i16 h0
  have h1 := b_i16 h1
  have h2 := b_i16 h2
  have h3 := b_i16 h3
  have h4 := b_u8 h4
  have h5 := b_u8 h5
  refine ⟨100, ?_⟩
  unfold tenementlaw19_GateBounds.f
  rw [if_pos ⟨⟨h0, h1, h2, h3⟩, h4, h5⟩, examples_f (by omega), Option.bind_some, if_pos rfl, right_f]
  simp only [want_ok]
  generalize tenementlaw19_GateBounds.zs a4.toNat = A
  generalize tenementlaw19_GateBounds.zs (a5.toNat % 70) = B
  generalize tenementlaw19_GateBounds.zs (a5.toNat % 66) = C
  by_cases h : ok19 A a0 a1 a2 a3 B ⟨#[107]⟩ C
  · have hn := h
    unfold ok19 at hn
    obtain ⟨m0, rfl⟩ : ∃ m : Nat, a0 = m := ⟨a0.toNat, by omega⟩
    obtain ⟨m1, rfl⟩ : ∃ m : Nat, a1 = m := ⟨a1.toNat, by omega⟩
    obtain ⟨m2, rfl⟩ : ∃ m : Nat, a2 = m := ⟨a2.toNat, by omega⟩
    obtain ⟨m3, rfl⟩ : ∃ m : Nat, a3 = m := ⟨a3.toNat, by omega⟩
    rw [put_ok h (by omega), Option.bind_some, Option.bind_some, decide_eq_true h, if_pos]
    refine ⟨rfl, rfl, bne_iff_ne.2 (fun e => ?_)⟩
    have e1 : bl (rqs A m0 m1 m2 m3 B ⟨#[107]⟩ C) = [] := by
      have e2 : (rqs A m0 m1 m2 m3 B ⟨#[107]⟩ C).toList = ([] : List UInt8) := e
      rw [toList_data] at e2
      unfold bl
      rw [e2]
      rfl
    rw [bl_rqs (by omega) (by omega) (by omega) (by omega)] at e1
    unfold rq at e1
    simp at e1
  · rw [put_no h, Option.bind_some, Option.bind_some, decide_eq_false h, if_pos]
    have e : (⟨#[]⟩ : ByteArray).toList = ([] : List UInt8) := by rw [toList_data]
    exact ⟨rfl, rfl, by show ((⟨#[]⟩ : ByteArray).toList != ([] : List UInt8)) = false; rw [e]; rfl⟩
end Go.Proofs.Ytplgbkobpanbfaa.Pure
