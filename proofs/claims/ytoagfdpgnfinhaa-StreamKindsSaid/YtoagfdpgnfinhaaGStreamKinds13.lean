import Derived.Test.YtoagfdpgnfinhaaGStreamKinds12
import Derived.Test.YtoagfdpgnfinhaaGStreamKinds6
import Derived.Test.YtoagfdpgnfinhaaGStreamKinds11
set_option linter.unusedVariables false
namespace Go.Proofs.Ytoagfdpgnfinhaa.Q
open Go.RowKit Go.Proofs.Ytoagfdpgnfinhaa.Q Go.Proofs.YtoagfdpgnfinhaaW.PrintWords Go.Proofs.YtoagfdpgnfinhaaW.PrintLast Go.Proofs.YtoagfdpgnfinhaaW.PrintMore
def tenementlaw15_StreamKinds.Pure : Prop := ∀ (x0 : S65) (x1 : Int) (x2 : Int), (wf65 x0) → ((Lit.int .u8 x1).wf = true) → ((Lit.int .i64 x2).wf = true) → ∃ k, tenementlaw15_StreamKinds.f k (x0.f0) (x0.f1) (x0.f2) (x0.f3.f0.f0.f0.f0) (x0.f3.f0.f0.f0.f1) (x0.f3.f0.f0.f0.f2) (x0.f3.f0.f0.f0.f3) (x0.f3.f0.f0.f1) (x0.f3.f0.f1) (x0.f3.f1) (x0.f3.f2) (x0.f4) x1 x2 = some true
end Go.Proofs.Ytoagfdpgnfinhaa.Q

set_option linter.unusedVariables false
set_option linter.unusedSimpArgs false
namespace Go.Proofs.Ytoagfdpgnfinhaa.Pure
open Go.RowKit Go.Proofs.Ytoagfdpgnfinhaa.Q Go.Proofs.YtoagfdpgnfinhaaW.PrintWords Go.Proofs.YtoagfdpgnfinhaaW.PrintLast Go.Proofs.YtoagfdpgnfinhaaW.PrintMore Go.Proofs.Ytoagfdpgnfinhaa.Plain Go.Proofs.Ytoagfdpgnfinhaa.CrcN
theorem wu8 : ∀ x ∈ ([⟨(⟨#[98]⟩ : ByteArray), (⟨#[]⟩ : ByteArray), (⟨#[]⟩ : ByteArray), false⟩] : List Wr), fits x := by
 intro x h
 rw [List.mem_singleton.1 h]
 have z1 : (⟨#[98]⟩ : ByteArray).size = 1 := rfl
 have z0 : (⟨#[]⟩ : ByteArray).size = 0 := rfl
 exact ⟨show (⟨#[98]⟩ : ByteArray).size ≤ _ by omega, show (⟨#[]⟩ : ByteArray).size ≤ _ by omega, show (⟨#[]⟩ : ByteArray).size ≤ _ by omega⟩
theorem fin_ {kind frm : Int} {n a b c d e : Nat} {xs : List Wr} (hx : ∀ x ∈ xs, fits x) (hz : xs.length ≤ 1000) (hn : n < 18446744073709551616) {k : Nat} (hk : 1300 ≤ k) {W : Prop} [Decidable W] (h : okM kind frm n a b c d e xs = decide W) :
  ((stream_Put.f k kind frm n a b c d e xs).bind fun p => ((stream_Right.f k kind frm n a b c d e xs).bind fun t => (if t = true then (if W then (if p.2 = true then (if p.1.toList = ([] : List UInt8) then (none) else (some true)) else (none)) else (none)) else (if W then (none) else (if p.2 = true then (none) else (if p.1.toList = ([] : List UInt8) then (some true) else (none))))))) = some true := by
 obtain ⟨t, et, ht⟩ := mput_f (kind := kind) (frm := frm) (a := a) (b := b) (c := c) (d := d) (e := e) hx hz hn hk
 rw [et, Option.bind_some, mright_f kind frm n a b c d e xs hx hz (by omega), Option.bind_some]
 rw [h] at ht
 rw [h]
 by_cases hW : W
 ·rw [decide_eq_true hW] at ht
  rw [decide_eq_true hW, if_pos rfl, if_pos hW, if_pos rfl, if_neg (by rw [ht]; simp)]
 ·rw [decide_eq_false hW] at ht
  rw [decide_eq_false hW, if_neg (by simp), if_neg hW, if_neg (by simp), if_pos (by rw [ht])]
theorem fin_no {kind frm : Int} {n a b c d e : Nat} {xs : List Wr} (hx : ∀ x ∈ xs, fits x) (hz : xs.length ≤ 1000) (hn : n < 18446744073709551616) {k : Nat} (hk : 1300 ≤ k) (h : okM kind frm n a b c d e xs = false) :
  ((stream_Put.f k kind frm n a b c d e xs).bind fun p => ((stream_Right.f k kind frm n a b c d e xs).bind fun t => (if t = true then (none) else (if p.2 = true then (none) else (if p.1.toList = ([] : List UInt8) then (some true) else (none)))))) = some true := by
 obtain ⟨t, et, ht⟩ := mput_f (kind := kind) (frm := frm) (a := a) (b := b) (c := c) (d := d) (e := e) hx hz hn hk
 rw [et, Option.bind_some, mright_f kind frm n a b c d e xs hx hz (by omega), Option.bind_some]
 rw [h] at ht
 rw [h, if_neg (by simp), if_neg (by simp), if_pos (by rw [ht])]
theorem wh_len {a b c d e : Int} {xs : List Wr} (h : wh a b c d e xs = true) : 0 < xs.length := by
 unfold wh at h
 simp only [Bool.and_eq_true, decide_eq_true_eq] at h
 exact h.1.1.1.2
theorem same_zero : sameT 0 0 0 0 0 [] 0 0 0 0 0 [] = true := by decide
theorem same_len {a b c d e : Int} {xs : List Wr} (h : 0 < xs.length) : sameT a b c d e xs 0 0 0 0 0 [] = false := by
 unfold sameT
 rw [decide_eq_false (show ¬ xs.length = ([] : List Wr).length by simp; intro q; rw [q] at h; simp at h)]
 simp
theorem StreamKinds : tenementlaw15_StreamKinds.Pure := by
 intro x how n1 hx hhow hn1
 obtain ⟨kd, fr, n0, ⟨⟨⟨⟨v0, v1, v2, v3⟩, d⟩, o⟩, l, q⟩, ow⟩ := x
 have hD := hx.2.2.2.1
 have hw := hD.1.1
 have hl : ∀ p ∈ l, fits p.f0 := fun p hp => ⟨(hD.2.1.1 p hp).1.1, (hD.2.1.1 p hp).1.2.1, (hD.2.1.1 p hp).1.2.2.1⟩
 have hlen : l.length * 64 ≤ 140737488351232 := hD.2.1.2
 have h1 := i64_of hn1
 obtain ⟨kind, frm, n, a, b, c, g, e, xs, eL, hM⟩ := letter_own kd fr n0 v0 v1 v2 v3 d hx.2.2.1 hw.1.1 hw.1.2.1 hw.1.2.2.1 o q l hl (by omega) (K := (l.length + 1) * 15 + 1500) (by omega)
 refine ⟨(l.length + 1) * 15 + 1500, ?_⟩
 show tenementlaw15_StreamKinds.f ((l.length + 1) * 15 + 1500) kd fr n0 v0 v1 v2 v3 d o l q ow how n1 = some true
 have hK : 1300 ≤ (l.length + 1) * 15 + 1500 := by omega
 generalize (l.length + 1) * 15 + 1500 = K at eL hK ⊢
 clear hx hD hw hl hlen hhow hn1
 obtain ⟨f1, f4, hn, hf, h8, hcase⟩ := hM
 have hF : decide (1 ≤ (frm : Int) ∧ (frm : Int) ≤ 4) = true := decide_eq_true (by omega)
 have ok0 : okM kind frm n a b c g e xs = true := by
  unfold okM
  rw [hF, Bool.true_and]
  rcases hcase with ⟨rfl, hw, hn⟩ | ⟨rfl, rfl, rfl, rfl, rfl, rfl, rfl⟩
  ·rw [if_pos (show ((1 : Nat) : Int) = 1 from rfl), hw, decide_eq_true hn]; rfl
  ·rw [if_neg (show ¬ ((2 : Nat) : Int) = 1 by decide), if_pos (show ((2 : Nat) : Int) = 2 from rfl), decide_eq_true (by omega)]
   exact same_zero
 unfold tenementlaw15_StreamKinds.f
 rw [show tenementlaw15_examples.f = some true from rfl, Option.bind_some, if_pos rfl, eL]
 simp only [Option.bind_some]
 rw [mright_f kind frm n a b c g e xs hf (by omega) (k := K) (by omega), Option.bind_some, ok0]
 have e1 : IntKind.u64.wrap ((n : Int) + 1) = ((n + 1 : Nat) : Int) := by simp only [IntKind.wrap_u64]; omega
 obtain ⟨N, eN, hN, hN1⟩ : ∃ N : Nat, IntKind.u64.wrap (1152921504606846976 + (IntKind.u64.wrap ((IntKind.u64.wrap (Int.tmod n1 2)) * (IntKind.u64.wrap (Int.tmod n1 2))))) = (N : Int) ∧ 1152921504606846976 ≤ N ∧ N ≤ 1152921504606846977 := by
  have ht : Int.tmod n1 2 = 0 ∨ Int.tmod n1 2 = 1 ∨ Int.tmod n1 2 = -1 := by
   rcases Int.le_total 0 n1 with hp | hp
   ·rw [Int.tmod_eq_emod_of_nonneg hp]; omega
   ·have : Int.tmod n1 2 = - Int.tmod (-n1) 2 := by rw [Int.neg_tmod, Int.neg_neg]
    rw [this, Int.tmod_eq_emod_of_nonneg (by omega)]; omega
  rcases ht with h | h | h <;> rw [h]
  ·exact ⟨1152921504606846976, by kernel_rfl, by omega, by omega⟩
  ·exact ⟨1152921504606846977, by kernel_rfl, by omega, by omega⟩
  ·exact ⟨1152921504606846977, by kernel_rfl, by omega, by omega⟩
 by_cases c0 : Int.tmod how 5 = 0
 ·rw [if_pos c0]
  refine fin_ hf (by omega) (by omega) hK ?_
  unfold okM
  rw [hF, Bool.true_and]
  rcases hcase with ⟨rfl, hw, hn⟩ | ⟨rfl, rfl, rfl, rfl, rfl, rfl, rfl⟩
  ·by_cases k1 : n1 = 1
   ·rw [if_pos k1, hw, decide_eq_true hn, decide_eq_true (show n1 = ((1 : Nat) : Int) from k1)]; rfl
   ·rw [if_neg k1, decide_eq_false (show ¬ n1 = ((1 : Nat) : Int) from k1), same_len (wh_len hw), Bool.and_false]
    simp
  ·by_cases k1 : n1 = 1
   ·rw [if_pos k1, decide_eq_false (show ¬ n1 = ((2 : Nat) : Int) by omega)]
    unfold wh
    rw [decide_eq_false (show ¬ 0 < ([] : List Wr).length by simp)]
    simp
   ·rw [if_neg k1]
    by_cases k2 : n1 = 2
    ·rw [if_pos k2, decide_eq_true (show (n : Int) ≤ 1152921504606846976 by omega), decide_eq_true (show n1 = ((2 : Nat) : Int) from k2)]
     exact same_zero
    ·rw [if_neg k2, decide_eq_false (show ¬ n1 = ((2 : Nat) : Int) from k2)]
 rw [if_neg c0]
 by_cases c1 : Int.tmod how 5 = 1
 ·rw [if_pos c1]
  have base : okM kind n1 n a b c g e xs = decide (1 ≤ n1 ∧ n1 ≤ 4) := by
   unfold okM at ok0
   rw [hF, Bool.true_and] at ok0
   unfold okM
   rw [ok0, Bool.and_true]
  by_cases g1 : n1 ≥ 1
  ·rw [if_pos g1]
   refine fin_ hf (by omega) (by omega) hK ?_
   rw [base]
   by_cases g4 : n1 ≤ 4
   ·rw [decide_eq_true ⟨g1, g4⟩, decide_eq_true g4]
   ·rw [decide_eq_false (fun h => g4 h.2), decide_eq_false g4]
  ·rw [if_neg g1]
   refine fin_no hf (by omega) (by omega) hK ?_
   rw [base]
   exact decide_eq_false (fun h => g1 h.1)
 rw [if_neg c1]
 by_cases c2 : Int.tmod how 5 = 2
 ·rw [if_pos c2, e1]
  refine fin_ hf (by omega) (by omega) hK ?_
  unfold okM
  rw [hF, Bool.true_and]
  rcases hcase with ⟨rfl, hw, hn⟩ | ⟨rfl, rfl, rfl, rfl, rfl, rfl, rfl⟩
  ·rw [if_pos (show ((1 : Nat) : Int) = 1 from rfl), decide_eq_false (show ¬ ((n + 1 : Nat) : Int) = own a b c g e by omega), Bool.and_false]
   rfl
  ·rw [if_neg (show ¬ ((2 : Nat) : Int) = 1 by decide), if_pos (show ((2 : Nat) : Int) = 2 from rfl), decide_eq_true (show ((n + 1 : Nat) : Int) ≤ 1152921504606846976 by omega)]
   exact same_zero
 rw [if_neg c2]
 by_cases c3 : Int.tmod how 5 = 3
 ·rw [if_pos c3, if_pos (show ([] : List Wr).length < 2513169434916 by simp), List.nil_append]
  refine fin_no wu8 (by simp) (by omega) hK ?_
  unfold okM
  rw [hF, Bool.true_and]
  rcases hcase with ⟨rfl, hw, hn⟩ | ⟨rfl, rfl, rfl, rfl, rfl, rfl, rfl⟩
  ·rw [if_pos (show ((1 : Nat) : Int) = 1 from rfl)]
   have : okw (⟨(⟨#[98]⟩ : ByteArray), (⟨#[]⟩ : ByteArray), (⟨#[]⟩ : ByteArray), false⟩ : Wr) = false := by
    refine decide_eq_false (fun h => ?_)
    have h1 := h.2.1.1
    exact absurd (show 1 ≤ (⟨#[]⟩ : ByteArray).size from h1) (by decide)
   unfold wh
   rw [List.all_cons, this, Bool.false_and, Bool.and_false, Bool.false_and]
  ·rw [if_neg (show ¬ ((2 : Nat) : Int) = 1 by decide), if_pos (show ((2 : Nat) : Int) = 2 from rfl), same_len (by simp), Bool.and_false]
 rw [if_neg c3]
 by_cases c4 : Int.tmod how 5 = 4
 ·rw [if_pos c4, eN]
  rcases hcase with ⟨rfl, hw, hn⟩ | ⟨rfl, rfl, rfl, rfl, rfl, rfl, rfl⟩
  ·rw [if_neg (show ¬ ((1 : Nat) : Int) = 2 by decide)]
   refine fin_no hf (by omega) (by omega) hK ?_
   unfold okM
   rw [hF, Bool.true_and, if_pos (show ((1 : Nat) : Int) = 1 from rfl), decide_eq_false (show ¬ (N : Int) = own a b c g e by omega), Bool.and_false]
  ·rw [if_pos (show ((2 : Nat) : Int) = 2 from rfl)]
   refine fin_ hf (by omega) (by omega) hK ?_
   unfold okM
   rw [hF, Bool.true_and, if_neg (show ¬ ((2 : Nat) : Int) = 1 by decide), if_pos (show ((2 : Nat) : Int) = 2 from rfl)]
   rw [show sameT ((0 : Nat) : Int) ((0 : Nat) : Int) ((0 : Nat) : Int) ((0 : Nat) : Int) ((0 : Nat) : Int) [] 0 0 0 0 0 [] = true from same_zero, Bool.and_true]
 rw [if_neg c4]
 obtain ⟨t, et, ht⟩ := mput_f (kind := kind) (frm := frm) (a := a) (b := b) (c := c) (d := g) (e := e) hf (by omega) (by omega : n < 18446744073709551616) hK
 rw [ok0] at et ht
 rw [et]
 show (if t.toList = ([] : List UInt8) then (none : Option Bool) else some true) = some true
 rw [if_neg (by rw [ht]; simp)]
end Go.Proofs.Ytoagfdpgnfinhaa.Pure
