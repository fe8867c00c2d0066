import Derived.Test.YtdlagefpglhdoaaDoorGStampGets10
import Derived.Test.YtdlagefpglhdoaaDoorGStampGets4
import Derived.Test.YtdlagefpglhdoaaDoorGStampGets12
import Derived.Test.YtdlagefpglhdoaaDoorGStampGets5
import Derived.Test.YtdlagefpglhdoaaDoorGStampGets6
import Derived.Test.YtdlagefpglhdoaaDoorGStampGets13
import Derived.Test.YtdlagefpglhdoaaDoorGStampGets3
import Derived.Test.YtdlagefpglhdoaaDoorGStampGets2
/- Stamps: what the document's answer to chapter 7 answers. -/
set_option linter.unusedVariables false
set_option linter.unusedSimpArgs false
namespace Go.Proofs.YtdlagefpglhdoaaDoor.Pure
open Go.RowKit Go.Proofs.YtdlagefpglhdoaaDoor.Q Go.Proofs.YtdlagefpglhdoaaDoorW.PrintWords Go.Proofs.YtdlagefpglhdoaaDoorW.PrintLast Go.Proofs.YtdlagefpglhdoaaDoorW.PrintMore Go.Proofs.YtdlagefpglhdoaaDoor.Plain

theorem rN_f (a b c d e : Int) : tenementref07_Stamp_N.f a b c d e = some (own a b c d e) := rfl
theorem rsright_true {a b c d e : Int} (h : okS a b c d e) {k : Nat} (hk : 5 ≤ k) : tenementref07_Right.f k a b c d e = some true := by
  unfold tenementref07_Right.f
  rw [rright06_f hk, Option.bind_some, if_pos (decide_eq_true h.1), rN_f, Option.bind_some, decide_eq_true (show own a b c d e ≥ 1 from h.2)]
theorem rsright_false {a b c d e : Int} (h : ¬ okS a b c d e) {k : Nat} (hk : 5 ≤ k) : tenementref07_Right.f k a b c d e = some false := by
  unfold tenementref07_Right.f
  rw [rright06_f hk, Option.bind_some]
  by_cases c1 : (a ≤ 1152921504606846976 ∧ b ≤ 1152921504606846976 ∧ c ≤ 1152921504606846976 ∧ d ≤ 1152921504606846976)
  · rw [if_pos (decide_eq_true c1), rN_f, Option.bind_some, decide_eq_false (show ¬ own a b c d e ≥ 1 from fun c2 => h ⟨c1, c2⟩)]
  · rw [if_neg (by simpa using c1)]
theorem sright_same (a b c d e : Int) {k : Nat} (hk : 5 ≤ k) : ∃ r, stamp_Right.f a b c d e = some r ∧ tenementref07_Right.f k a b c d e = some r := by
  by_cases h : okS a b c d e
  · exact ⟨_, sright_true h, rsright_true h hk⟩
  · exact ⟨_, sright_false h, rsright_false h hk⟩
theorem rsput_true {n0 n1 n2 n3 dc : Nat} (h : okS n0 n1 n2 n3 dc) {k : Nat} (hk : 34 ≤ k) : tenementref07_Put.f k n0 n1 n2 n3 dc = some (sp dc n0 n1 n2 n3, true) := by
  have hd := okS_dc h
  have hb := h.1
  have z := vv_size (a := n0) (b := n1) (c := n2) (d := n3) (by omega) (by omega) (by omega) (by omega)
  obtain ⟨r, q1, q2⟩ := put_same (n := dc) (K := 1) (by omega) (by decide) hk
  rw [Number_f dc 1 (by omega) (by omega)] at q1
  obtain rfl := Option.some.inj q1
  unfold tenementref07_Put.f
  rw [rsright_true h (by omega), Option.bind_some, if_pos rfl, wrap_u64 (by omega) (by omega), q2, Option.bind_some, rput06_f (by omega) (by omega) (by omega) (by omega) (by omega), Option.bind_some]
  show (if (nb dc 1).size + (vv n0 n1 n2 n3).size ≤ 9223372036854775807 then _ else _) = _
  rw [if_pos (by rw [nb_size]; omega)]
  rfl
theorem rsput_false {a b c d e : Int} (h : ¬ okS a b c d e) {k : Nat} (hk : 5 ≤ k) : tenementref07_Put.f k a b c d e = some (⟨#[]⟩, false) := by
  unfold tenementref07_Put.f
  rw [rsright_false h hk, Option.bind_some, if_neg (by simp)]
theorem sget_same {s : ByteArray} {b : Bool} (hz : s.size ≤ 9223372036854775807) {k : Nat} (hk : 34 ≤ k) : ∃ r, stamp_Get.f k s b = some r ∧ tenementref07_Get.f k s b = some r := by
  obtain ⟨⟨p, t, c⟩, q1, q2, zt⟩ := number_same (s := s) (b := b) (K := 1) hz hk
  obtain ⟨⟨v0, v1, v2, v3, u, o⟩, g1, g2, _⟩ := vget_same (s := t) (b := c) (by simp at zt; omega) hk
  obtain ⟨r, r1, r2⟩ := sright_same v0 v1 v2 v3 (wrap64 p) (k := k) (by omega)
  unfold stamp_Get.f tenementref07_Get.f
  rw [q1, q2, Option.bind_some, Option.bind_some]
  simp only [g1, g2, Option.bind_some, r1, r2]
  cases o with
  | true => exact ⟨_, rfl, rfl⟩
  | false =>
    cases r with
    | true => exact ⟨_, rfl, rfl⟩
    | false => exact ⟨_, rfl, rfl⟩
end Go.Proofs.YtdlagefpglhdoaaDoor.Pure
