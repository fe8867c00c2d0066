/- A stamp is right just if its datacenter is one, has a number, and none is too great. -/
import Derived.Test.YtdlagefpglhdoaaDoorStampA
import Derived.Test.YtdlagefpglhdoaaDoorQSayStampBounds
set_option linter.unusedVariables false
set_option linter.unusedSimpArgs false
namespace Go.Proofs.YtdlagefpglhdoaaDoor.Pure
open Go.RowKit Go.Proofs.YtdlagefpglhdoaaDoor.Q Go.Proofs.YtdlagefpglhdoaaDoorW.PrintWords Go.Proofs.YtdlagefpglhdoaaDoorW.PrintLast Go.Proofs.YtdlagefpglhdoaaDoorW.PrintMore Go.Proofs.YtdlagefpglhdoaaDoor.Plain

theorem i8_of {x : Int} (h : (Lit.int .i8 x).wf = true) : -128 ≤ x ∧ x ≤ 127 := by
  have h : IntKind.i8.min ≤ x ∧ x ≤ IntKind.i8.max := by simpa only [Lit.wf, Bool.and_eq_true, decide_eq_true_eq] using h
  exact h
theorem sp_ne {dc n0 n1 n2 n3 : Nat} (h0 : n0 < 18446744073709551616) (h1 : n1 < 18446744073709551616) (h2 : n2 < 18446744073709551616) (h3 : n3 < 18446744073709551616) : ¬ (sp dc n0 n1 n2 n3).toList = ([] : List UInt8) := by
  intro h
  have z := (sp_size dc h0 h1 h2 h3).2
  have h : (sp dc n0 n1 n2 n3).data.toList = [] := by rw [← toList_data]; exact h
  exact z (by rw [← bl_length]; unfold bl; rw [h]; rfl)
theorem nil_toList : (⟨#[]⟩ : ByteArray).toList = ([] : List UInt8) := by rw [toList_data]
theorem bounds_j {a b c d : Nat} (ha : a < 18446744073709551616) (hb : b < 18446744073709551616) (hc : c < 18446744073709551616) (hd : d < 18446744073709551616) (e : Int) {k : Nat} (hk : 11 ≤ k) :
    tenementlaw07_StampBounds.j0 (k + 1) true true a b c d e = some true := by
  rw [tenementlaw07_StampBounds.j0, at_f, Option.bind_some]
  by_cases r : okS a b c d e
  · have hdc := okS_dc r
    obtain ⟨dc, rfl⟩ := Int.eq_ofNat_of_zero_le (show 0 ≤ e by omega)
    rw [sput_true r hk, Option.bind_some, if_pos hdc.1, if_pos hdc.2, if_pos (show own a b c d dc ≥ 1 from r.2), vright_f, Option.bind_some, decide_eq_true r.1, if_pos rfl, if_pos rfl, sright_true r, Option.bind_some, if_pos rfl, if_pos rfl,
      if_neg (sp_ne ha hb hc hd), if_pos rfl, sN_f, Option.bind_some, if_pos rfl]
  · rw [sput_false r, Option.bind_some]
    by_cases c1 : e ≥ 1
    · rw [if_pos c1]
      by_cases c2 : e ≤ 4
      · rw [if_pos c2]
        by_cases c3 : own a b c d e ≥ 1
        · rw [if_pos c3, vright_f, Option.bind_some, decide_eq_false (fun h => r ⟨h, c3⟩), if_pos rfl, if_pos rfl, sright_false r, Option.bind_some, if_pos rfl, if_pos rfl, if_pos nil_toList, if_neg (by simp), sN_f, Option.bind_some, if_pos rfl]
        · rw [if_neg c3, if_pos rfl, if_pos rfl, sright_false r, Option.bind_some, if_neg (by simp), if_neg (by simp), if_pos nil_toList, sN_f, Option.bind_some, if_pos rfl]
      · rw [if_neg c2, if_pos rfl, if_pos rfl, sright_false r, Option.bind_some, if_neg (by simp), if_neg (by simp), if_pos nil_toList, sN_f, Option.bind_some, if_pos rfl]
    · rw [if_neg c1, if_pos rfl, if_pos rfl, sright_false r, Option.bind_some, if_neg (by simp), if_neg (by simp), if_pos nil_toList, sN_f, Option.bind_some, if_pos rfl]
theorem StampBounds : tenementlaw07_StampBounds.Pure := by
  intro x dc big hx hd hb
  have hd := i8_of hd
  have hb := u8_of hb
  obtain ⟨⟨⟨x0, x1, x2, x3⟩, xd⟩, xo⟩ := x
  obtain ⟨n0, n1, n2, n3, m, ex, ⟨l0, l1, l2, l3⟩, d1, d3, ok⟩ := mark_own (v3 := x3) (d := xd) hx.1.1.1 hx.1.1.2.1 hx.1.1.2.2.1 (k := 100) (by omega)
  clear hx
  refine ⟨100, ?_⟩
  show tenementlaw07_StampBounds.f 100 x0 x1 x2 x3 xd xo dc big = some true
  obtain ⟨g, eg, lg⟩ : ∃ g : Nat, IntKind.u64.wrap (1152921504606846976 + (IntKind.u64.wrap (Int.tmod big 3))) = (g : Int) ∧ g < 18446744073709551616 := by
    rw [Int.tmod_eq_emod_of_nonneg hb.1, wrap_u64 (x := big % 3) (by omega) (by omega), wrap_u64 (by omega) (by omega)]
    exact ⟨(1152921504606846976 + big % 3).toNat, by omega, by omega⟩
  have hm : Int.tmod big 4 = big % 4 := Int.tmod_eq_emod_of_nonneg hb.1
  unfold tenementlaw07_StampBounds.f
  rw [examples_f (by omega), Option.bind_some, if_pos rfl, ex, Option.bind_some]
  show (stamp_Right.f (n0 : Int) n1 n2 n3 m).bind _ = _
  rw [sright_true ok, Option.bind_some, eg]
  have lm : n0 < 18446744073709551616 ∧ n1 < 18446744073709551616 ∧ n2 < 18446744073709551616 ∧ n3 < 18446744073709551616 := by omega
  by_cases c : big > 250
  · rw [if_pos c]
    by_cases c0 : Int.tmod big 4 = 0
    · rw [if_pos c0]; exact bounds_j (k := 99) lg lm.2.1 lm.2.2.1 lm.2.2.2 _ (by omega)
    rw [if_neg c0]
    by_cases c1 : Int.tmod big 4 = 1
    · rw [if_pos c1]; exact bounds_j (k := 99) lm.1 lg lm.2.2.1 lm.2.2.2 _ (by omega)
    rw [if_neg c1]
    by_cases c2 : Int.tmod big 4 = 2
    · rw [if_pos c2]; exact bounds_j (k := 99) lm.1 lm.2.1 lg lm.2.2.2 _ (by omega)
    rw [if_neg c2, if_pos (by omega)]
    exact bounds_j (k := 99) lm.1 lm.2.1 lm.2.2.1 lg _ (by omega)
  · rw [if_neg c]
    exact bounds_j (k := 99) lm.1 lm.2.1 lm.2.2.1 lm.2.2.2 _ (by omega)
end Go.Proofs.YtdlagefpglhdoaaDoor.Pure
