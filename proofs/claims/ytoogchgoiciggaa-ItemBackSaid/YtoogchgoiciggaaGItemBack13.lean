import Derived.Test.YtoogchgoiciggaaGItemBack12
import Derived.Test.YtoogchgoiciggaaGItemBack3
import Derived.Test.YtoogchgoiciggaaGItemBack11
set_option linter.unusedVariables false
namespace Go.Proofs.Ytoogchgoiciggaa.Q
open Go.RowKit Go.Proofs.Ytoogchgoiciggaa.Q Go.Proofs.YtoogchgoiciggaaW.PrintWords Go.Proofs.YtoogchgoiciggaaW.PrintLast Go.Proofs.YtoogchgoiciggaaW.PrintMore
def tenementlaw08_ItemBack.Pure : Prop := ∀ (x0 : S35) (x1 : S35) (x2 : Int), (wf35 x0) → (wf35 x1) → ((Lit.int .u16 x2).wf = true) → ∃ k, tenementlaw08_ItemBack.f k (x0.f0.f0.f0.f0) (x0.f0.f0.f0.f1) (x0.f0.f0.f0.f2) (x0.f0.f0.f0.f3) (x0.f0.f0.f1) (x0.f0.f1) (x0.f1) (x0.f2) (x1.f0.f0.f0.f0) (x1.f0.f0.f0.f1) (x1.f0.f0.f0.f2) (x1.f0.f0.f0.f3) (x1.f0.f0.f1) (x1.f0.f1) (x1.f1) (x1.f2) x2 = some true
end Go.Proofs.Ytoogchgoiciggaa.Q

/- What was put is read; cut, or with something behind, it is none; another one has other bytes. -/
set_option linter.unusedVariables false
set_option linter.unusedSimpArgs false
namespace Go.Proofs.Ytoogchgoiciggaa.Pure
open Go.RowKit Go.Proofs.Ytoogchgoiciggaa.Q Go.Proofs.YtoogchgoiciggaaW.PrintWords Go.Proofs.YtoogchgoiciggaaW.PrintLast Go.Proofs.YtoogchgoiciggaaW.PrintMore Go.Proofs.Ytoogchgoiciggaa.Plain

theorem examples_60 : tenementlaw08_examples.f 60 = some true := by decide +kernel
theorem examples_f {k : Nat} (hk : 60 ≤ k) : tenementlaw08_examples.f k = some true := at_rounds tenementlaw08_examples.mono hk examples_60
theorem weq_iff (x y : Wr) : weq x y = true ↔ x = y := by
  obtain ⟨x0, x1, x2, x3⟩ := x
  obtain ⟨y0, y1, y2, y3⟩ := y
  unfold weq
  simp [toList_iff]
theorem eqb_iff : ∀ (xs ys : List Wr), xs.length = ys.length → (eqb xs ys = true ↔ xs = ys)
  | [], [], _ => by simp [eqb]
  | [], _ :: _, h => by simp at h
  | _ :: _, [], h => by simp at h
  | x :: xs, y :: ys, h => by
    have ih := eqb_iff xs ys (by simpa using h)
    unfold eqb
    rw [Bool.and_eq_true, weq_iff, ih, List.cons.injEq]
theorem sameT_iff (a b c d e : Int) (xs : List Wr) (a' b' c' d' e' : Int) (ys : List Wr) : sameT a b c d e xs a' b' c' d' e' ys = true ↔ (a = a' ∧ b = b' ∧ c = c' ∧ d = d' ∧ e = e' ∧ xs = ys) := by
  unfold sameT
  constructor
  · intro h
    simp only [Bool.and_eq_true, beq_iff_eq, decide_eq_true_eq] at h
    obtain ⟨⟨⟨⟨h0, h1, h2, h3⟩, h4⟩, h5⟩, h6⟩ := h
    exact ⟨h0, h1, h2, h3, h4, (eqb_iff xs ys h5).1 h6⟩
  · rintro ⟨rfl, rfl, rfl, rfl, rfl, rfl⟩
    rw [(eqb_iff xs xs rfl).2 rfl]
    simp
theorem ItemBack : tenementlaw08_ItemBack.Pure := by
  intro x y cut hx hy hcut
  obtain ⟨⟨⟨⟨v0, v1, v2, v3⟩, d⟩, o⟩, l, own⟩ := x
  obtain ⟨⟨⟨⟨u0, u1, u2, u3⟩, d'⟩, o'⟩, l', own'⟩ := y
  have hw := hx.1.1
  have hw' := hy.1.1
  have hl : ∀ p ∈ l, fits p.f0 := fun p hp => ⟨(hx.2.1.1 p hp).1.1, (hx.2.1.1 p hp).1.2.1, (hx.2.1.1 p hp).1.2.2.1⟩
  have hl' : ∀ p ∈ l', fits p.f0 := fun p hp => ⟨(hy.2.1.1 p hp).1.1, (hy.2.1.1 p hp).1.2.1, (hy.2.1.1 p hp).1.2.2.1⟩
  have hlen : l.length * 64 ≤ 140737488351232 := hx.2.1.2
  have hlen' : l'.length * 64 ≤ 140737488351232 := hy.2.1.2
  have hcut := u16_of hcut
  obtain ⟨K, hK⟩ : ∃ K, K = (l.length + 1) * 15 + (l'.length + 1) * 15 + 5000 := ⟨_, rfl⟩
  obtain ⟨a, b, c, g, e, xs, ed, hwh, hf⟩ := deal_own v0 v1 v2 v3 d hw.1.1 hw.1.2.1 hw.1.2.2.1 o l hl (by omega) (K := K) (by omega)
  obtain ⟨a', b', c', g', e', ys, ed', hwh', hf'⟩ := deal_own u0 u1 u2 u3 d' hw'.1.1 hw'.1.2.1 hw'.1.2.2.1 o' l' hl' (by omega) (K := K) (by omega)
  clear hx hy hw hw' hl hl'
  have eb := ibytes_true hwh hf (k := K) (by omega)
  have eb' := ibytes_true hwh' hf' (k := K) (by omega)
  have hb := bl_txn hwh
  have hb' := bl_txn hwh'
  generalize enc (sp e a b c g ++ nb xs.length 1) xs = s at eb hb
  generalize enc (sp e' a' b' c' g' ++ nb ys.length 1) ys = t at eb' hb'
  obtain ⟨hS, h0, h8, _, hok⟩ := wh_true hwh
  have hsz : s.size ≤ 100000 ∧ 1 ≤ s.size := txn_size hwh hb
  have er := iread_txn hwh hf hb (by omega) (k := K) (by omega)
  have hpos : (s.size : Int) ≠ 0 := by omega
  have hm : Int.tmod (wrap64 cut) (s.size : Int) = cut % (s.size : Int) := by
    rw [wrap64_id (by omega) (by omega), Int.tmod_eq_emod_of_nonneg hcut.1]
  have hm0 := Int.emod_nonneg cut hpos
  have hm1 := Int.emod_lt_of_pos cut (show (0 : Int) < (s.size : Int) by omega)
  obtain ⟨m, hmm⟩ : ∃ m : Nat, cut % (s.size : Int) = (m : Int) := ⟨(cut % (s.size : Int)).toNat, by omega⟩
  rw [hmm] at hm hm0 hm1
  obtain ⟨p0, p1, p2, p3, p4, ps, es⟩ := iread_cut hwh hb (u := s.extract 0 m) (by simp; omega) [] ((bl s).drop m) (by rw [bl_take, List.append_nil, List.take_append_drop]) (by simp only [List.length_nil, List.length_drop, bl_length]; omega) (k := K) (by omega)
  have zx : (⟨#[120]⟩ : ByteArray).size = 1 := rfl
  obtain ⟨q0, q1, q2, q3, q4, qs, ex⟩ := iread_cut hwh hb (u := s ++ (⟨#[120]⟩ : ByteArray)) (by rw [ByteArray.size_append]; omega) [120] [] (by rw [bl_append, List.append_nil]; rfl) (by simp) (k := K) (by omega)
  have e7 := same_f (a : Int) b c g e xs a b c g e xs (by omega) (k := K) (by omega)
  rw [(sameT_iff _ _ _ _ _ _ _ _ _ _ _ _).2 ⟨rfl, rfl, rfl, rfl, rfl, rfl⟩] at e7
  have e8 := whole_f (a : Int) b c g e xs hf (by omega)
  rw [hwh] at e8
  have e9 := same_f (a : Int) b c g e xs a' b' c' g' e' ys (by omega) (k := K) (by omega)
  have e10 : s.toList = t.toList ↔ sameT (a : Int) b c g e xs a' b' c' g' e' ys = true := by
    rw [toList_iff, sameT_iff]
    constructor
    · intro h
      have := (txn_prefix (r := []) (q := []) hwh hwh' (by rw [← hb, ← hb', h])).1
      obtain ⟨rfl, rfl, rfl, rfl, rfl, rfl⟩ := this
      exact ⟨rfl, rfl, rfl, rfl, rfl, rfl⟩
    · rintro ⟨g0, g1, g2, g3, g4, rfl⟩
      obtain rfl : a = a' := by omega
      obtain rfl : b = b' := by omega
      obtain rfl : c = c' := by omega
      obtain rfl : g = g' := by omega
      obtain rfl : e = e' := by omega
      exact bl_inj (by rw [hb, hb'])
  generalize sameT (a : Int) b c g e xs a' b' c' g' e' ys = z at e9 e10
  refine ⟨K, ?_⟩
  show tenementlaw08_ItemBack.f K v0 v1 v2 v3 d o l own u0 u1 u2 u3 d' o' l' own' cut = some true
  unfold tenementlaw08_ItemBack.f
  rw [examples_f (by omega), Option.bind_some, if_pos rfl, ed, Option.bind_some, ed', Option.bind_some]
  show (item_Bytes.f K (a : Int) b c g e xs).bind _ = _
  rw [eb, Option.bind_some]
  show (item_Bytes.f K (a' : Int) b' c' g' e' ys).bind _ = _
  rw [eb', Option.bind_some]
  show (if s.toList = ([] : List UInt8) then _ else _) = _
  rw [if_neg (fun h => by have := toList_nil.1 h; omega)]
  show (item_Read.f K s).bind _ = _
  rw [er, Option.bind_some]
  show (if (s.size : Int) = 0 then _ else _) = _
  rw [if_neg hpos]
  show (if 0 ≤ Int.tmod (wrap64 cut) (s.size : Int) then (if Int.tmod (wrap64 cut) (s.size : Int) ≤ (s.size : Int) then ((item_Read.f K (s.extract 0 (Int.tmod (wrap64 cut) (s.size : Int)).toNat)).bind _) else _) else _) = _
  rw [hm, if_pos (by omega), if_pos (by omega), Int.toNat_natCast, es, Option.bind_some]
  show (if s.size + 1 ≤ 9223372036854775807 then _ else _) = _
  rw [if_pos (by omega)]
  show (item_Read.f K (s ++ (⟨#[120]⟩ : ByteArray))).bind _ = _
  rw [ex, Option.bind_some, if_pos rfl, if_pos rfl, if_pos rfl]
  show (item_Same.f K (a : Int) b c g e xs a b c g e xs).bind _ = _
  rw [e7, Option.bind_some, if_pos rfl]
  show (item_Whole.f (a : Int) b c g e xs).bind _ = _
  rw [e8, Option.bind_some, if_pos rfl, if_neg (by simp), if_neg (by simp)]
  show (item_Same.f K (a : Int) b c g e xs a' b' c' g' e' ys).bind _ = _
  rw [e9, Option.bind_some]
  show (if s.toList = t.toList then _ else _) = _
  by_cases h : s.toList = t.toList
  · rw [if_pos h, if_pos (e10.1 h)]
  · rw [if_neg h, if_neg (fun hz => h (e10.2 hz))]
end Go.Proofs.Ytoogchgoiciggaa.Pure
