import Derived.Test.YtoogchgoiciggaaGItemSame11
import Derived.Test.YtoogchgoiciggaaGItemSame6
import Derived.Test.YtoogchgoiciggaaGItemSame10
set_option linter.unusedVariables false
namespace Go.Proofs.Ytoogchgoiciggaa.Q
open Go.RowKit Go.Proofs.Ytoogchgoiciggaa.Q Go.Proofs.YtoogchgoiciggaaW.PrintWords Go.Proofs.YtoogchgoiciggaaW.PrintLast Go.Proofs.YtoogchgoiciggaaW.PrintMore
def tenementlaw08_ItemSame.Pure : Prop := ∀ (x0 : S35) (x1 : Int), (wf35 x0) → ((Lit.int .u8 x1).wf = true) → ∃ k, tenementlaw08_ItemSame.f k (x0.f0.f0.f0.f0) (x0.f0.f0.f0.f1) (x0.f0.f0.f0.f2) (x0.f0.f0.f0.f3) (x0.f0.f0.f1) (x0.f0.f1) (x0.f1) (x0.f2) x1 = some true
end Go.Proofs.Ytoogchgoiciggaa.Q

set_option linter.unusedVariables false
set_option linter.unusedSimpArgs false
namespace Go.Proofs.Ytoogchgoiciggaa.Pure
open Go.RowKit Go.Proofs.Ytoogchgoiciggaa.Q Go.Proofs.YtoogchgoiciggaaW.PrintWords Go.Proofs.YtoogchgoiciggaaW.PrintLast Go.Proofs.YtoogchgoiciggaaW.PrintMore Go.Proofs.Ytoogchgoiciggaa.Plain
theorem examples_60 : tenementlaw08_examples.f 60 = some true := by decide +kernel
theorem examples_f {k : Nat} (hk : 60 ≤ k) : tenementlaw08_examples.f k = some true := at_rounds tenementlaw08_examples.mono hk examples_60
theorem weq_iff (x y : Wr) : weq x y = true ↔ x = y := by
 obtain ⟨x0, x1, x2, x3⟩ := x
 obtain ⟨y0, y1, y2, y3⟩ := y
 unfold weq
 simp [toList_iff]
theorem eqb_iff : ∀ (xs ys : List Wr), xs.length = ys.length → (eqb xs ys = true ↔ xs = ys)
 | [], [], _ => by simp [eqb]
 | [], _ :: _, h => by simp at h
 | _ :: _, [], h => by simp at h
 | x :: xs, y :: ys, h => by
  have ih := eqb_iff xs ys (by simpa using h)
  unfold eqb
  rw [Bool.and_eq_true, weq_iff, ih, List.cons.injEq]
theorem sameT_iff (a b c d e : Int) (xs : List Wr) (a' b' c' d' e' : Int) (ys : List Wr) : sameT a b c d e xs a' b' c' d' e' ys = true ↔ (a = a' ∧ b = b' ∧ c = c' ∧ d = d' ∧ e = e' ∧ xs = ys) := by
 unfold sameT
 constructor
 ·intro h
  simp only [Bool.and_eq_true, beq_iff_eq, decide_eq_true_eq] at h
  obtain ⟨⟨⟨⟨h0, h1, h2, h3⟩, h4⟩, h5⟩, h6⟩ := h
  exact ⟨h0, h1, h2, h3, h4, (eqb_iff xs ys h5).1 h6⟩
 ·rintro ⟨rfl, rfl, rfl, rfl, rfl, rfl⟩
  rw [(eqb_iff xs xs rfl).2 rfl]
  simp
theorem sameT_no {a b c d e : Int} {xs : List Wr} {a' b' c' d' e' : Int} {ys : List Wr} (h : ¬ (a = a' ∧ b = b' ∧ c = c' ∧ d = d' ∧ e = e' ∧ xs = ys)) : sameT a b c d e xs a' b' c' d' e' ys = false := by
 cases hs : sameT a b c d e xs a' b' c' d' e' ys with
 | false => rfl
 | true => exact absurd ((sameT_iff _ _ _ _ _ _ _ _ _ _ _ _).1 hs) h
theorem ItemSame : tenementlaw08_ItemSame.Pure := by
 intro x n hx hn
 have hn := u8_of hn
 obtain ⟨⟨⟨⟨v0, v1, v2, v3⟩, d⟩, o⟩, l, own⟩ := x
 have hw := hx.1.1
 have hl : ∀ p ∈ l, fits p.f0 := fun p hp => ⟨(hx.2.1.1 p hp).1.1, (hx.2.1.1 p hp).1.2.1, (hx.2.1.1 p hp).1.2.2.1⟩
 have hlen : l.length * 64 ≤ 140737488351232 := hx.2.1.2
 obtain ⟨a, b, c, g, e, xs, ed, hwh, hf⟩ := deal_own v0 v1 v2 v3 d hw.1.1 hw.1.2.1 hw.1.2.2.1 o l hl (by omega) (K := (l.length + 1) * 15 + 5000) (by omega)
 refine ⟨(l.length + 1) * 15 + 5000, ?_⟩
 show tenementlaw08_ItemSame.f ((l.length + 1) * 15 + 5000) v0 v1 v2 v3 d o l own n = some true
 have hK : 5000 ≤ (l.length + 1) * 15 + 5000 := by omega
 generalize (l.length + 1) * 15 + 5000 = K at ed hK ⊢
 clear hx hw hl hlen
 obtain ⟨hS, h0, h8, _, hok⟩ := wh_true hwh
 have hdc := okS_dc hS
 obtain ⟨j, hj⟩ : ∃ j : Nat, Int.tmod (wrap64 n) (xs.length : Int) = (j : Int) := by
  rw [wrap64_id (by omega) (by omega), Int.tmod_eq_emod_of_nonneg hn.1]
  exact ⟨(n % (xs.length : Int)).toNat, (Int.toNat_of_nonneg (Int.emod_nonneg _ (by omega))).symm⟩
 have hjl : j < xs.length := by
  rw [wrap64_id (by omega) (by omega), Int.tmod_eq_emod_of_nonneg hn.1] at hj
  have := Int.emod_lt_of_pos n (show 0 < (xs.length : Int) by omega)
  omega
 have hN : wrap64 ((xs.length : Int) - 1) = ((xs.length - 1 : Nat) : Int) := by rw [wrap64_id (by omega) (by omega)]; omega
 have hx : okw xs[j] = true := hok _ (List.getElem_mem hjl)
 have hsz : xs[j].f1.size ≤ 16 := by
  have h : okW xs[j].f0 xs[j].f1 xs[j].f2 xs[j].f3 := of_decide_eq_true hx
  exact h.2.1.2
 have s1 := same_f a b c g e xs a b c g e xs (by omega) (k := K) (by omega)
 have s2 := same_f a b c g e xs a b c g e (xs.set j ⟨xs[j].f0, xs[j].f1 ++ ⟨#[122]⟩, xs[j].f2, xs[j].f3⟩) (by omega) (k := K) (by omega)
 have s3 := same_f a b c g e xs a b c g e (xs.take (xs.length - 1)) (by omega) (k := K) (by omega)
 have s4 := same_f a b c g e xs 0 0 0 0 0 xs (by omega) (k := K) (by omega)
 have s5 := same_f 0 0 0 0 0 [] 0 0 0 0 0 [] (by simp) (k := K) (by simp; omega)
 rw [(sameT_iff _ _ _ _ _ _ _ _ _ _ _ _).2 ⟨rfl, rfl, rfl, rfl, rfl, rfl⟩] at s1 s5
 rw [sameT_no] at s2 s3 s4
 rotate_left
 ·rintro ⟨_, _, _, _, h, _⟩
  omega
 ·rintro ⟨_, _, _, _, _, h⟩
  have := congrArg List.length h
  rw [List.length_take] at this
  omega
 ·rintro ⟨_, _, _, _, _, h⟩
  have h2 : xs[j]? = (xs.set j ⟨xs[j].f0, xs[j].f1 ++ ⟨#[122]⟩, xs[j].f2, xs[j].f3⟩)[j]? := by rw [← h]
  rw [List.getElem?_set_self hjl, List.getElem?_eq_getElem hjl] at h2
  have h3 := congrArg (fun z : Wr => z.f1.size) (Option.some.inj h2)
  have h4 : xs[j].f1.size = (xs[j].f1 ++ ⟨#[122]⟩).size := h3
  rw [ByteArray.size_append] at h4
  have : (⟨#[122]⟩ : ByteArray).size = 1 := rfl
  omega
 unfold tenementlaw08_ItemSame.f
 rw [examples_f (by omega), Option.bind_some, if_pos rfl, ed, Option.bind_some]
 dsimp only
 rw [if_pos (by rw [List.length_nil]; omega), List.nil_append, Option.bind_some, s1, Option.bind_some, if_neg (by omega), hj, if_pos (by omega), if_pos (by omega), rdW xs j hjl, if_pos (by omega), Int.toNat_natCast, s2, Option.bind_some, hN, if_pos (by omega), if_pos (by omega), if_pos rfl, if_neg (by simp), Int.toNat_natCast, s3, Option.bind_some, if_neg (by simp), s4, Option.bind_some, if_neg (by simp), s5, Option.bind_some, if_pos rfl]
end Go.Proofs.Ytoogchgoiciggaa.Pure
