import Derived.Test.YtoogchgoiciggaaGItemTells14
import Derived.Test.YtoogchgoiciggaaGItemTells6
import Derived.Test.YtoogchgoiciggaaGItemTells13
set_option linter.unusedVariables false
namespace Go.Proofs.Ytoogchgoiciggaa.Q
open Go.RowKit Go.Proofs.Ytoogchgoiciggaa.Q Go.Proofs.YtoogchgoiciggaaW.PrintWords Go.Proofs.YtoogchgoiciggaaW.PrintLast Go.Proofs.YtoogchgoiciggaaW.PrintMore
def tenementlaw08_ItemTells.Pure : Prop := ∀ (x0 : S25) (x1 : S35) (x2 : S35), (wf25 x0) → (wf35 x1) → (wf35 x2) → ∃ k, tenementlaw08_ItemTells.f k (x0.f0.f0) (x0.f0.f1) (x0.f0.f2) (x0.f0.f3) (x0.f1) (x0.f2) (x1.f0.f0.f0.f0) (x1.f0.f0.f0.f1) (x1.f0.f0.f0.f2) (x1.f0.f0.f0.f3) (x1.f0.f0.f1) (x1.f0.f1) (x1.f1) (x1.f2) (x2.f0.f0.f0.f0) (x2.f0.f0.f0.f1) (x2.f0.f0.f0.f2) (x2.f0.f0.f0.f3) (x2.f0.f0.f1) (x2.f0.f1) (x2.f1) (x2.f2) = some true
end Go.Proofs.Ytoogchgoiciggaa.Q

/- Any write and transaction is right, or not, so great, whole, or not, put, the same as another one, or not, as the chapter says. -/
set_option linter.unusedVariables false
set_option linter.unusedSimpArgs false
namespace Go.Proofs.Ytoogchgoiciggaa.Pure
open Go.RowKit Go.Proofs.Ytoogchgoiciggaa.Q Go.Proofs.YtoogchgoiciggaaW.PrintWords Go.Proofs.YtoogchgoiciggaaW.PrintLast Go.Proofs.YtoogchgoiciggaaW.PrintMore Go.Proofs.Ytoogchgoiciggaa.Plain

theorem examples_60 : tenementlaw08_examples.f 60 = some true := by decide +kernel
theorem examples_f {k : Nat} (hk : 60 ≤ k) : tenementlaw08_examples.f k = some true := at_rounds tenementlaw08_examples.mono hk examples_60
theorem ItemTells : tenementlaw08_ItemTells.Pure := by
  intro p x y hp hx hy
  obtain ⟨⟨p0, p1, p2, p3⟩, p4, p5⟩ := p
  obtain ⟨⟨⟨⟨v0, v1, v2, v3⟩, d⟩, o⟩, l, own⟩ := x
  obtain ⟨⟨⟨⟨u0, u1, u2, u3⟩, d'⟩, o'⟩, l', own'⟩ := y
  have hpf : fits (⟨p0, p1, p2, p3⟩ : Wr) := ⟨hp.1.1, hp.1.2.1, hp.1.2.2.1⟩
  have hw := hx.1.1
  have hw' := hy.1.1
  have hl : ∀ p ∈ l, fits p.f0 := fun p hp => ⟨(hx.2.1.1 p hp).1.1, (hx.2.1.1 p hp).1.2.1, (hx.2.1.1 p hp).1.2.2.1⟩
  have hl' : ∀ p ∈ l', fits p.f0 := fun p hp => ⟨(hy.2.1.1 p hp).1.1, (hy.2.1.1 p hp).1.2.1, (hy.2.1.1 p hp).1.2.2.1⟩
  have hlen : l.length * 64 ≤ 140737488351232 := hx.2.1.2
  have hlen' : l'.length * 64 ≤ 140737488351232 := hy.2.1.2
  obtain ⟨K, hK⟩ : ∃ K, K = (l.length + 1) * 15 + (l'.length + 1) * 15 + 5000 := ⟨_, rfl⟩
  obtain ⟨a, b, c, g, e, xs, ed, hf, h10⟩ := deal_f v0 v1 v2 v3 d hw.1.1 hw.1.2.1 hw.1.2.2.1 hw.1.2.2.2 hw.2 o own l hl (by omega) (K := K) (by omega)
  obtain ⟨a', b', c', g', e', ys, ed', hf', h10'⟩ := deal_f u0 u1 u2 u3 d' hw'.1.1 hw'.1.2.1 hw'.1.2.2.1 hw'.1.2.2.2 hw'.2 o' own' l' hl' (by omega) (K := K) (by omega)
  clear hx hy hw hw' hl hl'
  have ew := wrt_f (⟨⟨p0, p1, p2, p3⟩, p4, p5⟩ : Pt) p4 hpf
  generalize wrt (⟨⟨p0, p1, p2, p3⟩, p4, p5⟩ : Pt) p4 = q at ew
  have er := refWrites_f [q] (by simp) (k := K) (by simp; omega)
  obtain ⟨s, ok, eb1, eb2⟩ := bytes_same (a := a) (b := b) (c := c) (g := g) (e := e) hf (by omega) (k := K) (by omega)
  have et := refTxn_f (a : Int) b c g e xs (by omega) (k := K) (by omega)
  have et' := refTxn_f (a' : Int) b' c' g' e' ys (by omega) (k := K) (by omega)
  have e1 := iright_f q.f0 q.f1 q.f2 q.f3
  have e2 := rright_f q.f0 q.f1 q.f2 q.f3
  have e3 : item_Size.f q.f0 q.f1 q.f2 q.f3 = tenementref08_Size.f q.f0 q.f1 q.f2 q.f3 := rfl
  obtain ⟨z, e4⟩ : ∃ z, tenementref08_Size.f q.f0 q.f1 q.f2 q.f3 = some z := by
    unfold tenementref08_Size.f
    split <;> exact ⟨_, rfl⟩
  rw [e4] at e3
  have e5 := whole_f (a : Int) b c g e xs hf (by omega)
  have e6 := rwhole_f (a : Int) b c g e xs (k := K) (by omega)
  have e7 := same_f (a : Int) b c g e xs a' b' c' g' e' ys (by omega) (k := K) (by omega)
  have e8 := rsame_f (a : Int) b c g e xs a' b' c' g' e' ys (by omega) (k := K) (by omega)
  have hr : rd_T38 ([q].map rw_) 0 = rw_ q := rfl
  refine ⟨K, ?_⟩
  show tenementlaw08_ItemTells.f K p0 p1 p2 p3 p4 p5 v0 v1 v2 v3 d o l own u0 u1 u2 u3 d' o' l' own' = some true
  unfold tenementlaw08_ItemTells.f
  rw [examples_f (by omega), Option.bind_some, if_pos rfl, ew, Option.bind_some]
  show (tenementlaw08_refWrites.f K [q]).bind _ = _
  rw [er, Option.bind_some, if_pos (by simp), ed, Option.bind_some, ed', Option.bind_some, eb1, Option.bind_some, et, Option.bind_some, eb2, Option.bind_some, e1, Option.bind_some]
  show (tenementref08_Right.f q.f0 q.f1 q.f2 q.f3).bind _ = _
  rw [e2, Option.bind_some, if_pos rfl, e3, Option.bind_some]
  show (tenementref08_Size.f q.f0 q.f1 q.f2 q.f3).bind _ = _
  rw [e4, Option.bind_some, if_pos rfl, e5, Option.bind_some, Option.bind_some, e6, Option.bind_some, if_pos rfl, if_pos rfl, if_pos rfl, e7, Option.bind_some, Option.bind_some, et', Option.bind_some, e8, Option.bind_some, if_pos rfl]
end Go.Proofs.Ytoogchgoiciggaa.Pure
