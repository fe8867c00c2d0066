import Derived.Test.YtoogchgoiciggaaGItemShards13
import Derived.Test.YtoogchgoiciggaaGItemShards4
import Derived.Test.YtoogchgoiciggaaGItemShards12
-- Written by this session's own driver (wip/hybrid.py) of the kit's printer; contracts marked FOREIGN are by hand.
set_option linter.unusedVariables false
namespace Go.Proofs.Ytoogchgoiciggaa.Q
open Go.RowKit Go.Proofs.Ytoogchgoiciggaa.Q Go.Proofs.YtoogchgoiciggaaW.PrintWords Go.Proofs.YtoogchgoiciggaaW.PrintLast Go.Proofs.YtoogchgoiciggaaW.PrintMore
def tenementlaw08_ItemShards.Pure : Prop := ∀ (x0 : ByteArray) (x1 : ByteArray) (x2 : S35) (x3 : Int) (x4 : Int) (x5 : Bool), (x0.size ≤ 140737488351232) → (x1.size ≤ 140737488351232) → (wf35 x2) → ((Lit.int .i64 x3).wf = true) → ((Lit.int .i64 x4).wf = true) → ∃ k, tenementlaw08_ItemShards.f k x0 x1 (x2.f0.f0.f0.f0) (x2.f0.f0.f0.f1) (x2.f0.f0.f0.f2) (x2.f0.f0.f0.f3) (x2.f0.f0.f1) (x2.f0.f1) (x2.f1) (x2.f2) x3 x4 x5 = some true
end Go.Proofs.Ytoogchgoiciggaa.Q

/- Any key is of the shard that the chapter says, and so are any transaction's writes. -/
set_option linter.unusedVariables false
set_option linter.unusedSimpArgs false
namespace Go.Proofs.Ytoogchgoiciggaa.Pure
open Go.RowKit Go.Proofs.Ytoogchgoiciggaa.Q Go.Proofs.YtoogchgoiciggaaW.PrintWords Go.Proofs.YtoogchgoiciggaaW.PrintLast Go.Proofs.YtoogchgoiciggaaW.PrintMore Go.Proofs.Ytoogchgoiciggaa.Plain

theorem examples_60 : tenementlaw08_examples.f 60 = some true := by decide +kernel
theorem examples_f {k : Nat} (hk : 60 ≤ k) : tenementlaw08_examples.f k = some true := at_rounds tenementlaw08_examples.mono hk examples_60
theorem shards_l0 (b q : ByteArray) (hb : b.size ≤ 140737488351232) (hq : q.size ≤ 140737488351232) (n : Int) (hn : n ≤ 9223372036854775807) (ts : List Rw) (hz : ts.length ≤ 1000) (K : Nat) (hK : 281474976703000 ≤ K) :
    ∀ m i, i + m = ts.length → tenementlaw08_ItemShards.l0 (K + m + 1) b q n true ts ts (i : Int) = some true := by
  intro m
  induction m with
  | zero =>
    intro i hi
    rw [Nat.add_zero, tenementlaw08_ItemShards.l0, if_neg (by omega), if_pos rfl, shard_f n hn hb hq (by omega), Option.bind_some, rshard_f n hn hb hq hK, Option.bind_some, if_pos rfl]
  | succ m ih =>
    intro i hi
    rw [show K + (m + 1) + 1 = (K + m + 1) + 1 by omega, tenementlaw08_ItemShards.l0, if_pos (by omega), if_pos (by omega), if_pos (by omega), if_neg (by simp), idx i (by omega), ih (i + 1) (by omega)]
theorem ItemShards : tenementlaw08_ItemShards.Pure := by
  intro b q x sh n near hb hq hx hsh hn
  have hsh := i64_of hsh
  have hn := i64_of hn
  obtain ⟨⟨⟨⟨v0, v1, v2, v3⟩, d⟩, o⟩, l, own⟩ := x
  have hw := hx.1.1
  have hl : ∀ p ∈ l, fits p.f0 := fun p hp => ⟨(hx.2.1.1 p hp).1.1, (hx.2.1.1 p hp).1.2.1, (hx.2.1.1 p hp).1.2.2.1⟩
  have hlen : l.length * 64 ≤ 140737488351232 := hx.2.1.2
  obtain ⟨K, hK⟩ : ∃ K, K = (l.length + 1) * 15 + 281474976705000 := ⟨_, rfl⟩
  obtain ⟨a, b', c, g, e, xs, ed, hf, h10⟩ := deal_f v0 v1 v2 v3 d hw.1.1 hw.1.2.1 hw.1.2.2.1 hw.1.2.2.2 hw.2 o own l hl (by omega) (K := K) (by omega)
  clear hx hw hl
  have hj : ∀ (sh n : Int), n ≤ 9223372036854775807 → tenementlaw08_ItemShards.j0 (K + 1) b q sh n true v0 v1 v2 v3 d o l own = some true := by
    intro sh n hn
    have hr : ∀ x ∈ xs.map rw_, x.f0.size ≤ 140737488351232 ∧ x.f1.size ≤ 140737488351232 := by
      intro x hx
      obtain ⟨y, hy, rfl⟩ := List.mem_map.1 hx
      exact ⟨(hf y hy).1, (hf y hy).2.1⟩
    have hlf : (xs.filter fun x => decide (shv x.f0 x.f1 n = sh)).length ≤ xs.length := List.length_filter_le _ _
    have hmf : (xs.map rw_).filter (fun x => decide (shv x.f0 x.f1 n = sh)) = (xs.filter fun x => decide (shv x.f0 x.f1 n = sh)).map rw_ := by
      rw [List.filter_map]
      rfl
    have e1 := of_f (a : Int) b' c g e xs n sh hn hf (by omega) (k := K) (by omega)
    have e2 := refWrites_f (xs.filter fun x => decide (shv x.f0 x.f1 n = sh)) (by omega) (k := K) (by omega)
    have e3 := refTxn_f (a : Int) b' c g e xs (by omega) (k := K) (by omega)
    have e4 := rof_f (a : Int) b' c g e (xs.map rw_) n sh hn hr (by rw [List.length_map]; omega) (k := K) (by rw [List.length_map]; omega)
    rw [hmf] at e4
    generalize xs.filter (fun x => decide (shv x.f0 x.f1 n = sh)) = fs at e1 e2 e4 hlf
    obtain ⟨q', hq'⟩ : ∃ m, K = m + (fs.map rw_).length + 1 := ⟨K - fs.length - 1, by rw [List.length_map]; omega⟩
    have h := shards_l0 b q hb hq n hn (fs.map rw_) (by rw [List.length_map]; omega) q' (by rw [List.length_map] at hq'; omega) (fs.map rw_).length 0 (by omega)
    rw [← hq', show ((0 : Nat) : Int) = 0 from rfl] at h
    rw [tenementlaw08_ItemShards.j0, ed, Option.bind_some, e1, Option.bind_some, e2, Option.bind_some, e3, Option.bind_some, e4, Option.bind_some, if_pos rfl, h]
  refine ⟨K + 1, ?_⟩
  show tenementlaw08_ItemShards.f (K + 1) b q v0 v1 v2 v3 d o l own sh n near = some true
  unfold tenementlaw08_ItemShards.f
  rw [examples_f (by omega), Option.bind_some, if_pos rfl]
  cases near with
  | true =>
    rw [if_pos rfl]
    refine hj _ _ ?_
    have := Int.tmod_lt_of_pos n (show (0 : Int) < 6 by omega)
    omega
  | false =>
    rw [if_neg (by simp)]
    exact hj _ _ hn.2
end Go.Proofs.Ytoogchgoiciggaa.Pure
