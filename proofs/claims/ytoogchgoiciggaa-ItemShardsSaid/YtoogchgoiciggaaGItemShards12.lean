import Derived.Test.YtoogchgoiciggaaGItemShards4
import Derived.Test.YtoogchgoiciggaaGItemShards9
import Derived.Test.YtoogchgoiciggaaGItemShards0
import Derived.Test.YtoogchgoiciggaaGItemShards10
import Derived.Test.YtoogchgoiciggaaGItemShards11
import Derived.Test.YtoogchgoiciggaaGItemShards3
import Derived.Test.YtoogchgoiciggaaGItemShards2
/- Writes and transactions as the laws make them; what Shard and Of answer. -/
set_option linter.unusedVariables false
set_option linter.unusedSimpArgs false
namespace Go.Proofs.Ytoogchgoiciggaa.Pure
open Go.RowKit Go.Proofs.Ytoogchgoiciggaa.Q Go.Proofs.YtoogchgoiciggaaW.PrintWords Go.Proofs.YtoogchgoiciggaaW.PrintLast Go.Proofs.YtoogchgoiciggaaW.PrintMore Go.Proofs.Ytoogchgoiciggaa.Plain

abbrev Wr := S23
abbrev Pt := S25
/-- A write whose texts are not too long. -/
def fits (x : Wr) : Prop := x.f0.size ≤ 140737488351232 ∧ x.f1.size ≤ 140737488351232 ∧ x.f2.size ≤ 140737488351232
theorem str_size (l : List Int) : (strOfNums l).size = l.length := by
  unfold strOfNums
  simp [ByteArray.size]
/-- What a part of a deal is. -/
def wrt (p : Pt) (own : Bool) : Wr :=
  if own = true then (if 224 ≤ p.f2 then ⟨strOfNums [98, IntKind.u8.wrap (48 + Int.tmod p.f2 2)], strOfNums [IntKind.u8.wrap (97 + Int.tmod (IntKind.u8.wrap (Int.tdiv p.f2 2)) 4)], ⟨#[]⟩, true⟩
    else ⟨strOfNums [98, IntKind.u8.wrap (48 + Int.tmod p.f2 2)], strOfNums [IntKind.u8.wrap (97 + Int.tmod (IntKind.u8.wrap (Int.tdiv p.f2 2)) 4)], p.f0.f2.extract 0 (min p.f0.f2.size 8), false⟩)
  else p.f0
theorem wrt_f (p : Pt) (own : Bool) (h : fits p.f0) : tenementlaw08_Put_write.f p.f0.f0 p.f0.f1 p.f0.f2 p.f0.f3 own p.f2 = some ((wrt p own).f0, (wrt p own).f1, (wrt p own).f2, (wrt p own).f3) := by
  unfold tenementlaw08_Put_write.f wrt
  cases own with
  | true =>
    rw [if_pos rfl, if_pos rfl, if_pos (by have := h.2.2; omega)]
    by_cases c : 224 ≤ p.f2
    · rw [if_pos c, if_pos c]
    · rw [if_neg c, if_neg c]
  | false => rw [if_neg (by simp), if_neg (by simp)]
theorem wrt_fits (p : Pt) (own : Bool) (h : fits p.f0) : fits (wrt p own) := by
  unfold wrt
  cases own with
  | true =>
    rw [if_pos rfl]
    have z : (⟨#[]⟩ : ByteArray).size = 0 := rfl
    by_cases c : 224 ≤ p.f2
    · rw [if_pos c]
      refine ⟨?_, ?_, ?_⟩
      · show (strOfNums _).size ≤ _; rw [str_size]; simp
      · show (strOfNums _).size ≤ _; rw [str_size]; simp
      · show (⟨#[]⟩ : ByteArray).size ≤ _; omega
    · rw [if_neg c]
      refine ⟨?_, ?_, ?_⟩
      · show (strOfNums _).size ≤ _; rw [str_size]; simp
      · show (strOfNums _).size ≤ _; rw [str_size]; simp
      · show (ByteArray.extract _ _ _).size ≤ _; rw [ByteArray.size_extract]; omega
  | false => rw [if_neg (by simp)]; exact h
/-- Do two writes stand at one key? -/
def same (w y : Wr) : Bool := decide (y.f0 = w.f0) && decide (y.f1 = w.f1)
def wrs (most : Nat) (whole : Bool) : List Pt → List Wr → List Wr
  | [], out => out
  | p :: ps, out => if out.length < most then (if (whole && out.any (same (wrt p (whole || p.f1)))) = true then wrs most whole ps out else wrs most whole ps (out ++ [wrt p (whole || p.f1)])) else out
theorem wrs_len (most : Nat) (whole : Bool) : ∀ l out, out.length ≤ most → (wrs most whole l out).length ≤ most
  | [], out, h => h
  | p :: ps, out, h => by
    unfold wrs
    by_cases c : out.length < most
    · rw [if_pos c]
      split
      · exact wrs_len most whole ps out h
      · exact wrs_len most whole ps _ (by simp; omega)
    · rw [if_neg c]; exact h
theorem wrs_all (most : Nat) (whole : Bool) (Q : Wr → Prop) : ∀ l out, (∀ p ∈ l, Q (wrt p (whole || p.f1))) → (∀ x ∈ out, Q x) → ∀ x ∈ wrs most whole l out, Q x
  | [], out, _, h => h
  | p :: ps, out, hl, h => by
    unfold wrs
    have hl' : ∀ q ∈ ps, Q (wrt q (whole || q.f1)) := fun q hq => hl q (by simp [hq])
    split
    · split
      · exact wrs_all most whole Q ps out hl' h
      · refine wrs_all most whole Q ps _ hl' (fun x hx => ?_)
        rcases List.mem_append.1 hx with hx | hx
        · exact h x hx
        · rw [List.mem_singleton.1 hx]; exact hl p (by simp)
    · exact h
theorem idx (i : Nat) (h : i ≤ 4611686018427387904) : wrap64 ((i : Int) + 1) = ((i + 1 : Nat) : Int) := by
  rw [wrap64_id (by omega) (by omega)]
  omega
theorem rdW (l : List Wr) (j : Nat) (h : j < l.length) : rd_T23 l (j : Int) = l[j] := by
  unfold rd_T23
  rw [Int.toNat_natCast, List.getD_eq_getElem?_getD, List.getElem?_eq_getElem h]
  rfl
theorem rdP (l : List Pt) (j : Nat) (h : j < l.length) : rd_T25 l (j : Int) = l[j] := by
  unfold rd_T25
  rw [Int.toNat_natCast, List.getD_eq_getElem?_getD, List.getElem?_eq_getElem h]
  rfl
theorem wr_l1 (l : List Pt) (most : Int) (whole : Bool) (out : List Wr) (i : Int) (w : Wr) (h7 : out.length ≤ 1000) (K : Nat) : ∀ d j fl, j + d = out.length →
    tenementlaw08_writes.l1 (K + d + 1) l most whole out i fl (j : Int) w.f0 w.f1 w.f2 w.f3 =
      if (whole && (fl || (out.drop j).any (same w))) = true then tenementlaw08_writes.l0 K l most whole out (wrap64 (i + 1)) else tenementlaw08_writes.l0 K l most whole (out ++ [w]) (wrap64 (i + 1)) := by
  intro d
  induction d with
  | zero =>
    intro j fl hj
    have e : out.drop j = [] := List.drop_eq_nil_of_le (by omega)
    rw [Nat.add_zero, tenementlaw08_writes.l1, if_neg (by omega), e, List.any_nil, Bool.or_false]
    cases whole with
    | true =>
      rw [if_pos rfl]
      cases fl with
      | true => rw [if_pos rfl, if_pos (by rfl)]
      | false => rw [if_neg (by simp), if_pos (by omega), if_neg (by simp)]
    | false => rw [if_neg (by simp), if_pos (by omega), if_neg (by simp)]
  | succ d ih =>
    intro j fl hj
    have hlt : j < out.length := by omega
    have e : out.drop j = out[j] :: out.drop (j + 1) := List.drop_eq_getElem_cons hlt
    rw [show K + (d + 1) + 1 = (K + d + 1) + 1 by omega, tenementlaw08_writes.l1, if_pos (by omega), idx j (by omega), e, List.any_cons]
    cases fl with
    | true =>
      rw [if_pos rfl, ih (j + 1) true (by omega)]
      simp only [Bool.true_or]
    | false =>
      rw [if_neg (by simp), if_pos (by omega), rdW out j hlt, Bool.false_or]
      by_cases c : (out[j].f0).toList = w.f0.toList
      · rw [if_pos c, ih (j + 1) _ (by omega)]
        have c0 := toList_iff.1 c
        have hs : ((out[j].f1).toList == w.f1.toList) = same w out[j] := by
          unfold same
          rw [decide_eq_true c0, Bool.true_and]
          by_cases c1 : out[j].f1 = w.f1
          · rw [decide_eq_true c1, c1]; simp
          · rw [decide_eq_false c1]
            exact beq_eq_false_iff_ne.2 (fun h => c1 (toList_iff.1 h))
        rw [hs]
      · rw [if_neg c, ih (j + 1) _ (by omega)]
        have hs : same w out[j] = false := by
          unfold same
          rw [decide_eq_false (fun h => c (by rw [h])), Bool.false_and]
        rw [hs, Bool.false_or]
theorem wr_l0 (l : List Pt) (most : Nat) (hm : most ≤ 100) (whole : Bool) (hl : ∀ p ∈ l, fits p.f0) (hz : l.length ≤ 4611686018427387904) : ∀ d i (out : List Wr) K, i + d = l.length → out.length ≤ most → (d + 1) * (most + 5) ≤ K →
    tenementlaw08_writes.l0 K l (most : Int) whole out (i : Int) = some (wrs most whole (l.drop i) out) := by
  intro d
  induction d with
  | zero =>
    intro i out K hi ho hK
    obtain ⟨K, rfl⟩ : ∃ m, K = m + 2 := ⟨K - 2, by omega⟩
    have e : l.drop i = [] := List.drop_eq_nil_of_le (by omega)
    rw [tenementlaw08_writes.l0, if_neg (by omega), tenementlaw08_writes.j1, if_neg (by simp), e]
    rfl
  | succ d ih =>
    intro i out K hi ho hK
    have hlt : i < l.length := by omega
    have e : l.drop i = l[i] :: l.drop (i + 1) := List.drop_eq_getElem_cons hlt
    have hK' : (d + 1) * (most + 5) + (most + 5) ≤ K := by
      rw [show (d + 1 + 1) * (most + 5) = (d + 1) * (most + 5) + (most + 5) by rw [Nat.add_mul, Nat.one_mul]] at hK
      exact hK
    have hf : fits l[i].f0 := hl _ (List.getElem_mem _)
    rw [e]
    unfold wrs
    by_cases c : out.length < most
    · rw [if_pos c]
      obtain ⟨m, hm'⟩ : ∃ m, K = (m + out.length + 1) + 3 ∧ (d + 1) * (most + 5) ≤ m := ⟨K - out.length - 4, by omega, by omega⟩
      rw [hm'.1, tenementlaw08_writes.l0, if_pos (by omega), decide_eq_true (by omega : (out.length : Int) < (most : Int)), tenementlaw08_writes.j1, if_pos rfl, if_pos (by omega), if_pos (by omega), rdP l i hlt]
      have key : ∀ own : Bool, own = (whole || l[i].f1) → tenementlaw08_writes.j2 (m + out.length + 1 + 1) l (most : Int) whole out (i : Int) l[i].f0.f0 l[i].f0.f1 l[i].f0.f2 l[i].f0.f3 own l[i].f2 =
          some (if (whole && out.any (same (wrt l[i] (whole || l[i].f1)))) = true then wrs most whole (l.drop (i + 1)) out else wrs most whole (l.drop (i + 1)) (out ++ [wrt l[i] (whole || l[i].f1)])) := by
        intro own ho'
        rw [tenementlaw08_writes.j2, wrt_f _ _ hf, Option.bind_some]
        show tenementlaw08_writes.l1 (m + out.length + 1) l (most : Int) whole out (i : Int) false 0 (wrt l[i] own).f0 (wrt l[i] own).f1 (wrt l[i] own).f2 (wrt l[i] own).f3 = _
        have h1 := wr_l1 l (most : Int) whole out (i : Int) (wrt l[i] own) (by omega) m out.length 0 false (by omega)
        rw [show ((0 : Nat) : Int) = 0 from rfl] at h1
        rw [h1, List.drop_zero, Bool.false_or, idx i (by omega), ho']
        split
        · rw [ih (i + 1) out m (by omega) ho hm'.2]
        · rw [ih (i + 1) _ m (by omega) (by simp; omega) hm'.2]
      cases whole with
      | true =>
        rw [if_pos rfl, key true rfl]
      | false =>
        rw [if_neg (by simp), key _ (by simp)]
    · rw [if_neg c]
      obtain ⟨m, rfl⟩ : ∃ m, K = m + 2 := ⟨K - 2, by omega⟩
      rw [tenementlaw08_writes.l0, if_pos (by omega), decide_eq_false (by omega : ¬ (out.length : Int) < (most : Int)), tenementlaw08_writes.j1, if_neg (by simp)]
theorem writes_f (l : List Pt) (most : Nat) (hm : most ≤ 100) (whole : Bool) (hl : ∀ p ∈ l, fits p.f0) (hz : l.length ≤ 4611686018427387904) {K : Nat} (hK : (l.length + 1) * (most + 5) ≤ K) :
    tenementlaw08_writes.f K l (most : Int) whole = some (wrs most whole l []) := by
  unfold tenementlaw08_writes.f
  have := wr_l0 l most hm whole hl hz l.length 0 [] K (by omega) (by simp) hK
  rw [show ((0 : Nat) : Int) = 0 from rfl, List.drop_zero] at this
  exact this
/-- Where a key is kept. -/
def shv (b q : ByteArray) (n : Int) : Int := if n < 1 then 1 else ((CrcN.sum (bl (vs b.size ++ b ++ (vs q.size ++ q))) : Nat) : Int) % n + 1
theorem shard_f {b q : ByteArray} (n : Int) (hn : n ≤ 9223372036854775807) (hb : b.size ≤ 140737488351232) (hq : q.size ≤ 140737488351232) {k : Nat} (hk : 11 ≤ k) : item_Shard.f k b q n = some (shv b q n) := by
  unfold item_Shard.f shv
  by_cases c : n < 1
  · rw [if_pos c, if_pos c]
  · have z1 := vary_len_ten (n := b.size) (by omega)
    have z2 := vary_len_ten (n := q.size) (by omega)
    have hz1 : (vs b.size ++ b).size ≤ 140737488351262 := by rw [ByteArray.size_append, vs_size]; omega
    have hz2 : (vs q.size ++ q).size ≤ 140737488351262 := by rw [ByteArray.size_append, vs_size]; omega
    rw [if_neg c, if_neg c, Text_f (by omega) hk, Option.bind_some, Text_f (by omega) hk, Option.bind_some, if_pos (by omega), Sum_f (by rw [ByteArray.size_append]; omega) (by omega), Option.bind_some, if_neg (by omega)]
    have hl := sum_bl_lt (vs b.size ++ b ++ (vs q.size ++ q))
    generalize CrcN.sum (bl (vs b.size ++ b ++ (vs q.size ++ q))) = S at hl ⊢
    rw [wrap64_id (x := (S : Int)) (by omega) (by omega), Int.tmod_eq_emod_of_nonneg (by omega)]
    have h1 := Int.emod_nonneg (S : Int) (show n ≠ 0 by omega)
    have h2 := Int.emod_lt_of_pos (S : Int) (show 0 < n by omega)
    have h3 : (S : Int) % n ≤ (S : Int) := by
      have := Int.emod_add_mul_ediv (S : Int) n
      have h4 : 0 ≤ n * ((S : Int) / n) := Int.mul_nonneg (by omega) (Int.ediv_nonneg (by omega) (by omega))
      omega
    rw [wrap64_id (by omega) (by omega)]
theorem shv_range (b q : ByteArray) {n : Int} (h : 1 ≤ n) : 1 ≤ shv b q n ∧ shv b q n ≤ n := by
  unfold shv
  rw [if_neg (by omega)]
  have h1 := Int.emod_nonneg ((CrcN.sum (bl (vs b.size ++ b ++ (vs q.size ++ q))) : Nat) : Int) (show n ≠ 0 by omega)
  have h2 := Int.emod_lt_of_pos ((CrcN.sum (bl (vs b.size ++ b ++ (vs q.size ++ q))) : Nat) : Int) (show 0 < n by omega)
  omega
theorem of_l (n sh : Int) (hn : n ≤ 9223372036854775807) {k : Nat} (hk : 11 ≤ k) : ∀ xs : List Wr, (∀ x ∈ xs, fits x) → item_Of.l k sh n xs = some (xs.filter fun x => decide (shv x.f0 x.f1 n = sh))
  | [], _ => rfl
  | x :: xs, h => by
    have hx := h x (by simp)
    unfold item_Of.l
    rw [shard_f n hn hx.1 hx.2.1 hk, Option.bind_some, of_l n sh hn hk xs (fun y hy => h y (by simp [hy])), Option.bind_some, List.filter_cons]
    by_cases c : shv x.f0 x.f1 n = sh
    · rw [if_pos c, if_pos (decide_eq_true c)]
    · rw [if_neg c, if_neg (by simpa using c)]
theorem of_f (a b c d e : Int) (xs : List Wr) (n sh : Int) (hn : n ≤ 9223372036854775807) (hx : ∀ x ∈ xs, fits x) (hz : xs.length < 2513169434916) {k : Nat} (hk : 11 ≤ k) :
    item_Of.f k a b c d e xs sh n = some (xs.filter fun x => decide (shv x.f0 x.f1 n = sh)) := by
  unfold item_Of.f
  rw [if_pos hz, of_l n sh hn hk xs hx]
end Go.Proofs.Ytoogchgoiciggaa.Pure

/- What the document answers of shards; the laws' own turning of writes. -/
set_option linter.unusedVariables false
set_option linter.unusedSimpArgs false
namespace Go.Proofs.Ytoogchgoiciggaa.Pure
open Go.RowKit Go.Proofs.Ytoogchgoiciggaa.Q Go.Proofs.YtoogchgoiciggaaW.PrintWords Go.Proofs.YtoogchgoiciggaaW.PrintLast Go.Proofs.YtoogchgoiciggaaW.PrintMore Go.Proofs.Ytoogchgoiciggaa.Plain

abbrev Rw := S38
def rw_ (x : Wr) : Rw := ⟨x.f0, x.f1, x.f2, x.f3⟩
theorem rdR (l : List Rw) (j : Nat) (h : j < l.length) : rd_T38 l (j : Int) = l[j] := by
  unfold rd_T38
  rw [Int.toNat_natCast, List.getD_eq_getElem?_getD, List.getElem?_eq_getElem h]
  rfl
theorem refWrites_loop (l : List Wr) (hz : l.length < 2513169434916) (K : Nat) : ∀ d i (out : List Rw), i + d = l.length → out.length = i → tenementlaw08_refWrites.l0 (K + d + 1) l out (i : Int) = some (out ++ (l.drop i).map rw_) := by
  intro d
  induction d with
  | zero =>
    intro i out hi ho
    have e : l.drop i = [] := List.drop_eq_nil_of_le (by omega)
    rw [Nat.add_zero, tenementlaw08_refWrites.l0, if_neg (by omega), e, List.map_nil, List.append_nil]
  | succ d ih =>
    intro i out hi ho
    have hlt : i < l.length := by omega
    have e : l.drop i = l[i] :: l.drop (i + 1) := List.drop_eq_getElem_cons hlt
    rw [show K + (d + 1) + 1 = (K + d + 1) + 1 by omega, tenementlaw08_refWrites.l0, if_pos (by omega), if_pos (by omega), if_pos (by omega), rdW l i hlt, idx i (by omega), ih (i + 1) _ (by omega) (by simp; omega), e, List.map_cons, List.append_assoc]
    rfl
theorem refWrites_f (l : List Wr) (hz : l.length < 2513169434916) {k : Nat} (hk : l.length + 1 ≤ k) : tenementlaw08_refWrites.f k l = some (l.map rw_) := by
  obtain ⟨K, rfl⟩ : ∃ m, k = m + l.length + 1 := ⟨k - l.length - 1, by omega⟩
  unfold tenementlaw08_refWrites.f
  have := refWrites_loop l hz K l.length 0 [] (by omega) rfl
  rw [show ((0 : Nat) : Int) = 0 from rfl, List.drop_zero, List.nil_append] at this
  exact this
theorem refTxn_f (a b c d e : Int) (l : List Wr) (hz : l.length < 2513169434916) {k : Nat} (hk : l.length + 1 ≤ k) : tenementlaw08_refTxn.f k a b c d e l = some (a, b, c, d, e, l.map rw_) := by
  unfold tenementlaw08_refTxn.f
  rw [show tenementlaw08_refStamp.f a b c d e = some (a, b, c, d, e) from rfl, Option.bind_some, refWrites_f l hz hk, Option.bind_some]
theorem rshard_f {b q : ByteArray} (n : Int) (hn : n ≤ 9223372036854775807) (hb : b.size ≤ 140737488351232) (hq : q.size ≤ 140737488351232) {k : Nat} (hk : 281474976703000 ≤ k) : tenementref08_Shard.f k b q n = some (shv b q n) := by
  unfold tenementref08_Shard.f shv
  by_cases c : n < 1
  · rw [if_pos c, if_pos c]
  · have z1 := vary_len_ten (n := b.size) (by omega)
    have z2 := vary_len_ten (n := q.size) (by omega)
    have hz1 : (vs b.size ++ b).size ≤ 140737488351242 := by rw [ByteArray.size_append, vs_size]; omega
    have hz2 : (vs q.size ++ q).size ≤ 140737488351242 := by rw [ByteArray.size_append, vs_size]; omega
    have hz3 : (vs b.size ++ b ++ (vs q.size ++ q)).size ≤ 281474976702484 := by rw [ByteArray.size_append]; omega
    rw [if_neg c, if_neg c, RText_f (by omega) (by omega), Option.bind_some, RText_f (by omega) (by omega), Option.bind_some, if_pos (by omega), refSum_f (by omega) (by omega), Option.bind_some]
    have hl := sum_bl_lt (vs b.size ++ b ++ (vs q.size ++ q))
    generalize CrcN.sum (bl (vs b.size ++ b ++ (vs q.size ++ q))) = S at hl ⊢
    rw [wrap_u64 (x := n) (by omega) (by omega), if_neg (by omega), wrap_u64 (x := (S : Int)) (by omega) (by omega), Int.tmod_eq_emod_of_nonneg (by omega)]
    have h1 := Int.emod_nonneg (S : Int) (show n ≠ 0 by omega)
    have h2 := Int.emod_lt_of_pos (S : Int) (show 0 < n by omega)
    have h3 : (S : Int) % n ≤ (S : Int) := by
      have := Int.emod_add_mul_ediv (S : Int) n
      have h4 : 0 ≤ n * ((S : Int) / n) := Int.mul_nonneg (by omega) (Int.ediv_nonneg (by omega) (by omega))
      omega
    rw [wrap64_id (x := (S : Int) % n) (by omega) (by omega), wrap64_id (by omega) (by omega)]
theorem rof_loop (l : List Rw) (n sh : Int) (hn : n ≤ 9223372036854775807) (hl : ∀ x ∈ l, x.f0.size ≤ 140737488351232 ∧ x.f1.size ≤ 140737488351232) (hz : l.length < 2513169434916) (a b c d e : Int) (K : Nat) (hK : 281474976703000 ≤ K) :
    ∀ m i (out : List Rw), i + m = l.length → out.length ≤ i → tenementref08_Of.l0 (K + m + 1) sh n out (i : Int) a b c d e l = some (out ++ (l.drop i).filter fun x => decide (shv x.f0 x.f1 n = sh)) := by
  intro m
  induction m with
  | zero =>
    intro i out hi ho
    have e : l.drop i = [] := List.drop_eq_nil_of_le (by omega)
    rw [Nat.add_zero, tenementref08_Of.l0, if_neg (by omega), e, List.filter_nil, List.append_nil]
  | succ m ih =>
    intro i out hi ho
    have hlt : i < l.length := by omega
    have hx := hl _ (List.getElem_mem hlt)
    have e : l.drop i = l[i] :: l.drop (i + 1) := List.drop_eq_getElem_cons hlt
    rw [show K + (m + 1) + 1 = (K + m + 1) + 1 by omega, tenementref08_Of.l0, if_pos (by omega), if_pos (by omega), rdR l i hlt, rshard_f n hn hx.1 hx.2 (by omega), Option.bind_some, e, List.filter_cons, idx i (by omega)]
    by_cases c : shv l[i].f0 l[i].f1 n = sh
    · rw [if_pos c, if_pos (by omega), if_pos (decide_eq_true c), ih (i + 1) _ (by omega) (by simp; omega), List.append_assoc]
      rfl
    · rw [if_neg c, if_neg (by simpa using c), ih (i + 1) _ (by omega) (by omega)]
theorem rof_f (a b c d e : Int) (l : List Rw) (n sh : Int) (hn : n ≤ 9223372036854775807) (hl : ∀ x ∈ l, x.f0.size ≤ 140737488351232 ∧ x.f1.size ≤ 140737488351232) (hz : l.length < 2513169434916) {k : Nat} (hk : 281474976703000 + l.length + 1 ≤ k) :
    tenementref08_Of.f k a b c d e l sh n = some (l.filter fun x => decide (shv x.f0 x.f1 n = sh)) := by
  obtain ⟨K, rfl⟩ : ∃ m, k = m + l.length + 1 := ⟨k - l.length - 1, by omega⟩
  unfold tenementref08_Of.f
  have := rof_loop l n sh hn hl hz a b c d e K (by omega) l.length 0 [] (by omega) (by simp)
  rw [show ((0 : Nat) : Int) = 0 from rfl, List.drop_zero, List.nil_append] at this
  exact this
/-- The laws' deals. -/
theorem deal_f (v0 v1 v2 v3 d : Int) (h0 : (Lit.int .u64 v0).wf = true) (h1 : (Lit.int .u64 v1).wf = true) (h2 : (Lit.int .u64 v2).wf = true) (h3 : (Lit.int .u64 v3).wf = true) (h4 : (Lit.int .i64 d).wf = true) (o own : Bool) (l : List Pt) (hl : ∀ p ∈ l, fits p.f0) (hz : l.length ≤ 4611686018427387904) {K : Nat} (hK : (l.length + 1) * 15 + 10 ≤ K) :
    ∃ (a b c g : Nat) (e : Int) (xs : List Wr), tenementlaw08_Deal_deal.f K v0 v1 v2 v3 d o l own = some ((a : Int), (b : Int), (c : Int), (g : Int), e, xs) ∧ (∀ x ∈ xs, fits x) ∧ xs.length ≤ 10 := by
  unfold tenementlaw08_Deal_deal.f
  cases own with
  | true =>
    obtain ⟨n0, n1, n2, n3, dc, em, _⟩ := mark_own (v3 := v3) (d := d) h0 h1 h2 (k := K) (by omega)
    have ew := writes_f l 8 (by omega) true hl hz (K := K) (by omega)
    have hln := wrs_len 8 true l [] (by simp)
    rw [show ((8 : Nat) : Int) = 8 from rfl] at ew
    rw [if_pos rfl, em, Option.bind_some, ew, Option.bind_some]
    by_cases c : ((wrs 8 true l []).length : Int) = 0
    · rw [if_pos c]
      refine ⟨n0, n1, n2, n3, dc, _, rfl, ?_, by simp⟩
      intro x hx1
      rw [List.mem_singleton.1 hx1]
      have z2 : (⟨#[98, 48]⟩ : ByteArray).size = 2 := rfl
      have z1 : (⟨#[97]⟩ : ByteArray).size = 1 := rfl
      have z3 : (⟨#[118]⟩ : ByteArray).size = 1 := rfl
      exact ⟨show (⟨#[98, 48]⟩ : ByteArray).size ≤ _ by omega, show (⟨#[97]⟩ : ByteArray).size ≤ _ by omega, show (⟨#[118]⟩ : ByteArray).size ≤ _ by omega⟩
    · rw [if_neg c]
      exact ⟨n0, n1, n2, n3, dc, _, rfl, wrs_all 8 true fits l [] (fun p hp => wrt_fits p _ (hl p hp)) (by simp), by omega⟩
  | false =>
    obtain ⟨n0, n1, n2, n3, e, em, _⟩ := mark_any h0 h1 h2 h3 h4 o (k := K) (by omega)
    have ew := writes_f l 10 (by omega) false hl hz (K := K) (by omega)
    have hln := wrs_len 10 false l [] (by simp)
    rw [show ((10 : Nat) : Int) = 10 from rfl] at ew
    rw [if_neg (by simp), em, Option.bind_some, ew, Option.bind_some]
    exact ⟨n0, n1, n2, n3, e, _, rfl, wrs_all 10 false fits l [] (fun p hp => wrt_fits p _ (hl p hp)) (by simp), by omega⟩
end Go.Proofs.Ytoogchgoiciggaa.Pure
