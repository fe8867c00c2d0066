import Derived.Test.YtoogchgoiciggaaGItemReads0
import Derived.Test.YtoogchgoiciggaaGItemReads9
import Derived.Test.YtoogchgoiciggaaGItemReads5
import Derived.Test.YtoogchgoiciggaaGItemReads13
import Derived.Test.YtoogchgoiciggaaGItemReads2
import Derived.Test.YtoogchgoiciggaaGItemReads4
import Derived.Test.YtoogchgoiciggaaGItemReads7
import Derived.Test.YtoogchgoiciggaaGItemReads6
import Derived.Test.YtoogchgoiciggaaGItemReads11
set_option linter.unusedVariables false
set_option linter.unusedSimpArgs false
namespace Go.Proofs.Ytoogchgoiciggaa.Pure
open Go.RowKit Go.Proofs.Ytoogchgoiciggaa.Q Go.Proofs.YtoogchgoiciggaaW.PrintWords Go.Proofs.YtoogchgoiciggaaW.PrintLast Go.Proofs.YtoogchgoiciggaaW.PrintMore Go.Proofs.Ytoogchgoiciggaa.Plain
abbrev Wr := S23
abbrev Pt := S25
def fits (x : Wr) : Prop := x.f0.size ≤ 140737488351232 ∧ x.f1.size ≤ 140737488351232 ∧ x.f2.size ≤ 140737488351232
theorem str_size (l : List Int) : (strOfNums l).size = l.length := by
 unfold strOfNums
 simp [ByteArray.size]
def wrt (p : Pt) (own : Bool) : Wr :=
 if own = true then (if 224 ≤ p.f2 then ⟨strOfNums [98, IntKind.u8.wrap (48 + Int.tmod p.f2 2)], strOfNums [IntKind.u8.wrap (97 + Int.tmod (IntKind.u8.wrap (Int.tdiv p.f2 2)) 4)], ⟨#[]⟩, true⟩
  else ⟨strOfNums [98, IntKind.u8.wrap (48 + Int.tmod p.f2 2)], strOfNums [IntKind.u8.wrap (97 + Int.tmod (IntKind.u8.wrap (Int.tdiv p.f2 2)) 4)], p.f0.f2.extract 0 (min p.f0.f2.size 8), false⟩)
 else p.f0
theorem wrt_f (p : Pt) (own : Bool) (h : fits p.f0) : tenementlaw08_Put_write.f p.f0.f0 p.f0.f1 p.f0.f2 p.f0.f3 own p.f2 = some ((wrt p own).f0, (wrt p own).f1, (wrt p own).f2, (wrt p own).f3) := by
 unfold tenementlaw08_Put_write.f wrt
 cases own with
 | true =>
  rw [if_pos rfl, if_pos rfl, if_pos (by have := h.2.2; omega)]
  by_cases c : 224 ≤ p.f2
  ·rw [if_pos c, if_pos c]
  ·rw [if_neg c, if_neg c]
 | false => rw [if_neg (by simp), if_neg (by simp)]
theorem wrt_fits (p : Pt) (own : Bool) (h : fits p.f0) : fits (wrt p own) := by
 unfold wrt
 cases own with
 | true =>
  rw [if_pos rfl]
  have z : (⟨#[]⟩ : ByteArray).size = 0 := rfl
  by_cases c : 224 ≤ p.f2
  ·rw [if_pos c]
   refine ⟨?_, ?_, ?_⟩
   ·show (strOfNums _).size ≤ _; rw [str_size]; simp
   ·show (strOfNums _).size ≤ _; rw [str_size]; simp
   ·show (⟨#[]⟩ : ByteArray).size ≤ _; omega
  ·rw [if_neg c]
   refine ⟨?_, ?_, ?_⟩
   ·show (strOfNums _).size ≤ _; rw [str_size]; simp
   ·show (strOfNums _).size ≤ _; rw [str_size]; simp
   ·show (ByteArray.extract _ _ _).size ≤ _; rw [ByteArray.size_extract]; omega
 | false => rw [if_neg (by simp)]; exact h
def same (w y : Wr) : Bool := decide (y.f0 = w.f0) && decide (y.f1 = w.f1)
def wrs (most : Nat) (whole : Bool) : List Pt → List Wr → List Wr
 | [], out => out
 | p :: ps, out => if out.length < most then (if (whole && out.any (same (wrt p (whole || p.f1)))) = true then wrs most whole ps out else wrs most whole ps (out ++ [wrt p (whole || p.f1)])) else out
theorem wrs_len (most : Nat) (whole : Bool) : ∀ l out, out.length ≤ most → (wrs most whole l out).length ≤ most
 | [], out, h => h
 | p :: ps, out, h => by
  unfold wrs
  by_cases c : out.length < most
  ·rw [if_pos c]
   split
   ·exact wrs_len most whole ps out h
   ·exact wrs_len most whole ps _ (by simp; omega)
  ·rw [if_neg c]; exact h
theorem wrs_all (most : Nat) (whole : Bool) (Q : Wr → Prop) : ∀ l out, (∀ p ∈ l, Q (wrt p (whole || p.f1))) → (∀ x ∈ out, Q x) → ∀ x ∈ wrs most whole l out, Q x
 | [], out, _, h => h
 | p :: ps, out, hl, h => by
  unfold wrs
  have hl' : ∀ q ∈ ps, Q (wrt q (whole || q.f1)) := fun q hq => hl q (by simp [hq])
  split
  ·split
   ·exact wrs_all most whole Q ps out hl' h
   ·refine wrs_all most whole Q ps _ hl' (fun x hx => ?_)
    rcases List.mem_append.1 hx with hx | hx
    ·exact h x hx
    ·rw [List.mem_singleton.1 hx]; exact hl p (by simp)
  ·exact h
theorem idx (i : Nat) (h : i ≤ 4611686018427387904) : wrap64 ((i : Int) + 1) = ((i + 1 : Nat) : Int) := by
 rw [wrap64_id (by omega) (by omega)]
 omega
theorem rdW (l : List Wr) (j : Nat) (h : j < l.length) : rd_T23 l (j : Int) = l[j] := by
 unfold rd_T23
 rw [Int.toNat_natCast, List.getD_eq_getElem?_getD, List.getElem?_eq_getElem h]
 rfl
theorem rdP (l : List Pt) (j : Nat) (h : j < l.length) : rd_T25 l (j : Int) = l[j] := by
 unfold rd_T25
 rw [Int.toNat_natCast, List.getD_eq_getElem?_getD, List.getElem?_eq_getElem h]
 rfl
theorem wr_l1 (l : List Pt) (most : Int) (whole : Bool) (out : List Wr) (i : Int) (w : Wr) (h7 : out.length ≤ 1000) (K : Nat) : ∀ d j fl, j + d = out.length →
  tenementlaw08_writes.l1 (K + d + 1) l most whole out i fl (j : Int) w.f0 w.f1 w.f2 w.f3 =
   if (whole && (fl || (out.drop j).any (same w))) = true then tenementlaw08_writes.l0 K l most whole out (wrap64 (i + 1)) else tenementlaw08_writes.l0 K l most whole (out ++ [w]) (wrap64 (i + 1)) := by
 intro d
 induction d with
 | zero =>
  intro j fl hj
  have e : out.drop j = [] := List.drop_eq_nil_of_le (by omega)
  rw [Nat.add_zero, tenementlaw08_writes.l1, if_neg (by omega), e, List.any_nil, Bool.or_false]
  cases whole with
  | true =>
   rw [if_pos rfl]
   cases fl with
   | true => rw [if_pos rfl, if_pos (by rfl)]
   | false => rw [if_neg (by simp), if_pos (by omega), if_neg (by simp)]
  | false => rw [if_neg (by simp), if_pos (by omega), if_neg (by simp)]
 | succ d ih =>
  intro j fl hj
  have hlt : j < out.length := by omega
  have e : out.drop j = out[j] :: out.drop (j + 1) := List.drop_eq_getElem_cons hlt
  rw [show K + (d + 1) + 1 = (K + d + 1) + 1 by omega, tenementlaw08_writes.l1, if_pos (by omega), idx j (by omega), e, List.any_cons]
  cases fl with
  | true =>
   rw [if_pos rfl, ih (j + 1) true (by omega)]
   simp only [Bool.true_or]
  | false =>
   rw [if_neg (by simp), if_pos (by omega), rdW out j hlt, Bool.false_or]
   by_cases c : (out[j].f0).toList = w.f0.toList
   ·rw [if_pos c, ih (j + 1) _ (by omega)]
    have c0 := toList_iff.1 c
    have hs : ((out[j].f1).toList == w.f1.toList) = same w out[j] := by
     unfold same
     rw [decide_eq_true c0, Bool.true_and]
     by_cases c1 : out[j].f1 = w.f1
     ·rw [decide_eq_true c1, c1]; simp
     ·rw [decide_eq_false c1]
      exact beq_eq_false_iff_ne.2 (fun h => c1 (toList_iff.1 h))
    rw [hs]
   ·rw [if_neg c, ih (j + 1) _ (by omega)]
    have hs : same w out[j] = false := by
     unfold same
     rw [decide_eq_false (fun h => c (by rw [h])), Bool.false_and]
    rw [hs, Bool.false_or]
theorem wr_l0 (l : List Pt) (most : Nat) (hm : most ≤ 100) (whole : Bool) (hl : ∀ p ∈ l, fits p.f0) (hz : l.length ≤ 4611686018427387904) : ∀ d i (out : List Wr) K, i + d = l.length → out.length ≤ most → (d + 1) * (most + 5) ≤ K →
  tenementlaw08_writes.l0 K l (most : Int) whole out (i : Int) = some (wrs most whole (l.drop i) out) := by
 intro d
 induction d with
 | zero =>
  intro i out K hi ho hK
  obtain ⟨K, rfl⟩ : ∃ m, K = m + 2 := ⟨K - 2, by omega⟩
  have e : l.drop i = [] := List.drop_eq_nil_of_le (by omega)
  rw [tenementlaw08_writes.l0, if_neg (by omega), tenementlaw08_writes.j1, if_neg (by simp), e]
  rfl
 | succ d ih =>
  intro i out K hi ho hK
  have hlt : i < l.length := by omega
  have e : l.drop i = l[i] :: l.drop (i + 1) := List.drop_eq_getElem_cons hlt
  have hK' : (d + 1) * (most + 5) + (most + 5) ≤ K := by
   rw [show (d + 1 + 1) * (most + 5) = (d + 1) * (most + 5) + (most + 5) by rw [Nat.add_mul, Nat.one_mul]] at hK
   exact hK
  have hf : fits l[i].f0 := hl _ (List.getElem_mem _)
  rw [e]
  unfold wrs
  by_cases c : out.length < most
  ·rw [if_pos c]
   obtain ⟨m, hm'⟩ : ∃ m, K = (m + out.length + 1) + 3 ∧ (d + 1) * (most + 5) ≤ m := ⟨K - out.length - 4, by omega, by omega⟩
   rw [hm'.1, tenementlaw08_writes.l0, if_pos (by omega), decide_eq_true (by omega : (out.length : Int) < (most : Int)), tenementlaw08_writes.j1, if_pos rfl, if_pos (by omega), if_pos (by omega), rdP l i hlt]
   have key : ∀ own : Bool, own = (whole || l[i].f1) → tenementlaw08_writes.j2 (m + out.length + 1 + 1) l (most : Int) whole out (i : Int) l[i].f0.f0 l[i].f0.f1 l[i].f0.f2 l[i].f0.f3 own l[i].f2 =
     some (if (whole && out.any (same (wrt l[i] (whole || l[i].f1)))) = true then wrs most whole (l.drop (i + 1)) out else wrs most whole (l.drop (i + 1)) (out ++ [wrt l[i] (whole || l[i].f1)])) := by
    intro own ho'
    rw [tenementlaw08_writes.j2, wrt_f _ _ hf, Option.bind_some]
    show tenementlaw08_writes.l1 (m + out.length + 1) l (most : Int) whole out (i : Int) false 0 (wrt l[i] own).f0 (wrt l[i] own).f1 (wrt l[i] own).f2 (wrt l[i] own).f3 = _
    have h1 := wr_l1 l (most : Int) whole out (i : Int) (wrt l[i] own) (by omega) m out.length 0 false (by omega)
    rw [show ((0 : Nat) : Int) = 0 from rfl] at h1
    rw [h1, List.drop_zero, Bool.false_or, idx i (by omega), ho']
    split
    ·rw [ih (i + 1) out m (by omega) ho hm'.2]
    ·rw [ih (i + 1) _ m (by omega) (by simp; omega) hm'.2]
   cases whole with
   | true =>
    rw [if_pos rfl, key true rfl]
   | false =>
    rw [if_neg (by simp), key _ (by simp)]
  ·rw [if_neg c]
   obtain ⟨m, rfl⟩ : ∃ m, K = m + 2 := ⟨K - 2, by omega⟩
   rw [tenementlaw08_writes.l0, if_pos (by omega), decide_eq_false (by omega : ¬ (out.length : Int) < (most : Int)), tenementlaw08_writes.j1, if_neg (by simp)]
theorem writes_f (l : List Pt) (most : Nat) (hm : most ≤ 100) (whole : Bool) (hl : ∀ p ∈ l, fits p.f0) (hz : l.length ≤ 4611686018427387904) {K : Nat} (hK : (l.length + 1) * (most + 5) ≤ K) :
  tenementlaw08_writes.f K l (most : Int) whole = some (wrs most whole l []) := by
 unfold tenementlaw08_writes.f
 have := wr_l0 l most hm whole hl hz l.length 0 [] K (by omega) (by simp) hK
 rw [show ((0 : Nat) : Int) = 0 from rfl, List.drop_zero] at this
 exact this
theorem toList_nil {s : ByteArray} : s.toList = ([] : List UInt8) ↔ s.size = 0 := by
 rw [toList_data, ← bl_length, List.length_eq_zero_iff]
 unfold bl
 rw [List.map_eq_nil_iff]
def okW (b k v : ByteArray) (g : Bool) : Prop := (1 ≤ b.size ∧ b.size ≤ 16) ∧ (1 ≤ k.size ∧ k.size ≤ 16) ∧ v.size ≤ 32 ∧ (g = true → v.size = 0)
instance (b k v : ByteArray) (g : Bool) : Decidable (okW b k v g) := by unfold okW; infer_instance
instance (a b c d e : Int) : Decidable (okS a b c d e) := by unfold okS; infer_instance
theorem named_f (s : ByteArray) : item_named.f s = some (decide (1 ≤ s.size ∧ s.size ≤ 16)) := by
 unfold item_named.f
 by_cases c : s.toList = ([] : List UInt8)
 ·rw [if_pos c, decide_eq_false (by have := toList_nil.1 c; omega)]
 ·rw [if_neg c]
  have h : s.size ≠ 0 := fun h => c (toList_nil.2 h)
  congr 1
  rw [decide_eq_decide]
  omega
theorem iright_f (b k v : ByteArray) (g : Bool) : item_Right.f b k v g = some (decide (okW b k v g)) := by
 unfold item_Right.f
 rw [named_f, Option.bind_some]
 by_cases c1 : 1 ≤ b.size ∧ b.size ≤ 16
 ·rw [if_pos (decide_eq_true c1), named_f, Option.bind_some]
  by_cases c2 : 1 ≤ k.size ∧ k.size ≤ 16
  ·rw [if_pos (decide_eq_true c2)]
   by_cases c3 : v.size ≤ 32
   ·rw [if_pos (by omega)]
    by_cases c4 : v.toList = ([] : List UInt8)
    ·rw [if_pos c4, decide_eq_true (p := okW b k v g) ⟨c1, c2, c3, fun _ => toList_nil.1 c4⟩]
    ·rw [if_neg c4]
     cases g with
     | true => rw [decide_eq_false (fun h : okW b k v true => c4 (toList_nil.2 (h.2.2.2 rfl)))]; rfl
     | false => rw [decide_eq_true (p := okW b k v false) ⟨c1, c2, c3, fun h => by cases h⟩]; rfl
   ·rw [if_neg (by omega), decide_eq_false (fun h : okW b k v g => c3 h.2.2.1)]
  ·rw [if_neg (by simpa using c2), decide_eq_false (fun h : okW b k v g => c2 h.2.1)]
 ·rw [if_neg (by simpa using c1), decide_eq_false (fun h : okW b k v g => c1 h.1)]
def okw (x : Wr) : Bool := decide (okW x.f0 x.f1 x.f2 x.f3)
def at1 (x y : Wr) : Bool := decide (x.f0.data.toList = y.f0.data.toList ∧ x.f1.data.toList = y.f1.data.toList)
def wh (a b c d e : Int) (xs : List Wr) : Bool := decide (okS a b c d e) && decide (0 < xs.length) && decide (xs.length ≤ 8) && item_Whole.apart xs && xs.all okw
theorem sright_f (a b c d e : Int) : stamp_Right.f a b c d e = some (decide (okS a b c d e)) := by
 by_cases h : okS a b c d e
 ·rw [sright_true h, decide_eq_true h]
 ·rw [sright_false h, decide_eq_false h]
theorem whole_f (a b c d e : Int) (xs : List Wr) (hx : ∀ x ∈ xs, fits x) (hz : xs.length ≤ 9223372036854775806) : item_Whole.f a b c d e xs = some (wh a b c d e xs) := by
 unfold item_Whole.f wh
 rw [if_pos ⟨fun x h => by have := hx x h; exact ⟨by have := this.1; omega, by have := this.2.1; omega⟩, hz⟩, sright_f, Option.bind_some]
 congr 2
 have hr : ∀ x : Wr, item_Whole.right x = okw x := fun x => by
  unfold item_Whole.right okw
  rw [iright_f]
  rfl
 rw [Bool.eq_iff_iff]
 simp [hr]
theorem ba_assoc (a b c : ByteArray) : a ++ b ++ c = a ++ (b ++ c) := bl_inj (by simp only [bl_append, List.append_assoc])
def wb (x : Wr) : ByteArray := vs x.f0.size ++ x.f0 ++ (vs x.f1.size ++ x.f1) ++ (if x.f3 = true then (⟨#[1]⟩ : ByteArray) else (⟨#[0]⟩ : ByteArray) ++ (vs x.f2.size ++ x.f2))
def enc (o : ByteArray) (xs : List Wr) : ByteArray := xs.foldl (fun o x => o ++ wb x) o
theorem n1 : pack_Number.f 1 1 = some (⟨#[1]⟩ : ByteArray) := Number_f 1 1 (by omega) (by omega)
theorem n0 : pack_Number.f 0 1 = some (⟨#[0]⟩ : ByteArray) := Number_f 0 1 (by omega) (by omega)
theorem z1 : (⟨#[1]⟩ : ByteArray).size = 1 := rfl
theorem z0 : (⟨#[0]⟩ : ByteArray).size = 1 := rfl
theorem okw_size {x : Wr} (h : okw x = true) : x.f0.size ≤ 16 ∧ x.f1.size ≤ 16 ∧ x.f2.size ≤ 32 := by
 have h : okW x.f0 x.f1 x.f2 x.f3 := of_decide_eq_true h
 exact ⟨h.1.2, h.2.1.2, h.2.2.1⟩
theorem wb_size {x : Wr} (h : okw x = true) : (wb x).size ≤ 100 := by
 have hs := okw_size h
 have v0 := vary_len_ten (n := x.f0.size) (by omega)
 have v1 := vary_len_ten (n := x.f1.size) (by omega)
 have v2 := vary_len_ten (n := x.f2.size) (by omega)
 unfold wb
 by_cases c : x.f3 = true
 ·rw [if_pos c]
  simp only [ByteArray.size_append, vs_size, z1]
  omega
 ·rw [if_neg c]
  simp only [ByteArray.size_append, vs_size, z0]
  omega
theorem ibytes_l0 (xs : List Wr) (hok : ∀ x ∈ xs, okw x = true) (hz : xs.length ≤ 1000) : ∀ m i K (o : ByteArray), i + m = xs.length → o.size ≤ 1000 + 100 * i → m + 12 ≤ K →
  item_Bytes.l0 K o xs (xs.length : Int) (i : Int) = some (enc o (xs.drop i), true) := by
 intro m
 induction m with
 | zero =>
  intro i K o hi ho hK
  obtain ⟨K, rfl⟩ : ∃ q, K = q + 1 := ⟨K - 1, by omega⟩
  rw [item_Bytes.l0, if_neg (by omega), List.drop_eq_nil_of_le (by omega)]
  rfl
 | succ m ih =>
  intro i K o hi ho hK
  obtain ⟨K, rfl⟩ : ∃ q, K = q + 1 := ⟨K - 1, by omega⟩
  have hlt : i < xs.length := by omega
  have hx := hok _ (List.getElem_mem hlt)
  have hs := okw_size hx
  have hw := wb_size hx
  have v0 := vary_len_ten (n := xs[i].f0.size) (by omega)
  have v1 := vary_len_ten (n := xs[i].f1.size) (by omega)
  have v2 := vary_len_ten (n := xs[i].f2.size) (by omega)
  have e0 : xs.drop i = xs[i] :: xs.drop (i + 1) := List.drop_eq_getElem_cons hlt
  have t0 := Text_f (s := xs[i].f0) (k := K) (by omega) (by omega)
  have t1 := Text_f (s := xs[i].f1) (k := K) (by omega) (by omega)
  have t2 := Text_f (s := xs[i].f2) (k := K) (by omega) (by omega)
  have s0 : (vs xs[i].f0.size ++ xs[i].f0).size ≤ 26 := by rw [ByteArray.size_append, vs_size]; omega
  have s1 : (vs xs[i].f1.size ++ xs[i].f1).size ≤ 26 := by rw [ByteArray.size_append, vs_size]; omega
  have s2 : (vs xs[i].f2.size ++ xs[i].f2).size ≤ 42 := by rw [ByteArray.size_append, vs_size]; omega
  have hnext : item_Bytes.l0 K (o ++ wb xs[i]) xs (xs.length : Int) (wrap64 ((i : Int) + 1)) = some (enc o (xs.drop i), true) := by
   rw [idx i (by omega), ih (i + 1) K _ (by omega) (by rw [ByteArray.size_append]; omega) (by omega), e0]
   rfl
  rw [item_Bytes.l0, if_pos (by omega), if_pos (by omega), if_pos (by omega), rdW xs i hlt, t0, Option.bind_some, t1, Option.bind_some, if_pos (by omega), if_pos (by rw [ByteArray.size_append]; omega)]
  unfold wb at hnext
  by_cases c : xs[i].f3 = true
  ·rw [if_pos c, n1, Option.bind_some, if_pos (by simp only [ByteArray.size_append, vs_size, z1]; omega)]
   rw [if_pos c] at hnext
   rw [ba_assoc]
   exact hnext
  ·rw [if_neg c, n0, Option.bind_some, t2, Option.bind_some, if_pos (by rw [z0]; omega), if_pos (by simp only [ByteArray.size_append, vs_size, z0]; omega)]
   rw [if_neg c] at hnext
   rw [ba_assoc]
   exact hnext
theorem wh_true {a b c d e : Int} {xs : List Wr} (h : wh a b c d e xs = true) : okS a b c d e ∧ 0 < xs.length ∧ xs.length ≤ 8 ∧ item_Whole.apart xs = true ∧ ∀ x ∈ xs, okw x = true := by
 unfold wh at h
 simp only [Bool.and_eq_true, decide_eq_true_eq, List.all_eq_true] at h
 exact ⟨h.1.1.1.1, h.1.1.1.2, h.1.1.2, h.1.2, h.2⟩
def weq (x y : Wr) : Bool := (x.f0.toList == y.f0.toList) && ((x.f1.toList == y.f1.toList) && ((x.f2.toList == y.f2.toList) && (x.f3 == y.f3)))
def eqb : List Wr → List Wr → Bool
 | x :: xs, y :: ys => weq x y && eqb xs ys
 | _, _ => true
theorem neq_eq (p q r s : Bool) : ((!p) || ((!q) || ((!r) || (!s)))) = !(p && (q && (r && s))) := by cases p <;> cases q <;> cases r <;> cases s <;> rfl
def sameT (a b c d e : Int) (xs : List Wr) (a' b' c' d' e' : Int) (ys : List Wr) : Bool := ((a == a' && (b == b' && (c == c' && (d == d')))) && (e == e')) && decide (xs.length = ys.length) && eqb xs ys
theorem neq5 (p q r s t : Bool) : (((!p) || ((!q) || ((!r) || (!s)))) || (!t)) = !((p && (q && (r && s))) && t) := by cases p <;> cases q <;> cases r <;> cases s <;> cases t <;> rfl
abbrev Rw := S38
def rw_ (x : Wr) : Rw := ⟨x.f0, x.f1, x.f2, x.f3⟩
theorem rdR (l : List Rw) (j : Nat) (h : j < l.length) : rd_T38 l (j : Int) = l[j] := by
 unfold rd_T38
 rw [Int.toNat_natCast, List.getD_eq_getElem?_getD, List.getElem?_eq_getElem h]
 rfl
theorem refWrites_loop (l : List Wr) (hz : l.length < 2513169434916) (K : Nat) : ∀ d i (out : List Rw), i + d = l.length → out.length = i → tenementlaw08_refWrites.l0 (K + d + 1) l out (i : Int) = some (out ++ (l.drop i).map rw_) := by
 intro d
 induction d with
 | zero =>
  intro i out hi ho
  have e : l.drop i = [] := List.drop_eq_nil_of_le (by omega)
  rw [Nat.add_zero, tenementlaw08_refWrites.l0, if_neg (by omega), e, List.map_nil, List.append_nil]
 | succ d ih =>
  intro i out hi ho
  have hlt : i < l.length := by omega
  have e : l.drop i = l[i] :: l.drop (i + 1) := List.drop_eq_getElem_cons hlt
  rw [show K + (d + 1) + 1 = (K + d + 1) + 1 by omega, tenementlaw08_refWrites.l0, if_pos (by omega), if_pos (by omega), if_pos (by omega), rdW l i hlt, idx i (by omega), ih (i + 1) _ (by omega) (by simp; omega), e, List.map_cons, List.append_assoc]
  rfl
theorem refWrites_f (l : List Wr) (hz : l.length < 2513169434916) {k : Nat} (hk : l.length + 1 ≤ k) : tenementlaw08_refWrites.f k l = some (l.map rw_) := by
 obtain ⟨K, rfl⟩ : ∃ m, k = m + l.length + 1 := ⟨k - l.length - 1, by omega⟩
 unfold tenementlaw08_refWrites.f
 have := refWrites_loop l hz K l.length 0 [] (by omega) rfl
 rw [show ((0 : Nat) : Int) = 0 from rfl, List.drop_zero, List.nil_append] at this
 exact this
theorem refTxn_f (a b c d e : Int) (l : List Wr) (hz : l.length < 2513169434916) {k : Nat} (hk : l.length + 1 ≤ k) : tenementlaw08_refTxn.f k a b c d e l = some (a, b, c, d, e, l.map rw_) := by
 unfold tenementlaw08_refTxn.f
 rw [show tenementlaw08_refStamp.f a b c d e = some (a, b, c, d, e) from rfl, Option.bind_some, refWrites_f l hz hk, Option.bind_some]
theorem rright_f (b k v : ByteArray) (g : Bool) : tenementref08_Right.f b k v g = some (decide (okW b k v g)) := by
 unfold tenementref08_Right.f
 by_cases c1 : 1 ≤ b.size
 ·rw [if_pos (by omega)]
  by_cases c2 : b.size ≤ 16
  ·rw [if_pos (by omega)]
   by_cases c3 : 1 ≤ k.size
   ·rw [if_pos (by omega)]
    by_cases c4 : k.size ≤ 16
    ·rw [if_pos (by omega)]
     by_cases c5 : v.size ≤ 32
     ·rw [if_pos (by omega)]
      cases g with
      | true =>
       rw [if_pos rfl]
       by_cases c6 : v.toList = ([] : List UInt8)
       ·rw [decide_eq_true (p := okW b k v true) ⟨⟨c1, c2⟩, ⟨c3, c4⟩, c5, fun _ => toList_nil.1 c6⟩, c6]; rfl
       ·rw [decide_eq_false (fun h : okW b k v true => c6 (toList_nil.2 (h.2.2.2 rfl)))]
        congr 1
        exact beq_eq_false_iff_ne.2 c6
      | false => rw [if_neg (by simp), decide_eq_true (p := okW b k v false) ⟨⟨c1, c2⟩, ⟨c3, c4⟩, c5, fun h => by cases h⟩]
     ·rw [if_neg (by omega), decide_eq_false (fun h : okW b k v g => c5 h.2.2.1)]
    ·rw [if_neg (by omega), decide_eq_false (fun h : okW b k v g => c4 h.2.1.2)]
   ·rw [if_neg (by omega), decide_eq_false (fun h : okW b k v g => c3 h.2.1.1)]
  ·rw [if_neg (by omega), decide_eq_false (fun h : okW b k v g => c2 h.1.2)]
 ·rw [if_neg (by omega), decide_eq_false (fun h : okW b k v g => c1 h.1.1)]
theorem rsright_f (a b c d e : Int) {k : Nat} (hk : 5 ≤ k) : tenementref07_Right.f k a b c d e = some (decide (okS a b c d e)) := by
 by_cases h : okS a b c d e
 ·rw [rsright_true h hk, decide_eq_true h]
 ·rw [rsright_false h hk, decide_eq_false h]
def chk : List Wr → List Wr → Bool
 | _, [] => true
 | pre, x :: xs => okw x && (!pre.any fun y => at1 y x) && chk (pre ++ [x]) xs
theorem chk_es (pre : List Wr) (x : Wr) : ∀ xs : List Wr, (xs.all fun z => !(pre ++ [x]).any fun y => at1 y z) = ((xs.all fun z => !pre.any fun y => at1 y z) && xs.all fun z => !at1 x z)
 | [] => rfl
 | z :: zs => by
  have ih := chk_es pre x zs
  have e1 : (!(pre ++ [x]).any fun y => at1 y z) = ((!pre.any fun y => at1 y z) && !at1 x z) := by rw [List.any_append, List.any_cons, List.any_nil, Bool.or_false, Bool.not_or]
  rw [List.all_cons, List.all_cons, List.all_cons, ih, e1]
  generalize (!pre.any fun y => at1 y z) = A
  generalize (!at1 x z) = B
  generalize (zs.all fun z => !pre.any fun y => at1 y z) = C
  generalize (zs.all fun z => !at1 x z) = D
  cases A <;> cases B <;> cases C <;> cases D <;> rfl
theorem chk_apart : ∀ xs pre, chk pre xs = (xs.all okw && xs.all (fun x => !pre.any fun y => at1 y x) && item_Whole.apart xs)
 | [], pre => rfl
 | x :: xs, pre => by
  unfold chk
  rw [chk_apart xs (pre ++ [x])]
  have ea : item_Whole.apart (x :: xs) = (xs.all (fun y => !at1 x y) && item_Whole.apart xs) := rfl
  rw [ea, List.all_cons, List.all_cons]
  rw [chk_es]
  cases okw x <;> cases (!pre.any fun y => at1 y x) <;> cases xs.all okw <;> cases (xs.all fun z => !pre.any fun y => at1 y z) <;> cases (xs.all fun z => !at1 x z) <;> simp
theorem at1_iff (x y : Wr) : at1 x y = true ↔ (x.f0.toList = y.f0.toList ∧ x.f1.toList = y.f1.toList) := by
 unfold at1
 rw [decide_eq_true_eq, toList_data, toList_data, toList_data, toList_data]
theorem rdM (xs : List Wr) (j : Nat) (h : j < xs.length) : rd_T38 (xs.map rw_) (j : Int) = rw_ xs[j] := by
 rw [rdR _ j (by rw [List.length_map]; exact h), List.getElem_map]
theorem rwhole_l1 (a b c d e : Int) (xs : List Wr) (hz : xs.length ≤ 1000) (i : Nat) (hi : i < xs.length) (K : Nat) : ∀ m j, j + m = i →
  tenementref08_Whole.l1 (K + m + 1) (i : Int) (j : Int) a b c d e (xs.map rw_) = if ((xs.take i).drop j).any (fun y => at1 y xs[i]) = true then some false else tenementref08_Whole.l0 K (wrap64 ((i : Int) + 1)) a b c d e (xs.map rw_) := by
 have hlm : ((xs.map rw_).length : Int) = (xs.length : Int) := by rw [List.length_map]
 intro m
 induction m with
 | zero =>
  intro j hj
  have e0 : (xs.take i).drop j = [] := List.drop_eq_nil_of_le (by rw [List.length_take]; omega)
  rw [Nat.add_zero, tenementref08_Whole.l1, if_neg (by omega), e0, List.any_nil, if_neg (by simp)]
 | succ m ih =>
  intro j hj
  have hjt : j < (xs.take i).length := by rw [List.length_take]; omega
  have e0 : (xs.take i).drop j = xs[j] :: (xs.take i).drop (j + 1) := by
   rw [List.drop_eq_getElem_cons hjt, List.getElem_take]
  rw [show K + (m + 1) + 1 = (K + m + 1) + 1 by omega, tenementref08_Whole.l1, if_pos (by omega), if_pos (by omega), if_pos (by omega), if_pos (by omega), if_pos (by omega), rdM xs j (by omega), rdM xs i hi, e0, List.any_cons, idx j (by omega)]
  by_cases c0 : (rw_ xs[j]).f0.toList = (rw_ xs[i]).f0.toList
  ·rw [if_pos c0]
   by_cases c1 : (rw_ xs[j]).f1.toList = (rw_ xs[i]).f1.toList
   ·rw [if_pos c1, (at1_iff _ _).2 ⟨c0, c1⟩, Bool.true_or, if_pos rfl]
   ·rw [if_neg c1, ih (j + 1) (by omega)]
    have : at1 xs[j] xs[i] = false := by
     rw [← Bool.not_eq_true, at1_iff]
     exact fun h => c1 h.2
    rw [this, Bool.false_or]
  ·rw [if_neg c0, ih (j + 1) (by omega)]
   have : at1 xs[j] xs[i] = false := by
    rw [← Bool.not_eq_true, at1_iff]
    exact fun h => c0 h.1
   rw [this, Bool.false_or]
theorem rwhole_l0 (a b c d e : Int) (xs : List Wr) (hz : xs.length ≤ 8) : ∀ m i K, i + m = xs.length → (m + 1) * 20 ≤ K → tenementref08_Whole.l0 K (i : Int) a b c d e (xs.map rw_) = some (chk (xs.take i) (xs.drop i)) := by
 have hlm : ((xs.map rw_).length : Int) = (xs.length : Int) := by rw [List.length_map]
 intro m
 induction m with
 | zero =>
  intro i K hi hK
  obtain ⟨K, rfl⟩ : ∃ q, K = q + 1 := ⟨K - 1, by omega⟩
  have e0 : xs.drop i = [] := List.drop_eq_nil_of_le (by omega)
  rw [tenementref08_Whole.l0, if_neg (by omega), e0]
  rfl
 | succ m ih =>
  intro i K hi hK
  have hlt : i < xs.length := by omega
  have hK2 : (m + 1) * 20 + 20 ≤ K := Nat.le_trans (Nat.le_of_eq (by rw [Nat.add_mul (m + 1) 1 20, Nat.one_mul])) hK
  obtain ⟨q, hq, hq2⟩ : ∃ q, K = (q + i + 1) + 1 ∧ (m + 1) * 20 ≤ q := by
   clear ih hlm hK
   generalize (m + 1) * 20 = M at *
   exact ⟨K - i - 2, by omega, by omega⟩
  have e0 : xs.drop i = xs[i] :: xs.drop (i + 1) := List.drop_eq_getElem_cons hlt
  rw [hq, tenementref08_Whole.l0, if_pos (by omega), if_pos (by omega), rdM xs i hlt, e0]
  show (tenementref08_Right.f xs[i].f0 xs[i].f1 xs[i].f2 xs[i].f3).bind _ = _
  rw [rright_f, Option.bind_some]
  unfold chk
  have h1 := rwhole_l1 a b c d e xs (by omega) i hlt q i 0 (by omega)
  rw [show ((0 : Nat) : Int) = 0 from rfl, List.drop_zero, idx i (by omega)] at h1
  have et : xs.take i ++ [xs[i]] = xs.take (i + 1) := by
   rw [List.take_add_one, List.getElem?_eq_getElem hlt]
   rfl
  by_cases c1 : okw xs[i] = true
  ·have c1' : decide (okW xs[i].f0 xs[i].f1 xs[i].f2 xs[i].f3) = true := c1
   rw [if_pos c1', h1, c1, Bool.true_and, et]
   by_cases c2 : (xs.take i).any (fun y => at1 y xs[i]) = true
   ·rw [if_pos c2, c2]; rfl
   ·rw [if_neg c2, ih (i + 1) q (by omega) hq2]
    rw [Bool.not_eq_true] at c2
    rw [c2]
    rfl
  ·have c1' : ¬ decide (okW xs[i].f0 xs[i].f1 xs[i].f2 xs[i].f3) = true := c1
   rw [if_neg c1']
   rw [Bool.not_eq_true] at c1
   rw [c1]
   rfl
theorem rwhole_f (a b c d e : Int) (xs : List Wr) {k : Nat} (hk : 250 ≤ k) : tenementref08_Whole.f k a b c d e (xs.map rw_) = some (wh a b c d e xs) := by
 have hlm : ((xs.map rw_).length : Int) = (xs.length : Int) := by rw [List.length_map]
 obtain ⟨k, rfl⟩ : ∃ q, k = q + 1 := ⟨k - 1, by omega⟩
 unfold tenementref08_Whole.f wh
 rw [rsright_f _ _ _ _ _ (by omega), Option.bind_some]
 by_cases c0 : okS a b c d e
 ·rw [if_pos (decide_eq_true c0), decide_eq_true c0, Bool.true_and]
  by_cases c1 : 0 < xs.length
  ·rw [if_neg (by omega), decide_eq_true c1, Bool.true_and, tenementref08_Whole.j0]
   by_cases c2 : xs.length ≤ 8
   ·rw [if_neg (by simp; omega), decide_eq_true c2, Bool.true_and]
    have h := rwhole_l0 a b c d e xs c2 xs.length 0 k (by omega) (by omega)
    rw [show ((0 : Nat) : Int) = 0 from rfl, List.drop_zero, List.take_zero, chk_apart] at h
    rw [h]
    congr 1
    have : (xs.all fun x => !([] : List Wr).any fun y => at1 y x) = true := by simp
    rw [this, Bool.and_true, Bool.and_comm]
   ·rw [if_pos (decide_eq_true (by omega)), decide_eq_false c2]; rfl
  ·rw [if_pos (by omega), decide_eq_false c1, tenementref08_Whole.j0, if_pos rfl]; rfl
 ·rw [if_neg (by simpa using c0), decide_eq_false c0, tenementref08_Whole.j0, if_pos rfl]; rfl
theorem rbytes_l0 (a b c d e : Int) (xs : List Wr) (hok : ∀ x ∈ xs, okw x = true) (hz : xs.length ≤ 1000) : ∀ m i K (o : ByteArray), i + m = xs.length → o.size ≤ 1000 + 100 * i → m + 12 ≤ K →
  tenementref08_Bytes.l0 K o (i : Int) a b c d e (xs.map rw_) = some (enc o (xs.drop i), true) := by
 have hlm : ((xs.map rw_).length : Int) = (xs.length : Int) := by rw [List.length_map]
 intro m
 induction m with
 | zero =>
  intro i K o hi ho hK
  obtain ⟨K, rfl⟩ : ∃ q, K = q + 1 := ⟨K - 1, by omega⟩
  rw [tenementref08_Bytes.l0, if_neg (by omega), List.drop_eq_nil_of_le (by omega)]
  rfl
 | succ m ih =>
  intro i K o hi ho hK
  obtain ⟨K, rfl⟩ : ∃ q, K = q + 1 := ⟨K - 1, by omega⟩
  have hlt : i < xs.length := by omega
  have hx := hok _ (List.getElem_mem hlt)
  have hs := okw_size hx
  have hw := wb_size hx
  have v0 := vary_len_ten (n := xs[i].f0.size) (by omega)
  have v1 := vary_len_ten (n := xs[i].f1.size) (by omega)
  have v2 := vary_len_ten (n := xs[i].f2.size) (by omega)
  have e0 : xs.drop i = xs[i] :: xs.drop (i + 1) := List.drop_eq_getElem_cons hlt
  have t0 : tenementref02_Text.f K (rw_ xs[i]).f0 = some (vs xs[i].f0.size ++ xs[i].f0) := RText_f (s := xs[i].f0) (k := K) (by omega) (by omega)
  have t1 : tenementref02_Text.f K (rw_ xs[i]).f1 = some (vs xs[i].f1.size ++ xs[i].f1) := RText_f (s := xs[i].f1) (k := K) (by omega) (by omega)
  have t2 : tenementref02_Text.f K (rw_ xs[i]).f2 = some (vs xs[i].f2.size ++ xs[i].f2) := RText_f (s := xs[i].f2) (k := K) (by omega) (by omega)
  have s0 : (vs xs[i].f0.size ++ xs[i].f0).size ≤ 26 := by rw [ByteArray.size_append, vs_size]; omega
  have s1 : (vs xs[i].f1.size ++ xs[i].f1).size ≤ 26 := by rw [ByteArray.size_append, vs_size]; omega
  have s2 : (vs xs[i].f2.size ++ xs[i].f2).size ≤ 42 := by rw [ByteArray.size_append, vs_size]; omega
  have hnext : tenementref08_Bytes.l0 K (o ++ wb xs[i]) (wrap64 ((i : Int) + 1)) a b c d e (xs.map rw_) = some (enc o (xs.drop i), true) := by
   rw [idx i (by omega), ih (i + 1) K _ (by omega) (by rw [ByteArray.size_append]; omega) (by omega), e0]
   rfl
  rw [tenementref08_Bytes.l0, if_pos (by omega), if_pos (by omega), rdM xs i hlt, t0, Option.bind_some, if_pos (by omega), t1, Option.bind_some, if_pos (by rw [ByteArray.size_append]; omega)]
  unfold wb at hnext
  by_cases c : xs[i].f3 = true
  ·have c' : (rw_ xs[i]).f3 = true := c
   rw [if_pos c', if_pos (by rw [ByteArray.size_append, ByteArray.size_append]; omega)]
   rw [if_pos c] at hnext
   rw [ba_assoc o, ba_assoc o]
   exact hnext
  ·have c' : ¬ (rw_ xs[i]).f3 = true := c
   rw [if_neg c', if_pos (by rw [ByteArray.size_append, ByteArray.size_append]; omega), t2, Option.bind_some, if_pos (by rw [ByteArray.size_append, ByteArray.size_append, ByteArray.size_append, z0]; omega)]
   rw [if_neg c] at hnext
   rw [ba_assoc o, ba_assoc o, ba_assoc o, ba_assoc (vs xs[i].f0.size ++ xs[i].f0 ++ (vs xs[i].f1.size ++ xs[i].f1))]
   exact hnext
theorem bytes_true {a b c g e : Nat} {xs : List Wr} (h : wh a b c g e xs = true) (hx : ∀ x ∈ xs, fits x) {k : Nat} (hk : 300 ≤ k) :
  item_Bytes.f k a b c g e xs = some (enc (sp e a b c g ++ nb xs.length 1) xs, true) ∧ tenementref08_Bytes.f k a b c g e (xs.map rw_) = some (enc (sp e a b c g ++ nb xs.length 1) xs, true) := by
 obtain ⟨hS, h0, h8, _, hok⟩ := wh_true h
 have hb := hS.1
 have hsz := (sp_size (n0 := a) (n1 := b) (n2 := c) (n3 := g) e (by omega) (by omega) (by omega) (by omega)).1
 have hn := nb_size xs.length 1
 obtain ⟨r, q1, q2⟩ := put_same (n := xs.length) (K := 1) (by omega) (by decide) (k := k) (by omega)
 rw [Number_f xs.length 1 (by omega) (by omega)] at q1
 obtain rfl := Option.some.inj q1
 constructor
 ·unfold item_Bytes.f
  rw [whole_f _ _ _ _ _ xs hx (by omega), Option.bind_some, if_pos h, sput_true hS (by omega), Option.bind_some, wrap_u64 (by omega) (by omega), Number_f xs.length 1 (by omega) (by omega), Option.bind_some]
  show (if (sp e a b c g).size + (nb xs.length 1).size ≤ 9223372036854775807 then _ else _) = _
  rw [if_pos (by omega)]
  have := ibytes_l0 xs hok (by omega) xs.length 0 k (sp e a b c g ++ nb xs.length 1) (by omega) (by rw [ByteArray.size_append]; omega) (by omega)
  rw [List.drop_zero] at this
  exact this
 ·have hlm : ((xs.map rw_).length : Int) = (xs.length : Int) := by rw [List.length_map]
  unfold tenementref08_Bytes.f
  rw [rwhole_f _ _ _ _ _ xs (by omega), Option.bind_some, if_pos h, rsput_true hS (by omega), Option.bind_some, hlm, wrap_u64 (by omega) (by omega), q2, Option.bind_some]
  show (if (sp e a b c g).size + (nb xs.length 1).size ≤ 9223372036854775807 then _ else _) = _
  rw [if_pos (by omega)]
  have := rbytes_l0 a b c g e xs hok (by omega) xs.length 0 k (sp e a b c g ++ nb xs.length 1) (by omega) (by rw [ByteArray.size_append]; omega) (by omega)
  rw [List.drop_zero] at this
  exact this
theorem bytes_false {a b c g e : Int} {xs : List Wr} (h : wh a b c g e xs = false) (hx : ∀ x ∈ xs, fits x) (hz : xs.length ≤ 1000) {k : Nat} (hk : 300 ≤ k) :
  item_Bytes.f k a b c g e xs = some (⟨#[]⟩, false) ∧ tenementref08_Bytes.f k a b c g e (xs.map rw_) = some (⟨#[]⟩, false) := by
 constructor
 ·unfold item_Bytes.f
  rw [whole_f _ _ _ _ _ xs hx (by omega), Option.bind_some, h, if_neg (by simp)]
 ·unfold tenementref08_Bytes.f
  rw [rwhole_f _ _ _ _ _ xs (by omega), Option.bind_some, h, if_neg (by simp)]
theorem rsame_l0 (a b c d e a' b' c' d' e' : Int) (xs ys : List Wr) (hl : xs.length = ys.length) (hz : xs.length ≤ 1000) (K : Nat) : ∀ m i, i + m = xs.length →
  tenementref08_Same.l0 (K + m + 1) (i : Int) a b c d e (xs.map rw_) a' b' c' d' e' (ys.map rw_) = some (eqb (xs.drop i) (ys.drop i)) := by
 have hm1 : ((xs.map rw_).length : Int) = (xs.length : Int) := by rw [List.length_map]
 have hm2 : ((ys.map rw_).length : Int) = (ys.length : Int) := by rw [List.length_map]
 intro m
 induction m with
 | zero =>
  intro i hi
  rw [Nat.add_zero, tenementref08_Same.l0, if_neg (by omega), List.drop_eq_nil_of_le (by omega)]
  rfl
 | succ m ih =>
  intro i hi
  have h1 : i < xs.length := by omega
  have h2 : i < ys.length := by omega
  have e1 : xs.drop i = xs[i] :: xs.drop (i + 1) := List.drop_eq_getElem_cons h1
  have e2 : ys.drop i = ys[i] :: ys.drop (i + 1) := List.drop_eq_getElem_cons h2
  rw [show K + (m + 1) + 1 = (K + m + 1) + 1 by omega, tenementref08_Same.l0, if_pos (by omega), if_pos (by omega), if_pos (by omega), rdM xs i h1, rdM ys i h2, neq_eq, e1, e2]
  show (if (!weq xs[i] ys[i]) = true then _ else _) = some (weq xs[i] ys[i] && _)
  cases weq xs[i] ys[i] with
  | true => rw [if_neg (by simp), idx i (by omega), ih (i + 1) (by omega)]; rfl
  | false => rw [if_pos (show (!false) = true from rfl)]; rfl
theorem rsame_f (a b c d e : Int) (xs : List Wr) (a' b' c' d' e' : Int) (ys : List Wr) (hz : xs.length ≤ 1000) {k : Nat} (hk : xs.length + 2 ≤ k) : tenementref08_Same.f k a b c d e (xs.map rw_) a' b' c' d' e' (ys.map rw_) = some (sameT a b c d e xs a' b' c' d' e' ys) := by
 have hm1 : ((xs.map rw_).length : Int) = (xs.length : Int) := by rw [List.length_map]
 have hm2 : ((ys.map rw_).length : Int) = (ys.length : Int) := by rw [List.length_map]
 obtain ⟨K, rfl⟩ : ∃ m, k = (m + xs.length + 1) + 1 := ⟨k - xs.length - 2, by omega⟩
 unfold tenementref08_Same.f sameT
 rw [neq5]
 cases ((a == a' && (b == b' && (c == c' && (d == d')))) && (e == e')) with
 | false => rw [if_pos (show (!false) = true from rfl), tenementref08_Same.j0, if_pos rfl]; rfl
 | true =>
  rw [if_neg (by simp), Bool.true_and, tenementref08_Same.j0, hm1, hm2]
  by_cases hl : xs.length = ys.length
  ·have h := rsame_l0 a b c d e a' b' c' d' e' xs ys hl hz K xs.length 0 (by omega)
   rw [show ((0 : Nat) : Int) = 0 from rfl, List.drop_zero, List.drop_zero] at h
   have hb : ((xs.length : Int) != (ys.length : Int)) = false := by rw [hl]; exact bne_self_eq_false _
   rw [hb, if_neg (by simp), h, decide_eq_true hl, Bool.true_and]
  ·have hb : ((xs.length : Int) != (ys.length : Int)) = true := bne_iff_ne.2 (by omega)
   rw [hb, if_pos rfl, decide_eq_false hl]; rfl
theorem apart_cons (x : Wr) (xs : List Wr) : item_Whole.apart (x :: xs) = (xs.all (fun y => !at1 x y) && item_Whole.apart xs) := rfl
theorem apart_snoc (w : Wr) : ∀ xs : List Wr, item_Whole.apart (xs ++ [w]) = (item_Whole.apart xs && xs.all (fun y => !at1 y w))
 | [] => rfl
 | x :: xs => by
  rw [List.cons_append, apart_cons, apart_snoc w xs, apart_cons, List.all_append, List.all_cons, List.all_cons, List.all_nil, Bool.and_true]
  generalize (xs.all fun y => !at1 x y) = A
  generalize (xs.all fun y => !at1 y w) = B
  generalize item_Whole.apart xs = C
  generalize (!at1 x w) = D
  cases A <;> cases B <;> cases C <;> cases D <;> rfl
theorem same_at1 (w y : Wr) (h : at1 y w = true) : same w y = true := by
 unfold at1 at h
 unfold same
 have h := of_decide_eq_true h
 have e0 : y.f0 = w.f0 := bl_inj (by unfold bl; rw [h.1])
 have e1 : y.f1 = w.f1 := bl_inj (by unfold bl; rw [h.2])
 rw [decide_eq_true e0, decide_eq_true e1]
 rfl
theorem apart_wrs : ∀ l out, item_Whole.apart out = true → item_Whole.apart (wrs 8 true l out) = true
 | [], out, h => h
 | p :: ps, out, h => by
  unfold wrs
  split
  ·split
   ·exact apart_wrs ps out h
   ·rename_i c
    refine apart_wrs ps _ ?_
    rw [apart_snoc, h, Bool.true_and, List.all_eq_true]
    intro y hy
    cases e : at1 y (wrt p (true || p.f1)) with
    | false => rfl
    | true =>
     exfalso
     apply c
     rw [Bool.true_and, List.any_eq_true]
     exact ⟨y, hy, same_at1 _ _ e⟩
  ·exact h
theorem wrt_okw (p : Pt) : okw (wrt p true) = true := by
 unfold wrt
 rw [if_pos rfl]
 have z : (⟨#[]⟩ : ByteArray).size = 0 := rfl
 by_cases c : 224 ≤ p.f2
 ·rw [if_pos c]
  refine decide_eq_true ⟨⟨?_, ?_⟩, ⟨?_, ?_⟩, ?_, fun _ => rfl⟩
  ·show 1 ≤ (strOfNums _).size; rw [str_size]; simp
  ·show (strOfNums _).size ≤ _; rw [str_size]; simp
  ·show 1 ≤ (strOfNums _).size; rw [str_size]; simp
  ·show (strOfNums _).size ≤ _; rw [str_size]; simp
  ·show (⟨#[]⟩ : ByteArray).size ≤ _; omega
 ·rw [if_neg c]
  refine decide_eq_true ⟨⟨?_, ?_⟩, ⟨?_, ?_⟩, ?_, fun h => absurd h (by simp)⟩
  ·show 1 ≤ (strOfNums _).size; rw [str_size]; simp
  ·show (strOfNums _).size ≤ _; rw [str_size]; simp
  ·show 1 ≤ (strOfNums _).size; rw [str_size]; simp
  ·show (strOfNums _).size ≤ _; rw [str_size]; simp
  ·show (ByteArray.extract _ _ _).size ≤ _; rw [ByteArray.size_extract]; omega
theorem deal_own (v0 v1 v2 v3 d : Int) (h0 : (Lit.int .u64 v0).wf = true) (h1 : (Lit.int .u64 v1).wf = true) (h2 : (Lit.int .u64 v2).wf = true) (o : Bool) (l : List Pt) (hl : ∀ p ∈ l, fits p.f0) (hz : l.length ≤ 4611686018427387904) {K : Nat} (hK : (l.length + 1) * 15 + 10 ≤ K) :
  ∃ (a b c g e : Nat) (xs : List Wr), tenementlaw08_Deal_deal.f K v0 v1 v2 v3 d o l true = some ((a : Int), (b : Int), (c : Int), (g : Int), (e : Int), xs) ∧ wh a b c g e xs = true ∧ ∀ x ∈ xs, fits x := by
 unfold tenementlaw08_Deal_deal.f
 obtain ⟨n0, n1, n2, n3, dc, em, _, _, _, hS⟩ := mark_own (v3 := v3) (d := d) h0 h1 h2 (k := K) (by omega)
 have ew := writes_f l 8 (by omega) true hl hz (K := K) (by omega)
 have hln := wrs_len 8 true l [] (by simp)
 have hap := apart_wrs l [] rfl
 have hok := wrs_all 8 true (fun x => okw x = true) l [] (fun p _ => wrt_okw p) (by simp)
 rw [show ((8 : Nat) : Int) = 8 from rfl] at ew
 rw [if_pos rfl, em, Option.bind_some, ew, Option.bind_some]
 by_cases c : ((wrs 8 true l []).length : Int) = 0
 ·rw [if_pos c]
  have z2 : (⟨#[98, 48]⟩ : ByteArray).size = 2 := rfl
  have z1 : (⟨#[97]⟩ : ByteArray).size = 1 := rfl
  have z3 : (⟨#[118]⟩ : ByteArray).size = 1 := rfl
  refine ⟨n0, n1, n2, n3, dc, _, rfl, ?_, ?_⟩
  ·unfold wh
   rw [decide_eq_true hS]
   have : okw (⟨(⟨#[98, 48]⟩ : ByteArray), (⟨#[97]⟩ : ByteArray), (⟨#[118]⟩ : ByteArray), false⟩ : Wr) = true := by
    refine decide_eq_true ⟨⟨?_, ?_⟩, ⟨?_, ?_⟩, ?_, fun h => absurd h (by simp)⟩
    ·show 1 ≤ (⟨#[98, 48]⟩ : ByteArray).size; omega
    ·show (⟨#[98, 48]⟩ : ByteArray).size ≤ _; omega
    ·show 1 ≤ (⟨#[97]⟩ : ByteArray).size; omega
    ·show (⟨#[97]⟩ : ByteArray).size ≤ _; omega
    ·show (⟨#[118]⟩ : ByteArray).size ≤ _; omega
   rw [List.all_cons, this, List.all_nil]
   rfl
  ·intro x hx1
   rw [List.mem_singleton.1 hx1]
   exact ⟨show (⟨#[98, 48]⟩ : ByteArray).size ≤ _ by omega, show (⟨#[97]⟩ : ByteArray).size ≤ _ by omega, show (⟨#[118]⟩ : ByteArray).size ≤ _ by omega⟩
 ·rw [if_neg c]
  refine ⟨n0, n1, n2, n3, dc, _, rfl, ?_, wrs_all 8 true fits l [] (fun p hp => wrt_fits p _ (hl p hp)) (by simp)⟩
  unfold wh
  rw [decide_eq_true hS, decide_eq_true (by omega), decide_eq_true hln, hap, List.all_eq_true.2 hok]
  rfl
def WL (x : Wr) : List Nat := vary x.f0.size ++ (bl x.f0 ++ (vary x.f1.size ++ (bl x.f1 ++ (if x.f3 = true then [1] else 0 :: (vary x.f2.size ++ bl x.f2)))))
theorem bl_wb (x : Wr) : bl (wb x) = WL x := by
 unfold wb WL
 by_cases c : x.f3 = true
 ·rw [if_pos c, if_pos c]
  simp only [bl_append, bl_vs, List.append_assoc]
  rfl
 ·rw [if_neg c, if_neg c]
  simp only [bl_append, bl_vs, List.append_assoc]
  rfl
theorem bl_enc : ∀ (xs : List Wr) (o : ByteArray), bl (enc o xs) = bl o ++ xs.flatMap WL
 | [], o => by simp [enc]
 | x :: xs, o => by
  show bl (enc (o ++ wb x) xs) = _
  rw [bl_enc xs, bl_append, bl_wb, List.flatMap_cons, List.append_assoc]
theorem gone_nil {x : Wr} (h : okw x = true) (c : x.f3 = true) : x.f2 = ⟨#[]⟩ := by
 have h : okW x.f0 x.f1 x.f2 x.f3 := of_decide_eq_true h
 have := h.2.2.2 c
 exact bl_nil.1 (List.eq_nil_of_length_eq_zero (by rw [bl_length, this]))
def TL (a b c g e : Nat) (xs : List Wr) : List Nat := e :: (rv a b c g ++ (xs.length :: xs.flatMap WL))
theorem be_small {n : Nat} (h : n < 256) : be 1 n = [n] := by simp [be]; omega
theorem bl_txn {a b c g e : Nat} {xs : List Wr} (h : wh a b c g e xs = true) : bl (enc (sp e a b c g ++ nb xs.length 1) xs) = TL a b c g e xs := by
 obtain ⟨hS, h0, h8, _, hok⟩ := wh_true h
 have hd := okS_dc hS
 unfold TL
 rw [bl_enc, bl_append, bl_sp, bl_nb, be_small (by omega), be_small (by omega)]
 simp only [List.append_assoc, List.singleton_append, List.cons_append, List.nil_append]
theorem text_step {s : ByteArray} {b : Bool} (hz : s.size ≤ 9223372036854775807) (most : Int) (hm : 0 ≤ most) {k : Nat} (hk : 22 ≤ k) :
  ∃ t u c, pack_Reader_Text.f k s b most = some (t, u, c) ∧ u.size ≤ s.size ∧ (t.size : Int) ≤ most ∧ (c = false → b = false ∧ bl s = vary t.size ++ (bl t ++ bl u)) := by
 have z : (⟨#[]⟩ : ByteArray).size = 0 := rfl
 cases b with
 | true => exact ⟨_, _, _, ReaderText_true hz hk, by omega, by omega, fun h => absurd h (by simp)⟩
 | false =>
  obtain ⟨r, h1, h2⟩ := ReaderText_f s most hz hk
  cases h2 with
  | good t u hs ht =>
   refine ⟨_, _, _, h1, ?_, ht, fun _ => ⟨rfl, by rw [hs, List.append_assoc]⟩⟩
   have := congrArg List.length hs
   simp only [List.length_append, bl_length] at this
   omega
  | bad h => exact ⟨_, _, _, h1, by omega, by omega, fun h => absurd h (by simp)⟩
theorem num_step {s : ByteArray} {b : Bool} (hz : s.size ≤ 9223372036854775807) :
  ∃ (n : Nat) (u : ByteArray) (c : Bool), pack_Reader_Number.f s b 1 = some ((n : Int), u, c) ∧ u.size ≤ s.size ∧ n < 256 ∧ ((c = true ∧ n = 0) ∨ (c = false ∧ b = false ∧ bl s = n :: bl u)) := by
 have z : (⟨#[]⟩ : ByteArray).size = 0 := rfl
 by_cases h : b = true ∨ (s.size : Int) < 1
 ·exact ⟨0, _, _, ReaderNumber_bad (h.elim Or.inl (fun h => Or.inr (Or.inr (Or.inr h)))) hz, by omega, by omega, Or.inl ⟨rfl, rfl⟩⟩
 ·have hb : b = false := by cases b with | true => exact absurd (Or.inl rfl) h | false => rfl
  subst hb
  have hs : ¬ (s.size : Int) < 1 := fun c => h (Or.inr c)
  have e1 := ReaderNumber_good (s := s) (k := 1) (by omega) (by omega) (by omega) hz
  have hd : bl (s.extract (1 : Int).toNat s.size) = (bl s).drop 1 := bl_drop s 1
  have hzd : (s.extract (1 : Int).toNat s.size).size ≤ s.size := by simp
  obtain ⟨x, l, hl⟩ : ∃ x l, bl s = x :: l := by
   cases hx : bl s with
   | nil => exact absurd (by rw [← bl_length, hx]; decide) hs
   | cons x l => exact ⟨x, l, rfl⟩
  have lx : x < 256 := bl_lt s x (by rw [hl]; simp)
  have ex : ((bev ((bl s).take (1 : Int).toNat) : Nat) : Int) = (x : Int) := by
   rw [hl]
   show ((bev [x] : Nat) : Int) = _
   rw [bev_one]
  rw [hl] at hd
  rw [ex] at e1
  exact ⟨x, _, _, e1, hzd, lx, Or.inr ⟨rfl, rfl, by rw [hl, hd]; rfl⟩⟩
theorem num_good {s u : ByteArray} {n : Nat} (hz : s.size ≤ 9223372036854775807) (hs : bl s = n :: bl u) : pack_Reader_Number.f s false 1 = some ((n : Int), u, false) := by
 obtain ⟨m, t, c, e, _, _, h⟩ := num_step (s := s) (b := false) hz
 rcases h with ⟨rfl, _⟩ | ⟨rfl, _, h⟩
 ·exfalso
  have hl := congrArg List.length hs
  rw [bl_length, List.length_cons] at hl
  rw [ReaderNumber_good (s := s) (k := 1) (by omega) (by omega) (by omega) hz] at e
  simp at e
 ·rw [hs, List.cons.injEq] at h
  rw [e, ← h.1, bl_inj h.2]
abbrev Got := Int × Int × Int × Int × Int × List Wr × Bool
theorem iread_end (a b c g e : Int) (m : Int) (acc : List Wr) (hx : ∀ x ∈ acc, fits x) (hl : acc.length ≤ 1000) (t : ByteArray) (bad : Bool) {K : Nat} (hK : 1 ≤ K) :
  ∃ r : Got, item_Read.j1 K m false a b c g e acc t bad = some r ∧ (r.2.2.2.2.2.2 = false → r = (0, 0, 0, 0, 0, [], false)) ∧ (r.2.2.2.2.2.2 = true → bad = false ∧ t = ⟨#[]⟩ ∧ r = (a, b, c, g, e, acc, true) ∧ wh a b c g e acc = true) := by
 obtain ⟨K, rfl⟩ : ∃ q, K = q + 1 := ⟨K - 1, by omega⟩
 rw [item_Read.j1, if_neg (by simp), Done_f, Option.bind_some]
 by_cases h : (!bad && decide (t = ⟨#[]⟩)) = true
 ·rw [if_pos h, whole_f a b c g e acc hx (by omega), Option.bind_some]
  simp only [Bool.and_eq_true, Bool.not_eq_true', decide_eq_true_eq] at h
  by_cases w : wh a b c g e acc = true
  ·rw [if_pos w]
   exact ⟨_, rfl, fun h => absurd h (by simp), fun _ => ⟨h.1, h.2, rfl, w⟩⟩
  ·rw [if_neg w]
   exact ⟨_, rfl, fun _ => rfl, fun h => absurd h (by simp)⟩
 ·rw [if_neg h]
  exact ⟨_, rfl, fun _ => rfl, fun h => absurd h (by simp)⟩
theorem iread_loop (a b c g e : Int) : ∀ (m : Nat) (K : Nat) (acc : List Wr) (t : ByteArray) (bad : Bool), t.size ≤ 9223372036854775807 → m + acc.length ≤ 300 → (∀ x ∈ acc, fits x) → 2 * m + 30 ≤ K →
  ∃ r : Got, item_Read.l0 K (m : Int) a b c g e acc t bad = some r ∧ (r.2.2.2.2.2.2 = false → r = (0, 0, 0, 0, 0, [], false)) ∧ (r.2.2.2.2.2.2 = true → bad = false ∧ ∃ ys : List Wr, ys.length = m ∧ bl t = ys.flatMap WL ∧ r = (a, b, c, g, e, acc ++ ys, true) ∧ wh a b c g e (acc ++ ys) = true) := by
 intro m
 induction m with
 | zero =>
  intro K acc t bad hz hl hx hK
  obtain ⟨K, rfl⟩ : ∃ q, K = q + 1 := ⟨K - 1, by omega⟩
  obtain ⟨r, e1, k1, h1⟩ := iread_end a b c g e 0 acc hx (by omega) t bad (K := K) (by omega)
  rw [item_Read.l0, if_neg (by omega)]
  refine ⟨r, e1, k1, fun h => ?_⟩
  obtain ⟨q1, q2, q3, q4⟩ := h1 h
  exact ⟨q1, [], rfl, by rw [q2]; rfl, by rw [q3, List.append_nil], by rw [List.append_nil]; exact q4⟩
 | succ m ih =>
  intro K acc t bad hz hl hx hK
  obtain ⟨K, rfl⟩ : ∃ q, K = q + 1 + 1 := ⟨K - 2, by omega⟩
  rw [item_Read.l0, if_pos (by omega)]
  cases bad with
  | true =>
   obtain ⟨r, e1, k1, h1⟩ := iread_end a b c g e ((m + 1 : Nat) : Int) acc hx (by omega) t true (K := K + 1) (by omega)
   exact ⟨r, e1, k1, fun h => absurd (h1 h).1 (by simp)⟩
  | false =>
   obtain ⟨t0, u0, c0, e0, z0, m0, h0⟩ := text_step (s := t) (b := false) hz 16 (by omega) (k := K) (by omega)
   obtain ⟨t1, u1, c1, e1, z1, m1, h1⟩ := text_step (s := u0) (b := c0) (by omega) 16 (by omega) (k := K) (by omega)
   obtain ⟨n, u2, c2, e2, z2, n2, h2⟩ := num_step (s := u1) (b := c1) (by omega)
   have z : (⟨#[]⟩ : ByteArray).size = 0 := rfl
   have hw : IntKind.u64.wrap (((m + 1 : Nat) : Int) - 1) = (m : Int) := by rw [wrap_u64 (by omega) (by omega)]; omega
   rw [show (!false) = true from rfl, item_Read.j1, if_pos rfl, e0, Option.bind_some]
   show ∃ r : Got, ((pack_Reader_Text.f K u0 c0 16).bind _) = some r ∧ _
   rw [e1, Option.bind_some]
   show ∃ r : Got, ((pack_Reader_Number.f u1 c1 1).bind _) = some r ∧ _
   rw [e2, Option.bind_some]
   show ∃ r : Got, (if (n : Int) > 1 then _ else _) = some r ∧ _
   by_cases n1 : (n : Int) > 1
   ·rw [if_pos n1]
    exact ⟨_, rfl, fun _ => rfl, fun h => absurd h (by simp)⟩
   ·rw [if_neg n1]
    show ∃ r : Got, (if (n : Int) = 1 then _ else _) = some r ∧ _
    by_cases n0 : (n : Int) = 1
    ·obtain rfl : n = 1 := by omega
     rw [if_pos n0, if_pos (by omega), hw]
     obtain ⟨r, e3, k3, h3⟩ := ih K (acc ++ [(⟨t0, t1, ⟨#[]⟩, (((1 : Nat) : Int) == 1)⟩ : Wr)]) u2 c2 (by omega) (by simp; omega) (by
      intro x hx1
      rcases List.mem_append.1 hx1 with hx1 | hx1
      ·exact hx x hx1
      ·rw [List.mem_singleton.1 hx1]
       exact ⟨show t0.size ≤ _ by omega, show t1.size ≤ _ by omega, show (⟨#[]⟩ : ByteArray).size ≤ _ by omega⟩) (by omega)
     refine ⟨r, e3, k3, fun h => ⟨rfl, ?_⟩⟩
     obtain ⟨q1, ys, q2, q3, q4, q5⟩ := h3 h
     subst q1
     rcases h2 with ⟨h2, _⟩ | ⟨_, h2, h4⟩
     ·exact absurd h2 (by simp)
     obtain ⟨h1, h5⟩ := h1 h2
     obtain ⟨_, h6⟩ := h0 h1
     refine ⟨(⟨t0, t1, ⟨#[]⟩, true⟩ : Wr) :: ys, by simp [q2], ?_, by rw [q4, List.append_assoc]; rfl, by rw [List.append_assoc] at q5; exact q5⟩
     rw [h6, h5, h4, q3, List.flatMap_cons]
     unfold WL
     simp
    ·obtain rfl : n = 0 := by omega
     obtain ⟨t2, u3, c3, e3, z3, m3, h3⟩ := text_step (s := u2) (b := c2) (by omega) 32 (by omega) (k := K) (by omega)
     rw [if_neg n0]
     show ∃ r : Got, ((pack_Reader_Text.f K u2 c2 32).bind _) = some r ∧ _
     rw [e3, Option.bind_some, if_pos (by omega), hw]
     obtain ⟨r, e4, k4, h4⟩ := ih K (acc ++ [(⟨t0, t1, t2, (((0 : Nat) : Int) == 1)⟩ : Wr)]) u3 c3 (by omega) (by simp; omega) (by
      intro x hx1
      rcases List.mem_append.1 hx1 with hx1 | hx1
      ·exact hx x hx1
      ·rw [List.mem_singleton.1 hx1]
       exact ⟨show t0.size ≤ _ by omega, show t1.size ≤ _ by omega, show t2.size ≤ _ by omega⟩) (by omega)
     refine ⟨r, e4, k4, fun h => ⟨rfl, ?_⟩⟩
     obtain ⟨q1, ys, q2, q3, q4, q5⟩ := h4 h
     obtain ⟨h3, h7⟩ := h3 q1
     subst h3
     rcases h2 with ⟨h2, _⟩ | ⟨_, h2, h4⟩
     ·exact absurd h2 (by simp)
     obtain ⟨h1, h5⟩ := h1 h2
     obtain ⟨_, h6⟩ := h0 h1
     refine ⟨(⟨t0, t1, t2, false⟩ : Wr) :: ys, by simp [q2], ?_, by rw [q4, List.append_assoc]; rfl, by rw [List.append_assoc] at q5; exact q5⟩
     rw [h6, h5, h4, h7, q3, List.flatMap_cons]
     unfold WL
     simp
theorem iread_good (a b c g e : Int) : ∀ (ys : List Wr) (K : Nat) (acc : List Wr) (t : ByteArray), t.size ≤ 9223372036854775807 → ys.length + acc.length ≤ 300 → (∀ x ∈ acc, fits x) → (∀ y ∈ ys, fits y) → (∀ y ∈ ys, okw y = true) → 2 * ys.length + 30 ≤ K → bl t = ys.flatMap WL →
  wh a b c g e (acc ++ ys) = true → item_Read.l0 K (ys.length : Int) a b c g e acc t false = some (a, b, c, g, e, acc ++ ys, true) := by
 intro ys
 induction ys with
 | nil =>
  intro K acc t hz hl hx _ _ hK ht hw
  obtain ⟨K, rfl⟩ : ∃ q, K = q + 1 + 1 := ⟨K - 2, by omega⟩
  rw [item_Read.l0, if_neg (by simp), item_Read.j1, if_neg (by simp), Done_f, Option.bind_some]
  obtain rfl : t = ⟨#[]⟩ := bl_nil.1 ht
  rw [List.append_nil] at hw ⊢
  rw [if_pos (by simp), whole_f a b c g e acc hx (by simp at hl; omega), Option.bind_some, if_pos hw]
 | cons y ys ih =>
  intro K acc t hz hl hx hy hok hK ht hw
  obtain ⟨K, rfl⟩ : ∃ q, K = q + 1 + 1 := ⟨K - 2, by omega⟩
  rw [List.length_cons] at hl hK ⊢
  have hw' : IntKind.u64.wrap (((ys.length + 1 : Nat) : Int) - 1) = (ys.length : Int) := by rw [wrap_u64 (by omega) (by omega)]; omega
  have hs := okw_size (hok y (by simp))
  have hg := gone_nil (hok y (by simp))
  have hya := hy y (by simp)
  obtain ⟨w, hwz⟩ : ∃ w : ByteArray, bl w = ys.flatMap WL := ⟨enc ⟨#[]⟩ ys, by rw [bl_enc]; rfl⟩
  obtain ⟨y0, y1, y2, y3⟩ := y
  have hs : y0.size ≤ 16 ∧ y1.size ≤ 16 ∧ y2.size ≤ 32 := hs
  have eW : WL (⟨y0, y1, y2, y3⟩ : Wr) = vary y0.size ++ (bl y0 ++ (vary y1.size ++ (bl y1 ++ (if y3 = true then [1] else 0 :: (vary y2.size ++ bl y2))))) := rfl
  rw [List.flatMap_cons, eW] at ht
  simp only [List.append_assoc] at ht
  rw [item_Read.l0, if_pos (by omega), show (!false) = true from rfl, item_Read.j1, if_pos rfl]
  cases y3 with
  | true =>
   obtain rfl : y2 = ⟨#[]⟩ := hg rfl
   have r0 : bl (vs y1.size ++ y1 ++ ((⟨#[1]⟩ : ByteArray) ++ w)) = vary y1.size ++ (bl y1 ++ (1 :: bl w)) := by simp only [bl_append, bl_vs, List.append_assoc]; rfl
   have ht' : bl t = vary y0.size ++ bl y0 ++ bl (vs y1.size ++ y1 ++ ((⟨#[1]⟩ : ByteArray) ++ w)) := by
    rw [ht, r0, hwz, List.append_assoc]
    simp
   have hlen := congrArg List.length ht'
   simp only [List.length_append, bl_length] at hlen
   have e0 := ReaderText_good (most := 16) hz ht' (by omega) (k := K) (by omega)
   have r1 : bl ((⟨#[1]⟩ : ByteArray) ++ w) = 1 :: bl w := by rw [bl_append]; rfl
   have e1 := ReaderText_good (s := vs y1.size ++ y1 ++ ((⟨#[1]⟩ : ByteArray) ++ w)) (t := y1) (rest := (⟨#[1]⟩ : ByteArray) ++ w) (most := 16) (by omega) (by rw [r0, r1, List.append_assoc]) (by omega) (k := K) (by omega)
   have hlen2 := congrArg List.length r0
   simp only [List.length_append, bl_length, List.length_cons] at hlen2
   have hlen3 := congrArg List.length r1
   simp only [bl_length, List.length_cons] at hlen3
   have e2 := num_good (s := (⟨#[1]⟩ : ByteArray) ++ w) (u := w) (n := 1) (by omega) r1
   rw [e0, Option.bind_some]
   show (pack_Reader_Text.f K (vs y1.size ++ y1 ++ ((⟨#[1]⟩ : ByteArray) ++ w)) false 16).bind _ = _
   rw [e1, Option.bind_some]
   show (pack_Reader_Number.f ((⟨#[1]⟩ : ByteArray) ++ w) false 1).bind _ = _
   rw [e2, Option.bind_some, if_neg (by simp), if_pos (show ((1 : Nat) : Int) = 1 from rfl), if_pos (by omega), hw']
   have := ih K (acc ++ [(⟨y0, y1, ⟨#[]⟩, true⟩ : Wr)]) w (by omega) (by simp; omega) (by
    intro x hx1
    rcases List.mem_append.1 hx1 with hx1 | hx1
    ·exact hx x hx1
    ·rw [List.mem_singleton.1 hx1]; exact hya) (fun z hz => hy z (by simp [hz])) (fun z hz => hok z (by simp [hz])) (by omega) hwz (by rw [List.append_assoc]; exact hw)
   rw [List.append_assoc] at this
   exact this
  | false =>
   obtain ⟨w2, hw2⟩ : ∃ w2 : ByteArray, w2 = vs y2.size ++ y2 ++ w := ⟨_, rfl⟩
   have hb2 : bl w2 = vary y2.size ++ bl y2 ++ bl w := by rw [hw2]; simp only [bl_append, bl_vs]
   have r0 : bl (vs y1.size ++ y1 ++ ((⟨#[0]⟩ : ByteArray) ++ w2)) = vary y1.size ++ (bl y1 ++ (0 :: bl w2)) := by simp only [bl_append, bl_vs, List.append_assoc]; rfl
   have ht' : bl t = vary y0.size ++ bl y0 ++ bl (vs y1.size ++ y1 ++ ((⟨#[0]⟩ : ByteArray) ++ w2)) := by
    rw [ht, r0, hb2, hwz, List.append_assoc]
    simp
   have hlen := congrArg List.length ht'
   simp only [List.length_append, bl_length] at hlen
   have e0 := ReaderText_good (most := 16) hz ht' (by omega) (k := K) (by omega)
   have r1 : bl ((⟨#[0]⟩ : ByteArray) ++ w2) = 0 :: bl w2 := by rw [bl_append]; rfl
   have e1 := ReaderText_good (s := vs y1.size ++ y1 ++ ((⟨#[0]⟩ : ByteArray) ++ w2)) (t := y1) (rest := (⟨#[0]⟩ : ByteArray) ++ w2) (most := 16) (by omega) (by rw [r0, r1, List.append_assoc]) (by omega) (k := K) (by omega)
   have hlen2 := congrArg List.length r0
   simp only [List.length_append, bl_length, List.length_cons] at hlen2
   have hlen3 := congrArg List.length r1
   simp only [bl_length, List.length_cons] at hlen3
   have hlen4 := congrArg List.length hb2
   simp only [List.length_append, bl_length] at hlen4
   have e2 := num_good (s := (⟨#[0]⟩ : ByteArray) ++ w2) (u := w2) (n := 0) (by omega) r1
   have e3 := ReaderText_good (s := w2) (t := y2) (rest := w) (most := 32) (by omega) hb2 (by omega) (k := K) (by omega)
   rw [e0, Option.bind_some]
   show (pack_Reader_Text.f K (vs y1.size ++ y1 ++ ((⟨#[0]⟩ : ByteArray) ++ w2)) false 16).bind _ = _
   rw [e1, Option.bind_some]
   show (pack_Reader_Number.f ((⟨#[0]⟩ : ByteArray) ++ w2) false 1).bind _ = _
   rw [e2, Option.bind_some, if_neg (by simp), if_neg (by simp)]
   show (pack_Reader_Text.f K w2 false 32).bind _ = _
   rw [e3, Option.bind_some, if_pos (by omega), hw']
   have := ih K (acc ++ [(⟨y0, y1, y2, false⟩ : Wr)]) w (by omega) (by simp; omega) (by
    intro x hx1
    rcases List.mem_append.1 hx1 with hx1 | hx1
    ·exact hx x hx1
    ·rw [List.mem_singleton.1 hx1]; exact hya) (fun z hz => hy z (by simp [hz])) (fun z hz => hok z (by simp [hz])) (by omega) hwz (by rw [List.append_assoc]; exact hw)
   rw [List.append_assoc] at this
   exact this
theorem iread_any {s : ByteArray} (hz : s.size ≤ 9223372036854775807) {k : Nat} (hk : 600 ≤ k) :
  ∃ r : Got, item_Read.f k s = some r ∧ (r.2.2.2.2.2.2 = false → r = (0, 0, 0, 0, 0, [], false)) ∧ (r.2.2.2.2.2.2 = true → ∃ (a b c g e : Nat) (xs : List Wr), wh a b c g e xs = true ∧ bl s = TL a b c g e xs ∧ r = ((a : Int), (b : Int), (c : Int), (g : Int), (e : Int), xs, true)) := by
 obtain ⟨v0, v1, v2, v3, v4, t, c, e1, z1, h1, _⟩ := sget_step (s := s) (b := false) hz (k := k) (by omega)
 obtain ⟨n, u, d, e2, z2, n2, h2⟩ := num_step (s := t) (b := c) (by omega)
 obtain ⟨r, e3, k3, h3⟩ := iread_loop v0 v1 v2 v3 v4 n k [] u d (by omega) (by simp; omega) (by simp) (by omega)
 unfold item_Read.f
 rw [e1, Option.bind_some]
 show ∃ r : Got, (pack_Reader_Number.f t c 1).bind _ = some r ∧ _
 rw [e2, Option.bind_some]
 refine ⟨r, e3, k3, fun h => ?_⟩
 obtain ⟨q1, ys, q2, q3, q4, q5⟩ := h3 h
 subst q1
 rcases h2 with ⟨h2, _⟩ | ⟨_, h2, h4⟩
 ·exact absurd h2 (by simp)
 rw [List.nil_append] at q4 q5
 obtain ⟨_, n0, n1, n3, n4, dc, _, h5, g0, g1, g2, g3, g4⟩ := h1 h2
 subst g0 g1 g2 g3 g4
 refine ⟨n0, n1, n3, n4, dc, ys, q5, ?_, q4⟩
 rw [h5, h4, q3, ← q2]
 rfl
theorem iread_txn {a b c g e : Nat} {xs : List Wr} {s : ByteArray} (h : wh a b c g e xs = true) (hx : ∀ x ∈ xs, fits x) (hs : bl s = TL a b c g e xs) (hz : s.size ≤ 9223372036854775807) {k : Nat} (hk : 600 ≤ k) :
  item_Read.f k s = some ((a : Int), (b : Int), (c : Int), (g : Int), (e : Int), xs, true) := by
 obtain ⟨hS, h0, h8, _, hok⟩ := wh_true h
 have hd := okS_dc hS
 obtain ⟨u, hu⟩ : ∃ u : ByteArray, bl u = xs.flatMap WL := ⟨enc ⟨#[]⟩ xs, by rw [bl_enc]; rfl⟩
 have hnu : bl (nb xs.length 1 ++ u) = xs.length :: bl u := by rw [bl_append, bl_nb, be_small (by omega)]; rfl
 have hs' : bl s = be 1 e ++ rv a b c g ++ bl (nb xs.length 1 ++ u) := by
  rw [hs, hnu, hu, be_small (by omega)]
  unfold TL
  simp
 have hlen := congrArg List.length hs'
 simp only [List.length_append, bl_length] at hlen
 have hlen2 := congrArg List.length hnu
 simp only [bl_length, List.length_cons] at hlen2
 have e1 := sget_good (s := s) (rest := nb xs.length 1 ++ u) hz hs' hS (k := k) (by omega)
 have e2 := num_good (s := nb xs.length 1 ++ u) (u := u) (n := xs.length) (by omega) hnu
 have e3 := iread_good a b c g e xs k [] u (by omega) (by simp; omega) (by simp) hx hok (by omega) hu (by rw [List.nil_append]; exact h)
 unfold item_Read.f
 rw [e1, Option.bind_some]
 show (pack_Reader_Number.f (nb xs.length 1 ++ u) false 1).bind _ = _
 rw [e2, Option.bind_some]
 exact e3
theorem WL_size {x : Wr} (h : okw x = true) : (WL x).length ≤ 100 := by
 rw [← bl_wb, bl_length]
 exact wb_size h
theorem WLs_size : ∀ xs : List Wr, (∀ x ∈ xs, okw x = true) → (xs.flatMap WL).length ≤ 100 * xs.length
 | [], _ => by simp
 | x :: xs, h => by
  have := WLs_size xs (fun y hy => h y (by simp [hy]))
  have := WL_size (h x (by simp))
  rw [List.flatMap_cons, List.length_append, List.length_cons]
  omega
theorem txn_size {a b c g e : Nat} {xs : List Wr} {s : ByteArray} (h : wh a b c g e xs = true) (hs : bl s = TL a b c g e xs) : s.size ≤ 100000 ∧ 1 ≤ s.size := by
 obtain ⟨hS, h0, h8, _, hok⟩ := wh_true h
 have hb := hS.1
 have hv := WLs_size xs hok
 have := (vv_size (a := a) (b := b) (c := c) (d := g) (by omega) (by omega) (by omega) (by omega)).1
 rw [← bl_length, bl_vv] at this
 rw [← bl_length, hs]
 unfold TL
 simp only [List.length_cons, List.length_append]
 omega
end Go.Proofs.Ytoogchgoiciggaa.Pure
