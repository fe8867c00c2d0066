import Derived.Test.YtoogchgoiciggaaGItemSame0
import Derived.Test.YtoogchgoiciggaaGItemSame6
import Derived.Test.YtoogchgoiciggaaGItemSame5
import Derived.Test.YtoogchgoiciggaaGItemSame9
import Derived.Test.YtoogchgoiciggaaGItemSame2
import Derived.Test.YtoogchgoiciggaaGItemSame3
set_option linter.unusedVariables false
set_option linter.unusedSimpArgs false
namespace Go.Proofs.Ytoogchgoiciggaa.Pure
open Go.RowKit Go.Proofs.Ytoogchgoiciggaa.Q Go.Proofs.YtoogchgoiciggaaW.PrintWords Go.Proofs.YtoogchgoiciggaaW.PrintLast Go.Proofs.YtoogchgoiciggaaW.PrintMore Go.Proofs.Ytoogchgoiciggaa.Plain
abbrev Wr := S23
abbrev Pt := S25
def fits (x : Wr) : Prop := x.f0.size ≤ 140737488351232 ∧ x.f1.size ≤ 140737488351232 ∧ x.f2.size ≤ 140737488351232
theorem str_size (l : List Int) : (strOfNums l).size = l.length := by
 unfold strOfNums
 simp [ByteArray.size]
def wrt (p : Pt) (own : Bool) : Wr :=
 if own = true then (if 224 ≤ p.f2 then ⟨strOfNums [98, IntKind.u8.wrap (48 + Int.tmod p.f2 2)], strOfNums [IntKind.u8.wrap (97 + Int.tmod (IntKind.u8.wrap (Int.tdiv p.f2 2)) 4)], ⟨#[]⟩, true⟩
  else ⟨strOfNums [98, IntKind.u8.wrap (48 + Int.tmod p.f2 2)], strOfNums [IntKind.u8.wrap (97 + Int.tmod (IntKind.u8.wrap (Int.tdiv p.f2 2)) 4)], p.f0.f2.extract 0 (min p.f0.f2.size 8), false⟩)
 else p.f0
theorem wrt_f (p : Pt) (own : Bool) (h : fits p.f0) : tenementlaw08_Put_write.f p.f0.f0 p.f0.f1 p.f0.f2 p.f0.f3 own p.f2 = some ((wrt p own).f0, (wrt p own).f1, (wrt p own).f2, (wrt p own).f3) := by
 unfold tenementlaw08_Put_write.f wrt
 cases own with
 | true =>
  rw [if_pos rfl, if_pos rfl, if_pos (by have := h.2.2; omega)]
  by_cases c : 224 ≤ p.f2
  ·rw [if_pos c, if_pos c]
  ·rw [if_neg c, if_neg c]
 | false => rw [if_neg (by simp), if_neg (by simp)]
theorem wrt_fits (p : Pt) (own : Bool) (h : fits p.f0) : fits (wrt p own) := by
 unfold wrt
 cases own with
 | true =>
  rw [if_pos rfl]
  have z : (⟨#[]⟩ : ByteArray).size = 0 := rfl
  by_cases c : 224 ≤ p.f2
  ·rw [if_pos c]
   refine ⟨?_, ?_, ?_⟩
   ·show (strOfNums _).size ≤ _; rw [str_size]; simp
   ·show (strOfNums _).size ≤ _; rw [str_size]; simp
   ·show (⟨#[]⟩ : ByteArray).size ≤ _; omega
  ·rw [if_neg c]
   refine ⟨?_, ?_, ?_⟩
   ·show (strOfNums _).size ≤ _; rw [str_size]; simp
   ·show (strOfNums _).size ≤ _; rw [str_size]; simp
   ·show (ByteArray.extract _ _ _).size ≤ _; rw [ByteArray.size_extract]; omega
 | false => rw [if_neg (by simp)]; exact h
def same (w y : Wr) : Bool := decide (y.f0 = w.f0) && decide (y.f1 = w.f1)
def wrs (most : Nat) (whole : Bool) : List Pt → List Wr → List Wr
 | [], out => out
 | p :: ps, out => if out.length < most then (if (whole && out.any (same (wrt p (whole || p.f1)))) = true then wrs most whole ps out else wrs most whole ps (out ++ [wrt p (whole || p.f1)])) else out
theorem wrs_len (most : Nat) (whole : Bool) : ∀ l out, out.length ≤ most → (wrs most whole l out).length ≤ most
 | [], out, h => h
 | p :: ps, out, h => by
  unfold wrs
  by_cases c : out.length < most
  ·rw [if_pos c]
   split
   ·exact wrs_len most whole ps out h
   ·exact wrs_len most whole ps _ (by simp; omega)
  ·rw [if_neg c]; exact h
theorem wrs_all (most : Nat) (whole : Bool) (Q : Wr → Prop) : ∀ l out, (∀ p ∈ l, Q (wrt p (whole || p.f1))) → (∀ x ∈ out, Q x) → ∀ x ∈ wrs most whole l out, Q x
 | [], out, _, h => h
 | p :: ps, out, hl, h => by
  unfold wrs
  have hl' : ∀ q ∈ ps, Q (wrt q (whole || q.f1)) := fun q hq => hl q (by simp [hq])
  split
  ·split
   ·exact wrs_all most whole Q ps out hl' h
   ·refine wrs_all most whole Q ps _ hl' (fun x hx => ?_)
    rcases List.mem_append.1 hx with hx | hx
    ·exact h x hx
    ·rw [List.mem_singleton.1 hx]; exact hl p (by simp)
  ·exact h
theorem idx (i : Nat) (h : i ≤ 4611686018427387904) : wrap64 ((i : Int) + 1) = ((i + 1 : Nat) : Int) := by
 rw [wrap64_id (by omega) (by omega)]
 omega
theorem rdW (l : List Wr) (j : Nat) (h : j < l.length) : rd_T23 l (j : Int) = l[j] := by
 unfold rd_T23
 rw [Int.toNat_natCast, List.getD_eq_getElem?_getD, List.getElem?_eq_getElem h]
 rfl
theorem rdP (l : List Pt) (j : Nat) (h : j < l.length) : rd_T25 l (j : Int) = l[j] := by
 unfold rd_T25
 rw [Int.toNat_natCast, List.getD_eq_getElem?_getD, List.getElem?_eq_getElem h]
 rfl
theorem wr_l1 (l : List Pt) (most : Int) (whole : Bool) (out : List Wr) (i : Int) (w : Wr) (h7 : out.length ≤ 1000) (K : Nat) : ∀ d j fl, j + d = out.length →
  tenementlaw08_writes.l1 (K + d + 1) l most whole out i fl (j : Int) w.f0 w.f1 w.f2 w.f3 =
   if (whole && (fl || (out.drop j).any (same w))) = true then tenementlaw08_writes.l0 K l most whole out (wrap64 (i + 1)) else tenementlaw08_writes.l0 K l most whole (out ++ [w]) (wrap64 (i + 1)) := by
 intro d
 induction d with
 | zero =>
  intro j fl hj
  have e : out.drop j = [] := List.drop_eq_nil_of_le (by omega)
  rw [Nat.add_zero, tenementlaw08_writes.l1, if_neg (by omega), e, List.any_nil, Bool.or_false]
  cases whole with
  | true =>
   rw [if_pos rfl]
   cases fl with
   | true => rw [if_pos rfl, if_pos (by rfl)]
   | false => rw [if_neg (by simp), if_pos (by omega), if_neg (by simp)]
  | false => rw [if_neg (by simp), if_pos (by omega), if_neg (by simp)]
 | succ d ih =>
  intro j fl hj
  have hlt : j < out.length := by omega
  have e : out.drop j = out[j] :: out.drop (j + 1) := List.drop_eq_getElem_cons hlt
  rw [show K + (d + 1) + 1 = (K + d + 1) + 1 by omega, tenementlaw08_writes.l1, if_pos (by omega), idx j (by omega), e, List.any_cons]
  cases fl with
  | true =>
   rw [if_pos rfl, ih (j + 1) true (by omega)]
   simp only [Bool.true_or]
  | false =>
   rw [if_neg (by simp), if_pos (by omega), rdW out j hlt, Bool.false_or]
   by_cases c : (out[j].f0).toList = w.f0.toList
   ·rw [if_pos c, ih (j + 1) _ (by omega)]
    have c0 := toList_iff.1 c
    have hs : ((out[j].f1).toList == w.f1.toList) = same w out[j] := by
     unfold same
     rw [decide_eq_true c0, Bool.true_and]
     by_cases c1 : out[j].f1 = w.f1
     ·rw [decide_eq_true c1, c1]; simp
     ·rw [decide_eq_false c1]
      exact beq_eq_false_iff_ne.2 (fun h => c1 (toList_iff.1 h))
    rw [hs]
   ·rw [if_neg c, ih (j + 1) _ (by omega)]
    have hs : same w out[j] = false := by
     unfold same
     rw [decide_eq_false (fun h => c (by rw [h])), Bool.false_and]
    rw [hs, Bool.false_or]
theorem wr_l0 (l : List Pt) (most : Nat) (hm : most ≤ 100) (whole : Bool) (hl : ∀ p ∈ l, fits p.f0) (hz : l.length ≤ 4611686018427387904) : ∀ d i (out : List Wr) K, i + d = l.length → out.length ≤ most → (d + 1) * (most + 5) ≤ K →
  tenementlaw08_writes.l0 K l (most : Int) whole out (i : Int) = some (wrs most whole (l.drop i) out) := by
 intro d
 induction d with
 | zero =>
  intro i out K hi ho hK
  obtain ⟨K, rfl⟩ : ∃ m, K = m + 2 := ⟨K - 2, by omega⟩
  have e : l.drop i = [] := List.drop_eq_nil_of_le (by omega)
  rw [tenementlaw08_writes.l0, if_neg (by omega), tenementlaw08_writes.j1, if_neg (by simp), e]
  rfl
 | succ d ih =>
  intro i out K hi ho hK
  have hlt : i < l.length := by omega
  have e : l.drop i = l[i] :: l.drop (i + 1) := List.drop_eq_getElem_cons hlt
  have hK' : (d + 1) * (most + 5) + (most + 5) ≤ K := by
   rw [show (d + 1 + 1) * (most + 5) = (d + 1) * (most + 5) + (most + 5) by rw [Nat.add_mul, Nat.one_mul]] at hK
   exact hK
  have hf : fits l[i].f0 := hl _ (List.getElem_mem _)
  rw [e]
  unfold wrs
  by_cases c : out.length < most
  ·rw [if_pos c]
   obtain ⟨m, hm'⟩ : ∃ m, K = (m + out.length + 1) + 3 ∧ (d + 1) * (most + 5) ≤ m := ⟨K - out.length - 4, by omega, by omega⟩
   rw [hm'.1, tenementlaw08_writes.l0, if_pos (by omega), decide_eq_true (by omega : (out.length : Int) < (most : Int)), tenementlaw08_writes.j1, if_pos rfl, if_pos (by omega), if_pos (by omega), rdP l i hlt]
   have key : ∀ own : Bool, own = (whole || l[i].f1) → tenementlaw08_writes.j2 (m + out.length + 1 + 1) l (most : Int) whole out (i : Int) l[i].f0.f0 l[i].f0.f1 l[i].f0.f2 l[i].f0.f3 own l[i].f2 =
     some (if (whole && out.any (same (wrt l[i] (whole || l[i].f1)))) = true then wrs most whole (l.drop (i + 1)) out else wrs most whole (l.drop (i + 1)) (out ++ [wrt l[i] (whole || l[i].f1)])) := by
    intro own ho'
    rw [tenementlaw08_writes.j2, wrt_f _ _ hf, Option.bind_some]
    show tenementlaw08_writes.l1 (m + out.length + 1) l (most : Int) whole out (i : Int) false 0 (wrt l[i] own).f0 (wrt l[i] own).f1 (wrt l[i] own).f2 (wrt l[i] own).f3 = _
    have h1 := wr_l1 l (most : Int) whole out (i : Int) (wrt l[i] own) (by omega) m out.length 0 false (by omega)
    rw [show ((0 : Nat) : Int) = 0 from rfl] at h1
    rw [h1, List.drop_zero, Bool.false_or, idx i (by omega), ho']
    split
    ·rw [ih (i + 1) out m (by omega) ho hm'.2]
    ·rw [ih (i + 1) _ m (by omega) (by simp; omega) hm'.2]
   cases whole with
   | true =>
    rw [if_pos rfl, key true rfl]
   | false =>
    rw [if_neg (by simp), key _ (by simp)]
  ·rw [if_neg c]
   obtain ⟨m, rfl⟩ : ∃ m, K = m + 2 := ⟨K - 2, by omega⟩
   rw [tenementlaw08_writes.l0, if_pos (by omega), decide_eq_false (by omega : ¬ (out.length : Int) < (most : Int)), tenementlaw08_writes.j1, if_neg (by simp)]
theorem writes_f (l : List Pt) (most : Nat) (hm : most ≤ 100) (whole : Bool) (hl : ∀ p ∈ l, fits p.f0) (hz : l.length ≤ 4611686018427387904) {K : Nat} (hK : (l.length + 1) * (most + 5) ≤ K) :
  tenementlaw08_writes.f K l (most : Int) whole = some (wrs most whole l []) := by
 unfold tenementlaw08_writes.f
 have := wr_l0 l most hm whole hl hz l.length 0 [] K (by omega) (by simp) hK
 rw [show ((0 : Nat) : Int) = 0 from rfl, List.drop_zero] at this
 exact this
def okW (b k v : ByteArray) (g : Bool) : Prop := (1 ≤ b.size ∧ b.size ≤ 16) ∧ (1 ≤ k.size ∧ k.size ≤ 16) ∧ v.size ≤ 32 ∧ (g = true → v.size = 0)
instance (b k v : ByteArray) (g : Bool) : Decidable (okW b k v g) := by unfold okW; infer_instance
instance (a b c d e : Int) : Decidable (okS a b c d e) := by unfold okS; infer_instance
def okw (x : Wr) : Bool := decide (okW x.f0 x.f1 x.f2 x.f3)
def at1 (x y : Wr) : Bool := decide (x.f0.data.toList = y.f0.data.toList ∧ x.f1.data.toList = y.f1.data.toList)
def wh (a b c d e : Int) (xs : List Wr) : Bool := decide (okS a b c d e) && decide (0 < xs.length) && decide (xs.length ≤ 8) && item_Whole.apart xs && xs.all okw
def wb (x : Wr) : ByteArray := vs x.f0.size ++ x.f0 ++ (vs x.f1.size ++ x.f1) ++ (if x.f3 = true then (⟨#[1]⟩ : ByteArray) else (⟨#[0]⟩ : ByteArray) ++ (vs x.f2.size ++ x.f2))
def enc (o : ByteArray) (xs : List Wr) : ByteArray := xs.foldl (fun o x => o ++ wb x) o
theorem n1 : pack_Number.f 1 1 = some (⟨#[1]⟩ : ByteArray) := Number_f 1 1 (by omega) (by omega)
theorem n0 : pack_Number.f 0 1 = some (⟨#[0]⟩ : ByteArray) := Number_f 0 1 (by omega) (by omega)
theorem z1 : (⟨#[1]⟩ : ByteArray).size = 1 := rfl
theorem z0 : (⟨#[0]⟩ : ByteArray).size = 1 := rfl
theorem wh_true {a b c d e : Int} {xs : List Wr} (h : wh a b c d e xs = true) : okS a b c d e ∧ 0 < xs.length ∧ xs.length ≤ 8 ∧ item_Whole.apart xs = true ∧ ∀ x ∈ xs, okw x = true := by
 unfold wh at h
 simp only [Bool.and_eq_true, decide_eq_true_eq, List.all_eq_true] at h
 exact ⟨h.1.1.1.1, h.1.1.1.2, h.1.1.2, h.1.2, h.2⟩
def weq (x y : Wr) : Bool := (x.f0.toList == y.f0.toList) && ((x.f1.toList == y.f1.toList) && ((x.f2.toList == y.f2.toList) && (x.f3 == y.f3)))
def eqb : List Wr → List Wr → Bool
 | x :: xs, y :: ys => weq x y && eqb xs ys
 | _, _ => true
theorem neq_eq (p q r s : Bool) : ((!p) || ((!q) || ((!r) || (!s)))) = !(p && (q && (r && s))) := by cases p <;> cases q <;> cases r <;> cases s <;> rfl
theorem same_l0 (xs ys : List Wr) (hl : xs.length = ys.length) (hz : xs.length ≤ 1000) (K : Nat) : ∀ m i, i + m = xs.length → item_Write_47.l0 (K + m + 1) xs ys (xs.length : Int) (i : Int) = some (eqb (xs.drop i) (ys.drop i)) := by
 intro m
 induction m with
 | zero =>
  intro i hi
  rw [Nat.add_zero, item_Write_47.l0, if_neg (by omega), List.drop_eq_nil_of_le (by omega)]
  rfl
 | succ m ih =>
  intro i hi
  have h1 : i < xs.length := by omega
  have h2 : i < ys.length := by omega
  have e1 : xs.drop i = xs[i] :: xs.drop (i + 1) := List.drop_eq_getElem_cons h1
  have e2 : ys.drop i = ys[i] :: ys.drop (i + 1) := List.drop_eq_getElem_cons h2
  rw [show K + (m + 1) + 1 = (K + m + 1) + 1 by omega, item_Write_47.l0, if_pos (by omega), if_pos (by omega), if_pos (by omega), if_pos (by omega), rdW xs i h1, rdW ys i h2, neq_eq, e1, e2]
  show (if (!weq xs[i] ys[i]) = true then _ else _) = some (weq xs[i] ys[i] && _)
  cases weq xs[i] ys[i] with
  | true => rw [if_neg (by simp), idx i (by omega), ih (i + 1) (by omega)]; rfl
  | false => rw [if_pos (show (!false) = true from rfl)]; rfl
def sameT (a b c d e : Int) (xs : List Wr) (a' b' c' d' e' : Int) (ys : List Wr) : Bool := ((a == a' && (b == b' && (c == c' && (d == d')))) && (e == e')) && decide (xs.length = ys.length) && eqb xs ys
theorem same_f (a b c d e : Int) (xs : List Wr) (a' b' c' d' e' : Int) (ys : List Wr) (hz : xs.length ≤ 1000) {k : Nat} (hk : xs.length + 1 ≤ k) : item_Same.f k a b c d e xs a' b' c' d' e' ys = some (sameT a b c d e xs a' b' c' d' e' ys) := by
 unfold item_Same.f sameT
 cases ((a == a' && (b == b' && (c == c' && (d == d')))) && (e == e')) with
 | false => rw [if_neg (by simp)]; rfl
 | true =>
  rw [if_pos rfl, Bool.true_and]
  unfold item_Write_47.f
  by_cases hl : xs.length = ys.length
  ·obtain ⟨K, rfl⟩ : ∃ m, k = m + xs.length + 1 := ⟨k - xs.length - 1, by omega⟩
   have h := same_l0 xs ys hl hz K xs.length 0 (by omega)
   rw [show ((0 : Nat) : Int) = 0 from rfl, List.drop_zero, List.drop_zero] at h
   rw [if_pos (by omega), h, Option.bind_some, decide_eq_true hl, Bool.true_and]
  ·rw [if_neg (by omega), Option.bind_some, decide_eq_false hl]; rfl
theorem apart_cons (x : Wr) (xs : List Wr) : item_Whole.apart (x :: xs) = (xs.all (fun y => !at1 x y) && item_Whole.apart xs) := rfl
theorem apart_snoc (w : Wr) : ∀ xs : List Wr, item_Whole.apart (xs ++ [w]) = (item_Whole.apart xs && xs.all (fun y => !at1 y w))
 | [] => rfl
 | x :: xs => by
  rw [List.cons_append, apart_cons, apart_snoc w xs, apart_cons, List.all_append, List.all_cons, List.all_cons, List.all_nil, Bool.and_true]
  generalize (xs.all fun y => !at1 x y) = A
  generalize (xs.all fun y => !at1 y w) = B
  generalize item_Whole.apart xs = C
  generalize (!at1 x w) = D
  cases A <;> cases B <;> cases C <;> cases D <;> rfl
theorem same_at1 (w y : Wr) (h : at1 y w = true) : same w y = true := by
 unfold at1 at h
 unfold same
 have h := of_decide_eq_true h
 have e0 : y.f0 = w.f0 := bl_inj (by unfold bl; rw [h.1])
 have e1 : y.f1 = w.f1 := bl_inj (by unfold bl; rw [h.2])
 rw [decide_eq_true e0, decide_eq_true e1]
 rfl
theorem apart_wrs : ∀ l out, item_Whole.apart out = true → item_Whole.apart (wrs 8 true l out) = true
 | [], out, h => h
 | p :: ps, out, h => by
  unfold wrs
  split
  ·split
   ·exact apart_wrs ps out h
   ·rename_i c
    refine apart_wrs ps _ ?_
    rw [apart_snoc, h, Bool.true_and, List.all_eq_true]
    intro y hy
    cases e : at1 y (wrt p (true || p.f1)) with
    | false => rfl
    | true =>
     exfalso
     apply c
     rw [Bool.true_and, List.any_eq_true]
     exact ⟨y, hy, same_at1 _ _ e⟩
  ·exact h
theorem wrt_okw (p : Pt) : okw (wrt p true) = true := by
 unfold wrt
 rw [if_pos rfl]
 have z : (⟨#[]⟩ : ByteArray).size = 0 := rfl
 by_cases c : 224 ≤ p.f2
 ·rw [if_pos c]
  refine decide_eq_true ⟨⟨?_, ?_⟩, ⟨?_, ?_⟩, ?_, fun _ => rfl⟩
  ·show 1 ≤ (strOfNums _).size; rw [str_size]; simp
  ·show (strOfNums _).size ≤ _; rw [str_size]; simp
  ·show 1 ≤ (strOfNums _).size; rw [str_size]; simp
  ·show (strOfNums _).size ≤ _; rw [str_size]; simp
  ·show (⟨#[]⟩ : ByteArray).size ≤ _; omega
 ·rw [if_neg c]
  refine decide_eq_true ⟨⟨?_, ?_⟩, ⟨?_, ?_⟩, ?_, fun h => absurd h (by simp)⟩
  ·show 1 ≤ (strOfNums _).size; rw [str_size]; simp
  ·show (strOfNums _).size ≤ _; rw [str_size]; simp
  ·show 1 ≤ (strOfNums _).size; rw [str_size]; simp
  ·show (strOfNums _).size ≤ _; rw [str_size]; simp
  ·show (ByteArray.extract _ _ _).size ≤ _; rw [ByteArray.size_extract]; omega
theorem deal_own4 (v0 v1 v2 v3 d : Int) (h0 : (Lit.int .u64 v0).wf = true) (h1 : (Lit.int .u64 v1).wf = true) (h2 : (Lit.int .u64 v2).wf = true) (o : Bool) (l : List Pt) (hl : ∀ p ∈ l, fits p.f0) (hz : l.length ≤ 4611686018427387904) {K : Nat} (hK : (l.length + 1) * 15 + 10 ≤ K) :
  ∃ (a b c g e : Nat) (xs : List Wr), tenementlaw08_Deal_deal.f K v0 v1 v2 v3 d o l true = some ((a : Int), (b : Int), (c : Int), (g : Int), (e : Int), xs) ∧ wh a b c g e xs = true ∧ (∀ x ∈ xs, fits x) ∧ xs.length ≤ 8 ∧ a ≤ 4 ∧ b ≤ 4 ∧ c ≤ 4 ∧ g ≤ 4 := by
 unfold tenementlaw08_Deal_deal.f
 obtain ⟨n0, n1, n2, n3, dc, em, hn4, _, _, hS⟩ := mark_own (v3 := v3) (d := d) h0 h1 h2 (k := K) (by omega)
 have ew := writes_f l 8 (by omega) true hl hz (K := K) (by omega)
 have hln := wrs_len 8 true l [] (by simp)
 have hap := apart_wrs l [] rfl
 have hok := wrs_all 8 true (fun x => okw x = true) l [] (fun p _ => wrt_okw p) (by simp)
 rw [show ((8 : Nat) : Int) = 8 from rfl] at ew
 rw [if_pos rfl, em, Option.bind_some, ew, Option.bind_some]
 by_cases c : ((wrs 8 true l []).length : Int) = 0
 ·rw [if_pos c]
  have z2 : (⟨#[98, 48]⟩ : ByteArray).size = 2 := rfl
  have z1 : (⟨#[97]⟩ : ByteArray).size = 1 := rfl
  have z3 : (⟨#[118]⟩ : ByteArray).size = 1 := rfl
  refine ⟨n0, n1, n2, n3, dc, _, rfl, ?_, ?_, by simp, hn4⟩
  ·unfold wh
   rw [decide_eq_true hS]
   have : okw (⟨(⟨#[98, 48]⟩ : ByteArray), (⟨#[97]⟩ : ByteArray), (⟨#[118]⟩ : ByteArray), false⟩ : Wr) = true := by
    refine decide_eq_true ⟨⟨?_, ?_⟩, ⟨?_, ?_⟩, ?_, fun h => absurd h (by simp)⟩
    ·show 1 ≤ (⟨#[98, 48]⟩ : ByteArray).size; omega
    ·show (⟨#[98, 48]⟩ : ByteArray).size ≤ _; omega
    ·show 1 ≤ (⟨#[97]⟩ : ByteArray).size; omega
    ·show (⟨#[97]⟩ : ByteArray).size ≤ _; omega
    ·show (⟨#[118]⟩ : ByteArray).size ≤ _; omega
   rw [List.all_cons, this, List.all_nil]
   rfl
  ·intro x hx1
   rw [List.mem_singleton.1 hx1]
   exact ⟨show (⟨#[98, 48]⟩ : ByteArray).size ≤ _ by omega, show (⟨#[97]⟩ : ByteArray).size ≤ _ by omega, show (⟨#[118]⟩ : ByteArray).size ≤ _ by omega⟩
 ·rw [if_neg c]
  refine ⟨n0, n1, n2, n3, dc, _, rfl, ?_, wrs_all 8 true fits l [] (fun p hp => wrt_fits p _ (hl p hp)) (by simp), hln, hn4⟩
  unfold wh
  rw [decide_eq_true hS, decide_eq_true (by omega), decide_eq_true hln, hap, List.all_eq_true.2 hok]
  rfl
theorem deal_own (v0 v1 v2 v3 d : Int) (h0 : (Lit.int .u64 v0).wf = true) (h1 : (Lit.int .u64 v1).wf = true) (h2 : (Lit.int .u64 v2).wf = true) (o : Bool) (l : List Pt) (hl : ∀ p ∈ l, fits p.f0) (hz : l.length ≤ 4611686018427387904) {K : Nat} (hK : (l.length + 1) * 15 + 10 ≤ K) :
  ∃ (a b c g e : Nat) (xs : List Wr), tenementlaw08_Deal_deal.f K v0 v1 v2 v3 d o l true = some ((a : Int), (b : Int), (c : Int), (g : Int), (e : Int), xs) ∧ wh a b c g e xs = true ∧ ∀ x ∈ xs, fits x := by
 obtain ⟨a, b, c, g, e, xs, h, hw, hf, _⟩ := deal_own4 v0 v1 v2 v3 d h0 h1 h2 o l hl hz hK
 exact ⟨a, b, c, g, e, xs, h, hw, hf⟩
end Go.Proofs.Ytoogchgoiciggaa.Pure
