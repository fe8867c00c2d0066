import Derived.Test.YtoagfdpgnfinhaaGStreamTells14
import Derived.Test.YtoagfdpgnfinhaaGStreamTells8
import Derived.Test.YtoagfdpgnfinhaaGStreamTells2
import Derived.Test.YtoagfdpgnfinhaaGStreamTells3
import Derived.Test.YtoagfdpgnfinhaaGStreamTells7
import Derived.Test.YtoagfdpgnfinhaaGStreamTells9
import Derived.Test.YtoagfdpgnfinhaaGStreamTells6
set_option linter.unusedVariables false
set_option linter.unusedSimpArgs false
namespace Go.Proofs.Ytoagfdpgnfinhaa.Pure
open Go.RowKit Go.Proofs.Ytoagfdpgnfinhaa.Q Go.Proofs.YtoagfdpgnfinhaaW.PrintWords Go.Proofs.YtoagfdpgnfinhaaW.PrintLast Go.Proofs.YtoagfdpgnfinhaaW.PrintMore Go.Proofs.Ytoagfdpgnfinhaa.Plain
theorem toList_nil {s : ByteArray} : s.toList = ([] : List UInt8) ↔ s.size = 0 := by
 rw [toList_data, ← bl_length, List.length_eq_zero_iff]
 unfold bl
 rw [List.map_eq_nil_iff]
def okW (b k v : ByteArray) (g : Bool) : Prop := (1 ≤ b.size ∧ b.size ≤ 16) ∧ (1 ≤ k.size ∧ k.size ≤ 16) ∧ v.size ≤ 32 ∧ (g = true → v.size = 0)
instance (b k v : ByteArray) (g : Bool) : Decidable (okW b k v g) := by unfold okW; infer_instance
instance (a b c d e : Int) : Decidable (okS a b c d e) := by unfold okS; infer_instance
theorem named_f (s : ByteArray) : item_named.f s = some (decide (1 ≤ s.size ∧ s.size ≤ 16)) := by
 unfold item_named.f
 by_cases c : s.toList = ([] : List UInt8)
 ·rw [if_pos c, decide_eq_false (by have := toList_nil.1 c; omega)]
 ·rw [if_neg c]
  have h : s.size ≠ 0 := fun h => c (toList_nil.2 h)
  congr 1
  rw [decide_eq_decide]
  omega
theorem iright_f (b k v : ByteArray) (g : Bool) : item_Right.f b k v g = some (decide (okW b k v g)) := by
 unfold item_Right.f
 rw [named_f, Option.bind_some]
 by_cases c1 : 1 ≤ b.size ∧ b.size ≤ 16
 ·rw [if_pos (decide_eq_true c1), named_f, Option.bind_some]
  by_cases c2 : 1 ≤ k.size ∧ k.size ≤ 16
  ·rw [if_pos (decide_eq_true c2)]
   by_cases c3 : v.size ≤ 32
   ·rw [if_pos (by omega)]
    by_cases c4 : v.toList = ([] : List UInt8)
    ·rw [if_pos c4, decide_eq_true (p := okW b k v g) ⟨c1, c2, c3, fun _ => toList_nil.1 c4⟩]
    ·rw [if_neg c4]
     cases g with
     | true => rw [decide_eq_false (fun h : okW b k v true => c4 (toList_nil.2 (h.2.2.2 rfl)))]; rfl
     | false => rw [decide_eq_true (p := okW b k v false) ⟨c1, c2, c3, fun h => by cases h⟩]; rfl
   ·rw [if_neg (by omega), decide_eq_false (fun h : okW b k v g => c3 h.2.2.1)]
  ·rw [if_neg (by simpa using c2), decide_eq_false (fun h : okW b k v g => c2 h.2.1)]
 ·rw [if_neg (by simpa using c1), decide_eq_false (fun h : okW b k v g => c1 h.1)]
def okw (x : Wr) : Bool := decide (okW x.f0 x.f1 x.f2 x.f3)
def at1 (x y : Wr) : Bool := decide (x.f0.data.toList = y.f0.data.toList ∧ x.f1.data.toList = y.f1.data.toList)
def wh (a b c d e : Int) (xs : List Wr) : Bool := decide (okS a b c d e) && decide (0 < xs.length) && decide (xs.length ≤ 8) && item_Whole.apart xs && xs.all okw
theorem sright_f (a b c d e : Int) : stamp_Right.f a b c d e = some (decide (okS a b c d e)) := by
 by_cases h : okS a b c d e
 ·rw [sright_true h, decide_eq_true h]
 ·rw [sright_false h, decide_eq_false h]
theorem whole_f (a b c d e : Int) (xs : List Wr) (hx : ∀ x ∈ xs, fits x) (hz : xs.length ≤ 9223372036854775806) : item_Whole.f a b c d e xs = some (wh a b c d e xs) := by
 unfold item_Whole.f wh
 rw [if_pos ⟨fun x h => by have := hx x h; exact ⟨by have := this.1; omega, by have := this.2.1; omega⟩, hz⟩, sright_f, Option.bind_some]
 congr 2
 have hr : ∀ x : Wr, item_Whole.right x = okw x := fun x => by
  unfold item_Whole.right okw
  rw [iright_f]
  rfl
 rw [Bool.eq_iff_iff]
 simp [hr]
theorem ba_assoc (a b c : ByteArray) : a ++ b ++ c = a ++ (b ++ c) := bl_inj (by simp only [bl_append, List.append_assoc])
def wb (x : Wr) : ByteArray := vs x.f0.size ++ x.f0 ++ (vs x.f1.size ++ x.f1) ++ (if x.f3 = true then (⟨#[1]⟩ : ByteArray) else (⟨#[0]⟩ : ByteArray) ++ (vs x.f2.size ++ x.f2))
def enc (o : ByteArray) (xs : List Wr) : ByteArray := xs.foldl (fun o x => o ++ wb x) o
theorem n1 : pack_Number.f 1 1 = some (⟨#[1]⟩ : ByteArray) := Number_f 1 1 (by omega) (by omega)
theorem n0 : pack_Number.f 0 1 = some (⟨#[0]⟩ : ByteArray) := Number_f 0 1 (by omega) (by omega)
theorem z1 : (⟨#[1]⟩ : ByteArray).size = 1 := rfl
theorem z0 : (⟨#[0]⟩ : ByteArray).size = 1 := rfl
theorem okw_size {x : Wr} (h : okw x = true) : x.f0.size ≤ 16 ∧ x.f1.size ≤ 16 ∧ x.f2.size ≤ 32 := by
 have h : okW x.f0 x.f1 x.f2 x.f3 := of_decide_eq_true h
 exact ⟨h.1.2, h.2.1.2, h.2.2.1⟩
theorem wb_size {x : Wr} (h : okw x = true) : (wb x).size ≤ 100 := by
 have hs := okw_size h
 have v0 := vary_len_ten (n := x.f0.size) (by omega)
 have v1 := vary_len_ten (n := x.f1.size) (by omega)
 have v2 := vary_len_ten (n := x.f2.size) (by omega)
 unfold wb
 by_cases c : x.f3 = true
 ·rw [if_pos c]
  simp only [ByteArray.size_append, vs_size, z1]
  omega
 ·rw [if_neg c]
  simp only [ByteArray.size_append, vs_size, z0]
  omega
theorem ibytes_l0 (xs : List Wr) (hok : ∀ x ∈ xs, okw x = true) (hz : xs.length ≤ 1000) : ∀ m i K (o : ByteArray), i + m = xs.length → o.size ≤ 1000 + 100 * i → m + 12 ≤ K →
  item_Bytes.l0 K o xs (xs.length : Int) (i : Int) = some (enc o (xs.drop i), true) := by
 intro m
 induction m with
 | zero =>
  intro i K o hi ho hK
  obtain ⟨K, rfl⟩ : ∃ q, K = q + 1 := ⟨K - 1, by omega⟩
  rw [item_Bytes.l0, if_neg (by omega), List.drop_eq_nil_of_le (by omega)]
  rfl
 | succ m ih =>
  intro i K o hi ho hK
  obtain ⟨K, rfl⟩ : ∃ q, K = q + 1 := ⟨K - 1, by omega⟩
  have hlt : i < xs.length := by omega
  have hx := hok _ (List.getElem_mem hlt)
  have hs := okw_size hx
  have hw := wb_size hx
  have v0 := vary_len_ten (n := xs[i].f0.size) (by omega)
  have v1 := vary_len_ten (n := xs[i].f1.size) (by omega)
  have v2 := vary_len_ten (n := xs[i].f2.size) (by omega)
  have e0 : xs.drop i = xs[i] :: xs.drop (i + 1) := List.drop_eq_getElem_cons hlt
  have t0 := Text_f (s := xs[i].f0) (k := K) (by omega) (by omega)
  have t1 := Text_f (s := xs[i].f1) (k := K) (by omega) (by omega)
  have t2 := Text_f (s := xs[i].f2) (k := K) (by omega) (by omega)
  have s0 : (vs xs[i].f0.size ++ xs[i].f0).size ≤ 26 := by rw [ByteArray.size_append, vs_size]; omega
  have s1 : (vs xs[i].f1.size ++ xs[i].f1).size ≤ 26 := by rw [ByteArray.size_append, vs_size]; omega
  have s2 : (vs xs[i].f2.size ++ xs[i].f2).size ≤ 42 := by rw [ByteArray.size_append, vs_size]; omega
  have hnext : item_Bytes.l0 K (o ++ wb xs[i]) xs (xs.length : Int) (wrap64 ((i : Int) + 1)) = some (enc o (xs.drop i), true) := by
   rw [idx i (by omega), ih (i + 1) K _ (by omega) (by rw [ByteArray.size_append]; omega) (by omega), e0]
   rfl
  rw [item_Bytes.l0, if_pos (by omega), if_pos (by omega), if_pos (by omega), rdW xs i hlt, t0, Option.bind_some, t1, Option.bind_some, if_pos (by omega), if_pos (by rw [ByteArray.size_append]; omega)]
  unfold wb at hnext
  by_cases c : xs[i].f3 = true
  ·rw [if_pos c, n1, Option.bind_some, if_pos (by simp only [ByteArray.size_append, vs_size, z1]; omega)]
   rw [if_pos c] at hnext
   rw [ba_assoc]
   exact hnext
  ·rw [if_neg c, n0, Option.bind_some, t2, Option.bind_some, if_pos (by rw [z0]; omega), if_pos (by simp only [ByteArray.size_append, vs_size, z0]; omega)]
   rw [if_neg c] at hnext
   rw [ba_assoc]
   exact hnext
theorem wh_true {a b c d e : Int} {xs : List Wr} (h : wh a b c d e xs = true) : okS a b c d e ∧ 0 < xs.length ∧ xs.length ≤ 8 ∧ item_Whole.apart xs = true ∧ ∀ x ∈ xs, okw x = true := by
 unfold wh at h
 simp only [Bool.and_eq_true, decide_eq_true_eq, List.all_eq_true] at h
 exact ⟨h.1.1.1.1, h.1.1.1.2, h.1.1.2, h.1.2, h.2⟩
theorem ibytes_true {a b c g e : Nat} {xs : List Wr} (h : wh a b c g e xs = true) (hx : ∀ x ∈ xs, fits x) {k : Nat} (hk : 300 ≤ k) :
  item_Bytes.f k a b c g e xs = some (enc (sp e a b c g ++ nb xs.length 1) xs, true) := by
 obtain ⟨hS, h0, h8, _, hok⟩ := wh_true h
 have hb := hS.1
 have hsz := (sp_size (n0 := a) (n1 := b) (n2 := c) (n3 := g) e (by omega) (by omega) (by omega) (by omega)).1
 have hn := nb_size xs.length 1
 unfold item_Bytes.f
 rw [whole_f _ _ _ _ _ xs hx (by omega), Option.bind_some, if_pos h, sput_true hS (by omega), Option.bind_some, wrap_u64 (by omega) (by omega), Number_f xs.length 1 (by omega) (by omega), Option.bind_some]
 show (if (sp e a b c g).size + (nb xs.length 1).size ≤ 9223372036854775807 then _ else _) = _
 rw [if_pos (by omega)]
 have := ibytes_l0 xs hok (by omega) xs.length 0 k (sp e a b c g ++ nb xs.length 1) (by omega) (by rw [ByteArray.size_append]; omega) (by omega)
 rw [List.drop_zero] at this
 exact this
def weq (x y : Wr) : Bool := (x.f0.toList == y.f0.toList) && ((x.f1.toList == y.f1.toList) && ((x.f2.toList == y.f2.toList) && (x.f3 == y.f3)))
def eqb : List Wr → List Wr → Bool
 | x :: xs, y :: ys => weq x y && eqb xs ys
 | _, _ => true
theorem neq_eq (p q r s : Bool) : ((!p) || ((!q) || ((!r) || (!s)))) = !(p && (q && (r && s))) := by cases p <;> cases q <;> cases r <;> cases s <;> rfl
theorem same_l0 (xs ys : List Wr) (hl : xs.length = ys.length) (hz : xs.length ≤ 1000) (K : Nat) : ∀ m i, i + m = xs.length → item_Write_86.l0 (K + m + 1) xs ys (xs.length : Int) (i : Int) = some (eqb (xs.drop i) (ys.drop i)) := by
 intro m
 induction m with
 | zero =>
  intro i hi
  rw [Nat.add_zero, item_Write_86.l0, if_neg (by omega), List.drop_eq_nil_of_le (by omega)]
  rfl
 | succ m ih =>
  intro i hi
  have h1 : i < xs.length := by omega
  have h2 : i < ys.length := by omega
  have e1 : xs.drop i = xs[i] :: xs.drop (i + 1) := List.drop_eq_getElem_cons h1
  have e2 : ys.drop i = ys[i] :: ys.drop (i + 1) := List.drop_eq_getElem_cons h2
  rw [show K + (m + 1) + 1 = (K + m + 1) + 1 by omega, item_Write_86.l0, if_pos (by omega), if_pos (by omega), if_pos (by omega), if_pos (by omega), rdW xs i h1, rdW ys i h2, neq_eq, e1, e2]
  show (if (!weq xs[i] ys[i]) = true then _ else _) = some (weq xs[i] ys[i] && _)
  cases weq xs[i] ys[i] with
  | true => rw [if_neg (by simp), idx i (by omega), ih (i + 1) (by omega)]; rfl
  | false => rw [if_pos (show (!false) = true from rfl)]; rfl
def sameT (a b c d e : Int) (xs : List Wr) (a' b' c' d' e' : Int) (ys : List Wr) : Bool := ((a == a' && (b == b' && (c == c' && (d == d')))) && (e == e')) && decide (xs.length = ys.length) && eqb xs ys
theorem same_f (a b c d e : Int) (xs : List Wr) (a' b' c' d' e' : Int) (ys : List Wr) (hz : xs.length ≤ 1000) {k : Nat} (hk : xs.length + 1 ≤ k) : item_Same.f k a b c d e xs a' b' c' d' e' ys = some (sameT a b c d e xs a' b' c' d' e' ys) := by
 unfold item_Same.f sameT
 cases ((a == a' && (b == b' && (c == c' && (d == d')))) && (e == e')) with
 | false => rw [if_neg (by simp)]; rfl
 | true =>
  rw [if_pos rfl, Bool.true_and]
  unfold item_Write_86.f
  by_cases hl : xs.length = ys.length
  ·obtain ⟨K, rfl⟩ : ∃ m, k = m + xs.length + 1 := ⟨k - xs.length - 1, by omega⟩
   have h := same_l0 xs ys hl hz K xs.length 0 (by omega)
   rw [show ((0 : Nat) : Int) = 0 from rfl, List.drop_zero, List.drop_zero] at h
   rw [if_pos (by omega), h, Option.bind_some, decide_eq_true hl, Bool.true_and]
  ·rw [if_neg (by omega), Option.bind_some, decide_eq_false hl]; rfl
theorem apart_cons (x : Wr) (xs : List Wr) : item_Whole.apart (x :: xs) = (xs.all (fun y => !at1 x y) && item_Whole.apart xs) := rfl
theorem apart_snoc (w : Wr) : ∀ xs : List Wr, item_Whole.apart (xs ++ [w]) = (item_Whole.apart xs && xs.all (fun y => !at1 y w))
 | [] => rfl
 | x :: xs => by
  rw [List.cons_append, apart_cons, apart_snoc w xs, apart_cons, List.all_append, List.all_cons, List.all_cons, List.all_nil, Bool.and_true]
  generalize (xs.all fun y => !at1 x y) = A
  generalize (xs.all fun y => !at1 y w) = B
  generalize item_Whole.apart xs = C
  generalize (!at1 x w) = D
  cases A <;> cases B <;> cases C <;> cases D <;> rfl
theorem same_at1 (w y : Wr) (h : at1 y w = true) : same w y = true := by
 unfold at1 at h
 unfold same
 have h := of_decide_eq_true h
 have e0 : y.f0 = w.f0 := bl_inj (by unfold bl; rw [h.1])
 have e1 : y.f1 = w.f1 := bl_inj (by unfold bl; rw [h.2])
 rw [decide_eq_true e0, decide_eq_true e1]
 rfl
theorem apart_wrs : ∀ l out, item_Whole.apart out = true → item_Whole.apart (wrs 8 true l out) = true
 | [], out, h => h
 | p :: ps, out, h => by
  unfold wrs
  split
  ·split
   ·exact apart_wrs ps out h
   ·rename_i c
    refine apart_wrs ps _ ?_
    rw [apart_snoc, h, Bool.true_and, List.all_eq_true]
    intro y hy
    cases e : at1 y (wrt p (true || p.f1)) with
    | false => rfl
    | true =>
     exfalso
     apply c
     rw [Bool.true_and, List.any_eq_true]
     exact ⟨y, hy, same_at1 _ _ e⟩
  ·exact h
theorem wrt_okw (p : Pt) : okw (wrt p true) = true := by
 unfold wrt
 rw [if_pos rfl]
 have z : (⟨#[]⟩ : ByteArray).size = 0 := rfl
 by_cases c : 224 ≤ p.f2
 ·rw [if_pos c]
  refine decide_eq_true ⟨⟨?_, ?_⟩, ⟨?_, ?_⟩, ?_, fun _ => rfl⟩
  ·show 1 ≤ (strOfNums _).size; rw [str_size]; simp
  ·show (strOfNums _).size ≤ _; rw [str_size]; simp
  ·show 1 ≤ (strOfNums _).size; rw [str_size]; simp
  ·show (strOfNums _).size ≤ _; rw [str_size]; simp
  ·show (⟨#[]⟩ : ByteArray).size ≤ _; omega
 ·rw [if_neg c]
  refine decide_eq_true ⟨⟨?_, ?_⟩, ⟨?_, ?_⟩, ?_, fun h => absurd h (by simp)⟩
  ·show 1 ≤ (strOfNums _).size; rw [str_size]; simp
  ·show (strOfNums _).size ≤ _; rw [str_size]; simp
  ·show 1 ≤ (strOfNums _).size; rw [str_size]; simp
  ·show (strOfNums _).size ≤ _; rw [str_size]; simp
  ·show (ByteArray.extract _ _ _).size ≤ _; rw [ByteArray.size_extract]; omega
theorem deal_own4 (v0 v1 v2 v3 d : Int) (h0 : (Lit.int .u64 v0).wf = true) (h1 : (Lit.int .u64 v1).wf = true) (h2 : (Lit.int .u64 v2).wf = true) (o : Bool) (l : List Pt) (hl : ∀ p ∈ l, fits p.f0) (hz : l.length ≤ 4611686018427387904) {K : Nat} (hK : (l.length + 1) * 15 + 10 ≤ K) :
  ∃ (a b c g e : Nat) (xs : List Wr), tenementlaw15_Deal_deal.f K v0 v1 v2 v3 d o l true = some ((a : Int), (b : Int), (c : Int), (g : Int), (e : Int), xs) ∧ wh a b c g e xs = true ∧ (∀ x ∈ xs, fits x) ∧ xs.length ≤ 8 ∧ a ≤ 4 ∧ b ≤ 4 ∧ c ≤ 4 ∧ g ≤ 4 := by
 unfold tenementlaw15_Deal_deal.f
 obtain ⟨n0, n1, n2, n3, dc, em, hn4, _, _, hS⟩ := mark_own (v3 := v3) (d := d) h0 h1 h2 (k := K) (by omega)
 have ew := writes_f l 8 (by omega) true hl hz (K := K) (by omega)
 have hln := wrs_len 8 true l [] (by simp)
 have hap := apart_wrs l [] rfl
 have hok := wrs_all 8 true (fun x => okw x = true) l [] (fun p _ => wrt_okw p) (by simp)
 rw [show ((8 : Nat) : Int) = 8 from rfl] at ew
 rw [if_pos rfl, em, Option.bind_some, ew, Option.bind_some]
 by_cases c : ((wrs 8 true l []).length : Int) = 0
 ·rw [if_pos c]
  have z2 : (⟨#[98, 48]⟩ : ByteArray).size = 2 := rfl
  have z1 : (⟨#[97]⟩ : ByteArray).size = 1 := rfl
  have z3 : (⟨#[118]⟩ : ByteArray).size = 1 := rfl
  refine ⟨n0, n1, n2, n3, dc, _, rfl, ?_, ?_, by simp, hn4⟩
  ·unfold wh
   rw [decide_eq_true hS]
   have : okw (⟨(⟨#[98, 48]⟩ : ByteArray), (⟨#[97]⟩ : ByteArray), (⟨#[118]⟩ : ByteArray), false⟩ : Wr) = true := by
    refine decide_eq_true ⟨⟨?_, ?_⟩, ⟨?_, ?_⟩, ?_, fun h => absurd h (by simp)⟩
    ·show 1 ≤ (⟨#[98, 48]⟩ : ByteArray).size; omega
    ·show (⟨#[98, 48]⟩ : ByteArray).size ≤ _; omega
    ·show 1 ≤ (⟨#[97]⟩ : ByteArray).size; omega
    ·show (⟨#[97]⟩ : ByteArray).size ≤ _; omega
    ·show (⟨#[118]⟩ : ByteArray).size ≤ _; omega
   rw [List.all_cons, this, List.all_nil]
   rfl
  ·intro x hx1
   rw [List.mem_singleton.1 hx1]
   exact ⟨show (⟨#[98, 48]⟩ : ByteArray).size ≤ _ by omega, show (⟨#[97]⟩ : ByteArray).size ≤ _ by omega, show (⟨#[118]⟩ : ByteArray).size ≤ _ by omega⟩
 ·rw [if_neg c]
  refine ⟨n0, n1, n2, n3, dc, _, rfl, ?_, wrs_all 8 true fits l [] (fun p hp => wrt_fits p _ (hl p hp)) (by simp), hln, hn4⟩
  unfold wh
  rw [decide_eq_true hS, decide_eq_true (by omega), decide_eq_true hln, hap, List.all_eq_true.2 hok]
  rfl
def WL (x : Wr) : List Nat := vary x.f0.size ++ (bl x.f0 ++ (vary x.f1.size ++ (bl x.f1 ++ (if x.f3 = true then [1] else 0 :: (vary x.f2.size ++ bl x.f2)))))
theorem bl_wb (x : Wr) : bl (wb x) = WL x := by
 unfold wb WL
 by_cases c : x.f3 = true
 ·rw [if_pos c, if_pos c]
  simp only [bl_append, bl_vs, List.append_assoc]
  rfl
 ·rw [if_neg c, if_neg c]
  simp only [bl_append, bl_vs, List.append_assoc]
  rfl
theorem bl_enc : ∀ (xs : List Wr) (o : ByteArray), bl (enc o xs) = bl o ++ xs.flatMap WL
 | [], o => by simp [enc]
 | x :: xs, o => by
  show bl (enc (o ++ wb x) xs) = _
  rw [bl_enc xs, bl_append, bl_wb, List.flatMap_cons, List.append_assoc]
def TL (a b c g e : Nat) (xs : List Wr) : List Nat := e :: (rv a b c g ++ (xs.length :: xs.flatMap WL))
theorem be_small {n : Nat} (h : n < 256) : be 1 n = [n] := by simp [be]; omega
theorem bl_txn {a b c g e : Nat} {xs : List Wr} (h : wh a b c g e xs = true) : bl (enc (sp e a b c g ++ nb xs.length 1) xs) = TL a b c g e xs := by
 obtain ⟨hS, h0, h8, _, hok⟩ := wh_true h
 have hd := okS_dc hS
 unfold TL
 rw [bl_enc, bl_append, bl_sp, bl_nb, be_small (by omega), be_small (by omega)]
 simp only [List.append_assoc, List.singleton_append, List.cons_append, List.nil_append]
theorem WL_size {x : Wr} (h : okw x = true) : (WL x).length ≤ 100 := by
 rw [← bl_wb, bl_length]
 exact wb_size h
theorem WLs_size : ∀ xs : List Wr, (∀ x ∈ xs, okw x = true) → (xs.flatMap WL).length ≤ 100 * xs.length
 | [], _ => by simp
 | x :: xs, h => by
  have := WLs_size xs (fun y hy => h y (by simp [hy]))
  have := WL_size (h x (by simp))
  rw [List.flatMap_cons, List.length_append, List.length_cons]
  omega
theorem txn_size {a b c g e : Nat} {xs : List Wr} {s : ByteArray} (h : wh a b c g e xs = true) (hs : bl s = TL a b c g e xs) : s.size ≤ 100000 ∧ 1 ≤ s.size := by
 obtain ⟨hS, h0, h8, _, hok⟩ := wh_true h
 have hb := hS.1
 have hv := WLs_size xs hok
 have := (vv_size (a := a) (b := b) (c := c) (d := g) (by omega) (by omega) (by omega) (by omega)).1
 rw [← bl_length, bl_vv] at this
 rw [← bl_length, hs]
 unfold TL
 simp only [List.length_cons, List.length_append]
 omega
end Go.Proofs.Ytoagfdpgnfinhaa.Pure

set_option linter.unusedVariables false
set_option linter.unusedSimpArgs false
namespace Go.Proofs.Ytoagfdpgnfinhaa.Pure
open Go.RowKit Go.Proofs.Ytoagfdpgnfinhaa.Q Go.Proofs.YtoagfdpgnfinhaaW.PrintWords Go.Proofs.YtoagfdpgnfinhaaW.PrintLast Go.Proofs.YtoagfdpgnfinhaaW.PrintMore Go.Proofs.Ytoagfdpgnfinhaa.Plain Go.Proofs.Ytoagfdpgnfinhaa.CrcN
def okM (kind frm n a b c d e : Int) (xs : List Wr) : Bool :=
 decide (1 ≤ frm ∧ frm ≤ 4) && (if kind = 1 then (wh a b c d e xs && decide (n = own a b c d e)) else if kind = 2 then (decide (n ≤ 1152921504606846976) && sameT a b c d e xs 0 0 0 0 0 []) else false)
theorem stampN (a b c d e : Int) : stamp_Stamp_N.f a b c d e = some (own a b c d e) := rfl
theorem mright_f (kind frm n a b c d e : Int) (xs : List Wr) (hx : ∀ x ∈ xs, fits x) (hz : xs.length ≤ 1000) {k : Nat} (hk : xs.length + 2 ≤ k) : stream_Right.f k kind frm n a b c d e xs = some (okM kind frm n a b c d e xs) := by
 obtain ⟨k, rfl⟩ : ∃ m, k = m + 1 := ⟨k - 1, by omega⟩
 have J : ∀ x : Bool, stream_Right.j0 (k + 1) x kind frm n a b c d e xs = some (if x = true then false else (if kind = 1 then (wh a b c d e xs && decide (n = own a b c d e)) else if kind = 2 then (decide (n ≤ 1152921504606846976) && sameT a b c d e xs 0 0 0 0 0 []) else false)) := by
  intro x
  rw [stream_Right.j0]
  by_cases h0 : x = true
  ·rw [if_pos h0, if_pos h0]
  rw [if_neg h0, if_neg h0]
  by_cases h1 : kind = 1
  ·rw [if_pos h1, if_pos h1, whole_f _ _ _ _ _ xs hx (by omega), Option.bind_some]
   cases hw : wh a b c d e xs with
   | false => rw [if_neg (by simp)]; rfl
   | true =>
    rw [if_pos rfl, stampN, Option.bind_some, Bool.true_and]
    congr 1
  rw [if_neg h1, if_neg h1]
  by_cases h2 : kind = 2
  ·rw [if_pos h2, if_pos h2]
   by_cases h3 : n ≤ 1152921504606846976
   ·rw [if_pos h3, same_f a b c d e xs 0 0 0 0 0 [] hz (by omega), Option.bind_some, decide_eq_true h3, Bool.true_and]
   ·rw [if_neg h3, decide_eq_false h3, Bool.false_and]
  ·rw [if_neg h2, if_neg h2]
 unfold stream_Right.f okM
 by_cases f1 : frm < 1
 ·rw [if_pos f1, J, if_pos rfl, decide_eq_false (show ¬ (1 ≤ frm ∧ frm ≤ 4) by omega), Bool.false_and]
 rw [if_neg f1, J]
 by_cases f4 : frm > 4
 ·rw [decide_eq_true f4, if_pos rfl, decide_eq_false (show ¬ (1 ≤ frm ∧ frm ≤ 4) by omega), Bool.false_and]
 ·rw [decide_eq_false f4, if_neg (by simp), decide_eq_true (show 1 ≤ frm ∧ frm ≤ 4 by omega), Bool.true_and]
theorem mput_no {kind frm n a b c d e : Int} {xs : List Wr} (hx : ∀ x ∈ xs, fits x) (hz : xs.length ≤ 1000) (h : okM kind frm n a b c d e xs = false) {k : Nat} (hk : xs.length + 2 ≤ k) : stream_Put.f k kind frm n a b c d e xs = some (⟨#[]⟩, false) := by
 unfold stream_Put.f
 rw [mright_f kind frm n a b c d e xs hx hz hk, h, Option.bind_some, if_neg (by simp)]
def mq (kind frm n a b c d e : Nat) (xs : List Wr) : ByteArray := if kind = 1 then ((nb kind 1 ++ nb frm 1) ++ vs n) ++ (vs (enc (sp e a b c d ++ nb xs.length 1) xs).size ++ enc (sp e a b c d ++ nb xs.length 1) xs) else (nb kind 1 ++ nb frm 1) ++ vs n
def sealq (q : ByteArray) : ByteArray := q ++ nb (sum (bl q)) 4
theorem okM_kind {kind frm n a b c d e : Nat} {xs : List Wr} (h : okM kind frm n a b c d e xs = true) : (1 ≤ frm ∧ frm ≤ 4) ∧ ((kind = 1 ∧ wh a b c d e xs = true ∧ (n : Int) = own a b c d e) ∨ (kind = 2 ∧ n ≤ 1152921504606846976 ∧ a = 0 ∧ b = 0 ∧ c = 0 ∧ d = 0 ∧ e = 0 ∧ xs = [])) := by
 unfold okM at h
 rw [Bool.and_eq_true, decide_eq_true_eq] at h
 obtain ⟨hf, hkind⟩ := h
 refine ⟨by omega, ?_⟩
 by_cases c1 : (kind : Int) = 1
 ·rw [if_pos c1, Bool.and_eq_true, decide_eq_true_eq] at hkind
  exact Or.inl ⟨by omega, hkind.1, hkind.2⟩
 ·rw [if_neg c1] at hkind
  by_cases c2 : (kind : Int) = 2
  ·rw [if_pos c2, Bool.and_eq_true, decide_eq_true_eq] at hkind
   have hs := hkind.2
   unfold sameT at hs
   simp only [Bool.and_eq_true, decide_eq_true_eq, List.length_nil, beq_iff_eq] at hs
   obtain ⟨⟨⟨⟨h0, h1, h2, h3⟩, h4⟩, hl⟩, _⟩ := hs
   exact Or.inr ⟨by omega, by omega, by omega, by omega, by omega, by omega, by omega, List.eq_nil_of_length_eq_zero hl⟩
  ·rw [if_neg c2] at hkind; simp at hkind
theorem pre_size {kind frm n : Nat} (hn : n < 18446744073709551616) : ((nb kind 1 ++ nb frm 1) ++ vs n).size ≤ 12 ∧ 2 ≤ ((nb kind 1 ++ nb frm 1) ++ vs n).size := by
 have s1 := nb_size kind 1
 have s2 := nb_size frm 1
 have hv : (vs n).size ≤ 10 := by rw [vs_size]; exact vary_len_ten hn
 rw [ByteArray.size_append, ByteArray.size_append]
 omega
theorem own_u64 {n a b c d e : Nat} {xs : List Wr} (h : wh a b c d e xs = true) (hn : (n : Int) = own a b c d e) : n ≤ 1152921504606846976 := by
 have hS := (wh_true h).1
 have hb := hS.1
 unfold own at hn
 split at hn
 ·omega
 split at hn
 ·omega
 split at hn
 ·omega
 split at hn <;> omega
theorem mput_ok {kind frm n a b c d e : Nat} {xs : List Wr} (hx : ∀ x ∈ xs, fits x) (hz : xs.length ≤ 1000) (h : okM kind frm n a b c d e xs = true) {k : Nat} (hk : 1300 ≤ k) :
  stream_Put.f k kind frm n a b c d e xs = some (sealq (mq kind frm n a b c d e xs), true) ∧ 2 ≤ (mq kind frm n a b c d e xs).size ∧ (mq kind frm n a b c d e xs).size ≤ 100100 := by
 have hr := mright_f kind frm n a b c d e xs hx hz (k := k) (by omega)
 obtain ⟨hf, hk2⟩ := okM_kind h
 have hn : n < 18446744073709551616 := by
  rcases hk2 with ⟨_, hw, e1⟩ | ⟨_, h2, _⟩
  ·have := own_u64 hw e1; omega
  ·omega
 have e1 : IntKind.u64.wrap (kind : Int) = (kind : Int) := by simp only [IntKind.wrap_u64]; omega
 have e2 : IntKind.u64.wrap (frm : Int) = (frm : Int) := by simp only [IntKind.wrap_u64]; omega
 have s1 := nb_size kind 1
 have s2 := nb_size frm 1
 have hv : (vs n).size ≤ 10 := by rw [vs_size]; exact vary_len_ten hn
 have hp := pre_size (kind := kind) (frm := frm) hn
 unfold stream_Put.f mq
 rw [hr, h, Option.bind_some, if_pos rfl, e1, Number_f kind 1 (by omega) (by omega), Option.bind_some, e2, Number_f frm 1 (by omega) (by omega), Option.bind_some]
 simp only [show (1 : Int).toNat = 1 from rfl]
 have s3 : (nb kind 1 ++ nb frm 1).size = 2 := by rw [ByteArray.size_append]; omega
 rw [if_pos (by omega), Vary_f hn (by omega), Option.bind_some, if_pos (by omega)]
 generalize (nb kind 1 ++ nb frm 1) ++ vs n = p at *
 have fin : ∀ q : ByteArray, q.size ≤ 1000000 → ((crc_Sum.f k q).bind fun t157 => ((pack_Number.f (IntKind.u64.wrap t157) 4).bind fun t158 => (if q.size + t158.size ≤ 9223372036854775807 then (some (q ++ t158, true)) else none))) = some (sealq q, true) := by
  intro q hq
  have hs : sum (bl q) < 2 ^ 32 := sum_lt (bl_lt q)
  have ew : IntKind.u64.wrap ((sum (bl q) : Nat) : Int) = ((sum (bl q) : Nat) : Int) := by simp only [IntKind.wrap_u64]; omega
  rw [Sum_f (by omega) (by omega), Option.bind_some, ew, Number_f _ 4 (by omega) (by omega), Option.bind_some]
  have := nb_size (sum (bl q)) 4
  show (if q.size + (nb (sum (bl q)) 4).size ≤ 9223372036854775807 then _ else _) = some (q ++ nb (sum (bl q)) 4, true)
  rw [if_pos (by omega)]
  rfl
 rcases hk2 with ⟨rfl, hw, _⟩ | ⟨rfl, _, rfl, rfl, rfl, rfl, rfl, rfl⟩
 ·have ht := txn_size hw (bl_txn hw)
  rw [ibytes_true hw hx (by omega), Option.bind_some, if_pos rfl, if_pos rfl]
  generalize enc (sp e a b c d ++ nb xs.length 1) xs = u at *
  have hv2 : (vs u.size).size ≤ 10 := by rw [vs_size]; exact vary_len_ten (by omega)
  have s6 : (vs u.size ++ u).size ≤ 100010 := by rw [ByteArray.size_append]; omega
  have s7 : (p ++ (vs u.size ++ u)).size ≤ 100100 ∧ 2 ≤ (p ++ (vs u.size ++ u)).size := by rw [ByteArray.size_append]; omega
  refine ⟨?_, s7.2, s7.1⟩
  show (pack_Text.f k u).bind _ = some (_, true)
  rw [Text_f (by omega) (by omega), Option.bind_some, if_pos (by omega)]
  exact fin _ (by omega)
 ·have hw : wh ((0 : Nat) : Int) ((0 : Nat) : Int) ((0 : Nat) : Int) ((0 : Nat) : Int) ((0 : Nat) : Int) ([] : List Wr) = false := by
   unfold wh
   rw [decide_eq_false (show ¬ 0 < ([] : List Wr).length by simp)]
   simp
  have hb : item_Bytes.f k ((0 : Nat) : Int) ((0 : Nat) : Int) ((0 : Nat) : Int) ((0 : Nat) : Int) ((0 : Nat) : Int) ([] : List Wr) = some (⟨#[]⟩, false) := by
   unfold item_Bytes.f
   rw [whole_f _ _ _ _ _ [] hx (by simp), hw, Option.bind_some, if_neg (by simp)]
  rw [hb, Option.bind_some, if_neg (by simp), if_neg (by decide)]
  exact ⟨fin _ (by omega), by omega, by omega⟩
def mine (kind frm n a b c g e : Nat) (xs : List Wr) : Prop :=
 1 ≤ frm ∧ frm ≤ 4 ∧ n ≤ 8 ∧ (∀ x ∈ xs, fits x) ∧ xs.length ≤ 8 ∧ ((kind = 1 ∧ wh a b c g e xs = true ∧ (n : Int) = own a b c g e) ∨ (kind = 2 ∧ a = 0 ∧ b = 0 ∧ c = 0 ∧ g = 0 ∧ e = 0 ∧ xs = []))
theorem own4 {a b c g : Nat} (e : Int) (h : a ≤ 4 ∧ b ≤ 4 ∧ c ≤ 4 ∧ g ≤ 4) : ∃ n : Nat, own a b c g e = (n : Int) ∧ n ≤ 4 := by
 unfold own
 split
 ·exact ⟨a, rfl, h.1⟩
 split
 ·exact ⟨b, rfl, h.2.1⟩
 split
 ·exact ⟨c, rfl, h.2.2.1⟩
 split
 ·exact ⟨g, rfl, h.2.2.2⟩
 ·exact ⟨0, rfl, by omega⟩
theorem letter_own (kd fr n0 v0 v1 v2 v3 d : Int) (hn : (Lit.int .u64 n0).wf = true) (h0 : (Lit.int .u64 v0).wf = true) (h1 : (Lit.int .u64 v1).wf = true) (h2 : (Lit.int .u64 v2).wf = true) (o q : Bool) (l : List Pt) (hl : ∀ p ∈ l, fits p.f0) (hz : l.length ≤ 4611686018427387904) {K : Nat} (hK : (l.length + 1) * 15 + 10 ≤ K) :
  ∃ (kind frm n a b c g e : Nat) (xs : List Wr), tenementlaw15_Letter_letter.f K kd fr n0 v0 v1 v2 v3 d o l q true = some ((kind : Int), (frm : Int), (n : Int), (a : Int), (b : Int), (c : Int), (g : Int), (e : Int), xs) ∧ mine kind frm n a b c g e xs := by
 obtain ⟨a, b, c, g, e, xs, ed, hw, hf, h8, h4⟩ := deal_own4 v0 v1 v2 v3 d h0 h1 h2 o l hl hz hK
 obtain ⟨m, em, hm⟩ := own4 (e : Int) h4
 have hn := u64_of hn
 unfold tenementlaw15_Letter_letter.f
 have hk : 0 ≤ IntKind.u64.wrap kd := by rw [IntKind.wrap_u64]; omega
 have hg : 0 ≤ IntKind.u64.wrap fr := by rw [IntKind.wrap_u64]; omega
 rw [if_pos rfl, Int.tmod_eq_emod_of_nonneg hk, Int.tmod_eq_emod_of_nonneg hg, Int.tmod_eq_emod_of_nonneg hn.1]
 generalize IntKind.u64.wrap kd = u at hk ⊢
 generalize IntKind.u64.wrap fr = w at hg ⊢
 rw [wrap64_id (x := u % 2) (by omega) (by omega), wrap64_id (x := w % 4) (by omega) (by omega), wrap64_id (x := 1 + u % 2) (by omega) (by omega), wrap64_id (x := 1 + w % 4) (by omega) (by omega)]
 obtain ⟨f, ef, hf1, hf4⟩ : ∃ f : Nat, 1 + w % 4 = (f : Int) ∧ 1 ≤ f ∧ f ≤ 4 := ⟨(1 + w % 4).toNat, by omega, by omega, by omega⟩
 rw [ef]
 by_cases c1 : 1 + u % 2 = 1
 ·rw [if_pos c1, ed, Option.bind_some, stampN, Option.bind_some, c1, em]
  exact ⟨1, f, m, a, b, c, g, e, xs, rfl, hf1, hf4, by omega, hf, h8, Or.inl ⟨rfl, hw, em.symm⟩⟩
 ·rw [if_neg c1, show 1 + u % 2 = 2 by omega]
  obtain ⟨m9, e9, h9⟩ : ∃ m9 : Nat, n0 % 9 = (m9 : Int) ∧ m9 ≤ 8 := ⟨(n0 % 9).toNat, by omega, by omega⟩
  rw [e9]
  exact ⟨2, f, m9, 0, 0, 0, 0, 0, [], rfl, hf1, hf4, h9, by simp, by simp, Or.inr ⟨rfl, rfl, rfl, rfl, rfl, rfl, rfl⟩⟩
end Go.Proofs.Ytoagfdpgnfinhaa.Pure

set_option linter.unusedVariables false
set_option linter.unusedSimpArgs false
namespace Go.Proofs.Ytoagfdpgnfinhaa.Pure
open Go.RowKit Go.Proofs.Ytoagfdpgnfinhaa.Q Go.Proofs.YtoagfdpgnfinhaaW.PrintWords Go.Proofs.YtoagfdpgnfinhaaW.PrintLast Go.Proofs.YtoagfdpgnfinhaaW.PrintMore Go.Proofs.Ytoagfdpgnfinhaa.Plain
abbrev Rw := S117
def rw_ (x : Wr) : Rw := ⟨x.f0, x.f1, x.f2, x.f3⟩
theorem rdR (l : List Rw) (j : Nat) (h : j < l.length) : rd_T117 l (j : Int) = l[j] := by
 unfold rd_T117
 rw [Int.toNat_natCast, List.getD_eq_getElem?_getD, List.getElem?_eq_getElem h]
 rfl
theorem refWrites_loop (l : List Wr) (hz : l.length < 2513169434916) (K : Nat) : ∀ d i (out : List Rw), i + d = l.length → out.length = i → tenementlaw15_refWrites.l0 (K + d + 1) l out (i : Int) = some (out ++ (l.drop i).map rw_) := by
 intro d
 induction d with
 | zero =>
  intro i out hi ho
  have e : l.drop i = [] := List.drop_eq_nil_of_le (by omega)
  rw [Nat.add_zero, tenementlaw15_refWrites.l0, if_neg (by omega), e, List.map_nil, List.append_nil]
 | succ d ih =>
  intro i out hi ho
  have hlt : i < l.length := by omega
  have e : l.drop i = l[i] :: l.drop (i + 1) := List.drop_eq_getElem_cons hlt
  rw [show K + (d + 1) + 1 = (K + d + 1) + 1 by omega, tenementlaw15_refWrites.l0, if_pos (by omega), if_pos (by omega), if_pos (by omega), rdW l i hlt, idx i (by omega), ih (i + 1) _ (by omega) (by simp; omega), e, List.map_cons, List.append_assoc]
  rfl
theorem refWrites_f (l : List Wr) (hz : l.length < 2513169434916) {k : Nat} (hk : l.length + 1 ≤ k) : tenementlaw15_refWrites.f k l = some (l.map rw_) := by
 obtain ⟨K, rfl⟩ : ∃ m, k = m + l.length + 1 := ⟨k - l.length - 1, by omega⟩
 unfold tenementlaw15_refWrites.f
 have := refWrites_loop l hz K l.length 0 [] (by omega) rfl
 rw [show ((0 : Nat) : Int) = 0 from rfl, List.drop_zero, List.nil_append] at this
 exact this
theorem refTxn_f (a b c d e : Int) (l : List Wr) (hz : l.length < 2513169434916) {k : Nat} (hk : l.length + 1 ≤ k) : tenementlaw15_refTxn.f k a b c d e l = some (a, b, c, d, e, l.map rw_) := by
 unfold tenementlaw15_refTxn.f
 rw [show tenementlaw15_refStamp.f a b c d e = some (a, b, c, d, e) from rfl, Option.bind_some, refWrites_f l hz hk, Option.bind_some]
theorem deal_f (v0 v1 v2 v3 d : Int) (h0 : (Lit.int .u64 v0).wf = true) (h1 : (Lit.int .u64 v1).wf = true) (h2 : (Lit.int .u64 v2).wf = true) (h3 : (Lit.int .u64 v3).wf = true) (h4 : (Lit.int .i64 d).wf = true) (o own : Bool) (l : List Pt) (hl : ∀ p ∈ l, fits p.f0) (hz : l.length ≤ 4611686018427387904) {K : Nat} (hK : (l.length + 1) * 15 + 10 ≤ K) :
  ∃ (a b c g : Nat) (e : Int) (xs : List Wr), tenementlaw15_Deal_deal.f K v0 v1 v2 v3 d o l own = some ((a : Int), (b : Int), (c : Int), (g : Int), e, xs) ∧ (∀ x ∈ xs, fits x) ∧ xs.length ≤ 10 := by
 unfold tenementlaw15_Deal_deal.f
 cases own with
 | true =>
  obtain ⟨n0, n1, n2, n3, dc, em, _⟩ := mark_own (v3 := v3) (d := d) h0 h1 h2 (k := K) (by omega)
  have ew := writes_f l 8 (by omega) true hl hz (K := K) (by omega)
  have hln := wrs_len 8 true l [] (by simp)
  rw [show ((8 : Nat) : Int) = 8 from rfl] at ew
  rw [if_pos rfl, em, Option.bind_some, ew, Option.bind_some]
  by_cases c : ((wrs 8 true l []).length : Int) = 0
  ·rw [if_pos c]
   refine ⟨n0, n1, n2, n3, dc, _, rfl, ?_, by simp⟩
   intro x hx1
   rw [List.mem_singleton.1 hx1]
   have z2 : (⟨#[98, 48]⟩ : ByteArray).size = 2 := rfl
   have z1 : (⟨#[97]⟩ : ByteArray).size = 1 := rfl
   have z3 : (⟨#[118]⟩ : ByteArray).size = 1 := rfl
   exact ⟨show (⟨#[98, 48]⟩ : ByteArray).size ≤ _ by omega, show (⟨#[97]⟩ : ByteArray).size ≤ _ by omega, show (⟨#[118]⟩ : ByteArray).size ≤ _ by omega⟩
  ·rw [if_neg c]
   exact ⟨n0, n1, n2, n3, dc, _, rfl, wrs_all 8 true fits l [] (fun p hp => wrt_fits p _ (hl p hp)) (by simp), by omega⟩
 | false =>
  obtain ⟨n0, n1, n2, n3, e, em, _⟩ := mark_any h0 h1 h2 h3 h4 o (k := K) (by omega)
  have ew := writes_f l 10 (by omega) false hl hz (K := K) (by omega)
  have hln := wrs_len 10 false l [] (by simp)
  rw [show ((10 : Nat) : Int) = 10 from rfl] at ew
  rw [if_neg (by simp), em, Option.bind_some, ew, Option.bind_some]
  exact ⟨n0, n1, n2, n3, e, _, rfl, wrs_all 10 false fits l [] (fun p hp => wrt_fits p _ (hl p hp)) (by simp), by omega⟩
theorem rright_f (b k v : ByteArray) (g : Bool) : tenementref08_Right.f b k v g = some (decide (okW b k v g)) := by
 unfold tenementref08_Right.f
 by_cases c1 : 1 ≤ b.size
 ·rw [if_pos (by omega)]
  by_cases c2 : b.size ≤ 16
  ·rw [if_pos (by omega)]
   by_cases c3 : 1 ≤ k.size
   ·rw [if_pos (by omega)]
    by_cases c4 : k.size ≤ 16
    ·rw [if_pos (by omega)]
     by_cases c5 : v.size ≤ 32
     ·rw [if_pos (by omega)]
      cases g with
      | true =>
       rw [if_pos rfl]
       by_cases c6 : v.toList = ([] : List UInt8)
       ·rw [decide_eq_true (p := okW b k v true) ⟨⟨c1, c2⟩, ⟨c3, c4⟩, c5, fun _ => toList_nil.1 c6⟩, c6]; rfl
       ·rw [decide_eq_false (fun h : okW b k v true => c6 (toList_nil.2 (h.2.2.2 rfl)))]
        congr 1
        exact beq_eq_false_iff_ne.2 c6
      | false => rw [if_neg (by simp), decide_eq_true (p := okW b k v false) ⟨⟨c1, c2⟩, ⟨c3, c4⟩, c5, fun h => by cases h⟩]
     ·rw [if_neg (by omega), decide_eq_false (fun h : okW b k v g => c5 h.2.2.1)]
    ·rw [if_neg (by omega), decide_eq_false (fun h : okW b k v g => c4 h.2.1.2)]
   ·rw [if_neg (by omega), decide_eq_false (fun h : okW b k v g => c3 h.2.1.1)]
  ·rw [if_neg (by omega), decide_eq_false (fun h : okW b k v g => c2 h.1.2)]
 ·rw [if_neg (by omega), decide_eq_false (fun h : okW b k v g => c1 h.1.1)]
theorem rsright_f (a b c d e : Int) {k : Nat} (hk : 5 ≤ k) : tenementref07_Right.f k a b c d e = some (decide (okS a b c d e)) := by
 by_cases h : okS a b c d e
 ·rw [rsright_true h hk, decide_eq_true h]
 ·rw [rsright_false h hk, decide_eq_false h]
def chk : List Wr → List Wr → Bool
 | _, [] => true
 | pre, x :: xs => okw x && (!pre.any fun y => at1 y x) && chk (pre ++ [x]) xs
theorem chk_es (pre : List Wr) (x : Wr) : ∀ xs : List Wr, (xs.all fun z => !(pre ++ [x]).any fun y => at1 y z) = ((xs.all fun z => !pre.any fun y => at1 y z) && xs.all fun z => !at1 x z)
 | [] => rfl
 | z :: zs => by
  have ih := chk_es pre x zs
  have e1 : (!(pre ++ [x]).any fun y => at1 y z) = ((!pre.any fun y => at1 y z) && !at1 x z) := by rw [List.any_append, List.any_cons, List.any_nil, Bool.or_false, Bool.not_or]
  rw [List.all_cons, List.all_cons, List.all_cons, ih, e1]
  generalize (!pre.any fun y => at1 y z) = A
  generalize (!at1 x z) = B
  generalize (zs.all fun z => !pre.any fun y => at1 y z) = C
  generalize (zs.all fun z => !at1 x z) = D
  cases A <;> cases B <;> cases C <;> cases D <;> rfl
theorem chk_apart : ∀ xs pre, chk pre xs = (xs.all okw && xs.all (fun x => !pre.any fun y => at1 y x) && item_Whole.apart xs)
 | [], pre => rfl
 | x :: xs, pre => by
  unfold chk
  rw [chk_apart xs (pre ++ [x])]
  have ea : item_Whole.apart (x :: xs) = (xs.all (fun y => !at1 x y) && item_Whole.apart xs) := rfl
  rw [ea, List.all_cons, List.all_cons]
  rw [chk_es]
  cases okw x <;> cases (!pre.any fun y => at1 y x) <;> cases xs.all okw <;> cases (xs.all fun z => !pre.any fun y => at1 y z) <;> cases (xs.all fun z => !at1 x z) <;> simp
theorem at1_iff (x y : Wr) : at1 x y = true ↔ (x.f0.toList = y.f0.toList ∧ x.f1.toList = y.f1.toList) := by
 unfold at1
 rw [decide_eq_true_eq, toList_data, toList_data, toList_data, toList_data]
theorem rdM (xs : List Wr) (j : Nat) (h : j < xs.length) : rd_T117 (xs.map rw_) (j : Int) = rw_ xs[j] := by
 rw [rdR _ j (by rw [List.length_map]; exact h), List.getElem_map]
theorem rwhole_l1 (a b c d e : Int) (xs : List Wr) (hz : xs.length ≤ 1000) (i : Nat) (hi : i < xs.length) (K : Nat) : ∀ m j, j + m = i →
  tenementref08_Whole.l1 (K + m + 1) (i : Int) (j : Int) a b c d e (xs.map rw_) = if ((xs.take i).drop j).any (fun y => at1 y xs[i]) = true then some false else tenementref08_Whole.l0 K (wrap64 ((i : Int) + 1)) a b c d e (xs.map rw_) := by
 have hlm : ((xs.map rw_).length : Int) = (xs.length : Int) := by rw [List.length_map]
 intro m
 induction m with
 | zero =>
  intro j hj
  have e0 : (xs.take i).drop j = [] := List.drop_eq_nil_of_le (by rw [List.length_take]; omega)
  rw [Nat.add_zero, tenementref08_Whole.l1, if_neg (by omega), e0, List.any_nil, if_neg (by simp)]
 | succ m ih =>
  intro j hj
  have hjt : j < (xs.take i).length := by rw [List.length_take]; omega
  have e0 : (xs.take i).drop j = xs[j] :: (xs.take i).drop (j + 1) := by
   rw [List.drop_eq_getElem_cons hjt, List.getElem_take]
  rw [show K + (m + 1) + 1 = (K + m + 1) + 1 by omega, tenementref08_Whole.l1, if_pos (by omega), if_pos (by omega), if_pos (by omega), if_pos (by omega), if_pos (by omega), rdM xs j (by omega), rdM xs i hi, e0, List.any_cons, idx j (by omega)]
  by_cases c0 : (rw_ xs[j]).f0.toList = (rw_ xs[i]).f0.toList
  ·rw [if_pos c0]
   by_cases c1 : (rw_ xs[j]).f1.toList = (rw_ xs[i]).f1.toList
   ·rw [if_pos c1, (at1_iff _ _).2 ⟨c0, c1⟩, Bool.true_or, if_pos rfl]
   ·rw [if_neg c1, ih (j + 1) (by omega)]
    have : at1 xs[j] xs[i] = false := by
     rw [← Bool.not_eq_true, at1_iff]
     exact fun h => c1 h.2
    rw [this, Bool.false_or]
  ·rw [if_neg c0, ih (j + 1) (by omega)]
   have : at1 xs[j] xs[i] = false := by
    rw [← Bool.not_eq_true, at1_iff]
    exact fun h => c0 h.1
   rw [this, Bool.false_or]
theorem rwhole_l0 (a b c d e : Int) (xs : List Wr) (hz : xs.length ≤ 8) : ∀ m i K, i + m = xs.length → (m + 1) * 20 ≤ K → tenementref08_Whole.l0 K (i : Int) a b c d e (xs.map rw_) = some (chk (xs.take i) (xs.drop i)) := by
 have hlm : ((xs.map rw_).length : Int) = (xs.length : Int) := by rw [List.length_map]
 intro m
 induction m with
 | zero =>
  intro i K hi hK
  obtain ⟨K, rfl⟩ : ∃ q, K = q + 1 := ⟨K - 1, by omega⟩
  have e0 : xs.drop i = [] := List.drop_eq_nil_of_le (by omega)
  rw [tenementref08_Whole.l0, if_neg (by omega), e0]
  rfl
 | succ m ih =>
  intro i K hi hK
  have hlt : i < xs.length := by omega
  have hK2 : (m + 1) * 20 + 20 ≤ K := Nat.le_trans (Nat.le_of_eq (by rw [Nat.add_mul (m + 1) 1 20, Nat.one_mul])) hK
  obtain ⟨q, hq, hq2⟩ : ∃ q, K = (q + i + 1) + 1 ∧ (m + 1) * 20 ≤ q := by
   clear ih hlm hK
   generalize (m + 1) * 20 = M at *
   exact ⟨K - i - 2, by omega, by omega⟩
  have e0 : xs.drop i = xs[i] :: xs.drop (i + 1) := List.drop_eq_getElem_cons hlt
  rw [hq, tenementref08_Whole.l0, if_pos (by omega), if_pos (by omega), rdM xs i hlt, e0]
  show (tenementref08_Right.f xs[i].f0 xs[i].f1 xs[i].f2 xs[i].f3).bind _ = _
  rw [rright_f, Option.bind_some]
  unfold chk
  have h1 := rwhole_l1 a b c d e xs (by omega) i hlt q i 0 (by omega)
  rw [show ((0 : Nat) : Int) = 0 from rfl, List.drop_zero, idx i (by omega)] at h1
  have et : xs.take i ++ [xs[i]] = xs.take (i + 1) := by
   rw [List.take_add_one, List.getElem?_eq_getElem hlt]
   rfl
  by_cases c1 : okw xs[i] = true
  ·have c1' : decide (okW xs[i].f0 xs[i].f1 xs[i].f2 xs[i].f3) = true := c1
   rw [if_pos c1', h1, c1, Bool.true_and, et]
   by_cases c2 : (xs.take i).any (fun y => at1 y xs[i]) = true
   ·rw [if_pos c2, c2]; rfl
   ·rw [if_neg c2, ih (i + 1) q (by omega) hq2]
    rw [Bool.not_eq_true] at c2
    rw [c2]
    rfl
  ·have c1' : ¬ decide (okW xs[i].f0 xs[i].f1 xs[i].f2 xs[i].f3) = true := c1
   rw [if_neg c1']
   rw [Bool.not_eq_true] at c1
   rw [c1]
   rfl
theorem rwhole_f (a b c d e : Int) (xs : List Wr) {k : Nat} (hk : 250 ≤ k) : tenementref08_Whole.f k a b c d e (xs.map rw_) = some (wh a b c d e xs) := by
 have hlm : ((xs.map rw_).length : Int) = (xs.length : Int) := by rw [List.length_map]
 obtain ⟨k, rfl⟩ : ∃ q, k = q + 1 := ⟨k - 1, by omega⟩
 unfold tenementref08_Whole.f wh
 rw [rsright_f _ _ _ _ _ (by omega), Option.bind_some]
 by_cases c0 : okS a b c d e
 ·rw [if_pos (decide_eq_true c0), decide_eq_true c0, Bool.true_and]
  by_cases c1 : 0 < xs.length
  ·rw [if_neg (by omega), decide_eq_true c1, Bool.true_and, tenementref08_Whole.j0]
   by_cases c2 : xs.length ≤ 8
   ·rw [if_neg (by simp; omega), decide_eq_true c2, Bool.true_and]
    have h := rwhole_l0 a b c d e xs c2 xs.length 0 k (by omega) (by omega)
    rw [show ((0 : Nat) : Int) = 0 from rfl, List.drop_zero, List.take_zero, chk_apart] at h
    rw [h]
    congr 1
    have : (xs.all fun x => !([] : List Wr).any fun y => at1 y x) = true := by simp
    rw [this, Bool.and_true, Bool.and_comm]
   ·rw [if_pos (decide_eq_true (by omega)), decide_eq_false c2]; rfl
  ·rw [if_pos (by omega), decide_eq_false c1, tenementref08_Whole.j0, if_pos rfl]; rfl
 ·rw [if_neg (by simpa using c0), decide_eq_false c0, tenementref08_Whole.j0, if_pos rfl]; rfl
theorem rbytes_l0 (a b c d e : Int) (xs : List Wr) (hok : ∀ x ∈ xs, okw x = true) (hz : xs.length ≤ 1000) : ∀ m i K (o : ByteArray), i + m = xs.length → o.size ≤ 1000 + 100 * i → m + 12 ≤ K →
  tenementref08_Bytes.l0 K o (i : Int) a b c d e (xs.map rw_) = some (enc o (xs.drop i), true) := by
 have hlm : ((xs.map rw_).length : Int) = (xs.length : Int) := by rw [List.length_map]
 intro m
 induction m with
 | zero =>
  intro i K o hi ho hK
  obtain ⟨K, rfl⟩ : ∃ q, K = q + 1 := ⟨K - 1, by omega⟩
  rw [tenementref08_Bytes.l0, if_neg (by omega), List.drop_eq_nil_of_le (by omega)]
  rfl
 | succ m ih =>
  intro i K o hi ho hK
  obtain ⟨K, rfl⟩ : ∃ q, K = q + 1 := ⟨K - 1, by omega⟩
  have hlt : i < xs.length := by omega
  have hx := hok _ (List.getElem_mem hlt)
  have hs := okw_size hx
  have hw := wb_size hx
  have v0 := vary_len_ten (n := xs[i].f0.size) (by omega)
  have v1 := vary_len_ten (n := xs[i].f1.size) (by omega)
  have v2 := vary_len_ten (n := xs[i].f2.size) (by omega)
  have e0 : xs.drop i = xs[i] :: xs.drop (i + 1) := List.drop_eq_getElem_cons hlt
  have t0 : tenementref02_Text.f K (rw_ xs[i]).f0 = some (vs xs[i].f0.size ++ xs[i].f0) := RText_f (s := xs[i].f0) (k := K) (by omega) (by omega)
  have t1 : tenementref02_Text.f K (rw_ xs[i]).f1 = some (vs xs[i].f1.size ++ xs[i].f1) := RText_f (s := xs[i].f1) (k := K) (by omega) (by omega)
  have t2 : tenementref02_Text.f K (rw_ xs[i]).f2 = some (vs xs[i].f2.size ++ xs[i].f2) := RText_f (s := xs[i].f2) (k := K) (by omega) (by omega)
  have s0 : (vs xs[i].f0.size ++ xs[i].f0).size ≤ 26 := by rw [ByteArray.size_append, vs_size]; omega
  have s1 : (vs xs[i].f1.size ++ xs[i].f1).size ≤ 26 := by rw [ByteArray.size_append, vs_size]; omega
  have s2 : (vs xs[i].f2.size ++ xs[i].f2).size ≤ 42 := by rw [ByteArray.size_append, vs_size]; omega
  have hnext : tenementref08_Bytes.l0 K (o ++ wb xs[i]) (wrap64 ((i : Int) + 1)) a b c d e (xs.map rw_) = some (enc o (xs.drop i), true) := by
   rw [idx i (by omega), ih (i + 1) K _ (by omega) (by rw [ByteArray.size_append]; omega) (by omega), e0]
   rfl
  rw [tenementref08_Bytes.l0, if_pos (by omega), if_pos (by omega), rdM xs i hlt, t0, Option.bind_some, if_pos (by omega), t1, Option.bind_some, if_pos (by rw [ByteArray.size_append]; omega)]
  unfold wb at hnext
  by_cases c : xs[i].f3 = true
  ·have c' : (rw_ xs[i]).f3 = true := c
   rw [if_pos c', if_pos (by rw [ByteArray.size_append, ByteArray.size_append]; omega)]
   rw [if_pos c] at hnext
   rw [ba_assoc o, ba_assoc o]
   exact hnext
  ·have c' : ¬ (rw_ xs[i]).f3 = true := c
   rw [if_neg c', if_pos (by rw [ByteArray.size_append, ByteArray.size_append]; omega), t2, Option.bind_some, if_pos (by rw [ByteArray.size_append, ByteArray.size_append, ByteArray.size_append, z0]; omega)]
   rw [if_neg c] at hnext
   rw [ba_assoc o, ba_assoc o, ba_assoc o, ba_assoc (vs xs[i].f0.size ++ xs[i].f0 ++ (vs xs[i].f1.size ++ xs[i].f1))]
   exact hnext
theorem bytes_true {a b c g e : Nat} {xs : List Wr} (h : wh a b c g e xs = true) (hx : ∀ x ∈ xs, fits x) {k : Nat} (hk : 300 ≤ k) :
  item_Bytes.f k a b c g e xs = some (enc (sp e a b c g ++ nb xs.length 1) xs, true) ∧ tenementref08_Bytes.f k a b c g e (xs.map rw_) = some (enc (sp e a b c g ++ nb xs.length 1) xs, true) := by
 obtain ⟨hS, h0, h8, _, hok⟩ := wh_true h
 have hb := hS.1
 have hsz := (sp_size (n0 := a) (n1 := b) (n2 := c) (n3 := g) e (by omega) (by omega) (by omega) (by omega)).1
 have hn := nb_size xs.length 1
 obtain ⟨r, q1, q2⟩ := put_same (n := xs.length) (K := 1) (by omega) (by decide) (k := k) (by omega)
 rw [Number_f xs.length 1 (by omega) (by omega)] at q1
 obtain rfl := Option.some.inj q1
 constructor
 ·unfold item_Bytes.f
  rw [whole_f _ _ _ _ _ xs hx (by omega), Option.bind_some, if_pos h, sput_true hS (by omega), Option.bind_some, wrap_u64 (by omega) (by omega), Number_f xs.length 1 (by omega) (by omega), Option.bind_some]
  show (if (sp e a b c g).size + (nb xs.length 1).size ≤ 9223372036854775807 then _ else _) = _
  rw [if_pos (by omega)]
  have := ibytes_l0 xs hok (by omega) xs.length 0 k (sp e a b c g ++ nb xs.length 1) (by omega) (by rw [ByteArray.size_append]; omega) (by omega)
  rw [List.drop_zero] at this
  exact this
 ·have hlm : ((xs.map rw_).length : Int) = (xs.length : Int) := by rw [List.length_map]
  unfold tenementref08_Bytes.f
  rw [rwhole_f _ _ _ _ _ xs (by omega), Option.bind_some, if_pos h, rsput_true hS (by omega), Option.bind_some, hlm, wrap_u64 (by omega) (by omega), q2, Option.bind_some]
  show (if (sp e a b c g).size + (nb xs.length 1).size ≤ 9223372036854775807 then _ else _) = _
  rw [if_pos (by omega)]
  have := rbytes_l0 a b c g e xs hok (by omega) xs.length 0 k (sp e a b c g ++ nb xs.length 1) (by omega) (by rw [ByteArray.size_append]; omega) (by omega)
  rw [List.drop_zero] at this
  exact this
end Go.Proofs.Ytoagfdpgnfinhaa.Pure

set_option linter.unusedVariables false
set_option linter.unusedSimpArgs false
namespace Go.Proofs.Ytoagfdpgnfinhaa.Pure
open Go.RowKit Go.Proofs.Ytoagfdpgnfinhaa.Q Go.Proofs.YtoagfdpgnfinhaaW.PrintWords Go.Proofs.YtoagfdpgnfinhaaW.PrintLast Go.Proofs.YtoagfdpgnfinhaaW.PrintMore Go.Proofs.Ytoagfdpgnfinhaa.Plain Go.Proofs.Ytoagfdpgnfinhaa.CrcN
theorem refMsg_f (kind frm n a b c d e : Int) (l : List Wr) (hz : l.length < 2513169434916) {k : Nat} (hk : l.length + 1 ≤ k) : tenementlaw15_refMsg.f k kind frm n a b c d e l = some (kind, frm, n, a, b, c, d, e, l.map rw_) := by
 unfold tenementlaw15_refMsg.f
 rw [refTxn_f a b c d e l hz hk, Option.bind_some]
theorem rmright_f (kind frm n a b c d e : Int) (xs : List Wr) {k : Nat} (hk : 260 ≤ k) : tenementref15_Right.f k kind frm n a b c d e (xs.map rw_) = some (okM kind frm n a b c d e xs) := by
 obtain ⟨k, rfl⟩ : ∃ m, k = m + 1 := ⟨k - 1, by omega⟩
 have J : ∀ x : Bool, tenementref15_Right.j0 (k + 1) x kind frm n a b c d e (xs.map rw_) = some (if x = true then false else (if kind = 1 then (wh a b c d e xs && decide (n = own a b c d e)) else if kind = 2 then (decide (n ≤ 1152921504606846976) && sameT a b c d e xs 0 0 0 0 0 []) else false)) := by
  intro x
  rw [tenementref15_Right.j0]
  by_cases h0 : x = true
  ·rw [if_pos h0, if_pos h0]
  rw [if_neg h0, if_neg h0]
  by_cases h1 : kind = 1
  ·rw [if_pos h1, if_pos h1, rwhole_f _ _ _ _ _ xs (by omega), Option.bind_some]
   cases hw : wh a b c d e xs with
   | false => rw [if_neg (by simp)]; rfl
   | true =>
    rw [if_pos rfl, rN_f, Option.bind_some, Bool.true_and]
    congr 1
  rw [if_neg h1, if_neg h1]
  by_cases h2 : kind = 2
  ·rw [if_pos h2, if_pos h2]
   by_cases h3 : n ≤ 1152921504606846976
   ·rw [if_pos h3, decide_eq_true h3, Bool.true_and]
    unfold sameT
    cases ((a == 0 && (b == 0 && (c == 0 && (d == 0)))) && (e == 0)) with
    | false => rw [if_neg (by simp)]; rfl
    | true =>
     rw [if_pos rfl, Bool.true_and, List.length_map]
     cases xs with
     | nil => rfl
     | cons y ys => simp; omega
   ·rw [if_neg h3, decide_eq_false h3, Bool.false_and]
  ·rw [if_neg h2, if_neg h2]
 unfold tenementref15_Right.f okM
 by_cases f1 : frm < 1
 ·rw [if_pos f1, J, if_pos rfl, decide_eq_false (show ¬ (1 ≤ frm ∧ frm ≤ 4) by omega), Bool.false_and]
 rw [if_neg f1, J]
 by_cases f4 : frm > 4
 ·rw [decide_eq_true f4, if_pos rfl, decide_eq_false (show ¬ (1 ≤ frm ∧ frm ≤ 4) by omega), Bool.false_and]
 ·rw [decide_eq_false f4, if_neg (by simp), decide_eq_true (show 1 ≤ frm ∧ frm ≤ 4 by omega), Bool.true_and]
theorem rnumb {n : Nat} {m : Nat} (hn : n < 18446744073709551616) (h1 : 1 ≤ m) (h8 : m ≤ 8) {k : Nat} (hk : 34 ≤ k) : tenementref02_Number.f k (n : Int) (m : Int) = some (nb n m) := by
 have hw : (Lit.int .i64 (m : Int)).wf = true := by
  have : IntKind.i64.min ≤ (m : Int) ∧ (m : Int) ≤ IntKind.i64.max := by
   have e1 : IntKind.i64.min = -9223372036854775808 := rfl
   have e2 : IntKind.i64.max = 9223372036854775807 := rfl
   omega
  simpa only [Lit.wf, Bool.and_eq_true, decide_eq_true_eq] using this
 obtain ⟨r, q1, q2⟩ := put_same (n := n) (K := (m : Int)) hn hw (k := k) hk
 rw [Number_f n (m : Int) (by omega) (by omega)] at q1
 rw [q2, ← q1]
 rfl
theorem rmput_no {kind frm n a b c d e : Int} {xs : List Wr} (h : okM kind frm n a b c d e xs = false) {k : Nat} (hk : 260 ≤ k) : tenementref15_Put.f k kind frm n a b c d e (xs.map rw_) = some (⟨#[]⟩, false) := by
 unfold tenementref15_Put.f
 rw [rmright_f kind frm n a b c d e xs hk, h, Option.bind_some, if_neg (by simp)]
theorem rmput_ok {kind frm n a b c d e : Nat} {xs : List Wr} (hx : ∀ x ∈ xs, fits x) (hz : xs.length ≤ 1000) (h : okM kind frm n a b c d e xs = true) {k : Nat} (hk : 200000 ≤ k) :
  tenementref15_Put.f k kind frm n a b c d e (xs.map rw_) = some (sealq (mq kind frm n a b c d e xs), true) := by
 have hr := rmright_f kind frm n a b c d e xs (k := k) (by omega)
 obtain ⟨hf, hk2⟩ := okM_kind h
 have hn : n < 18446744073709551616 := by
  rcases hk2 with ⟨_, hw, e1⟩ | ⟨_, h2, _⟩
  ·have := own_u64 hw e1; omega
  ·omega
 have e1 : IntKind.u64.wrap (kind : Int) = (kind : Int) := by simp only [IntKind.wrap_u64]; omega
 have e2 : IntKind.u64.wrap (frm : Int) = (frm : Int) := by simp only [IntKind.wrap_u64]; omega
 have s1 := nb_size kind 1
 have s2 := nb_size frm 1
 have hv : (vs n).size ≤ 10 := by rw [vs_size]; exact vary_len_ten hn
 have hp := pre_size (kind := kind) (frm := frm) hn
 have n1 := rnumb (n := kind) (m := 1) (by omega) (by omega) (by omega) (k := k) (by omega)
 have n2 := rnumb (n := frm) (m := 1) (by omega) (by omega) (by omega) (k := k) (by omega)
 rw [show ((1 : Nat) : Int) = 1 from rfl] at n1 n2
 unfold tenementref15_Put.f mq
 rw [hr, h, Option.bind_some, if_pos rfl, e1, n1, Option.bind_some, e2, n2, Option.bind_some]
 have s3 : (nb kind 1 ++ nb frm 1).size = 2 := by rw [ByteArray.size_append]; omega
 rw [if_pos (by omega), RVary_f hn (by omega), Option.bind_some, if_pos (by omega)]
 generalize (nb kind 1 ++ nb frm 1) ++ vs n = p at *
 have fin : ∀ q : ByteArray, q.size ≤ 101000 → ((tenementref01_Sum.f k q).bind fun t157 => ((tenementref02_Number.f k (IntKind.u64.wrap t157) 4).bind fun t158 => (if q.size + t158.size ≤ 9223372036854775807 then (some (q ++ t158, true)) else none))) = some (sealq q, true) := by
  intro q hq
  have hs : sum (bl q) < 2 ^ 32 := sum_lt (bl_lt q)
  have ew : IntKind.u64.wrap ((sum (bl q) : Nat) : Int) = ((sum (bl q) : Nat) : Int) := by simp only [IntKind.wrap_u64]; omega
  have n4 := rnumb (n := sum (bl q)) (m := 4) (by omega) (by omega) (by omega) (k := k) (by omega)
  rw [show ((4 : Nat) : Int) = 4 from rfl] at n4
  rw [refSum_f (by omega) (by omega), Option.bind_some, ew, n4, Option.bind_some]
  have := nb_size (sum (bl q)) 4
  rw [if_pos (by omega)]
  rfl
 rcases hk2 with ⟨rfl, hw, _⟩ | ⟨rfl, _, rfl, rfl, rfl, rfl, rfl, rfl⟩
 ·have ht := txn_size hw (bl_txn hw)
  have hb := (bytes_true hw hx (k := k) (by omega)).2
  rw [if_pos (show ((1 : Nat) : Int) = 1 from rfl), hb, Option.bind_some, if_pos rfl]
  generalize enc (sp e a b c d ++ nb xs.length 1) xs = u at *
  have hv2 : (vs u.size).size ≤ 10 := by rw [vs_size]; exact vary_len_ten (by omega)
  have s6 : (vs u.size ++ u).size ≤ 100010 := by rw [ByteArray.size_append]; omega
  have s7 : (p ++ (vs u.size ++ u)).size ≤ 100100 := by rw [ByteArray.size_append]; omega
  show (tenementref02_Text.f k u).bind _ = some (_, true)
  rw [RText_f (by omega) (by omega), Option.bind_some, if_pos (by omega)]
  exact fin _ (by omega)
 ·rw [if_neg (show ¬ ((2 : Nat) : Int) = 1 by decide), if_neg (by decide)]
  exact fin _ (by omega)
theorem mput_same {kind frm : Int} {n a b c d : Nat} {e : Int} {xs : List Wr} (hx : ∀ x ∈ xs, fits x) (hz : xs.length ≤ 1000) {k : Nat} (hk : 200000 ≤ k) :
  ∃ t o, stream_Put.f k kind frm n a b c d e xs = some (t, o) ∧ tenementref15_Put.f k kind frm n a b c d e (xs.map rw_) = some (t, o) := by
 cases h : okM kind frm n a b c d e xs with
 | false => exact ⟨_, _, mput_no hx hz h (by omega), rmput_no h (by omega)⟩
 | true =>
  have h' := h
  unfold okM at h'
  rw [Bool.and_eq_true, decide_eq_true_eq] at h'
  obtain ⟨f, ef⟩ : ∃ f : Nat, frm = (f : Int) := ⟨frm.toNat, by omega⟩
  obtain ⟨⟨q, eq⟩, ⟨g, eg⟩⟩ : (∃ q : Nat, kind = (q : Int)) ∧ (∃ g : Nat, e = (g : Int)) := by
   by_cases c1 : kind = 1
   ·rw [if_pos c1, Bool.and_eq_true] at h'
    have := okS_dc (wh_true h'.2.1).1
    exact ⟨⟨1, c1⟩, ⟨e.toNat, by omega⟩⟩
   ·by_cases c2 : kind = 2
    ·rw [if_neg c1, if_pos c2, Bool.and_eq_true] at h'
     have hs := h'.2.2
     unfold sameT at hs
     simp only [Bool.and_eq_true, beq_iff_eq] at hs
     exact ⟨⟨2, c2⟩, ⟨0, hs.1.1.2⟩⟩
    ·rw [if_neg c1, if_neg c2] at h'; simp at h'
  subst ef
  subst eq
  subst eg
  exact ⟨_, _, (mput_ok hx hz h (by omega)).1, rmput_ok hx hz h hk⟩
theorem letter_any (kd fr n0 v0 v1 v2 v3 d : Int) (hn : (Lit.int .u64 n0).wf = true) (h0 : (Lit.int .u64 v0).wf = true) (h1 : (Lit.int .u64 v1).wf = true) (h2 : (Lit.int .u64 v2).wf = true) (h3 : (Lit.int .u64 v3).wf = true) (h4 : (Lit.int .i64 d).wf = true) (o q w : Bool) (l : List Pt) (hl : ∀ p ∈ l, fits p.f0) (hz : l.length ≤ 4611686018427387904) {K : Nat} (hK : (l.length + 1) * 15 + 10 ≤ K) :
  ∃ (kind frm : Int) (n a b c g : Nat) (e : Int) (xs : List Wr), tenementlaw15_Letter_letter.f K kd fr n0 v0 v1 v2 v3 d o l q w = some (kind, frm, (n : Int), (a : Int), (b : Int), (c : Int), (g : Int), e, xs) ∧ (∀ x ∈ xs, fits x) ∧ xs.length ≤ 10 := by
 cases w with
 | true =>
  obtain ⟨kind, frm, n, a, b, c, g, e, xs, eL, hM⟩ := letter_own kd fr n0 v0 v1 v2 v3 d hn h0 h1 h2 o q l hl hz hK
  exact ⟨kind, frm, n, a, b, c, g, e, xs, eL, hM.2.2.2.1, by have := hM.2.2.2.2.1; omega⟩
 | false =>
  obtain ⟨a, b, c, g, e, xs, ed, hf, h10⟩ := deal_f v0 v1 v2 v3 d h0 h1 h2 h3 h4 o q l hl hz hK
  have hn := u64_of hn
  unfold tenementlaw15_Letter_letter.f
  rw [if_neg (by simp), ed, Option.bind_some]
  exact ⟨kd, fr, n0.toNat, a, b, c, g, e, xs, by rw [Int.toNat_of_nonneg hn.1], hf, h10⟩
theorem StreamTells : tenementlaw15_StreamTells.Pure := by
 intro x y z hx hy hz
 obtain ⟨⟨x0, x1, x2, x3⟩, xo⟩ := x
 obtain ⟨⟨⟨y0, y1, y2, y3⟩, y4⟩, yo⟩ := y
 obtain ⟨kd, fr, n0, ⟨⟨⟨⟨v0, v1, v2, v3⟩, d⟩, o⟩, l, q⟩, ow⟩ := z
 have hD := hz.2.2.2.1
 have hw := hD.1.1
 have hl : ∀ p ∈ l, fits p.f0 := fun p hp => ⟨(hD.2.1.1 p hp).1.1, (hD.2.1.1 p hp).1.2.1, (hD.2.1.1 p hp).1.2.2.1⟩
 have hlen : l.length * 64 ≤ 140737488351232 := hD.2.1.2
 obtain ⟨a0, a1, a2, a3, ev, _, _, _, _⟩ := vector_f hx.1.1 hx.1.2.1 hx.1.2.2.1 hx.1.2.2.2 xo (k := (l.length + 1) * 15 + 200000) (by omega)
 obtain ⟨m0, m1, m2, m3, dc, em, _⟩ := mark_any hy.1.1.1 hy.1.1.2.1 hy.1.1.2.2.1 hy.1.1.2.2.2 hy.1.2 yo (k := (l.length + 1) * 15 + 200000) (by omega)
 obtain ⟨kind, frm, n, a, b, c, g, e, xs, eL, hf, h10⟩ := letter_any kd fr n0 v0 v1 v2 v3 d hz.2.2.1 hw.1.1 hw.1.2.1 hw.1.2.2.1 hw.1.2.2.2 hw.2 o q ow l hl (by omega) (K := (l.length + 1) * 15 + 200000) (by omega)
 refine ⟨(l.length + 1) * 15 + 200000, ?_⟩
 show tenementlaw15_StreamTells.f ((l.length + 1) * 15 + 200000) x0 x1 x2 x3 xo y0 y1 y2 y3 y4 yo kd fr n0 v0 v1 v2 v3 d o l q ow = some true
 have hK : 200000 ≤ (l.length + 1) * 15 + 200000 := by omega
 generalize (l.length + 1) * 15 + 200000 = K at ev em eL hK ⊢
 clear hx hy hz hD hw hl hlen
 obtain ⟨t, ok, p1, p2⟩ := mput_same (kind := kind) (frm := frm) (n := n) (a := a) (b := b) (c := c) (d := g) (e := e) hf (by omega) hK
 obtain ⟨r, r1, r2⟩ := ready_same (a0 := a0) (a1 := a1) (a2 := a2) (a3 := a3) (s0 := m0) (s1 := m1) (s2 := m2) (s3 := m3) (dc := dc) (by omega) (k := K) (by omega)
 have q1 := mright_f kind frm n a b c g e xs hf (by omega) (k := K) (by omega)
 have q2 := rmright_f kind frm n a b c g e xs (k := K) (by omega)
 have q3 := refMsg_f kind frm n a b c g e xs (by omega) (k := K) (by omega)
 have q4 : tenementlaw15_refStamp.f (m0 : Int) (m1 : Int) (m2 : Int) (m3 : Int) dc = some ((m0 : Int), (m1 : Int), (m2 : Int), (m3 : Int), dc) := rfl
 unfold tenementlaw15_StreamTells.f
 rw [show tenementlaw15_examples.f = some true from rfl, Option.bind_some, if_pos rfl, ev, Option.bind_some, em, Option.bind_some, eL, Option.bind_some]
 dsimp only
 rw [p1, Option.bind_some, q3, Option.bind_some]
 dsimp only
 rw [p2, Option.bind_some, r1, Option.bind_some, q4, Option.bind_some]
 dsimp only
 rw [r2, Option.bind_some, if_pos rfl, q1, Option.bind_some, Option.bind_some]
 dsimp only
 rw [q2, Option.bind_some, if_pos rfl, if_pos rfl, if_pos rfl]
end Go.Proofs.Ytoagfdpgnfinhaa.Pure
