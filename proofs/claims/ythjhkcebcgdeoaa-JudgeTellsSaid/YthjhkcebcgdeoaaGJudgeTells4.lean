import Derived.Test.YthjhkcebcgdeoaaGJudgeTells2
import Derived.Test.YthjhkcebcgdeoaaGJudgeTells3
import Derived.Maps.AppendAt
import Derived.Maps.RangeWalk
import Derived.Maps.OwnSet
import Derived.DeepKeys4
import Derived.Carry
namespace Go.Proofs.Ythjhkcebcgdeoaa.Q
open Go.RowKit Go.Proofs.YthjhkcebcgdeoaaW.PrintWords Go.Proofs.YthjhkcebcgdeoaaW.PrintLast Go.Proofs.YthjhkcebcgdeoaaW.PrintMore
attribute [local go_sem] max2_int min2_int max_two min_two max_three min_three max_four min_four   -- for this text's walks alone
set_option linter.unusedVariables false
set_option linter.unusedSimpArgs false
def judge_Read.ok (l : List S64) : Prop := l.length ≤ 1000000 ∧ ∀ x ∈ l, x.f1.length ≤ 1000
instance judge_Read.dec (l : List S64) : Decidable (judge_Read.ok l) := inferInstanceAs (Decidable (_ ∧ _))
def judge_Read.od (x y : S56) : Int := Go.Proofs.Ythjhkcebcgdeoaa.Pure.lex (Go.Proofs.Ythjhkcebcgdeoaa.Pure.key x.f0.f0 x.f0.f1 x.f0.f2 x.f0.f3 x.f1) (Go.Proofs.Ythjhkcebcgdeoaa.Pure.key y.f0.f0 y.f0.f1 y.f0.f2 y.f0.f3 y.f1)
def judge_Read.f (l0 : List S64) (a1 a2 : ByteArray) (a3_0 a3_1 a3_2 a3_3 : Int) : Option (ByteArray × Bool) := if judge_Read.ok l0 then some (if (Go.Proofs.Ythjhkcebcgdeoaa.Jud.lst (fun x => decide (x.f0.f0 ≤ a3_0 ∧ x.f0.f1 ≤ a3_1 ∧ x.f0.f2 ≤ a3_2 ∧ x.f0.f3 ≤ a3_3)) judge_Read.od a1 a2 l0).f3 then ⟨#[]⟩ else (Go.Proofs.Ythjhkcebcgdeoaa.Jud.lst (fun x => decide (x.f0.f0 ≤ a3_0 ∧ x.f0.f1 ≤ a3_1 ∧ x.f0.f2 ≤ a3_2 ∧ x.f0.f3 ≤ a3_3)) judge_Read.od a1 a2 l0).f2, !(Go.Proofs.Ythjhkcebcgdeoaa.Jud.lst (fun x => decide (x.f0.f0 ≤ a3_0 ∧ x.f0.f1 ≤ a3_1 ∧ x.f0.f2 ≤ a3_2 ∧ x.f0.f3 ≤ a3_3)) judge_Read.od a1 a2 l0).f3) else none
theorem judge_Read.calls (A0 : Option Addr) (c0 : Nat) (l0 : List S64) (a1 a2 : ByteArray) (a3_0 a3_1 a3_2 a3_3 : Int) (r1 : ByteArray) (r2 : Bool) (w : World) (hr0 : Kd.C k64 w A0 l0.length l0) (hc0 : l0.length ≤ c0) (h : judge_Read.f l0 a1 a2 a3_0 a3_1 a3_2 a3_3 = some (r1, r2)) :
  Calls Try.prog 14 #[.slice A0 l0.length c0, .string a1, .string a2, .agg #[.int .u64 a3_0, .int .u64 a3_1, .int .u64 a3_2, .int .u64 a3_3]] w fun e w' => e = .returned (.tuple #[.string r1, .bool r2]) ∧ Below w.heap.size w w' := by
 unfold judge_Read.f at h
 by_cases hc : judge_Read.ok l0
 rotate_left
 ·rw [if_neg hc] at h; cases h
 rw [if_pos hc] at h
 injection h with h
 injection h with h1 h2
 rw [← h1, ← h2]
 exact Go.Proofs.Ythjhkcebcgdeoaa.Jud.read_is judge_Read.od (fun x => decide (x.f0.f0 ≤ a3_0 ∧ x.f0.f1 ≤ a3_1 ∧ x.f0.f2 ≤ a3_2 ∧ x.f0.f3 ≤ a3_3)) a3_0 a3_1 a3_2 a3_3 a1 a2 A0 c0 l0 w hr0 hc0 hc.1 (fun x hx => Nat.le_trans (hc.2 x hx) (by decide)) (fun x _ y _ => ⟨5, Go.Proofs.Ythjhkcebcgdeoaa.Pure.order_f _ _ _ _ _ _ _ _ _ _ (Nat.le_refl _)⟩) (fun x _ => Go.Proofs.Ythjhkcebcgdeoaa.Pure.jseen_f _ _ _ _ _ _ _ _ _) _ rfl
def judge_Last.ok (l : List S64) : Prop := l.length ≤ 1000000 ∧ ∀ x ∈ l, x.f1.length ≤ 1000
instance judge_Last.dec (l : List S64) : Decidable (judge_Last.ok l) := inferInstanceAs (Decidable (_ ∧ _))
def judge_Last.od (x y : S56) : Int := Go.Proofs.Ythjhkcebcgdeoaa.Pure.lex (Go.Proofs.Ythjhkcebcgdeoaa.Pure.key x.f0.f0 x.f0.f1 x.f0.f2 x.f0.f3 x.f1) (Go.Proofs.Ythjhkcebcgdeoaa.Pure.key y.f0.f0 y.f0.f1 y.f0.f2 y.f0.f3 y.f1)
def judge_Last.f (l0 : List S64) (a1 a2 : ByteArray) : Option (ByteArray × Bool) := if judge_Last.ok l0 then some (if (Go.Proofs.Ythjhkcebcgdeoaa.Jud.lst (fun _ => true) judge_Last.od a1 a2 l0).f3 then ⟨#[]⟩ else (Go.Proofs.Ythjhkcebcgdeoaa.Jud.lst (fun _ => true) judge_Last.od a1 a2 l0).f2, !(Go.Proofs.Ythjhkcebcgdeoaa.Jud.lst (fun _ => true) judge_Last.od a1 a2 l0).f3) else none
theorem judge_Last.calls (A0 : Option Addr) (c0 : Nat) (l0 : List S64) (a1 a2 : ByteArray) (r1 : ByteArray) (r2 : Bool) (w : World) (hr0 : Kd.C k64 w A0 l0.length l0) (hc0 : l0.length ≤ c0) (h : judge_Last.f l0 a1 a2 = some (r1, r2)) :
  Calls Try.prog 16 #[.slice A0 l0.length c0, .string a1, .string a2] w fun e w' => e = .returned (.tuple #[.string r1, .bool r2]) ∧ Below w.heap.size w w' := by
 unfold judge_Last.f at h
 by_cases hc : judge_Last.ok l0
 rotate_left
 ·rw [if_neg hc] at h; cases h
 rw [if_pos hc] at h
 injection h with h
 injection h with h1 h2
 rw [← h1, ← h2]
 exact Go.Proofs.Ythjhkcebcgdeoaa.Jud.last_is judge_Last.od a1 a2 A0 c0 l0 w hr0 hc0 hc.1 (fun x hx => Nat.le_trans (hc.2 x hx) (by decide)) (fun x _ y _ => ⟨5, Go.Proofs.Ythjhkcebcgdeoaa.Pure.order_f _ _ _ _ _ _ _ _ _ _ (Nat.le_refl _)⟩) _ rfl
end Go.Proofs.Ythjhkcebcgdeoaa.Q

set_option linter.unusedVariables false
set_option linter.unusedSimpArgs false
namespace Go.Proofs.Ythjhkcebcgdeoaa.Jud
open Go Go.RowKit Go.WideShapes Go.Proofs.Ythjhkcebcgdeoaa.Q Go.Proofs.YthjhkcebcgdeoaaW.PrintWords Go.Proofs.YthjhkcebcgdeoaaW.PrintLast Go.Proofs.YthjhkcebcgdeoaaW.PrintMore
open Go.Proofs.Ythjhkcebcgdeoaa.Pure (wrap64_id toList_data toList_iff)
def rowOf (l : List Int) (rest : List Value) : Array Value := (l.map (Value.int .i64) ++ rest).toArray
theorem rowOf_at (l : List Int) (rest : List Value) (j : Nat) (x : Int) (h : l[j]? = some x) : (rowOf l rest)[j]? = some (.int .i64 x) := by
 obtain ⟨hj, hx⟩ := List.getElem?_eq_some_iff.1 h
 unfold rowOf
 rw [List.getElem?_toArray, List.getElem?_append_left (by rw [List.length_map]; exact hj), List.getElem?_map, h]
 rfl
theorem rowOf_set (l : List Int) (rest : List Value) (j : Nat) (x : Int) (h : j < l.length) : (rowOf l rest).setIfInBounds j (.int .i64 x) = rowOf (l.set j x) rest := by
 unfold rowOf
 rw [List.setIfInBounds_toArray, List.set_append_left _ _ (by rw [List.length_map]; exact h), List.map_set]
theorem reps_ints {w : World} {base : Nat} {ok : Nat → Prop} : ∀ {xs : List Int} {cs : List Value}, Reps ((Kd.int .i64).M w base ok) 1 xs cs → cs = xs.map (Value.int .i64)
 | [], cs, h => by
  have := h.1
  simp at this
  rw [this]; rfl
 | x :: xs, [], h => by have := h.1; simp at this
 | x :: xs, c :: cs, h => by
  have h0 : [c] = [Value.int .i64 x] := h.2 0 x rfl
  have ht : Reps ((Kd.int .i64).M w base ok) 1 xs cs := ⟨by have := h.1; simp at this ⊢; omega, fun j p hj => by
   have h1 := h.2 (j + 1) p (by simpa using hj)
   rw [show (j + 1) * 1 = j * 1 + 1 by omega, List.drop_succ_cons] at h1
   exact h1⟩
  injection h0 with h0
  rw [h0, reps_ints ht]
  rfl
theorem reps_of {w : World} {base : Nat} {ok : Nat → Prop} (xs : List Int) : Reps ((Kd.int .i64).M w base ok) 1 xs (xs.map (Value.int .i64)) :=
 ⟨by simp, fun j p hj => by
  have h1 : (xs.map (Value.int .i64))[j]? = some (.int .i64 p) := by rw [List.getElem?_map, hj]; rfl
  obtain ⟨hlt, hx⟩ := List.getElem?_eq_some_iff.1 h1
  show ((xs.map (Value.int .i64)).drop (j * 1)).take 1 = [.int .i64 p]
  rw [Nat.mul_one, List.drop_eq_getElem_cons hlt, hx]
  rfl⟩
theorem own_shut {e : Nat} {w : World} {base : Nat} {ok : Nat → Prop} {xs : List Int} {g cap : Nat} {rest : List Value} (hg : base ≤ g) (hok : ok g) (hh : w.heap[g]? = some (.cells (rowOf xs rest) e (0, 0))) (hn : xs.length ≤ cap) (hm : cap ≤ maxLen) (hc : (xs.map (Value.int .i64) ++ rest).length = cap) :
  Kd.R (Kd.int .i64) e w base ok (.slice (some ⟨g, 0, none⟩) xs.length cap) xs := by
 refine ⟨fun k hk => ?_, xs.map (Value.int .i64), ⟨by rw [List.length_map]; exact (Nat.mul_one _).symm, .inr ⟨g, cap, rowOf xs rest, rfl, hg, hh, hn, hm, ?_, ?_⟩⟩, reps_of xs⟩
 ·simp only [Value.ownBlock, Option.some.injEq] at hk
  exact hk ▸ hok
 ·show (rowOf xs rest).size = cap * 1
  unfold rowOf
  rw [List.size_toArray, hc, Nat.mul_one]
 ·show (rowOf xs rest).toList.take (xs.length * 1) = _
  unfold rowOf
  rw [Nat.mul_one, List.take_append_of_le_length (by rw [List.length_map]; exact Nat.le_refl _), List.take_of_length_le (by rw [List.length_map]; exact Nat.le_refl _)]
def past (cf : Int → Int → Int) (x : Int) : List Int → List Int
 | [] => [x]
 | y :: r => if cf x y < 0 then y :: past cf x r else x :: y :: r
def put (cf : Int → Int → Int) (s : List Int) (x : Int) : List Int := (past cf x s.reverse).reverse
def srt (cf : Int → Int → Int) (l : List Int) : List Int := l.foldl (put cf) []
theorem past_length (cf : Int → Int → Int) (x : Int) : ∀ r, (past cf x r).length = r.length + 1
 | [] => rfl
 | y :: r => by
  unfold past
  split
  ·simp [past_length cf x r]
  ·simp
theorem put_length (cf : Int → Int → Int) (s : List Int) (x : Int) : (put cf s x).length = s.length + 1 := by
 unfold put
 rw [List.length_reverse, past_length, List.length_reverse]
theorem foldl_put_length (cf : Int → Int → Int) : ∀ (l s : List Int), (l.foldl (put cf) s).length = s.length + l.length
 | [], s => rfl
 | x :: l, s => by rw [List.foldl_cons, foldl_put_length cf l, put_length]; simp; omega
theorem srt_length (cf : Int → Int → Int) (l : List Int) : (srt cf l).length = l.length := by
 unfold srt
 rw [foldl_put_length]
 simp
theorem srt_snoc (cf : Int → Int → Int) (l : List Int) (x : Int) : srt cf (l ++ [x]) = put cf (srt cf l) x := by unfold srt; rw [List.foldl_append]; rfl
theorem past_mem (cf : Int → Int → Int) (x : Int) : ∀ (r : List Int) (y : Int), y ∈ past cf x r ↔ y = x ∨ y ∈ r
 | [], y => by simp [past]
 | z :: r, y => by
  unfold past
  split
  ·rw [List.mem_cons, past_mem cf x r y, List.mem_cons]
   constructor
   ·rintro (h | h | h)
    ·exact .inr (.inl h)
    ·exact .inl h
    ·exact .inr (.inr h)
   ·rintro (h | h | h)
    ·exact .inr (.inl h)
    ·exact .inl h
    ·exact .inr (.inr h)
  ·rw [List.mem_cons]
theorem srt_mem (cf : Int → Int → Int) (y : Int) : ∀ (l s : List Int), y ∈ l.foldl (put cf) s ↔ y ∈ s ∨ y ∈ l
 | [], s => by simp
 | x :: l, s => by
  rw [List.foldl_cons, srt_mem cf y l]
  unfold put
  rw [List.mem_reverse, past_mem, List.mem_reverse, List.mem_cons]
  constructor
  ·rintro ((h | h) | h)
   ·exact .inr (.inl h)
   ·exact .inl h
   ·exact .inr (.inr h)
  ·rintro (h | h | h)
   ·exact .inl (.inr h)
   ·exact .inl (.inl h)
   ·exact .inr h
theorem grown_set {w W : World} {r j : Nat} (h : w.grownBy W (some r)) (v : Value) : w.grownBy (W.setCell ⟨r, j, none⟩ v) (some r) :=
 ⟨h.os, h.tape, h.output, by simpa using h.size, fun k hk hne => (Below.heap_setCell _ _ _ k (fun e => hne (by rw [e]))).trans (h.block k hk hne)⟩
theorem grown_below {w W w1 : World} {r : Nat} (h : w.grownBy W (some r)) (hb : Below W.heap.size W w1) : w.grownBy w1 (some r) :=
 ⟨hb.os.trans h.os, hb.tape.trans h.tape, hb.output.trans h.output, Nat.le_trans h.size hb.size, fun k hk hne => (hb.block k (Nat.lt_of_lt_of_le hk h.size)).trans (h.block k hk hne)⟩
theorem grown_drew {w W : World} {r : Nat} (h : w.grownBy W (some r)) : w.grownBy W.drew (some r) := ⟨h.os, h.tape, h.output, h.size, h.block⟩
theorem cur_at (pre c tl : List Int) (x : Int) : (pre.reverse ++ x :: (c.reverse ++ tl))[pre.length]? = some x := by
 rw [List.getElem?_append_right (by simp)]
 simp
theorem cur_ahead (y : Int) (pre c tl : List Int) (x : Int) : ((y :: pre).reverse ++ x :: (c.reverse ++ tl))[pre.length]? = some y := by
 rw [List.getElem?_append_left (by simp), List.reverse_cons, List.getElem?_append_right (by simp)]
 simp
theorem cur_swap (y : Int) (pre c tl : List Int) (x : Int) : (((y :: pre).reverse ++ x :: (c.reverse ++ tl)).set (pre.length + 1) y).set pre.length x = pre.reverse ++ x :: ((c ++ [y]).reverse ++ tl) := by
 have e : (y :: pre).reverse ++ x :: (c.reverse ++ tl) = pre.reverse ++ y :: x :: (c.reverse ++ tl) := by simp
 rw [e, List.set_append_right _ _ (by simp), List.set_append_right _ _ (by simp)]
 simp
set_option maxHeartbeats 16000000 in
set_option maxRecDepth 100000 in
theorem ins_c (cf : Int → Int → Int) (g : Nat) (lb : Array Value) (eg : ∀ args w, (callFunc g args).run Try.prog w = .ok (.enter g args) w) (r cap : Nat) (l : List Int) (rest : List Value) (w : World) (hh : w.heap[r]? = some (.cells (rowOf l rest) 3 (0, 0))) (hl : l.length ≤ 12)
  (hp : ∀ (W : World) (a b : Int), a ∈ l → b ∈ l → w.grownBy W (some r) → Calls Try.prog g (#[.int .i64 a, .int .i64 b] ++ lb) W fun e w' => e = .returned (.int .i64 (cf a b)) ∧ Below W.heap.size W w') :
  Calls Try.prog 78 #[.slice (some ⟨r, 0, none⟩) l.length cap, .int .i64 0, .int .i64 l.length, .func (.func g) #[] lb] w fun e w' => e = .returned (.tuple #[]) ∧ w.grownBy w' (some r) ∧ w'.heap[r]? = some (.cells (rowOf (srt cf l) rest) 3 (0, 0)) := by
 have HP := Aside0.mk hp
 have BK := Aside0.mk hh
 have GW := Aside0.mk (World.grownBy.refl w (some r))
 clear hp hh
 go_enter Try.func78, Try.ntmps78
 go_wp2
 go_loopg [8] l.length (fun kq v8 wr => ∃ (i : Nat), v8 = .int .i64 i ∧ Aside0 (1 ≤ i ∧ (i ≤ l.length ∨ i = 1)) ∧ Aside0 (l.length - i ≤ kq) ∧ Aside0 (wr.heap[r]? = some (.cells (rowOf (srt cf (l.take i) ++ l.drop i) rest) 3 (0, 0))) ∧ Aside0 (w.grownBy wr (some r)))
 case atStart => exact ⟨1, by first | rfl | (congr 1; rfl), ⟨by omega⟩, ⟨by omega⟩, ⟨by
  rw [BK.out]
  congr 3
  cases l with
  | nil => rfl
  | cons x l => rfl⟩, GW⟩
 case round =>
  clear BK GW
  obtain ⟨i, rfl, HI, HK, BK, GW⟩ := hrel
  by_cases c1 : i < l.length
  rotate_left
  ·have c1b : decide ((i : Int) < (l.length : Int)) = false := decide_eq_false (by omega)
   go_wp2
   go_end0
   refine ⟨rfl, GW.out, ?_⟩
   rw [BK.out, List.take_of_length_le (by omega), List.drop_eq_nil_of_le (by omega), List.append_nil]
  have c1b : decide ((i : Int) < (l.length : Int)) = true := decide_eq_true (by omega)
  obtain ⟨x, hx⟩ : ∃ x, l[i]? = some x := ⟨l[i], List.getElem?_eq_getElem c1⟩
  have hdrop : l.drop i = x :: l.drop (i + 1) := by
   obtain ⟨h1, h2⟩ := List.getElem?_eq_some_iff.1 hx
   rw [List.drop_eq_getElem_cons h1, h2]
  have HX := Aside0.mk (List.mem_of_getElem? hx)
  have HN := Aside0.mk (show srt cf (l.take (i + 1)) = put cf (srt cf (l.take i)) x by rw [List.take_add_one, hx]; exact srt_snoc cf _ x)
  have HSL := Aside0.mk (show (srt cf (l.take i)).length = i by rw [srt_length, List.length_take]; omega)
  have HSM := Aside0.mk (show ∀ y ∈ srt cf (l.take i), y ∈ l by
   intro y hy
   rcases (srt_mem cf y (l.take i) []).1 hy with h | h
   ·cases h
   ·exact List.mem_of_mem_take h)
  rw [hdrop] at BK
  clear hdrop hx
  generalize srt cf (l.take i) = s at *
  generalize htl : l.drop (i + 1) = tl at *
  have HTL := Aside0.mk htl
  clear htl
  go_wp2
  go_loopg [9] i (fun kq2 v9 wr2 => ∃ (j : Nat) (pre c : List Int), v9 = .int .i64 j ∧ Aside0 (pre.length = j ∧ j ≤ i) ∧ Aside0 (j ≤ kq2) ∧ Aside0 (past cf x s.reverse = c ++ past cf x pre) ∧ Aside0 (∀ y ∈ pre, y ∈ l) ∧ Aside0 (wr2.heap[r]? = some (.cells (rowOf (pre.reverse ++ x :: (c.reverse ++ tl)) rest) 3 (0, 0))) ∧ Aside0 (pre.length + 1 + c.length + tl.length = l.length) ∧ Aside0 (w.grownBy wr2 (some r)))
  case atStart => exact ⟨i, s.reverse, [], rfl, ⟨by rw [List.length_reverse]; exact HSL.out, Nat.le_refl _⟩, ⟨Nat.le_refl _⟩, ⟨rfl⟩, ⟨fun y hy => HSM.out y (List.mem_reverse.1 hy)⟩, ⟨by rw [BK.out, List.reverse_reverse]; rfl⟩, ⟨by have := HSL.out; have := HTL.out; subst this; rw [List.length_reverse, List.length_drop, this]; simp; omega⟩, GW⟩
  case round =>
   clear BK GW
   obtain ⟨j, pre, c, rfl, HJ, HK2, HPA, HPM, BK, HLEN, GW⟩ := hrel
   cases pre with
   | nil =>
    have hj0 : j = 0 := HJ.out.1.symm
    subst hj0
    have hg0 : decide ((0 : Int) > 0) = false := rfl
    simp only [Int.natCast_zero]
    go_wp2
    refine start_ (n := 17) (S := fun w' => True) (ds := []) #[false, false, false, false, false, false, false, false, false, false, false, false, false, false, false, false, false] (by kernel_rfl) rfl rfl trivial (fun hHeld => ?_)
    refine Kp_ 0 18 #[true, false, false, false, false, false, false, false, false, false, false, false, false, false, false, false, false] (by kernel_rfl) ?_
    refine Kp_ 1 19 #[true, true, false, false, false, false, false, false, false, false, false, false, false, false, false, false, false] (by kernel_rfl) ?_
    refine Kp_ 2 20 #[true, true, true, false, false, false, false, false, false, false, false, false, false, false, false, false, false] (by kernel_rfl) ?_
    refine Kp_ 3 21 #[true, true, true, true, false, false, false, false, false, false, false, false, false, false, false, false, false] (by kernel_rfl) ?_
    refine pure_ (i := 4) (N := some 22) (v := undef) (a' := ?_) #[true, true, true, true, true, false, false, false, false, false, false, false, false, false, false, false, false] rfl rfl (by kernel_rfl) (fun _ _ _ h => h) (Or.inr ⟨by rfl, rfl⟩) ?_ ?_
    rotate_left
    ·simp only [Act.put, List.setIfInBounds_toArray, List.set_cons_zero, List.set_cons_succ, i64_w, i32_w]
     rfl
    refine pure_ (i := 5) (N := some 23) (v := undef) (a' := ?_) #[true, true, true, true, true, true, false, false, false, false, false, false, false, false, false, false, false] rfl rfl (by kernel_rfl) (fun _ _ _ h => h) (Or.inr ⟨by rfl, rfl⟩) ?_ ?_
    rotate_left
    ·simp only [Act.put, List.setIfInBounds_toArray, List.set_cons_zero, List.set_cons_succ, i64_w, i32_w]
     rfl
    refine pure_ (i := 6) (N := some 24) (v := undef) (a' := ?_) #[true, true, true, true, true, true, true, false, false, false, false, false, false, false, false, false, false] rfl rfl (by kernel_rfl) (fun _ _ _ h => h) (Or.inr ⟨by rfl, rfl⟩) ?_ ?_
    rotate_left
    ·simp only [Act.put, List.setIfInBounds_toArray, List.set_cons_zero, List.set_cons_succ, i64_w, i32_w]
     rfl
    refine pure_ (i := 7) (N := some 25) (v := undef) (a' := ?_) #[true, true, true, true, true, true, true, true, false, false, false, false, false, false, false, false, false] rfl rfl (by kernel_rfl) (fun _ _ _ h => h) (Or.inr ⟨by rfl, rfl⟩) ?_ ?_
    rotate_left
    ·simp only [Act.put, List.setIfInBounds_toArray, List.set_cons_zero, List.set_cons_succ, i64_w, i32_w]
     rfl
    refine pure_ (i := 8) (N := some 26) (v := undef) (a' := ?_) #[true, true, true, true, true, true, true, true, true, false, false, false, false, false, false, false, false] rfl rfl (by kernel_rfl) (fun _ _ _ h => h) (Or.inr ⟨by rfl, rfl⟩) ?_ ?_
    rotate_left
    ·simp only [Act.put, List.setIfInBounds_toArray, List.set_cons_zero, List.set_cons_succ, i64_w, i32_w]
     rfl
    refine pure_ (i := 9) (N := some 27) (v := undef) (a' := ?_) #[true, true, true, true, true, true, true, true, true, true, false, false, false, false, false, false, false] rfl rfl (by kernel_rfl) (fun _ _ _ h => h) (Or.inr ⟨by rfl, rfl⟩) ?_ ?_
    rotate_left
    ·simp only [Act.put, List.setIfInBounds_toArray, List.set_cons_zero, List.set_cons_succ, i64_w, i32_w]
     rfl
    refine pure_ (i := 10) (N := some 28) (v := undef) (a' := ?_) #[true, true, true, true, true, true, true, true, true, true, true, false, false, false, false, false, false] rfl rfl (by kernel_rfl) (fun _ _ _ h => h) (Or.inr ⟨by rfl, rfl⟩) ?_ ?_
    rotate_left
    ·simp only [Act.put, List.setIfInBounds_toArray, List.set_cons_zero, List.set_cons_succ, i64_w, i32_w]
     rfl
    refine pure_ (i := 11) (N := some 29) (v := undef) (a' := ?_) #[true, true, true, true, true, true, true, true, true, true, true, true, false, false, false, false, false] rfl rfl (by kernel_rfl) (fun _ _ _ h => h) (Or.inr ⟨by rfl, rfl⟩) ?_ ?_
    rotate_left
    ·simp only [Act.put, List.setIfInBounds_toArray, List.set_cons_zero, List.set_cons_succ, i64_w, i32_w]
     rfl
    refine pure_ (i := 12) (N := some 30) (v := undef) (a' := ?_) #[true, true, true, true, true, true, true, true, true, true, true, true, true, false, false, false, false] rfl rfl (by kernel_rfl) (fun _ _ _ h => h) (Or.inr ⟨by rfl, rfl⟩) ?_ ?_
    rotate_left
    ·simp only [Act.put, List.setIfInBounds_toArray, List.set_cons_zero, List.set_cons_succ, i64_w, i32_w]
     rfl
    refine pure_ (i := 13) (N := some 31) (v := undef) (a' := ?_) #[true, true, true, true, true, true, true, true, true, true, true, true, true, true, false, false, false] rfl rfl (by kernel_rfl) (fun _ _ _ h => h) (Or.inr ⟨by rfl, rfl⟩) ?_ ?_
    rotate_left
    ·simp only [Act.put, List.setIfInBounds_toArray, List.set_cons_zero, List.set_cons_succ, i64_w, i32_w]
     rfl
    refine pure_ (i := 14) (N := some 32) (v := undef) (a' := ?_) #[true, true, true, true, true, true, true, true, true, true, true, true, true, true, true, false, false] rfl rfl (by kernel_rfl) (fun _ _ _ h => h) (Or.inr ⟨by rfl, rfl⟩) ?_ ?_
    rotate_left
    ·simp only [Act.put, List.setIfInBounds_toArray, List.set_cons_zero, List.set_cons_succ, i64_w, i32_w]
     rfl
    refine pure_ (i := 15) (N := some 33) (v := undef) (a' := ?_) #[true, true, true, true, true, true, true, true, true, true, true, true, true, true, true, true, false] rfl rfl (by kernel_rfl) (fun _ _ _ h => h) (Or.inr ⟨by rfl, rfl⟩) ?_ ?_
    rotate_left
    ·simp only [Act.put, List.setIfInBounds_toArray, List.set_cons_zero, List.set_cons_succ, i64_w, i32_w]
     rfl
    refine Kp_ 16 34 #[true, true, true, true, true, true, true, true, true, true, true, true, true, true, true, true, true] (by kernel_rfl) ?_
    refine done_ (by kernel_rfl) ?_
    go_wp2
    go_roundg (l.length - (i + 1))
    case measure => have := HK.out; omega
    case rel => exact ⟨i + 1, by first | rfl | (rw [show ((i + 1 : Nat) : Int) = (i : Int) + 1 by omega]; rfl) | (rw [show ((i + 1 : Nat) : Int) = (i : Int) + 1 by omega]; congr 1; exact wrap64_id (by omega) (by omega)), ⟨by omega⟩, ⟨by omega⟩, ⟨by rw [blk_drew BK.out, HN.out, HTL.out]; unfold put; rw [HPA.out]; simp [past]⟩, ⟨grown_drew GW.out⟩⟩
   | cons y pre =>
    obtain ⟨q, hq⟩ : ∃ q, q = pre.length := ⟨_, rfl⟩
    have hjq : j = q + 1 := by have := HJ.out.1; rw [List.length_cons] at this; omega
    have CJ := Aside0.mk (rowOf_at _ rest j x (by have := cur_at (y :: pre) c tl x; rw [show (y :: pre).length = j from HJ.out.1] at this; exact this))
    have CP := Aside0.mk (rowOf_at _ rest q y (by have := cur_ahead y pre c tl x; rw [← hq] at this; exact this))
    have HYM := Aside0.mk (HPM.out y (by simp))
    have hjl : j < l.length := by have := HJ.out.2; omega
    have hg0 : decide ((j : Int) > 0) = true := decide_eq_true (by omega)
    have hg1 : (0 < j) = True := eq_true (by omega)
    have hg2 : (0 < (j : Int)) = True := eq_true (by omega)
    have e1 : wrap64 ((j : Int) - 1) = (q : Int) := by rw [show (j : Int) - 1 = (q : Int) by omega]; exact wrap64_id (by omega) (by omega)
    have p0 : (0 ≤ (j : Int)) = True := eq_true (by omega)
    have p1 : ((j : Int) < (l.length : Int)) = True := eq_true (by omega)
    have p2 : (0 ≤ (q : Int)) = True := eq_true (by omega)
    have p3 : ((q : Int) < (l.length : Int)) = True := eq_true (by omega)
    have HQ := Aside0.mk hq
    have HJQ := Aside0.mk hjq
    clear hq hjq
    go_wp2
    have GW6 := Aside0.mk (grown_drew GW.out)
    have BK6 := Aside0.mk (blk_drew BK.out)
    refine start_ (n := 17) (S := fun w' => w'.cell? ⟨r, j, none⟩ = some (.int .i64 x) ∧ w'.cell? ⟨r, q, none⟩ = some (.int .i64 y)) (ds := []) #[false, false, false, false, false, false, false, false, false, false, false, false, false, false, false, false, false] (by kernel_rfl) rfl rfl ⟨(blk_cell BK6.out j).trans CJ.out, (blk_cell BK6.out q).trans CP.out⟩ (fun hHeld => ?_)
    generalize wr.drew = w6 at GW6 BK6 hHeld ⊢
    refine Kp_ 0 18 #[true, false, false, false, false, false, false, false, false, false, false, false, false, false, false, false, false] (by kernel_rfl) ?_
    refine Kp_ 1 19 #[true, true, false, false, false, false, false, false, false, false, false, false, false, false, false, false, false] (by kernel_rfl) ?_
    refine Kp_ 2 20 #[true, true, true, false, false, false, false, false, false, false, false, false, false, false, false, false, false] (by kernel_rfl) ?_
    refine Kp_ 3 21 #[true, true, true, true, false, false, false, false, false, false, false, false, false, false, false, false, false] (by kernel_rfl) ?_
    refine Kp_ 4 22 #[true, true, true, true, true, false, false, false, false, false, false, false, false, false, false, false, false] (by kernel_rfl) ?_
    refine Kp_ 5 23 #[true, true, true, true, true, true, false, false, false, false, false, false, false, false, false, false, false] (by kernel_rfl) ?_
    refine Kp_ 6 24 #[true, true, true, true, true, true, true, false, false, false, false, false, false, false, false, false, false] (by kernel_rfl) ?_
    refine Kp_ 7 25 #[true, true, true, true, true, true, true, true, false, false, false, false, false, false, false, false, false] (by kernel_rfl) ?_
    refine Kp_ 9 27 #[true, true, true, true, true, true, true, true, false, true, false, false, false, false, false, false, false] (by kernel_rfl) ?_
    refine Kp_ 10 28 #[true, true, true, true, true, true, true, true, false, true, true, false, false, false, false, false, false] (by kernel_rfl) ?_
    refine Kp_ 11 29 #[true, true, true, true, true, true, true, true, false, true, true, true, false, false, false, false, false] (by kernel_rfl) ?_
    refine Kp_ 12 30 #[true, true, true, true, true, true, true, true, false, true, true, true, true, false, false, false, false] (by kernel_rfl) ?_
    refine Ko_ 8 26 #[true, true, true, true, true, true, true, true, true, true, true, true, true, false, false, false, false] (by kernel_rfl) hHeld ?_
    refine Ko_ 13 31 #[true, true, true, true, true, true, true, true, true, true, true, true, true, true, false, false, false] (by kernel_rfl) hHeld ?_
    refine one_ (i := 14) (N := some 32) #[true, true, true, true, true, true, true, true, true, true, true, true, true, true, true, false, false] rfl rfl (by kernel_rfl) (by decide) (fun K hK => ?_)
    refine goesv_ (t := 22) g lb #[.int .i64 x, .int .i64 y] eg (by rfl) rfl rfl rfl (by (try simp only [List.map_toArray, List.map_cons, List.map_nil]); first | done | rfl) ?_
    refine (HP.out w6 x y HX.out HYM.out GW6.out).mono ?_
    rintro e w7 ⟨rfl, hb⟩
    refine ⟨_, rfl, ?_⟩
    have GW7 := Aside0.mk (grown_below GW6.out hb)
    have BK7 := Aside0.mk (blk_below BK6.out hb)
    clear hb
    refine hK.out _ _ ⟨(blk_cell BK7.out j).trans CJ.out, (blk_cell BK7.out q).trans CP.out⟩ (fun hHeld => ?_)
    clear hK K
    refine Kn_ 32 ?_
    refine Kp_ 15 33 #[true, true, true, true, true, true, true, true, true, true, true, true, true, true, true, true, false] (by kernel_rfl) ?_
    refine Kp_ 16 34 #[true, true, true, true, true, true, true, true, true, true, true, true, true, true, true, true, true] (by kernel_rfl) ?_
    refine done_ (by kernel_rfl) ?_
    clear hHeld
    by_cases hlt : cf x y < 0
    rotate_left
    ·have hltb : decide (cf x y < 0) = false := decide_eq_false hlt
     have HNL := Aside0.mk hlt
     clear hlt
     simp only [hltb]
     generalize cf x y = d
     go_wp2
     go_roundg (l.length - (i + 1))
     case measure => have := HK.out; omega
     case rel => exact ⟨i + 1, by first | rfl | (rw [show ((i + 1 : Nat) : Int) = (i : Int) + 1 by omega]; rfl) | (rw [show ((i + 1 : Nat) : Int) = (i : Int) + 1 by omega]; congr 1; exact wrap64_id (by omega) (by omega)), ⟨by omega⟩, ⟨by omega⟩, ⟨by rw [BK7.out, HN.out, HTL.out]; unfold put; rw [HPA.out, show past cf x (y :: pre) = x :: y :: pre from by rw [past, if_neg (by have := HNL.out; omega)]]; simp⟩, GW7⟩
    have hltb : decide (cf x y < 0) = true := decide_eq_true hlt
    have HLT := Aside0.mk hlt
    clear hlt
    simp only [hltb]
    generalize cf x y = d
    go_wp2
    have GW8 := Aside0.mk (grown_drew GW7.out)
    have BK8 := Aside0.mk (blk_drew BK7.out)
    have FJ := blk_frozen BK8.out j
    have FQ := blk_frozen BK8.out q
    refine start_ (n := 18) (S := fun w' => w'.cell? ⟨r, j, none⟩ = some (.int .i64 x) ∧ w'.cell? ⟨r, q, none⟩ = some (.int .i64 y)) (ds := [15, 17]) #[false, false, false, false, false, false, false, false, false, false, false, false, false, false, false, false, false, false] (by kernel_rfl) rfl rfl ⟨(blk_cell BK8.out j).trans CJ.out, (blk_cell BK8.out q).trans CP.out⟩ (fun hHeld => ?_)
    have hJ := (blk_cell BK8.out j).trans CJ.out
    have hQ := (blk_cell BK8.out q).trans CP.out
    generalize w7.drew = w8 at GW8 BK8 hHeld FJ FQ hJ hQ ⊢
    refine Kp_ 0 37 #[true, false, false, false, false, false, false, false, false, false, false, false, false, false, false, false, false, false] (by kernel_rfl) ?_
    refine Kp_ 1 38 #[true, true, false, false, false, false, false, false, false, false, false, false, false, false, false, false, false, false] (by kernel_rfl) ?_
    refine Kp_ 2 39 #[true, true, true, false, false, false, false, false, false, false, false, false, false, false, false, false, false, false] (by kernel_rfl) ?_
    refine Kp_ 3 40 #[true, true, true, true, false, false, false, false, false, false, false, false, false, false, false, false, false, false] (by kernel_rfl) ?_
    refine Kp_ 4 41 #[true, true, true, true, true, false, false, false, false, false, false, false, false, false, false, false, false, false] (by kernel_rfl) ?_
    refine Kp_ 5 42 #[true, true, true, true, true, true, false, false, false, false, false, false, false, false, false, false, false, false] (by kernel_rfl) ?_
    refine Kp_ 6 43 #[true, true, true, true, true, true, true, false, false, false, false, false, false, false, false, false, false, false] (by kernel_rfl) ?_
    refine Kp_ 7 44 #[true, true, true, true, true, true, true, true, false, false, false, false, false, false, false, false, false, false] (by kernel_rfl) ?_
    refine Kp_ 8 45 #[true, true, true, true, true, true, true, true, true, false, false, false, false, false, false, false, false, false] (by kernel_rfl) ?_
    refine Kp_ 10 47 #[true, true, true, true, true, true, true, true, true, false, true, false, false, false, false, false, false, false] (by kernel_rfl) ?_
    refine Kp_ 11 48 #[true, true, true, true, true, true, true, true, true, false, true, true, false, false, false, false, false, false] (by kernel_rfl) ?_
    refine Kp_ 12 49 #[true, true, true, true, true, true, true, true, true, false, true, true, true, false, false, false, false, false] (by kernel_rfl) ?_
    refine Ko_ 9 46 #[true, true, true, true, true, true, true, true, true, true, true, true, true, false, false, false, false, false] (by kernel_rfl) hHeld ?_
    refine Ko_ 13 50 #[true, true, true, true, true, true, true, true, true, true, true, true, true, true, false, false, false, false] (by kernel_rfl) hHeld ?_
    refine Kp_ 14 51 #[true, true, true, true, true, true, true, true, true, true, true, true, true, true, true, false, false, false] (by kernel_rfl) ?_
    refine last_ (i := 15) (N := none) #[true, true, true, true, true, true, true, true, true, true, true, true, true, true, true, true, false, false] rfl rfl (by kernel_rfl) (by decide) (fun K hK => ?_)
    refine skip_ (w1 := ?_) (by rfl) rfl ?_ ?_
    rotate_left
    ·go_simp
     rfl
    refine hK.out _ _ ?_
    clear hK K
    have hQ2 : (w8.setCell ⟨r, j, none⟩ (.int .i64 y)).cell? ⟨r, q, none⟩ = some (.int .i64 y) := by rw [World.cell?_setCell_other _ _ _ _ (by intro e; injection e with _ e; have := HJQ.out; omega)]; exact hQ
    refine Kp_ 16 52 #[true, true, true, true, true, true, true, true, true, true, true, true, true, true, true, true, true, false] (by kernel_rfl) ?_
    refine last_ (i := 17) (N := none) #[true, true, true, true, true, true, true, true, true, true, true, true, true, true, true, true, true, true] rfl rfl (by kernel_rfl) (by decide) (fun K hK => ?_)
    refine skip_ (w1 := ?_) (by rfl) rfl ?_ ?_
    rotate_left
    ·go_simp
     rfl
    refine hK.out _ _ ?_
    clear hK K
    refine done_ (by kernel_rfl) ?_
    go_wp2
    go_roundg q
    case measure => have := HK2.out; have := HJQ.out; omega
    case rel => exact ⟨q, pre, c ++ [y], by first | rfl | (congr 1; have := HJQ.out; omega), ⟨HQ.out.symm, by have := HJ.out; have := HJQ.out; omega⟩, ⟨Nat.le_refl _⟩, ⟨by rw [HPA.out, show past cf x (y :: pre) = y :: past cf x pre from by rw [past, if_pos (by have := HLT.out; omega)]]; simp⟩, ⟨fun z hz => HPM.out z (List.mem_cons_of_mem _ hz)⟩, ⟨by
     have h1 := blk_put (blk_put BK8.out j (.int .i64 y) (rowOf_set _ rest j y (by have := HLEN.out; have := HJQ.out; have := HQ.out; simp at this ⊢; omega))) q (.int .i64 x) (rowOf_set _ rest q x (by have := HLEN.out; have := HJQ.out; have := HQ.out; simp at this ⊢; omega))
     have h2 := cur_swap y pre c tl x
     rw [← HQ.out, ← HJQ.out] at h2
     rw [h2] at h1
     exact h1⟩, ⟨by have := HLEN.out; simp at this ⊢; omega⟩, ⟨grown_set (grown_set GW8.out _) _⟩⟩
end Go.Proofs.Ythjhkcebcgdeoaa.Jud

set_option linter.unusedVariables false
set_option linter.unusedSimpArgs false
namespace Go.Proofs.Ythjhkcebcgdeoaa.Jud
open Go Go.RowKit Go.WideShapes Go.Proofs.Ythjhkcebcgdeoaa.Q Go.Proofs.YthjhkcebcgdeoaaW.PrintWords Go.Proofs.YthjhkcebcgdeoaaW.PrintLast Go.Proofs.YthjhkcebcgdeoaaW.PrintMore
open Go.Proofs.Ythjhkcebcgdeoaa.Pure (wrap64_id toList_data toList_iff)
set_option maxHeartbeats 16000000 in
set_option maxRecDepth 100000 in
theorem stable_c (cf : Int → Int → Int) (g : Nat) (lb : Array Value) (eg : ∀ args w, (callFunc g args).run Try.prog w = .ok (.enter g args) w) (r cap : Nat) (l : List Int) (rest : List Value) (w : World) (hh : w.heap[r]? = some (.cells (rowOf l rest) 3 (0, 0))) (hl : l.length ≤ 12)
  (hp : ∀ (W : World) (a b : Int), a ∈ l → b ∈ l → w.grownBy W (some r) → Calls Try.prog g (#[.int .i64 a, .int .i64 b] ++ lb) W fun e w' => e = .returned (.int .i64 (cf a b)) ∧ Below W.heap.size W w') :
  Calls Try.prog 67 #[.slice (some ⟨r, 0, none⟩) l.length cap, .int .i64 l.length, .func (.func g) #[] lb] w fun e w' => e = .returned (.tuple #[]) ∧ w.grownBy w' (some r) ∧ w'.heap[r]? = some (.cells (rowOf (srt cf l) rest) 3 (0, 0)) := by
 have HP := Aside0.mk hp
 have BK := Aside0.mk hh
 have GW := Aside0.mk (World.grownBy.refl w (some r))
 clear hp hh
 have c20 : decide ((20 : Int) ≤ (l.length : Int)) = false := decide_eq_false (by omega)
 have d20 : decide ((20 : Int) < (l.length : Int)) = false := decide_eq_false (by omega)
 go_enter Try.func67, Try.ntmps67
 go_wp2
 go_loopg [7, 8] 0 (fun kq v7 v8 wr => v7 = .int .i64 0 ∧ v8 = .int .i64 20 ∧ Aside0 (wr.heap[r]? = some (.cells (rowOf l rest) 3 (0, 0))) ∧ Aside0 (w.grownBy wr (some r)))
 case atStart => exact ⟨rfl, rfl, BK, GW⟩
 case round =>
  clear BK GW
  obtain ⟨rfl, rfl, BK, GW⟩ := hrel
  go_wp2_with (first
   | ((with_reducible refine gate_callee (f := 78) rfl ?_); refine Kg_ (some 27) rfl rfl Try.func78 (by kernel_rfl) rfl #[.slice (some ⟨r, 0, none⟩) l.length cap, .int .i64 0, .int .i64 l.length, .func (.func g) #[] lb] rfl ?_; (with_reducible refine (ins_c cf g lb eg r cap l rest _ ?s1 hl ?s2).mono ?_); (case s1 => exact BK.out); (case s2 => exact fun W a b ha hb hW => HP.out W a b ha hb (GW.out.trans hW)); rintro e w2 ⟨rfl, hg, hk⟩; refine ⟨_, rfl, ?_⟩; have GW2 := Aside0.mk (GW.out.trans hg); have BK2 := Aside0.mk hk; clear hg hk))
  go_frame
  go_loopg [6] 0 (fun kq v6 wr => v6 = .int .i64 20 ∧ Aside0 (wr.heap[r]? = some (.cells (rowOf (srt cf l) rest) 3 (0, 0))) ∧ Aside0 (w.grownBy wr (some r)))
  case atStart => exact ⟨rfl, BK2, GW2⟩
  case round =>
   clear BK2 GW2
   obtain ⟨rfl, BK2, GW2⟩ := hrel
   go_wp2
   go_end0
   exact ⟨rfl, GW2.out, BK2.out⟩
set_option maxHeartbeats 16000000 in
set_option maxRecDepth 100000 in
theorem sort_c (cf : Int → Int → Int) (g : Nat) (lb : Array Value) (eg : ∀ args w, (callFunc g args).run Try.prog w = .ok (.enter g args) w) (r cap : Nat) (l : List Int) (rest : List Value) (w : World) (hh : w.heap[r]? = some (.cells (rowOf l rest) 3 (0, 0))) (hl : l.length ≤ 12)
  (hp : ∀ (W : World) (a b : Int), a ∈ l → b ∈ l → w.grownBy W (some r) → Calls Try.prog g (#[.int .i64 a, .int .i64 b] ++ lb) W fun e w' => e = .returned (.int .i64 (cf a b)) ∧ Below W.heap.size W w') :
  Calls Try.prog 37 #[.slice (some ⟨r, 0, none⟩) l.length cap, .func (.func g) #[] lb] w fun e w' => e = .returned (.tuple #[]) ∧ w.grownBy w' (some r) ∧ w'.heap[r]? = some (.cells (rowOf (srt cf l) rest) 3 (0, 0)) := by
 have HC := Aside0.mk (stable_c cf g lb eg r cap l rest w hh hl hp)
 clear hp hh
 go_enter Try.func37, Try.ntmps37
 go_wp2_with (first
  | ((with_reducible refine gate_callee (f := 67) rfl ?_); refine Kg_ (some 8) rfl rfl Try.func67 (by kernel_rfl) rfl #[.slice (some ⟨r, 0, none⟩) l.length cap, .int .i64 l.length, .func (.func g) #[] lb] rfl ?_; (with_reducible refine (HC.out).mono ?_); rintro e w2 ⟨rfl, hg, hk⟩; refine ⟨_, rfl, ?_⟩; have GW2 := Aside0.mk hg; have BK2 := Aside0.mk hk; clear hg hk))
 go_end0
 exact ⟨rfl, GW2.out, BK2.out⟩
set_option maxHeartbeats 16000000 in
set_option maxRecDepth 100000 in
theorem ins0 (F : Value) (w : World) : Calls Try.prog 78 #[.slice none 0 0, .int .i64 0, .int .i64 0, F] w fun e w' => e = .returned (.tuple #[]) ∧ Below w.heap.size w w' := by
 have HB := Aside0.mk (Below.refl w.heap.size w)
 go_enter Try.func78, Try.ntmps78
 go_wp2
 go_loopg [8] 0 (fun kq v8 wr => v8 = .int .i64 1 ∧ Aside0 (Below w.heap.size w wr))
 case atStart => exact ⟨rfl, HB⟩
 case round =>
  clear HB
  obtain ⟨rfl, HB⟩ := hrel
  go_wp2
  go_end0
  exact ⟨rfl, HB.out⟩
set_option maxHeartbeats 16000000 in
set_option maxRecDepth 100000 in
theorem stable0 (F : Value) (w : World) : Calls Try.prog 67 #[.slice none 0 0, .int .i64 0, F] w fun e w' => e = .returned (.tuple #[]) ∧ Below w.heap.size w w' := by
 have HB := Aside0.mk (Below.refl w.heap.size w)
 go_enter Try.func67, Try.ntmps67
 go_wp2
 go_loopg [7, 8] 0 (fun kq v7 v8 wr => v7 = .int .i64 0 ∧ v8 = .int .i64 20 ∧ Aside0 (Below w.heap.size w wr))
 case atStart => exact ⟨rfl, rfl, HB⟩
 case round =>
  clear HB
  obtain ⟨rfl, rfl, HB⟩ := hrel
  go_wp2_with (first
   | ((with_reducible refine gate_callee (f := 78) rfl ?_); refine Kg_ (some 27) rfl rfl Try.func78 (by kernel_rfl) rfl #[.slice none 0 0, .int .i64 0, .int .i64 0, F] rfl ?_; (with_reducible refine (ins0 F _).mono ?_); rintro e w2 ⟨rfl, hb⟩; refine ⟨_, rfl, ?_⟩; have HB2 := Aside0.mk (below_step HB.out hb); clear hb))
  go_frame
  go_loopg [6] 0 (fun kq v6 wr => v6 = .int .i64 20 ∧ Aside0 (Below w.heap.size w wr))
  case atStart => exact ⟨rfl, HB2⟩
  case round =>
   clear HB2
   obtain ⟨rfl, HB2⟩ := hrel
   go_wp2
   go_end0
   exact ⟨rfl, HB2.out⟩
set_option maxHeartbeats 16000000 in
set_option maxRecDepth 100000 in
theorem sort0 (F : Value) (w : World) : Calls Try.prog 37 #[.slice none 0 0, F] w fun e w' => e = .returned (.tuple #[]) ∧ Below w.heap.size w w' := by
 go_enter Try.func37, Try.ntmps37
 go_wp2_with (first
  | ((with_reducible refine gate_callee (f := 67) rfl ?_); refine Kg_ (some 8) rfl rfl Try.func67 (by kernel_rfl) rfl #[.slice none 0 0, .int .i64 0, F] rfl ?_; (with_reducible refine (stable0 F _).mono ?_); rintro e w2 ⟨rfl, hb⟩; refine ⟨_, rfl, ?_⟩; have HB2 := Aside0.mk hb; clear hb))
 go_end0
 exact ⟨rfl, HB2.out⟩
set_option maxHeartbeats 16000000 in
set_option maxRecDepth 100000 in
theorem less_c (A : Option Addr) (c : Nat) (l : List Tx) (gb a b k : Nat) (r : Int) (w : World) (hr : Kd.C k64 w A l.length l) (hbx : w.heap[gb]? = some (.cells #[.slice A l.length c] 33 (0, 0))) (ha : a < l.length) (hb : b < l.length)
  (h : stamp_Order.f k (rd_T64 l a).f0.f0.f0 (rd_T64 l a).f0.f0.f1 (rd_T64 l a).f0.f0.f2 (rd_T64 l a).f0.f0.f3 (rd_T64 l a).f0.f1 (rd_T64 l b).f0.f0.f0 (rd_T64 l b).f0.f0.f1 (rd_T64 l b).f0.f0.f2 (rd_T64 l b).f0.f0.f3 (rd_T64 l b).f0.f1 = some r) :
  Calls Try.prog 38 (#[.int .i64 (a : Int), .int .i64 (b : Int)] ++ #[.pointer (some ⟨gb, 0, none⟩)]) w fun e w' => e = .returned (.int .i64 r) ∧ Below w.heap.size w w' := by
 obtain ⟨ad, Ax, cx, e0, h0, h1, h2, h3, h4, -, -, -⟩ := at_T64 hr (a : Int) (by omega) (by omega)
 obtain ⟨ad', Ay, cy, e1, k0, k1, k2, k3, k4, -, -, -⟩ := at_T64 hr (b : Int) (by omega) (by omega)
 subst e0
 obtain rfl : ad = ad' := by injection e1
 have BX := Aside0.mk hbx
 have HR := Aside0.mk hr
 clear hr hbx e1
 generalize rd_T64 l a = x at *
 generalize rd_T64 l b = y at *
 obtain ⟨⟨⟨p0, p1, p2, p3⟩, p4⟩, p5⟩ := x
 obtain ⟨⟨⟨q0, q1, q2, q3⟩, q4⟩, q5⟩ := y
 simp only [Int.toNat_natCast] at h0 h1 h2 h3 h4 k0 k1 k2 k3 k4
 have H := Aside0.mk h
 have P0 := Aside0.mk h0
 have Q0 := Aside0.mk k0
 have P1 := Aside0.mk h1
 have Q1 := Aside0.mk k1
 have P2 := Aside0.mk h2
 have Q2 := Aside0.mk k2
 have P3 := Aside0.mk h3
 have Q3 := Aside0.mk k3
 have P4 := Aside0.mk h4
 have Q4 := Aside0.mk k4
 clear h h0 h1 h2 h3 h4 k0 k1 k2 k3 k4
 have a0 : (0 ≤ (a : Int)) = True := eq_true (by omega)
 have a1 : ((a : Int) < (l.length : Int)) = True := eq_true (by omega)
 have b0 : (0 ≤ (b : Int)) = True := eq_true (by omega)
 have b1 : ((b : Int) < (l.length : Int)) = True := eq_true (by omega)
 go_enter Try.func38, Try.ntmps38
 go_wp2
 have HB : Aside0 (Below w.heap.size w w.drew) := ⟨below_drew1 (Below.refl _ _)⟩
 refine start_ (n := 12) (S := fun w' => w'.cell? ⟨gb, 0, none⟩ = some (.slice (some ad) l.length c) ∧ w'.cell? (ad.add (a * 6)) = some (.int .u64 p0) ∧ w'.cell? ⟨(ad.add (a * 6)).block, (ad.add (a * 6)).off + 1, none⟩ = some (.int .u64 p1) ∧ w'.cell? ⟨(ad.add (a * 6)).block, (ad.add (a * 6)).off + 2, none⟩ = some (.int .u64 p2) ∧ w'.cell? ⟨(ad.add (a * 6)).block, (ad.add (a * 6)).off + 3, none⟩ = some (.int .u64 p3) ∧ w'.cell? ⟨(ad.add (a * 6)).block, (ad.add (a * 6)).off + 4, none⟩ = some (.int .i64 p4) ∧ w'.cell? (ad.add (b * 6)) = some (.int .u64 q0) ∧ w'.cell? ⟨(ad.add (b * 6)).block, (ad.add (b * 6)).off + 1, none⟩ = some (.int .u64 q1) ∧ w'.cell? ⟨(ad.add (b * 6)).block, (ad.add (b * 6)).off + 2, none⟩ = some (.int .u64 q2) ∧ w'.cell? ⟨(ad.add (b * 6)).block, (ad.add (b * 6)).off + 3, none⟩ = some (.int .u64 q3) ∧ w'.cell? ⟨(ad.add (b * 6)).block, (ad.add (b * 6)).off + 4, none⟩ = some (.int .i64 q4)) (ds := []) #[false, false, false, false, false, false, false, false, false, false, false, false] (by kernel_rfl) rfl rfl ⟨(blk_cell (blk_below BX.out HB.out) 0).trans rfl, (HB.out.cell (World.block_lt_of_cell? _ _ P0.out)).trans P0.out, (HB.out.cell (World.block_lt_of_cell? _ _ P1.out)).trans P1.out, (HB.out.cell (World.block_lt_of_cell? _ _ P2.out)).trans P2.out, (HB.out.cell (World.block_lt_of_cell? _ _ P3.out)).trans P3.out, (HB.out.cell (World.block_lt_of_cell? _ _ P4.out)).trans P4.out, (HB.out.cell (World.block_lt_of_cell? _ _ Q0.out)).trans Q0.out, (HB.out.cell (World.block_lt_of_cell? _ _ Q1.out)).trans Q1.out, (HB.out.cell (World.block_lt_of_cell? _ _ Q2.out)).trans Q2.out, (HB.out.cell (World.block_lt_of_cell? _ _ Q3.out)).trans Q3.out, (HB.out.cell (World.block_lt_of_cell? _ _ Q4.out)).trans Q4.out⟩ (fun hHeld => ?_)
 generalize w.drew = w6 at HB hHeld ⊢
 refine Kp_ 1 7 #[false, true, false, false, false, false, false, false, false, false, false, false] (by kernel_rfl) ?_
 refine Kp_ 6 12 #[false, true, false, false, false, false, true, false, false, false, false, false] (by kernel_rfl) ?_
 refine Ko_ 0 6 #[true, true, false, false, false, false, true, false, false, false, false, false] (by kernel_rfl) hHeld ?_
 refine Ko_ 5 11 #[true, true, false, false, false, true, true, false, false, false, false, false] (by kernel_rfl) hHeld ?_
 refine Kp_ 2 8 #[true, true, true, false, false, true, true, false, false, false, false, false] (by kernel_rfl) ?_
 refine Kp_ 3 9 #[true, true, true, true, false, true, true, false, false, false, false, false] (by kernel_rfl) ?_
 refine Kp_ 7 13 #[true, true, true, true, false, true, true, true, false, false, false, false] (by kernel_rfl) ?_
 refine Kp_ 8 14 #[true, true, true, true, false, true, true, true, true, false, false, false] (by kernel_rfl) ?_
 refine Ko_ 4 10 #[true, true, true, true, true, true, true, true, true, false, false, false] (by kernel_rfl) hHeld ?_
 refine Ko_ 9 15 #[true, true, true, true, true, true, true, true, true, true, false, false] (by kernel_rfl) hHeld ?_
 refine one_ (i := 10) (N := some 16) #[true, true, true, true, true, true, true, true, true, true, true, false] rfl rfl (by kernel_rfl) (by decide) (fun K hK => ?_)
 refine goes_ Try.func28 (by kernel_rfl) rfl #[.agg #[.int .u64 p0, .int .u64 p1, .int .u64 p2, .int .u64 p3, .int .i64 p4], .agg #[.int .u64 q0, .int .u64 q1, .int .u64 q2, .int .u64 q3, .int .i64 q4]] (by rfl) rfl rfl (by (try simp only [List.map_toArray, List.map_cons, List.map_nil]); first | done | rfl) ?_
 refine (stamp_Order.calls k p0 p1 p2 p3 p4 q0 q1 q2 q3 q4 r w6 H.out).mono ?_
 rintro e w7 ⟨rfl, hb⟩
 refine ⟨_, rfl, ?_⟩
 have HB7 := Aside0.mk (below_step HB.out hb)
 clear hb
 refine hK.out _ _ ⟨(blk_cell (blk_below BX.out HB7.out) 0).trans rfl, (HB7.out.cell (World.block_lt_of_cell? _ _ P0.out)).trans P0.out, (HB7.out.cell (World.block_lt_of_cell? _ _ P1.out)).trans P1.out, (HB7.out.cell (World.block_lt_of_cell? _ _ P2.out)).trans P2.out, (HB7.out.cell (World.block_lt_of_cell? _ _ P3.out)).trans P3.out, (HB7.out.cell (World.block_lt_of_cell? _ _ P4.out)).trans P4.out, (HB7.out.cell (World.block_lt_of_cell? _ _ Q0.out)).trans Q0.out, (HB7.out.cell (World.block_lt_of_cell? _ _ Q1.out)).trans Q1.out, (HB7.out.cell (World.block_lt_of_cell? _ _ Q2.out)).trans Q2.out, (HB7.out.cell (World.block_lt_of_cell? _ _ Q3.out)).trans Q3.out, (HB7.out.cell (World.block_lt_of_cell? _ _ Q4.out)).trans Q4.out⟩ (fun hHeld => ?_)
 clear hK K
 refine Kn_ 16 ?_
 refine Kp_ 11 5 #[true, true, true, true, true, true, true, true, true, true, true, true] (by kernel_rfl) ?_
 refine done_ (by kernel_rfl) ?_
 clear hHeld
 go_wp2
 go_ret
 exact ⟨rfl, HB7.out⟩
end Go.Proofs.Ythjhkcebcgdeoaa.Jud

set_option linter.unusedVariables false
set_option linter.unusedSimpArgs false
namespace Go.Proofs.Ythjhkcebcgdeoaa.Jud
open Go Go.RowKit Go.WideShapes Go.Proofs.Ythjhkcebcgdeoaa.Q Go.Proofs.YthjhkcebcgdeoaaW.PrintWords Go.Proofs.YthjhkcebcgdeoaaW.PrintLast Go.Proofs.YthjhkcebcgdeoaaW.PrintMore
open Go.Proofs.Ythjhkcebcgdeoaa.Pure (wrap64_id toList_data toList_iff)
def idxs (n : Nat) : List Int := (List.range n).map Int.ofNat
theorem idxs_length (n : Nat) : (idxs n).length = n := by unfold idxs; simp
theorem idxs_snoc (n : Nat) : idxs n ++ [(n : Int)] = idxs (n + 1) := by unfold idxs; rw [List.range_succ, List.map_append]; rfl
theorem idxs_mem {n : Nat} {a : Int} (h : a ∈ idxs n) : ∃ i : Nat, i < n ∧ a = (i : Int) := by
 unfold idxs at h
 obtain ⟨i, hi, rfl⟩ := List.mem_map.1 h
 exact ⟨i, List.mem_range.1 hi, rfl⟩
def byStamp (od : St → St → Int) (l : List Tx) (a b : Int) : Int := od (rd_T64 l a).f0 (rd_T64 l b).f0
theorem below_by {w W w1 : World} {r : Nat} (h : Below w.heap.size w W) (hg : W.grownBy w1 (some r)) (hr : w.heap.size ≤ r) : Below w.heap.size w w1 :=
 ⟨hg.os.trans h.os, hg.tape.trans h.tape, hg.output.trans h.output, Nat.le_trans h.size hg.size, fun i hi => (hg.block i (Nat.lt_of_lt_of_le hi h.size) (by simp; omega)).trans (h.block i hi)⟩
theorem rd64_eq (l : List Tx) (j : Nat) (h : j < l.length) : l[j]? = some (rd_T64 l j) := by
 unfold rd_T64
 rw [Int.toNat_natCast, List.getD_eq_getElem?_getD, List.getElem?_eq_getElem h]
 rfl
theorem own_cases {e : Nat} {w : World} {base : Nat} {ok : Nat → Prop} {v : Value} {xs : List Int} (h : Kd.R (Kd.int .i64) e w base ok v xs) : (v = .slice none 0 0 ∧ xs.length = 0) ∨
  ∃ g cap rest, v = .slice (some ⟨g, 0, none⟩) xs.length cap ∧ base ≤ g ∧ ok g ∧ w.heap[g]? = some (.cells (rowOf xs rest) e (0, 0)) ∧ xs.length ≤ cap ∧ cap ≤ maxLen ∧ (xs.map (Value.int .i64) ++ rest).length = cap := by
 obtain ⟨h0, inner, ⟨hl, ho⟩, hr⟩ := h
 have hi := reps_ints hr
 rcases ho with ⟨rfl, hz⟩ | ⟨g, cap, cur, rfl, hg, hh, hn, hm, hc, ht⟩
 ·exact .inl ⟨rfl, hz⟩
 ·have e0 : cur.toList = xs.map (Value.int .i64) ++ cur.toList.drop xs.length := by
   have := List.take_append_drop xs.length cur.toList
   rw [show xs.length * (Kd.int .i64).sz = xs.length from Nat.mul_one _] at ht
   rw [ht, hi] at this
   exact this.symm
  have e1 : rowOf xs (cur.toList.drop xs.length) = cur := by unfold rowOf; rw [← e0]
  refine .inr ⟨g, cap, cur.toList.drop xs.length, rfl, hg, h0 g rfl, by rw [e1]; exact hh, hn, hm, ?_⟩
  rw [← e0, Array.length_toList, hc]
  exact Nat.mul_one _
theorem info_int : (Try.prog.info? 3).map (fun i => (i.zero, i.size, i.bytes)) = some (some (.int .i64 0), 1, 8) := by kernel_rfl
set_option maxHeartbeats 16000000 in
set_option maxRecDepth 100000 in
theorem order_c (od : St → St → Int) (A : Option Addr) (c : Nat) (l : List Tx) (w : World) (hr : Kd.C k64 w A l.length l) (hc : l.length ≤ c) (hl : l.length ≤ 12)
  (ho : ∀ x ∈ l, ∀ y ∈ l, ∃ q, stamp_Order.f q x.f0.f0.f0 x.f0.f0.f1 x.f0.f0.f2 x.f0.f0.f3 x.f0.f1 y.f0.f0.f0 y.f0.f0.f1 y.f0.f0.f2 y.f0.f0.f3 y.f0.f1 = some (od x.f0 y.f0)) :
  Calls Try.prog 18 #[.slice A l.length c] w fun e w' => ∃ v, e = .returned v ∧ Kd.R (Kd.int .i64) 3 w' w.heap.size (fun _ => True) v (srt (byStamp od l) (idxs l.length)) ∧ Below w.heap.size w w' := by
 have HR := Aside0.mk hr
 have HQ := Aside0.mk ho
 clear hr ho
 go_enter Try.func18, Try.ntmps18
 go_wp2_with (first
  | ((with_reducible refine gate_dst (N := 1) rfl ?_); refine Ka_ 1 #[.slice A l.length c] 33 ?_; intro gb hg w1 hbox hb; have BX := Aside0.mk hbox; have HB := Aside0.mk hb; have hbx := (blk_cell hbox 0).trans rfl; clear hb hbox hg))
 go_loopg [3, 7] l.length (fun kq v3 v7 wr => ∃ (j : Nat), v7 = .int .i64 j ∧ Aside0 (j ≤ l.length) ∧ Aside0 (l.length - j ≤ kq) ∧ Aside0 (wr.heap[gb]? = some (.cells #[.slice A l.length c] 33 (0, 0))) ∧ Aside0 (Kd.R (Kd.int .i64) 3 wr w.heap.size (fun k => k ≠ gb) v3 (idxs j)) ∧ Aside0 (Below w.heap.size w wr))
 case atStart => exact ⟨0, rfl, ⟨by omega⟩, ⟨by omega⟩, BX, ⟨Kd.R_nil _ _ _ _ _⟩, HB⟩
 case round =>
  clear BX HB hbx
  obtain ⟨j, rfl, HJ, HK, BX, HO, HB⟩ := hrel
  by_cases c1 : j < l.length
  ·have c1b : decide ((j : Int) < (l.length : Int)) = true := decide_eq_true (by omega)
   go_wp2_with (first
    | ((with_reducible refine gate_builtin (b := .append) (xs := #[.tmp 10, .tmp 12]) rfl ?_); at_builtin; refine Kd.R_append (Kd.int .i64) (w0 := w) w.heap.size rfl (.tmp 10) (.tmp 12) 45 3 (.int .i64 0) 8 rfl Try.underlying45 info_int rfl (by decide) (by omega) u3 (idxs j) (j : Int) [.int .i64 j] (fun k => k ≠ gb) (fun _ => False) rfl rfl ?aP (fun _ hk => hk.elim) ?aF ?aO ?aB ?aS ?aL ?_; (case aP => rfl); (case aF => exact (fun k hk => (Nat.ne_of_lt (Nat.lt_of_lt_of_le (blk_lt BX.out) hk)).symm)); (case aO => exact HO.out); (case aB => exact HB.out); (case aS => exact below_size HB.out); (case aL => rw [idxs_length]; omega); intro v1 w2 ho hb hg hat; rw [idxs_snoc] at ho; have HO2 := Aside0.mk ho; have HB2 := Aside0.mk hb; have BX2 := Aside0.mk (blk_grown BX.out hg (Kd.R_away HO.out (fun _ hk => hk))); clear ho hb hg hat))
   go_roundg (l.length - (j + 1))
   case measure => have := HK.out; omega
   case rel => exact ⟨j + 1, by first | rfl | (rw [show ((j + 1 : Nat) : Int) = (j : Int) + 1 by omega]; rfl) | (rw [show ((j + 1 : Nat) : Int) = (j : Int) + 1 by omega]; congr 1; exact wrap64_id (by omega) (by omega)), ⟨by omega⟩, ⟨by omega⟩, BX2, HO2, HB2⟩
  have c1b : decide ((j : Int) < (l.length : Int)) = false := decide_eq_false (by omega)
  have hjl : j = l.length := by have := HJ.out; omega
  rw [hjl] at HO
  rcases own_cases HO.out with ⟨hv, hn⟩ | ⟨r, cap, rest, hv, hbr, hrg, hh, hnc, hcm, hcl⟩
  ·have hn' := hn
   rw [idxs_length] at hn
   subst hv
   go_wp2_with (first
    | ((with_reducible refine gate_callee (f := 37) rfl ?_); refine Kg_ (some 17) rfl rfl Try.func37 (by kernel_rfl) rfl #[.slice none 0 0, .func (.func 38) #[] #[.pointer (some ⟨gb, 0, none⟩)]] rfl ?_; (with_reducible refine (sort0 _ _).mono ?_); rintro e w3 ⟨rfl, hb⟩; refine ⟨_, rfl, ?_⟩; have HB3 := Aside0.mk (below_step HB.out hb); clear hb))
   go_ret
   exact ⟨_, rfl, by rw [show srt (byStamp od l) (idxs l.length) = [] from by rw [hn]; rfl]; exact Kd.R_nil _ _ _ _ _, HB3.out⟩
  ·subst hv
   have HH := Aside0.mk hh
   have HGR : Aside0 (∀ W, wr.grownBy W (some r) → Below w.heap.size w W) := ⟨fun W hW => below_by HB.out hW hbr⟩
   have HP : Aside0 (∀ (W : World) (a b : Int), a ∈ idxs l.length → b ∈ idxs l.length → wr.grownBy W (some r) → Calls Try.prog 38 (#[.int .i64 a, .int .i64 b] ++ #[.pointer (some ⟨gb, 0, none⟩)]) W fun e w' => e = .returned (.int .i64 (byStamp od l a b)) ∧ Below W.heap.size W w') := ⟨by
    intro W a b ha hb hW
    obtain ⟨ia, hia, rfl⟩ := idxs_mem ha
    obtain ⟨ib, hib, rfl⟩ := idxs_mem hb
    obtain ⟨q, hq⟩ := HQ.out _ (List.mem_of_getElem? (rd64_eq l ia hia)) _ (List.mem_of_getElem? (rd64_eq l ib hib))
    exact less_c A c l gb ia ib q _ W (Kd.C_below HR.out (HGR.out W hW)) ((hW.block gb (blk_lt BX.out) (fun e => hrg (by injection e with e; exact e.symm))).trans BX.out) hia hib hq⟩
   have hl12 : (idxs l.length).length ≤ 12 := by rw [idxs_length]; exact hl
   clear hh
   go_wp2_with (first
    | ((with_reducible refine gate_callee (f := 37) rfl ?_); refine Kg_ (some 17) rfl rfl Try.func37 (by kernel_rfl) rfl #[.slice (some ⟨r, 0, none⟩) (idxs l.length).length cap, .func (.func 38) #[] #[.pointer (some ⟨gb, 0, none⟩)]] rfl ?_; (with_reducible refine (sort_c (byStamp od l) 38 #[.pointer (some ⟨gb, 0, none⟩)] (enters Try.prog Try.func38 (by kernel_rfl) rfl) r cap (idxs l.length) rest _ HH.out hl12 HP.out).mono ?_); rintro e w3 ⟨rfl, hg, hk⟩; refine ⟨_, rfl, ?_⟩; have GW3 := Aside0.mk hg; have BK3 := Aside0.mk hk; clear hg hk))
   go_ret
   have hlen : (idxs l.length).length = (srt (byStamp od l) (idxs l.length)).length := (srt_length _ _).symm
   refine ⟨_, rfl, ?_, HGR.out _ GW3.out⟩
   simp only [hlen]
   rw [hlen] at hnc
   exact own_shut hbr trivial BK3.out hnc hcm (by rw [List.length_append, List.length_map, srt_length]; rw [List.length_append, List.length_map] at hcl; exact hcl)
end Go.Proofs.Ythjhkcebcgdeoaa.Jud

namespace Go.Proofs.Ythjhkcebcgdeoaa.Q
open Go.RowKit Go.Proofs.YthjhkcebcgdeoaaW.PrintWords Go.Proofs.YthjhkcebcgdeoaaW.PrintLast Go.Proofs.YthjhkcebcgdeoaaW.PrintMore
attribute [local go_sem] max2_int min2_int max_two min_two max_three min_three max_four min_four   -- for this text's walks alone
set_option linter.unusedVariables false
set_option linter.unusedSimpArgs false
def judge_Order.ok (l : List S64) : Prop := l.length ≤ 12 ∧ ∀ x ∈ l, x.f1.length ≤ 1000
instance judge_Order.dec (l : List S64) : Decidable (judge_Order.ok l) := inferInstanceAs (Decidable (_ ∧ _))
def judge_Order.od (x y : S56) : Int := Go.Proofs.Ythjhkcebcgdeoaa.Pure.lex (Go.Proofs.Ythjhkcebcgdeoaa.Pure.key x.f0.f0 x.f0.f1 x.f0.f2 x.f0.f3 x.f1) (Go.Proofs.Ythjhkcebcgdeoaa.Pure.key y.f0.f0 y.f0.f1 y.f0.f2 y.f0.f3 y.f1)
def judge_Order.f (l0 : List S64) : Option (List Int) := if judge_Order.ok l0 then some (Go.Proofs.Ythjhkcebcgdeoaa.Jud.srt (Go.Proofs.Ythjhkcebcgdeoaa.Jud.byStamp judge_Order.od l0) (Go.Proofs.Ythjhkcebcgdeoaa.Jud.idxs l0.length)) else none
theorem judge_Order.calls (A0 : Option Addr) (c0 : Nat) (l0 : List S64) (r : List Int) (w : World) (hr0 : Kd.C k64 w A0 l0.length l0) (hc0 : l0.length ≤ c0) (h : judge_Order.f l0 = some r) :
  Calls Try.prog 18 #[.slice A0 l0.length c0] w fun e w' => ∃ v0_ : Value, e = .returned (v0_) ∧ Kd.R (Kd.int .i64) 3 w' w.heap.size (fun _ => True) v0_ r ∧ Below w.heap.size w w' := by
 unfold judge_Order.f at h
 by_cases hc : judge_Order.ok l0
 rotate_left
 ·rw [if_neg hc] at h; cases h
 rw [if_pos hc] at h
 injection h with h
 rw [← h]
 exact Go.Proofs.Ythjhkcebcgdeoaa.Jud.order_c judge_Order.od A0 c0 l0 w hr0 hc0 hc.1 (fun x _ y _ => ⟨5, Go.Proofs.Ythjhkcebcgdeoaa.Pure.order_f _ _ _ _ _ _ _ _ _ _ (Nat.le_refl _)⟩)
end Go.Proofs.Ythjhkcebcgdeoaa.Q

set_option linter.unusedVariables false
set_option linter.unusedSimpArgs false
namespace Go.Proofs.Ythjhkcebcgdeoaa.Jud
open Go Go.RowKit Go.WideShapes Go.Proofs.Ythjhkcebcgdeoaa.Q Go.Proofs.YthjhkcebcgdeoaaW.PrintWords Go.Proofs.YthjhkcebcgdeoaaW.PrintLast Go.Proofs.YthjhkcebcgdeoaaW.PrintMore
open Go.Maps (Keyed)
open Go.Proofs.Ythjhkcebcgdeoaa.Pure (wrap64_id toList_data toList_iff)
theorem plainElem_bool_inv {P : Program} {e : TypeId} (he : P.underlying e = some .bool) {v : Value} {z : DataW Unit × List MemPlace} (h : plainElem P e v = some z) : ∃ a, v = .bool a ∧ z = (.lit (.bool a), []) := by
 unfold plainElem at h
 rw [he] at h
 cases v <;> simp at h
 exact ⟨_, rfl, h.symm⟩
abbrev ownsB (w : World) (k b n : Nat) (D : DataW Unit) : Prop := w.ownsMap Try.prog k (plainElem (H := Unit) Try.prog 4) b n D
theorem zero_bool (w : World) : (zeroValue 4).run Try.prog w = .ok (.bool false) w := Try.zeroValue4 w
theorem look_bool {w : World} {k t b n : Nat} {D : DataW Unit} (h : ownsB w k b n D) (K : Keyed Try.prog k) (ht : Try.prog.underlying t = some (.map k 4)) {key : Value} {kl : Lit} (hkey : keyOf Try.prog k key = some kl) {c : Bool} (hc : D.atKey kl (.lit (.bool false)) = .lit (.bool c)) :
  (Instr.lookup t (.map (some b)) key false).run Try.prog w = .ok (.bool c) w := by
 obtain ⟨v, ps, hrun, hv⟩ := h.lookup K ht (zero_bool w) (plainElem_bool Try.underlying4 false) hkey
 obtain ⟨a, rfl, hz⟩ := plainElem_bool_inv Try.underlying4 hv
 have h1 := congrArg Prod.fst hz
 simp only [hc, DataW.lit.injEq, Lit.bool.injEq] at h1
 rw [hrun, h1]
theorem look_bool_ok {w : World} {k t b n : Nat} {D : DataW Unit} (h : ownsB w k b n D) (K : Keyed Try.prog k) (ht : Try.prog.underlying t = some (.map k 4)) {key : Value} {kl : Lit} (hkey : keyOf Try.prog k key = some kl) {c : Bool} (hc : D.atKey kl (.lit (.bool false)) = .lit (.bool c)) :
  (Instr.lookup t (.map (some b)) key true).run Try.prog w = .ok (.tuple #[.bool c, .bool (Go.Maps.has D kl)]) w := by
 obtain ⟨v, ps, hrun, hv⟩ := h.look_ok K ht (zero_bool w) (plainElem_bool Try.underlying4 false) hkey
 obtain ⟨a, rfl, hz⟩ := plainElem_bool_inv Try.underlying4 hv
 have h1 := congrArg Prod.fst hz
 simp only [hc, DataW.lit.injEq, Lit.bool.injEq] at h1
 rw [hrun, h1]
def kn (dc n : Int) : Lit := .string (keyBytes [.int .i64 dc, .int .u64 n])
theorem keyed_num : Keyed Try.prog 95 :=
 Go.Maps.Keyed.of_law (deep_law_laid (show laidOutB Try.prog = true by kernel_rfl) (m := 2) (by omega) (of_decide_eq_true (by kernel_rfl)) (by kernel_rfl) (by kernel_rfl))
def wfN (dc n : Int) : Prop := (Lit.int .i64 dc).wf = true ∧ (Lit.int .u64 n).wf = true
theorem kn_of {dc n : Int} (h : wfN dc n) : keyOf Try.prog 95 (.agg #[.int .i64 dc, .int .u64 n]) = some (kn dc n) := by
 have hu := Try.underlying95
 have hi := Try.underlying3
 have hn64 := Try.underlying27
 have hk : Try.prog.keyType 95 = true := by kernel_rfl
 have hc : Try.prog.cellsOf 95 = 2 := by kernel_rfl
 have hci : Try.prog.cellsOf 3 = 1 := by kernel_rfl
 have hcn : Try.prog.cellsOf 27 = 1 := by kernel_rfl
 have hf : (Value.agg #[.int .i64 dc, .int .u64 n]).formed Try.prog 95 = true := by
  simp [Value.formed, hu, hc]
 have hn : ∃ n, Try.prog.types.size + 1 = n + 2 := ⟨Try.prog.types.size - 1, by have : 1 ≤ Try.prog.types.size := of_decide_eq_true (by kernel_rfl); omega⟩
 obtain ⟨m, hm⟩ := hn
 unfold keyOf
 rw [hu]
 simp only [hk, hf, Bool.and_self, if_true, hm]
 have e0 : Try.prog.keyLits (m + 1) 3 [.int .i64 dc] = some [.int .i64 dc] := by
  unfold Program.keyLits
  simp only [hi]
  rw [if_pos ⟨trivial, h.1⟩]
 have e1 : Try.prog.keyLits (m + 1) 27 [.int .u64 n] = some [.int .u64 n] := by
  unfold Program.keyLits
  simp only [hn64]
  rw [if_pos ⟨trivial, h.2⟩]
 unfold Program.keyLits
 simp only [hu]
 rw [if_pos ⟨by rw [hc]; rfl, by first | rfl | decide +kernel⟩]
 clear hu hi hn64 hk hf hc
 simp [hci, hcn, Value.cells, e0, e1, kn]
theorem kn_inj {a b c d : Int} (h1 : wfN a b) (h2 : wfN c d) (h : kn a b = kn c d) : a = c ∧ b = d := by
 have e := keyed_num.inj (kn_of h1) (h ▸ kn_of h2)
 simpa using e
theorem kn_isKey (a b : Int) : WideAt.IsKeyLit (kn a b) := trivial
def nOfT (x : Tx) : Int := Go.Proofs.Ythjhkcebcgdeoaa.Pure.nOf x.f0.f0.f0 x.f0.f0.f1 x.f0.f0.f2 x.f0.f0.f3 x.f0.f1
def isN (dc n : Int) (x : Tx) : Bool := decide (x.f0.f1 = dc ∧ nOfT x = n)
def vl (sn : St → Bool) (l : List Tx) (dc n : Int) : Bool := l.any (isN dc n) && l.all (fun x => !isN dc n x || sn x.f0)
theorem vl_snoc (sn : St → Bool) {l : List Tx} {j : Nat} {x : Tx} (hx : l[j]? = some x) (dc n : Int) : vl sn (l.take (j + 1)) dc n = if isN dc n x then (sn x.f0 && (vl sn (l.take j) dc n || !(l.take j).any (isN dc n))) else vl sn (l.take j) dc n := by
 unfold vl
 rw [List.take_add_one, hx]
 simp only [Option.toList, List.any_append, List.all_append, List.any_cons, List.any_nil, List.all_cons, List.all_nil, Bool.or_false, Bool.and_true]
 cases h : isN dc n x with
 | false => simp
 | true =>
  cases ha : (l.take j).any (isN dc n) with
  | true => simp [Bool.and_comm]
  | false =>
   have : (l.take j).all (fun x => !isN dc n x || sn x.f0) = true := by
    rw [List.all_eq_true]
    intro y hy
    have := List.any_eq_false.1 ha y hy
    simp only [Bool.not_eq_true] at this
    rw [this]
    rfl
   rw [this]
   simp
theorem any_snoc {l : List Tx} {j : Nat} {x : Tx} (hx : l[j]? = some x) (dc n : Int) : (l.take (j + 1)).any (isN dc n) = ((l.take j).any (isN dc n) || isN dc n x) := by
 rw [List.take_add_one, hx]
 simp
def Told (sn : St → Bool) (l : List Tx) (D : DataW Unit) : Prop := Go.Maps.IsMap D ∧ ∀ dc n, wfN dc n → Go.Maps.has D (kn dc n) = l.any (isN dc n) ∧ D.atKey (kn dc n) (.lit (.bool false)) = .lit (.bool (vl sn l dc n))
theorem told_nil (sn : St → Bool) : Told sn [] (.map []) := ⟨Go.Maps.isMap_empty, fun dc n _ => ⟨rfl, rfl⟩⟩
theorem told_step {sn : St → Bool} {l : List Tx} {j : Nat} {x : Tx} (hx : l[j]? = some x) {D : DataW Unit} (h : Told sn (l.take j) D) (hw : wfN x.f0.f1 (nOfT x)) (c : Bool) (hc : c = (sn x.f0 && (vl sn (l.take j) x.f0.f1 (nOfT x) || !(l.take j).any (isN x.f0.f1 (nOfT x))))) : Told sn (l.take (j + 1)) (D.put (kn x.f0.f1 (nOfT x)) (.lit (.bool c))) := by
 refine ⟨h.1.put _ _, fun dc n hwf => ?_⟩
 obtain ⟨h1, h2⟩ := h.2 dc n hwf
 rw [any_snoc hx, vl_snoc sn hx]
 by_cases hk : x.f0.f1 = dc ∧ nOfT x = n
 ·obtain ⟨rfl, rfl⟩ := hk
  have hi : isN x.f0.f1 (nOfT x) x = true := decide_eq_true ⟨rfl, rfl⟩
  rw [hi, Go.Maps.has_put_same h.1 (kn_isKey _ _), Go.Maps.atKey_put_same h.1 (kn_isKey _ _), hc]
  exact ⟨by simp, rfl⟩
 ·have hi : isN dc n x = false := decide_eq_false hk
  have hne : kn dc n ≠ kn x.f0.f1 (nOfT x) := fun e => hk (by obtain ⟨q1, q2⟩ := kn_inj hwf hw e; exact ⟨q1.symm, q2.symm⟩)
  rw [hi, Go.Maps.has_put_other hne, Go.Maps.atKey_put_other hne]
  exact ⟨by simp [h1], by simpa using h2⟩
end Go.Proofs.Ythjhkcebcgdeoaa.Jud

set_option linter.unusedVariables false
set_option linter.unusedSimpArgs false
namespace Go.Proofs.Ythjhkcebcgdeoaa.Jud
open Go Go.RowKit Go.WideShapes Go.Proofs.Ythjhkcebcgdeoaa.Q Go.Proofs.YthjhkcebcgdeoaaW.PrintWords Go.Proofs.YthjhkcebcgdeoaaW.PrintLast Go.Proofs.YthjhkcebcgdeoaaW.PrintMore
open Go.Maps (Keyed)
open Go.Proofs.Ythjhkcebcgdeoaa.Pure (wrap64_id toList_data toList_iff nOf)
theorem grown0 {w w' : World} (hb : Below w.heap.size w w') : w.grownBy w' none := World.grownBy.mk hb.os hb.tape hb.output hb.size (fun i hi _ => hb.block i hi)
def good (sn : St → Bool) (l : List Tx) (s0 s1 s2 s3 : Int) (d : Nat) : Bool := decide (nOf s0 s1 s2 s3 d ≤ 4096) && (List.range (nOf s0 s1 s2 s3 d).toNat).all (fun m => vl sn l d ((m : Int) + 1))
def closedJ (sn : St → Bool) (l : List Tx) (s0 s1 s2 s3 : Int) : Bool := (List.range 4).all (fun d => good sn l s0 s1 s2 s3 (d + 1))
theorem closed_no {sn : St → Bool} {l : List Tx} {s0 s1 s2 s3 : Int} {d : Nat} (h1 : 1 ≤ d) (h4 : d ≤ 4) (h : good sn l s0 s1 s2 s3 d = false) : closedJ sn l s0 s1 s2 s3 = false := by
 unfold closedJ
 rw [List.all_eq_false]
 exact ⟨d - 1, List.mem_range.2 (by omega), by rw [show d - 1 + 1 = d by omega, h]; simp⟩
theorem closed_yes {sn : St → Bool} {l : List Tx} {s0 s1 s2 s3 : Int} (h : ∀ d, 1 ≤ d → d < 5 → good sn l s0 s1 s2 s3 d = true) : closedJ sn l s0 s1 s2 s3 = true := by
 unfold closedJ
 rw [List.all_eq_true]
 intro d hd
 exact h (d + 1) (by omega) (by have := List.mem_range.1 hd; omega)
theorem wfN_of {a b : Int} (h0 : -9223372036854775808 ≤ a) (h1 : a ≤ 9223372036854775807) (h2 : 0 ≤ b) (h3 : b ≤ 18446744073709551615) : wfN a b := by
 have e1 : IntKind.i64.min = -9223372036854775808 := by decide
 have e2 : IntKind.i64.max = 9223372036854775807 := by decide
 have e3 : IntKind.u64.min = 0 := by decide
 have e4 : IntKind.u64.max = 18446744073709551615 := by decide
 refine ⟨?_, ?_⟩
 ·simp only [Lit.wf, e1, e2, Bool.and_eq_true, decide_eq_true_eq]
  omega
 ·simp only [Lit.wf, e3, e4, Bool.and_eq_true, decide_eq_true_eq]
  omega
theorem nOf_nonneg {s0 s1 s2 s3 : Int} (h0 : 0 ≤ s0) (h1 : 0 ≤ s1) (h2 : 0 ≤ s2) (h3 : 0 ≤ s3) (d : Int) : 0 ≤ nOf s0 s1 s2 s3 d := by
 unfold nOf
 repeat' split
 all_goals omega
set_option maxHeartbeats 16000000 in
set_option maxRecDepth 100000 in
theorem closed_c (sn : St → Bool) (s0 s1 s2 s3 : Int) (hs0 : 0 ≤ s0) (hs1 : 0 ≤ s1) (hs2 : 0 ≤ s2) (hs3 : 0 ≤ s3) (A : Option Addr) (c : Nat) (l : List Tx) (w : World) (hr : Kd.C k64 w A l.length l) (hc : l.length ≤ c) (hl : l.length ≤ 1000000)
  (hw : ∀ x ∈ l, wfN x.f0.f1 (nOfT x)) (hsn : ∀ x ∈ l, stamp_Seen.f x.f0.f0.f0 x.f0.f0.f1 x.f0.f0.f2 x.f0.f0.f3 x.f0.f1 s0 s1 s2 s3 = some (sn x.f0)) :
  Calls Try.prog 20 #[.slice A l.length c, .agg #[.int .u64 s0, .int .u64 s1, .int .u64 s2, .int .u64 s3]] w fun e w' => e = .returned (.bool (closedJ sn l s0 s1 s2 s3)) ∧ Below w.heap.size w w' := by
 have HR := Aside0.mk hr
 have HWN := Aside0.mk hw
 have HSN := Aside0.mk hsn
 have HNN := Aside0.mk (nOf_nonneg hs0 hs1 hs2 hs3)
 have hmm := @run_makeMap Try.prog
 clear hr hw hsn hs0 hs1 hs2 hs3
 go_enter Try.func20, Try.ntmps20
 go_wp2_with (first
  | ((with_reducible refine gate_dst (N := 3) rfl ?_); refine Ka_ 3 #[.int .u64 s0, .int .u64 s1, .int .u64 s2, .int .u64 s3] 29 ?_; intro g3 hg w1 hbox hb; have BX0 := Aside0.mk hbox; have HB1 := Aside0.mk hb; clear hb hbox hg))
 have N3M : Aside0 (g3 ≠ w1.heap.size) := ⟨Nat.ne_of_lt (blk_lt BX0.out)⟩
 have HWM : Aside0 (w.heap.size ≤ w1.heap.size) := ⟨HB1.out.size⟩
 go_loopg [16] l.length (fun kq v16 wr => ∃ (j : Nat), v16 = .int .i64 j ∧ Aside0 (j ≤ l.length) ∧ Aside0 (l.length - j ≤ kq) ∧ Aside0 (wr.heap[g3]? = some (.cells #[.int .u64 s0, .int .u64 s1, .int .u64 s2, .int .u64 s3] 29 (0, 0))) ∧ (∃ D, ownsB wr 95 w1.heap.size j D ∧ Told sn (l.take j) D) ∧ Aside0 (Below w.heap.size w wr))
 case atStart => exact ⟨0, rfl, ⟨by omega⟩, ⟨by omega⟩, ⟨blk_alloc BX0.out _⟩, ⟨.map [], World.ownsMap_made w1 Try.prog 95 _, told_nil sn⟩, ⟨below_alloc HB1.out _⟩⟩
 case round =>
  clear BX0 HB1 hmm
  obtain ⟨j, rfl, HJ, HK, BX, ⟨D, hown, htold⟩, HB⟩ := hrel
  have HOW := Aside0.mk hown
  have HTO := Aside0.mk htold
  clear hown htold
  by_cases c1 : j < l.length
  ·have c1b : decide ((j : Int) < (l.length : Int)) = true := decide_eq_true (by omega)
   have c0b : decide (0 ≤ (j : Int)) = true := decide_eq_true (by omega)
   have hx := rd64_eq l j c1
   have hm : rd_T64 l j ∈ l := List.mem_of_getElem? hx
   obtain ⟨ad, Ax, cx, e0, h0, h1, h2, h3, h4, h5, -, -⟩ := at_T64 HR.out (j : Int) (by omega) (by omega)
   cases e0
   replace h0 := (HB.out.cell (World.block_lt_of_cell? w _ h0)).trans h0
   replace h1 := (HB.out.cell (World.block_lt_of_cell? w _ h1)).trans h1
   replace h2 := (HB.out.cell (World.block_lt_of_cell? w _ h2)).trans h2
   replace h3 := (HB.out.cell (World.block_lt_of_cell? w _ h3)).trans h3
   replace h4 := (HB.out.cell (World.block_lt_of_cell? w _ h4)).trans h4
   replace h5 := (HB.out.cell (World.block_lt_of_cell? w _ h5)).trans h5
   have HWF := Aside0.mk (HWN.out _ hm)
   have HSV := Aside0.mk (HSN.out _ hm)
   obtain ⟨hhs, hvl⟩ := HTO.out.2 _ _ HWF.out
   have HTOLD := Aside0.mk (fun c hc => told_step hx HTO.out HWF.out c hc)
   clear hx hm
   generalize rd_T64 l j = x at *
   obtain ⟨⟨⟨y0, y1, y2, y3⟩, y4⟩, y5⟩ := x
   simp only [Int.toNat_natCast] at h0 h1 h2 h3 h4 h5
   simp only at hhs hvl
   have HTOLD : Aside0 (∀ c, c = (sn ⟨⟨y0, y1, y2, y3⟩, y4⟩ && (vl sn (l.take j) y4 (nOfT ⟨⟨⟨y0, y1, y2, y3⟩, y4⟩, y5⟩) || !(l.take j).any (isN y4 (nOfT ⟨⟨⟨y0, y1, y2, y3⟩, y4⟩, y5⟩)))) → Told sn (l.take (j + 1)) (D.put (kn y4 (nOfT ⟨⟨⟨y0, y1, y2, y3⟩, y4⟩, y5⟩)) (.lit (.bool c)))) := HTOLD
   have HSV : Aside0 (stamp_Seen.f y0 y1 y2 y3 y4 s0 s1 s2 s3 = some (sn ⟨⟨y0, y1, y2, y3⟩, y4⟩)) := HSV
   have HWF : Aside0 (wfN y4 (nOfT ⟨⟨⟨y0, y1, y2, y3⟩, y4⟩, y5⟩)) := HWF
   have HN : Aside0 (stamp_Stamp_N.f y0 y1 y2 y3 y4 = some (nOfT ⟨⟨⟨y0, y1, y2, y3⟩, y4⟩, y5⟩)) := ⟨Go.Proofs.Ythjhkcebcgdeoaa.Pure.jN_f _ _ _ _ _⟩
   generalize nOfT ⟨⟨⟨y0, y1, y2, y3⟩, y4⟩, y5⟩ = q at HWF HN HTOLD hhs hvl
   generalize sn ⟨⟨y0, y1, y2, y3⟩, y4⟩ = sv at HSV HTOLD
   generalize (l.take j).any (isN y4 q) = tv at HTOLD hhs
   generalize vl sn (l.take j) y4 q = bv at HTOLD hvl
   have HHS := Aside0.mk hhs
   have HVL := Aside0.mk hvl
   clear hhs hvl
   go_wp2_with (first
    | ((with_reducible refine gate_dst (N := 7) rfl ?_); refine Ka_ 7 #[.int .u64 0, .int .u64 0, .int .u64 0, .int .u64 0, .int .i64 0, .slice none 0 0] 64 ?_; intro g7 hg w3 hbox hb; have GE7 : Aside0 (wr.heap.size ≤ g7) := ⟨Nat.le_of_eq hg.symm⟩; have BK7 := Aside0.mk hbox; have H3 := Aside0.mk hb; obtain ⟨hca0, hca1, hca2, hca3, hca4, hca5, hfa0, hfa1, hfa2, hfa3, hfa4, hfa5⟩ := Ke6_ BK7.out; clear hb hbox hg))
   have H4 : Aside0 (Below wr.heap.size wr ((((((w3.setCell ⟨g7, 0, none⟩ (.int .u64 y0)).setCell ⟨g7, 1, none⟩ (.int .u64 y1)).setCell ⟨g7, 2, none⟩ (.int .u64 y2)).setCell ⟨g7, 3, none⟩ (.int .u64 y3)).setCell ⟨g7, 4, none⟩ (.int .i64 y4)).setCell ⟨g7, 5, none⟩ (.slice Ax y5.length cx)).drew) := ⟨below_drew1 ((((((((((((H3.out).setCell GE7.out _)).setCell GE7.out _)).setCell GE7.out _)).setCell GE7.out _)).setCell GE7.out _)).setCell GE7.out _)⟩
   have BK4 : Aside0 (((((((w3.setCell ⟨g7, 0, none⟩ (.int .u64 y0)).setCell ⟨g7, 1, none⟩ (.int .u64 y1)).setCell ⟨g7, 2, none⟩ (.int .u64 y2)).setCell ⟨g7, 3, none⟩ (.int .u64 y3)).setCell ⟨g7, 4, none⟩ (.int .i64 y4)).setCell ⟨g7, 5, none⟩ (.slice Ax y5.length cx)).drew.heap[g7]? = some (.cells #[.int .u64 y0, .int .u64 y1, .int .u64 y2, .int .u64 y3, .int .i64 y4, .slice Ax y5.length cx] 64 (0, 0))) := ⟨blk_drew (by refine Kv_ ?_; refine blk_put (cs := #[.int .u64 y0, .int .u64 y1, .int .u64 y2, .int .u64 y3, .int .i64 y4, .slice none 0 0]) ?_ 5 _ rfl; refine Kv_ ?_; refine blk_put (cs := #[.int .u64 y0, .int .u64 y1, .int .u64 y2, .int .u64 y3, .int .i64 0, .slice none 0 0]) ?_ 4 _ rfl; refine Kv_ ?_; refine blk_put (cs := #[.int .u64 y0, .int .u64 y1, .int .u64 y2, .int .u64 0, .int .i64 0, .slice none 0 0]) ?_ 3 _ rfl; refine Kv_ ?_; refine blk_put (cs := #[.int .u64 y0, .int .u64 y1, .int .u64 0, .int .u64 0, .int .i64 0, .slice none 0 0]) ?_ 2 _ rfl; refine Kv_ ?_; refine blk_put (cs := #[.int .u64 y0, .int .u64 0, .int .u64 0, .int .u64 0, .int .i64 0, .slice none 0 0]) ?_ 1 _ rfl; refine Kv_ ?_; refine blk_put (cs := #[.int .u64 0, .int .u64 0, .int .u64 0, .int .u64 0, .int .i64 0, .slice none 0 0]) ?_ 0 _ rfl; exact Kq_ BK7)⟩
   refine start_ (n := 9) (S := fun w' => w'.cell? ⟨g7, 0, none⟩ = some (.int .u64 y0) ∧ w'.cell? ⟨g7, 1, none⟩ = some (.int .u64 y1) ∧ w'.cell? ⟨g7, 2, none⟩ = some (.int .u64 y2) ∧ w'.cell? ⟨g7, 3, none⟩ = some (.int .u64 y3) ∧ w'.cell? ⟨g7, 4, none⟩ = some (.int .i64 y4) ∧ w'.cell? ⟨g7, 5, none⟩ = some (.slice Ax y5.length cx)) (ds := [8]) #[false, false, false, false, false, false, false, false, false] (by kernel_rfl) rfl rfl ⟨(blk_cell BK4.out 0).trans rfl, (blk_cell BK4.out 1).trans rfl, (blk_cell BK4.out 2).trans rfl, (blk_cell BK4.out 3).trans rfl, (blk_cell BK4.out 4).trans rfl, (blk_cell BK4.out 5).trans rfl⟩ (fun hHeld => ?_)
   generalize ((((((w3.setCell ⟨g7, 0, none⟩ (.int .u64 y0)).setCell ⟨g7, 1, none⟩ (.int .u64 y1)).setCell ⟨g7, 2, none⟩ (.int .u64 y2)).setCell ⟨g7, 3, none⟩ (.int .u64 y3)).setCell ⟨g7, 4, none⟩ (.int .i64 y4)).setCell ⟨g7, 5, none⟩ (.slice Ax y5.length cx)).drew = w4 at H4 BK4 hHeld ⊢
   refine Kp_ 0 20 #[true, false, false, false, false, false, false, false, false] (by kernel_rfl) ?_
   refine Kp_ 1 21 #[true, true, false, false, false, false, false, false, false] (by kernel_rfl) ?_
   refine Kp_ 3 23 #[true, true, false, true, false, false, false, false, false] (by kernel_rfl) ?_
   refine Ko_ 2 22 #[true, true, true, true, false, false, false, false, false] (by kernel_rfl) hHeld ?_
   refine Ko_ 4 24 #[true, true, true, true, true, false, false, false, false] (by kernel_rfl) hHeld ?_
   refine two_ (i := 5) (j := 7) (Ni := some 25) (Nj := some 8) #[true, true, true, true, true, true, false, false, false] #[true, true, true, true, true, false, false, true, false] rfl rfl rfl rfl (by kernel_rfl) (by decide) (by decide) (fun K hK => ?_) (fun K hK => ?_)
   all_goals first
    | (
     refine goes_ Try.func40 (by kernel_rfl) rfl #[.agg #[.int .u64 y0, .int .u64 y1, .int .u64 y2, .int .u64 y3, .int .i64 y4]] (by rfl) rfl rfl (by (try simp only [List.map_toArray, List.map_cons, List.map_nil]); first | done | rfl) ?_
     refine (stamp_Stamp_N.calls y0 y1 y2 y3 y4 q w4 HN.out).mono ?_
     rintro e w5 ⟨rfl, hb⟩
     refine ⟨_, rfl, ?_⟩
     have H5 := Aside0.mk (below_step H4.out hb)
     have BK5 := Aside0.mk (blk_below BK4.out hb)
     clear hb
     refine hK.out _ _ ⟨(blk_cell BK5.out 0).trans rfl, (blk_cell BK5.out 1).trans rfl, (blk_cell BK5.out 2).trans rfl, (blk_cell BK5.out 3).trans rfl, (blk_cell BK5.out 4).trans rfl, (blk_cell BK5.out 5).trans rfl⟩ (fun hHeld => ?_)
     clear hK K
     refine Kn_ 25 ?_
     refine Kp_ 6 26 #[true, true, true, true, true, true, true, false, false] (by kernel_rfl) ?_
     refine one_ (i := 7) (N := some 8) #[true, true, true, true, true, true, true, true, false] rfl rfl (by kernel_rfl) (by decide) (fun K hK => ?_)
     refine value_ (w1 := ?_) (v := ?_) (by rfl) rfl ?_ ?_
     rotate_left 2
     ·go_simp
      constructor
      ·rfl
      ·rfl
     refine hK.out _ _ ⟨(blk_cell (blk_alloc BK5.out _) 0).trans rfl, (blk_cell (blk_alloc BK5.out _) 1).trans rfl, (blk_cell (blk_alloc BK5.out _) 2).trans rfl, (blk_cell (blk_alloc BK5.out _) 3).trans rfl, (blk_cell (blk_alloc BK5.out _) 4).trans rfl, (blk_cell (blk_alloc BK5.out _) 5).trans rfl⟩ (fun hHeld => ?_)
     clear hK K
     refine Kn_ 8 ?_
     have BK8 := Aside0.mk (blk_new w5 (Obj.cells #[.int .i64 0, .int .u64 0] 95))
     have BK6 := Aside0.mk (blk_alloc BK5.out (Obj.cells #[.int .i64 0, .int .u64 0] 95))
     have H6 := Aside0.mk (below_alloc H5.out (Obj.cells #[.int .i64 0, .int .u64 0] 95))
     have GE8 : Aside0 (wr.heap.size ≤ w5.heap.size) := ⟨H5.out.size⟩
     have N78 : Aside0 (g7 ≠ w5.heap.size) := ⟨Nat.ne_of_lt (blk_lt BK5.out)⟩
     generalize w5.alloc (Obj.cells #[.int .i64 0, .int .u64 0] 95) = w6 at BK8 BK6 H6 hHeld ⊢
     generalize w5.heap.size = g8 at BK8 GE8 N78 ⊢
     )
    | (
     refine value_ (w1 := ?_) (v := ?_) (by rfl) rfl ?_ ?_
     rotate_left 2
     ·go_simp
      constructor
      ·rfl
      ·rfl
     refine hK.out _ _ ⟨(blk_cell (blk_alloc BK4.out _) 0).trans rfl, (blk_cell (blk_alloc BK4.out _) 1).trans rfl, (blk_cell (blk_alloc BK4.out _) 2).trans rfl, (blk_cell (blk_alloc BK4.out _) 3).trans rfl, (blk_cell (blk_alloc BK4.out _) 4).trans rfl, (blk_cell (blk_alloc BK4.out _) 5).trans rfl⟩ (fun hHeld => ?_)
     clear hK K
     refine Kn_ 8 ?_
     have BK8a := Aside0.mk (blk_new w4 (Obj.cells #[.int .i64 0, .int .u64 0] 95))
     have BK5 := Aside0.mk (blk_alloc BK4.out (Obj.cells #[.int .i64 0, .int .u64 0] 95))
     have H5 := Aside0.mk (below_alloc H4.out (Obj.cells #[.int .i64 0, .int .u64 0] 95))
     have GE8 : Aside0 (wr.heap.size ≤ w4.heap.size) := ⟨H4.out.size⟩
     have N78 : Aside0 (g7 ≠ w4.heap.size) := ⟨Nat.ne_of_lt (blk_lt BK4.out)⟩
     generalize w4.alloc (Obj.cells #[.int .i64 0, .int .u64 0] 95) = w5 at BK8a BK5 H5 hHeld ⊢
     generalize w4.heap.size = g8 at BK8a GE8 N78 ⊢
     refine one_ (i := 5) (N := some 25) #[true, true, true, true, true, true, false, true, false] rfl rfl (by kernel_rfl) (by decide) (fun K hK => ?_)
     refine goes_ Try.func40 (by kernel_rfl) rfl #[.agg #[.int .u64 y0, .int .u64 y1, .int .u64 y2, .int .u64 y3, .int .i64 y4]] (by rfl) rfl rfl (by (try simp only [List.map_toArray, List.map_cons, List.map_nil]); first | done | rfl) ?_
     refine (stamp_Stamp_N.calls y0 y1 y2 y3 y4 q w5 HN.out).mono ?_
     rintro e w6 ⟨rfl, hb⟩
     refine ⟨_, rfl, ?_⟩
     have H6 := Aside0.mk (below_step H5.out hb)
     have BK6 := Aside0.mk (blk_below BK5.out hb)
     have BK8 := Aside0.mk (blk_below BK8a.out hb)
     clear hb
     refine hK.out _ _ ⟨(blk_cell BK6.out 0).trans rfl, (blk_cell BK6.out 1).trans rfl, (blk_cell BK6.out 2).trans rfl, (blk_cell BK6.out 3).trans rfl, (blk_cell BK6.out 4).trans rfl, (blk_cell BK6.out 5).trans rfl⟩ (fun hHeld => ?_)
     clear hK K
     refine Kn_ 25 ?_
     refine Kp_ 6 26 #[true, true, true, true, true, true, true, true, false] (by kernel_rfl) ?_
     )
   all_goals
    have hz0 := (blk_cell BK8.out 0).trans rfl
    have hz1 := (blk_cell BK8.out 1).trans rfl
    have fz0 := blk_frozen BK8.out 0
    have fz1 := blk_frozen BK8.out 1
    refine last_ (i := 8) (N := none) #[true, true, true, true, true, true, true, true, true] rfl rfl (by kernel_rfl) (by decide) (fun K hK => ?_)
    refine skip_ (w1 := ?_) (by rfl) rfl ?_ ?_
    rotate_left
    ·go_simp
     rfl
    refine hK.out _ _ ?_
    clear hK K
    refine done_ (by kernel_rfl) ?_
    clear hz0 hz1 fz0 fz1 hHeld
    have H8 : Aside0 (Below wr.heap.size wr ((w6.setCell ⟨g8, 0, none⟩ (.int .i64 y4)).setCell ⟨g8, 1, none⟩ (.int .u64 q))) := ⟨((((H6.out).setCell GE8.out _)).setCell GE8.out _)⟩
    have BN8 : Aside0 (((w6.setCell ⟨g8, 0, none⟩ (.int .i64 y4)).setCell ⟨g8, 1, none⟩ (.int .u64 q)).heap[g8]? = some (.cells #[.int .i64 y4, .int .u64 q] 95 (0, 0))) := ⟨by refine Kv_ ?_; refine blk_put (cs := #[.int .i64 y4, .int .u64 0]) ?_ 1 _ rfl; refine Kv_ ?_; refine blk_put (cs := #[.int .i64 0, .int .u64 0]) ?_ 0 _ rfl; exact Kq_ BK8⟩
    have BT8 : Aside0 (((w6.setCell ⟨g8, 0, none⟩ (.int .i64 y4)).setCell ⟨g8, 1, none⟩ (.int .u64 q)).heap[g7]? = some (.cells #[.int .u64 y0, .int .u64 y1, .int .u64 y2, .int .u64 y3, .int .i64 y4, .slice Ax y5.length cx] 64 (0, 0))) := ⟨(blk_far (blk_far BK6.out N78.out _) N78.out _)⟩
    generalize ((w6.setCell ⟨g8, 0, none⟩ (.int .i64 y4)).setCell ⟨g8, 1, none⟩ (.int .u64 q)) = w8 at H8 BN8 BT8 ⊢
    have hlook := look_bool_ok (HOW.out.kept (grown0 H8.out) (by simp)) keyed_num Try.underlying92 (kn_of HWF.out) HVL.out
    rw [HHS.out] at hlook
    have hk0 := (blk_cell BN8.out 0).trans rfl
    have hk1 := (blk_cell BN8.out 1).trans rfl
    go_wp2
    clear hlook hk0 hk1
    have H9 : Aside0 (Below wr.heap.size wr w8.drew) := ⟨below_drew1 H8.out⟩
    have BN9 := Aside0.mk (blk_drew BN8.out)
    have BT9 := Aside0.mk (blk_drew BT8.out)
    have BX9 := Aside0.mk (blk_below BX.out H9.out)
    refine start_ (n := 14) (S := fun w' => w'.cell? ⟨g8, 0, none⟩ = some (.int .i64 y4) ∧ w'.cell? ⟨g8, 1, none⟩ = some (.int .u64 q) ∧ w'.cell? ⟨g7, 0, none⟩ = some (.int .u64 y0) ∧ w'.cell? ⟨g7, 1, none⟩ = some (.int .u64 y1) ∧ w'.cell? ⟨g7, 2, none⟩ = some (.int .u64 y2) ∧ w'.cell? ⟨g7, 3, none⟩ = some (.int .u64 y3) ∧ w'.cell? ⟨g7, 4, none⟩ = some (.int .i64 y4) ∧ w'.cell? ⟨g7, 5, none⟩ = some (.slice Ax y5.length cx) ∧ w'.cell? ⟨g3, 0, none⟩ = some (.int .u64 s0) ∧ w'.cell? ⟨g3, 1, none⟩ = some (.int .u64 s1) ∧ w'.cell? ⟨g3, 2, none⟩ = some (.int .u64 s2) ∧ w'.cell? ⟨g3, 3, none⟩ = some (.int .u64 s3)) (ds := [13]) #[false, false, false, false, false, false, false, false, false, false, false, false, false, false] (by kernel_rfl) rfl rfl ⟨(blk_cell BN9.out 0).trans rfl, (blk_cell BN9.out 1).trans rfl, (blk_cell BT9.out 0).trans rfl, (blk_cell BT9.out 1).trans rfl, (blk_cell BT9.out 2).trans rfl, (blk_cell BT9.out 3).trans rfl, (blk_cell BT9.out 4).trans rfl, (blk_cell BT9.out 5).trans rfl, (blk_cell BX9.out 0).trans rfl, (blk_cell BX9.out 1).trans rfl, (blk_cell BX9.out 2).trans rfl, (blk_cell BX9.out 3).trans rfl⟩ (fun hHeld => ?_)
    generalize w8.drew = w9 at H9 BN9 BT9 BX9 hHeld ⊢
    refine Kp_ 0 33 #[true, false, false, false, false, false, false, false, false, false, false, false, false, false] (by kernel_rfl) ?_
    refine Kp_ 2 35 #[true, false, true, false, false, false, false, false, false, false, false, false, false, false] (by kernel_rfl) ?_
    refine Ko_ 1 34 #[true, true, true, false, false, false, false, false, false, false, false, false, false, false] (by kernel_rfl) hHeld ?_
    refine Ko_ 3 36 #[true, true, true, true, false, false, false, false, false, false, false, false, false, false] (by kernel_rfl) hHeld ?_
    refine Ko_ 4 37 #[true, true, true, true, true, false, false, false, false, false, false, false, false, false] (by kernel_rfl) hHeld ?_
    refine one_ (i := 5) (N := some 38) #[true, true, true, true, true, true, false, false, false, false, false, false, false, false] rfl rfl (by kernel_rfl) (by decide) (fun K hK => ?_)
    refine goes_ Try.func31 (by kernel_rfl) rfl #[.agg #[.int .u64 y0, .int .u64 y1, .int .u64 y2, .int .u64 y3, .int .i64 y4], .agg #[.int .u64 s0, .int .u64 s1, .int .u64 s2, .int .u64 s3]] (by rfl) rfl rfl (by (try simp only [List.map_toArray, List.map_cons, List.map_nil]); first | done | rfl) ?_
    refine (stamp_Seen.calls y0 y1 y2 y3 y4 s0 s1 s2 s3 sv w9 HSV.out).mono ?_
    rintro e w10 ⟨rfl, hb⟩
    refine ⟨_, rfl, ?_⟩
    have H10 := Aside0.mk (below_step H9.out hb)
    have BN10 := Aside0.mk (blk_below BN9.out hb)
    have BT10 := Aside0.mk (blk_below BT9.out hb)
    have BX10 := Aside0.mk (blk_below BX9.out hb)
    clear hb
    refine hK.out _ _ ⟨(blk_cell BN10.out 0).trans rfl, (blk_cell BN10.out 1).trans rfl, (blk_cell BT10.out 0).trans rfl, (blk_cell BT10.out 1).trans rfl, (blk_cell BT10.out 2).trans rfl, (blk_cell BT10.out 3).trans rfl, (blk_cell BT10.out 4).trans rfl, (blk_cell BT10.out 5).trans rfl, (blk_cell BX10.out 0).trans rfl, (blk_cell BX10.out 1).trans rfl, (blk_cell BX10.out 2).trans rfl, (blk_cell BX10.out 3).trans rfl⟩ (fun hHeld => ?_)
    clear hK K
    refine Kn_ 38 ?_
    refine Kp_ 6 39 #[true, true, true, true, true, true, true, false, false, false, false, false, false, false] (by kernel_rfl) ?_
    obtain ⟨w11, hup, hown, hgr⟩ := World.ownsMap.update (HOW.out.kept (grown0 H10.out) (by simp)) keyed_num Try.underlying92 (by have := HJ.out; unfold maxLen; omega) (kn_of HWF.out) (plainElem_bool Try.underlying4 (sv && (bv || !tv)))
    cases sv with
    | true =>
     cases bv with
     | true =>
      simp only [Bool.true_and, Bool.true_or] at hup
      refine Kp_ 7 40 #[true, true, true, true, true, true, true, true, false, false, false, false, false, false] (by kernel_rfl) ?_
      refine Kp_ 8 41 #[true, true, true, true, true, true, true, true, true, false, false, false, false, false] (by kernel_rfl) ?_
      refine pure_ (i := 9) (N := some 42) (v := undef) (a' := ?_) #[true, true, true, true, true, true, true, true, true, true, false, false, false, false] rfl rfl (by kernel_rfl) (fun _ _ _ h => h) (Or.inr ⟨by rfl, rfl⟩) ?_ ?_
      rotate_left
      ·simp only [Act.put, List.setIfInBounds_toArray, List.set_cons_zero, List.set_cons_succ, i64_w, i32_w]
       rfl
      refine pure_ (i := 10) (N := some 43) (v := undef) (a' := ?_) #[true, true, true, true, true, true, true, true, true, true, true, false, false, false] rfl rfl (by kernel_rfl) (fun _ _ _ h => h) (Or.inr ⟨by rfl, rfl⟩) ?_ ?_
      rotate_left
      ·simp only [Act.put, List.setIfInBounds_toArray, List.set_cons_zero, List.set_cons_succ, i64_w, i32_w]
       rfl
      refine Kp_ 11 44 #[true, true, true, true, true, true, true, true, true, true, true, true, false, false] (by kernel_rfl) ?_
      refine Kp_ 12 45 #[true, true, true, true, true, true, true, true, true, true, true, true, true, false] (by kernel_rfl) ?_
      refine last_ (i := 13) (N := none) #[true, true, true, true, true, true, true, true, true, true, true, true, true, true] rfl rfl (by kernel_rfl) (by decide) (fun K hK => ?_)
      refine skip_ (w1 := w11) (by rfl) rfl ?_ ?_
      ·go_simp
      refine hK.out _ _ ?_
      clear hK K
      refine done_ (by kernel_rfl) ?_
      go_wp2
      go_roundg (l.length - (j + 1))
      case measure => have := HK.out; omega
      case rel => exact ⟨j + 1, by first | rfl | (rw [show ((j + 1 : Nat) : Int) = (j : Int) + 1 by omega]; rfl) | (rw [show ((j + 1 : Nat) : Int) = (j : Int) + 1 by omega]; congr 1; exact wrap64_id (by omega) (by omega)), ⟨by omega⟩, ⟨by omega⟩, ⟨(hgr.block g3 (blk_lt BX10.out) (fun e => N3M.out (Option.some.inj e))).trans BX10.out⟩, ⟨_, hown, HTOLD.out _ rfl⟩, ⟨below_by (below_step HB.out H10.out) hgr HWM.out⟩⟩
     | false =>
      simp only [Bool.true_and, Bool.false_or] at hup
      refine Kp_ 7 40 #[true, true, true, true, true, true, true, true, false, false, false, false, false, false] (by kernel_rfl) ?_
      refine Kp_ 8 41 #[true, true, true, true, true, true, true, true, true, false, false, false, false, false] (by kernel_rfl) ?_
      refine Kp_ 9 42 #[true, true, true, true, true, true, true, true, true, true, false, false, false, false] (by kernel_rfl) ?_
      refine Kp_ 10 43 #[true, true, true, true, true, true, true, true, true, true, true, false, false, false] (by kernel_rfl) ?_
      refine Kp_ 11 44 #[true, true, true, true, true, true, true, true, true, true, true, true, false, false] (by kernel_rfl) ?_
      refine Kp_ 12 45 #[true, true, true, true, true, true, true, true, true, true, true, true, true, false] (by kernel_rfl) ?_
      refine last_ (i := 13) (N := none) #[true, true, true, true, true, true, true, true, true, true, true, true, true, true] rfl rfl (by kernel_rfl) (by decide) (fun K hK => ?_)
      refine skip_ (w1 := w11) (by rfl) rfl ?_ ?_
      ·go_simp
      refine hK.out _ _ ?_
      clear hK K
      refine done_ (by kernel_rfl) ?_
      go_wp2
      go_roundg (l.length - (j + 1))
      case measure => have := HK.out; omega
      case rel => exact ⟨j + 1, by first | rfl | (rw [show ((j + 1 : Nat) : Int) = (j : Int) + 1 by omega]; rfl) | (rw [show ((j + 1 : Nat) : Int) = (j : Int) + 1 by omega]; congr 1; exact wrap64_id (by omega) (by omega)), ⟨by omega⟩, ⟨by omega⟩, ⟨(hgr.block g3 (blk_lt BX10.out) (fun e => N3M.out (Option.some.inj e))).trans BX10.out⟩, ⟨_, hown, HTOLD.out _ rfl⟩, ⟨below_by (below_step HB.out H10.out) hgr HWM.out⟩⟩
    | false =>
     simp only [Bool.false_and] at hup
     refine pure_ (i := 7) (N := some 40) (v := undef) (a' := ?_) #[true, true, true, true, true, true, true, true, false, false, false, false, false, false] rfl rfl (by kernel_rfl) (fun _ _ _ h => h) (Or.inr ⟨by rfl, rfl⟩) ?_ ?_
     rotate_left
     ·simp only [Act.put, List.setIfInBounds_toArray, List.set_cons_zero, List.set_cons_succ, i64_w, i32_w]
      rfl
     refine pure_ (i := 8) (N := some 41) (v := undef) (a' := ?_) #[true, true, true, true, true, true, true, true, true, false, false, false, false, false] rfl rfl (by kernel_rfl) (fun _ _ _ h => h) (Or.inr ⟨by rfl, rfl⟩) ?_ ?_
     rotate_left
     ·simp only [Act.put, List.setIfInBounds_toArray, List.set_cons_zero, List.set_cons_succ, i64_w, i32_w]
      rfl
     refine pure_ (i := 9) (N := some 42) (v := undef) (a' := ?_) #[true, true, true, true, true, true, true, true, true, true, false, false, false, false] rfl rfl (by kernel_rfl) (fun _ _ _ h => h) (Or.inr ⟨by rfl, rfl⟩) ?_ ?_
     rotate_left
     ·simp only [Act.put, List.setIfInBounds_toArray, List.set_cons_zero, List.set_cons_succ, i64_w, i32_w]
      rfl
     refine pure_ (i := 10) (N := some 43) (v := undef) (a' := ?_) #[true, true, true, true, true, true, true, true, true, true, true, false, false, false] rfl rfl (by kernel_rfl) (fun _ _ _ h => h) (Or.inr ⟨by rfl, rfl⟩) ?_ ?_
     rotate_left
     ·simp only [Act.put, List.setIfInBounds_toArray, List.set_cons_zero, List.set_cons_succ, i64_w, i32_w]
      rfl
     refine pure_ (i := 11) (N := some 44) (v := undef) (a' := ?_) #[true, true, true, true, true, true, true, true, true, true, true, true, false, false] rfl rfl (by kernel_rfl) (fun _ _ _ h => h) (Or.inr ⟨by rfl, rfl⟩) ?_ ?_
     rotate_left
     ·simp only [Act.put, List.setIfInBounds_toArray, List.set_cons_zero, List.set_cons_succ, i64_w, i32_w]
      rfl
     refine Kp_ 12 45 #[true, true, true, true, true, true, true, true, true, true, true, true, true, false] (by kernel_rfl) ?_
     refine last_ (i := 13) (N := none) #[true, true, true, true, true, true, true, true, true, true, true, true, true, true] rfl rfl (by kernel_rfl) (by decide) (fun K hK => ?_)
     refine skip_ (w1 := w11) (by rfl) rfl ?_ ?_
     ·go_simp
     refine hK.out _ _ ?_
     clear hK K
     refine done_ (by kernel_rfl) ?_
     go_wp2
     go_roundg (l.length - (j + 1))
     case measure => have := HK.out; omega
     case rel => exact ⟨j + 1, by first | rfl | (rw [show ((j + 1 : Nat) : Int) = (j : Int) + 1 by omega]; rfl) | (rw [show ((j + 1 : Nat) : Int) = (j : Int) + 1 by omega]; congr 1; exact wrap64_id (by omega) (by omega)), ⟨by omega⟩, ⟨by omega⟩, ⟨(hgr.block g3 (blk_lt BX10.out) (fun e => N3M.out (Option.some.inj e))).trans BX10.out⟩, ⟨_, hown, HTOLD.out _ rfl⟩, ⟨below_by (below_step HB.out H10.out) hgr HWM.out⟩⟩
  ·have c1b : decide ((j : Int) < (l.length : Int)) = false := decide_eq_false (by omega)
   have hjl : j = l.length := by have := HJ.out; omega
   have HM : Aside0 (∃ D n, ownsB wr 95 w1.heap.size n D ∧ Told sn l D) := ⟨⟨D, j, HOW.out, by have := HTO.out; rw [hjl, List.take_of_length_le (Nat.le_refl _)] at this; exact this⟩⟩
   clear HTO HOW hjl
   go_wp2
   try go_frame
   go_loopg [11] 4 (fun kq v11 wr => ∃ (d : Nat), v11 = .int .i64 d ∧ Aside0 (1 ≤ d ∧ d ≤ 5) ∧ Aside0 (5 - d ≤ kq) ∧ Aside0 (∀ e, 1 ≤ e → e < d → good sn l s0 s1 s2 s3 e = true) ∧ Aside0 (wr.heap[g3]? = some (.cells #[.int .u64 s0, .int .u64 s1, .int .u64 s2, .int .u64 s3] 29 (0, 0))) ∧ Aside0 (∃ D n, ownsB wr 95 w1.heap.size n D ∧ Told sn l D) ∧ Aside0 (Below w.heap.size w wr))
   case atStart => exact ⟨1, rfl, ⟨by omega⟩, ⟨by omega⟩, ⟨fun e h1 h2 => by omega⟩, BX, HM, HB⟩
   case round =>
    clear BX HM HB
    obtain ⟨d, rfl, HD, HK2, HG, BX, HM, HB⟩ := hrel
    have hd1 := HD.out.1
    by_cases c4 : d ≤ 4
    rotate_left
    ·have c4b : decide ((d : Int) ≤ 4) = false := decide_eq_false (by omega)
     go_wp2
     go_ret
     exact ⟨by rw [closed_yes (fun e h1 h2 => HG.out e h1 (by have := HD.out; omega))]; rfl, HB.out⟩
    have c4b : decide ((d : Int) ≤ 4) = true := decide_eq_true (by omega)
    obtain ⟨na, hna⟩ : ∃ na : Nat, nOf s0 s1 s2 s3 d = (na : Int) := ⟨(nOf s0 s1 s2 s3 d).toNat, (Int.toNat_of_nonneg (HNN.out d)).symm⟩
    have HAT : Aside0 (vec_At.f s0 s1 s2 s3 d = some (na : Int)) := ⟨by rw [← hna]; exact Go.Proofs.Ythjhkcebcgdeoaa.Pure.jat_f _ _ _ _ _⟩
    have HNA := Aside0.mk hna
    clear hna
    obtain ⟨hv0, hv1, hv2, hv3, -, -, -, -⟩ := cells4 BX.out
    by_cases cg : na ≤ 4096
    rotate_left
    ·have cgb : decide ((na : Int) > 4096) = true := decide_eq_true (by omega)
     go_wp2_with (first
      | ((with_reducible refine gate_dst (N := 53) rfl ?_); refine Kg_ (some 53) rfl rfl Try.func41 (by kernel_rfl) rfl #[.agg #[.int .u64 s0, .int .u64 s1, .int .u64 s2, .int .u64 s3], .int .i64 d] rfl ?_; (with_reducible refine (vec_At.calls s0 s1 s2 s3 d na _ HAT.out).mono ?_); rintro e w2 ⟨rfl, hb⟩; refine ⟨_, rfl, ?_⟩; have BX2 := Aside0.mk (blk_below BX.out hb); have HB2 := Aside0.mk (below_step HB.out hb); have HM2 : Aside0 (∃ D n, ownsB w2 95 w1.heap.size n D ∧ Told sn l D) := ⟨by obtain ⟨D, n, ho, ht⟩ := HM.out; exact ⟨D, n, ho.kept (grown0 hb) (by simp), ht⟩⟩; clear hb; obtain ⟨hx0, hx1, hx2, hx3, -, -, -, -⟩ := cells4 BX2.out))
     go_ret
     exact ⟨by rw [closed_no hd1 c4 (by unfold good; rw [HNA.out, decide_eq_false (by omega)]; rfl)]; rfl, HB2.out⟩
    have cgb : decide ((na : Int) > 4096) = false := decide_eq_false (by omega)
    go_wp2_with (first
     | ((with_reducible refine gate_dst (N := 53) rfl ?_); refine Kg_ (some 53) rfl rfl Try.func41 (by kernel_rfl) rfl #[.agg #[.int .u64 s0, .int .u64 s1, .int .u64 s2, .int .u64 s3], .int .i64 d] rfl ?_; (with_reducible refine (vec_At.calls s0 s1 s2 s3 d na _ HAT.out).mono ?_); rintro e w2 ⟨rfl, hb⟩; refine ⟨_, rfl, ?_⟩; have BX2 := Aside0.mk (blk_below BX.out hb); have HB2 := Aside0.mk (below_step HB.out hb); have HM2 : Aside0 (∃ D n, ownsB w2 95 w1.heap.size n D ∧ Told sn l D) := ⟨by obtain ⟨D, n, ho, ht⟩ := HM.out; exact ⟨D, n, ho.kept (grown0 hb) (by simp), ht⟩⟩; clear hb; obtain ⟨hx0, hx1, hx2, hx3, -, -, -, -⟩ := cells4 BX2.out)
     | ((with_reducible refine gate_dst (N := 57) rfl ?_); refine Kg_ (some 57) rfl rfl Try.func41 (by kernel_rfl) rfl #[.agg #[.int .u64 s0, .int .u64 s1, .int .u64 s2, .int .u64 s3], .int .i64 d] rfl ?_; (with_reducible refine (vec_At.calls s0 s1 s2 s3 d na _ HAT.out).mono ?_); rintro e w3 ⟨rfl, hb⟩; refine ⟨_, rfl, ?_⟩; have BX3 := Aside0.mk (blk_below BX2.out hb); have HB3 := Aside0.mk (below_step HB2.out hb); have HM3 : Aside0 (∃ D n, ownsB w3 95 w1.heap.size n D ∧ Told sn l D) := ⟨by obtain ⟨D, n, ho, ht⟩ := HM2.out; exact ⟨D, n, ho.kept (grown0 hb) (by simp), ht⟩⟩; clear hb))
    try go_frame
    go_loopg [58] na (fun kq v58 wr => ∃ (m : Nat), v58 = .int .u64 m ∧ Aside0 (m ≤ na) ∧ Aside0 (na - m ≤ kq) ∧ Aside0 (∀ i, i < m → vl sn l d ((i : Int) + 1) = true) ∧ Aside0 (wr.heap[g3]? = some (.cells #[.int .u64 s0, .int .u64 s1, .int .u64 s2, .int .u64 s3] 29 (0, 0))) ∧ Aside0 (∃ D n, ownsB wr 95 w1.heap.size n D ∧ Told sn l D) ∧ Aside0 (Below w.heap.size w wr))
    case atStart => exact ⟨0, rfl, ⟨by omega⟩, ⟨by omega⟩, ⟨fun i hi => by omega⟩, BX3, HM3, HB3⟩
    case round =>
     clear BX HM HB BX2 HB2 BX3 HM3 HB3 hv0 hv1 hv2 hv3 hx0 hx1 hx2 hx3
     obtain ⟨m, rfl, HMA, HK3, HV, BX, HM, HB⟩ := hrel
     by_cases cm : m < na
     rotate_left
     ·have cmb : decide ((m : Int) < (na : Int)) = false := decide_eq_false (by omega)
      have HMN : Aside0 (m = na) := ⟨by have := HMA.out; omega⟩
      go_wp2
      go_roundg (5 - (d + 1))
      case measure => have := HK2.out; omega
      case rel => exact ⟨d + 1, by first | rfl | (rw [show ((d + 1 : Nat) : Int) = (d : Int) + 1 by omega]; rfl) | (rw [show ((d + 1 : Nat) : Int) = (d : Int) + 1 by omega]; congr 1; exact wrap64_id (by omega) (by omega)), ⟨by omega⟩, ⟨by omega⟩, ⟨fun e h1 h2 => by
       by_cases he : e = d
       ·subst he
        unfold good
        rw [HNA.out, decide_eq_true (by omega), Bool.true_and, List.all_eq_true]
        intro i hi
        rw [Int.toNat_natCast] at hi
        exact HV.out i (by have := List.mem_range.1 hi; have := HMN.out; omega)
       ·exact HG.out e h1 (by omega)⟩, BX, HM, HB⟩
     have cmb : decide ((m : Int) < (na : Int)) = true := decide_eq_true (by omega)
     obtain ⟨m1, hm1⟩ : ∃ m1 : Nat, m1 = m + 1 := ⟨_, rfl⟩
     have e1 : IntKind.u64.wrap ((m : Int) + 1) = (m1 : Int) := by rw [IntKind.wrap_u64]; omega
     have e2 : (m : Int) + 1 = (m1 : Int) := by omega
     have hlook : (Instr.lookup 92 (.map (some w1.heap.size)) (.agg #[.int .i64 d, .int .u64 m1]) false).run Try.prog wr = .ok (.bool (vl sn l d m1)) wr := by
      obtain ⟨D, n, hown, htold⟩ := HM.out
      have hwf : wfN (d : Int) (m1 : Int) := wfN_of (by omega) (by omega) (by omega) (by omega)
      exact look_bool hown keyed_num Try.underlying92 (kn_of hwf) (htold.2 _ _ hwf).2
     have HM1 := Aside0.mk hm1
     have HE2 := Aside0.mk e2
     clear hm1 e2
     cases hv : vl sn l d m1 with
     | false =>
      rw [hv] at hlook
      go_wp2
      go_ret
      exact ⟨by rw [closed_no hd1 c4 (by
       unfold good
       rw [Bool.and_eq_false_iff]
       refine .inr ?_
       rw [HNA.out, List.all_eq_false]
       exact ⟨m, List.mem_range.2 (by rw [Int.toNat_natCast]; exact cm), by rw [HE2.out, hv]; simp⟩)]; rfl, HB.out⟩
     | true =>
      rw [hv] at hlook
      go_wp2
      go_roundg (na - (m + 1))
      case measure => have := HK3.out; omega
      case rel => exact ⟨m + 1, by first | rfl | (rw [show ((m + 1 : Nat) : Int) = (m1 : Int) by have := HM1.out; omega]) | (congr 1; have := HM1.out; omega), ⟨by omega⟩, ⟨by omega⟩, ⟨fun i hi => by
       by_cases he : i = m
       ·subst he; rw [HE2.out]; exact hv
       ·exact HV.out i (by omega)⟩, BX, HM, HB⟩
end Go.Proofs.Ythjhkcebcgdeoaa.Jud

namespace Go.Proofs.Ythjhkcebcgdeoaa.Q
open Go.RowKit Go.Proofs.YthjhkcebcgdeoaaW.PrintWords Go.Proofs.YthjhkcebcgdeoaaW.PrintLast Go.Proofs.YthjhkcebcgdeoaaW.PrintMore
attribute [local go_sem] max2_int min2_int max_two min_two max_three min_three max_four min_four   -- for this text's walks alone
set_option linter.unusedVariables false
set_option linter.unusedSimpArgs false
def judge_Closed.ok (l : List S64) (a1_0 a1_1 a1_2 a1_3 : Int) : Prop := (0 ≤ a1_0 ∧ 0 ≤ a1_1 ∧ 0 ≤ a1_2 ∧ 0 ≤ a1_3) ∧ l.length ≤ 1000000 ∧ ∀ x ∈ l, (-9223372036854775808 ≤ x.f0.f1 ∧ x.f0.f1 ≤ 9223372036854775807) ∧ 0 ≤ Go.Proofs.Ythjhkcebcgdeoaa.Pure.nOf x.f0.f0.f0 x.f0.f0.f1 x.f0.f0.f2 x.f0.f0.f3 x.f0.f1 ∧ Go.Proofs.Ythjhkcebcgdeoaa.Pure.nOf x.f0.f0.f0 x.f0.f0.f1 x.f0.f0.f2 x.f0.f0.f3 x.f0.f1 ≤ 18446744073709551615
instance judge_Closed.dec (l : List S64) (a1_0 a1_1 a1_2 a1_3 : Int) : Decidable (judge_Closed.ok l a1_0 a1_1 a1_2 a1_3) := inferInstanceAs (Decidable (_ ∧ _))
def judge_Closed.f (l0 : List S64) (a1_0 a1_1 a1_2 a1_3 : Int) : Option Bool := if judge_Closed.ok l0 a1_0 a1_1 a1_2 a1_3 then some (Go.Proofs.Ythjhkcebcgdeoaa.Jud.closedJ (fun x => decide (x.f0.f0 ≤ a1_0 ∧ x.f0.f1 ≤ a1_1 ∧ x.f0.f2 ≤ a1_2 ∧ x.f0.f3 ≤ a1_3)) l0 a1_0 a1_1 a1_2 a1_3) else none
theorem judge_Closed.calls (A0 : Option Addr) (c0 : Nat) (l0 : List S64) (a1_0 a1_1 a1_2 a1_3 : Int) (r : Bool) (w : World) (hr0 : Kd.C k64 w A0 l0.length l0) (hc0 : l0.length ≤ c0) (h : judge_Closed.f l0 a1_0 a1_1 a1_2 a1_3 = some r) :
  Calls Try.prog 20 #[.slice A0 l0.length c0, .agg #[.int .u64 a1_0, .int .u64 a1_1, .int .u64 a1_2, .int .u64 a1_3]] w fun e w' => e = .returned (.bool r) ∧ Below w.heap.size w w' := by
 unfold judge_Closed.f at h
 by_cases hc : judge_Closed.ok l0 a1_0 a1_1 a1_2 a1_3
 rotate_left
 ·rw [if_neg hc] at h; cases h
 rw [if_pos hc] at h
 injection h with h
 rw [← h]
 exact Go.Proofs.Ythjhkcebcgdeoaa.Jud.closed_c (fun x => decide (x.f0.f0 ≤ a1_0 ∧ x.f0.f1 ≤ a1_1 ∧ x.f0.f2 ≤ a1_2 ∧ x.f0.f3 ≤ a1_3)) a1_0 a1_1 a1_2 a1_3 hc.1.1 hc.1.2.1 hc.1.2.2.1 hc.1.2.2.2 A0 c0 l0 w hr0 hc0 hc.2.1 (fun x hx => Go.Proofs.Ythjhkcebcgdeoaa.Jud.wfN_of (hc.2.2 x hx).1.1 (hc.2.2 x hx).1.2 (hc.2.2 x hx).2.1 (hc.2.2 x hx).2.2) (fun x _ => Go.Proofs.Ythjhkcebcgdeoaa.Pure.jseen_f _ _ _ _ _ _ _ _ _)
def item_Size.f (a0_0 : ByteArray) (a0_1 : ByteArray) (a0_2 : ByteArray) (a0_3 : Bool) : Option (Int) := if a0_3 = true then (some 0) else (some (wrap64 ((wrap64 ((a0_0.size : Int) + (a0_1.size : Int))) + (a0_2.size : Int))))
set_option maxHeartbeats 8000000 in
set_option maxRecDepth 100000 in
theorem item_Size.calls (a0_0 : ByteArray) (a0_1 : ByteArray) (a0_2 : ByteArray) (a0_3 : Bool) (r : Int) (w : World) (h : item_Size.f a0_0 a0_1 a0_2 a0_3 = some r) :
  Calls Try.prog 27 #[.agg #[.string a0_0, .string a0_1, .string a0_2, .bool a0_3]] w fun e w' => e = .returned (.int .i64 r) ∧ Below w.heap.size w w' := by
 have hu24 := Try.underlying24
 have HB := Aside0.mk (Below.refl w.heap.size w)
 have H : (if a0_3 = true then (some 0) else (some (wrap64 ((wrap64 ((a0_0.size : Int) + (a0_1.size : Int))) + (a0_2.size : Int))))) = some r := h
 clear h
 by_cases c2 : a0_3 = true
 ·subst c2
  have H1 : (some 0) = some r := by rw [if_pos rfl] at H; exact H
  clear H
  have H := H1
  clear H1
  obtain rfl := Option.some.inj H
  go_enter Try.func27, Try.ntmps27
  go_wp2_with (first | ((with_reducible refine gate_dst (N := 1) rfl ?_); refine Ka_ 1 #[.string a0_0, .string a0_1, .string a0_2, .bool true] 24 ?_; intro gb101 hg w3 hbox hb; have BK101 := Aside0.mk (hbox); have GW101 := Kw_ HB hg; have GE101 := GW101; replace HB := Ks_ HB hb; clear hb hbox hg; obtain ⟨hcz4_0, hcz4_1, hcz4_2, hcz4_3, hfz4_0, hfz4_1, hfz4_2, hfz4_3⟩ := Ke4_ BK101.out))
  go_ret
  exact ⟨Kh_, Kz_ HB GE101⟩
 replace c2 := Bool.eq_false_iff.mpr c2
 subst c2
 have H1 : (some (wrap64 ((wrap64 ((a0_0.size : Int) + (a0_1.size : Int))) + (a0_2.size : Int)))) = some r := by rw [if_neg (show ¬ (false = true) by decide)] at H; exact H
 clear H
 have H := H1
 clear H1
 obtain rfl := Option.some.inj H
 go_enter Try.func27, Try.ntmps27
 go_wp2_with (first | ((with_reducible refine gate_dst (N := 1) rfl ?_); refine Ka_ 1 #[.string a0_0, .string a0_1, .string a0_2, .bool false] 24 ?_; intro gb101 hg w5 hbox hb; have BK101 := Aside0.mk (hbox); have GW101 := Kw_ HB hg; have GE101 := GW101; replace HB := Ks_ HB hb; clear hb hbox hg; obtain ⟨hcz6_0, hcz6_1, hcz6_2, hcz6_3, hfz6_0, hfz6_1, hfz6_2, hfz6_3⟩ := Ke4_ BK101.out))
 go_ret
 exact ⟨Kh_, Kz_ HB GE101⟩
end Go.Proofs.Ythjhkcebcgdeoaa.Q

set_option linter.unusedVariables false
set_option linter.unusedSimpArgs false
namespace Go.Proofs.Ythjhkcebcgdeoaa.Jud
open Go Go.RowKit Go.WideShapes Go.Proofs.Ythjhkcebcgdeoaa.Q Go.Proofs.YthjhkcebcgdeoaaW.PrintWords Go.Proofs.YthjhkcebcgdeoaaW.PrintLast Go.Proofs.YthjhkcebcgdeoaaW.PrintMore
open Go.Maps (Keyed)
open Go.Proofs.Ythjhkcebcgdeoaa.Pure (wrap64_id toList_data toList_iff)
theorem keyed_at : Keyed Try.prog 102 :=
 Go.Maps.Keyed.of_law (deep_law_laid (show laidOutB Try.prog = true by kernel_rfl) (m := 2) (by omega) (of_decide_eq_true (by kernel_rfl)) (by kernel_rfl) (by kernel_rfl))
def kl (a b : ByteArray) : Lit := .string (keyBytes [.string a.data.toList, .string b.data.toList])
theorem kl_of (a b : ByteArray) (h0 : a.size ≤ 9223372036854775807) (h1 : b.size ≤ 9223372036854775807) : keyOf Try.prog 102 (.agg #[.string a, .string b]) = some (kl a b) := by
 have hu := Try.underlying102
 have hs := Try.underlying9
 have hk : Try.prog.keyType 102 = true := by kernel_rfl
 have hf : (Value.agg #[.string a, .string b]).formed Try.prog 102 = true := by
  have hc : Try.prog.cellsOf 102 = 2 := by kernel_rfl
  simp [Value.formed, hu, hc]
 have hc : Try.prog.cellsOf 102 = 2 := by kernel_rfl
 have hc9 : Try.prog.cellsOf 9 = 1 := by kernel_rfl
 have hn : ∃ n, Try.prog.types.size + 1 = n + 2 := ⟨Try.prog.types.size - 1, by have : 1 ≤ Try.prog.types.size := of_decide_eq_true (by kernel_rfl); omega⟩
 obtain ⟨n, hn⟩ := hn
 have m0 : a.size ≤ maxLen := by unfold maxLen; omega
 have m1 : b.size ≤ maxLen := by unfold maxLen; omega
 unfold keyOf
 rw [hu]
 simp only [hk, hf, Bool.and_self, if_true, hn]
 have k1 : ∀ s : ByteArray, s.size ≤ maxLen → Try.prog.keyLits (n + 1) 9 [.string s] = some [.string s.data.toList] := by
  intro s m
  unfold Program.keyLits
  simp only [hs]
  rw [if_pos m]
 unfold Program.keyLits
 simp only [hu]
 rw [if_pos ⟨by rw [hc]; rfl, by first | rfl | decide +kernel⟩]
 have e0 := k1 _ m0
 have e1 := k1 _ m1
 clear hu hs hk hf hc
 simp [hc9, Value.cells, e0, e1, kl]
theorem kl_inj {a b c d : ByteArray} (h0 : a.size ≤ 9223372036854775807) (h1 : b.size ≤ 9223372036854775807) (h2 : c.size ≤ 9223372036854775807) (h3 : d.size ≤ 9223372036854775807) (h : kl a b = kl c d) : a = c ∧ b = d := by
 have e := keyed_at.inj (kl_of a b h0 h1) (h ▸ kl_of c d h2 h3)
 simpa using e
theorem kl_isKey (a b : ByteArray) : WideAt.IsKeyLit (kl a b) := trivial
abbrev Pr := ByteArray × ByteArray
def klp (p : Pr) : Lit := kl p.1 p.2
def sized (p : Pr) : Prop := p.1.size ≤ 9223372036854775807 ∧ p.2.size ≤ 9223372036854775807
def prs (l : List Tx) : List Pr := l.flatMap (fun x => x.f1.map (fun y => (y.f0, y.f1)))
def szJ (x : Wr) : Int := if x.f3 = true then 0 else wrap64 (wrap64 ((x.f0.size : Int) + (x.f1.size : Int)) + (x.f2.size : Int))
theorem size_f (x : Wr) : item_Size.f x.f0 x.f1 x.f2 x.f3 = some (szJ x) := by
 unfold item_Size.f szJ
 split <;> rfl
def tot (f : Lit → Int) (es : List (Lit × DataW Unit)) : Int := (es.map fun p => f p.1).sum
theorem tot_cons (f : Lit → Int) (x : Lit × DataW Unit) (l : List (Lit × DataW Unit)) : tot f (x :: l) = f x.1 + tot f l := by simp [tot]
theorem tot_step (f : Lit → Int) {kl : Lit} {d : DataW Unit} {left : Lit → Bool} (hk : WideAt.IsKeyLit kl) (hl : left kl = true) : ∀ {es : List (Lit × DataW Unit)}, es.Pairwise (fun p q => p.1 ≠ q.1) → (kl, d) ∈ es →
  tot f (es.filter fun p => left p.1) = f kl + tot f (es.filter fun p => left p.1 && !p.1.sameKey kl)
 | [], _, h => by simp at h
 | x :: r, hp, h => by
  obtain ⟨h1, h2⟩ := List.pairwise_cons.1 hp
  by_cases c : x = (kl, d)
  ·subst c
   have e1 : ∀ p ∈ r, p.1.sameKey kl = false := fun p hp => Go.Maps.sameKey_ne (h1 p hp).symm
   have e2 : (r.filter fun p => left p.1 && !p.1.sameKey kl) = r.filter fun p => left p.1 := List.filter_congr (fun p hp => by rw [e1 p hp]; simp)
   rw [List.filter_cons, List.filter_cons, if_pos hl, if_neg (by simp [WideAt.sameKey_self hk]), tot_cons, e2]
  ·have hm : (kl, d) ∈ r := by
    rcases List.mem_cons.1 h with h | h
    ·exact absurd h.symm c
    ·exact h
   have ih := tot_step f hk hl h2 hm
   have hx : x.1.sameKey kl = false := Go.Maps.sameKey_ne (h1 _ hm)
   rw [List.filter_cons, List.filter_cons]
   by_cases cl : left x.1 = true
   ·rw [if_pos cl, if_pos (by simp [cl, hx]), tot_cons, tot_cons, ih]
    omega
   ·rw [if_neg cl, if_neg (by simp [cl]), ih]
theorem at_mem {kl : Lit} {d : DataW Unit} {es : List (Lit × DataW Unit)} (h : ∀ zd, (DataW.map es).atKey kl zd = d) : (kl, d) ∈ es := by
 have hh := Go.Maps.has_true_of_atKey h
 obtain ⟨p, hp, hpk⟩ := List.any_eq_true.1 (show es.any (fun p => p.1.sameKey kl) = true from hh)
 have hs : (es.find? (fun p => p.1.sameKey kl)).isSome = true := List.find?_isSome.2 ⟨p, hp, hpk⟩
 obtain ⟨x, hx⟩ := Option.isSome_iff_exists.1 hs
 have e1 : x.2 = d := by have := h .nil; simpa [DataW.atKey, hx] using this
 have e2 : x.1 = kl := WideAt.sameKey_eq (by simpa using List.find?_some hx)
 rw [← e1, ← e2]
 exact List.mem_of_find?_eq_some hx
abbrev ranging (w : World) (b r n : Nat) (es : List (Lit × DataW Unit)) (left : Lit → Bool) (cnt : Nat) : Prop := w.ranges Try.prog 102 (plainElem (H := Unit) Try.prog 4) b r n (.map es) left cnt
section
variable {ops : Array Oper} {rest : List Oper} {o : Oper} {a : Act} {Q : Exit → Act → World → Prop}
theorem wp_range (f : Lit → Int) (w : World) (hg : o.guard = none) (m : Operand) (hop : o.op = Op.range 100 m) (b n : Nat) (es : List (Lit × DataW Unit))
  (hm : a.eval m = .map (some b)) (hown : ownsB w 102 b n (.map es))
  (hK : ∀ w' left cnt, ranging w' b w.heap.size n es left cnt → tot f (es.filter fun p => left p.1) = tot f es → w.grownBy w' none → w'.heap.size = w.heap.size + 1 → wpList Try.prog ops Q rest (a.put o.dst (.pointer (some ⟨w.heap.size, 0, none⟩))) w') :
  wpList Try.prog ops Q (o :: rest) a w := by
 obtain ⟨es', e1, hpw, hks⟩ := hown.entries keyed_at
 cases e1
 refine wpList_range_own w hg m 100 hop 102 4 keyed_at Try.underlying100 _ b _ _ hm hown (fun w' h1 h2 h3 => hK w' _ _ h1 ?_ h2 h3)
 rw [List.filter_eq_self.2]
 intro p hpm
 exact List.any_eq_true.2 ⟨p, hpm, WideAt.sameKey_self (hks p hpm)⟩
theorem wp_next (f : Lit → Int) (w : World) (hg : o.guard = none) (it : Operand) (hop : o.op = Op.next it false) (b r n : Nat) (es : List (Lit × DataW Unit)) (left : Lit → Bool) (cnt : Nat)
  (hit : a.eval it = .pointer (some ⟨r, 0, none⟩)) (hr : ranging w b r n es left cnt)
  (hDone : tot f (es.filter fun p => left p.1) = 0 → wpList Try.prog ops Q rest (a.put o.dst (.tuple #[.bool false])) w)
  (hMore : ∀ (key : Value) (kl : Lit) (cv : Value) (d : DataW Unit) (w' : World) (left' : Lit → Bool) (cnt' : Nat), keyOf Try.prog 102 key = some kl → (kl, d) ∈ es → tot f (es.filter fun p => left p.1) = f kl + tot f (es.filter fun p => left' p.1) → ranging w' b r n es left' cnt' → cnt' < cnt →
   w.grownBy w' (some r) → w'.heap.size = w.heap.size → (Instr.entry (.pointer (some ⟨r, 0, none⟩))).run Try.prog w' = .ok (.tuple #[key, cv]) w' → wpList Try.prog ops Q rest (a.put o.dst (.tuple #[.bool true, key, cv])) w') :
  wpList Try.prog ops Q (o :: rest) a w := by
 refine wpList_next_ranges (α := Value) w hg it hop 102 keyed_at (plainElem Try.prog 4) id Value.bool (fun key kl _ => ⟨key, rfl⟩) (fun v y hv => by obtain ⟨c, rfl, _⟩ := plainElem_bool_inv Try.underlying4 hv; exact ⟨c, rfl⟩) b r n _ left cnt hit hr ?_ ?_
 ·intro h0 h1
  refine hDone ?_
  have : (es.filter fun p => left p.1) = [] := List.filter_eq_nil_iff.2 (fun p _ => by rw [h1]; simp)
  rw [this]
  rfl
 ·intro key c kl y w' cnt' hkey hlk hv hat hrg hlt hgr hsz hen
  obtain ⟨c', ec, rfl⟩ := plainElem_bool_inv Try.underlying4 hv
  cases ec
  obtain ⟨es', e1, hpw, hks⟩ := hr.owns.entries keyed_at
  cases e1
  have hm := at_mem hat
  exact hMore key kl (.bool c) _ w' _ cnt' hkey hm (tot_step f (hks _ hm) hlk hpw hm) hrg hlt hgr hsz hen
end
end Go.Proofs.Ythjhkcebcgdeoaa.Jud
