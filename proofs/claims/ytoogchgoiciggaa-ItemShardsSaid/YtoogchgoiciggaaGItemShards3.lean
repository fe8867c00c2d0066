import Derived.Below
import Derived.OrdersHeld
import Derived.Test.YtoogchgoiciggaaQx0
import Derived.Test.YtoogchgoiciggaaGItemShards2
/- A region that draws its order, by an invariant: each operation once, whatever has come up ahead of it. -/
set_option linter.unusedVariables false
set_option linter.unusedSimpArgs false
namespace Go.Proofs.Ytoogchgoiciggaa.Inv
open Go Go.RowKit
section
variable {P : Program} {ops : Array Oper} {Q : Exit → Act → World → Prop}
/-- How many have not come up yet. -/
def left (L : Array Bool) : Nat := L.toList.countP (fun b => !b)
theorem left_set {L : Array Bool} {i : Nat} (h : L.getD i true = false) : left (L.setIfInBounds i true) + 1 = left L := by
  have hi : i < L.size := by
    rcases Nat.lt_or_ge i L.size with h' | h'
    · exact h'
    · simp [Array.getElem?_eq_none h'] at h
  have hv : L.toList[i]'(by simpa using hi) = false := by simpa [hi] using h
  unfold left
  rw [Array.toList_setIfInBounds, List.countP_set (by simpa using hi), hv]
  have hp : 0 < L.toList.countP (fun b => !b) := List.countP_pos_iff.2 ⟨false, by rw [← hv]; exact List.getElem_mem _, rfl⟩
  simp only [Bool.not_false, Bool.not_true, if_true, Bool.false_eq_true, if_false, Nat.add_zero]
  omega
theorem any_inv (Inv : Array Bool → Act → World → Prop) (hd : ∀ L a w, Inv L a w → Region.ready .any ops L = [] → Q .normal a w)
    (hs : ∀ L a w i, Inv L a w → i ∈ Region.ready .any ops L → wpOp P ops Q i (fun a' w' => Inv (L.setIfInBounds i true) a' w') a w) :
    ∀ fuel L a w, left L ≤ fuel → Inv L a w → wpAny P .any ops Q fuel L a w := by
  intro fuel
  induction fuel with
  | zero =>
    intro L a w hl hI
    have h0 : Region.ready .any ops L = [] := by
      cases hr : Region.ready .any ops L with
      | nil => rfl
      | cons i t =>
        have hm := (mem_ready.1 (show i ∈ Region.ready .any ops L by rw [hr]; simp)).1
        have := left_set hm
        omega
    exact ⟨h0, hd L a w hI h0⟩
  | succ fuel ih =>
    intro L a w hl hI
    refine ⟨hd L a w hI, fun i hi => ?_⟩
    have := left_set (mem_ready.1 hi).1
    exact wpOp_mono (fun a' w' h => ih _ a' w' (by omega) h) (hs L a w i hI hi)
theorem all_of_ready {n : Nat} (hn : ops.size = n + 1) (hback : ∀ (i : Nat) (o : Oper), ops[i]? = some o → ∀ e ∈ o.after, e.on < i) {L : Array Bool} (hL : L.size = n + 1) (h : Region.ready .any ops L = []) : ∀ j, j ≤ n → L.getD j false = true := by
  intro j
  induction j using Nat.strongRecOn with
  | _ j ih =>
    intro hj
    have ho : ops[j]? = some (ops[j]'(by omega)) := Array.getElem?_eq_getElem _
    by_cases c : L.getD j true = false
    · have : j ∈ Region.ready .any ops L := mem_ready.2 ⟨c, _, ho, fun e he _ => ih e.on (hback j _ ho e he) (by have := hback j _ ho e he; omega)⟩
      rw [h] at this
      cases this
    · have hlt : j < L.size := by omega
      simpa [hlt] using c
/-- Two acts that are the same but for the places of the region's own. -/
def Like (own : List Tmp) (a0 a : Act) : Prop := a.defers = a0.defers ∧ a.tmps.size = a0.tmps.size ∧ ∀ t, t ∉ own → a.tmps.getD t undef = a0.tmps.getD t undef
theorem Like.refl (own : List Tmp) (a : Act) : Like own a a := ⟨rfl, rfl, fun _ _ => rfl⟩
theorem Like.put {own : List Tmp} {a0 a : Act} (h : Like own a0 a) {N : Tmp} (hN : N ∈ own) (v : Value) : Like own a0 (a.put (some N) v) := by
  refine ⟨h.1, by simp [Act.put, h.2.1], fun t ht => ?_⟩
  have hne : N ≠ t := fun e => ht (e ▸ hN)
  rw [← h.2.2 t ht]
  simp [Act.put, Array.getElem?_setIfInBounds_ne hne]
theorem put_same (a : Act) (N : Tmp) (v : Value) (h : N < a.tmps.size) : (a.put (some N) v).tmps.getD N undef = v := by
  simp [Act.put, h]
theorem put_ne (a : Act) {N M : Tmp} (v : Value) (h : N ≠ M) : (a.put (some N) v).tmps.getD M undef = a.tmps.getD M undef := by
  simp [Act.put, Array.getElem?_setIfInBounds_ne h]
/-- THE LAW. All but the last operation leave a value in a place of their own, and may make memory; the last one waits for all. -/
theorem region_inv {id : Nat} {a0 : Act} {w0 : World} (hm : P.follows .mixedOrders = true) (n : Nat) (hn : ops.size = n + 1) (dst : Nat → Tmp) (own : List Tmp)
    (hdst : ∀ (i : Nat) (o : Oper), i < n → ops[i]? = some o → o.dst = some (dst i) ∧ Region.wanted o = fun _ => true) (hown : ∀ i, i < n → dst i ∈ own ∧ dst i < a0.tmps.size) (hinj : ∀ i j, i < n → j < n → dst i = dst j → i = j)
    (hback : ∀ (i : Nat) (o : Oper), ops[i]? = some o → ∀ e ∈ o.after, e.on < i) (hlast : ∀ o : Oper, ops[n]? = some o → ∀ j, j < n → ∃ e ∈ o.after, Region.binds .any e = true ∧ e.on = j)
    (Spec : Nat → Value → World → Prop) (S : World → Prop) (hS : S w0.drew)
    (hstay : ∀ i v W W', S W → Below W.heap.size W W' → Spec i v W → Spec i v W')
    (hstep : ∀ (i : Nat) (o : Oper), i < n → ops[i]? = some o → ∀ (a : Act) (W : World), S W → Like own a0 a → (∀ e ∈ o.after, Region.binds .any e = true → Spec e.on (a.tmps.getD (dst e.on) undef) W) →
      ∃ v W', (execOp a.eval o).run P W = .ok (.value v) W' ∧ S W' ∧ Below W.heap.size W W' ∧ Spec i v W')
    (hend : ∀ (a : Act) (W : World), S W → Like own a0 a → (∀ i, i < n → Spec i (a.tmps.getD (dst i) undef) W) → wpOp P ops Q n (fun a' w' => Q .normal a' w') a W) :
    (Code.region id ops true).wp P Q a0 w0 := by
  refine wp_region_any hm ?_
  refine any_inv (P := P) (ops := ops) (Q := Q) (fun L a W => L.size = n + 1 ∧ (L.getD n false = false → S W ∧ Like own a0 a ∧ ∀ i, i < n → L.getD i false = true → Spec i (a.tmps.getD (dst i) undef) W) ∧ (L.getD n false = true → Q .normal a W ∧ ∀ j, j < n → L.getD j false = true)) ?_ ?_ _ _ _ _ ?_ ?_
  · intro L a W hI hr
    exact (hI.2.2 (all_of_ready hn hback hI.1 hr n (Nat.le_refl _))).1
  · intro L a W i hI hi
    obtain ⟨h0, o, ho, hdeps⟩ := mem_ready.1 hi
    have hlt : i < n + 1 := by have := (Array.getElem?_eq_some_iff.1 ho).1; omega
    have hnl : L.getD n false = false := by
      cases hc : L.getD n false with
      | false => rfl
      | true =>
        have hall := (hI.2.2 hc).2
        have hil : i < L.size := by have := hI.1; omega
        have h0' : L.getD i false = false := by simpa [hil] using h0
        by_cases c : i = n
        · rw [c, hc] at h0'; cases h0'
        · rw [hall i (by omega)] at h0'; cases h0'
    obtain ⟨hSW, hLike, hSpec⟩ := hI.2.1 hnl
    by_cases c : i = n
    · subst c
      have hall : ∀ j, j < i → L.getD j false = true := fun j hj => by
        obtain ⟨e, he, hb, rfl⟩ := hlast o ho j hj
        exact hdeps e he hb
      have hE := hend a W hSW hLike (fun j hj => hSpec j hj (hall j hj))
      refine wpOp_mono (fun a' w' hq => ⟨by simp [hI.1], ?_, fun _ => ⟨hq, fun j hj => ?_⟩⟩) hE
      · intro hc
        have : i < L.size := by have := hI.1; omega
        simp [this] at hc
      · exact getD_set_true (hall j hj)
    · have hin : i < n := by omega
      obtain ⟨hd, hw⟩ := hdst i o hin ho
      obtain ⟨v, W', hrun, hS', hB, hv⟩ := hstep i o hin ho a W hSW hLike (fun e he hb => hSpec e.on (by have := hback i o ho e he; omega) (hdeps e he hb))
      unfold wpOp
      rw [ho]
      simp only [hw, if_true]
      left
      unfold Oper.wp
      rw [hrun]
      show _ ∧ _
      have hsz : dst i < a.tmps.size := by rw [hLike.2.1]; exact (hown i hin).2
      have hne : i ≠ n := c
      refine ⟨by simp [hI.1], fun _ => ⟨hS', by rw [hd]; exact hLike.put (hown i hin).1 v, ?_⟩, fun hc => ?_⟩
      · intro j hj hl
        by_cases cj : j = i
        · subst cj
          rw [hd, put_same a _ v hsz]
          exact hv
        · rw [hd, put_ne a v (fun e => cj (hinj i j hin hj e).symm)]
          have hl' : L.getD j false = true := by rw [getD_set_ne false (Ne.symm cj)] at hl; exact hl
          exact hstay j _ W W' hSW hB (hSpec j hj hl')
      · rw [getD_set_ne false hne, hnl] at hc
        cases hc
  · show left (Array.replicate ops.size false) ≤ ops.size
    unfold left
    exact Nat.le_trans (List.countP_le_length) (by simp)
  · refine ⟨by simp [hn], fun _ => ⟨hS, Like.refl _ _, fun i _ hl => ?_⟩, fun hc => ?_⟩
    · exfalso
      by_cases c : i < ops.size
      · simp [c] at hl
      · simp [c] at hl
    · exfalso
      simp [hn] at hc
/-- What is asked of the region's text, at once. -/
def okB (ops : Array Oper) (n : Nat) (ds : List Tmp) : Bool :=
  ops.size == n + 1 && ds.length == n && (List.range n).all (fun i => (List.range n).all fun j => i == j || ds[i]? != ds[j]?) &&
  (List.range n).all (fun i => match ops[i]? with | some o => o.dst == ds[i]? && o.guard.isNone | none => false) &&
  (List.range (n + 1)).all (fun i => match ops[i]? with | some o => o.after.all (fun e => decide (e.on < i)) | none => true) &&
  (match ops[n]? with | some o => (List.range n).all (fun j => o.after.any fun e => Region.binds .any e && e.on == j) | none => false)
theorem wanted_none {o : Oper} (h : o.guard.isNone = true) : Region.wanted o = fun _ => true := by
  funext y
  unfold Region.wanted
  cases hg : o.guard with
  | none => rfl
  | some g => rw [hg] at h; cases h
theorem region_ok {id : Nat} {a0 : Act} {w0 : World} (hm : P.follows .mixedOrders = true) (n : Nat) (ds : List Tmp) (hB : okB ops n ds = true) (hsz : ∀ N ∈ ds, N < a0.tmps.size)
    (Spec : Nat → Value → World → Prop) (S : World → Prop) (hS : S w0.drew)
    (hstay : ∀ i v W W', S W → Below W.heap.size W W' → Spec i v W → Spec i v W')
    (hstep : ∀ (i : Nat) (o : Oper), i < n → ops[i]? = some o → ∀ (a : Act) (W : World), S W → Like ds a0 a → (∀ e ∈ o.after, Region.binds .any e = true → Spec e.on (a.tmps.getD (ds.getD e.on 0) undef) W) →
      ∃ v W', (execOp a.eval o).run P W = .ok (.value v) W' ∧ S W' ∧ Below W.heap.size W W' ∧ Spec i v W')
    (hend : ∀ (a : Act) (W : World), S W → Like ds a0 a → (∀ i, i < n → Spec i (a.tmps.getD (ds.getD i 0) undef) W) → wpOp P ops Q n (fun a' w' => Q .normal a' w') a W) :
    (Code.region id ops true).wp P Q a0 w0 := by
  unfold okB at hB
  simp only [Bool.and_eq_true, beq_iff_eq, List.all_eq_true, List.mem_range, Bool.or_eq_true, bne_iff_ne, decide_eq_true_eq] at hB
  obtain ⟨⟨⟨⟨⟨h1, h2⟩, h3⟩, h4⟩, h5⟩, h6⟩ := hB
  have hget : ∀ i, i < n → ds[i]? = some (ds.getD i 0) := fun i hi => by
    rw [List.getD_eq_getElem?_getD, List.getElem?_eq_getElem (by omega)]
    rfl
  have hmem : ∀ i, i < n → ds.getD i 0 ∈ ds := fun i hi => List.mem_of_getElem? (hget i hi)
  refine region_inv hm n h1 (fun i => ds.getD i 0) ds ?_ (fun i hi => ⟨hmem i hi, hsz _ (hmem i hi)⟩) ?_ ?_ ?_ Spec S hS hstay hstep hend
  · intro i o hi ho
    have := h4 i hi
    rw [ho] at this
    simp only [Bool.and_eq_true, beq_iff_eq] at this
    exact ⟨this.1.trans (hget i hi), wanted_none this.2⟩
  · intro i j hi hj e
    rcases h3 i hi j hj with h | h
    · exact h
    · rw [hget i hi, hget j hj] at h
      exact absurd (congrArg some e) h
  · intro i o ho e he
    have hi : i < n + 1 := by have := (Array.getElem?_eq_some_iff.1 ho).1; omega
    have := h5 i hi
    rw [ho] at this
    simp only [Array.all_eq_true_iff_forall_mem, decide_eq_true_eq] at this
    exact this e he
  · intro o ho j hj
    rw [ho] at h6
    simp only [List.all_eq_true, List.mem_range] at h6
    have := h6 j hj
    obtain ⟨e, he, hb⟩ := Array.any_eq_true'.1 this
    simp only [Bool.and_eq_true, beq_iff_eq] at hb
    exact ⟨e, he, hb.1, hb.2⟩
theorem tmps_eq (a : Act) (n : Nat) (h : a.tmps.size = n) : a.tmps = ((List.range n).map fun t => a.tmps.getD t undef).toArray := by
  apply Array.ext
  · simp [h]
  · intro i h1 h2
    simp [h1]
end
end Go.Proofs.Ytoogchgoiciggaa.Inv

-- Written by this session's own driver (wip/hybrid.py) of the kit's printer; contracts marked FOREIGN are by hand.
namespace Go.Proofs.Ytoogchgoiciggaa.Q
open Go.RowKit Go.Proofs.YtoogchgoiciggaaW.PrintWords Go.Proofs.YtoogchgoiciggaaW.PrintLast Go.Proofs.YtoogchgoiciggaaW.PrintMore
attribute [local go_sem] max2_int min2_int max_two min_two max_three min_three max_four min_four   -- for this text's walks alone
set_option linter.unusedVariables false
set_option linter.unusedSimpArgs false

/-! ### tenementlaw08_Put_write: function 12 -/
-- FOREIGN: a record is built of texts of bytes; the region that draws is told by an invariant
-- import Derived.Test.YtoogchgoiciggaaInv
def tenementlaw08_Put_write.f (a0 : ByteArray) (a1 : ByteArray) (a2 : ByteArray) (a3 : Bool) (a4 : Bool) (k : Int) : Option (ByteArray × ByteArray × ByteArray × Bool) := if a4 = true then (if a2.size ≤ 9223372036854775807 then (if 224 ≤ k then some ((strOfNums [98, (IntKind.u8.wrap (48 + Int.tmod k 2))]), (strOfNums [(IntKind.u8.wrap (97 + Int.tmod (IntKind.u8.wrap (Int.tdiv k 2)) 4))]), (⟨#[]⟩ : ByteArray), true) else some ((strOfNums [98, (IntKind.u8.wrap (48 + Int.tmod k 2))]), (strOfNums [(IntKind.u8.wrap (97 + Int.tmod (IntKind.u8.wrap (Int.tdiv k 2)) 4))]), (a2.extract 0 (min a2.size 8)), false)) else none) else some (a0, a1, a2, a3)
def tenementlaw08_Put_write.Sp (gb s0 : Nat) (a2 : ByteArray) (k : Int) : Nat → Value → World → Prop
  | 0, v, _ => v = .pointer (some ⟨gb, 5, none⟩)
  | 1, v, _ => v = .int .u8 k
  | 2, v, _ => v = .int .u8 (Int.tmod k 2)
  | 3, v, _ => v = .int .u8 (IntKind.u8.wrap (48 + Int.tmod k 2))
  | 4, v, W => ∃ b, v = .slice (some ⟨b, 0, none⟩) 2 2 ∧ s0 ≤ b ∧ W.heap[b]? = some (.cells #[.int .u8 98, .int .u8 (IntKind.u8.wrap (48 + Int.tmod k 2))] 5 (0, 0))
  | 5, v, _ => v = .string (strOfNums [98, (IntKind.u8.wrap (48 + Int.tmod k 2))])
  | 6, v, _ => v = .pointer (some ⟨gb, 5, none⟩)
  | 7, v, _ => v = .int .u8 k
  | 8, v, _ => v = .int .u8 (IntKind.u8.wrap (Int.tdiv k 2))
  | 9, v, _ => v = .int .u8 (Int.tmod (IntKind.u8.wrap (Int.tdiv k 2)) 4)
  | 10, v, _ => v = .int .u8 (IntKind.u8.wrap (97 + Int.tmod (IntKind.u8.wrap (Int.tdiv k 2)) 4))
  | 11, v, W => ∃ b, v = .slice (some ⟨b, 0, none⟩) 1 1 ∧ s0 ≤ b ∧ W.heap[b]? = some (.cells #[.int .u8 (IntKind.u8.wrap (97 + Int.tmod (IntKind.u8.wrap (Int.tdiv k 2)) 4))] 5 (0, 0))
  | 12, v, _ => v = .string (strOfNums [(IntKind.u8.wrap (97 + Int.tmod (IntKind.u8.wrap (Int.tdiv k 2)) 4))])
  | 13, v, _ => v = .pointer (some ⟨gb, 0, none⟩)
  | 14, v, _ => v = .pointer (some ⟨gb, 2, none⟩)
  | 15, v, _ => v = .string a2
  | 16, v, _ => v = .pointer (some ⟨gb, 0, none⟩)
  | 17, v, _ => v = .pointer (some ⟨gb, 2, none⟩)
  | 18, v, _ => v = .string a2
  | 19, v, _ => v = .int .i64 (a2.size : Int)
  | 20, v, _ => v = .int .i64 ((min a2.size 8 : Nat) : Int)
  | 21, v, _ => v = .string (a2.extract 0 (min a2.size 8))
  | 22, v, _ => v = .pointer (some ⟨gb, 5, none⟩)
  | 23, v, _ => v = .int .u8 k
  | 24, v, _ => v = .bool (decide (224 ≤ k))
  | 25, v, _ => v = .agg #[.string (strOfNums [98, (IntKind.u8.wrap (48 + Int.tmod k 2))]), .string (strOfNums [(IntKind.u8.wrap (97 + Int.tmod (IntKind.u8.wrap (Int.tdiv k 2)) 4))]), .string (a2.extract 0 (min a2.size 8)), .bool (decide (224 ≤ k))]
  | 26, v, W => ∃ b, v = .pointer (some ⟨b, 0, none⟩) ∧ s0 ≤ b ∧ W.heap[b]? = some (.cells #[.string ⟨#[]⟩, .string ⟨#[]⟩, .string ⟨#[]⟩, .bool false] 23 (0, 0))
  | _, _, _ => True
theorem tenementlaw08_Put_write.stay (gb s0 : Nat) (a2 : ByteArray) (k : Int) : ∀ (i : Nat) (v : Value) (W W' : World), Below W.heap.size W W' → tenementlaw08_Put_write.Sp gb s0 a2 k i v W → tenementlaw08_Put_write.Sp gb s0 a2 k i v W'
  | 0, v, W, W', hb, h => h
  | 1, v, W, W', hb, h => h
  | 2, v, W, W', hb, h => h
  | 3, v, W, W', hb, h => h
  | 4, v, W, W', hb, h => by obtain ⟨b, e, hs, h⟩ := h; exact ⟨b, e, hs, blk_below h hb⟩
  | 5, v, W, W', hb, h => h
  | 6, v, W, W', hb, h => h
  | 7, v, W, W', hb, h => h
  | 8, v, W, W', hb, h => h
  | 9, v, W, W', hb, h => h
  | 10, v, W, W', hb, h => h
  | 11, v, W, W', hb, h => by obtain ⟨b, e, hs, h⟩ := h; exact ⟨b, e, hs, blk_below h hb⟩
  | 12, v, W, W', hb, h => h
  | 13, v, W, W', hb, h => h
  | 14, v, W, W', hb, h => h
  | 15, v, W, W', hb, h => h
  | 16, v, W, W', hb, h => h
  | 17, v, W, W', hb, h => h
  | 18, v, W, W', hb, h => h
  | 19, v, W, W', hb, h => h
  | 20, v, W, W', hb, h => h
  | 21, v, W, W', hb, h => h
  | 22, v, W, W', hb, h => h
  | 23, v, W, W', hb, h => h
  | 24, v, W, W', hb, h => h
  | 25, v, W, W', hb, h => h
  | 26, v, W, W', hb, h => by obtain ⟨b, e, hs, h⟩ := h; exact ⟨b, e, hs, blk_below h hb⟩
  | _ + 27, v, W, W', hb, h => trivial
theorem tenementlaw08_Put_write.boxes2 (w : World) (xs ys : Array Value) (t1 t2 : TypeId) (W : World) (h : (w.alloc (.cells xs t1)).alloc (.cells ys t2) = W) :
    W.heap[w.heap.size]? = some (.cells xs t1 (0,0)) ∧ W.heap[w.heap.size+1]? = some (.cells ys t2 (0,0)) ∧ Below w.heap.size w W := by
  subst h
  have s1 : (w.alloc (.cells xs t1)).heap.size = w.heap.size + 1 := by simp [World.alloc, -World.alloc_eq]
  refine ⟨blk_alloc (blk_new _ _) _, ?_, below_alloc (below_alloc (Below.refl _ _) _) _⟩
  rw [← s1]; exact blk_new _ _
def tenementlaw08_Put_write.St (w : World) (gb s0 : Nat) (cs : Array Value) (W : World) : Prop := W.heap[gb]? = some (.cells cs 25 (0, 0)) ∧ W.heap[gb + 1]? = some (.cells #[.string ⟨#[]⟩, .string ⟨#[]⟩, .string ⟨#[]⟩, .bool false] 23 (0, 0)) ∧ Below w.heap.size w W ∧ s0 ≤ W.heap.size
theorem tenementlaw08_Put_write.st_alloc {w : World} {gb s0 : Nat} {cs : Array Value} {W : World} (h : tenementlaw08_Put_write.St w gb s0 cs W) (o : Obj) : tenementlaw08_Put_write.St w gb s0 cs (W.alloc o) :=
  ⟨blk_alloc h.1 o, blk_alloc h.2.1 o, below_alloc h.2.2.1 o, Nat.le_trans h.2.2.2 (by simp [World.alloc, -World.alloc_eq])⟩
theorem tenementlaw08_Put_write.alloc_below (W : World) (o : Obj) : Below W.heap.size W (W.alloc o) := below_alloc (Below.refl _ _) o
theorem tenementlaw08_Put_write.op_some {P : Program} {ops : Array Oper} {Q : Exit → Act → World → Prop} {i : Nat} {o : Oper} {K : Act → World → Prop} {a : Act} {w : World} (hi : ops[i]? = some o) (hg : o.guard.isNone = true) (h : o.wp P a w K Q) : wpOp P ops Q i K a w := by
  unfold wpOp
  rw [hi]
  simp only [Go.Proofs.Ytoogchgoiciggaa.Inv.wanted_none hg, if_true]
  exact .inl h
set_option maxHeartbeats 8000000 in
set_option maxRecDepth 100000 in
theorem tenementlaw08_Put_write.calls (a0 : ByteArray) (a1 : ByteArray) (a2 : ByteArray) (a3 : Bool) (a4 : Bool) (k : Int) (r1 r2 r3 : ByteArray) (r4 : Bool) (w : World) (h : tenementlaw08_Put_write.f a0 a1 a2 a3 a4 k = some (r1, r2, r3, r4)) :
    Calls Try.prog 12 #[.agg #[.string a0, .string a1, .string a2, .bool a3, .bool a4, .int .u8 k]] w fun e w' => e = .returned (.agg #[.string r1, .string r2, .string r3, .bool r4]) ∧ Below w.heap.size w w' := by
  have hu23 := Try.underlying23
  unfold tenementlaw08_Put_write.f at h
  cases a4 with
  | false =>
    rw [if_neg (by simp)] at h
    simp only [Option.some.injEq, Prod.mk.injEq] at h
    obtain ⟨rfl, rfl, rfl, rfl⟩ := h
    go_enter Try.func12, Try.ntmps12
    go_wp2
    obtain ⟨hA, hB, HB1⟩ := tenementlaw08_Put_write.boxes2 w #[.string a0, .string a1, .string a2, .bool a3, .bool false, .int .u8 k] #[.string a0, .string a1, .string a2, .bool a3] 25 23 _ rfl
    generalize ((w.alloc (Obj.cells #[.string a0, .string a1, .string a2, .bool a3, .bool false, .int .u8 k] 25)).alloc (Obj.cells #[.string a0, .string a1, .string a2, .bool a3] 23)) = W0 at *
    obtain ⟨f0, f1, f2, f3⟩ := Kc4_ hB
    exact bodyPost_ret (v := .agg #[.string a0, .string a1, .string a2, .bool a3]) (by simp [results, Try.results12, go_sem, hu23, f0, f1, f2, f3]) rfl ⟨rfl, HB1⟩
  | true =>
    rw [if_pos rfl] at h
    by_cases hz : a2.size ≤ 9223372036854775807
    rotate_left
    · rw [if_neg hz] at h; cases h
    rw [if_pos hz] at h
    have HH := Aside0.mk h
    clear h
    go_enter Try.func12, Try.ntmps12
    go_wp2
    obtain ⟨hA, hB, HB1⟩ := tenementlaw08_Put_write.boxes2 w #[.string a0, .string a1, .string a2, .bool a3, .bool true, .int .u8 k] #[.string ⟨#[]⟩, .string ⟨#[]⟩, .string ⟨#[]⟩, .bool false] 25 23 _ rfl
    generalize ((w.alloc (Obj.cells #[.string a0, .string a1, .string a2, .bool a3, .bool true, .int .u8 k] 25)).alloc (Obj.cells #[.string ⟨#[]⟩, .string ⟨#[]⟩, .string ⟨#[]⟩, .bool false] 23)) = W0 at *
    have HB := Aside0.mk HB1
    have hlt : w.heap.size + 1 < W0.heap.size := blk_lt hB
    have hst : tenementlaw08_Put_write.St w w.heap.size W0.heap.size #[.string a0, .string a1, .string a2, .bool a3, .bool true, .int .u8 k] W0.drew := ⟨hA, hB, below_drew1 HB1, Nat.le_refl _⟩
    clear hA hB HB1
    have hmm : (if 8 < (a2.size : Int) then 8 else (a2.size : Int)) = ((min a2.size 8 : Nat) : Int) := by split <;> omega
    have m0 : (0 : Int) ≤ ((min a2.size 8 : Nat) : Int) := by omega
    have m1 : ((min a2.size 8 : Nat) : Int) ≤ (a2.size : Int) := by omega
    obtain ⟨gb, hgb⟩ : ∃ gb, gb = w.heap.size := ⟨_, rfl⟩
    obtain ⟨s0, hs0⟩ : ∃ s0, s0 = W0.heap.size := ⟨_, rfl⟩
    rw [← hgb, ← hs0] at hst
    rw [← hgb]
    refine Go.Proofs.Ytoogchgoiciggaa.Inv.region_ok (by kernel_rfl) 27 [9, 10, 11, 12, 13, 14, 15, 16, 17, 18, 19, 20, 21, 22, 23, 24, 25, 26, 27, 28, 29, 30, 31, 32, 33, 34, 3] (by kernel_rfl) (fun N hN => (show N < 39 from (by decide : ∀ N ∈ ([9, 10, 11, 12, 13, 14, 15, 16, 17, 18, 19, 20, 21, 22, 23, 24, 25, 26, 27, 28, 29, 30, 31, 32, 33, 34, 3] : List Nat), N < 39) N hN)) (tenementlaw08_Put_write.Sp gb s0 a2 k) (tenementlaw08_Put_write.St w gb s0 #[.string a0, .string a1, .string a2, .bool a3, .bool true, .int .u8 k]) hst (fun i v W W' _ hb h => tenementlaw08_Put_write.stay gb s0 a2 k i v W W' hb h) ?hstep ?hend
    case hstep =>
      clear HH
      intro i o hi ho a W hS hL hd
      have q1 : a.tmps.getD 1 undef = .pointer (some ⟨gb, 0, none⟩) := hL.2.2 1 (by decide)
      obtain ⟨c0, c1, c2, c3, c4, c5, z0, z1, z2, z3, z4, z5⟩ := Ke6_ hS.1
      clear hL hgb hs0 hlt hst
      match i, hi, ho, hd with
      | 0, _, ho, hd =>
        obtain rfl := Option.some.inj ho
        clear hd ho
        refine ⟨.pointer (some ⟨gb, 5, none⟩), W, ?_, hS, Below.refl _ _, rfl⟩
        first | (go_simp; done) | (simp only [execOp, Act.eval, q1]; go_simp; done) | (simp only [execOp, Act.eval, q1]; go_simp; rfl) 
      | 1, _, ho, hd =>
        obtain rfl := Option.some.inj ho
        have d0 : a.tmps.getD 9 undef = .pointer (some ⟨gb, 5, none⟩) := hd ⟨0, .data⟩ (by simp) rfl
        clear hd ho
        refine ⟨.int .u8 k, W, ?_, hS, Below.refl _ _, rfl⟩
        first | (go_simp; done) | (simp only [execOp, Act.eval, q1, d0]; go_simp; done) | (simp only [execOp, Act.eval, q1, d0]; go_simp; rfl) 
      | 2, _, ho, hd =>
        obtain rfl := Option.some.inj ho
        have d1 : a.tmps.getD 10 undef = .int .u8 k := hd ⟨1, .data⟩ (by simp) rfl
        clear hd ho
        refine ⟨.int .u8 (Int.tmod k 2), W, ?_, hS, Below.refl _ _, rfl⟩
        first | (go_simp; done) | (simp only [execOp, Act.eval, q1, d1]; go_simp; done) | (simp only [execOp, Act.eval, q1, d1]; go_simp; rfl) 
      | 3, _, ho, hd =>
        obtain rfl := Option.some.inj ho
        have d2 : a.tmps.getD 11 undef = .int .u8 (Int.tmod k 2) := hd ⟨2, .data⟩ (by simp) rfl
        clear hd ho
        refine ⟨.int .u8 (IntKind.u8.wrap (48 + Int.tmod k 2)), W, ?_, hS, Below.refl _ _, rfl⟩
        first | (go_simp; done) | (simp only [execOp, Act.eval, q1, d2]; go_simp; done) | (simp only [execOp, Act.eval, q1, d2]; go_simp; rfl) 
      | 4, _, ho, hd =>
        obtain rfl := Option.some.inj ho
        have d3 : a.tmps.getD 12 undef = .int .u8 (IntKind.u8.wrap (48 + Int.tmod k 2)) := hd ⟨3, .data⟩ (by simp) rfl
        clear hd ho
        refine ⟨.slice (some ⟨W.heap.size, 0, none⟩) 2 2, W.alloc (.cells #[.int .u8 98, .int .u8 (IntKind.u8.wrap (48 + Int.tmod k 2))] 5), ?_, tenementlaw08_Put_write.st_alloc hS _, tenementlaw08_Put_write.alloc_below W _, ⟨_, rfl, hS.2.2.2, blk_new _ _⟩⟩
        have g3 := (Array.getD_eq_getD_getElem? (xs := a.tmps) (i := 12) (d := undef)).symm.trans d3
        go_simp
      | 5, _, ho, hd =>
        obtain rfl := Option.some.inj ho
        obtain ⟨b, d4, hsb, hbk⟩ : tenementlaw08_Put_write.Sp gb s0 a2 k 4 (a.tmps.getD 13 undef) W := hd ⟨4, .data⟩ (by simp) rfl
        clear hd ho
        refine ⟨.string (strOfNums [98, (IntKind.u8.wrap (48 + Int.tmod k 2))]), W, ?_, hS, Below.refl _ _, rfl⟩
        have hcv := run_convert_bytes_arg (P := Try.prog) W 76 5 Try.underlying76 Try.underlying5 b 0 2 2 [98, (IntKind.u8.wrap (48 + Int.tmod k 2))] rfl (fun j hj => by
          have hj2 : j = 0 ∨ j = 1 := by omega
          rcases hj2 with rfl | rfl
          · exact (blk_cell hbk 0).trans rfl
          · exact (blk_cell hbk 1).trans rfl) 9 Try.underlying9
        first | (go_simp; done) | (simp only [execOp, Act.eval, q1, d4]; go_simp; done) | (simp only [execOp, Act.eval, q1, d4]; go_simp; rfl) 
      | 6, _, ho, hd =>
        obtain rfl := Option.some.inj ho
        clear hd ho
        refine ⟨.pointer (some ⟨gb, 5, none⟩), W, ?_, hS, Below.refl _ _, rfl⟩
        first | (go_simp; done) | (simp only [execOp, Act.eval, q1]; go_simp; done) | (simp only [execOp, Act.eval, q1]; go_simp; rfl) 
      | 7, _, ho, hd =>
        obtain rfl := Option.some.inj ho
        have d6 : a.tmps.getD 15 undef = .pointer (some ⟨gb, 5, none⟩) := hd ⟨6, .data⟩ (by simp) rfl
        clear hd ho
        refine ⟨.int .u8 k, W, ?_, hS, Below.refl _ _, rfl⟩
        first | (go_simp; done) | (simp only [execOp, Act.eval, q1, d6]; go_simp; done) | (simp only [execOp, Act.eval, q1, d6]; go_simp; rfl) 
      | 8, _, ho, hd =>
        obtain rfl := Option.some.inj ho
        have d7 : a.tmps.getD 16 undef = .int .u8 k := hd ⟨7, .data⟩ (by simp) rfl
        clear hd ho
        refine ⟨.int .u8 (IntKind.u8.wrap (Int.tdiv k 2)), W, ?_, hS, Below.refl _ _, rfl⟩
        first | (go_simp; done) | (simp only [execOp, Act.eval, q1, d7]; go_simp; done) | (simp only [execOp, Act.eval, q1, d7]; go_simp; rfl) 
      | 9, _, ho, hd =>
        obtain rfl := Option.some.inj ho
        have d8 : a.tmps.getD 17 undef = .int .u8 (IntKind.u8.wrap (Int.tdiv k 2)) := hd ⟨8, .data⟩ (by simp) rfl
        clear hd ho
        refine ⟨.int .u8 (Int.tmod (IntKind.u8.wrap (Int.tdiv k 2)) 4), W, ?_, hS, Below.refl _ _, rfl⟩
        first | (go_simp; done) | (simp only [execOp, Act.eval, q1, d8]; go_simp; done) | (simp only [execOp, Act.eval, q1, d8]; go_simp; rfl) 
      | 10, _, ho, hd =>
        obtain rfl := Option.some.inj ho
        have d9 : a.tmps.getD 18 undef = .int .u8 (Int.tmod (IntKind.u8.wrap (Int.tdiv k 2)) 4) := hd ⟨9, .data⟩ (by simp) rfl
        clear hd ho
        refine ⟨.int .u8 (IntKind.u8.wrap (97 + Int.tmod (IntKind.u8.wrap (Int.tdiv k 2)) 4)), W, ?_, hS, Below.refl _ _, rfl⟩
        first | (go_simp; done) | (simp only [execOp, Act.eval, q1, d9]; go_simp; done) | (simp only [execOp, Act.eval, q1, d9]; go_simp; rfl) 
      | 11, _, ho, hd =>
        obtain rfl := Option.some.inj ho
        have d10 : a.tmps.getD 19 undef = .int .u8 (IntKind.u8.wrap (97 + Int.tmod (IntKind.u8.wrap (Int.tdiv k 2)) 4)) := hd ⟨10, .data⟩ (by simp) rfl
        clear hd ho
        refine ⟨.slice (some ⟨W.heap.size, 0, none⟩) 1 1, W.alloc (.cells #[.int .u8 (IntKind.u8.wrap (97 + Int.tmod (IntKind.u8.wrap (Int.tdiv k 2)) 4))] 5), ?_, tenementlaw08_Put_write.st_alloc hS _, tenementlaw08_Put_write.alloc_below W _, ⟨_, rfl, hS.2.2.2, blk_new _ _⟩⟩
        have g10 := (Array.getD_eq_getD_getElem? (xs := a.tmps) (i := 19) (d := undef)).symm.trans d10
        go_simp
      | 12, _, ho, hd =>
        obtain rfl := Option.some.inj ho
        obtain ⟨b, d11, hsb, hbk⟩ : tenementlaw08_Put_write.Sp gb s0 a2 k 11 (a.tmps.getD 20 undef) W := hd ⟨11, .data⟩ (by simp) rfl
        clear hd ho
        refine ⟨.string (strOfNums [(IntKind.u8.wrap (97 + Int.tmod (IntKind.u8.wrap (Int.tdiv k 2)) 4))]), W, ?_, hS, Below.refl _ _, rfl⟩
        have hcv := run_convert_bytes_arg (P := Try.prog) W 76 5 Try.underlying76 Try.underlying5 b 0 1 1 [(IntKind.u8.wrap (97 + Int.tmod (IntKind.u8.wrap (Int.tdiv k 2)) 4))] rfl (fun j hj => by
          have hj2 : j = 0 := by omega
          rcases hj2 with rfl
          exact (blk_cell hbk 0).trans rfl) 9 Try.underlying9
        first | (go_simp; done) | (simp only [execOp, Act.eval, q1, d11]; go_simp; done) | (simp only [execOp, Act.eval, q1, d11]; go_simp; rfl) 
      | 13, _, ho, hd =>
        obtain rfl := Option.some.inj ho
        clear hd ho
        refine ⟨.pointer (some ⟨gb, 0, none⟩), W, ?_, hS, Below.refl _ _, rfl⟩
        first | (go_simp; done) | (simp only [execOp, Act.eval, q1]; go_simp; done) | (simp only [execOp, Act.eval, q1]; go_simp; rfl) 
      | 14, _, ho, hd =>
        obtain rfl := Option.some.inj ho
        have d13 : a.tmps.getD 22 undef = .pointer (some ⟨gb, 0, none⟩) := hd ⟨13, .data⟩ (by simp) rfl
        clear hd ho
        refine ⟨.pointer (some ⟨gb, 2, none⟩), W, ?_, hS, Below.refl _ _, rfl⟩
        first | (go_simp; done) | (simp only [execOp, Act.eval, q1, d13]; go_simp; done) | (simp only [execOp, Act.eval, q1, d13]; go_simp; rfl) 
      | 15, _, ho, hd =>
        obtain rfl := Option.some.inj ho
        have d14 : a.tmps.getD 23 undef = .pointer (some ⟨gb, 2, none⟩) := hd ⟨14, .data⟩ (by simp) rfl
        clear hd ho
        refine ⟨.string a2, W, ?_, hS, Below.refl _ _, rfl⟩
        first | (go_simp; done) | (simp only [execOp, Act.eval, q1, d14]; go_simp; done) | (simp only [execOp, Act.eval, q1, d14]; go_simp; rfl) 
      | 16, _, ho, hd =>
        obtain rfl := Option.some.inj ho
        clear hd ho
        refine ⟨.pointer (some ⟨gb, 0, none⟩), W, ?_, hS, Below.refl _ _, rfl⟩
        first | (go_simp; done) | (simp only [execOp, Act.eval, q1]; go_simp; done) | (simp only [execOp, Act.eval, q1]; go_simp; rfl) 
      | 17, _, ho, hd =>
        obtain rfl := Option.some.inj ho
        have d16 : a.tmps.getD 25 undef = .pointer (some ⟨gb, 0, none⟩) := hd ⟨16, .data⟩ (by simp) rfl
        clear hd ho
        refine ⟨.pointer (some ⟨gb, 2, none⟩), W, ?_, hS, Below.refl _ _, rfl⟩
        first | (go_simp; done) | (simp only [execOp, Act.eval, q1, d16]; go_simp; done) | (simp only [execOp, Act.eval, q1, d16]; go_simp; rfl) 
      | 18, _, ho, hd =>
        obtain rfl := Option.some.inj ho
        have d17 : a.tmps.getD 26 undef = .pointer (some ⟨gb, 2, none⟩) := hd ⟨17, .data⟩ (by simp) rfl
        clear hd ho
        refine ⟨.string a2, W, ?_, hS, Below.refl _ _, rfl⟩
        first | (go_simp; done) | (simp only [execOp, Act.eval, q1, d17]; go_simp; done) | (simp only [execOp, Act.eval, q1, d17]; go_simp; rfl) 
      | 19, _, ho, hd =>
        obtain rfl := Option.some.inj ho
        have d18 : a.tmps.getD 27 undef = .string a2 := hd ⟨18, .data⟩ (by simp) rfl
        clear hd ho
        refine ⟨.int .i64 (a2.size : Int), W, ?_, hS, Below.refl _ _, rfl⟩
        first | (go_simp; done) | (simp only [execOp, Act.eval, q1, d18]; go_simp; done) | (simp only [execOp, Act.eval, q1, d18]; go_simp; rfl) 
      | 20, _, ho, hd =>
        obtain rfl := Option.some.inj ho
        have d19 : a.tmps.getD 28 undef = .int .i64 (a2.size : Int) := hd ⟨19, .data⟩ (by simp) rfl
        clear hd ho
        refine ⟨.int .i64 ((min a2.size 8 : Nat) : Int), W, ?_, hS, Below.refl _ _, rfl⟩
        first | (go_simp; done) | (simp only [execOp, Act.eval, q1, d19]; go_simp; done) | (simp only [execOp, Act.eval, q1, d19]; go_simp; rfl) 
      | 21, _, ho, hd =>
        obtain rfl := Option.some.inj ho
        have d15 : a.tmps.getD 24 undef = .string a2 := hd ⟨15, .data⟩ (by simp) rfl
        have d20 : a.tmps.getD 29 undef = .int .i64 ((min a2.size 8 : Nat) : Int) := hd ⟨20, .data⟩ (by simp) rfl
        clear hd ho
        refine ⟨.string (a2.extract 0 (min a2.size 8)), W, ?_, hS, Below.refl _ _, rfl⟩
        first | (go_simp; done) | (simp only [execOp, Act.eval, q1, d15, d20]; go_simp; done) | (simp only [execOp, Act.eval, q1, d15, d20]; go_simp; rfl) 
      | 22, _, ho, hd =>
        obtain rfl := Option.some.inj ho
        clear hd ho
        refine ⟨.pointer (some ⟨gb, 5, none⟩), W, ?_, hS, Below.refl _ _, rfl⟩
        first | (go_simp; done) | (simp only [execOp, Act.eval, q1]; go_simp; done) | (simp only [execOp, Act.eval, q1]; go_simp; rfl) 
      | 23, _, ho, hd =>
        obtain rfl := Option.some.inj ho
        have d22 : a.tmps.getD 31 undef = .pointer (some ⟨gb, 5, none⟩) := hd ⟨22, .data⟩ (by simp) rfl
        clear hd ho
        refine ⟨.int .u8 k, W, ?_, hS, Below.refl _ _, rfl⟩
        first | (go_simp; done) | (simp only [execOp, Act.eval, q1, d22]; go_simp; done) | (simp only [execOp, Act.eval, q1, d22]; go_simp; rfl) 
      | 24, _, ho, hd =>
        obtain rfl := Option.some.inj ho
        have d23 : a.tmps.getD 32 undef = .int .u8 k := hd ⟨23, .data⟩ (by simp) rfl
        clear hd ho
        refine ⟨.bool (decide (224 ≤ k)), W, ?_, hS, Below.refl _ _, rfl⟩
        first | (go_simp; done) | (simp only [execOp, Act.eval, q1, d23]; go_simp; done) | (simp only [execOp, Act.eval, q1, d23]; go_simp; rfl) 
      | 25, _, ho, hd =>
        obtain rfl := Option.some.inj ho
        have d5 : a.tmps.getD 14 undef = .string (strOfNums [98, (IntKind.u8.wrap (48 + Int.tmod k 2))]) := hd ⟨5, .data⟩ (by simp) rfl
        have d12 : a.tmps.getD 21 undef = .string (strOfNums [(IntKind.u8.wrap (97 + Int.tmod (IntKind.u8.wrap (Int.tdiv k 2)) 4))]) := hd ⟨12, .data⟩ (by simp) rfl
        have d21 : a.tmps.getD 30 undef = .string (a2.extract 0 (min a2.size 8)) := hd ⟨21, .data⟩ (by simp) rfl
        have d24 : a.tmps.getD 33 undef = .bool (decide (224 ≤ k)) := hd ⟨24, .data⟩ (by simp) rfl
        clear hd ho
        refine ⟨.agg #[.string (strOfNums [98, (IntKind.u8.wrap (48 + Int.tmod k 2))]), .string (strOfNums [(IntKind.u8.wrap (97 + Int.tmod (IntKind.u8.wrap (Int.tdiv k 2)) 4))]), .string (a2.extract 0 (min a2.size 8)), .bool (decide (224 ≤ k))], W, ?_, hS, Below.refl _ _, rfl⟩
        have g5 := (Array.getD_eq_getD_getElem? (xs := a.tmps) (i := 14) (d := undef)).symm.trans d5
        have g12 := (Array.getD_eq_getD_getElem? (xs := a.tmps) (i := 21) (d := undef)).symm.trans d12
        have g21 := (Array.getD_eq_getD_getElem? (xs := a.tmps) (i := 30) (d := undef)).symm.trans d21
        have g24 := (Array.getD_eq_getD_getElem? (xs := a.tmps) (i := 33) (d := undef)).symm.trans d24
        go_simp
      | 26, _, ho, hd =>
        obtain rfl := Option.some.inj ho
        clear hd ho
        refine ⟨.pointer (some ⟨W.heap.size, 0, none⟩), W.alloc (.cells #[.string ⟨#[]⟩, .string ⟨#[]⟩, .string ⟨#[]⟩, .bool false] 23), ?_, tenementlaw08_Put_write.st_alloc hS _, tenementlaw08_Put_write.alloc_below W _, ⟨_, rfl, hS.2.2.2, blk_new _ _⟩⟩
        first | (go_simp; done) | (simp only [execOp, Act.eval, q1]; go_simp; done) | (simp only [execOp, Act.eval, q1]; go_simp; rfl) 
      | _ + 27, hi, _, _ => omega
    case hend =>
      intro a W hS hL hA
      have q0 : a.tmps.getD 0 undef = .agg #[.string a0, .string a1, .string a2, .bool a3, .bool true, .int .u8 k] := hL.2.2 0 (by decide)
      have q1 : a.tmps.getD 1 undef = .pointer (some ⟨gb, 0, none⟩) := hL.2.2 1 (by decide)
      have q2 : a.tmps.getD 2 undef = .pointer (some ⟨gb + 1, 0, none⟩) := hL.2.2 2 (by decide)
      have q4 : a.tmps.getD 4 undef = .pointer (some ⟨gb, 4, none⟩) := hL.2.2 4 (by decide)
      have q5 : a.tmps.getD 5 undef = .bool true := hL.2.2 5 (by decide)
      have q6 : a.tmps.getD 6 undef = .bool false := hL.2.2 6 (by decide)
      have q7 : a.tmps.getD 7 undef = undef := hL.2.2 7 (by decide)
      have q8 : a.tmps.getD 8 undef = undef := hL.2.2 8 (by decide)
      have q35 : a.tmps.getD 35 undef = undef := hL.2.2 35 (by decide)
      have q36 : a.tmps.getD 36 undef = undef := hL.2.2 36 (by decide)
      have q37 : a.tmps.getD 37 undef = undef := hL.2.2 37 (by decide)
      have q38 : a.tmps.getD 38 undef = undef := hL.2.2 38 (by decide)
      have q9 : a.tmps.getD 9 undef = .pointer (some ⟨gb, 5, none⟩) := hA 0 (by decide)
      have q10 : a.tmps.getD 10 undef = .int .u8 k := hA 1 (by decide)
      have q11 : a.tmps.getD 11 undef = .int .u8 (Int.tmod k 2) := hA 2 (by decide)
      have q12 : a.tmps.getD 12 undef = .int .u8 (IntKind.u8.wrap (48 + Int.tmod k 2)) := hA 3 (by decide)
      obtain ⟨b13, q13, s13, k13⟩ : tenementlaw08_Put_write.Sp gb s0 a2 k 4 (a.tmps.getD 13 undef) W := hA 4 (by decide)
      have q14 : a.tmps.getD 14 undef = .string (strOfNums [98, (IntKind.u8.wrap (48 + Int.tmod k 2))]) := hA 5 (by decide)
      have q15 : a.tmps.getD 15 undef = .pointer (some ⟨gb, 5, none⟩) := hA 6 (by decide)
      have q16 : a.tmps.getD 16 undef = .int .u8 k := hA 7 (by decide)
      have q17 : a.tmps.getD 17 undef = .int .u8 (IntKind.u8.wrap (Int.tdiv k 2)) := hA 8 (by decide)
      have q18 : a.tmps.getD 18 undef = .int .u8 (Int.tmod (IntKind.u8.wrap (Int.tdiv k 2)) 4) := hA 9 (by decide)
      have q19 : a.tmps.getD 19 undef = .int .u8 (IntKind.u8.wrap (97 + Int.tmod (IntKind.u8.wrap (Int.tdiv k 2)) 4)) := hA 10 (by decide)
      obtain ⟨b20, q20, s20, k20⟩ : tenementlaw08_Put_write.Sp gb s0 a2 k 11 (a.tmps.getD 20 undef) W := hA 11 (by decide)
      have q21 : a.tmps.getD 21 undef = .string (strOfNums [(IntKind.u8.wrap (97 + Int.tmod (IntKind.u8.wrap (Int.tdiv k 2)) 4))]) := hA 12 (by decide)
      have q22 : a.tmps.getD 22 undef = .pointer (some ⟨gb, 0, none⟩) := hA 13 (by decide)
      have q23 : a.tmps.getD 23 undef = .pointer (some ⟨gb, 2, none⟩) := hA 14 (by decide)
      have q24 : a.tmps.getD 24 undef = .string a2 := hA 15 (by decide)
      have q25 : a.tmps.getD 25 undef = .pointer (some ⟨gb, 0, none⟩) := hA 16 (by decide)
      have q26 : a.tmps.getD 26 undef = .pointer (some ⟨gb, 2, none⟩) := hA 17 (by decide)
      have q27 : a.tmps.getD 27 undef = .string a2 := hA 18 (by decide)
      have q28 : a.tmps.getD 28 undef = .int .i64 (a2.size : Int) := hA 19 (by decide)
      have q29 : a.tmps.getD 29 undef = .int .i64 ((min a2.size 8 : Nat) : Int) := hA 20 (by decide)
      have q30 : a.tmps.getD 30 undef = .string (a2.extract 0 (min a2.size 8)) := hA 21 (by decide)
      have q31 : a.tmps.getD 31 undef = .pointer (some ⟨gb, 5, none⟩) := hA 22 (by decide)
      have q32 : a.tmps.getD 32 undef = .int .u8 k := hA 23 (by decide)
      have q33 : a.tmps.getD 33 undef = .bool (decide (224 ≤ k)) := hA 24 (by decide)
      have q34 : a.tmps.getD 34 undef = .agg #[.string (strOfNums [98, (IntKind.u8.wrap (48 + Int.tmod k 2))]), .string (strOfNums [(IntKind.u8.wrap (97 + Int.tmod (IntKind.u8.wrap (Int.tdiv k 2)) 4))]), .string (a2.extract 0 (min a2.size 8)), .bool (decide (224 ≤ k))] := hA 25 (by decide)
      obtain ⟨b3, q3, s3, k3⟩ : tenementlaw08_Put_write.Sp gb s0 a2 k 26 (a.tmps.getD 3 undef) W := hA 26 (by decide)
      have ht : a.tmps = #[.agg #[.string a0, .string a1, .string a2, .bool a3, .bool true, .int .u8 k], .pointer (some ⟨gb, 0, none⟩), .pointer (some ⟨gb + 1, 0, none⟩), .pointer (some ⟨b3, 0, none⟩), .pointer (some ⟨gb, 4, none⟩), .bool true, .bool false, undef, undef, .pointer (some ⟨gb, 5, none⟩), .int .u8 k, .int .u8 (Int.tmod k 2), .int .u8 (IntKind.u8.wrap (48 + Int.tmod k 2)), .slice (some ⟨b13, 0, none⟩) 2 2, .string (strOfNums [98, (IntKind.u8.wrap (48 + Int.tmod k 2))]), .pointer (some ⟨gb, 5, none⟩), .int .u8 k, .int .u8 (IntKind.u8.wrap (Int.tdiv k 2)), .int .u8 (Int.tmod (IntKind.u8.wrap (Int.tdiv k 2)) 4), .int .u8 (IntKind.u8.wrap (97 + Int.tmod (IntKind.u8.wrap (Int.tdiv k 2)) 4)), .slice (some ⟨b20, 0, none⟩) 1 1, .string (strOfNums [(IntKind.u8.wrap (97 + Int.tmod (IntKind.u8.wrap (Int.tdiv k 2)) 4))]), .pointer (some ⟨gb, 0, none⟩), .pointer (some ⟨gb, 2, none⟩), .string a2, .pointer (some ⟨gb, 0, none⟩), .pointer (some ⟨gb, 2, none⟩), .string a2, .int .i64 (a2.size : Int), .int .i64 ((min a2.size 8 : Nat) : Int), .string (a2.extract 0 (min a2.size 8)), .pointer (some ⟨gb, 5, none⟩), .int .u8 k, .bool (decide (224 ≤ k)), .agg #[.string (strOfNums [98, (IntKind.u8.wrap (48 + Int.tmod k 2))]), .string (strOfNums [(IntKind.u8.wrap (97 + Int.tmod (IntKind.u8.wrap (Int.tdiv k 2)) 4))]), .string (a2.extract 0 (min a2.size 8)), .bool (decide (224 ≤ k))], undef, undef, undef, undef] := by
        rw [Go.Proofs.Ytoogchgoiciggaa.Inv.tmps_eq a 39 hL.2.1, show List.range 39 = [0, 1, 2, 3, 4, 5, 6, 7, 8, 9, 10, 11, 12, 13, 14, 15, 16, 17, 18, 19, 20, 21, 22, 23, 24, 25, 26, 27, 28, 29, 30, 31, 32, 33, 34, 35, 36, 37, 38] from rfl]
        simp only [List.map_cons, List.map_nil, q0, q1, q2, q3, q4, q5, q6, q7, q8, q9, q10, q11, q12, q13, q14, q15, q16, q17, q18, q19, q20, q21, q22, q23, q24, q25, q26, q27, q28, q29, q30, q31, q32, q33, q34, q35, q36, q37, q38]
      clear q0 q1 q2 q3 q4 q5 q6 q7 q8 q9 q10 q11 q12 q13 q14 q15 q16 q17 q18 q19 q20 q21 q22 q23 q24 q25 q26 q27 q28 q29 q30 q31 q32 q33 q34 q35 q36 q37 q38 k13 k20 s13 s20
      obtain ⟨tm, df⟩ := a
      obtain rfl : df = [] := hL.1
      obtain rfl : tm = _ := ht
      have nb : gb + 1 ≠ b3 := by omega
      have gb3 : w.heap.size ≤ b3 := by omega
      have BK := blk_put (blk_put (blk_put (blk_put k3 0 (.string (strOfNums [98, (IntKind.u8.wrap (48 + Int.tmod k 2))])) (cs' := #[.string (strOfNums [98, (IntKind.u8.wrap (48 + Int.tmod k 2))]), .string ⟨#[]⟩, .string ⟨#[]⟩, .bool false]) rfl) 1 (.string (strOfNums [(IntKind.u8.wrap (97 + Int.tmod (IntKind.u8.wrap (Int.tdiv k 2)) 4))])) (cs' := #[.string (strOfNums [98, (IntKind.u8.wrap (48 + Int.tmod k 2))]), .string (strOfNums [(IntKind.u8.wrap (97 + Int.tmod (IntKind.u8.wrap (Int.tdiv k 2)) 4))]), .string ⟨#[]⟩, .bool false]) rfl) 2 (.string (a2.extract 0 (min a2.size 8))) (cs' := #[.string (strOfNums [98, (IntKind.u8.wrap (48 + Int.tmod k 2))]), .string (strOfNums [(IntKind.u8.wrap (97 + Int.tmod (IntKind.u8.wrap (Int.tdiv k 2)) 4))]), .string (a2.extract 0 (min a2.size 8)), .bool false]) rfl) 3 (.bool (decide (224 ≤ k))) (cs' := #[.string (strOfNums [98, (IntKind.u8.wrap (48 + Int.tmod k 2))]), .string (strOfNums [(IntKind.u8.wrap (97 + Int.tmod (IntKind.u8.wrap (Int.tdiv k 2)) 4))]), .string (a2.extract 0 (min a2.size 8)), .bool (decide (224 ≤ k))]) rfl
      have BR := blk_far (blk_far (blk_far (blk_far (hS.2.1) (p := ⟨b3, 0, none⟩) nb (.string (strOfNums [98, (IntKind.u8.wrap (48 + Int.tmod k 2))]))) (p := ⟨b3, 1, none⟩) nb (.string (strOfNums [(IntKind.u8.wrap (97 + Int.tmod (IntKind.u8.wrap (Int.tdiv k 2)) 4))]))) (p := ⟨b3, 2, none⟩) nb (.string (a2.extract 0 (min a2.size 8)))) (p := ⟨b3, 3, none⟩) nb (.bool (decide (224 ≤ k)))
      have HB1 := Aside0.mk (below_set (j := 3) (v := .bool (decide (224 ≤ k))) (below_set (j := 2) (v := .string (a2.extract 0 (min a2.size 8))) (below_set (j := 1) (v := .string (strOfNums [(IntKind.u8.wrap (97 + Int.tmod (IntKind.u8.wrap (Int.tdiv k 2)) 4))])) (below_set (j := 0) (v := .string (strOfNums [98, (IntKind.u8.wrap (48 + Int.tmod k 2))])) (hS.2.2.1) gb3) gb3) gb3) gb3)
      obtain ⟨x0, x1, x2, x3, z0, z1, z2, z3⟩ := Ke4_ k3
      clear hL hA hst HB
      refine tenementlaw08_Put_write.op_some (i := 27) rfl rfl ?_
      unfold Oper.wp
      go_simp
      clear x0 x1 x2 x3 z0 z1 z2 z3 k3 hS
      subst hgb
      generalize ((((W.setCell ⟨b3, 0, none⟩ (.string (strOfNums [98, (IntKind.u8.wrap (48 + Int.tmod k 2))]))).setCell ⟨b3, 1, none⟩ (.string (strOfNums [(IntKind.u8.wrap (97 + Int.tmod (IntKind.u8.wrap (Int.tdiv k 2)) 4))]))).setCell ⟨b3, 2, none⟩ (.string (a2.extract 0 (min a2.size 8)))).setCell ⟨b3, 3, none⟩ (.bool (decide (224 ≤ k)))) = W2 at *
      clear W hs0 s3 hmm m0 m1
      obtain ⟨x0, x1, x2, x3, z0, z1, z2, z3⟩ := Ke4_ BK
      obtain ⟨y0, y1, y2, y3, t0, t1, t2, t3⟩ := Ke4_ BR
      have HH' := HH.out
      clear HH
      generalize (strOfNums [98, (IntKind.u8.wrap (48 + Int.tmod k 2))]) = T1 at *
      generalize (strOfNums [(IntKind.u8.wrap (97 + Int.tmod (IntKind.u8.wrap (Int.tdiv k 2)) 4))]) = T2 at *
      generalize (a2.extract 0 (min a2.size 8)) = T3 at *
      by_cases c6 : 224 ≤ k
      · have c6b : decide (224 ≤ k) = true := decide_eq_true c6
        rw [if_pos c6] at HH'
        simp only [Option.some.injEq, Prod.mk.injEq] at HH'
        obtain ⟨rfl, rfl, rfl, rfl⟩ := HH'
        go_wp2
        have BF := blk_put (blk_put (blk_put (blk_put (blk_far BR (p := ⟨b3, 2, none⟩) nb (.string ⟨#[]⟩)) 0 (.string T1) (cs' := #[.string T1, .string ⟨#[]⟩, .string ⟨#[]⟩, .bool false]) rfl) 1 (.string T2) (cs' := #[.string T1, .string T2, .string ⟨#[]⟩, .bool false]) rfl) 2 (.string ⟨#[]⟩) (cs' := #[.string T1, .string T2, .string ⟨#[]⟩, .bool false]) rfl) 3 (.bool true) (cs' := #[.string T1, .string T2, .string ⟨#[]⟩, .bool true]) rfl
        have HF := below_set (j := 3) (v := .bool true) (below_set (j := 2) (v := .string ⟨#[]⟩) (below_set (j := 1) (v := .string T2) (below_set (j := 0) (v := .string T1) (below_set (j := 2) (v := .string ⟨#[]⟩) HB1.out gb3) (show w.heap.size ≤ w.heap.size + 1 by omega)) (show w.heap.size ≤ w.heap.size + 1 by omega)) (show w.heap.size ≤ w.heap.size + 1 by omega)) (show w.heap.size ≤ w.heap.size + 1 by omega)
        obtain ⟨f0, f1, f2, f3⟩ := Kc4_ BF
        clear x0 x1 x2 x3 y0 y1 y2 y3 z0 z1 z2 z3 t0 t1 t2 t3 BR BK BF
        refine bodyPost_ret (v := .agg #[.string T1, .string T2, .string ⟨#[]⟩, .bool true]) (by simp [results, Try.results12, go_sem, hu23, f0, f1, f2, f3]) rfl ⟨rfl, HF⟩
      · have c6b : decide (224 ≤ k) = false := decide_eq_false c6
        rw [if_neg c6] at HH'
        simp only [Option.some.injEq, Prod.mk.injEq] at HH'
        obtain ⟨rfl, rfl, rfl, rfl⟩ := HH'
        go_wp2
        have BF := blk_put (blk_put (blk_put (blk_put (BR) 0 (.string T1) (cs' := #[.string T1, .string ⟨#[]⟩, .string ⟨#[]⟩, .bool false]) rfl) 1 (.string T2) (cs' := #[.string T1, .string T2, .string ⟨#[]⟩, .bool false]) rfl) 2 (.string T3) (cs' := #[.string T1, .string T2, .string T3, .bool false]) rfl) 3 (.bool false) (cs' := #[.string T1, .string T2, .string T3, .bool false]) rfl
        have HF := below_set (j := 3) (v := .bool false) (below_set (j := 2) (v := .string T3) (below_set (j := 1) (v := .string T2) (below_set (j := 0) (v := .string T1) (HB1.out) (show w.heap.size ≤ w.heap.size + 1 by omega)) (show w.heap.size ≤ w.heap.size + 1 by omega)) (show w.heap.size ≤ w.heap.size + 1 by omega)) (show w.heap.size ≤ w.heap.size + 1 by omega)
        obtain ⟨f0, f1, f2, f3⟩ := Kc4_ BF
        clear x0 x1 x2 x3 y0 y1 y2 y3 z0 z1 z2 z3 t0 t1 t2 t3 BR BK BF
        refine bodyPost_ret (v := .agg #[.string T1, .string T2, .string T3, .bool false]) (by simp [results, Try.results12, go_sem, hu23, f0, f1, f2, f3]) rfl ⟨rfl, HF⟩


end Go.Proofs.Ytoogchgoiciggaa.Q

-- Written by this session's own driver (wip/hybrid.py) of the kit's printer; contracts marked FOREIGN are by hand.
namespace Go.Proofs.Ytoogchgoiciggaa.Q
open Go.RowKit Go.Proofs.YtoogchgoiciggaaW.PrintWords Go.Proofs.YtoogchgoiciggaaW.PrintLast Go.Proofs.YtoogchgoiciggaaW.PrintMore
attribute [local go_sem] max2_int min2_int max_two min_two max_three min_three max_four min_four   -- for this text's walks alone
set_option linter.unusedVariables false
set_option linter.unusedSimpArgs false

/-! ### tenementlaw08_refStamp: function 41 -/
def tenementlaw08_refStamp.f (a0_0 : Int) (a0_1 : Int) (a0_2 : Int) (a0_3 : Int) (a0_4 : Int) : Option (Int × Int × Int × Int × Int) := some (a0_0, a0_1, a0_2, a0_3, a0_4)
set_option maxHeartbeats 8000000 in
set_option maxRecDepth 100000 in
theorem tenementlaw08_refStamp.calls (a0_0 : Int) (a0_1 : Int) (a0_2 : Int) (a0_3 : Int) (a0_4 : Int) (r1 : Int) (r2 : Int) (r3 : Int) (r4 : Int) (r5 : Int) (w : World) (h : tenementlaw08_refStamp.f a0_0 a0_1 a0_2 a0_3 a0_4 = some (r1, r2, r3, r4, r5)) :
    Calls Try.prog 41 #[.agg #[.int .u64 a0_0, .int .u64 a0_1, .int .u64 a0_2, .int .u64 a0_3, .int .i64 a0_4]] w fun e w' => e = .returned (.agg #[.int .u64 r1, .int .u64 r2, .int .u64 r3, .int .u64 r4, .int .i64 r5]) ∧ Below w.heap.size w w' := by
  have hu30 := Try.underlying30
  have hu50 := Try.underlying50
  have hu28 := Try.underlying28
  have HB := Aside0.mk (Below.refl w.heap.size w)
  have H : (some (a0_0, a0_1, a0_2, a0_3, a0_4)) = some (r1, r2, r3, r4, r5) := h
  clear h
  simp only [Option.some.injEq, Prod.mk.injEq] at H
  obtain ⟨rfl, rfl, rfl, rfl, rfl⟩ := H
  go_enter Try.func41, Try.ntmps41
  go_wp2_with (first | ((with_reducible refine gate_dst (N := 1) rfl ?_); refine box_event ?hg (N := 1) ?hd (cs := #[.int .u64 a0_0, .int .u64 a0_1, .int .u64 a0_2, .int .u64 a0_3, .int .i64 a0_4]) (t := 30) ?hr ?_; (case hd => rfl); (case hg => rfl); (case hr => first | (go_simp; done) | (go_simp; rfl)); intro gb341 hg w2 hbox hb; have BK341 := Aside0.mk (hbox); have GW341 := Kw_ HB hg; have GE341 := GW341; replace HB := Ks_ HB hb; clear hb hbox hg) | ((with_reducible refine gate_dst (N := 2) rfl ?_); refine box_event ?hg (N := 2) ?hd (cs := #[.int .u64 0, .int .u64 0, .int .u64 0, .int .u64 0, .int .i64 0]) (t := 50) ?hr ?_; (case hd => rfl); (case hg => rfl); (case hr => first | (go_simp; done) | (go_simp; rfl)); intro gb342 hg w3 hbox hb; have BK342 := Aside0.mk (hbox); have GW342 := Kw_ HB hg; have GE342 := GW342; have NB341_342 := Kl_ BK341 hg; have NB342_341 := Kr_ BK341 hg; replace BK341 := Kb_ BK341 hb; replace HB := Ks_ HB hb; clear hb hbox hg; have hnb4 := NB341_342.out; have hnc4 := NB342_341.out; obtain ⟨hcz5_0, hcz5_1, hcz5_2, hcz5_3, hcz5_4, hfz5_0, hfz5_1, hfz5_2, hfz5_3, hfz5_4⟩ := Ke5_ BK341.out; obtain ⟨hcz6_0, hcz6_1, hcz6_2, hcz6_3, hcz6_4, hfz6_0, hfz6_1, hfz6_2, hfz6_3, hfz6_4⟩ := Ke5_ BK342.out))
  refine bodyPost_ret (results_cell_row rfl _ _ gb342 50 #[.int .u64 a0_0, .int .u64 a0_1, .int .u64 a0_2, .int .u64 a0_3, .int .i64 a0_4] (0, 0) _ rfl (by (with_reducible repeat (first | refine blk_drewN ?_ _ | refine blk_drew ?_ | refine blk_alloc ?_ _)); refine blk_put (cs := #[.int .u64 a0_0, .int .u64 a0_1, .int .u64 a0_2, .int .u64 a0_3, .int .i64 0]) ?_ 4 _ rfl; (with_reducible repeat (first | refine blk_drewN ?_ _ | refine blk_drew ?_ | refine blk_alloc ?_ _)); refine blk_put (cs := #[.int .u64 a0_0, .int .u64 a0_1, .int .u64 a0_2, .int .u64 0, .int .i64 0]) ?_ 3 _ rfl; (with_reducible repeat (first | refine blk_drewN ?_ _ | refine blk_drew ?_ | refine blk_alloc ?_ _)); refine blk_put (cs := #[.int .u64 a0_0, .int .u64 a0_1, .int .u64 0, .int .u64 0, .int .i64 0]) ?_ 2 _ rfl; (with_reducible repeat (first | refine blk_drewN ?_ _ | refine blk_drew ?_ | refine blk_alloc ?_ _)); refine blk_put (cs := #[.int .u64 a0_0, .int .u64 0, .int .u64 0, .int .u64 0, .int .i64 0]) ?_ 1 _ rfl; (with_reducible repeat (first | refine blk_drewN ?_ _ | refine blk_drew ?_ | refine blk_alloc ?_ _)); refine blk_put (cs := #[.int .u64 0, .int .u64 0, .int .u64 0, .int .u64 0, .int .i64 0]) ?_ 0 _ rfl; (with_reducible repeat (first | refine blk_drewN ?_ _ | refine blk_drew ?_ | refine blk_alloc ?_ _)); exact BK342.out) Try.underlying50 rfl (by kernel_rfl)) rfl ?_
  exact ⟨by first | rfl | (simp [errW_none, errW_some] <;> rfl) | (simp [*, errW_none, errW_some] <;> rfl), by repeat (first | (with_reducible first | exact HB.out | apply below_alloc | apply pw_below_drewN | apply below_drew1 | refine below_set ?_ GE341.out | refine below_set ?_ GE342.out) | exact HB.out)⟩

end Go.Proofs.Ytoogchgoiciggaa.Q

-- Written by this session's own driver (wip/hybrid.py) of the kit's printer; contracts marked FOREIGN are by hand.
namespace Go.Proofs.Ytoogchgoiciggaa.Q
open Go.RowKit Go.Proofs.YtoogchgoiciggaaW.PrintWords Go.Proofs.YtoogchgoiciggaaW.PrintLast Go.Proofs.YtoogchgoiciggaaW.PrintMore
attribute [local go_sem] max2_int min2_int max_two min_two max_three min_three max_four min_four   -- for this text's walks alone
set_option linter.unusedVariables false
set_option linter.unusedSimpArgs false

/-! ### tenementlaw08_refTxn: function 17 -/
def tenementlaw08_refTxn.f (k : Nat) (a0_0 : Int) (a0_1 : Int) (a0_2 : Int) (a0_3 : Int) (a0_4 : Int) (l0_5 : List (S23)) : Option (Int × Int × Int × Int × Int × (List (S38))) := (tenementlaw08_refStamp.f a0_0 a0_1 a0_2 a0_3 a0_4).bind fun bt345 => ((tenementlaw08_refWrites.f k l0_5).bind fun t350 => (some (bt345.1, bt345.2.1, bt345.2.2.1, bt345.2.2.2.1, bt345.2.2.2.2, t350)))
theorem tenementlaw08_refTxn.mono : ∀ a0 a1 a2 a3 a4 a5 k, LeO (tenementlaw08_refTxn.f k a0 a1 a2 a3 a4 a5) (tenementlaw08_refTxn.f (k + 1) a0 a1 a2 a3 a4 a5) := by
  intro a0 a1 a2 a3 a4 a5 k
  unfold tenementlaw08_refTxn.f
  repeat' first
      | (with_reducible exact tenementlaw08_refWrites.mono _ _)
      | (with_reducible exact LeO.refl _)
      | (with_reducible exact LeO.none _)
      | (with_reducible refine LeO.ite ?_ ?_)
      | (with_reducible refine LeO.bind ?_ (fun _ => ?_))
      | exact tenementlaw08_refWrites.mono _ _
      | exact LeO.none _
      | refine LeO.ite ?_ ?_
      | refine LeO.bind ?_ (fun _ => ?_)
def tenementlaw08_refTxn.T1 : Bool × List (List Nat × List Nat) := (true, [([], []), ([0], [0]), ([1], [1]), ([], []), ([3], [3]), ([4, 2], [4]), ([2, 5], [2, 5]), ([6, 5, 0, 1, 2, 3, 4, 5, 6], [6])])
def tenementlaw08_refTxn.B1 : List Nat := [0, 1, 3, 0, 8, 31, 63, 127]
theorem tenementlaw08_refTxn.tab1 : rtab .any (opsOf Try.f17 1) = tenementlaw08_refTxn.T1 := by kernel_rfl
theorem tenementlaw08_refTxn.bits1 : waitsOk tenementlaw08_refTxn.T1.2 tenementlaw08_refTxn.B1 = true := by kernel_rfl
set_option maxHeartbeats 8000000 in
set_option maxRecDepth 100000 in
theorem tenementlaw08_refTxn.calls (k : Nat) (a0_0 : Int) (a0_1 : Int) (a0_2 : Int) (a0_3 : Int) (a0_4 : Int) (A0_5 : Option Addr) (c0_5 : Nat) (l0_5 : List (S23)) (r1 : Int) (r2 : Int) (r3 : Int) (r4 : Int) (r5 : Int) (r6 : List (S38)) (w : World) (hr0_5 : Kd.C k23 w A0_5 l0_5.length l0_5) (hc0_5 : l0_5.length ≤ c0_5) (h : tenementlaw08_refTxn.f k a0_0 a0_1 a0_2 a0_3 a0_4 l0_5 = some (r1, r2, r3, r4, r5, r6)) :
    Calls Try.prog 17 #[.agg #[.int .u64 a0_0, .int .u64 a0_1, .int .u64 a0_2, .int .u64 a0_3, .int .i64 a0_4, .slice A0_5 l0_5.length c0_5]] w fun e w' => ∃ v5_ : Value, e = .returned (.agg #[.int .u64 r1, .int .u64 r2, .int .u64 r3, .int .u64 r4, .int .i64 r5, v5_]) ∧ Kd.R k38 38 w' w.heap.size (fun _ => True) v5_ r6 ∧ Below w.heap.size w w' := by
  have hu43 := Try.underlying43
  have hu52 := Try.underlying52
  have hu30 := Try.underlying30
  have HR0_5 := Aside0.mk hr0_5
  have HC0_5 := Aside0.mk hc0_5
  clear hr0_5 hc0_5
  have HB := Aside0.mk (Below.refl w.heap.size w)
  have H : ((tenementlaw08_refStamp.f a0_0 a0_1 a0_2 a0_3 a0_4).bind fun bt345 => ((tenementlaw08_refWrites.f k l0_5).bind fun t350 => (some (bt345.1, bt345.2.1, bt345.2.2.1, bt345.2.2.2.1, bt345.2.2.2.2, t350)))) = some (r1, r2, r3, r4, r5, r6) := h
  clear h
  replace H := Option.bind_eq_some_iff.mp H
  obtain ⟨⟨t345, t346, t347, t348, t349⟩, A20, H⟩ := H
  replace H : ((tenementlaw08_refWrites.f k l0_5).bind fun t350 => (some (t345, t346, t347, t348, t349, t350))) = some (r1, r2, r3, r4, r5, r6) := H
  have A2 := Aside0.mk A20
  clear A20
  replace H := Option.bind_eq_some_iff.mp H
  obtain ⟨t350, A30, H⟩ := H
  replace H : (some (t345, t346, t347, t348, t349, t350)) = some (r1, r2, r3, r4, r5, r6) := H
  have A3 := Aside0.mk A30
  clear A30
  simp only [Option.some.injEq, Prod.mk.injEq] at H
  obtain ⟨rfl, rfl, rfl, rfl, rfl, rfl⟩ := H
  go_enter Try.func17, Try.ntmps17
  try go_wp2_with (first | ((with_reducible refine gate_dst (N := 1) rfl ?_); refine box_event ?hg (N := 1) ?hd (cs := #[.int .u64 a0_0, .int .u64 a0_1, .int .u64 a0_2, .int .u64 a0_3, .int .i64 a0_4, .slice A0_5 l0_5.length c0_5]) (t := 43) ?hr ?_; (case hd => rfl); (case hg => rfl); (case hr => first | (go_simp; done) | (go_simp; rfl)); intro gb343 hg w4 hbox hb; have BK343 := Aside0.mk (hbox); have GW343 := Kw_ HB hg; have GE343 := GW343; replace HB := Ks_ HB hb; clear hb hbox hg) | ((with_reducible refine gate_dst (N := 2) rfl ?_); refine box_event ?hg (N := 2) ?hd (cs := #[.int .u64 0, .int .u64 0, .int .u64 0, .int .u64 0, .int .i64 0, .slice none 0 0]) (t := 52) ?hr ?_; (case hd => rfl); (case hg => rfl); (case hr => first | (go_simp; done) | (go_simp; rfl)); intro gb344 hg w5 hbox hb; have BK344 := Aside0.mk (hbox); have GW344 := Kw_ HB hg; have GE344 := GW344; have NB343_344 := Kl_ BK343 hg; have NB344_343 := Kr_ BK343 hg; replace BK343 := Kb_ BK343 hb; replace HB := Ks_ HB hb; clear hb hbox hg))
  replace BK343 := Kd_ BK343
  replace BK344 := Kd_ BK344
  replace HB := Aside0.mk (below_drew1 HB.out)
  refine start_ (n := 8) (S := fun w' => w'.cell? ⟨gb343, 0, none⟩ = some (.int .u64 a0_0) ∧ w'.cell? ⟨gb343, 1, none⟩ = some (.int .u64 a0_1) ∧ w'.cell? ⟨gb343, 2, none⟩ = some (.int .u64 a0_2) ∧ w'.cell? ⟨gb343, 3, none⟩ = some (.int .u64 a0_3) ∧ w'.cell? ⟨gb343, 4, none⟩ = some (.int .i64 a0_4) ∧ w'.cell? ⟨gb343, 5, none⟩ = some (.slice A0_5 l0_5.length c0_5)) (ds := []) #[false, false, false, false, false, false, false, false] (by kernel_rfl) rfl rfl (Kc6_ BK343.out) (fun hHeld => ?_); refine with_tabW tenementlaw08_refTxn.tab1 tenementlaw08_refTxn.bits1 (fun HT_ HW_ => ?_)
  generalize w5.drew = w6 at BK343 BK344 HB hHeld ⊢
  refine pure_ (i := 0) (N := some 3) (v := ?_) (a' := ?_) #[true, false, false, false, false, false, false, false] rfl rfl (any_of HT_.out (by kernel_rfl)) (fun _ _ _ h => h) (Or.inl ⟨by rfl, ?_⟩) ?_ ?_
  rotate_left
  · intro w'
    go_simp
    with_reducible rfl
  rotate_left
  · simp only [Act.put, List.setIfInBounds_toArray, List.set_cons_zero, List.set_cons_succ, i64_w, i32_w]
    rfl
  refine pure_ (i := 3) (N := some 6) (v := ?_) (a' := ?_) #[true, false, false, true, false, false, false, false] rfl rfl (any_of HT_.out (by kernel_rfl)) (fun _ _ _ h => h) (Or.inl ⟨by rfl, ?_⟩) ?_ ?_
  rotate_left
  · intro w'
    go_simp
    with_reducible rfl
  rotate_left
  · simp only [Act.put, List.setIfInBounds_toArray, List.set_cons_zero, List.set_cons_succ, i64_w, i32_w]
    rfl
  refine take_ (i := 1) (N := some 4) (v := ?_) (a' := ?_) #[true, true, false, true, false, false, false, false] rfl rfl (take_ofW HT_.out HW_.out (by kernel_rfl)) (fun _ _ _ h => h) (Or.inl ⟨by rfl, ?_⟩) hHeld ?_ ?_
  rotate_left
  · rintro w' ⟨s0, s1, s2, s3, s4, s5⟩
    go_simp
    with_reducible rfl
  rotate_left
  · simp only [Act.put, List.setIfInBounds_toArray, List.set_cons_zero, List.set_cons_succ, i64_w, i32_w]
    rfl
  refine take_ (i := 4) (N := some 7) (v := ?_) (a' := ?_) #[true, true, false, true, true, false, false, false] rfl rfl (take_ofW HT_.out HW_.out (by kernel_rfl)) (fun _ _ _ h => h) (Or.inl ⟨by rfl, ?_⟩) hHeld ?_ ?_
  rotate_left
  · rintro w' ⟨s0, s1, s2, s3, s4, s5⟩
    go_simp
    with_reducible rfl
  rotate_left
  · simp only [Act.put, List.setIfInBounds_toArray, List.set_cons_zero, List.set_cons_succ, i64_w, i32_w]
    rfl
  refine one_ (i := 2) (N := some 5) #[true, true, true, true, true, false, false, false] rfl rfl (one_of HT_.out (by kernel_rfl)) (by decide) (fun K hK => ?_)
  refine goes_ Try.func41 (by kernel_rfl) rfl #[.agg #[.int .u64 a0_0, .int .u64 a0_1, .int .u64 a0_2, .int .u64 a0_3, .int .i64 a0_4]] (by rfl) rfl rfl (by (try simp only [List.map_toArray, List.map_cons, List.map_nil]); first | done | rfl | (simp only [List.length_drop, List.length_take]; rfl)) ?_
  with_reducible refine (tenementlaw08_refStamp.calls a0_0 a0_1 a0_2 a0_3 a0_4 t345 t346 t347 t348 t349 _ A2.out).mono ?_
  rintro e w7 ⟨rfl, hb⟩
  refine ⟨_, rfl, ?_⟩
  replace BK343 := Kb_ BK343 hb
  replace BK344 := Kb_ BK344 hb
  replace HB := Ks_ HB hb
  (try clear hb)
  (try clear hb2)
  (try clear hk)
  (try clear hi)
  refine hK.out _ _ (Kc6_ BK343.out) (fun hHeld => ?_)
  clear hK K
  refine norm_ (a' := ?_) ?_ ?_
  rotate_left
  · show Act.put _ (some 5) _ = _
    simp only [Act.put, List.setIfInBounds_toArray, List.set_cons_zero, List.set_cons_succ, i64_w, i32_w]
    rfl
  refine one_ (i := 5) (N := some 8) #[true, true, true, true, true, true, false, false] rfl rfl (one_of HT_.out (by kernel_rfl)) (by decide) (fun K hK => ?_)
  refine goes_ Try.func13 (by kernel_rfl) rfl #[.slice A0_5 l0_5.length c0_5] (by rfl) rfl rfl (by (try simp only [List.map_toArray, List.map_cons, List.map_nil]); first | done | rfl | (simp only [List.length_drop, List.length_take]; rfl)) ?_
  with_reducible refine (tenementlaw08_refWrites.calls k _ _ l0_5 t350 _ ?side1 ?side2 A3.out).mono ?_
  (case side1 => repeat (first | exact (Kd.C_below HR0_5.out HB.out) | (with_reducible refine Kd.C_alloc ?_ _) | (with_reducible refine Kd.C_drewN ?_ _) | (with_reducible refine Kd.C_drew ?_)))
  (case side2 => exact HC0_5.out)
  rintro e w8 ⟨v351, rfl, ho0, hb⟩
  refine ⟨_, rfl, ?_⟩
  have HO352 := Aside0.mk (Kd.R_lower ho0 (below_size (by repeat (first | (with_reducible first | exact HB.out | apply below_alloc | apply pw_below_drewN | apply below_drew1 | refine below_set ?_ GE343.out | refine below_set ?_ GE344.out) | exact HB.out))))
  replace BK343 := Kb_ BK343 hb
  replace BK344 := Kb_ BK344 hb
  replace HB := Ks_ HB hb
  (try clear hb)
  (try clear hb2)
  (try clear hk)
  (try clear hi)
  (try clear ho0)
  obtain ⟨Ao9, co9, eo9⟩ := Kd.R_slice HO352.out
  (first | subst eo9 | (injection eo9 with f1_ f2_ f3_; have f4_ := f1_.symm; have f5_ := f3_.symm; clear f1_ f2_ f3_; subst f4_; subst f5_))
  refine hK.out _ _ (Kc6_ BK343.out) (fun hHeld => ?_)
  clear hK K
  refine norm_ (a' := ?_) ?_ ?_
  rotate_left
  · show Act.put _ (some 8) _ = _
    simp only [Act.put, List.setIfInBounds_toArray, List.set_cons_zero, List.set_cons_succ, i64_w, i32_w]
    rfl
  refine pure_ (i := 6) (N := some 9) (v := ?_) (a' := ?_) #[true, true, true, true, true, true, true, false] rfl rfl (any_of HT_.out (by kernel_rfl)) (fun _ _ _ h => h) (Or.inl ⟨by rfl, ?_⟩) ?_ ?_
  rotate_left
  · intro w'
    go_simp
    with_reducible rfl
  rotate_left
  · simp only [Act.put, List.setIfInBounds_toArray, List.set_cons_zero, List.set_cons_succ, i64_w, i32_w]
    rfl
  refine one_ (i := 7) (N := none) #[true, true, true, true, true, true, true, true] rfl rfl (one_of HT_.out (by kernel_rfl)) (by decide) (fun K hK => ?_)
  have hs10 : w8.cell? ⟨gb344, 0, none⟩ = some (.int .u64 0) := (blk_cell BK344.out 0).trans rfl
  have hfs10 := blk_frozen BK344.out 0
  have hns10_0 := NB343_344.out
  have hms10_0 := NB344_343.out
  have hs11 : w8.cell? ⟨gb344, 1, none⟩ = some (.int .u64 0) := (blk_cell BK344.out 1).trans rfl
  have hfs11 := blk_frozen BK344.out 1
  have hns11_0 := NB343_344.out
  have hms11_0 := NB344_343.out
  have hs12 : w8.cell? ⟨gb344, 2, none⟩ = some (.int .u64 0) := (blk_cell BK344.out 2).trans rfl
  have hfs12 := blk_frozen BK344.out 2
  have hns12_0 := NB343_344.out
  have hms12_0 := NB344_343.out
  have hs13 : w8.cell? ⟨gb344, 3, none⟩ = some (.int .u64 0) := (blk_cell BK344.out 3).trans rfl
  have hfs13 := blk_frozen BK344.out 3
  have hns13_0 := NB343_344.out
  have hms13_0 := NB344_343.out
  have hs14 : w8.cell? ⟨gb344, 4, none⟩ = some (.int .i64 0) := (blk_cell BK344.out 4).trans rfl
  have hfs14 := blk_frozen BK344.out 4
  have hns14_0 := NB343_344.out
  have hms14_0 := NB344_343.out
  have hs15 : w8.cell? ⟨gb344, 5, none⟩ = some (.slice none 0 0) := (blk_cell BK344.out 5).trans rfl
  have hfs15 := blk_frozen BK344.out 5
  have hns15_0 := NB343_344.out
  have hms15_0 := NB344_343.out
  refine skip_ (w1 := ?_) (by rfl) rfl ?_ ?_
  rotate_left
  · go_simp
    rfl
  refine hK.out _ _ ⟨((cell_far (p := ⟨gb344, _, none⟩) NB343_344.out _).trans (((cell_far (p := ⟨gb344, _, none⟩) NB343_344.out _).trans (((cell_far (p := ⟨gb344, _, none⟩) NB343_344.out _).trans (((cell_far (p := ⟨gb344, _, none⟩) NB343_344.out _).trans (((cell_far (p := ⟨gb344, _, none⟩) NB343_344.out _).trans (((cell_far (p := ⟨gb344, _, none⟩) NB343_344.out _).trans (hHeld.1)))))))))))), ((cell_far (p := ⟨gb344, _, none⟩) NB343_344.out _).trans (((cell_far (p := ⟨gb344, _, none⟩) NB343_344.out _).trans (((cell_far (p := ⟨gb344, _, none⟩) NB343_344.out _).trans (((cell_far (p := ⟨gb344, _, none⟩) NB343_344.out _).trans (((cell_far (p := ⟨gb344, _, none⟩) NB343_344.out _).trans (((cell_far (p := ⟨gb344, _, none⟩) NB343_344.out _).trans (hHeld.2.1)))))))))))), ((cell_far (p := ⟨gb344, _, none⟩) NB343_344.out _).trans (((cell_far (p := ⟨gb344, _, none⟩) NB343_344.out _).trans (((cell_far (p := ⟨gb344, _, none⟩) NB343_344.out _).trans (((cell_far (p := ⟨gb344, _, none⟩) NB343_344.out _).trans (((cell_far (p := ⟨gb344, _, none⟩) NB343_344.out _).trans (((cell_far (p := ⟨gb344, _, none⟩) NB343_344.out _).trans (hHeld.2.2.1)))))))))))), ((cell_far (p := ⟨gb344, _, none⟩) NB343_344.out _).trans (((cell_far (p := ⟨gb344, _, none⟩) NB343_344.out _).trans (((cell_far (p := ⟨gb344, _, none⟩) NB343_344.out _).trans (((cell_far (p := ⟨gb344, _, none⟩) NB343_344.out _).trans (((cell_far (p := ⟨gb344, _, none⟩) NB343_344.out _).trans (((cell_far (p := ⟨gb344, _, none⟩) NB343_344.out _).trans (hHeld.2.2.2.1)))))))))))), ((cell_far (p := ⟨gb344, _, none⟩) NB343_344.out _).trans (((cell_far (p := ⟨gb344, _, none⟩) NB343_344.out _).trans (((cell_far (p := ⟨gb344, _, none⟩) NB343_344.out _).trans (((cell_far (p := ⟨gb344, _, none⟩) NB343_344.out _).trans (((cell_far (p := ⟨gb344, _, none⟩) NB343_344.out _).trans (((cell_far (p := ⟨gb344, _, none⟩) NB343_344.out _).trans (hHeld.2.2.2.2.1)))))))))))), ((cell_far (p := ⟨gb344, _, none⟩) NB343_344.out _).trans (((cell_far (p := ⟨gb344, _, none⟩) NB343_344.out _).trans (((cell_far (p := ⟨gb344, _, none⟩) NB343_344.out _).trans (((cell_far (p := ⟨gb344, _, none⟩) NB343_344.out _).trans (((cell_far (p := ⟨gb344, _, none⟩) NB343_344.out _).trans (((cell_far (p := ⟨gb344, _, none⟩) NB343_344.out _).trans (hHeld.2.2.2.2.2))))))))))))⟩ (fun hHeld => ?_)
  clear hK K
  refine done_ (done_of HT_.out (by kernel_rfl)) ?_
  try go_wp2
  refine bodyPost_ret (results_cell_row rfl _ _ gb344 52 #[.int .u64 t345, .int .u64 t346, .int .u64 t347, .int .u64 t348, .int .i64 t349, .slice Ao9 t350.length co9] (0, 0) _ rfl (by (with_reducible repeat (first | refine blk_drewN ?_ _ | refine blk_drew ?_ | refine blk_alloc ?_ _)); refine blk_put (cs := #[.int .u64 t345, .int .u64 t346, .int .u64 t347, .int .u64 t348, .int .i64 t349, .slice none 0 0]) ?_ 5 _ rfl; (with_reducible repeat (first | refine blk_drewN ?_ _ | refine blk_drew ?_ | refine blk_alloc ?_ _)); refine blk_put (cs := #[.int .u64 t345, .int .u64 t346, .int .u64 t347, .int .u64 t348, .int .i64 0, .slice none 0 0]) ?_ 4 _ rfl; (with_reducible repeat (first | refine blk_drewN ?_ _ | refine blk_drew ?_ | refine blk_alloc ?_ _)); refine blk_put (cs := #[.int .u64 t345, .int .u64 t346, .int .u64 t347, .int .u64 0, .int .i64 0, .slice none 0 0]) ?_ 3 _ rfl; (with_reducible repeat (first | refine blk_drewN ?_ _ | refine blk_drew ?_ | refine blk_alloc ?_ _)); refine blk_put (cs := #[.int .u64 t345, .int .u64 t346, .int .u64 0, .int .u64 0, .int .i64 0, .slice none 0 0]) ?_ 2 _ rfl; (with_reducible repeat (first | refine blk_drewN ?_ _ | refine blk_drew ?_ | refine blk_alloc ?_ _)); refine blk_put (cs := #[.int .u64 t345, .int .u64 0, .int .u64 0, .int .u64 0, .int .i64 0, .slice none 0 0]) ?_ 1 _ rfl; (with_reducible repeat (first | refine blk_drewN ?_ _ | refine blk_drew ?_ | refine blk_alloc ?_ _)); refine blk_put (cs := #[.int .u64 0, .int .u64 0, .int .u64 0, .int .u64 0, .int .i64 0, .slice none 0 0]) ?_ 0 _ rfl; (with_reducible repeat (first | refine blk_drewN ?_ _ | refine blk_drew ?_ | refine blk_alloc ?_ _)); exact BK344.out) Try.underlying52 rfl (by kernel_rfl)) rfl ?_
  exact ⟨_, by first | rfl | (simp [errW_none, errW_some] <;> rfl) | (simp [*, errW_none, errW_some] <;> rfl), by (with_reducible repeat (first | apply Kd.R_alloc | apply Kd.R_drewN | apply Kd.R_drew)); exact Kd.R_mono (Kd.R_far (p := ⟨gb344, 5, none⟩) (Kd.R_far (p := ⟨gb344, 4, none⟩) (Kd.R_far (p := ⟨gb344, 3, none⟩) (Kd.R_far (p := ⟨gb344, 2, none⟩) (Kd.R_far (p := ⟨gb344, 1, none⟩) (Kd.R_far (p := ⟨gb344, 0, none⟩) (Kd.R_types HO352.out BK344.out (by decide)) (fun _ hk => hk.2) (.int .u64 t345)) (fun _ hk => hk.2) (.int .u64 t346)) (fun _ hk => hk.2) (.int .u64 t347)) (fun _ hk => hk.2) (.int .u64 t348)) (fun _ hk => hk.2) (.int .i64 t349)) (fun _ hk => hk.2) (.slice Ao9 t350.length co9)) (fun _ hk => trivial), by repeat (first | (with_reducible first | exact HB.out | apply below_alloc | apply pw_below_drewN | apply below_drew1 | refine below_set ?_ GE343.out | refine below_set ?_ GE344.out) | exact HB.out)⟩

end Go.Proofs.Ytoogchgoiciggaa.Q

-- Written by this session's own driver (wip/hybrid.py) of the kit's printer; contracts marked FOREIGN are by hand.
namespace Go.Proofs.Ytoogchgoiciggaa.Q
open Go.RowKit Go.Proofs.YtoogchgoiciggaaW.PrintWords Go.Proofs.YtoogchgoiciggaaW.PrintLast Go.Proofs.YtoogchgoiciggaaW.PrintMore
attribute [local go_sem] max2_int min2_int max_two min_two max_three min_three max_four min_four   -- for this text's walks alone
set_option linter.unusedVariables false
set_option linter.unusedSimpArgs false

/-! ### tenementref02_Vary: function 62 -/
def tenementref02_Vary.l0 : Nat → Int → List Int → Option (ByteArray)
  | 0, _, _ => none
  | k + 1, x0, x3 => if x0 ≥ 128 then (if x3.length < 140737488355328 then (tenementref02_Vary.l0 k (IntKind.u64.wrap (Int.tdiv x0 128)) (x3 ++ [(IntKind.u64.wrap ((Int.tmod x0 128) + 128)) % 256])) else (none)) else (if x3.length < 140737488355328 then (some (strOfNums (x3 ++ [(x0) % 256]))) else (none))
def tenementref02_Vary.f (k : Nat) (a0 : Int) : Option (ByteArray) := tenementref02_Vary.l0 k a0 ([] : List Int)
theorem tenementref02_Vary.mono_l : ∀ k, (∀ y0 y1, LeO (tenementref02_Vary.l0 k y0 y1) (tenementref02_Vary.l0 (k + 1) y0 y1))
  | 0 => fun _ _ r h => by simp [tenementref02_Vary.l0] at h
  | k + 1 => by
    have ih0 := tenementref02_Vary.mono_l k
    · intro y0 y1
      unfold tenementref02_Vary.l0
      repeat' first
      | (with_reducible exact ih0 _ _)
      | (with_reducible exact LeO.refl _)
      | (with_reducible exact LeO.none _)
      | (with_reducible refine LeO.ite ?_ ?_)
      | (with_reducible refine LeO.bind ?_ (fun _ => ?_))
      | exact ih0 _ _
      | exact LeO.none _
      | refine LeO.ite ?_ ?_
      | refine LeO.bind ?_ (fun _ => ?_)
theorem tenementref02_Vary.mono : ∀ a0 k, LeO (tenementref02_Vary.f k a0) (tenementref02_Vary.f (k + 1) a0) := by
  intro a0 k
  have ih0 := tenementref02_Vary.mono_l k
  unfold tenementref02_Vary.f
  repeat' first
      | (with_reducible exact ih0 _ _)
      | (with_reducible exact LeO.refl _)
      | (with_reducible exact LeO.none _)
      | (with_reducible refine LeO.ite ?_ ?_)
      | (with_reducible refine LeO.bind ?_ (fun _ => ?_))
      | exact ih0 _ _
      | exact LeO.none _
      | refine LeO.ite ?_ ?_
      | refine LeO.bind ?_ (fun _ => ?_)
set_option maxHeartbeats 8000000 in
set_option maxRecDepth 100000 in
theorem tenementref02_Vary.calls (k : Nat) (a0 : Int) (r : ByteArray) (w : World) (h : tenementref02_Vary.f k a0 = some r) :
    Calls Try.prog 62 #[.int .u64 a0] w fun e w' => e = .returned (.string r) ∧ Below w.heap.size w w' := by
  have HB := Aside0.mk (Below.refl w.heap.size w)
  have H : (tenementref02_Vary.l0 k a0 ([] : List Int)) = some r := h
  clear h
  have H' := Aside0.mk H
  clear H
  go_enter Try.func62, Try.ntmps62
  go_wp2
  go_loopg [0, 3] k (fun kq v0 v3 w' => ∃ (x0_1 : Int) (x3_1 : List Int), v0 = .int .u64 x0_1 ∧ Aside0 (tenementref02_Vary.l0 kq x0_1 x3_1 = some r) ∧ Aside0 (kq ≤ k) ∧ Aside0 (Kd.R (Kd.int .u8) 5 w' w.heap.size (fun _ => True) v3 x3_1) ∧ Aside0 (Below w.heap.size w w'))
  case atStart => exact ⟨(a0), (([] : List Int)), (by first | rfl | (simp; done) | (simp [*]; done)), H', ⟨Nat.le_refl _⟩, ⟨by first | exact Kd.R_nil _ _ _ _ _ | exact Kd.N_nil _ _ _ _ _ | exact Kd.V_nil _ _ _ _ _ | exact Kd.Q_nil _ _ _ _ _ | exact Kd.S_nil _ _ _ _ _⟩, ⟨Ky_ HB⟩⟩
  case round =>
    clear H'
    obtain ⟨x0_1, x3_1, rfl, HA, HK1, HO_3, HB⟩ := hrel
    cases gk with
    | zero => exact absurd HA.out (by simp [tenementref02_Vary.l0])
    | succ k1 =>
      have H := HA.out
      clear HA
      simp only [tenementref02_Vary.l0] at H
      by_cases c2 : x0_1 ≥ 128
      rotate_left
      · rw [if_neg c2] at H
        have c2b0 : decide (128 ≤ x0_1) = false := decide_eq_false c2
        clear c2
        by_cases c5 : x3_1.length < 140737488355328
        rotate_left
        · rw [if_neg c5] at H
          exact absurd H (by simp)
        rw [if_pos c5] at H
        have LMc5 := Aside0.mk c5
        clear c5
        obtain ⟨y318, hy318⟩ : ∃ y_ : List Int, y_ = (x3_1 ++ [(x0_1) % 256]) := ⟨_, rfl⟩
        replace H : (some (strOfNums y318)) = some r := by first | (rw [hy318]; with_reducible exact H) | (have H2_ := (Option.bind_some _ _).symm.trans H; rw [hy318]; with_reducible exact H2_) | (have H2_ := (Option.bind_some _ _).symm.trans H; with_reducible exact H2_) | with_reducible exact H | (rw [hy318]; exact H) | exact H
        have Ny318 := Aside0.mk hy318
        clear hy318
        obtain rfl := Option.some.inj H
        go_wp2_with (first | ((with_reducible refine gate_builtin (b := .append) (xs := #[.tmp 15, .tmp 18]) rfl ?_); at_builtin; refine Kd.R_append (Kd.int .u8) (w0 := w) w.heap.size rfl (.tmp 15) (.tmp 18) 76 5 (.int .u8 0) 1 rfl Try.underlying76 info5 rfl (by decide) (by omega) u3 x3_1 ((x0_1) % 256) [.int .u8 ((x0_1) % 256)] (fun _ => True) (fun _ => False) rfl rfl ?aP (fun _ hk => hk.elim) ?aF ?aO ?aB ?aS ?aL ?_; (case aP => exact rfl); (case aB => exact (Ky_ HB)); (case aF => exact (fun _ _ => trivial)); (case aO => exact (by (with_reducible repeat (first | apply Kd.R_alloc | apply Kd.R_drewN | apply Kd.R_drew)); exact HO_3.out)); (case aS => exact (below_size (Ky_ HB))); (case aL => have := LMc5.out; omega); intro v319 w6 ho hb hg hat; rw [← Ny318.out] at ho; have HO320 := Aside0.mk (ho); replace HB := Aside0.mk (hb); clear HO_3; clear ho hb hg hat; have hcv7 := own_string (P := Try.prog) Try.underlying76 Try.underlying5 Try.underlying9 (Kd.own_of_R HO320.out)))
        go_ret
        exact ⟨by first | rfl | (simp [errW_none, errW_some] <;> rfl) | (simp [*, errW_none, errW_some] <;> rfl), Ky_ HB⟩
      rw [if_pos c2] at H
      have c2b0 : decide (128 ≤ x0_1) = true := decide_eq_true c2
      clear c2
      by_cases c3 : x3_1.length < 140737488355328
      rotate_left
      · rw [if_neg c3] at H
        exact absurd H (by simp)
      rw [if_pos c3] at H
      have LMc3 := Aside0.mk c3
      clear c3
      obtain ⟨y315, hy315⟩ : ∃ y_ : List Int, y_ = (x3_1 ++ [(IntKind.u64.wrap ((Int.tmod x0_1 128) + 128)) % 256]) := ⟨_, rfl⟩
      replace H : (tenementref02_Vary.l0 k1 (IntKind.u64.wrap (Int.tdiv x0_1 128)) y315) = some r := by first | (rw [hy315]; with_reducible exact H) | (have H2_ := (Option.bind_some _ _).symm.trans H; rw [hy315]; with_reducible exact H2_) | (have H2_ := (Option.bind_some _ _).symm.trans H; with_reducible exact H2_) | with_reducible exact H | (rw [hy315]; exact H) | exact H
      have Ny315 := Aside0.mk hy315
      clear hy315
      have H' := Aside0.mk H
      clear H
      go_wp2_with (first | ((with_reducible refine gate_builtin (b := .append) (xs := #[.tmp 6, .tmp 11]) rfl ?_); at_builtin; refine Kd.R_append (Kd.int .u8) (w0 := w) w.heap.size rfl (.tmp 6) (.tmp 11) 76 5 (.int .u8 0) 1 rfl Try.underlying76 info5 rfl (by decide) (by omega) u3 x3_1 ((IntKind.u64.wrap ((Int.tmod x0_1 128) + 128)) % 256) [.int .u8 ((IntKind.u64.wrap ((Int.tmod x0_1 128) + 128)) % 256)] (fun _ => True) (fun _ => False) rfl rfl ?aP (fun _ hk => hk.elim) ?aF ?aO ?aB ?aS ?aL ?_; (case aP => exact rfl); (case aB => exact (Ky_ HB)); (case aF => exact (fun _ _ => trivial)); (case aO => exact (by (with_reducible repeat (first | apply Kd.R_alloc | apply Kd.R_drewN | apply Kd.R_drew)); exact HO_3.out)); (case aS => exact (below_size (Ky_ HB))); (case aL => have := LMc3.out; omega); intro v316 w4 ho hb hg hat; rw [← Ny315.out] at ho; have HO317 := Aside0.mk (ho); replace HB := Aside0.mk (hb); clear HO_3; clear ho hb hg hat))
      go_roundg k1
      case measure => have := HK1.out; omega
      case rel => exact ⟨(IntKind.u64.wrap (Int.tdiv x0_1 128)), (y315), (by first | rfl | (simp; done) | (simp [*]; done)), H', ⟨by have := HK1.out; omega⟩, ⟨by (with_reducible repeat (first | apply Kd.R_alloc | apply Kd.R_drewN | apply Kd.R_drew)); exact HO317.out⟩, ⟨Ky_ HB⟩⟩

end Go.Proofs.Ytoogchgoiciggaa.Q

-- Written by this session's own driver (wip/hybrid.py) of the kit's printer; contracts marked FOREIGN are by hand.
namespace Go.Proofs.Ytoogchgoiciggaa.Q
open Go.RowKit Go.Proofs.YtoogchgoiciggaaW.PrintWords Go.Proofs.YtoogchgoiciggaaW.PrintLast Go.Proofs.YtoogchgoiciggaaW.PrintMore
attribute [local go_sem] max2_int min2_int max_two min_two max_three min_three max_four min_four   -- for this text's walks alone
set_option linter.unusedVariables false
set_option linter.unusedSimpArgs false

/-! ### tenementref02_Text: function 40 -/
def tenementref02_Text.f (k : Nat) (a0 : ByteArray) : Option (ByteArray) := if a0.size ≤ 9223372036854775807 then ((tenementref02_Vary.f k (a0.size : Int)).bind fun t330 => (if t330.size + a0.size ≤ 9223372036854775807 then (some (t330 ++ a0)) else (none))) else (none)
theorem tenementref02_Text.mono : ∀ a0 k, LeO (tenementref02_Text.f k a0) (tenementref02_Text.f (k + 1) a0) := by
  intro a0 k
  unfold tenementref02_Text.f
  repeat' first
      | (with_reducible exact tenementref02_Vary.mono _ _)
      | (with_reducible exact LeO.refl _)
      | (with_reducible exact LeO.none _)
      | (with_reducible refine LeO.ite ?_ ?_)
      | (with_reducible refine LeO.bind ?_ (fun _ => ?_))
      | exact tenementref02_Vary.mono _ _
      | exact LeO.none _
      | refine LeO.ite ?_ ?_
      | refine LeO.bind ?_ (fun _ => ?_)
set_option maxHeartbeats 8000000 in
set_option maxRecDepth 100000 in
theorem tenementref02_Text.calls (k : Nat) (a0 : ByteArray) (r : ByteArray) (w : World) (h : tenementref02_Text.f k a0 = some r) :
    Calls Try.prog 40 #[.string a0] w fun e w' => e = .returned (.string r) ∧ Below w.heap.size w w' := by
  have HB := Aside0.mk (Below.refl w.heap.size w)
  have H : (if a0.size ≤ 9223372036854775807 then ((tenementref02_Vary.f k (a0.size : Int)).bind fun t330 => (if t330.size + a0.size ≤ 9223372036854775807 then (some (t330 ++ a0)) else (none))) else (none)) = some r := h
  (try (have Hs_ := H; simp only [ByteArray.size_append, Int.natCast_add] at Hs_))
  clear h
  by_cases c2 : a0.size ≤ 9223372036854775807
  rotate_left
  · rw [if_neg c2] at H
    exact absurd H (by simp)
  rw [if_pos c2] at H
  have c2b0 := eq_true c2
  have c2b1 : decide (a0.size ≤ 9223372036854775807) = true := decide_eq_true c2
  try have c2b2 : (9223372036854775807 < a0.size) = False := eq_false (Nat.not_lt.2 c2)
  replace H := Option.bind_eq_some_iff.mp H
  obtain ⟨t330, A30, H⟩ := H
  replace H : (if t330.size + a0.size ≤ 9223372036854775807 then (some (t330 ++ a0)) else (none)) = some r := H
  have A3 := Aside0.mk A30
  clear A30
  by_cases c4 : t330.size + a0.size ≤ 9223372036854775807
  rotate_left
  · rw [if_neg c4] at H
    exact absurd H (by simp)
  rw [if_pos c4] at H
  have c4b0 := eq_true c4
  have c4b1 : decide (t330.size + a0.size ≤ 9223372036854775807) = true := decide_eq_true c4
  try have c4b2 : (9223372036854775807 < t330.size + a0.size) = False := eq_false (Nat.not_lt.2 c4)
  obtain rfl := Option.some.inj H
  go_enter Try.func40, Try.ntmps40
  go_wp2_with (first | ((with_reducible refine gate_callee (f := 62) rfl ?_); refine goesL_ (some 6) rfl rfl Try.func62 (by kernel_rfl) rfl #[.int .u64 (a0.size : Int)] rfl (by (try simp only [List.map_toArray, List.map_cons, List.map_nil]); first | done | rfl | (simp only [List.length_drop, List.length_take]; rfl)) ?_; (with_reducible refine (tenementref02_Vary.calls k (a0.size : Int) t330 _ A3.out).mono ?_); rintro e w5 ⟨rfl, hb⟩; refine ⟨_, rfl, ?_⟩; replace HB := Ks_ HB hb; (try clear hb); (try clear hb2); (try clear hk); (try clear hi)))
  go_ret
  exact ⟨by first | rfl | (simp [errW_none, errW_some] <;> rfl) | (simp [*, errW_none, errW_some] <;> rfl), Ky_ HB⟩

end Go.Proofs.Ytoogchgoiciggaa.Q

-- Written by this session's own driver (wip/hybrid.py) of the kit's printer; contracts marked FOREIGN are by hand.
namespace Go.Proofs.Ytoogchgoiciggaa.Q
open Go.RowKit Go.Proofs.YtoogchgoiciggaaW.PrintWords Go.Proofs.YtoogchgoiciggaaW.PrintLast Go.Proofs.YtoogchgoiciggaaW.PrintMore
attribute [local go_sem] max2_int min2_int max_two min_two max_three min_three max_four min_four   -- for this text's walks alone
set_option linter.unusedVariables false
set_option linter.unusedSimpArgs false

/-! ### tenementref01_step: function 69 -/
def tenementref01_step.l0 : Nat → Int → Int → Option (Int)
  | 0, _, _ => none
  | k + 1, x0, x5 => if x5 < 8 then (if (Int.tmod x0 2) = 1 then (tenementref01_step.l0 k (Go.bits .xor .u32 (x0 / 2) 3988292384) (wrap64 (x5 + 1))) else (tenementref01_step.l0 k (x0 / 2) (wrap64 (x5 + 1)))) else (some x0)
def tenementref01_step.f (k : Nat) (a0 : Int) (a1 : Int) : Option (Int) := tenementref01_step.l0 k (Go.bits .xor .u32 a0 ((a1) % 4294967296)) 0
theorem tenementref01_step.mono_l : ∀ k, (∀ y0 y1, LeO (tenementref01_step.l0 k y0 y1) (tenementref01_step.l0 (k + 1) y0 y1))
  | 0 => fun _ _ r h => by simp [tenementref01_step.l0] at h
  | k + 1 => by
    have ih0 := tenementref01_step.mono_l k
    · intro y0 y1
      unfold tenementref01_step.l0
      repeat' first
      | (with_reducible exact ih0 _ _)
      | (with_reducible exact LeO.refl _)
      | (with_reducible exact LeO.none _)
      | (with_reducible refine LeO.ite ?_ ?_)
      | (with_reducible refine LeO.bind ?_ (fun _ => ?_))
      | exact ih0 _ _
      | exact LeO.none _
      | refine LeO.ite ?_ ?_
      | refine LeO.bind ?_ (fun _ => ?_)
theorem tenementref01_step.mono : ∀ a0 a1 k, LeO (tenementref01_step.f k a0 a1) (tenementref01_step.f (k + 1) a0 a1) := by
  intro a0 a1 k
  have ih0 := tenementref01_step.mono_l k
  unfold tenementref01_step.f
  repeat' first
      | (with_reducible exact ih0 _ _)
      | (with_reducible exact LeO.refl _)
      | (with_reducible exact LeO.none _)
      | (with_reducible refine LeO.ite ?_ ?_)
      | (with_reducible refine LeO.bind ?_ (fun _ => ?_))
      | exact ih0 _ _
      | exact LeO.none _
      | refine LeO.ite ?_ ?_
      | refine LeO.bind ?_ (fun _ => ?_)
set_option maxHeartbeats 8000000 in
set_option maxRecDepth 100000 in
theorem tenementref01_step.calls (k : Nat) (a0 : Int) (a1 : Int) (r : Int) (w : World) (h : tenementref01_step.f k a0 a1 = some r) :
    Calls Try.prog 69 #[.int .u32 a0, .int .u8 a1] w fun e w' => e = .returned (.int .u32 r) ∧ Drawn0 w w' := by
  have H : (tenementref01_step.l0 k (Go.bits .xor .u32 a0 ((a1) % 4294967296)) 0) = some r := h
  clear h
  have H' := Aside0.mk H
  clear H
  go_enter Try.func69, Try.ntmps69
  go_wp2
  go_loopg [0, 5] k (fun kq v0 v5 w' => ∃ (x0_1 : Int) (x5_1 : Int), v0 = .int .u32 x0_1 ∧ v5 = .int .i64 x5_1 ∧ Aside0 (tenementref01_step.l0 kq x0_1 x5_1 = some r) ∧ Aside0 (kq ≤ k) ∧ Drawn0 w w')
  case atStart => exact ⟨(Go.bits .xor .u32 a0 ((a1) % 4294967296)), (0), (by first | rfl | (simp; done) | (simp [*]; done)), (by first | rfl | (simp; done) | (simp [*]; done)), H', ⟨Nat.le_refl _⟩, by repeat (first | exact Drawn0.refl _ | apply Drawn0.step)⟩
  case round =>
    clear H'
    try clear p2
    obtain ⟨x0_1, x5_1, rfl, rfl, HA, HK1, ⟨m1, rfl⟩⟩ := hrel
    cases gk with
    | zero => exact absurd HA.out (by simp [tenementref01_step.l0])
    | succ k1 =>
      have H := HA.out
      clear HA
      simp only [tenementref01_step.l0] at H
      by_cases c3 : x5_1 < 8
      rotate_left
      · rw [if_neg c3] at H
        have c3b0 : decide (x5_1 < 8) = false := decide_eq_false c3
        clear c3
        obtain rfl := Option.some.inj H
        go_wp2
        go_ret
        exact ⟨by first | rfl | (simp; done) | (simp [*]; done), by repeat (first | exact Drawn0.refl _ | apply Drawn0.step)⟩
      rw [if_pos c3] at H
      have c3b0 : decide (x5_1 < 8) = true := decide_eq_true c3
      clear c3
      by_cases c4 : (Int.tmod x0_1 2) = 1
      rotate_left
      · rw [if_neg c4] at H
        have c4b0 : ((Int.tmod x0_1 2) == 1) = false := beq_eq_false_iff_ne.mpr c4
        have c4b1 : ((Int.tmod x0_1 2) != 1) = true := bne_iff_ne.mpr c4
        have H' := Aside0.mk H
        clear H
        go_wp2
        go_roundg k1
        case measure => have := HK1.out; omega
        case rel => exact ⟨(x0_1 / 2), (wrap64 (x5_1 + 1)), (by first | rfl | (simp; done) | (simp [*]; done)), (by first | rfl | (simp; done) | (simp [*]; done)), H', ⟨by have := HK1.out; omega⟩, by repeat (first | exact Drawn0.refl _ | apply Drawn0.step)⟩
      rw [if_pos c4] at H
      have c4b0 : ((Int.tmod x0_1 2) == 1) = true := beq_iff_eq.mpr c4
      have c4b1 : ((Int.tmod x0_1 2) != 1) = false := bne_eq_false_iff_eq.mpr c4
      clear c4
      have H' := Aside0.mk H
      clear H
      go_wp2
      go_roundg k1
      case measure => have := HK1.out; omega
      case rel => exact ⟨(Go.bits .xor .u32 (x0_1 / 2) 3988292384), (wrap64 (x5_1 + 1)), (by first | rfl | (simp; done) | (simp [*]; done)), (by first | rfl | (simp; done) | (simp [*]; done)), H', ⟨by have := HK1.out; omega⟩, by repeat (first | exact Drawn0.refl _ | apply Drawn0.step)⟩

end Go.Proofs.Ytoogchgoiciggaa.Q

-- Written by this session's own driver (wip/hybrid.py) of the kit's printer; contracts marked FOREIGN are by hand.
namespace Go.Proofs.Ytoogchgoiciggaa.Q
open Go.RowKit Go.Proofs.YtoogchgoiciggaaW.PrintWords Go.Proofs.YtoogchgoiciggaaW.PrintLast Go.Proofs.YtoogchgoiciggaaW.PrintMore
attribute [local go_sem] max2_int min2_int max_two min_two max_three min_three max_four min_four   -- for this text's walks alone
set_option linter.unusedVariables false
set_option linter.unusedSimpArgs false

/-! ### tenementref01_Sum: function 51 -/
def tenementref01_Sum.l0 : Nat → ByteArray → Int → Int → Option (Int)
  | 0, _, _, _ => none
  | k + 1, x0, x3, x4 => if x4 < (x0.size : Int) then (if 0 ≤ x4 then ((tenementref01_step.f k x3 (bt x0 x4)).bind fun t437 => (tenementref01_Sum.l0 k x0 t437 (wrap64 (x4 + 1)))) else (none)) else (some (Go.bits .xor .u32 4294967295 x3))
def tenementref01_Sum.f (k : Nat) (a0 : ByteArray) : Option (Int) := tenementref01_Sum.l0 k a0 4294967295 0
theorem tenementref01_Sum.mono_l : ∀ k, (∀ y0 y1 y2, LeO (tenementref01_Sum.l0 k y0 y1 y2) (tenementref01_Sum.l0 (k + 1) y0 y1 y2))
  | 0 => fun _ _ _ r h => by simp [tenementref01_Sum.l0] at h
  | k + 1 => by
    have ih0 := tenementref01_Sum.mono_l k
    · intro y0 y1 y2
      unfold tenementref01_Sum.l0
      repeat' first
      | (with_reducible exact ih0 _ _ _)
      | (with_reducible exact tenementref01_step.mono _ _ _)
      | (with_reducible exact LeO.refl _)
      | (with_reducible exact LeO.none _)
      | (with_reducible refine LeO.ite ?_ ?_)
      | (with_reducible refine LeO.bind ?_ (fun _ => ?_))
      | exact ih0 _ _ _
      | exact tenementref01_step.mono _ _ _
      | exact LeO.none _
      | refine LeO.ite ?_ ?_
      | refine LeO.bind ?_ (fun _ => ?_)
theorem tenementref01_Sum.mono : ∀ a0 k, LeO (tenementref01_Sum.f k a0) (tenementref01_Sum.f (k + 1) a0) := by
  intro a0 k
  have ih0 := tenementref01_Sum.mono_l k
  unfold tenementref01_Sum.f
  repeat' first
      | (with_reducible exact ih0 _ _ _)
      | (with_reducible exact tenementref01_step.mono _ _ _)
      | (with_reducible exact LeO.refl _)
      | (with_reducible exact LeO.none _)
      | (with_reducible refine LeO.ite ?_ ?_)
      | (with_reducible refine LeO.bind ?_ (fun _ => ?_))
      | exact ih0 _ _ _
      | exact tenementref01_step.mono _ _ _
      | exact LeO.none _
      | refine LeO.ite ?_ ?_
      | refine LeO.bind ?_ (fun _ => ?_)
set_option maxHeartbeats 8000000 in
set_option maxRecDepth 100000 in
theorem tenementref01_Sum.calls (k : Nat) (a0 : ByteArray) (r : Int) (w : World) (h : tenementref01_Sum.f k a0 = some r) :
    Calls Try.prog 51 #[.string a0] w fun e w' => e = .returned (.int .u32 r) ∧ Drawn0 w w' := by
  have H : (tenementref01_Sum.l0 k a0 4294967295 0) = some r := h
  clear h
  have H' := Aside0.mk H
  clear H
  go_enter Try.func51, Try.ntmps51
  go_wp2
  go_loopg [3, 4] k (fun kq v3 v4 w' => ∃ (x3_1 : Int) (x4_1 : Int), v3 = .int .u32 x3_1 ∧ v4 = .int .i64 x4_1 ∧ Aside0 (tenementref01_Sum.l0 kq a0 x3_1 x4_1 = some r) ∧ Aside0 (kq ≤ k) ∧ Drawn0 w w')
  case atStart => exact ⟨(4294967295), (0), (by first | rfl | (simp; done) | (simp [*]; done)), (by first | rfl | (simp; done) | (simp [*]; done)), H', ⟨Nat.le_refl _⟩, by repeat (first | exact Drawn0.refl _ | apply Drawn0.step)⟩
  case round =>
    clear H'
    obtain ⟨x3_1, x4_1, rfl, rfl, HA, HK1, ⟨m1, rfl⟩⟩ := hrel
    cases gk with
    | zero => exact absurd HA.out (by simp [tenementref01_Sum.l0])
    | succ k1 =>
      have H := HA.out
      clear HA
      simp only [tenementref01_Sum.l0] at H
      by_cases c2 : x4_1 < (a0.size : Int)
      rotate_left
      · rw [if_neg c2] at H
        have c2b0 : decide (x4_1 < (a0.size : Int)) = false := decide_eq_false c2
        clear c2
        obtain rfl := Option.some.inj H
        go_wp2
        go_ret
        exact ⟨by first | rfl | (simp; done) | (simp [*]; done), by repeat (first | exact Drawn0.refl _ | apply Drawn0.step)⟩
      rw [if_pos c2] at H
      have c2b0 : decide (x4_1 < (a0.size : Int)) = true := decide_eq_true c2
      clear c2
      by_cases c3 : 0 ≤ x4_1
      rotate_left
      · rw [if_neg c3] at H
        exact absurd H (by simp)
      rw [if_pos c3] at H
      have c3b0 : decide (0 ≤ x4_1) = true := decide_eq_true c3
      clear c3
      replace H := Option.bind_eq_some_iff.mp H
      obtain ⟨t437, A50, H⟩ := H
      replace H : (tenementref01_Sum.l0 k1 a0 t437 (wrap64 (x4_1 + 1))) = some r := H
      have A5 := Aside0.mk A50
      clear A50
      have H' := Aside0.mk H
      clear H
      have p4 : 0 ≤ (x4_1 : Int) := of_decide_eq_true (by first | (with_reducible assumption) | assumption)
      have q4 : x4_1 < (a0.size : Int) := of_decide_eq_true (by first | (with_reducible assumption) | assumption)
      have hx4 := bt_at a0 x4_1
      replace p4 := eq_true p4
      replace q4 := eq_true q4
      go_wp2_with (first | ((with_reducible refine gate_callee (f := 69) rfl ?_); refine goesL_ (some 15) rfl rfl Try.func69 (by kernel_rfl) rfl #[.int .u32 x3_1, .int .u8 (bt a0 x4_1)] rfl (by (try simp only [List.map_toArray, List.map_cons, List.map_nil]); first | done | rfl | (simp only [List.length_drop, List.length_take]; rfl)) ?_; (with_reducible refine (tenementref01_step.calls k1 x3_1 (bt a0 x4_1) t437 _ A5.out).mono ?_); rintro e w' ⟨rfl, ⟨nd, rfl⟩⟩; refine ⟨_, rfl, ?_⟩))
      go_roundg k1
      case measure => have := HK1.out; omega
      case rel => exact ⟨(t437), (wrap64 (x4_1 + 1)), (by first | rfl | (simp; done) | (simp [*]; done)), (by first | rfl | (simp; done) | (simp [*]; done)), H', ⟨by have := HK1.out; omega⟩, by repeat (first | exact Drawn0.refl _ | apply Drawn0.step)⟩

end Go.Proofs.Ytoogchgoiciggaa.Q

-- Written by this session's own driver (wip/hybrid.py) of the kit's printer; contracts marked FOREIGN are by hand.
namespace Go.Proofs.Ytoogchgoiciggaa.Q
open Go.RowKit Go.Proofs.YtoogchgoiciggaaW.PrintWords Go.Proofs.YtoogchgoiciggaaW.PrintLast Go.Proofs.YtoogchgoiciggaaW.PrintMore
attribute [local go_sem] max2_int min2_int max_two min_two max_three min_three max_four min_four   -- for this text's walks alone
set_option linter.unusedVariables false
set_option linter.unusedSimpArgs false

/-! ### tenementref08_Shard: function 29 -/
def tenementref08_Shard.f (k : Nat) (a0 : ByteArray) (a1 : ByteArray) (a2 : Int) : Option (Int) := if a2 < 1 then (some 1) else ((tenementref02_Text.f k a0).bind fun t438 => ((tenementref02_Text.f k a1).bind fun t439 => (if t438.size + t439.size ≤ 9223372036854775807 then ((tenementref01_Sum.f k (t438 ++ t439)).bind fun t440 => (if (IntKind.u64.wrap (a2)) = 0 then (none) else (some (wrap64 ((wrap64 (Int.tmod (IntKind.u64.wrap (t440)) (IntKind.u64.wrap (a2)))) + 1))))) else (none))))
theorem tenementref08_Shard.mono : ∀ a0 a1 a2 k, LeO (tenementref08_Shard.f k a0 a1 a2) (tenementref08_Shard.f (k + 1) a0 a1 a2) := by
  intro a0 a1 a2 k
  unfold tenementref08_Shard.f
  repeat' first
      | (with_reducible exact tenementref01_Sum.mono _ _)
      | (with_reducible exact tenementref02_Text.mono _ _)
      | (with_reducible exact LeO.refl _)
      | (with_reducible exact LeO.none _)
      | (with_reducible refine LeO.ite ?_ ?_)
      | (with_reducible refine LeO.bind ?_ (fun _ => ?_))
      | exact tenementref01_Sum.mono _ _
      | exact tenementref02_Text.mono _ _
      | exact LeO.none _
      | refine LeO.ite ?_ ?_
      | refine LeO.bind ?_ (fun _ => ?_)
set_option maxHeartbeats 8000000 in
set_option maxRecDepth 100000 in
theorem tenementref08_Shard.calls (k : Nat) (a0 : ByteArray) (a1 : ByteArray) (a2 : Int) (r : Int) (w : World) (h : tenementref08_Shard.f k a0 a1 a2 = some r) :
    Calls Try.prog 29 #[.string a0, .string a1, .int .i64 a2] w fun e w' => e = .returned (.int .i64 r) ∧ Below w.heap.size w w' := by
  have HB := Aside0.mk (Below.refl w.heap.size w)
  have H : (if a2 < 1 then (some 1) else ((tenementref02_Text.f k a0).bind fun t438 => ((tenementref02_Text.f k a1).bind fun t439 => (if t438.size + t439.size ≤ 9223372036854775807 then ((tenementref01_Sum.f k (t438 ++ t439)).bind fun t440 => (if (IntKind.u64.wrap (a2)) = 0 then (none) else (some (wrap64 ((wrap64 (Int.tmod (IntKind.u64.wrap (t440)) (IntKind.u64.wrap (a2)))) + 1))))) else (none))))) = some r := h
  (try (have Hs_ := H; simp only [ByteArray.size_append, Int.natCast_add] at Hs_))
  clear h
  by_cases c4 : a2 < 1
  · rw [if_pos c4] at H
    have c4b0 : decide (a2 < 1) = true := decide_eq_true c4
    clear c4
    obtain rfl := Option.some.inj H
    go_enter Try.func29, Try.ntmps29
    go_wp2
    go_ret
    exact ⟨by first | rfl | (simp [errW_none, errW_some] <;> rfl) | (simp [*, errW_none, errW_some] <;> rfl), Ky_ HB⟩
  rw [if_neg c4] at H
  have c4b0 : decide (a2 < 1) = false := decide_eq_false c4
  clear c4
  replace H := Option.bind_eq_some_iff.mp H
  obtain ⟨t438, A50, H⟩ := H
  replace H : ((tenementref02_Text.f k a1).bind fun t439 => (if t438.size + t439.size ≤ 9223372036854775807 then ((tenementref01_Sum.f k (t438 ++ t439)).bind fun t440 => (if (IntKind.u64.wrap (a2)) = 0 then (none) else (some (wrap64 ((wrap64 (Int.tmod (IntKind.u64.wrap (t440)) (IntKind.u64.wrap (a2)))) + 1))))) else (none))) = some r := H
  have A5 := Aside0.mk A50
  clear A50
  replace H := Option.bind_eq_some_iff.mp H
  obtain ⟨t439, A60, H⟩ := H
  replace H : (if t438.size + t439.size ≤ 9223372036854775807 then ((tenementref01_Sum.f k (t438 ++ t439)).bind fun t440 => (if (IntKind.u64.wrap (a2)) = 0 then (none) else (some (wrap64 ((wrap64 (Int.tmod (IntKind.u64.wrap (t440)) (IntKind.u64.wrap (a2)))) + 1))))) else (none)) = some r := H
  have A6 := Aside0.mk A60
  clear A60
  by_cases c7 : t438.size + t439.size ≤ 9223372036854775807
  rotate_left
  · rw [if_neg c7] at H
    exact absurd H (by simp)
  rw [if_pos c7] at H
  have c7b0 := eq_true c7
  have c7b1 : decide (t438.size + t439.size ≤ 9223372036854775807) = true := decide_eq_true c7
  try have c7b2 : (9223372036854775807 < t438.size + t439.size) = False := eq_false (Nat.not_lt.2 c7)
  replace H := Option.bind_eq_some_iff.mp H
  obtain ⟨t440, A80, H⟩ := H
  replace H : (if (IntKind.u64.wrap (a2)) = 0 then (none) else (some (wrap64 ((wrap64 (Int.tmod (IntKind.u64.wrap (t440)) (IntKind.u64.wrap (a2)))) + 1)))) = some r := H
  have A8 := Aside0.mk A80
  clear A80
  by_cases c9 : (IntKind.u64.wrap (a2)) = 0
  · rw [if_pos c9] at H
    exact absurd H (by simp)
  rw [if_neg c9] at H
  have c9b0 : ((IntKind.u64.wrap (a2)) == 0) = false := beq_eq_false_iff_ne.mpr c9
  have c9b1 : ((IntKind.u64.wrap (a2)) != 0) = true := bne_iff_ne.mpr c9
  obtain rfl := Option.some.inj H
  go_enter Try.func29, Try.ntmps29
  go_wp2_with (first | ((with_reducible refine gate_callee (f := 40) rfl ?_); refine goesL_ (some 11) rfl rfl Try.func40 (by kernel_rfl) rfl #[.string a0] rfl (by (try simp only [List.map_toArray, List.map_cons, List.map_nil]); first | done | rfl | (simp only [List.length_drop, List.length_take]; rfl)) ?_; (with_reducible refine (tenementref02_Text.calls k a0 t438 _ A5.out).mono ?_); rintro e w10 ⟨rfl, hb⟩; refine ⟨_, rfl, ?_⟩; replace HB := Ks_ HB hb; (try clear hb); (try clear hb2); (try clear hk); (try clear hi)) | ((with_reducible refine gate_callee (f := 40) rfl ?_); refine goesL_ (some 13) rfl rfl Try.func40 (by kernel_rfl) rfl #[.string a1] rfl (by (try simp only [List.map_toArray, List.map_cons, List.map_nil]); first | done | rfl | (simp only [List.length_drop, List.length_take]; rfl)) ?_; (with_reducible refine (tenementref02_Text.calls k a1 t439 _ A6.out).mono ?_); rintro e w11 ⟨rfl, hb⟩; refine ⟨_, rfl, ?_⟩; replace HB := Ks_ HB hb; (try clear hb); (try clear hb2); (try clear hk); (try clear hi)) | ((with_reducible refine gate_callee (f := 51) rfl ?_); refine goesL_ (some 15) rfl rfl Try.func51 (by kernel_rfl) rfl #[.string (t438 ++ t439)] rfl (by (try simp only [List.map_toArray, List.map_cons, List.map_nil]); first | done | rfl | (simp only [List.length_drop, List.length_take]; rfl)) ?_; (with_reducible refine (tenementref01_Sum.calls k (t438 ++ t439) t440 _ A8.out).mono ?_); rintro e w' ⟨rfl, ⟨nd, rfl⟩⟩; refine ⟨_, rfl, ?_⟩))
  go_ret
  exact ⟨by first | rfl | (simp [errW_none, errW_some] <;> rfl) | (simp [*, errW_none, errW_some] <;> rfl), Ky_ HB⟩

end Go.Proofs.Ytoogchgoiciggaa.Q

-- Written by this session's own driver (wip/hybrid.py) of the kit's printer; contracts marked FOREIGN are by hand.
namespace Go.Proofs.Ytoogchgoiciggaa.Q
open Go.RowKit Go.Proofs.YtoogchgoiciggaaW.PrintWords Go.Proofs.YtoogchgoiciggaaW.PrintLast Go.Proofs.YtoogchgoiciggaaW.PrintMore
attribute [local go_sem] max2_int min2_int max_two min_two max_three min_three max_four min_four   -- for this text's walks alone
set_option linter.unusedVariables false
set_option linter.unusedSimpArgs false

/-! ### tenementref08_Of: function 27 -/
def tenementref08_Of.l0 : Nat → Int → Int → List (S38) → Int → Int → Int → Int → Int → Int → List (S38) → Option ((List (S38)))
  | 0, _, _, _, _, _, _, _, _, _, _ => none
  | k + 1, x1, x2, x7, x8, x442000, x442001, x442002, x442003, x442004, x442005 => if x8 < (x442005.length : Int) then (if 0 ≤ x8 then ((tenementref08_Shard.f k ((rd_T38 x442005 x8).f0) ((rd_T38 x442005 x8).f1) x2).bind fun t444 => (if t444 = x1 then (if x7.length < 2513169434916 then (tenementref08_Of.l0 k x1 x2 (x7 ++ [(⟨(rd_T38 x442005 x8).f0, (rd_T38 x442005 x8).f1, (rd_T38 x442005 x8).f2, (rd_T38 x442005 x8).f3⟩ : S38)]) (wrap64 (x8 + 1)) x442000 x442001 x442002 x442003 x442004 x442005) else (none)) else (tenementref08_Of.l0 k x1 x2 x7 (wrap64 (x8 + 1)) x442000 x442001 x442002 x442003 x442004 x442005))) else (none)) else (some x7)
def tenementref08_Of.f (k : Nat) (a0_0 : Int) (a0_1 : Int) (a0_2 : Int) (a0_3 : Int) (a0_4 : Int) (l0_5 : List (S38)) (a1 : Int) (a2 : Int) : Option ((List (S38))) := tenementref08_Of.l0 k a1 a2 ([] : List (S38)) 0 a0_0 a0_1 a0_2 a0_3 a0_4 l0_5
theorem tenementref08_Of.mono_l : ∀ k, (∀ y0 y1 y2 y3 y4 y5 y6 y7 y8 y9, LeO (tenementref08_Of.l0 k y0 y1 y2 y3 y4 y5 y6 y7 y8 y9) (tenementref08_Of.l0 (k + 1) y0 y1 y2 y3 y4 y5 y6 y7 y8 y9))
  | 0 => fun _ _ _ _ _ _ _ _ _ _ r h => by simp [tenementref08_Of.l0] at h
  | k + 1 => by
    have ih0 := tenementref08_Of.mono_l k
    · intro y0 y1 y2 y3 y4 y5 y6 y7 y8 y9
      unfold tenementref08_Of.l0
      repeat' first
      | (with_reducible exact ih0 _ _ _ _ _ _ _ _ _ _)
      | (with_reducible exact tenementref08_Shard.mono _ _ _ _)
      | (with_reducible exact LeO.refl _)
      | (with_reducible exact LeO.none _)
      | (with_reducible refine LeO.ite ?_ ?_)
      | (with_reducible refine LeO.bind ?_ (fun _ => ?_))
      | exact ih0 _ _ _ _ _ _ _ _ _ _
      | exact tenementref08_Shard.mono _ _ _ _
      | exact LeO.none _
      | refine LeO.ite ?_ ?_
      | refine LeO.bind ?_ (fun _ => ?_)
theorem tenementref08_Of.mono : ∀ a0 a1 a2 a3 a4 a5 a6 a7 k, LeO (tenementref08_Of.f k a0 a1 a2 a3 a4 a5 a6 a7) (tenementref08_Of.f (k + 1) a0 a1 a2 a3 a4 a5 a6 a7) := by
  intro a0 a1 a2 a3 a4 a5 a6 a7 k
  have ih0 := tenementref08_Of.mono_l k
  unfold tenementref08_Of.f
  repeat' first
      | (with_reducible exact ih0 _ _ _ _ _ _ _ _ _ _)
      | (with_reducible exact tenementref08_Shard.mono _ _ _ _)
      | (with_reducible exact LeO.refl _)
      | (with_reducible exact LeO.none _)
      | (with_reducible refine LeO.ite ?_ ?_)
      | (with_reducible refine LeO.bind ?_ (fun _ => ?_))
      | exact ih0 _ _ _ _ _ _ _ _ _ _
      | exact tenementref08_Shard.mono _ _ _ _
      | exact LeO.none _
      | refine LeO.ite ?_ ?_
      | refine LeO.bind ?_ (fun _ => ?_)
def tenementref08_Of.T5 : Bool × List (List Nat × List Nat) := (true, [([], []), ([0], [0]), ([], []), ([1, 2], [1, 2]), ([3], [3]), ([4], [4]), ([], []), ([6], [6]), ([], []), ([7, 8], [7, 8]), ([9], [9]), ([10], [10]), ([], []), ([5, 11, 12], [5, 11, 12]), ([], []), ([13, 14], [13, 14])])
def tenementref08_Of.B5 : List Nat := [0, 1, 0, 7, 15, 31, 0, 64, 0, 448, 960, 1984, 0, 8191, 0, 32767]
theorem tenementref08_Of.tab5 : rtab .any (opsOf Try.f27 5) = tenementref08_Of.T5 := by kernel_rfl
theorem tenementref08_Of.bits5 : waitsOk tenementref08_Of.T5.2 tenementref08_Of.B5 = true := by kernel_rfl
set_option maxHeartbeats 8000000 in
set_option maxRecDepth 100000 in
theorem tenementref08_Of.calls (k : Nat) (a0_0 : Int) (a0_1 : Int) (a0_2 : Int) (a0_3 : Int) (a0_4 : Int) (A0_5 : Option Addr) (c0_5 : Nat) (l0_5 : List (S38)) (a1 : Int) (a2 : Int) (r : List (S38)) (w : World) (hr0_5 : Kd.C k38 w A0_5 l0_5.length l0_5) (hc0_5 : l0_5.length ≤ c0_5) (h : tenementref08_Of.f k a0_0 a0_1 a0_2 a0_3 a0_4 l0_5 a1 a2 = some r) :
    Calls Try.prog 27 #[.agg #[.int .u64 a0_0, .int .u64 a0_1, .int .u64 a0_2, .int .u64 a0_3, .int .i64 a0_4, .slice A0_5 l0_5.length c0_5], .int .i64 a1, .int .i64 a2] w fun e w' => ∃ v0_ : Value, e = .returned (v0_) ∧ Kd.R k38 38 w' w.heap.size (fun _ => True) v0_ r ∧ Below w.heap.size w w' := by
  have hu52 := Try.underlying52
  have hu38 := Try.underlying38
  have HR0_5 := Aside0.mk hr0_5
  have HC0_5 := Aside0.mk hc0_5
  clear hr0_5 hc0_5
  have HB := Aside0.mk (Below.refl w.heap.size w)
  have H : (tenementref08_Of.l0 k a1 a2 ([] : List (S38)) 0 a0_0 a0_1 a0_2 a0_3 a0_4 l0_5) = some r := h
  clear h
  have H' := Aside0.mk H
  clear H
  go_enter Try.func27, Try.ntmps27
  go_wp2_with (first | ((with_reducible refine gate_dst (N := 3) rfl ?_); refine box_event ?hg (N := 3) ?hd (cs := #[.int .u64 a0_0, .int .u64 a0_1, .int .u64 a0_2, .int .u64 a0_3, .int .i64 a0_4, .slice A0_5 l0_5.length c0_5]) (t := 52) ?hr ?_; (case hd => rfl); (case hg => rfl); (case hr => first | (go_simp; done) | (go_simp; rfl)); intro gb441 hg w4 hbox hb; have BK441 := Aside0.mk (hbox); have GW441 := Kw_ HB hg; have GE441 := GW441; replace HB := Ks_ HB hb; clear hb hbox hg))
  go_loopg [7, 8] k (fun kq v7 v8 w' => ∃ (x7_1 : List (S38)) (x8_1 : Int), v8 = .int .i64 x8_1 ∧ Aside0 (tenementref08_Of.l0 kq a1 a2 x7_1 x8_1 a0_0 a0_1 a0_2 a0_3 a0_4 l0_5 = some r) ∧ Aside0 (kq ≤ k) ∧ Aside0 (Kd.R k38 38 w' w.heap.size (fun _ => True) v7 x7_1) ∧ Aside0 (w'.heap[gb441]? = some (.cells #[.int .u64 a0_0, .int .u64 a0_1, .int .u64 a0_2, .int .u64 a0_3, .int .i64 a0_4, (.slice A0_5 l0_5.length c0_5)] 52 (0, 0))) ∧ Aside0 (Below w.heap.size w w'))
  case atStart => exact ⟨(([] : List (S38))), (0), (by first | rfl | (simp; done) | (simp [*]; done)), H', ⟨Nat.le_refl _⟩, ⟨by first | exact Kd.R_nil _ _ _ _ _ | exact Kd.N_nil _ _ _ _ _ | exact Kd.V_nil _ _ _ _ _ | exact Kd.Q_nil _ _ _ _ _ | exact Kd.S_nil _ _ _ _ _⟩, ⟨by (with_reducible repeat (first | refine blk_drewN ?_ _ | refine blk_drew ?_ | refine blk_alloc ?_ _)); exact BK441.out⟩, ⟨Kz_ HB GE441⟩⟩
  case round =>
    clear H'
    try clear c2
    try clear p2
    obtain ⟨x7_1, x8_1, rfl, HA, HK1, HO_7, BK441, HB⟩ := hrel
    cases gk with
    | zero => exact absurd HA.out (by simp [tenementref08_Of.l0])
    | succ k1 =>
      have H := HA.out
      clear HA
      simp only [tenementref08_Of.l0] at H
      by_cases c5 : x8_1 < (l0_5.length : Int)
      rotate_left
      · rw [if_neg c5] at H
        have c5b0 : decide (x8_1 < (l0_5.length : Int)) = false := decide_eq_false c5
        clear c5
        obtain rfl := Option.some.inj H
        have hcz18_0 : wr.cell? ⟨gb441, 0, none⟩ = some (.int .u64 a0_0) := (blk_cell BK441.out 0).trans rfl
        have hcz18_1 : wr.cell? ⟨gb441, 1, none⟩ = some (.int .u64 a0_1) := (blk_cell BK441.out 1).trans rfl
        have hcz18_2 : wr.cell? ⟨gb441, 2, none⟩ = some (.int .u64 a0_2) := (blk_cell BK441.out 2).trans rfl
        have hcz18_3 : wr.cell? ⟨gb441, 3, none⟩ = some (.int .u64 a0_3) := (blk_cell BK441.out 3).trans rfl
        have hcz18_4 : wr.cell? ⟨gb441, 4, none⟩ = some (.int .i64 a0_4) := (blk_cell BK441.out 4).trans rfl
        have hcz18_5 : wr.cell? ⟨gb441, 5, none⟩ = some (.slice A0_5 l0_5.length c0_5) := (blk_cell BK441.out 5).trans rfl
        have hfz18_0 := blk_frozen BK441.out 0
        have hfz18_1 := blk_frozen BK441.out 1
        have hfz18_2 := blk_frozen BK441.out 2
        have hfz18_3 := blk_frozen BK441.out 3
        have hfz18_4 := blk_frozen BK441.out 4
        have hfz18_5 := blk_frozen BK441.out 5
        go_wp2
        go_ret
        exact ⟨_, by first | rfl | (simp [errW_none, errW_some] <;> rfl) | (simp [*, errW_none, errW_some] <;> rfl), by (with_reducible repeat (first | apply Kd.R_alloc | apply Kd.R_drewN | apply Kd.R_drew)); exact HO_7.out, Kz_ HB GE441⟩
      rw [if_pos c5] at H
      have c5b0 : decide (x8_1 < (l0_5.length : Int)) = true := decide_eq_true c5
      clear c5
      by_cases c6 : 0 ≤ x8_1
      rotate_left
      · rw [if_neg c6] at H
        exact absurd H (by simp)
      rw [if_pos c6] at H
      have c6b0 : decide (0 ≤ x8_1) = true := decide_eq_true c6
      clear c6
      replace H := Option.bind_eq_some_iff.mp H
      obtain ⟨t444, A70, H⟩ := H
      replace H : (if t444 = a1 then (if x7_1.length < 2513169434916 then (tenementref08_Of.l0 k1 a1 a2 (x7_1 ++ [(⟨(rd_T38 l0_5 x8_1).f0, (rd_T38 l0_5 x8_1).f1, (rd_T38 l0_5 x8_1).f2, (rd_T38 l0_5 x8_1).f3⟩ : S38)]) (wrap64 (x8_1 + 1)) a0_0 a0_1 a0_2 a0_3 a0_4 l0_5) else (none)) else (tenementref08_Of.l0 k1 a1 a2 x7_1 (wrap64 (x8_1 + 1)) a0_0 a0_1 a0_2 a0_3 a0_4 l0_5)) = some r := H
      have A7 := Aside0.mk A70
      clear A70
      by_cases c8 : t444 = a1
      rotate_left
      · rw [if_neg c8] at H
        have c8b0 : (t444 == a1) = false := beq_eq_false_iff_ne.mpr c8
        have c8b1 : (t444 != a1) = true := bne_iff_ne.mpr c8
        have H' := Aside0.mk H
        clear H
        have hcz15_0 : wr.cell? ⟨gb441, 0, none⟩ = some (.int .u64 a0_0) := (blk_cell BK441.out 0).trans rfl
        have hcz15_1 : wr.cell? ⟨gb441, 1, none⟩ = some (.int .u64 a0_1) := (blk_cell BK441.out 1).trans rfl
        have hcz15_2 : wr.cell? ⟨gb441, 2, none⟩ = some (.int .u64 a0_2) := (blk_cell BK441.out 2).trans rfl
        have hcz15_3 : wr.cell? ⟨gb441, 3, none⟩ = some (.int .u64 a0_3) := (blk_cell BK441.out 3).trans rfl
        have hcz15_4 : wr.cell? ⟨gb441, 4, none⟩ = some (.int .i64 a0_4) := (blk_cell BK441.out 4).trans rfl
        have hcz15_5 : wr.cell? ⟨gb441, 5, none⟩ = some (.slice A0_5 l0_5.length c0_5) := (blk_cell BK441.out 5).trans rfl
        have hfz15_0 := blk_frozen BK441.out 0
        have hfz15_1 := blk_frozen BK441.out 1
        have hfz15_2 := blk_frozen BK441.out 2
        have hfz15_3 := blk_frozen BK441.out 3
        have hfz15_4 := blk_frozen BK441.out 4
        have hfz15_5 := blk_frozen BK441.out 5
        try go_wp2
        replace HO_7 := Aside0.mk (Kd.R_drew HO_7.out)
        replace BK441 := Kd_ BK441
        replace HB := Aside0.mk (below_drew1 HB.out)
        have p442 : 0 ≤ (x8_1 : Int) := of_decide_eq_true (by first | (with_reducible assumption) | assumption)
        have q442 : x8_1 < (l0_5.length : Int) := of_decide_eq_true (by first | (with_reducible assumption) | assumption)
        obtain ⟨ad442, e442, hx442_0, hx442_1, hx442_2, hx442_3⟩ := at_T38 HR0_5.out x8_1 p442 q442
        have hw442_3 := hx442_3
        have hw442_2 := hx442_2
        have hw442_1 := hx442_1
        have hw442_0 := hx442_0
        cases e442
        replace hx442_0 := (HB.out.cell (World.block_lt_of_cell? w _ hx442_0)).trans hx442_0
        replace hx442_1 := (HB.out.cell (World.block_lt_of_cell? w _ hx442_1)).trans hx442_1
        replace hx442_2 := (HB.out.cell (World.block_lt_of_cell? w _ hx442_2)).trans hx442_2
        replace hx442_3 := (HB.out.cell (World.block_lt_of_cell? w _ hx442_3)).trans hx442_3
        replace p442 := eq_true p442
        replace q442 := eq_true q442
        have p443 : 0 ≤ (x8_1 : Int) := of_decide_eq_true (by first | (with_reducible assumption) | assumption)
        have q443 : x8_1 < (l0_5.length : Int) := of_decide_eq_true (by first | (with_reducible assumption) | assumption)
        obtain ⟨ad443, e443, hx443_0, hx443_1, hx443_2, hx443_3⟩ := at_T38 HR0_5.out x8_1 p443 q443
        have hw443_3 := hx443_3
        have hw443_2 := hx443_2
        have hw443_1 := hx443_1
        have hw443_0 := hx443_0
        obtain rfl : ad442 = ad443 := (by injection e443)
        replace hx443_0 := (HB.out.cell (World.block_lt_of_cell? w _ hx443_0)).trans hx443_0
        replace hx443_1 := (HB.out.cell (World.block_lt_of_cell? w _ hx443_1)).trans hx443_1
        replace hx443_2 := (HB.out.cell (World.block_lt_of_cell? w _ hx443_2)).trans hx443_2
        replace hx443_3 := (HB.out.cell (World.block_lt_of_cell? w _ hx443_3)).trans hx443_3
        replace p443 := eq_true p443
        replace q443 := eq_true q443
        refine start_ (n := 16) (S := fun w' => w'.cell? ⟨gb441, 0, none⟩ = some (.int .u64 a0_0) ∧ w'.cell? ⟨gb441, 1, none⟩ = some (.int .u64 a0_1) ∧ w'.cell? ⟨gb441, 2, none⟩ = some (.int .u64 a0_2) ∧ w'.cell? ⟨gb441, 3, none⟩ = some (.int .u64 a0_3) ∧ w'.cell? ⟨gb441, 4, none⟩ = some (.int .i64 a0_4) ∧ w'.cell? ⟨gb441, 5, none⟩ = some (.slice (some ad442) l0_5.length c0_5) ∧ w'.cell? (ad442.add ((x8_1).toNat * 4)) = some (.string ((rd_T38 l0_5 x8_1).f0)) ∧ w'.cell? ⟨(ad442.add ((x8_1).toNat * 4)).block, (ad442.add ((x8_1).toNat * 4)).off + 1, none⟩ = some (.string ((rd_T38 l0_5 x8_1).f1)) ∧ w'.cell? ⟨(ad442.add ((x8_1).toNat * 4)).block, (ad442.add ((x8_1).toNat * 4)).off + 2, none⟩ = some (.string ((rd_T38 l0_5 x8_1).f2)) ∧ w'.cell? ⟨(ad442.add ((x8_1).toNat * 4)).block, (ad442.add ((x8_1).toNat * 4)).off + 3, none⟩ = some (.bool ((rd_T38 l0_5 x8_1).f3)) ∧ w'.cell? (ad442.add ((x8_1).toNat * 4)) = some (.string ((rd_T38 l0_5 x8_1).f0)) ∧ w'.cell? ⟨(ad442.add ((x8_1).toNat * 4)).block, (ad442.add ((x8_1).toNat * 4)).off + 1, none⟩ = some (.string ((rd_T38 l0_5 x8_1).f1)) ∧ w'.cell? ⟨(ad442.add ((x8_1).toNat * 4)).block, (ad442.add ((x8_1).toNat * 4)).off + 2, none⟩ = some (.string ((rd_T38 l0_5 x8_1).f2)) ∧ w'.cell? ⟨(ad442.add ((x8_1).toNat * 4)).block, (ad442.add ((x8_1).toNat * 4)).off + 3, none⟩ = some (.bool ((rd_T38 l0_5 x8_1).f3))) (ds := []) #[false, false, false, false, false, false, false, false, false, false, false, false, false, false, false, false] (by kernel_rfl) rfl rfl ⟨(blk_cell BK441.out 0).trans rfl, (blk_cell BK441.out 1).trans rfl, (blk_cell BK441.out 2).trans rfl, (blk_cell BK441.out 3).trans rfl, (blk_cell BK441.out 4).trans rfl, (blk_cell BK441.out 5).trans rfl, ((HB.out.cell (World.block_lt_of_cell? w _ hw442_0)).trans hw442_0), ((HB.out.cell (World.block_lt_of_cell? w _ hw442_1)).trans hw442_1), ((HB.out.cell (World.block_lt_of_cell? w _ hw442_2)).trans hw442_2), ((HB.out.cell (World.block_lt_of_cell? w _ hw442_3)).trans hw442_3), ((HB.out.cell (World.block_lt_of_cell? w _ hw443_0)).trans hw443_0), ((HB.out.cell (World.block_lt_of_cell? w _ hw443_1)).trans hw443_1), ((HB.out.cell (World.block_lt_of_cell? w _ hw443_2)).trans hw443_2), ((HB.out.cell (World.block_lt_of_cell? w _ hw443_3)).trans hw443_3)⟩ (fun hHeld => ?_); refine with_tabW tenementref08_Of.tab5 tenementref08_Of.bits5 (fun HT_ HW_ => ?_)
        generalize wr.drew = w16 at HO_7 BK441 HB hx442_0 hx442_1 hx442_2 hx442_3 hx443_0 hx443_1 hx443_2 hx443_3 hHeld ⊢
        refine pure_ (i := 0) (N := some 16) (v := ?_) (a' := ?_) #[true, false, false, false, false, false, false, false, false, false, false, false, false, false, false, false] rfl rfl (any_of HT_.out (by kernel_rfl)) (fun _ _ _ h => h) (Or.inl ⟨by rfl, ?_⟩) ?_ ?_
        rotate_left
        · intro w'
          go_simp
          with_reducible rfl
        rotate_left
        · simp only [Act.put, List.setIfInBounds_toArray, List.set_cons_zero, List.set_cons_succ, i64_w, i32_w]
          rfl
        refine pure_ (i := 2) (N := some 18) (v := ?_) (a' := ?_) #[true, false, true, false, false, false, false, false, false, false, false, false, false, false, false, false] rfl rfl (any_of HT_.out (by kernel_rfl)) (fun _ _ _ h => h) (Or.inl ⟨by rfl, ?_⟩) ?_ ?_
        rotate_left
        · intro w'
          go_simp
          with_reducible rfl
        rotate_left
        · simp only [Act.put, List.setIfInBounds_toArray, List.set_cons_zero, List.set_cons_succ, i64_w, i32_w]
          rfl
        refine pure_ (i := 6) (N := some 22) (v := ?_) (a' := ?_) #[true, false, true, false, false, false, true, false, false, false, false, false, false, false, false, false] rfl rfl (any_of HT_.out (by kernel_rfl)) (fun _ _ _ h => h) (Or.inl ⟨by rfl, ?_⟩) ?_ ?_
        rotate_left
        · intro w'
          go_simp
          with_reducible rfl
        rotate_left
        · simp only [Act.put, List.setIfInBounds_toArray, List.set_cons_zero, List.set_cons_succ, i64_w, i32_w]
          rfl
        refine pure_ (i := 8) (N := some 24) (v := ?_) (a' := ?_) #[true, false, true, false, false, false, true, false, true, false, false, false, false, false, false, false] rfl rfl (any_of HT_.out (by kernel_rfl)) (fun _ _ _ h => h) (Or.inl ⟨by rfl, ?_⟩) ?_ ?_
        rotate_left
        · intro w'
          go_simp
          with_reducible rfl
        rotate_left
        · simp only [Act.put, List.setIfInBounds_toArray, List.set_cons_zero, List.set_cons_succ, i64_w, i32_w]
          rfl
        refine pure_ (i := 12) (N := some 28) (v := ?_) (a' := ?_) #[true, false, true, false, false, false, true, false, true, false, false, false, true, false, false, false] rfl rfl (any_of HT_.out (by kernel_rfl)) (fun _ _ _ h => h) (Or.inl ⟨by rfl, ?_⟩) ?_ ?_
        rotate_left
        · intro w'
          go_simp
          with_reducible rfl
        rotate_left
        · simp only [Act.put, List.setIfInBounds_toArray, List.set_cons_zero, List.set_cons_succ, i64_w, i32_w]
          rfl
        refine pure_ (i := 14) (N := some 30) (v := ?_) (a' := ?_) #[true, false, true, false, false, false, true, false, true, false, false, false, true, false, true, false] rfl rfl (any_of HT_.out (by kernel_rfl)) (fun _ _ _ h => h) (Or.inl ⟨by rfl, ?_⟩) ?_ ?_
        rotate_left
        · intro w'
          go_simp
          with_reducible rfl
        rotate_left
        · simp only [Act.put, List.setIfInBounds_toArray, List.set_cons_zero, List.set_cons_succ, i64_w, i32_w]
          rfl
        refine take_ (i := 1) (N := some 17) (v := ?_) (a' := ?_) #[true, true, true, false, false, false, true, false, true, false, false, false, true, false, true, false] rfl rfl (take_ofW HT_.out HW_.out (by kernel_rfl)) (fun _ _ _ h => h) (Or.inl ⟨by rfl, ?_⟩) hHeld ?_ ?_
        rotate_left
        · rintro w' ⟨s0, s1, s2, s3, s4, s5, s6, s7, s8, s9, s10, s11, s12, s13⟩
          go_simp
          with_reducible rfl
        rotate_left
        · simp only [Act.put, List.setIfInBounds_toArray, List.set_cons_zero, List.set_cons_succ, i64_w, i32_w]
          rfl
        refine pure_ (i := 3) (N := some 19) (v := ?_) (a' := ?_) #[true, true, true, true, false, false, true, false, true, false, false, false, true, false, true, false] rfl rfl (any_of HT_.out (by kernel_rfl)) (fun _ _ _ h => h) (Or.inl ⟨by rfl, ?_⟩) ?_ ?_
        rotate_left
        · intro w'
          go_simp
          with_reducible rfl
        rotate_left
        · simp only [Act.put, List.setIfInBounds_toArray, List.set_cons_zero, List.set_cons_succ, i64_w, i32_w]
          rfl
        refine pure_ (i := 4) (N := some 20) (v := ?_) (a' := ?_) #[true, true, true, true, true, false, true, false, true, false, false, false, true, false, true, false] rfl rfl (any_of HT_.out (by kernel_rfl)) (fun _ _ _ h => h) (Or.inl ⟨by rfl, ?_⟩) ?_ ?_
        rotate_left
        · intro w'
          go_simp
          with_reducible rfl
        rotate_left
        · simp only [Act.put, List.setIfInBounds_toArray, List.set_cons_zero, List.set_cons_succ, i64_w, i32_w]
          rfl
        refine take_ (i := 5) (N := some 21) (v := ?_) (a' := ?_) #[true, true, true, true, true, true, true, false, true, false, false, false, true, false, true, false] rfl rfl (take_ofW HT_.out HW_.out (by kernel_rfl)) (fun _ _ _ h => h) (Or.inl ⟨by rfl, ?_⟩) hHeld ?_ ?_
        rotate_left
        · rintro w' ⟨s0, s1, s2, s3, s4, s5, s6, s7, s8, s9, s10, s11, s12, s13⟩
          go_simp
          with_reducible rfl
        rotate_left
        · simp only [Act.put, List.setIfInBounds_toArray, List.set_cons_zero, List.set_cons_succ, i64_w, i32_w]
          rfl
        refine take_ (i := 7) (N := some 23) (v := ?_) (a' := ?_) #[true, true, true, true, true, true, true, true, true, false, false, false, true, false, true, false] rfl rfl (take_ofW HT_.out HW_.out (by kernel_rfl)) (fun _ _ _ h => h) (Or.inl ⟨by rfl, ?_⟩) hHeld ?_ ?_
        rotate_left
        · rintro w' ⟨s0, s1, s2, s3, s4, s5, s6, s7, s8, s9, s10, s11, s12, s13⟩
          go_simp
          with_reducible rfl
        rotate_left
        · simp only [Act.put, List.setIfInBounds_toArray, List.set_cons_zero, List.set_cons_succ, i64_w, i32_w]
          rfl
        refine pure_ (i := 9) (N := some 25) (v := ?_) (a' := ?_) #[true, true, true, true, true, true, true, true, true, true, false, false, true, false, true, false] rfl rfl (any_of HT_.out (by kernel_rfl)) (fun _ _ _ h => h) (Or.inl ⟨by rfl, ?_⟩) ?_ ?_
        rotate_left
        · intro w'
          go_simp
          with_reducible rfl
        rotate_left
        · simp only [Act.put, List.setIfInBounds_toArray, List.set_cons_zero, List.set_cons_succ, i64_w, i32_w]
          rfl
        refine pure_ (i := 10) (N := some 26) (v := ?_) (a' := ?_) #[true, true, true, true, true, true, true, true, true, true, true, false, true, false, true, false] rfl rfl (any_of HT_.out (by kernel_rfl)) (fun _ _ _ h => h) (Or.inl ⟨by rfl, ?_⟩) ?_ ?_
        rotate_left
        · intro w'
          go_simp
          with_reducible rfl
        rotate_left
        · simp only [Act.put, List.setIfInBounds_toArray, List.set_cons_zero, List.set_cons_succ, i64_w, i32_w]
          rfl
        refine take_ (i := 11) (N := some 27) (v := ?_) (a' := ?_) #[true, true, true, true, true, true, true, true, true, true, true, true, true, false, true, false] rfl rfl (take_ofW HT_.out HW_.out (by kernel_rfl)) (fun _ _ _ h => h) (Or.inl ⟨by rfl, ?_⟩) hHeld ?_ ?_
        rotate_left
        · rintro w' ⟨s0, s1, s2, s3, s4, s5, s6, s7, s8, s9, s10, s11, s12, s13⟩
          go_simp
          with_reducible rfl
        rotate_left
        · simp only [Act.put, List.setIfInBounds_toArray, List.set_cons_zero, List.set_cons_succ, i64_w, i32_w]
          rfl
        refine one_ (i := 13) (N := some 29) #[true, true, true, true, true, true, true, true, true, true, true, true, true, true, true, false] rfl rfl (one_of HT_.out (by kernel_rfl)) (by decide) (fun K hK => ?_)
        refine goes_ Try.func29 (by kernel_rfl) rfl #[.string ((rd_T38 l0_5 x8_1).f0), .string ((rd_T38 l0_5 x8_1).f1), .int .i64 a2] (by rfl) rfl rfl (by (try simp only [List.map_toArray, List.map_cons, List.map_nil]); first | done | rfl | (simp only [List.length_drop, List.length_take]; rfl)) ?_
        with_reducible refine (tenementref08_Shard.calls k1 ((rd_T38 l0_5 x8_1).f0) ((rd_T38 l0_5 x8_1).f1) a2 t444 _ A7.out).mono ?_
        rintro e w17 ⟨rfl, hb⟩
        refine ⟨_, rfl, ?_⟩
        replace HO_7 := Aside0.mk (Kd.R_below (by (with_reducible repeat (first | apply Kd.R_alloc | apply Kd.R_drewN | apply Kd.R_drew)); exact HO_7.out) hb)
        replace BK441 := Kb_ BK441 hb
        replace HB := Ks_ HB hb
        (try clear hb)
        (try clear hb2)
        (try clear hk)
        (try clear hi)
        refine hK.out _ _ ⟨(blk_cell BK441.out 0).trans rfl, (blk_cell BK441.out 1).trans rfl, (blk_cell BK441.out 2).trans rfl, (blk_cell BK441.out 3).trans rfl, (blk_cell BK441.out 4).trans rfl, (blk_cell BK441.out 5).trans rfl, ((HB.out.cell (World.block_lt_of_cell? w _ hw442_0)).trans hw442_0), ((HB.out.cell (World.block_lt_of_cell? w _ hw442_1)).trans hw442_1), ((HB.out.cell (World.block_lt_of_cell? w _ hw442_2)).trans hw442_2), ((HB.out.cell (World.block_lt_of_cell? w _ hw442_3)).trans hw442_3), ((HB.out.cell (World.block_lt_of_cell? w _ hw443_0)).trans hw443_0), ((HB.out.cell (World.block_lt_of_cell? w _ hw443_1)).trans hw443_1), ((HB.out.cell (World.block_lt_of_cell? w _ hw443_2)).trans hw443_2), ((HB.out.cell (World.block_lt_of_cell? w _ hw443_3)).trans hw443_3)⟩ (fun hHeld => ?_)
        clear hK K
        refine norm_ (a' := ?_) ?_ ?_
        rotate_left
        · show Act.put _ (some 29) _ = _
          simp only [Act.put, List.setIfInBounds_toArray, List.set_cons_zero, List.set_cons_succ, i64_w, i32_w]
          rfl
        refine pure_ (i := 15) (N := some 31) (v := ?_) (a' := ?_) #[true, true, true, true, true, true, true, true, true, true, true, true, true, true, true, true] rfl rfl (any_of HT_.out (by kernel_rfl)) (fun _ _ _ h => h) (Or.inl ⟨by rfl, ?_⟩) ?_ ?_
        rotate_left
        · intro w'
          go_simp
          with_reducible rfl
        rotate_left
        · simp only [Act.put, List.setIfInBounds_toArray, List.set_cons_zero, List.set_cons_succ, i64_w, i32_w]
          rfl
        refine done_ (done_of HT_.out (by kernel_rfl)) ?_
        try go_wp2
        go_roundg k1
        case measure => have := HK1.out; omega
        case rel => exact ⟨(x7_1), (wrap64 (x8_1 + 1)), (by first | rfl | (simp; done) | (simp [*]; done)), H', ⟨by have := HK1.out; omega⟩, ⟨by (with_reducible repeat (first | apply Kd.R_alloc | apply Kd.R_drewN | apply Kd.R_drew)); exact HO_7.out⟩, ⟨by (with_reducible repeat (first | refine blk_drewN ?_ _ | refine blk_drew ?_ | refine blk_alloc ?_ _)); exact BK441.out⟩, ⟨Kz_ HB GE441⟩⟩
      rw [if_pos c8] at H
      have c8b0 : (t444 == a1) = true := beq_iff_eq.mpr c8
      have c8b1 : (t444 != a1) = false := bne_eq_false_iff_eq.mpr c8
      clear c8
      by_cases c9 : x7_1.length < 2513169434916
      rotate_left
      · rw [if_neg c9] at H
        exact absurd H (by simp)
      rw [if_pos c9] at H
      have LMc9 := Aside0.mk c9
      clear c9
      obtain ⟨y446, hy446⟩ : ∃ y_ : List (S38), y_ = (x7_1 ++ [(⟨(rd_T38 l0_5 x8_1).f0, (rd_T38 l0_5 x8_1).f1, (rd_T38 l0_5 x8_1).f2, (rd_T38 l0_5 x8_1).f3⟩ : S38)]) := ⟨_, rfl⟩
      replace H : (tenementref08_Of.l0 k1 a1 a2 y446 (wrap64 (x8_1 + 1)) a0_0 a0_1 a0_2 a0_3 a0_4 l0_5) = some r := by first | (rw [hy446]; with_reducible exact H) | (have H2_ := (Option.bind_some _ _).symm.trans H; rw [hy446]; with_reducible exact H2_) | (have H2_ := (Option.bind_some _ _).symm.trans H; with_reducible exact H2_) | with_reducible exact H | (rw [hy446]; exact H) | exact H
      have Ny446 := Aside0.mk hy446
      clear hy446
      have H' := Aside0.mk H
      clear H
      have hcz10_0 : wr.cell? ⟨gb441, 0, none⟩ = some (.int .u64 a0_0) := (blk_cell BK441.out 0).trans rfl
      have hcz10_1 : wr.cell? ⟨gb441, 1, none⟩ = some (.int .u64 a0_1) := (blk_cell BK441.out 1).trans rfl
      have hcz10_2 : wr.cell? ⟨gb441, 2, none⟩ = some (.int .u64 a0_2) := (blk_cell BK441.out 2).trans rfl
      have hcz10_3 : wr.cell? ⟨gb441, 3, none⟩ = some (.int .u64 a0_3) := (blk_cell BK441.out 3).trans rfl
      have hcz10_4 : wr.cell? ⟨gb441, 4, none⟩ = some (.int .i64 a0_4) := (blk_cell BK441.out 4).trans rfl
      have hcz10_5 : wr.cell? ⟨gb441, 5, none⟩ = some (.slice A0_5 l0_5.length c0_5) := (blk_cell BK441.out 5).trans rfl
      have hfz10_0 := blk_frozen BK441.out 0
      have hfz10_1 := blk_frozen BK441.out 1
      have hfz10_2 := blk_frozen BK441.out 2
      have hfz10_3 := blk_frozen BK441.out 3
      have hfz10_4 := blk_frozen BK441.out 4
      have hfz10_5 := blk_frozen BK441.out 5
      try go_wp2
      replace HO_7 := Aside0.mk (Kd.R_drew HO_7.out)
      replace BK441 := Kd_ BK441
      replace HB := Aside0.mk (below_drew1 HB.out)
      have p442 : 0 ≤ (x8_1 : Int) := of_decide_eq_true (by first | (with_reducible assumption) | assumption)
      have q442 : x8_1 < (l0_5.length : Int) := of_decide_eq_true (by first | (with_reducible assumption) | assumption)
      obtain ⟨ad442, e442, hx442_0, hx442_1, hx442_2, hx442_3⟩ := at_T38 HR0_5.out x8_1 p442 q442
      have hw442_3 := hx442_3
      have hw442_2 := hx442_2
      have hw442_1 := hx442_1
      have hw442_0 := hx442_0
      cases e442
      replace hx442_0 := (HB.out.cell (World.block_lt_of_cell? w _ hx442_0)).trans hx442_0
      replace hx442_1 := (HB.out.cell (World.block_lt_of_cell? w _ hx442_1)).trans hx442_1
      replace hx442_2 := (HB.out.cell (World.block_lt_of_cell? w _ hx442_2)).trans hx442_2
      replace hx442_3 := (HB.out.cell (World.block_lt_of_cell? w _ hx442_3)).trans hx442_3
      replace p442 := eq_true p442
      replace q442 := eq_true q442
      have p443 : 0 ≤ (x8_1 : Int) := of_decide_eq_true (by first | (with_reducible assumption) | assumption)
      have q443 : x8_1 < (l0_5.length : Int) := of_decide_eq_true (by first | (with_reducible assumption) | assumption)
      obtain ⟨ad443, e443, hx443_0, hx443_1, hx443_2, hx443_3⟩ := at_T38 HR0_5.out x8_1 p443 q443
      have hw443_3 := hx443_3
      have hw443_2 := hx443_2
      have hw443_1 := hx443_1
      have hw443_0 := hx443_0
      obtain rfl : ad442 = ad443 := (by injection e443)
      replace hx443_0 := (HB.out.cell (World.block_lt_of_cell? w _ hx443_0)).trans hx443_0
      replace hx443_1 := (HB.out.cell (World.block_lt_of_cell? w _ hx443_1)).trans hx443_1
      replace hx443_2 := (HB.out.cell (World.block_lt_of_cell? w _ hx443_2)).trans hx443_2
      replace hx443_3 := (HB.out.cell (World.block_lt_of_cell? w _ hx443_3)).trans hx443_3
      replace p443 := eq_true p443
      replace q443 := eq_true q443
      refine start_ (n := 16) (S := fun w' => w'.cell? ⟨gb441, 0, none⟩ = some (.int .u64 a0_0) ∧ w'.cell? ⟨gb441, 1, none⟩ = some (.int .u64 a0_1) ∧ w'.cell? ⟨gb441, 2, none⟩ = some (.int .u64 a0_2) ∧ w'.cell? ⟨gb441, 3, none⟩ = some (.int .u64 a0_3) ∧ w'.cell? ⟨gb441, 4, none⟩ = some (.int .i64 a0_4) ∧ w'.cell? ⟨gb441, 5, none⟩ = some (.slice (some ad442) l0_5.length c0_5) ∧ w'.cell? (ad442.add ((x8_1).toNat * 4)) = some (.string ((rd_T38 l0_5 x8_1).f0)) ∧ w'.cell? ⟨(ad442.add ((x8_1).toNat * 4)).block, (ad442.add ((x8_1).toNat * 4)).off + 1, none⟩ = some (.string ((rd_T38 l0_5 x8_1).f1)) ∧ w'.cell? ⟨(ad442.add ((x8_1).toNat * 4)).block, (ad442.add ((x8_1).toNat * 4)).off + 2, none⟩ = some (.string ((rd_T38 l0_5 x8_1).f2)) ∧ w'.cell? ⟨(ad442.add ((x8_1).toNat * 4)).block, (ad442.add ((x8_1).toNat * 4)).off + 3, none⟩ = some (.bool ((rd_T38 l0_5 x8_1).f3)) ∧ w'.cell? (ad442.add ((x8_1).toNat * 4)) = some (.string ((rd_T38 l0_5 x8_1).f0)) ∧ w'.cell? ⟨(ad442.add ((x8_1).toNat * 4)).block, (ad442.add ((x8_1).toNat * 4)).off + 1, none⟩ = some (.string ((rd_T38 l0_5 x8_1).f1)) ∧ w'.cell? ⟨(ad442.add ((x8_1).toNat * 4)).block, (ad442.add ((x8_1).toNat * 4)).off + 2, none⟩ = some (.string ((rd_T38 l0_5 x8_1).f2)) ∧ w'.cell? ⟨(ad442.add ((x8_1).toNat * 4)).block, (ad442.add ((x8_1).toNat * 4)).off + 3, none⟩ = some (.bool ((rd_T38 l0_5 x8_1).f3))) (ds := []) #[false, false, false, false, false, false, false, false, false, false, false, false, false, false, false, false] (by kernel_rfl) rfl rfl ⟨(blk_cell BK441.out 0).trans rfl, (blk_cell BK441.out 1).trans rfl, (blk_cell BK441.out 2).trans rfl, (blk_cell BK441.out 3).trans rfl, (blk_cell BK441.out 4).trans rfl, (blk_cell BK441.out 5).trans rfl, ((HB.out.cell (World.block_lt_of_cell? w _ hw442_0)).trans hw442_0), ((HB.out.cell (World.block_lt_of_cell? w _ hw442_1)).trans hw442_1), ((HB.out.cell (World.block_lt_of_cell? w _ hw442_2)).trans hw442_2), ((HB.out.cell (World.block_lt_of_cell? w _ hw442_3)).trans hw442_3), ((HB.out.cell (World.block_lt_of_cell? w _ hw443_0)).trans hw443_0), ((HB.out.cell (World.block_lt_of_cell? w _ hw443_1)).trans hw443_1), ((HB.out.cell (World.block_lt_of_cell? w _ hw443_2)).trans hw443_2), ((HB.out.cell (World.block_lt_of_cell? w _ hw443_3)).trans hw443_3)⟩ (fun hHeld => ?_); refine with_tabW tenementref08_Of.tab5 tenementref08_Of.bits5 (fun HT_ HW_ => ?_)
      generalize wr.drew = w11 at HO_7 BK441 HB hx442_0 hx442_1 hx442_2 hx442_3 hx443_0 hx443_1 hx443_2 hx443_3 hHeld ⊢
      refine pure_ (i := 0) (N := some 16) (v := ?_) (a' := ?_) #[true, false, false, false, false, false, false, false, false, false, false, false, false, false, false, false] rfl rfl (any_of HT_.out (by kernel_rfl)) (fun _ _ _ h => h) (Or.inl ⟨by rfl, ?_⟩) ?_ ?_
      rotate_left
      · intro w'
        go_simp
        with_reducible rfl
      rotate_left
      · simp only [Act.put, List.setIfInBounds_toArray, List.set_cons_zero, List.set_cons_succ, i64_w, i32_w]
        rfl
      refine pure_ (i := 2) (N := some 18) (v := ?_) (a' := ?_) #[true, false, true, false, false, false, false, false, false, false, false, false, false, false, false, false] rfl rfl (any_of HT_.out (by kernel_rfl)) (fun _ _ _ h => h) (Or.inl ⟨by rfl, ?_⟩) ?_ ?_
      rotate_left
      · intro w'
        go_simp
        with_reducible rfl
      rotate_left
      · simp only [Act.put, List.setIfInBounds_toArray, List.set_cons_zero, List.set_cons_succ, i64_w, i32_w]
        rfl
      refine pure_ (i := 6) (N := some 22) (v := ?_) (a' := ?_) #[true, false, true, false, false, false, true, false, false, false, false, false, false, false, false, false] rfl rfl (any_of HT_.out (by kernel_rfl)) (fun _ _ _ h => h) (Or.inl ⟨by rfl, ?_⟩) ?_ ?_
      rotate_left
      · intro w'
        go_simp
        with_reducible rfl
      rotate_left
      · simp only [Act.put, List.setIfInBounds_toArray, List.set_cons_zero, List.set_cons_succ, i64_w, i32_w]
        rfl
      refine pure_ (i := 8) (N := some 24) (v := ?_) (a' := ?_) #[true, false, true, false, false, false, true, false, true, false, false, false, false, false, false, false] rfl rfl (any_of HT_.out (by kernel_rfl)) (fun _ _ _ h => h) (Or.inl ⟨by rfl, ?_⟩) ?_ ?_
      rotate_left
      · intro w'
        go_simp
        with_reducible rfl
      rotate_left
      · simp only [Act.put, List.setIfInBounds_toArray, List.set_cons_zero, List.set_cons_succ, i64_w, i32_w]
        rfl
      refine pure_ (i := 12) (N := some 28) (v := ?_) (a' := ?_) #[true, false, true, false, false, false, true, false, true, false, false, false, true, false, false, false] rfl rfl (any_of HT_.out (by kernel_rfl)) (fun _ _ _ h => h) (Or.inl ⟨by rfl, ?_⟩) ?_ ?_
      rotate_left
      · intro w'
        go_simp
        with_reducible rfl
      rotate_left
      · simp only [Act.put, List.setIfInBounds_toArray, List.set_cons_zero, List.set_cons_succ, i64_w, i32_w]
        rfl
      refine pure_ (i := 14) (N := some 30) (v := ?_) (a' := ?_) #[true, false, true, false, false, false, true, false, true, false, false, false, true, false, true, false] rfl rfl (any_of HT_.out (by kernel_rfl)) (fun _ _ _ h => h) (Or.inl ⟨by rfl, ?_⟩) ?_ ?_
      rotate_left
      · intro w'
        go_simp
        with_reducible rfl
      rotate_left
      · simp only [Act.put, List.setIfInBounds_toArray, List.set_cons_zero, List.set_cons_succ, i64_w, i32_w]
        rfl
      refine take_ (i := 1) (N := some 17) (v := ?_) (a' := ?_) #[true, true, true, false, false, false, true, false, true, false, false, false, true, false, true, false] rfl rfl (take_ofW HT_.out HW_.out (by kernel_rfl)) (fun _ _ _ h => h) (Or.inl ⟨by rfl, ?_⟩) hHeld ?_ ?_
      rotate_left
      · rintro w' ⟨s0, s1, s2, s3, s4, s5, s6, s7, s8, s9, s10, s11, s12, s13⟩
        go_simp
        with_reducible rfl
      rotate_left
      · simp only [Act.put, List.setIfInBounds_toArray, List.set_cons_zero, List.set_cons_succ, i64_w, i32_w]
        rfl
      refine pure_ (i := 3) (N := some 19) (v := ?_) (a' := ?_) #[true, true, true, true, false, false, true, false, true, false, false, false, true, false, true, false] rfl rfl (any_of HT_.out (by kernel_rfl)) (fun _ _ _ h => h) (Or.inl ⟨by rfl, ?_⟩) ?_ ?_
      rotate_left
      · intro w'
        go_simp
        with_reducible rfl
      rotate_left
      · simp only [Act.put, List.setIfInBounds_toArray, List.set_cons_zero, List.set_cons_succ, i64_w, i32_w]
        rfl
      refine pure_ (i := 4) (N := some 20) (v := ?_) (a' := ?_) #[true, true, true, true, true, false, true, false, true, false, false, false, true, false, true, false] rfl rfl (any_of HT_.out (by kernel_rfl)) (fun _ _ _ h => h) (Or.inl ⟨by rfl, ?_⟩) ?_ ?_
      rotate_left
      · intro w'
        go_simp
        with_reducible rfl
      rotate_left
      · simp only [Act.put, List.setIfInBounds_toArray, List.set_cons_zero, List.set_cons_succ, i64_w, i32_w]
        rfl
      refine take_ (i := 5) (N := some 21) (v := ?_) (a' := ?_) #[true, true, true, true, true, true, true, false, true, false, false, false, true, false, true, false] rfl rfl (take_ofW HT_.out HW_.out (by kernel_rfl)) (fun _ _ _ h => h) (Or.inl ⟨by rfl, ?_⟩) hHeld ?_ ?_
      rotate_left
      · rintro w' ⟨s0, s1, s2, s3, s4, s5, s6, s7, s8, s9, s10, s11, s12, s13⟩
        go_simp
        with_reducible rfl
      rotate_left
      · simp only [Act.put, List.setIfInBounds_toArray, List.set_cons_zero, List.set_cons_succ, i64_w, i32_w]
        rfl
      refine take_ (i := 7) (N := some 23) (v := ?_) (a' := ?_) #[true, true, true, true, true, true, true, true, true, false, false, false, true, false, true, false] rfl rfl (take_ofW HT_.out HW_.out (by kernel_rfl)) (fun _ _ _ h => h) (Or.inl ⟨by rfl, ?_⟩) hHeld ?_ ?_
      rotate_left
      · rintro w' ⟨s0, s1, s2, s3, s4, s5, s6, s7, s8, s9, s10, s11, s12, s13⟩
        go_simp
        with_reducible rfl
      rotate_left
      · simp only [Act.put, List.setIfInBounds_toArray, List.set_cons_zero, List.set_cons_succ, i64_w, i32_w]
        rfl
      refine pure_ (i := 9) (N := some 25) (v := ?_) (a' := ?_) #[true, true, true, true, true, true, true, true, true, true, false, false, true, false, true, false] rfl rfl (any_of HT_.out (by kernel_rfl)) (fun _ _ _ h => h) (Or.inl ⟨by rfl, ?_⟩) ?_ ?_
      rotate_left
      · intro w'
        go_simp
        with_reducible rfl
      rotate_left
      · simp only [Act.put, List.setIfInBounds_toArray, List.set_cons_zero, List.set_cons_succ, i64_w, i32_w]
        rfl
      refine pure_ (i := 10) (N := some 26) (v := ?_) (a' := ?_) #[true, true, true, true, true, true, true, true, true, true, true, false, true, false, true, false] rfl rfl (any_of HT_.out (by kernel_rfl)) (fun _ _ _ h => h) (Or.inl ⟨by rfl, ?_⟩) ?_ ?_
      rotate_left
      · intro w'
        go_simp
        with_reducible rfl
      rotate_left
      · simp only [Act.put, List.setIfInBounds_toArray, List.set_cons_zero, List.set_cons_succ, i64_w, i32_w]
        rfl
      refine take_ (i := 11) (N := some 27) (v := ?_) (a' := ?_) #[true, true, true, true, true, true, true, true, true, true, true, true, true, false, true, false] rfl rfl (take_ofW HT_.out HW_.out (by kernel_rfl)) (fun _ _ _ h => h) (Or.inl ⟨by rfl, ?_⟩) hHeld ?_ ?_
      rotate_left
      · rintro w' ⟨s0, s1, s2, s3, s4, s5, s6, s7, s8, s9, s10, s11, s12, s13⟩
        go_simp
        with_reducible rfl
      rotate_left
      · simp only [Act.put, List.setIfInBounds_toArray, List.set_cons_zero, List.set_cons_succ, i64_w, i32_w]
        rfl
      refine one_ (i := 13) (N := some 29) #[true, true, true, true, true, true, true, true, true, true, true, true, true, true, true, false] rfl rfl (one_of HT_.out (by kernel_rfl)) (by decide) (fun K hK => ?_)
      refine goes_ Try.func29 (by kernel_rfl) rfl #[.string ((rd_T38 l0_5 x8_1).f0), .string ((rd_T38 l0_5 x8_1).f1), .int .i64 a2] (by rfl) rfl rfl (by (try simp only [List.map_toArray, List.map_cons, List.map_nil]); first | done | rfl | (simp only [List.length_drop, List.length_take]; rfl)) ?_
      with_reducible refine (tenementref08_Shard.calls k1 ((rd_T38 l0_5 x8_1).f0) ((rd_T38 l0_5 x8_1).f1) a2 t444 _ A7.out).mono ?_
      rintro e w12 ⟨rfl, hb⟩
      refine ⟨_, rfl, ?_⟩
      replace HO_7 := Aside0.mk (Kd.R_below (by (with_reducible repeat (first | apply Kd.R_alloc | apply Kd.R_drewN | apply Kd.R_drew)); exact HO_7.out) hb)
      replace BK441 := Kb_ BK441 hb
      replace HB := Ks_ HB hb
      (try clear hb)
      (try clear hb2)
      (try clear hk)
      (try clear hi)
      refine hK.out _ _ ⟨(blk_cell BK441.out 0).trans rfl, (blk_cell BK441.out 1).trans rfl, (blk_cell BK441.out 2).trans rfl, (blk_cell BK441.out 3).trans rfl, (blk_cell BK441.out 4).trans rfl, (blk_cell BK441.out 5).trans rfl, ((HB.out.cell (World.block_lt_of_cell? w _ hw442_0)).trans hw442_0), ((HB.out.cell (World.block_lt_of_cell? w _ hw442_1)).trans hw442_1), ((HB.out.cell (World.block_lt_of_cell? w _ hw442_2)).trans hw442_2), ((HB.out.cell (World.block_lt_of_cell? w _ hw442_3)).trans hw442_3), ((HB.out.cell (World.block_lt_of_cell? w _ hw443_0)).trans hw443_0), ((HB.out.cell (World.block_lt_of_cell? w _ hw443_1)).trans hw443_1), ((HB.out.cell (World.block_lt_of_cell? w _ hw443_2)).trans hw443_2), ((HB.out.cell (World.block_lt_of_cell? w _ hw443_3)).trans hw443_3)⟩ (fun hHeld => ?_)
      clear hK K
      refine norm_ (a' := ?_) ?_ ?_
      rotate_left
      · show Act.put _ (some 29) _ = _
        simp only [Act.put, List.setIfInBounds_toArray, List.set_cons_zero, List.set_cons_succ, i64_w, i32_w]
        rfl
      refine pure_ (i := 15) (N := some 31) (v := ?_) (a' := ?_) #[true, true, true, true, true, true, true, true, true, true, true, true, true, true, true, true] rfl rfl (any_of HT_.out (by kernel_rfl)) (fun _ _ _ h => h) (Or.inl ⟨by rfl, ?_⟩) ?_ ?_
      rotate_left
      · intro w'
        go_simp
        with_reducible rfl
      rotate_left
      · simp only [Act.put, List.setIfInBounds_toArray, List.set_cons_zero, List.set_cons_succ, i64_w, i32_w]
        rfl
      refine done_ (done_of HT_.out (by kernel_rfl)) ?_
      obtain ⟨hcz13_0, hcz13_1, hcz13_2, hcz13_3, hcz13_4, hcz13_5, hfz13_0, hfz13_1, hfz13_2, hfz13_3, hfz13_4, hfz13_5⟩ := Ke6_ BK441.out
      have p445 : 0 ≤ (x8_1 : Int) := of_decide_eq_true (by first | (with_reducible assumption) | assumption)
      have q445 : x8_1 < (l0_5.length : Int) := of_decide_eq_true (by first | (with_reducible assumption) | assumption)
      obtain ⟨ad445, e445, hx445_0, hx445_1, hx445_2, hx445_3⟩ := at_T38 HR0_5.out x8_1 p445 q445
      obtain rfl : ad442 = ad445 := (by injection e445)
      replace hx445_0 := (HB.out.cell (World.block_lt_of_cell? w _ hx445_0)).trans hx445_0
      replace hx445_1 := (HB.out.cell (World.block_lt_of_cell? w _ hx445_1)).trans hx445_1
      replace hx445_2 := (HB.out.cell (World.block_lt_of_cell? w _ hx445_2)).trans hx445_2
      replace hx445_3 := (HB.out.cell (World.block_lt_of_cell? w _ hx445_3)).trans hx445_3
      replace p445 := eq_true p445
      replace q445 := eq_true q445
      try go_wp2_with (first | ((with_reducible refine gate_builtin (b := .append) (xs := #[.tmp 32, .tmp 38]) rfl ?_); at_builtin; refine Kd.R_append k38 (w0 := w) w.heap.size rfl (.tmp 32) (.tmp 38) 39 38 (.agg #[(.string ⟨#[]⟩), (.string ⟨#[]⟩), (.string ⟨#[]⟩), (.bool false)]) 56 rfl Try.underlying39 info38 rfl (by decide) (by omega) u7 x7_1 (⟨(rd_T38 l0_5 x8_1).f0, (rd_T38 l0_5 x8_1).f1, (rd_T38 l0_5 x8_1).f2, (rd_T38 l0_5 x8_1).f3⟩ : S38) [.string ((rd_T38 l0_5 x8_1).f0), .string ((rd_T38 l0_5 x8_1).f1), .string ((rd_T38 l0_5 x8_1).f2), .bool ((rd_T38 l0_5 x8_1).f3)] (fun _ => True) (fun _ => False) rfl rfl ?aP (fun _ hk => hk.elim) ?aF ?aO ?aB ?aS ?aL ?_; (case aP => exact k38_mkM _ _ _ (⟨(rd_T38 l0_5 x8_1).f0, (rd_T38 l0_5 x8_1).f1, (rd_T38 l0_5 x8_1).f2, (rd_T38 l0_5 x8_1).f3⟩ : S38)); (case aB => exact (Kz_ HB GE441)); (case aF => exact (fun _ _ => trivial)); (case aO => exact (by (with_reducible repeat (first | apply Kd.R_alloc | apply Kd.R_drewN | apply Kd.R_drew)); exact HO_7.out)); (case aS => exact (below_size (Kz_ HB GE441))); (case aL => have := LMc9.out; omega); intro v447 w14 ho hb hg hat; rw [← Ny446.out] at ho; have HO448 := Aside0.mk (ho); replace BK441 := Aside0.mk (blk_grown (g := gb441) (o := .cells #[.int .u64 a0_0, .int .u64 a0_1, .int .u64 a0_2, .int .u64 a0_3, .int .i64 a0_4, .slice (some ad442) l0_5.length c0_5] 52 (0, 0)) (Kq_ BK441) hg (Kd.R_ne HO_7.out BK441.out (by decide))); replace HB := Aside0.mk (hb); clear HO_7; clear ho hb hg hat))
      go_roundg k1
      case measure => have := HK1.out; omega
      case rel => exact ⟨(y446), (wrap64 (x8_1 + 1)), (by first | rfl | (simp; done) | (simp [*]; done)), H', ⟨by have := HK1.out; omega⟩, ⟨by (with_reducible repeat (first | apply Kd.R_alloc | apply Kd.R_drewN | apply Kd.R_drew)); exact HO448.out⟩, ⟨by (with_reducible repeat (first | refine blk_drewN ?_ _ | refine blk_drew ?_ | refine blk_alloc ?_ _)); exact BK441.out⟩, ⟨Kz_ HB GE441⟩⟩

end Go.Proofs.Ytoogchgoiciggaa.Q
