import Derived.Below
import Derived.OrdersHeld
namespace Go.Proofs.Ytoagfdpgnfinhaa.Plain
def vary (n : Nat) : List Nat := if n < 128 then [n] else (n % 128 + 128) :: vary (n / 128)
termination_by n
decreasing_by omega
def be : Nat → Nat → List Nat
 | 0, _ => []
 | k + 1, a => (a / 256 ^ k % 256) :: be k a
theorem be_len (k a : Nat) : (be k a).length = k := by induction k with | zero => rfl | succ k ih => simp [be, ih]
end Go.Proofs.Ytoagfdpgnfinhaa.Plain

set_option linter.unusedVariables false
set_option linter.unusedSimpArgs false
namespace Go.Proofs.Ytoagfdpgnfinhaa.Inv
open Go Go.RowKit
section
variable {P : Program} {ops : Array Oper} {Q : Exit → Act → World → Prop}
def left (L : Array Bool) : Nat := L.toList.countP (fun b => !b)
theorem left_set {L : Array Bool} {i : Nat} (h : L.getD i true = false) : left (L.setIfInBounds i true) + 1 = left L := by
 have hi : i < L.size := by
  rcases Nat.lt_or_ge i L.size with h' | h'
  ·exact h'
  ·simp [Array.getElem?_eq_none h'] at h
 have hv : L.toList[i]'(by simpa using hi) = false := by simpa [hi] using h
 unfold left
 rw [Array.toList_setIfInBounds, List.countP_set (by simpa using hi), hv]
 have hp : 0 < L.toList.countP (fun b => !b) := List.countP_pos_iff.2 ⟨false, by rw [← hv]; exact List.getElem_mem _, rfl⟩
 simp only [Bool.not_false, Bool.not_true, if_true, Bool.false_eq_true, if_false, Nat.add_zero]
 omega
theorem any_inv (Inv : Array Bool → Act → World → Prop) (hd : ∀ L a w, Inv L a w → Region.ready .any ops L = [] → Q .normal a w)
  (hs : ∀ L a w i, Inv L a w → i ∈ Region.ready .any ops L → wpOp P ops Q i (fun a' w' => Inv (L.setIfInBounds i true) a' w') a w) :
  ∀ fuel L a w, left L ≤ fuel → Inv L a w → wpAny P .any ops Q fuel L a w := by
 intro fuel
 induction fuel with
 | zero =>
  intro L a w hl hI
  have h0 : Region.ready .any ops L = [] := by
   cases hr : Region.ready .any ops L with
   | nil => rfl
   | cons i t =>
    have hm := (mem_ready.1 (show i ∈ Region.ready .any ops L by rw [hr]; simp)).1
    have := left_set hm
    omega
  exact ⟨h0, hd L a w hI h0⟩
 | succ fuel ih =>
  intro L a w hl hI
  refine ⟨hd L a w hI, fun i hi => ?_⟩
  have := left_set (mem_ready.1 hi).1
  exact wpOp_mono (fun a' w' h => ih _ a' w' (by omega) h) (hs L a w i hI hi)
theorem all_of_ready {n : Nat} (hn : ops.size = n + 1) (hback : ∀ (i : Nat) (o : Oper), ops[i]? = some o → ∀ e ∈ o.after, e.on < i) {L : Array Bool} (hL : L.size = n + 1) (h : Region.ready .any ops L = []) : ∀ j, j ≤ n → L.getD j false = true := by
 intro j
 induction j using Nat.strongRecOn with
 | _ j ih =>
  intro hj
  have ho : ops[j]? = some (ops[j]'(by omega)) := Array.getElem?_eq_getElem _
  by_cases c : L.getD j true = false
  ·have : j ∈ Region.ready .any ops L := mem_ready.2 ⟨c, _, ho, fun e he _ => ih e.on (hback j _ ho e he) (by have := hback j _ ho e he; omega)⟩
   rw [h] at this
   cases this
  ·have hlt : j < L.size := by omega
   simpa [hlt] using c
def Like (own : List Tmp) (a0 a : Act) : Prop := a.defers = a0.defers ∧ a.tmps.size = a0.tmps.size ∧ ∀ t, t ∉ own → a.tmps.getD t undef = a0.tmps.getD t undef
theorem Like.refl (own : List Tmp) (a : Act) : Like own a a := ⟨rfl, rfl, fun _ _ => rfl⟩
theorem Like.put {own : List Tmp} {a0 a : Act} (h : Like own a0 a) {N : Tmp} (hN : N ∈ own) (v : Value) : Like own a0 (a.put (some N) v) := by
 refine ⟨h.1, by simp [Act.put, h.2.1], fun t ht => ?_⟩
 have hne : N ≠ t := fun e => ht (e ▸ hN)
 rw [← h.2.2 t ht]
 simp [Act.put, Array.getElem?_setIfInBounds_ne hne]
theorem put_same (a : Act) (N : Tmp) (v : Value) (h : N < a.tmps.size) : (a.put (some N) v).tmps.getD N undef = v := by
 simp [Act.put, h]
theorem put_ne (a : Act) {N M : Tmp} (v : Value) (h : N ≠ M) : (a.put (some N) v).tmps.getD M undef = a.tmps.getD M undef := by
 simp [Act.put, Array.getElem?_setIfInBounds_ne h]
theorem region_inv {id : Nat} {a0 : Act} {w0 : World} (hm : P.follows .mixedOrders = true) (n : Nat) (hn : ops.size = n + 1) (dst : Nat → Tmp) (own : List Tmp)
  (hdst : ∀ (i : Nat) (o : Oper), i < n → ops[i]? = some o → o.dst = some (dst i) ∧ Region.wanted o = fun _ => true) (hown : ∀ i, i < n → dst i ∈ own ∧ dst i < a0.tmps.size) (hinj : ∀ i j, i < n → j < n → dst i = dst j → i = j)
  (hback : ∀ (i : Nat) (o : Oper), ops[i]? = some o → ∀ e ∈ o.after, e.on < i) (hlast : ∀ o : Oper, ops[n]? = some o → ∀ j, j < n → ∃ e ∈ o.after, Region.binds .any e = true ∧ e.on = j)
  (Spec : Nat → Value → World → Prop) (S : World → Prop) (hS : S w0.drew)
  (hstay : ∀ i v W W', S W → Below W.heap.size W W' → Spec i v W → Spec i v W')
  (hstep : ∀ (i : Nat) (o : Oper), i < n → ops[i]? = some o → ∀ (a : Act) (W : World), S W → Like own a0 a → (∀ e ∈ o.after, Region.binds .any e = true → Spec e.on (a.tmps.getD (dst e.on) undef) W) →
   ∃ v W', (execOp a.eval o).run P W = .ok (.value v) W' ∧ S W' ∧ Below W.heap.size W W' ∧ Spec i v W')
  (hend : ∀ (a : Act) (W : World), S W → Like own a0 a → (∀ i, i < n → Spec i (a.tmps.getD (dst i) undef) W) → wpOp P ops Q n (fun a' w' => Q .normal a' w') a W) :
  (Code.region id ops true).wp P Q a0 w0 := by
 refine wp_region_any hm ?_
 refine any_inv (P := P) (ops := ops) (Q := Q) (fun L a W => L.size = n + 1 ∧ (L.getD n false = false → S W ∧ Like own a0 a ∧ ∀ i, i < n → L.getD i false = true → Spec i (a.tmps.getD (dst i) undef) W) ∧ (L.getD n false = true → Q .normal a W ∧ ∀ j, j < n → L.getD j false = true)) ?_ ?_ _ _ _ _ ?_ ?_
 ·intro L a W hI hr
  exact (hI.2.2 (all_of_ready hn hback hI.1 hr n (Nat.le_refl _))).1
 ·intro L a W i hI hi
  obtain ⟨h0, o, ho, hdeps⟩ := mem_ready.1 hi
  have hlt : i < n + 1 := by have := (Array.getElem?_eq_some_iff.1 ho).1; omega
  have hnl : L.getD n false = false := by
   cases hc : L.getD n false with
   | false => rfl
   | true =>
    have hall := (hI.2.2 hc).2
    have hil : i < L.size := by have := hI.1; omega
    have h0' : L.getD i false = false := by simpa [hil] using h0
    by_cases c : i = n
    ·rw [c, hc] at h0'; cases h0'
    ·rw [hall i (by omega)] at h0'; cases h0'
  obtain ⟨hSW, hLike, hSpec⟩ := hI.2.1 hnl
  by_cases c : i = n
  ·subst c
   have hall : ∀ j, j < i → L.getD j false = true := fun j hj => by
    obtain ⟨e, he, hb, rfl⟩ := hlast o ho j hj
    exact hdeps e he hb
   have hE := hend a W hSW hLike (fun j hj => hSpec j hj (hall j hj))
   refine wpOp_mono (fun a' w' hq => ⟨by simp [hI.1], ?_, fun _ => ⟨hq, fun j hj => ?_⟩⟩) hE
   ·intro hc
    have : i < L.size := by have := hI.1; omega
    simp [this] at hc
   ·exact getD_set_true (hall j hj)
  ·have hin : i < n := by omega
   obtain ⟨hd, hw⟩ := hdst i o hin ho
   obtain ⟨v, W', hrun, hS', hB, hv⟩ := hstep i o hin ho a W hSW hLike (fun e he hb => hSpec e.on (by have := hback i o ho e he; omega) (hdeps e he hb))
   unfold wpOp
   rw [ho]
   simp only [hw, if_true]
   left
   unfold Oper.wp
   rw [hrun]
   show _ ∧ _
   have hsz : dst i < a.tmps.size := by rw [hLike.2.1]; exact (hown i hin).2
   have hne : i ≠ n := c
   refine ⟨by simp [hI.1], fun _ => ⟨hS', by rw [hd]; exact hLike.put (hown i hin).1 v, ?_⟩, fun hc => ?_⟩
   ·intro j hj hl
    by_cases cj : j = i
    ·subst cj
     rw [hd, put_same a _ v hsz]
     exact hv
    ·rw [hd, put_ne a v (fun e => cj (hinj i j hin hj e).symm)]
     have hl' : L.getD j false = true := by rw [getD_set_ne false (Ne.symm cj)] at hl; exact hl
     exact hstay j _ W W' hSW hB (hSpec j hj hl')
   ·rw [getD_set_ne false hne, hnl] at hc
    cases hc
 ·show left (Array.replicate ops.size false) ≤ ops.size
  unfold left
  exact Nat.le_trans (List.countP_le_length) (by simp)
 ·refine ⟨by simp [hn], fun _ => ⟨hS, Like.refl _ _, fun i _ hl => ?_⟩, fun hc => ?_⟩
  ·exfalso
   by_cases c : i < ops.size
   ·simp [c] at hl
   ·simp [c] at hl
  ·exfalso
   simp [hn] at hc
def okB (ops : Array Oper) (n : Nat) (ds : List Tmp) : Bool :=
 ops.size == n + 1 && ds.length == n && (List.range n).all (fun i => (List.range n).all fun j => i == j || ds[i]? != ds[j]?) &&
 (List.range n).all (fun i => match ops[i]? with | some o => o.dst == ds[i]? && o.guard.isNone | none => false) &&
 (List.range (n + 1)).all (fun i => match ops[i]? with | some o => o.after.all (fun e => decide (e.on < i)) | none => true) &&
 (match ops[n]? with | some o => (List.range n).all (fun j => o.after.any fun e => Region.binds .any e && e.on == j) | none => false)
theorem wanted_none {o : Oper} (h : o.guard.isNone = true) : Region.wanted o = fun _ => true := by
 funext y
 unfold Region.wanted
 cases hg : o.guard with
 | none => rfl
 | some g => rw [hg] at h; cases h
theorem region_ok {id : Nat} {a0 : Act} {w0 : World} (hm : P.follows .mixedOrders = true) (n : Nat) (ds : List Tmp) (hB : okB ops n ds = true) (hsz : ∀ N ∈ ds, N < a0.tmps.size)
  (Spec : Nat → Value → World → Prop) (S : World → Prop) (hS : S w0.drew)
  (hstay : ∀ i v W W', S W → Below W.heap.size W W' → Spec i v W → Spec i v W')
  (hstep : ∀ (i : Nat) (o : Oper), i < n → ops[i]? = some o → ∀ (a : Act) (W : World), S W → Like ds a0 a → (∀ e ∈ o.after, Region.binds .any e = true → Spec e.on (a.tmps.getD (ds.getD e.on 0) undef) W) →
   ∃ v W', (execOp a.eval o).run P W = .ok (.value v) W' ∧ S W' ∧ Below W.heap.size W W' ∧ Spec i v W')
  (hend : ∀ (a : Act) (W : World), S W → Like ds a0 a → (∀ i, i < n → Spec i (a.tmps.getD (ds.getD i 0) undef) W) → wpOp P ops Q n (fun a' w' => Q .normal a' w') a W) :
  (Code.region id ops true).wp P Q a0 w0 := by
 unfold okB at hB
 simp only [Bool.and_eq_true, beq_iff_eq, List.all_eq_true, List.mem_range, Bool.or_eq_true, bne_iff_ne, decide_eq_true_eq] at hB
 obtain ⟨⟨⟨⟨⟨h1, h2⟩, h3⟩, h4⟩, h5⟩, h6⟩ := hB
 have hget : ∀ i, i < n → ds[i]? = some (ds.getD i 0) := fun i hi => by
  rw [List.getD_eq_getElem?_getD, List.getElem?_eq_getElem (by omega)]
  rfl
 have hmem : ∀ i, i < n → ds.getD i 0 ∈ ds := fun i hi => List.mem_of_getElem? (hget i hi)
 refine region_inv hm n h1 (fun i => ds.getD i 0) ds ?_ (fun i hi => ⟨hmem i hi, hsz _ (hmem i hi)⟩) ?_ ?_ ?_ Spec S hS hstay hstep hend
 ·intro i o hi ho
  have := h4 i hi
  rw [ho] at this
  simp only [Bool.and_eq_true, beq_iff_eq] at this
  exact ⟨this.1.trans (hget i hi), wanted_none this.2⟩
 ·intro i j hi hj e
  rcases h3 i hi j hj with h | h
  ·exact h
  ·rw [hget i hi, hget j hj] at h
   exact absurd (congrArg some e) h
 ·intro i o ho e he
  have hi : i < n + 1 := by have := (Array.getElem?_eq_some_iff.1 ho).1; omega
  have := h5 i hi
  rw [ho] at this
  simp only [Array.all_eq_true_iff_forall_mem, decide_eq_true_eq] at this
  exact this e he
 ·intro o ho j hj
  rw [ho] at h6
  simp only [List.all_eq_true, List.mem_range] at h6
  have := h6 j hj
  obtain ⟨e, he, hb⟩ := Array.any_eq_true'.1 this
  simp only [Bool.and_eq_true, beq_iff_eq] at hb
  exact ⟨e, he, hb.1, hb.2⟩
theorem tmps_eq (a : Act) (n : Nat) (h : a.tmps.size = n) : a.tmps = ((List.range n).map fun t => a.tmps.getD t undef).toArray := by
 apply Array.ext
 ·simp [h]
 ·intro i h1 h2
  simp [h1]
end
end Go.Proofs.Ytoagfdpgnfinhaa.Inv
