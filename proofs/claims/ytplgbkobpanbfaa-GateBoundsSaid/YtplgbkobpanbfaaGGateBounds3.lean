import Derived.Below
import Derived.OrdersHeld
import Derived.Test.YtplgbkobpanbfaaWAMore
import Derived.Laws.BitsAllLaws
import Derived.Test.YtplgbkobpanbfaaGGateBounds0
import Derived.Test.YtplgbkobpanbfaaGGateBounds1
import Derived.Test.YtplgbkobpanbfaaQx0
import Derived.Test.YtplgbkobpanbfaaGGateBounds2
/- A region that draws its order, by an invariant: each operation once, whatever has come up ahead of it. -/
set_option linter.unusedVariables false
set_option linter.unusedSimpArgs false
namespace Go.Proofs.Ytplgbkobpanbfaa.Inv
open Go Go.RowKit
section
variable {P : Program} {ops : Array Oper} {Q : Exit → Act → World → Prop}
/-- How many have not come up yet. -/
def left (L : Array Bool) : Nat := L.toList.countP (fun b => !b)
theorem left_set {L : Array Bool} {i : Nat} (h : L.getD i true = false) : left (L.setIfInBounds i true) + 1 = left L := by
  have hi : i < L.size := by
    rcases Nat.lt_or_ge i L.size with h' | h'
    · exact h'
    · simp [Array.getElem?_eq_none h'] at h
  have hv : L.toList[i]'(by simpa using hi) = false := by simpa [hi] using h
  unfold left
  rw [Array.toList_setIfInBounds, List.countP_set (by simpa using hi), hv]
  have hp : 0 < L.toList.countP (fun b => !b) := List.countP_pos_iff.2 ⟨false, by rw [← hv]; exact List.getElem_mem _, rfl⟩
  simp only [Bool.not_false, Bool.not_true, if_true, Bool.false_eq_true, if_false, Nat.add_zero]
  omega
theorem any_inv (Inv : Array Bool → Act → World → Prop) (hd : ∀ L a w, Inv L a w → Region.ready .any ops L = [] → Q .normal a w)
    (hs : ∀ L a w i, Inv L a w → i ∈ Region.ready .any ops L → wpOp P ops Q i (fun a' w' => Inv (L.setIfInBounds i true) a' w') a w) :
    ∀ fuel L a w, left L ≤ fuel → Inv L a w → wpAny P .any ops Q fuel L a w := by
  intro fuel
  induction fuel with
  | zero =>
    intro L a w hl hI
    have h0 : Region.ready .any ops L = [] := by
      cases hr : Region.ready .any ops L with
      | nil => rfl
      | cons i t =>
        have hm := (mem_ready.1 (show i ∈ Region.ready .any ops L by rw [hr]; simp)).1
        have := left_set hm
        omega
    exact ⟨h0, hd L a w hI h0⟩
  | succ fuel ih =>
    intro L a w hl hI
    refine ⟨hd L a w hI, fun i hi => ?_⟩
    have := left_set (mem_ready.1 hi).1
    exact wpOp_mono (fun a' w' h => ih _ a' w' (by omega) h) (hs L a w i hI hi)
theorem all_of_ready {n : Nat} (hn : ops.size = n + 1) (hback : ∀ (i : Nat) (o : Oper), ops[i]? = some o → ∀ e ∈ o.after, e.on < i) {L : Array Bool} (hL : L.size = n + 1) (h : Region.ready .any ops L = []) : ∀ j, j ≤ n → L.getD j false = true := by
  intro j
  induction j using Nat.strongRecOn with
  | _ j ih =>
    intro hj
    have ho : ops[j]? = some (ops[j]'(by omega)) := Array.getElem?_eq_getElem _
    by_cases c : L.getD j true = false
    · have : j ∈ Region.ready .any ops L := mem_ready.2 ⟨c, _, ho, fun e he _ => ih e.on (hback j _ ho e he) (by have := hback j _ ho e he; omega)⟩
      rw [h] at this
      cases this
    · have hlt : j < L.size := by omega
      simpa [hlt] using c
/-- Two acts that are the same but for the places of the region's own. -/
def Like (own : List Tmp) (a0 a : Act) : Prop := a.defers = a0.defers ∧ a.tmps.size = a0.tmps.size ∧ ∀ t, t ∉ own → a.tmps.getD t undef = a0.tmps.getD t undef
theorem Like.refl (own : List Tmp) (a : Act) : Like own a a := ⟨rfl, rfl, fun _ _ => rfl⟩
theorem Like.put {own : List Tmp} {a0 a : Act} (h : Like own a0 a) {N : Tmp} (hN : N ∈ own) (v : Value) : Like own a0 (a.put (some N) v) := by
  refine ⟨h.1, by simp [Act.put, h.2.1], fun t ht => ?_⟩
  have hne : N ≠ t := fun e => ht (e ▸ hN)
  rw [← h.2.2 t ht]
  simp [Act.put, Array.getElem?_setIfInBounds_ne hne]
theorem put_same (a : Act) (N : Tmp) (v : Value) (h : N < a.tmps.size) : (a.put (some N) v).tmps.getD N undef = v := by
  simp [Act.put, h]
theorem put_ne (a : Act) {N M : Tmp} (v : Value) (h : N ≠ M) : (a.put (some N) v).tmps.getD M undef = a.tmps.getD M undef := by
  simp [Act.put, Array.getElem?_setIfInBounds_ne h]
/-- THE LAW. All but the last operation leave a value in a place of their own, and may make memory; the last one waits for all. -/
theorem region_inv {id : Nat} {a0 : Act} {w0 : World} (hm : P.follows .mixedOrders = true) (n : Nat) (hn : ops.size = n + 1) (dst : Nat → Tmp) (own : List Tmp)
    (hdst : ∀ (i : Nat) (o : Oper), i < n → ops[i]? = some o → o.dst = some (dst i) ∧ Region.wanted o = fun _ => true) (hown : ∀ i, i < n → dst i ∈ own ∧ dst i < a0.tmps.size) (hinj : ∀ i j, i < n → j < n → dst i = dst j → i = j)
    (hback : ∀ (i : Nat) (o : Oper), ops[i]? = some o → ∀ e ∈ o.after, e.on < i) (hlast : ∀ o : Oper, ops[n]? = some o → ∀ j, j < n → ∃ e ∈ o.after, Region.binds .any e = true ∧ e.on = j)
    (Spec : Nat → Value → World → Prop) (S : World → Prop) (hS : S w0.drew)
    (hstay : ∀ i v W W', S W → Below W.heap.size W W' → Spec i v W → Spec i v W')
    (hstep : ∀ (i : Nat) (o : Oper), i < n → ops[i]? = some o → ∀ (a : Act) (W : World), S W → Like own a0 a → (∀ e ∈ o.after, Region.binds .any e = true → Spec e.on (a.tmps.getD (dst e.on) undef) W) →
      ∃ v W', (execOp a.eval o).run P W = .ok (.value v) W' ∧ S W' ∧ Below W.heap.size W W' ∧ Spec i v W')
    (hend : ∀ (a : Act) (W : World), S W → Like own a0 a → (∀ i, i < n → Spec i (a.tmps.getD (dst i) undef) W) → wpOp P ops Q n (fun a' w' => Q .normal a' w') a W) :
    (Code.region id ops true).wp P Q a0 w0 := by
  refine wp_region_any hm ?_
  refine any_inv (P := P) (ops := ops) (Q := Q) (fun L a W => L.size = n + 1 ∧ (L.getD n false = false → S W ∧ Like own a0 a ∧ ∀ i, i < n → L.getD i false = true → Spec i (a.tmps.getD (dst i) undef) W) ∧ (L.getD n false = true → Q .normal a W ∧ ∀ j, j < n → L.getD j false = true)) ?_ ?_ _ _ _ _ ?_ ?_
  · intro L a W hI hr
    exact (hI.2.2 (all_of_ready hn hback hI.1 hr n (Nat.le_refl _))).1
  · intro L a W i hI hi
    obtain ⟨h0, o, ho, hdeps⟩ := mem_ready.1 hi
    have hlt : i < n + 1 := by have := (Array.getElem?_eq_some_iff.1 ho).1; omega
    have hnl : L.getD n false = false := by
      cases hc : L.getD n false with
      | false => rfl
      | true =>
        have hall := (hI.2.2 hc).2
        have hil : i < L.size := by have := hI.1; omega
        have h0' : L.getD i false = false := by simpa [hil] using h0
        by_cases c : i = n
        · rw [c, hc] at h0'; cases h0'
        · rw [hall i (by omega)] at h0'; cases h0'
    obtain ⟨hSW, hLike, hSpec⟩ := hI.2.1 hnl
    by_cases c : i = n
    · subst c
      have hall : ∀ j, j < i → L.getD j false = true := fun j hj => by
        obtain ⟨e, he, hb, rfl⟩ := hlast o ho j hj
        exact hdeps e he hb
      have hE := hend a W hSW hLike (fun j hj => hSpec j hj (hall j hj))
      refine wpOp_mono (fun a' w' hq => ⟨by simp [hI.1], ?_, fun _ => ⟨hq, fun j hj => ?_⟩⟩) hE
      · intro hc
        have : i < L.size := by have := hI.1; omega
        simp [this] at hc
      · exact getD_set_true (hall j hj)
    · have hin : i < n := by omega
      obtain ⟨hd, hw⟩ := hdst i o hin ho
      obtain ⟨v, W', hrun, hS', hB, hv⟩ := hstep i o hin ho a W hSW hLike (fun e he hb => hSpec e.on (by have := hback i o ho e he; omega) (hdeps e he hb))
      unfold wpOp
      rw [ho]
      simp only [hw, if_true]
      left
      unfold Oper.wp
      rw [hrun]
      show _ ∧ _
      have hsz : dst i < a.tmps.size := by rw [hLike.2.1]; exact (hown i hin).2
      have hne : i ≠ n := c
      refine ⟨by simp [hI.1], fun _ => ⟨hS', by rw [hd]; exact hLike.put (hown i hin).1 v, ?_⟩, fun hc => ?_⟩
      · intro j hj hl
        by_cases cj : j = i
        · subst cj
          rw [hd, put_same a _ v hsz]
          exact hv
        · rw [hd, put_ne a v (fun e => cj (hinj i j hin hj e).symm)]
          have hl' : L.getD j false = true := by rw [getD_set_ne false (Ne.symm cj)] at hl; exact hl
          exact hstay j _ W W' hSW hB (hSpec j hj hl')
      · rw [getD_set_ne false hne, hnl] at hc
        cases hc
  · show left (Array.replicate ops.size false) ≤ ops.size
    unfold left
    exact Nat.le_trans (List.countP_le_length) (by simp)
  · refine ⟨by simp [hn], fun _ => ⟨hS, Like.refl _ _, fun i _ hl => ?_⟩, fun hc => ?_⟩
    · exfalso
      by_cases c : i < ops.size
      · simp [c] at hl
      · simp [c] at hl
    · exfalso
      simp [hn] at hc
/-- What is asked of the region's text, at once. -/
def okB (ops : Array Oper) (n : Nat) (ds : List Tmp) : Bool :=
  ops.size == n + 1 && ds.length == n && (List.range n).all (fun i => (List.range n).all fun j => i == j || ds[i]? != ds[j]?) &&
  (List.range n).all (fun i => match ops[i]? with | some o => o.dst == ds[i]? && o.guard.isNone | none => false) &&
  (List.range (n + 1)).all (fun i => match ops[i]? with | some o => o.after.all (fun e => decide (e.on < i)) | none => true) &&
  (match ops[n]? with | some o => (List.range n).all (fun j => o.after.any fun e => Region.binds .any e && e.on == j) | none => false)
theorem wanted_none {o : Oper} (h : o.guard.isNone = true) : Region.wanted o = fun _ => true := by
  funext y
  unfold Region.wanted
  cases hg : o.guard with
  | none => rfl
  | some g => rw [hg] at h; cases h
theorem region_ok {id : Nat} {a0 : Act} {w0 : World} (hm : P.follows .mixedOrders = true) (n : Nat) (ds : List Tmp) (hB : okB ops n ds = true) (hsz : ∀ N ∈ ds, N < a0.tmps.size)
    (Spec : Nat → Value → World → Prop) (S : World → Prop) (hS : S w0.drew)
    (hstay : ∀ i v W W', S W → Below W.heap.size W W' → Spec i v W → Spec i v W')
    (hstep : ∀ (i : Nat) (o : Oper), i < n → ops[i]? = some o → ∀ (a : Act) (W : World), S W → Like ds a0 a → (∀ e ∈ o.after, Region.binds .any e = true → Spec e.on (a.tmps.getD (ds.getD e.on 0) undef) W) →
      ∃ v W', (execOp a.eval o).run P W = .ok (.value v) W' ∧ S W' ∧ Below W.heap.size W W' ∧ Spec i v W')
    (hend : ∀ (a : Act) (W : World), S W → Like ds a0 a → (∀ i, i < n → Spec i (a.tmps.getD (ds.getD i 0) undef) W) → wpOp P ops Q n (fun a' w' => Q .normal a' w') a W) :
    (Code.region id ops true).wp P Q a0 w0 := by
  unfold okB at hB
  simp only [Bool.and_eq_true, beq_iff_eq, List.all_eq_true, List.mem_range, Bool.or_eq_true, bne_iff_ne, decide_eq_true_eq] at hB
  obtain ⟨⟨⟨⟨⟨h1, h2⟩, h3⟩, h4⟩, h5⟩, h6⟩ := hB
  have hget : ∀ i, i < n → ds[i]? = some (ds.getD i 0) := fun i hi => by
    rw [List.getD_eq_getElem?_getD, List.getElem?_eq_getElem (by omega)]
    rfl
  have hmem : ∀ i, i < n → ds.getD i 0 ∈ ds := fun i hi => List.mem_of_getElem? (hget i hi)
  refine region_inv hm n h1 (fun i => ds.getD i 0) ds ?_ (fun i hi => ⟨hmem i hi, hsz _ (hmem i hi)⟩) ?_ ?_ ?_ Spec S hS hstay hstep hend
  · intro i o hi ho
    have := h4 i hi
    rw [ho] at this
    simp only [Bool.and_eq_true, beq_iff_eq] at this
    exact ⟨this.1.trans (hget i hi), wanted_none this.2⟩
  · intro i j hi hj e
    rcases h3 i hi j hj with h | h
    · exact h
    · rw [hget i hi, hget j hj] at h
      exact absurd (congrArg some e) h
  · intro i o ho e he
    have hi : i < n + 1 := by have := (Array.getElem?_eq_some_iff.1 ho).1; omega
    have := h5 i hi
    rw [ho] at this
    simp only [Array.all_eq_true_iff_forall_mem, decide_eq_true_eq] at this
    exact this e he
  · intro o ho j hj
    rw [ho] at h6
    simp only [List.all_eq_true, List.mem_range] at h6
    have := h6 j hj
    obtain ⟨e, he, hb⟩ := Array.any_eq_true'.1 this
    simp only [Bool.and_eq_true, beq_iff_eq] at hb
    exact ⟨e, he, hb.1, hb.2⟩
theorem tmps_eq (a : Act) (n : Nat) (h : a.tmps.size = n) : a.tmps = ((List.range n).map fun t => a.tmps.getD t undef).toArray := by
  apply Array.ext
  · simp [h]
  · intro i h1 h2
    simp [h1]
end
end Go.Proofs.Ytplgbkobpanbfaa.Inv

/- Texts as lists of bytes; wraps that do nothing. -/
set_option linter.unusedVariables false
set_option linter.unusedSimpArgs false
namespace Go.Proofs.Ytplgbkobpanbfaa.Pure
open Go.RowKit Go.Proofs.YtplgbkobpanbfaaW.PrintWords Go.Proofs.YtplgbkobpanbfaaW.PrintLast Go.Proofs.YtplgbkobpanbfaaW.PrintMore

/-! ### texts as lists of bytes -/
def bl (s : ByteArray) : List Nat := s.data.toList.map UInt8.toNat
theorem bl_length (s : ByteArray) : (bl s).length = s.size := by unfold bl; rw [List.length_map, Array.length_toList]; rfl
theorem bl_lt (s : ByteArray) : ∀ b ∈ bl s, b < 256 := by
  intro b hb
  obtain ⟨u, _, rfl⟩ := List.mem_map.1 hb
  exact u.toNat_lt
theorem map_toNat_inj : ∀ {l m : List UInt8}, l.map UInt8.toNat = m.map UInt8.toNat → l = m
  | [], [], _ => rfl
  | [], _ :: _, h => by simp at h
  | _ :: _, [], h => by simp at h
  | a :: l, b :: m, h => by
    simp only [List.map_cons, List.cons.injEq] at h
    rw [UInt8.toNat_inj.1 h.1, map_toNat_inj h.2]
theorem ba_ext {s t : ByteArray} (h : s.data.toList = t.data.toList) : s = t := by
  cases s; cases t
  simp only [ByteArray.mk.injEq]
  exact Array.toList_inj.1 h
theorem bl_inj {s t : ByteArray} (h : bl s = bl t) : s = t := ba_ext (map_toNat_inj h)
theorem bl_append (s t : ByteArray) : bl (s ++ t) = bl s ++ bl t := by
  unfold bl; rw [← List.map_append, ByteArray.data_append]; simp
theorem bl_extract (s : ByteArray) (a b : Nat) : bl (s.extract a b) = ((bl s).take b).drop a := by
  unfold bl
  rw [← List.map_take, ← List.map_drop]
  congr 1
  simp [ByteArray.data_extract, Array.toList_extract, List.extract_eq_take_drop, List.drop_take]
theorem bl_take (s : ByteArray) (n : Nat) : bl (s.extract 0 n) = (bl s).take n := by rw [bl_extract, List.drop_zero]
theorem bl_drop (s : ByteArray) (n : Nat) : bl (s.extract n s.size) = (bl s).drop n := by rw [bl_extract, ← bl_length, List.take_length]
theorem toList_data (s : ByteArray) : s.toList = s.data.toList := by
  exact ByteArray.toList_eq s
theorem toList_iff {s t : ByteArray} : s.toList = t.toList ↔ s = t := by
  rw [toList_data, toList_data]; exact ⟨ba_ext, fun h => by rw [h]⟩
def NL (l : List Nat) : List Int := l.map fun n : Nat => (n : Int)
theorem bl_str (l : List Nat) (h : ∀ b ∈ l, b < 256) : bl (strOfNums (NL l)) = l := by
  unfold bl strOfNums NL
  simp only [List.map_map]
  conv => rhs; rw [← List.map_id l]
  apply List.map_congr_left
  intro b hb
  have := h b hb
  simp [UInt8.toNat_ofNat_of_lt', this]
theorem bl_empty : bl (⟨#[]⟩ : ByteArray) = [] := rfl
theorem bl_nil {s : ByteArray} : bl s = [] ↔ s = ⟨#[]⟩ := ⟨fun h => bl_inj (by rw [h]; rfl), fun h => by rw [h]; rfl⟩
theorem bt_bl (s : ByteArray) (i : Nat) (h : i < s.size) : ∃ b, (bl s)[i]? = some b ∧ bt s i = (b : Int) ∧ b < 256 := by
  have hl : i < (bl s).length := by rw [bl_length]; exact h
  refine ⟨(bl s)[i], List.getElem?_eq_getElem hl, ?_, bl_lt s _ (List.getElem_mem hl)⟩
  unfold bt
  rw [dif_pos (by simpa using h)]
  simp [bl, ByteArray.getElem_eq_getElem_data]
theorem wrap_u64 {x : Int} (h0 : 0 ≤ x) (h1 : x < 18446744073709551616) : IntKind.u64.wrap x = x := by
  simp only [IntKind.wrap_u64]; omega
theorem wrap64_id {x : Int} (h0 : -9223372036854775808 ≤ x) (h1 : x ≤ 9223372036854775807) : wrap64 x = x := by
  unfold wrap64; omega
end Go.Proofs.Ytplgbkobpanbfaa.Pure

/- Plain lists of bytes: numbers of as few bytes as they need, numbers of a fixed size, texts behind their length. No program here. -/
namespace Go.Proofs.Ytplgbkobpanbfaa.Plain

/-! ### numbers of as few bytes as they need -/
def vary (n : Nat) : List Nat := if n < 128 then [n] else (n % 128 + 128) :: vary (n / 128)
termination_by n
decreasing_by omega

theorem vary_small {n : Nat} (h : n < 128) : vary n = [n] := by rw [vary, if_pos h]
theorem vary_big {n : Nat} (h : ¬ n < 128) : vary n = (n % 128 + 128) :: vary (n / 128) := by rw [vary, if_neg h]
theorem vary_ne_nil (n : Nat) : vary n ≠ [] := by
  by_cases h : n < 128
  · rw [vary_small h]; simp
  · rw [vary_big h]; simp
theorem vary_pos (n : Nat) : 0 < (vary n).length := List.length_pos_iff.2 (vary_ne_nil n)
theorem vary_lt (n : Nat) : ∀ b ∈ vary n, b < 256 := by
  induction n using Nat.strongRecOn with
  | _ n ih =>
    intro b hb
    by_cases h : n < 128
    · rw [vary_small h] at hb; simp at hb; omega
    · rw [vary_big h] at hb
      rcases List.mem_cons.1 hb with rfl | hb
      · omega
      · exact ih (n / 128) (by omega) b hb
/-- how many bytes -/
theorem vary_len_le (k : Nat) : ∀ n, n < 128 ^ (k + 1) → (vary n).length ≤ k + 1 := by
  induction k with
  | zero => intro n h; rw [vary_small (by simpa using h)]; simp
  | succ k ih =>
    intro n h
    by_cases h1 : n < 128
    · rw [vary_small h1]; simp
    · rw [vary_big h1]
      have := ih (n / 128) (by rw [Nat.div_lt_iff_lt_mul (by omega)]; rw [Nat.pow_succ] at h; exact h)
      simp; omega
theorem vary_len_gt (k : Nat) : ∀ n, 128 ^ k ≤ n → k < (vary n).length := by
  induction k with
  | zero => intro n _; exact vary_pos n
  | succ k ih =>
    intro n h
    have h1 : ¬ n < 128 := by
      have : 128 ^ 1 ≤ 128 ^ (k + 1) := Nat.pow_le_pow_right (by omega) (by omega)
      omega
    rw [vary_big h1]
    have := ih (n / 128) (by rw [Nat.le_div_iff_mul_le (by omega), ← Nat.pow_succ]; exact h)
    simp; omega
theorem vary_len_ten {n : Nat} (h : n < 18446744073709551616) : (vary n).length ≤ 10 := vary_len_le 9 n (by omega)
/-- it is the length alone that a number's bytes can be told by: where they end -/
theorem vary_prefix (n : Nat) : ∀ m (r s : List Nat), vary n ++ r = vary m ++ s → n = m ∧ r = s := by
  induction n using Nat.strongRecOn with
  | _ n ih =>
    intro m r s h
    by_cases h1 : n < 128
    · rw [vary_small h1] at h
      by_cases h2 : m < 128
      · rw [vary_small h2] at h
        simp at h; exact h
      · rw [vary_big h2] at h
        simp at h; omega
    · rw [vary_big h1] at h
      by_cases h2 : m < 128
      · rw [vary_small h2] at h
        simp at h; omega
      · rw [vary_big h2] at h
        simp only [List.cons_append, List.cons.injEq] at h
        obtain ⟨e, h⟩ := h
        obtain ⟨e2, h⟩ := ih (n / 128) (by omega) (m / 128) r s h
        exact ⟨by omega, h⟩
theorem vary_inj {n m : Nat} (h : vary n = vary m) : n = m := (vary_prefix n m [] [] (by rw [h])).1
/-- the byte at a place -/
theorem vary_get (i : Nat) : ∀ n, i < (vary n).length → (vary n)[i]? = some (n / 128 ^ i % 128 + if i + 1 < (vary n).length then 128 else 0) := by
  induction i with
  | zero =>
    intro n hi
    by_cases h : n < 128
    · rw [vary_small h]; simp; omega
    · rw [vary_big h]
      have := vary_pos (n / 128)
      simp [this]
  | succ i ih =>
    intro n hi
    by_cases h : n < 128
    · rw [vary_small h] at hi; simp at hi
    · have e := vary_big h
      have hl : (vary n).length = (vary (n / 128)).length + 1 := by rw [e]; rfl
      rw [e, List.getElem?_cons_succ, ih (n / 128) (by omega)]
      congr 2
      · rw [Nat.div_div_eq_div_mul, Nat.pow_succ, Nat.mul_comm 128]
      · simp
/-- the end: what is left of the number -/
theorem vary_len_iff (n i : Nat) : i < (vary n).length ↔ i = 0 ∨ 128 ^ i ≤ n := by
  constructor
  · intro h
    by_cases h0 : i = 0
    · exact .inl h0
    · refine .inr ?_
      rcases Nat.lt_or_ge n (128 ^ i) with hl | hl
      · obtain ⟨j, rfl⟩ : ∃ j, i = j + 1 := ⟨i - 1, by omega⟩
        have := vary_len_le j n hl
        omega
      · exact hl
  · rintro (rfl | h)
    · exact vary_pos n
    · exact vary_len_gt i n h

/-! ### numbers of a fixed size, the greatest byte first -/
def be : Nat → Nat → List Nat
  | 0, _ => []
  | k + 1, a => (a / 256 ^ k % 256) :: be k a
def bev : List Nat → Nat
  | [] => 0
  | b :: l => b * 256 ^ l.length + bev l
theorem be_len (k a : Nat) : (be k a).length = k := by induction k with | zero => rfl | succ k ih => simp [be, ih]
theorem be_lt (k a : Nat) : ∀ b ∈ be k a, b < 256 := by
  induction k with
  | zero => intro b h; simp [be] at h
  | succ k ih => intro b h; simp only [be, List.mem_cons] at h; rcases h with rfl | h <;> first | omega | exact ih b h
theorem bev_lt (l : List Nat) (h : ∀ b ∈ l, b < 256) : bev l < 256 ^ l.length := by
  induction l with
  | nil => simp [bev]
  | cons b l ih =>
    have h1 := ih (fun x hx => h x (by simp [hx]))
    have h2 : b < 256 := h b (by simp)
    simp only [bev, List.length_cons, Nat.pow_succ]
    have : b * 256 ^ l.length ≤ 255 * 256 ^ l.length := Nat.mul_le_mul_right _ (by omega)
    omega
theorem bev_be (k a : Nat) : bev (be k a) = a % 256 ^ k := by
  induction k with
  | zero => simp [be, bev, Nat.mod_one]
  | succ k ih =>
    simp only [be, bev, be_len, ih]
    rw [Nat.pow_succ, Nat.mod_mul, Nat.add_comm, Nat.mul_comm]
theorem be_bev (l : List Nat) (h : ∀ b ∈ l, b < 256) : be l.length (bev l) = l := by
  induction l with
  | nil => rfl
  | cons b l ih =>
    have h1 : ∀ b ∈ l, b < 256 := fun x hx => h x (by simp [hx])
    have h2 : b < 256 := h b (by simp)
    have h3 := bev_lt l h1
    have key : ∀ k, k ≤ l.length → be k (b * 256 ^ l.length + bev l) = be k (bev l) := by
      intro k
      induction k with
      | zero => intro _; rfl
      | succ k ihk =>
        intro hk
        simp only [be]
        rw [ihk (by omega)]
        congr 1
        have e : b * 256 ^ l.length = (b * 256 ^ (l.length - (k + 1))) * 256 * 256 ^ k := by
          rw [Nat.mul_assoc, Nat.mul_assoc, ← Nat.pow_succ', ← Nat.pow_add]
          congr 2; omega
        rw [e, Nat.add_comm, Nat.add_mul_div_right _ _ (Nat.pow_pos (by omega))]
        omega
    simp only [List.length_cons, bev, be]
    rw [key _ (Nat.le_refl _), ih h1]
    congr 1
    rw [Nat.add_comm, Nat.add_mul_div_right _ _ (Nat.pow_pos (by omega)), Nat.div_eq_of_lt h3]
    omega
theorem be_inj {k a b : Nat} (ha : a < 256 ^ k) (hb : b < 256 ^ k) (h : be k a = be k b) : a = b := by
  have := congrArg bev h
  rwa [bev_be, bev_be, Nat.mod_eq_of_lt ha, Nat.mod_eq_of_lt hb] at this
theorem bev_snoc (l : List Nat) (b : Nat) : bev (l ++ [b]) = bev l * 256 + b := by
  induction l with
  | nil => simp [bev]
  | cons a l ih =>
    simp only [List.cons_append, bev, ih, List.length_append, List.length_singleton, Nat.pow_succ]
    rw [Nat.add_mul, Nat.mul_assoc]; omega
/-- their order as bytes -/
def less : List Nat → List Nat → Bool
  | _, [] => false
  | [], _ :: _ => true
  | a :: l, b :: m => decide (a < b) || (decide (a = b) && less l m)
theorem less_be (k : Nat) : ∀ a b : Nat, a < 256 ^ k → b < 256 ^ k → (less (be k a) (be k b) = true ↔ a < b) := by
  have main : ∀ l m : List Nat, l.length = m.length → (∀ x ∈ l, x < 256) → (∀ x ∈ m, x < 256) → (less l m = true ↔ bev l < bev m) := by
    intro l
    induction l with
    | nil => intro m hl _ _; cases m with | nil => simp [less] | cons => simp at hl
    | cons a l ih =>
      intro m hl h1 h2
      cases m with
      | nil => simp at hl
      | cons b m =>
        have hl' : l.length = m.length := by simpa using hl
        have g1 := bev_lt l (fun x hx => h1 x (by simp [hx]))
        have g2 := bev_lt m (fun x hx => h2 x (by simp [hx]))
        have hi := ih m hl' (fun x hx => h1 x (by simp [hx])) (fun x hx => h2 x (by simp [hx]))
        simp only [less, bev, Bool.or_eq_true, Bool.and_eq_true, decide_eq_true_eq, hi]
        rw [hl'] at g1 ⊢
        rcases Nat.lt_trichotomy a b with h | h | h
        · have : (a + 1) * 256 ^ m.length ≤ b * 256 ^ m.length := Nat.mul_le_mul_right _ h
          rw [Nat.add_mul] at this
          constructor
          · intro _; omega
          · intro _; exact .inl h
        · subst h
          constructor
          · rintro (h | ⟨_, h⟩) <;> omega
          · intro h; exact .inr ⟨rfl, by omega⟩
        · have : (b + 1) * 256 ^ m.length ≤ a * 256 ^ m.length := Nat.mul_le_mul_right _ h
          rw [Nat.add_mul] at this
          constructor
          · rintro (h | ⟨h, _⟩) <;> omega
          · intro h; omega
  intro a b ha hb
  rw [main _ _ (by rw [be_len, be_len]) (be_lt k a) (be_lt k b), bev_be, bev_be, Nat.mod_eq_of_lt ha, Nat.mod_eq_of_lt hb]
end Go.Proofs.Ytplgbkobpanbfaa.Plain

/- What Vary, of package pack, answers: by lists of bytes. -/
set_option linter.unusedVariables false
set_option linter.unusedSimpArgs false
namespace Go.Proofs.Ytplgbkobpanbfaa.Pure
open Go.RowKit Go.Proofs.Ytplgbkobpanbfaa.Q Go.Proofs.YtplgbkobpanbfaaW.PrintWords Go.Proofs.YtplgbkobpanbfaaW.PrintLast Go.Proofs.YtplgbkobpanbfaaW.PrintMore Go.Proofs.Ytplgbkobpanbfaa.Plain

theorem u8_or_128 : ∀ m : Nat, m < 256 → Go.bits .or .u8 (m : Int) 128 = ((m % 128 + 128 : Nat) : Int) := by
  intro m hm
  have h : ∀ m : Fin 256, (m.val ||| 128) = m.val % 128 + 128 := by decide +kernel
  have h2 := u8_or_nat m 128 hm (by omega)
  rw [show ((128 : Nat) : Int) = 128 from rfl] at h2
  rw [h2, h ⟨m, hm⟩]
theorem u8_and_127 : ∀ m : Nat, m < 256 → Go.bits .and .u8 (m : Int) 127 = ((m % 128 : Nat) : Int) := by
  intro m hm
  have h : ∀ m : Fin 256, (m.val &&& 127) = m.val % 128 := by decide +kernel
  have h2 := u8_and_nat m 127 hm (by omega)
  rw [show ((127 : Nat) : Int) = 127 from rfl] at h2
  rw [h2, h ⟨m, hm⟩]

/-! ### Vary -/
theorem vary_tells (n : Nat) : ∀ (k : Nat) (acc : List Nat), (vary n).length < k → acc.length + (vary n).length ≤ 140737488355328 →
    pack_Vary.l0 k (n : Int) (NL acc) = some (strOfNums (NL (acc ++ vary n))) := by
  induction n using Nat.strongRecOn with
  | _ n ih =>
    intro k acc hk hl
    obtain ⟨k, rfl⟩ : ∃ m, k = m + 1 := ⟨k - 1, by omega⟩
    simp only [pack_Vary.l0]
    have hlen : (NL acc).length = acc.length := by simp [NL]
    by_cases h : n < 128
    · rw [vary_small h] at hl ⊢
      rw [if_neg (by omega), if_pos (by rw [hlen]; simp at hl; omega)]
      rw [show (n : Int) % 256 = (n : Int) by omega]
      simp [NL]
    · rw [vary_big h] at hl hk ⊢
      simp only [List.length_cons] at hl hk
      rw [if_pos (by omega), if_pos (by rw [hlen]; omega)]
      have e1 : (n : Int) / 128 = ((n / 128 : Nat) : Int) := by omega
      have e2 : (n : Int) % 256 = ((n % 256 : Nat) : Int) := by omega
      rw [e1, e2, u8_or_128 _ (by omega)]
      have e3 : NL acc ++ [((n % 256 % 128 + 128 : Nat) : Int)] = NL (acc ++ [n % 128 + 128]) := by
        rw [show n % 256 % 128 = n % 128 by omega]; simp [NL]
      rw [e3, ih (n / 128) (by omega) k _ (by omega) (by simp; omega)]
      simp
/-- what package pack puts for a number -/
def vs (n : Nat) : ByteArray := strOfNums (NL (vary n))
theorem bl_vs (n : Nat) : bl (vs n) = vary n := bl_str _ (vary_lt n)
theorem vs_size (n : Nat) : (vs n).size = (vary n).length := by rw [← bl_length, bl_vs]
theorem Vary_f {n k : Nat} (h : n < 18446744073709551616) (hk : 11 ≤ k) : pack_Vary.f k (n : Int) = some (vs n) := by
  have h1 := vary_len_ten h
  have := vary_tells n k [] (by omega) (by simp; omega)
  exact this

/-! ### reading such a number -/
/-- What a reader answers whose rest is 's': the number at its front, if one stands there. -/
inductive VaryRes (s : ByteArray) : Int × ByteArray × Bool → Prop
  | good (n : Nat) (rest : ByteArray) (hn : n < 18446744073709551616) (hs : bl s = vary n ++ bl rest) : VaryRes s ((n : Int), rest, false)
  | bad (h : ∀ n, n < 18446744073709551616 → ∀ r, bl s ≠ vary n ++ r) : VaryRes s (0, ⟨#[]⟩, true)
theorem VaryRes.unique {s : ByteArray} {a b : Int × ByteArray × Bool} (ha : VaryRes s a) (hb : VaryRes s b) : a = b := by
  cases ha with
  | good n r hn hs =>
    cases hb with
    | good m q hm ht =>
      obtain ⟨rfl, e⟩ := vary_prefix _ _ _ _ (hs.symm.trans ht)
      rw [bl_inj e]
    | bad h => exact absurd hs (h n hn _)
  | bad h =>
    cases hb with
    | good m q hm ht => exact absurd ht (h m hm _)
    | bad h => rfl
theorem acc_or (n i : Nat) (hn : n < 18446744073709551616) (hi : i < (vary n).length) :
    Go.bits .or .u64 ((n % 128 ^ i : Nat) : Int) (shl .u64 (IntKind.u64.wrap ((n / 128 ^ i % 128 : Nat) : Int)) (7 * (i : Int))) = ((n % 128 ^ (i + 1) : Nat) : Int) := by
  have h10 := vary_len_ten hn
  have hle : n % 128 ^ (i + 1) = n % 128 ^ i + 128 ^ i * (n / 128 ^ i % 128) := by rw [Nat.pow_succ, Nat.mod_mul]
  have hlt : n % 128 ^ (i + 1) ≤ n := Nat.mod_le _ _
  have hp : 0 < 128 ^ i := Nat.pow_pos (by omega)
  have hm : n % 128 ^ i < 128 ^ i := Nat.mod_lt _ hp
  have h7 : (128 : Nat) ^ i = 2 ^ (7 * i) := by rw [Nat.pow_mul]
  generalize hg : n / 128 ^ i % 128 = g at *
  have hg' : g < 128 := by omega
  generalize hc : n % 128 ^ i = c at *
  have hprod : 128 ^ i * g < 18446744073709551616 := by omega
  have hw : IntKind.u64.wrap (g : Int) = (g : Int) := wrap_u64 (by omega) (by omega)
  have hs : shl .u64 (g : Int) (7 * (i : Int)) = ((128 ^ i * g : Nat) : Int) := by
    unfold shl
    rw [show (7 * (i : Int)).toNat = 7 * i by omega, Nat.min_eq_left (by show 7 * i ≤ 64; omega)]
    have e : (g : Int) * 2 ^ (7 * i) = ((128 ^ i * g : Nat) : Int) := by rw [h7, Int.natCast_mul, Int.mul_comm]; simp
    rw [e, wrap_u64 (by omega) (by omega)]
  have hcn : c < 18446744073709551616 := by omega
  rw [hw, hs, u64_or_nat _ _ hcn hprod, hle]
  congr 1
  rw [h7] at hm ⊢
  rw [Nat.add_comm, Nat.two_pow_add_eq_or_of_lt hm, Nat.or_comm]
theorem u64_or_range (a b : Int) (h1 : 0 ≤ a) (h2 : a < 18446744073709551616) (h3 : 0 ≤ b) (h4 : b < 18446744073709551616) : 0 ≤ Go.bits .or .u64 a b ∧ Go.bits .or .u64 a b < 18446744073709551616 := by
  rw [u64_or a b h1 h2 h3 h4]
  have : a.toNat ||| b.toNat < 2 ^ 64 := Nat.or_lt_two_pow (by omega) (by omega)
  omega
theorem shl_range (x y : Int) : 0 ≤ shl .u64 x y ∧ shl .u64 x y < 18446744073709551616 := by
  unfold shl; simp only [IntKind.wrap_u64]; omega
theorem mn_lt {i n : Nat} (h : i < min n 10) : (i : Int) < mn (n : Int) 10 := by unfold mn; split <;> omega
theorem mn_ge {i n : Nat} (h : ¬ i < min n 10) : ¬ (i : Int) < mn (n : Int) 10 := by unfold mn; split <;> omega
theorem wrap_seven {i : Nat} (h : i < 10) : wrap64 (7 * (i : Int)) = 7 * (i : Int) := wrap64_id (by omega) (by omega)
theorem wrap_succ {i : Nat} (h : i < 10) : wrap64 ((i : Int) + 1) = ((i + 1 : Nat) : Int) := by rw [wrap64_id (by omega) (by omega)]; omega
/-- The loop, at any place: whatever was gathered is a number of 64 bits; and where a number stands at the front, it is its lower part. -/
theorem varyR_loop (s : ByteArray) (b : Bool) (hz : s.size ≤ 9223372036854775807) (d : Nat) : ∀ (k i : Nat) (x : Int), i + d = min s.size 10 → 0 ≤ x → x < 18446744073709551616 → d + 12 ≤ k →
    (∀ j, j < i → ∃ c, (bl s)[j]? = some c ∧ 128 ≤ c) →
    (∀ n, n < 18446744073709551616 → ∀ r, bl s = vary n ++ r → i < (vary n).length ∧ x = ((n % 128 ^ i : Nat) : Int)) →
    ∃ r, pack_Reader_Vary.l0 k x (mn (s.size : Int) 10) (i : Int) s b = some r ∧ VaryRes s r := by
  induction d with
  | zero =>
    intro k i x hi h0 h1 hk hall hn
    obtain ⟨k, rfl⟩ : ∃ m, k = m + 1 := ⟨k - 1, by omega⟩
    refine ⟨(0, ⟨#[]⟩, true), ?_, .bad fun n hn' r hs => ?_⟩
    · simp only [pack_Reader_Vary.l0]
      rw [if_neg (mn_ge (by omega))]
      rfl
    · have h2 := (hn n hn' r hs).1
      have h3 := vary_len_ten hn'
      have h4 : (vary n).length ≤ s.size := by rw [← bl_length, hs]; simp
      omega
  | succ d ih =>
    intro k i x hi h0 h1 hk hall hn
    obtain ⟨k, rfl⟩ : ∃ m, k = m + 1 := ⟨k - 1, by omega⟩
    have hlt : i < s.size := by omega
    have hi10 : i < 10 := by omega
    obtain ⟨c, hc, hbt, hc256⟩ := bt_bl s i hlt
    simp only [pack_Reader_Vary.l0]
    rw [if_pos (mn_lt (by omega)), if_pos (Int.natCast_nonneg i), if_pos (Int.ofNat_lt.2 hlt), hbt, wrap_seven hi10, if_pos (Int.mul_nonneg (by decide) (Int.natCast_nonneg i)), wrap_succ hi10, u8_and_127 _ hc256]
    clear hbt
    obtain ⟨G, hG⟩ : ∃ G, G = Go.bits .or .u64 x (shl .u64 (IntKind.u64.wrap ((c % 128 : Nat) : Int)) (7 * (i : Int))) := ⟨_, rfl⟩
    have hGr : 0 ≤ G ∧ G < 18446744073709551616 := by
      rw [hG]
      exact u64_or_range x _ h0 h1 (shl_range _ _).1 (shl_range _ _).2
    have hnext : ∀ n, n < 18446744073709551616 → ∀ r, bl s = vary n ++ r → c % 128 = n / 128 ^ i % 128 ∧ (128 ≤ c ↔ i + 1 < (vary n).length) ∧ G = ((n % 128 ^ (i + 1) : Nat) : Int) := by
      intro n hn' r hs
      obtain ⟨g1, g2⟩ := hn n hn' r hs
      have e : (bl s)[i]? = (vary n)[i]? := by rw [hs, List.getElem?_append_left g1]
      rw [hc, vary_get i n g1] at e
      have e := Option.some.inj e
      have e2 : c % 128 = n / 128 ^ i % 128 := by clear hG; rw [e]; split <;> omega
      refine ⟨e2, ?_, ?_⟩
      · clear hG; rw [e]; split <;> omega
      · rw [hG, e2, g2]; exact acc_or n i hn' g1
    rw [← hG]
    clear hG
    by_cases h128 : 128 ≤ c
    · rw [if_pos (show ((c : Nat) : Int) ≥ 128 by omega)]
      refine ih k (i + 1) _ (by omega) hGr.1 hGr.2 (by omega) ?_ ?_
      · intro j hj
        by_cases hji : j < i
        · exact hall j hji
        · obtain rfl : j = i := by omega
          exact ⟨c, hc, h128⟩
      · intro n hn' r hs
        obtain ⟨_, g2, g3⟩ := hnext n hn' r hs
        exact ⟨g2.1 h128, g3⟩
    · rw [if_neg (show ¬ ((c : Nat) : Int) ≥ 128 by omega), if_pos (show (0 : Int) ≤ ((i + 1 : Nat) : Int) by omega), if_pos (show ((i + 1 : Nat) : Int) ≤ (s.size : Int) by omega)]
      obtain ⟨m, rfl⟩ := Int.eq_ofNat_of_zero_le hGr.1
      rw [Vary_f (by omega) (by omega)]
      simp only [Option.bind_some]
      rw [show (((i + 1 : Nat) : Int)).toNat = i + 1 by omega]
      by_cases he : (s.extract 0 (i + 1)).toList = (vs m).toList
      · rw [if_pos he]
        refine ⟨_, rfl, .good m _ (by omega) ?_⟩
        have e1 : bl (s.extract 0 (i + 1)) = vary m := by rw [toList_iff.1 he, bl_vs]
        rw [bl_extract, List.drop_zero] at e1
        rw [← e1, bl_drop, List.take_append_drop]
      · rw [if_neg he]
        refine ⟨_, rfl, .bad fun n hn' r hs => he ?_⟩
        obtain ⟨g1, g2, g3⟩ := hnext n hn' r hs
        have g4 := (hn n hn' r hs).1
        have hl : (vary n).length = i + 1 := by omega
        have hnm : n % 128 ^ (i + 1) = n := Nat.mod_eq_of_lt (by
          rcases Nat.lt_or_ge n (128 ^ (i + 1)) with h | h
          · exact h
          · have := vary_len_gt (i + 1) n h; omega)
        rw [hnm] at g3
        have : m = n := by omega
        subst this
        rw [toList_iff]
        apply bl_inj
        rw [bl_vs, bl_extract, List.drop_zero, hs, ← hl, List.take_left]
theorem ReaderVary_f (s : ByteArray) (b : Bool) (hz : s.size ≤ 9223372036854775807) {k : Nat} (hk : 22 ≤ k) :
    ∃ r, pack_Reader_Vary.f k s b = some r ∧ (b = false → VaryRes s r) ∧ (b = true → r = (0, ⟨#[]⟩, true)) := by
  unfold pack_Reader_Vary.f
  cases b with
  | true => exact ⟨_, rfl, (fun h => by cases h), (fun _ => rfl)⟩
  | false =>
    obtain ⟨r, h1, h2⟩ := varyR_loop s false hz (min s.size 10) k 0 0 (by omega) (by omega) (by omega) (by omega) (fun j hj => by omega) (fun n _ r _ => ⟨vary_pos n, by simp [Nat.mod_one]⟩)
    exact ⟨r, by rw [if_neg (by simp)]; exact h1, (fun _ => h2), (fun h => by cases h)⟩
/-- From now on: enough rounds are 22. -/
theorem ReaderVary_good {s : ByteArray} {n : Nat} {rest : ByteArray} (hz : s.size ≤ 9223372036854775807) (hn : n < 18446744073709551616) (hs : bl s = vary n ++ bl rest) {k : Nat} (hk : 22 ≤ k) :
    pack_Reader_Vary.f k s false = some ((n : Int), rest, false) := by
  obtain ⟨r, h1, h2, _⟩ := ReaderVary_f s false hz hk
  rw [h1, VaryRes.unique (h2 rfl) (.good n rest hn hs)]
theorem ReaderVary_bad {s : ByteArray} (hz : s.size ≤ 9223372036854775807) (h : ∀ n, n < 18446744073709551616 → ∀ r, bl s ≠ vary n ++ r) {k : Nat} (hk : 22 ≤ k) :
    pack_Reader_Vary.f k s false = some (0, ⟨#[]⟩, true) := by
  obtain ⟨r, h1, h2, _⟩ := ReaderVary_f s false hz hk
  rw [h1, VaryRes.unique (h2 rfl) (.bad h)]
theorem ReaderVary_true {s : ByteArray} (hz : s.size ≤ 9223372036854775807) {k : Nat} (hk : 22 ≤ k) : pack_Reader_Vary.f k s true = some (0, ⟨#[]⟩, true) := by
  obtain ⟨r, h1, _, h2⟩ := ReaderVary_f s true hz hk
  rw [h1, h2 rfl]

theorem vary_step {s : ByteArray} {b : Bool} (hz : s.size ≤ 9223372036854775807) {k : Nat} (hk : 22 ≤ k) :
    ∃ v t c, pack_Reader_Vary.f k s b = some (v, t, c) ∧ t.size ≤ s.size ∧ (c = false → b = false ∧ ∃ n, n < 18446744073709551616 ∧ v = (n : Nat) ∧ bl s = vary n ++ bl t) := by
  cases b with
  | true => exact ⟨_, _, _, ReaderVary_true hz hk, Nat.zero_le _, fun h => absurd h (by simp)⟩
  | false =>
    obtain ⟨r, h1, h2, _⟩ := ReaderVary_f s false hz hk
    cases h2 rfl with
    | good n rest hn hs =>
      refine ⟨_, _, _, h1, ?_, fun _ => ⟨rfl, n, hn, rfl, hs⟩⟩
      rw [← bl_length, ← bl_length, hs]; simp
    | bad h => exact ⟨_, _, _, h1, Nat.zero_le _, fun h => absurd h (by simp)⟩
end Go.Proofs.Ytplgbkobpanbfaa.Pure

/- What the printed functions of package pack answer, in plain words: by lists of bytes. -/
set_option linter.unusedVariables false
set_option linter.unusedSimpArgs false
namespace Go.Proofs.Ytplgbkobpanbfaa.Pure
open Go.RowKit Go.Proofs.Ytplgbkobpanbfaa.Q Go.Proofs.YtplgbkobpanbfaaW.PrintWords Go.Proofs.YtplgbkobpanbfaaW.PrintLast Go.Proofs.YtplgbkobpanbfaaW.PrintMore Go.Proofs.Ytplgbkobpanbfaa.Plain

theorem pow_small {n : Nat} (h : n ≤ 9223372036854775807) : n < 18446744073709551616 := by omega
theorem Text_f {s : ByteArray} (h : s.size + 10 ≤ 9223372036854775807) {k : Nat} (hk : 11 ≤ k) : pack_Text.f k s = some (vs s.size ++ s) := by
  unfold pack_Text.f
  have h10 := vary_len_ten (pow_small (show s.size ≤ 9223372036854775807 by omega))
  rw [if_pos (by omega), Vary_f (by omega) hk]
  simp only [Option.bind_some]
  rw [if_pos (by rw [vs_size]; omega)]
/-- What a reader answers that is asked for a text of at most so many bytes. -/
inductive TextRes (s : ByteArray) (most : Int) : ByteArray × ByteArray × Bool → Prop
  | good (t rest : ByteArray) (hs : bl s = vary t.size ++ bl t ++ bl rest) (hm : (t.size : Int) ≤ most) : TextRes s most (t, rest, false)
  | bad (h : ∀ t rest : ByteArray, (t.size : Int) ≤ most → bl s ≠ vary t.size ++ bl t ++ bl rest) : TextRes s most (⟨#[]⟩, ⟨#[]⟩, true)
theorem vary_text_inj {t u r q : ByteArray} (hz : t.size ≤ 9223372036854775807) (h : vary t.size ++ bl t ++ bl r = vary u.size ++ bl u ++ bl q) : t = u ∧ r = q := by
  rw [List.append_assoc, List.append_assoc] at h
  obtain ⟨e, h⟩ := vary_prefix _ _ _ _ h
  have hl : (bl t).length = (bl u).length := by rw [bl_length, bl_length, e]
  obtain ⟨e1, e2⟩ := List.append_inj h hl
  exact ⟨bl_inj e1, bl_inj e2⟩
theorem TextRes.unique {s : ByteArray} {most : Int} {a b : ByteArray × ByteArray × Bool} (hz : s.size ≤ 9223372036854775807) (ha : TextRes s most a) (hb : TextRes s most b) : a = b := by
  cases ha with
  | good t r hs hm =>
    have hl : t.size ≤ 9223372036854775807 := by
      have := congrArg List.length hs
      rw [bl_length, List.length_append, List.length_append, bl_length] at this
      omega
    cases hb with
    | good u q ht hm' =>
      obtain ⟨rfl, rfl⟩ := vary_text_inj hl (hs.symm.trans ht)
      rfl
    | bad h => exact absurd hs (h t r hm)
  | bad h =>
    cases hb with
    | good u q ht hm' => exact absurd ht (h u q hm')
    | bad h => rfl
theorem mn_cases (a b : Int) : mn a b ≤ a ∧ mn a b ≤ b ∧ (mn a b = a ∨ mn a b = b) := by unfold mn; split <;> omega
theorem ReaderText_f (s : ByteArray) (most : Int) (hz : s.size ≤ 9223372036854775807) {k : Nat} (hk : 22 ≤ k) : ∃ r, pack_Reader_Text.f k s false most = some r ∧ TextRes s most r := by
  unfold pack_Reader_Text.f
  obtain ⟨r, h1, h2, _⟩ := ReaderVary_f s false hz hk
  rw [h1]
  simp only [Option.bind_some]
  cases h2 rfl with
  | bad h =>
    refine ⟨(⟨#[]⟩, ⟨#[]⟩, true), rfl, .bad fun t rest hm hs => ?_⟩
    have hl : t.size ≤ 9223372036854775807 := by
      have := congrArg List.length hs
      rw [bl_length, List.length_append, List.length_append, bl_length] at this
      omega
    rw [List.append_assoc] at hs
    exact h t.size (by omega) _ hs
  | good n rest hn hs =>
    have hrs : rest.size ≤ s.size := by rw [← bl_length, ← bl_length, hs]; simp
    rw [if_neg (by simp)]
    dsimp only
    have none : (∀ u q : ByteArray, (u.size : Int) ≤ most → bl s = vary u.size ++ bl u ++ bl q → (n : Int) ≤ most ∧ n ≤ rest.size) := by
      intro u q hm ht
      rw [List.append_assoc] at ht
      obtain ⟨e, e2⟩ := vary_prefix _ _ _ _ (hs.symm.trans ht)
      have := congrArg List.length e2
      rw [List.length_append, bl_length, bl_length] at this
      omega
    by_cases c1 : most < 0
    · rw [if_pos c1]
      exact ⟨_, rfl, .bad fun u q hm ht => by omega⟩
    · rw [if_neg c1]
      obtain ⟨m1, m2, m3⟩ := mn_cases most (rest.size : Int)
      have hw : IntKind.u64.wrap (mn most (rest.size : Int)) = mn most (rest.size : Int) := wrap_u64 (by omega) (by omega)
      rw [hw]
      clear hw
      generalize mn most (rest.size : Int) = M at *
      by_cases c2 : (n : Int) > M
      · rw [if_pos c2]
        refine ⟨_, rfl, .bad fun u q hm ht => ?_⟩
        have := none u q hm ht
        omega
      · rw [if_neg c2, if_pos (by omega), if_pos (by omega)]
        refine ⟨_, rfl, .good _ _ ?_ ?_⟩
        · rw [show ((n : Int)).toNat = n by omega]
          have e : (rest.extract 0 n).size = n := by simp; omega
          rw [e, hs, bl_take, bl_drop, List.append_assoc, List.take_append_drop]
        · rw [show ((n : Int)).toNat = n by omega]
          have e : (rest.extract 0 n).size = n := by simp; omega
          rw [e]; omega
theorem ReaderText_true {s : ByteArray} {most : Int} (hz : s.size ≤ 9223372036854775807) {k : Nat} (hk : 22 ≤ k) : pack_Reader_Text.f k s true most = some (⟨#[]⟩, ⟨#[]⟩, true) := by
  unfold pack_Reader_Text.f
  rw [ReaderVary_true hz hk]
  rfl
theorem ReaderText_good {s t rest : ByteArray} {most : Int} (hz : s.size ≤ 9223372036854775807) (hs : bl s = vary t.size ++ bl t ++ bl rest) (hm : (t.size : Int) ≤ most) {k : Nat} (hk : 22 ≤ k) :
    pack_Reader_Text.f k s false most = some (t, rest, false) := by
  obtain ⟨r, h1, h2⟩ := ReaderText_f s most hz hk
  rw [h1, TextRes.unique hz h2 (.good t rest hs hm)]
theorem ReaderText_bad {s : ByteArray} {most : Int} (hz : s.size ≤ 9223372036854775807) (h : ∀ t rest : ByteArray, (t.size : Int) ≤ most → bl s ≠ vary t.size ++ bl t ++ bl rest) {k : Nat} (hk : 22 ≤ k) :
    pack_Reader_Text.f k s false most = some (⟨#[]⟩, ⟨#[]⟩, true) := by
  obtain ⟨r, h1, h2⟩ := ReaderText_f s most hz hk
  rw [h1, TextRes.unique hz h2 (.bad h)]

/-! ### numbers of a fixed size -/
def nb (n k : Nat) : ByteArray := strOfNums (NL (be k n))
theorem bl_nb (n k : Nat) : bl (nb n k) = be k n := bl_str _ (be_lt k n)
theorem nb_size (n k : Nat) : (nb n k).size = k := by rw [← bl_length, bl_nb, be_len]
theorem numL_be (n k : Nat) : numL (n : Int) k = NL (be k n) := by
  unfold numL NL
  have h : be k n = (List.range k).map fun j => n / 256 ^ (k - 1 - j) % 256 := by
    induction k with
    | zero => rfl
    | succ k ih =>
      rw [List.range_succ_eq_map, List.map_cons, List.map_map]
      simp only [be]
      congr 1
      rw [ih]
      apply List.map_congr_left
      intro j hj
      have := List.mem_range.1 hj
      simp only [Function.comp]
      rw [show k - 1 - j = k + 1 - 1 - (j + 1) by omega]
  rw [h, List.map_map]
  apply List.map_congr_left
  intro j hj
  simp only [Function.comp, Nat.pow_mul, Int.natCast_emod, Int.natCast_ediv]
  rfl
theorem Number_f (n : Nat) (k : Int) (h1 : 1 ≤ k) (h8 : k ≤ 8) : pack_Number.f (n : Int) k = some (nb n k.toNat) := by
  unfold pack_Number.f
  rw [if_neg (by omega), if_neg (by omega), numL_be]; rfl
theorem Number_none (x : Int) (k : Int) (h : k < 1 ∨ 8 < k) : pack_Number.f x k = some ⟨#[]⟩ := by
  unfold pack_Number.f
  by_cases h1 : k < 1
  · rw [if_pos h1]
  · rw [if_neg h1, if_pos (by omega)]
theorem rnum_bev (s : ByteArray) (k : Nat) (hk : k ≤ 8) (hs : k ≤ s.size) : rnum s k = ((bev ((bl s).take k) : Nat) : Int) := by
  induction k with
  | zero => rfl
  | succ k ih =>
    have ih := ih (by omega) (by omega)
    obtain ⟨c, hc, hbt, hc256⟩ := bt_bl s k (by omega)
    have hlt := bev_lt ((bl s).take k) (fun b hb => bl_lt s b (List.mem_of_mem_take hb))
    have hll : ((bl s).take k).length = k := by rw [List.length_take, bl_length]; omega
    rw [hll] at hlt
    have hp : 256 ^ k ≤ 256 ^ 7 := Nat.pow_le_pow_right (by omega) (by omega)
    simp only [rnum]
    rw [ih, hbt, List.take_add_one, hc]
    simp only [Option.toList]
    rw [bev_snoc]
    generalize bev ((bl s).take k) = v at *
    rw [wrap_u64 (by omega) (by omega), wrap_u64 (by omega) (by omega)]
    have e : (v : Int) * 256 = ((2 ^ 8 * v : Nat) : Int) := by omega
    rw [e, u64_or_nat _ _ (by omega) (by omega)]
    rw [Nat.mul_comm v 256]
    congr 1
    exact (Nat.two_pow_add_eq_or_of_lt (i := 8) (by omega) v).symm
/-- What a reader answers that is asked for a number of so many bytes. -/
theorem ReaderNumber_good {s : ByteArray} {k : Int} (h1 : 1 ≤ k) (h8 : k ≤ 8) (hs : k ≤ (s.size : Int)) (hz : s.size ≤ 9223372036854775807) :
    pack_Reader_Number.f s false k = some (((bev ((bl s).take k.toNat) : Nat) : Int), s.extract k.toNat s.size, false) := by
  unfold pack_Reader_Number.f
  rw [if_pos hz, if_neg (by simp), if_neg (show ¬ k < 1 by omega), if_neg (show ¬ 8 < k by omega), if_neg (show ¬ (s.size : Int) < k by omega), rnum_bev s k.toNat (by omega) (by omega)]
theorem ReaderNumber_bad {s : ByteArray} {b : Bool} {k : Int} (h : b = true ∨ k < 1 ∨ 8 < k ∨ (s.size : Int) < k) (hz : s.size ≤ 9223372036854775807) :
    pack_Reader_Number.f s b k = some (0, ⟨#[]⟩, true) := by
  unfold pack_Reader_Number.f
  rw [if_pos hz]
  cases b with
  | true => rw [if_pos rfl]
  | false =>
    rw [if_neg (by simp)]
    by_cases c1 : k < 1
    · rw [if_pos c1]
    · rw [if_neg c1]
      by_cases c2 : 8 < k
      · rw [if_pos c2]
      · rw [if_neg c2, if_pos (show (s.size : Int) < k by simp at h; omega)]
theorem Done_f (s : ByteArray) (b : Bool) : pack_Reader_Done.f s b = some (!b && decide (s = ⟨#[]⟩)) := by
  unfold pack_Reader_Done.f
  cases b with
  | true => rfl
  | false =>
    rw [if_neg (by simp)]
    congr 1
    rw [Bool.eq_iff_iff, beq_iff_eq]
    simp only [Bool.not_false, Bool.true_and, decide_eq_true_eq]
    exact ⟨fun h => toList_iff.1 (by rw [h, toList_data]), fun h => by rw [h, toList_data]⟩
end Go.Proofs.Ytplgbkobpanbfaa.Pure

namespace Go.Proofs.Ytplgbkobpanbfaa.Q
open Go.RowKit Go.Proofs.YtplgbkobpanbfaaW.PrintWords Go.Proofs.YtplgbkobpanbfaaW.PrintLast Go.Proofs.YtplgbkobpanbfaaW.PrintMore
attribute [local go_sem] max2_int min2_int max_two min_two max_three min_three max_four min_four   -- for this text's walks alone
set_option linter.unusedVariables false
set_option linter.unusedSimpArgs false
/-! ### tenementlaw19_Asked_request: function 10 -/
-- FOREIGN: a record's eight parts are changed, one by one
def tenementlaw19_Asked_request.f (a0_0 : ByteArray) (a0_1 : Int) (a0_2 : Int) (a0_3 : Int) (a0_4 : Int) (a0_5 : ByteArray) (a0_6 : ByteArray) (a0_7 : ByteArray) (a0_8 : Bool) : Option (ByteArray × Int × Int × Int × Int × ByteArray × ByteArray × ByteArray) := if a0_8 = true then (if a0_0.size ≤ 9223372036854775807 ∧ a0_5.size ≤ 9223372036854775807 ∧ a0_6.size ≤ 9223372036854775807 ∧ a0_7.size ≤ 9223372036854775807 then some (a0_0.extract 0 (min a0_0.size 128), wrap64 (Int.tmod (IntKind.u64.wrap a0_1) 256), wrap64 (Int.tmod (IntKind.u64.wrap a0_2) 256), wrap64 (Int.tmod (IntKind.u64.wrap a0_3) 256), wrap64 (Int.tmod (IntKind.u64.wrap a0_4) 256), a0_5.extract 0 (min a0_5.size 64), a0_6.extract 0 (min a0_6.size 64), a0_7.extract 0 (min a0_7.size 64)) else none) else some (a0_0, a0_1, a0_2, a0_3, a0_4, a0_5, a0_6, a0_7)
theorem tenementlaw19_Asked_request.mn_ (n m : Nat) : mn (n : Int) (m : Int) = ((min n m : Nat) : Int) := by unfold mn; split <;> omega
theorem tenementlaw19_Asked_request.boxes3 (w : World) (xs ys zs : Array Value) (t1 t2 t3 : TypeId) (W : World) (h : ((w.alloc (.cells xs t1)).alloc (.cells ys t2)).alloc (.cells zs t3) = W) :
    W.heap[w.heap.size]? = some (.cells xs t1 (0,0)) ∧ W.heap[w.heap.size+1]? = some (.cells ys t2 (0,0)) ∧ W.heap[w.heap.size+1+1]? = some (.cells zs t3 (0,0)) ∧ Below w.heap.size w W := by
  subst h
  have s1 : (w.alloc (.cells xs t1)).heap.size = w.heap.size + 1 := by simp [World.alloc, -World.alloc_eq]
  have s2 : ((w.alloc (.cells xs t1)).alloc (.cells ys t2)).heap.size = w.heap.size + 1 + 1 := by simp [World.alloc, -World.alloc_eq]
  refine ⟨blk_alloc (blk_alloc (blk_new _ _) _) _, ?_, ?_, below_alloc (below_alloc (below_alloc (Below.refl _ _) _) _) _⟩
  · rw [← s1]; exact blk_alloc (blk_new _ _) _
  · rw [← s2]; exact blk_new _ _
set_option maxHeartbeats 8000000 in
set_option maxRecDepth 100000 in
theorem tenementlaw19_Asked_request.calls (a0_0 : ByteArray) (a0_1 : Int) (a0_2 : Int) (a0_3 : Int) (a0_4 : Int) (a0_5 : ByteArray) (a0_6 : ByteArray) (a0_7 : ByteArray) (a0_8 : Bool) (r1 : ByteArray) (r2 : Int) (r3 : Int) (r4 : Int) (r5 : Int) (r6 : ByteArray) (r7 : ByteArray) (r8 : ByteArray) (w : World) (h : tenementlaw19_Asked_request.f a0_0 a0_1 a0_2 a0_3 a0_4 a0_5 a0_6 a0_7 a0_8 = some (r1, r2, r3, r4, r5, r6, r7, r8)) :
    Calls Try.prog 10 #[.agg #[.string a0_0, .int .i64 a0_1, .int .i64 a0_2, .int .i64 a0_3, .int .i64 a0_4, .string a0_5, .string a0_6, .string a0_7, .bool a0_8]] w fun e w' => e = .returned (.agg #[.string r1, .int .i64 r2, .int .i64 r3, .int .i64 r4, .int .i64 r5, .string r6, .string r7, .string r8]) ∧ Below w.heap.size w w' := by
  unfold tenementlaw19_Asked_request.f at h
  have hu := Try.underlying23
  cases a0_8 with
  | false =>
    rw [if_neg (by simp)] at h
    simp only [Option.some.injEq, Prod.mk.injEq] at h
    obtain ⟨rfl, rfl, rfl, rfl, rfl, rfl, rfl, rfl⟩ := h
    go_enter Try.func10, Try.ntmps10
    go_wp2
    generalize hW : (((w.alloc (Obj.cells #[.string a0_0, .int .i64 a0_1, .int .i64 a0_2, .int .i64 a0_3, .int .i64 a0_4, .string a0_5, .string a0_6, .string a0_7, .bool false] 25)).alloc (Obj.cells #[.string a0_0, .int .i64 a0_1, .int .i64 a0_2, .int .i64 a0_3, .int .i64 a0_4, .string a0_5, .string a0_6, .string a0_7] 23)).alloc (Obj.cells #[.string a0_0, .int .i64 a0_1, .int .i64 a0_2, .int .i64 a0_3, .int .i64 a0_4, .string a0_5, .string a0_6, .string a0_7] 23)) = W0
    obtain ⟨hA, hR, hQ, HB⟩ := tenementlaw19_Asked_request.boxes3 _ _ _ _ _ _ _ _ hW
    clear hW
    obtain ⟨B0, hB0⟩ : ∃ B0, B0 = w.heap.size := ⟨_, rfl⟩
    obtain ⟨B1, hB1⟩ : ∃ B1, B1 = w.heap.size + 1 := ⟨_, rfl⟩
    obtain ⟨B2, hB2⟩ : ∃ B2, B2 = w.heap.size + 1 + 1 := ⟨_, rfl⟩
    rw [← hB2, ← hB1, ← hB0]
    rw [← hB0] at hA
    rw [← hB1] at hR
    rw [← hB2] at hQ
    have gAR : B0 ≠ B1 := by omega
    have gAQ : B0 ≠ B2 := by omega
    have gRQ : B1 ≠ B2 := by omega
    have GA := Aside0.mk (show w.heap.size ≤ B0 by omega)
    have GR := Aside0.mk (show w.heap.size ≤ B1 by omega)
    have GQ := Aside0.mk (show w.heap.size ≤ B2 by omega)
    clear hB1 hB2
    replace hB0 := Aside0.mk hB0
    replace HB := Aside0.mk HB
    replace hA := Aside0.mk hA
    replace hR := Aside0.mk hR
    replace hQ := Aside0.mk hQ
    have d0 := (blk_cell hR.out 0).trans rfl
    have d1 := (blk_cell hR.out 1).trans rfl
    have d2 := (blk_cell hR.out 2).trans rfl
    have d3 := (blk_cell hR.out 3).trans rfl
    have d4 := (blk_cell hR.out 4).trans rfl
    have d5 := (blk_cell hR.out 5).trans rfl
    have d6 := (blk_cell hR.out 6).trans rfl
    have d7 := (blk_cell hR.out 7).trans rfl
    refine bodyPost_ret (v := .agg #[.string a0_0, .int .i64 a0_1, .int .i64 a0_2, .int .i64 a0_3, .int .i64 a0_4, .string a0_5, .string a0_6, .string a0_7]) (by simp [results, Try.results10, go_sem, hu, d0, d1, d2, d3, d4, d5, d6, d7]) rfl ⟨rfl, by first | exact HB.out | (rw [hB0.out]; exact HB.out)⟩
  | true =>
    rw [if_pos rfl] at h
    by_cases hz : a0_0.size ≤ 9223372036854775807 ∧ a0_5.size ≤ 9223372036854775807 ∧ a0_6.size ≤ 9223372036854775807 ∧ a0_7.size ≤ 9223372036854775807
    · rw [if_pos hz] at h
      simp only [Option.some.injEq, Prod.mk.injEq] at h
      obtain ⟨rfl, rfl, rfl, rfl, rfl, rfl, rfl, rfl⟩ := h
      obtain ⟨z0, z5, z6, z7⟩ := hz
      go_enter Try.func10, Try.ntmps10
      go_upto_region 3 with fail
      rename_i K3 hK3
      replace hK3 := Aside0.mk hK3
      generalize hW : (((w.alloc (Obj.cells #[.string a0_0, .int .i64 a0_1, .int .i64 a0_2, .int .i64 a0_3, .int .i64 a0_4, .string a0_5, .string a0_6, .string a0_7, .bool true] 25)).alloc (Obj.cells #[.string (⟨#[]⟩ : ByteArray), .int .i64 0, .int .i64 0, .int .i64 0, .int .i64 0, .string (⟨#[]⟩ : ByteArray), .string (⟨#[]⟩ : ByteArray), .string (⟨#[]⟩ : ByteArray)] 23)).alloc (Obj.cells #[.string a0_0, .int .i64 a0_1, .int .i64 a0_2, .int .i64 a0_3, .int .i64 a0_4, .string a0_5, .string a0_6, .string a0_7] 23)) = W0
      obtain ⟨hA, hR, hQ, HB⟩ := tenementlaw19_Asked_request.boxes3 _ _ _ _ _ _ _ _ hW
      clear hW
      obtain ⟨B0, hB0⟩ : ∃ B0, B0 = w.heap.size := ⟨_, rfl⟩
      obtain ⟨B1, hB1⟩ : ∃ B1, B1 = w.heap.size + 1 := ⟨_, rfl⟩
      obtain ⟨B2, hB2⟩ : ∃ B2, B2 = w.heap.size + 1 + 1 := ⟨_, rfl⟩
      rw [← hB2, ← hB1, ← hB0]
      rw [← hB0] at hA
      rw [← hB1] at hR
      rw [← hB2] at hQ
      have gAR : B0 ≠ B1 := by omega
      have gAQ : B0 ≠ B2 := by omega
      have gRQ : B1 ≠ B2 := by omega
      have GA := Aside0.mk (show w.heap.size ≤ B0 by omega)
      have GR := Aside0.mk (show w.heap.size ≤ B1 by omega)
      have GQ := Aside0.mk (show w.heap.size ≤ B2 by omega)
      clear hB1 hB2
      replace hB0 := Aside0.mk hB0
      replace HB := Aside0.mk HB
      replace hA := Aside0.mk hA
      replace hR := Aside0.mk hR
      replace hQ := Aside0.mk hQ
      have fQ1 := blk_frozen hQ.out 1
      have cQ1 := (blk_cell hQ.out 1).trans rfl
      go_wp2
      clear fQ1 cQ1
      have hA1 := Aside0.mk (blk_far hA.out (p := ⟨B2, 1, none⟩) gAQ (.int .i64 (wrap64 (Int.tmod (IntKind.u64.wrap a0_1) 256))))
      have hR1 := Aside0.mk (blk_far hR.out (p := ⟨B2, 1, none⟩) gRQ (.int .i64 (wrap64 (Int.tmod (IntKind.u64.wrap a0_1) 256))))
      have hQ1 := Aside0.mk (blk_put hQ.out 1 (.int .i64 (wrap64 (Int.tmod (IntKind.u64.wrap a0_1) 256))) (cs' := #[.string a0_0, .int .i64 (wrap64 (Int.tmod (IntKind.u64.wrap a0_1) 256)), .int .i64 a0_2, .int .i64 a0_3, .int .i64 a0_4, .string a0_5, .string a0_6, .string a0_7]) rfl)
      have HB1 := Aside0.mk (below_set (j := 1) (v := .int .i64 (wrap64 (Int.tmod (IntKind.u64.wrap a0_1) 256))) HB.out GQ.out)
      clear HB hA hR hQ
      generalize hW_ : (W0.setCell ⟨B2, 1, none⟩ (.int .i64 (wrap64 (Int.tmod (IntKind.u64.wrap a0_1) 256)))) = W1 at *
      clear hW_
      have hA := hA1
      have hR := hR1
      have hQ := hQ1
      have HB := HB1
      clear HB1 hA1 hR1 hQ1
      refine hK3.out _ _ ?_
      clear hK3 K3
      refine wp_seq_k (fun K4 hK4 => ?_)
      replace hK4 := Aside0.mk hK4
      have fQ2 := blk_frozen hQ.out 2
      have cQ2 := (blk_cell hQ.out 2).trans rfl
      go_wp2
      clear fQ2 cQ2
      have hA1 := Aside0.mk (blk_far hA.out (p := ⟨B2, 2, none⟩) gAQ (.int .i64 (wrap64 (Int.tmod (IntKind.u64.wrap a0_2) 256))))
      have hR1 := Aside0.mk (blk_far hR.out (p := ⟨B2, 2, none⟩) gRQ (.int .i64 (wrap64 (Int.tmod (IntKind.u64.wrap a0_2) 256))))
      have hQ1 := Aside0.mk (blk_put hQ.out 2 (.int .i64 (wrap64 (Int.tmod (IntKind.u64.wrap a0_2) 256))) (cs' := #[.string a0_0, .int .i64 (wrap64 (Int.tmod (IntKind.u64.wrap a0_1) 256)), .int .i64 (wrap64 (Int.tmod (IntKind.u64.wrap a0_2) 256)), .int .i64 a0_3, .int .i64 a0_4, .string a0_5, .string a0_6, .string a0_7]) rfl)
      have HB1 := Aside0.mk (below_set (j := 2) (v := .int .i64 (wrap64 (Int.tmod (IntKind.u64.wrap a0_2) 256))) HB.out GQ.out)
      clear HB hA hR hQ
      generalize hW_ : (W1.setCell ⟨B2, 2, none⟩ (.int .i64 (wrap64 (Int.tmod (IntKind.u64.wrap a0_2) 256)))) = W2 at *
      clear hW_
      have hA := hA1
      have hR := hR1
      have hQ := hQ1
      have HB := HB1
      clear HB1 hA1 hR1 hQ1
      refine hK4.out _ _ ?_
      clear hK4 K4
      refine wp_seq_k (fun K5 hK5 => ?_)
      replace hK5 := Aside0.mk hK5
      have fQ3 := blk_frozen hQ.out 3
      have cQ3 := (blk_cell hQ.out 3).trans rfl
      go_wp2
      clear fQ3 cQ3
      have hA1 := Aside0.mk (blk_far hA.out (p := ⟨B2, 3, none⟩) gAQ (.int .i64 (wrap64 (Int.tmod (IntKind.u64.wrap a0_3) 256))))
      have hR1 := Aside0.mk (blk_far hR.out (p := ⟨B2, 3, none⟩) gRQ (.int .i64 (wrap64 (Int.tmod (IntKind.u64.wrap a0_3) 256))))
      have hQ1 := Aside0.mk (blk_put hQ.out 3 (.int .i64 (wrap64 (Int.tmod (IntKind.u64.wrap a0_3) 256))) (cs' := #[.string a0_0, .int .i64 (wrap64 (Int.tmod (IntKind.u64.wrap a0_1) 256)), .int .i64 (wrap64 (Int.tmod (IntKind.u64.wrap a0_2) 256)), .int .i64 (wrap64 (Int.tmod (IntKind.u64.wrap a0_3) 256)), .int .i64 a0_4, .string a0_5, .string a0_6, .string a0_7]) rfl)
      have HB1 := Aside0.mk (below_set (j := 3) (v := .int .i64 (wrap64 (Int.tmod (IntKind.u64.wrap a0_3) 256))) HB.out GQ.out)
      clear HB hA hR hQ
      generalize hW_ : (W2.setCell ⟨B2, 3, none⟩ (.int .i64 (wrap64 (Int.tmod (IntKind.u64.wrap a0_3) 256)))) = W3 at *
      clear hW_
      have hA := hA1
      have hR := hR1
      have hQ := hQ1
      have HB := HB1
      clear HB1 hA1 hR1 hQ1
      refine hK5.out _ _ ?_
      clear hK5 K5
      refine wp_seq_k (fun K6 hK6 => ?_)
      replace hK6 := Aside0.mk hK6
      have fQ4 := blk_frozen hQ.out 4
      have cQ4 := (blk_cell hQ.out 4).trans rfl
      go_wp2
      clear fQ4 cQ4
      have hA1 := Aside0.mk (blk_far hA.out (p := ⟨B2, 4, none⟩) gAQ (.int .i64 (wrap64 (Int.tmod (IntKind.u64.wrap a0_4) 256))))
      have hR1 := Aside0.mk (blk_far hR.out (p := ⟨B2, 4, none⟩) gRQ (.int .i64 (wrap64 (Int.tmod (IntKind.u64.wrap a0_4) 256))))
      have hQ1 := Aside0.mk (blk_put hQ.out 4 (.int .i64 (wrap64 (Int.tmod (IntKind.u64.wrap a0_4) 256))) (cs' := #[.string a0_0, .int .i64 (wrap64 (Int.tmod (IntKind.u64.wrap a0_1) 256)), .int .i64 (wrap64 (Int.tmod (IntKind.u64.wrap a0_2) 256)), .int .i64 (wrap64 (Int.tmod (IntKind.u64.wrap a0_3) 256)), .int .i64 (wrap64 (Int.tmod (IntKind.u64.wrap a0_4) 256)), .string a0_5, .string a0_6, .string a0_7]) rfl)
      have HB1 := Aside0.mk (below_set (j := 4) (v := .int .i64 (wrap64 (Int.tmod (IntKind.u64.wrap a0_4) 256))) HB.out GQ.out)
      clear HB hA hR hQ
      generalize hW_ : (W3.setCell ⟨B2, 4, none⟩ (.int .i64 (wrap64 (Int.tmod (IntKind.u64.wrap a0_4) 256)))) = W4 at *
      clear hW_
      have hA := hA1
      have hR := hR1
      have hQ := hQ1
      have HB := HB1
      clear HB1 hA1 hR1 hQ1
      refine hK6.out _ _ ?_
      clear hK6 K6
      refine wp_seq_k (fun K7 hK7 => ?_)
      replace hK7 := Aside0.mk hK7
      have fQ0 := blk_frozen hQ.out 0
      have cQ0 := (blk_cell hQ.out 0).trans rfl
      obtain ⟨m0, hm0⟩ : ∃ m, m = min a0_0.size 128 := ⟨_, rfl⟩
      have e0 : (if (128 : Int) < (a0_0.size : Int) then (128 : Int) else (a0_0.size : Int)) = (m0 : Int) := by rw [hm0]; split <;> omega
      have l0 : m0 ≤ a0_0.size := by omega
      have k0 : (m0 : Int) ≤ (a0_0.size : Int) := by omega
      have j0 : 0 ≤ (m0 : Int) := by omega
      go_wp2
      clear e0 k0 j0 l0
      clear fQ0 cQ0
      have hA1 := Aside0.mk (blk_far hA.out (p := ⟨B2, 0, none⟩) gAQ (.string (a0_0.extract 0 (min a0_0.size 128))))
      have hR1 := Aside0.mk (blk_far hR.out (p := ⟨B2, 0, none⟩) gRQ (.string (a0_0.extract 0 (min a0_0.size 128))))
      have hQ1 := Aside0.mk (blk_put hQ.out 0 (.string (a0_0.extract 0 (min a0_0.size 128))) (cs' := #[.string (a0_0.extract 0 (min a0_0.size 128)), .int .i64 (wrap64 (Int.tmod (IntKind.u64.wrap a0_1) 256)), .int .i64 (wrap64 (Int.tmod (IntKind.u64.wrap a0_2) 256)), .int .i64 (wrap64 (Int.tmod (IntKind.u64.wrap a0_3) 256)), .int .i64 (wrap64 (Int.tmod (IntKind.u64.wrap a0_4) 256)), .string a0_5, .string a0_6, .string a0_7]) rfl)
      have HB1 := Aside0.mk (below_set (j := 0) (v := .string (a0_0.extract 0 (min a0_0.size 128))) HB.out GQ.out)
      clear HB hA hR hQ
      generalize hW_ : (W4.setCell ⟨B2, 0, none⟩ (.string (a0_0.extract 0 (min a0_0.size 128)))) = W5 at *
      clear hW_
      have hA := hA1
      have hR := hR1
      have hQ := hQ1
      have HB := HB1
      clear HB1 hA1 hR1 hQ1
      refine hK7.out _ _ ?_
      clear hK7 K7
      refine wp_seq_k (fun K8 hK8 => ?_)
      replace hK8 := Aside0.mk hK8
      have fQ5 := blk_frozen hQ.out 5
      have cQ5 := (blk_cell hQ.out 5).trans rfl
      obtain ⟨m5, hm5⟩ : ∃ m, m = min a0_5.size 64 := ⟨_, rfl⟩
      have e5 : (if (64 : Int) < (a0_5.size : Int) then (64 : Int) else (a0_5.size : Int)) = (m5 : Int) := by rw [hm5]; split <;> omega
      have l5 : m5 ≤ a0_5.size := by omega
      have k5 : (m5 : Int) ≤ (a0_5.size : Int) := by omega
      have j5 : 0 ≤ (m5 : Int) := by omega
      go_wp2
      clear e5 k5 j5 l5
      clear fQ5 cQ5
      have hA1 := Aside0.mk (blk_far hA.out (p := ⟨B2, 5, none⟩) gAQ (.string (a0_5.extract 0 (min a0_5.size 64))))
      have hR1 := Aside0.mk (blk_far hR.out (p := ⟨B2, 5, none⟩) gRQ (.string (a0_5.extract 0 (min a0_5.size 64))))
      have hQ1 := Aside0.mk (blk_put hQ.out 5 (.string (a0_5.extract 0 (min a0_5.size 64))) (cs' := #[.string (a0_0.extract 0 (min a0_0.size 128)), .int .i64 (wrap64 (Int.tmod (IntKind.u64.wrap a0_1) 256)), .int .i64 (wrap64 (Int.tmod (IntKind.u64.wrap a0_2) 256)), .int .i64 (wrap64 (Int.tmod (IntKind.u64.wrap a0_3) 256)), .int .i64 (wrap64 (Int.tmod (IntKind.u64.wrap a0_4) 256)), .string (a0_5.extract 0 (min a0_5.size 64)), .string a0_6, .string a0_7]) rfl)
      have HB1 := Aside0.mk (below_set (j := 5) (v := .string (a0_5.extract 0 (min a0_5.size 64))) HB.out GQ.out)
      clear HB hA hR hQ
      generalize hW_ : (W5.setCell ⟨B2, 5, none⟩ (.string (a0_5.extract 0 (min a0_5.size 64)))) = W6 at *
      clear hW_
      have hA := hA1
      have hR := hR1
      have hQ := hQ1
      have HB := HB1
      clear HB1 hA1 hR1 hQ1
      refine hK8.out _ _ ?_
      clear hK8 K8
      refine wp_seq_k (fun K9 hK9 => ?_)
      replace hK9 := Aside0.mk hK9
      have fQ6 := blk_frozen hQ.out 6
      have cQ6 := (blk_cell hQ.out 6).trans rfl
      obtain ⟨m6, hm6⟩ : ∃ m, m = min a0_6.size 64 := ⟨_, rfl⟩
      have e6 : (if (64 : Int) < (a0_6.size : Int) then (64 : Int) else (a0_6.size : Int)) = (m6 : Int) := by rw [hm6]; split <;> omega
      have l6 : m6 ≤ a0_6.size := by omega
      have k6 : (m6 : Int) ≤ (a0_6.size : Int) := by omega
      have j6 : 0 ≤ (m6 : Int) := by omega
      go_wp2
      clear e6 k6 j6 l6
      clear fQ6 cQ6
      have hA1 := Aside0.mk (blk_far hA.out (p := ⟨B2, 6, none⟩) gAQ (.string (a0_6.extract 0 (min a0_6.size 64))))
      have hR1 := Aside0.mk (blk_far hR.out (p := ⟨B2, 6, none⟩) gRQ (.string (a0_6.extract 0 (min a0_6.size 64))))
      have hQ1 := Aside0.mk (blk_put hQ.out 6 (.string (a0_6.extract 0 (min a0_6.size 64))) (cs' := #[.string (a0_0.extract 0 (min a0_0.size 128)), .int .i64 (wrap64 (Int.tmod (IntKind.u64.wrap a0_1) 256)), .int .i64 (wrap64 (Int.tmod (IntKind.u64.wrap a0_2) 256)), .int .i64 (wrap64 (Int.tmod (IntKind.u64.wrap a0_3) 256)), .int .i64 (wrap64 (Int.tmod (IntKind.u64.wrap a0_4) 256)), .string (a0_5.extract 0 (min a0_5.size 64)), .string (a0_6.extract 0 (min a0_6.size 64)), .string a0_7]) rfl)
      have HB1 := Aside0.mk (below_set (j := 6) (v := .string (a0_6.extract 0 (min a0_6.size 64))) HB.out GQ.out)
      clear HB hA hR hQ
      generalize hW_ : (W6.setCell ⟨B2, 6, none⟩ (.string (a0_6.extract 0 (min a0_6.size 64)))) = W7 at *
      clear hW_
      have hA := hA1
      have hR := hR1
      have hQ := hQ1
      have HB := HB1
      clear HB1 hA1 hR1 hQ1
      refine hK9.out _ _ ?_
      clear hK9 K9
      have fQ0 := blk_frozen hQ.out 0
      have cQ0 := (blk_cell hQ.out 0).trans rfl
      have fQ1 := blk_frozen hQ.out 1
      have cQ1 := (blk_cell hQ.out 1).trans rfl
      have fQ2 := blk_frozen hQ.out 2
      have cQ2 := (blk_cell hQ.out 2).trans rfl
      have fQ3 := blk_frozen hQ.out 3
      have cQ3 := (blk_cell hQ.out 3).trans rfl
      have fQ4 := blk_frozen hQ.out 4
      have cQ4 := (blk_cell hQ.out 4).trans rfl
      have fQ5 := blk_frozen hQ.out 5
      have cQ5 := (blk_cell hQ.out 5).trans rfl
      have fQ6 := blk_frozen hQ.out 6
      have cQ6 := (blk_cell hQ.out 6).trans rfl
      have fQ7 := blk_frozen hQ.out 7
      have cQ7 := (blk_cell hQ.out 7).trans rfl
      have fR0 := blk_frozen hR.out 0
      have cR0 := (blk_cell hR.out 0).trans rfl
      have fR1 := blk_frozen hR.out 1
      have cR1 := (blk_cell hR.out 1).trans rfl
      have fR2 := blk_frozen hR.out 2
      have cR2 := (blk_cell hR.out 2).trans rfl
      have fR3 := blk_frozen hR.out 3
      have cR3 := (blk_cell hR.out 3).trans rfl
      have fR4 := blk_frozen hR.out 4
      have cR4 := (blk_cell hR.out 4).trans rfl
      have fR5 := blk_frozen hR.out 5
      have cR5 := (blk_cell hR.out 5).trans rfl
      have fR6 := blk_frozen hR.out 6
      have cR6 := (blk_cell hR.out 6).trans rfl
      have fR7 := blk_frozen hR.out 7
      have cR7 := (blk_cell hR.out 7).trans rfl
      obtain ⟨m7, hm7⟩ : ∃ m, m = min a0_7.size 64 := ⟨_, rfl⟩
      have e7 : (if (64 : Int) < (a0_7.size : Int) then (64 : Int) else (a0_7.size : Int)) = (m7 : Int) := by rw [hm7]; split <;> omega
      have l7 : m7 ≤ a0_7.size := by omega
      have k7 : (m7 : Int) ≤ (a0_7.size : Int) := by omega
      have j7 : 0 ≤ (m7 : Int) := by omega
      go_wp2
      clear e7 k7 j7 l7
      clear fQ0 cQ0 fQ1 cQ1 fQ2 cQ2 fQ3 cQ3 fQ4 cQ4 fQ5 cQ5 fQ6 cQ6 fQ7 cQ7 fR0 cR0 fR1 cR1 fR2 cR2 fR3 cR3 fR4 cR4 fR5 cR5 fR6 cR6 fR7 cR7
      have hA1 := Aside0.mk (blk_far (blk_far (blk_far (blk_far (blk_far (blk_far (blk_far (blk_far (blk_far hA.out (p := ⟨B2, 7, none⟩) gAQ (.string (a0_7.extract 0 (min a0_7.size 64)))) (p := ⟨B1, 0, none⟩) gAR (.string (a0_0.extract 0 (min a0_0.size 128)))) (p := ⟨B1, 1, none⟩) gAR (.int .i64 (wrap64 (Int.tmod (IntKind.u64.wrap a0_1) 256)))) (p := ⟨B1, 2, none⟩) gAR (.int .i64 (wrap64 (Int.tmod (IntKind.u64.wrap a0_2) 256)))) (p := ⟨B1, 3, none⟩) gAR (.int .i64 (wrap64 (Int.tmod (IntKind.u64.wrap a0_3) 256)))) (p := ⟨B1, 4, none⟩) gAR (.int .i64 (wrap64 (Int.tmod (IntKind.u64.wrap a0_4) 256)))) (p := ⟨B1, 5, none⟩) gAR (.string (a0_5.extract 0 (min a0_5.size 64)))) (p := ⟨B1, 6, none⟩) gAR (.string (a0_6.extract 0 (min a0_6.size 64)))) (p := ⟨B1, 7, none⟩) gAR (.string (a0_7.extract 0 (min a0_7.size 64))))
      have hR1 := Aside0.mk (blk_put (blk_put (blk_put (blk_put (blk_put (blk_put (blk_put (blk_put (blk_far hR.out (p := ⟨B2, 7, none⟩) gRQ (.string (a0_7.extract 0 (min a0_7.size 64)))) 0 (.string (a0_0.extract 0 (min a0_0.size 128))) (cs' := #[.string (a0_0.extract 0 (min a0_0.size 128)), .int .i64 0, .int .i64 0, .int .i64 0, .int .i64 0, .string (⟨#[]⟩ : ByteArray), .string (⟨#[]⟩ : ByteArray), .string (⟨#[]⟩ : ByteArray)]) rfl) 1 (.int .i64 (wrap64 (Int.tmod (IntKind.u64.wrap a0_1) 256))) (cs' := #[.string (a0_0.extract 0 (min a0_0.size 128)), .int .i64 (wrap64 (Int.tmod (IntKind.u64.wrap a0_1) 256)), .int .i64 0, .int .i64 0, .int .i64 0, .string (⟨#[]⟩ : ByteArray), .string (⟨#[]⟩ : ByteArray), .string (⟨#[]⟩ : ByteArray)]) rfl) 2 (.int .i64 (wrap64 (Int.tmod (IntKind.u64.wrap a0_2) 256))) (cs' := #[.string (a0_0.extract 0 (min a0_0.size 128)), .int .i64 (wrap64 (Int.tmod (IntKind.u64.wrap a0_1) 256)), .int .i64 (wrap64 (Int.tmod (IntKind.u64.wrap a0_2) 256)), .int .i64 0, .int .i64 0, .string (⟨#[]⟩ : ByteArray), .string (⟨#[]⟩ : ByteArray), .string (⟨#[]⟩ : ByteArray)]) rfl) 3 (.int .i64 (wrap64 (Int.tmod (IntKind.u64.wrap a0_3) 256))) (cs' := #[.string (a0_0.extract 0 (min a0_0.size 128)), .int .i64 (wrap64 (Int.tmod (IntKind.u64.wrap a0_1) 256)), .int .i64 (wrap64 (Int.tmod (IntKind.u64.wrap a0_2) 256)), .int .i64 (wrap64 (Int.tmod (IntKind.u64.wrap a0_3) 256)), .int .i64 0, .string (⟨#[]⟩ : ByteArray), .string (⟨#[]⟩ : ByteArray), .string (⟨#[]⟩ : ByteArray)]) rfl) 4 (.int .i64 (wrap64 (Int.tmod (IntKind.u64.wrap a0_4) 256))) (cs' := #[.string (a0_0.extract 0 (min a0_0.size 128)), .int .i64 (wrap64 (Int.tmod (IntKind.u64.wrap a0_1) 256)), .int .i64 (wrap64 (Int.tmod (IntKind.u64.wrap a0_2) 256)), .int .i64 (wrap64 (Int.tmod (IntKind.u64.wrap a0_3) 256)), .int .i64 (wrap64 (Int.tmod (IntKind.u64.wrap a0_4) 256)), .string (⟨#[]⟩ : ByteArray), .string (⟨#[]⟩ : ByteArray), .string (⟨#[]⟩ : ByteArray)]) rfl) 5 (.string (a0_5.extract 0 (min a0_5.size 64))) (cs' := #[.string (a0_0.extract 0 (min a0_0.size 128)), .int .i64 (wrap64 (Int.tmod (IntKind.u64.wrap a0_1) 256)), .int .i64 (wrap64 (Int.tmod (IntKind.u64.wrap a0_2) 256)), .int .i64 (wrap64 (Int.tmod (IntKind.u64.wrap a0_3) 256)), .int .i64 (wrap64 (Int.tmod (IntKind.u64.wrap a0_4) 256)), .string (a0_5.extract 0 (min a0_5.size 64)), .string (⟨#[]⟩ : ByteArray), .string (⟨#[]⟩ : ByteArray)]) rfl) 6 (.string (a0_6.extract 0 (min a0_6.size 64))) (cs' := #[.string (a0_0.extract 0 (min a0_0.size 128)), .int .i64 (wrap64 (Int.tmod (IntKind.u64.wrap a0_1) 256)), .int .i64 (wrap64 (Int.tmod (IntKind.u64.wrap a0_2) 256)), .int .i64 (wrap64 (Int.tmod (IntKind.u64.wrap a0_3) 256)), .int .i64 (wrap64 (Int.tmod (IntKind.u64.wrap a0_4) 256)), .string (a0_5.extract 0 (min a0_5.size 64)), .string (a0_6.extract 0 (min a0_6.size 64)), .string (⟨#[]⟩ : ByteArray)]) rfl) 7 (.string (a0_7.extract 0 (min a0_7.size 64))) (cs' := #[.string (a0_0.extract 0 (min a0_0.size 128)), .int .i64 (wrap64 (Int.tmod (IntKind.u64.wrap a0_1) 256)), .int .i64 (wrap64 (Int.tmod (IntKind.u64.wrap a0_2) 256)), .int .i64 (wrap64 (Int.tmod (IntKind.u64.wrap a0_3) 256)), .int .i64 (wrap64 (Int.tmod (IntKind.u64.wrap a0_4) 256)), .string (a0_5.extract 0 (min a0_5.size 64)), .string (a0_6.extract 0 (min a0_6.size 64)), .string (a0_7.extract 0 (min a0_7.size 64))]) rfl)
      have hQ1 := Aside0.mk (blk_far (blk_far (blk_far (blk_far (blk_far (blk_far (blk_far (blk_far (blk_put hQ.out 7 (.string (a0_7.extract 0 (min a0_7.size 64))) (cs' := #[.string (a0_0.extract 0 (min a0_0.size 128)), .int .i64 (wrap64 (Int.tmod (IntKind.u64.wrap a0_1) 256)), .int .i64 (wrap64 (Int.tmod (IntKind.u64.wrap a0_2) 256)), .int .i64 (wrap64 (Int.tmod (IntKind.u64.wrap a0_3) 256)), .int .i64 (wrap64 (Int.tmod (IntKind.u64.wrap a0_4) 256)), .string (a0_5.extract 0 (min a0_5.size 64)), .string (a0_6.extract 0 (min a0_6.size 64)), .string (a0_7.extract 0 (min a0_7.size 64))]) rfl) (p := ⟨B1, 0, none⟩) (Ne.symm gRQ) (.string (a0_0.extract 0 (min a0_0.size 128)))) (p := ⟨B1, 1, none⟩) (Ne.symm gRQ) (.int .i64 (wrap64 (Int.tmod (IntKind.u64.wrap a0_1) 256)))) (p := ⟨B1, 2, none⟩) (Ne.symm gRQ) (.int .i64 (wrap64 (Int.tmod (IntKind.u64.wrap a0_2) 256)))) (p := ⟨B1, 3, none⟩) (Ne.symm gRQ) (.int .i64 (wrap64 (Int.tmod (IntKind.u64.wrap a0_3) 256)))) (p := ⟨B1, 4, none⟩) (Ne.symm gRQ) (.int .i64 (wrap64 (Int.tmod (IntKind.u64.wrap a0_4) 256)))) (p := ⟨B1, 5, none⟩) (Ne.symm gRQ) (.string (a0_5.extract 0 (min a0_5.size 64)))) (p := ⟨B1, 6, none⟩) (Ne.symm gRQ) (.string (a0_6.extract 0 (min a0_6.size 64)))) (p := ⟨B1, 7, none⟩) (Ne.symm gRQ) (.string (a0_7.extract 0 (min a0_7.size 64))))
      have HB1 := Aside0.mk (below_set (j := 7) (v := .string (a0_7.extract 0 (min a0_7.size 64))) (below_set (j := 6) (v := .string (a0_6.extract 0 (min a0_6.size 64))) (below_set (j := 5) (v := .string (a0_5.extract 0 (min a0_5.size 64))) (below_set (j := 4) (v := .int .i64 (wrap64 (Int.tmod (IntKind.u64.wrap a0_4) 256))) (below_set (j := 3) (v := .int .i64 (wrap64 (Int.tmod (IntKind.u64.wrap a0_3) 256))) (below_set (j := 2) (v := .int .i64 (wrap64 (Int.tmod (IntKind.u64.wrap a0_2) 256))) (below_set (j := 1) (v := .int .i64 (wrap64 (Int.tmod (IntKind.u64.wrap a0_1) 256))) (below_set (j := 0) (v := .string (a0_0.extract 0 (min a0_0.size 128))) (below_set (j := 7) (v := .string (a0_7.extract 0 (min a0_7.size 64))) HB.out GQ.out) GR.out) GR.out) GR.out) GR.out) GR.out) GR.out) GR.out) GR.out)
      clear HB hA hR hQ
      generalize hW_ : (((((((((W7.setCell ⟨B2, 7, none⟩ (.string (a0_7.extract 0 (min a0_7.size 64)))).setCell ⟨B1, 0, none⟩ (.string (a0_0.extract 0 (min a0_0.size 128)))).setCell ⟨B1, 1, none⟩ (.int .i64 (wrap64 (Int.tmod (IntKind.u64.wrap a0_1) 256)))).setCell ⟨B1, 2, none⟩ (.int .i64 (wrap64 (Int.tmod (IntKind.u64.wrap a0_2) 256)))).setCell ⟨B1, 3, none⟩ (.int .i64 (wrap64 (Int.tmod (IntKind.u64.wrap a0_3) 256)))).setCell ⟨B1, 4, none⟩ (.int .i64 (wrap64 (Int.tmod (IntKind.u64.wrap a0_4) 256)))).setCell ⟨B1, 5, none⟩ (.string (a0_5.extract 0 (min a0_5.size 64)))).setCell ⟨B1, 6, none⟩ (.string (a0_6.extract 0 (min a0_6.size 64)))).setCell ⟨B1, 7, none⟩ (.string (a0_7.extract 0 (min a0_7.size 64)))) = W99 at *
      clear hW_
      have hA := hA1
      have hR := hR1
      have hQ := hQ1
      have HB := HB1
      clear HB1 hA1 hR1 hQ1
      have d0 := (blk_cell hR.out 0).trans rfl
      have d1 := (blk_cell hR.out 1).trans rfl
      have d2 := (blk_cell hR.out 2).trans rfl
      have d3 := (blk_cell hR.out 3).trans rfl
      have d4 := (blk_cell hR.out 4).trans rfl
      have d5 := (blk_cell hR.out 5).trans rfl
      have d6 := (blk_cell hR.out 6).trans rfl
      have d7 := (blk_cell hR.out 7).trans rfl
      refine bodyPost_ret (v := .agg #[.string (a0_0.extract 0 (min a0_0.size 128)), .int .i64 (wrap64 (Int.tmod (IntKind.u64.wrap a0_1) 256)), .int .i64 (wrap64 (Int.tmod (IntKind.u64.wrap a0_2) 256)), .int .i64 (wrap64 (Int.tmod (IntKind.u64.wrap a0_3) 256)), .int .i64 (wrap64 (Int.tmod (IntKind.u64.wrap a0_4) 256)), .string (a0_5.extract 0 (min a0_5.size 64)), .string (a0_6.extract 0 (min a0_6.size 64)), .string (a0_7.extract 0 (min a0_7.size 64))]) (by simp [results, Try.results10, go_sem, hu, d0, d1, d2, d3, d4, d5, d6, d7]) rfl ⟨rfl, by first | exact HB.out | (rw [hB0.out]; exact HB.out)⟩
    · rw [if_neg hz] at h
      exact absurd h (by simp)
end Go.Proofs.Ytplgbkobpanbfaa.Q

/- Chapter 19 in plain words: requests and responses as lists of bytes; what is put, what is got; the laws' requests; the chapter's examples. -/
set_option linter.unusedVariables false
set_option linter.unusedSimpArgs false
namespace Go.Proofs.Ytplgbkobpanbfaa.Pure
open Go.RowKit Go.Proofs.Ytplgbkobpanbfaa.Q Go.Proofs.YtplgbkobpanbfaaW.PrintWords Go.Proofs.YtplgbkobpanbfaaW.PrintLast Go.Proofs.YtplgbkobpanbfaaW.PrintMore Go.Proofs.Ytplgbkobpanbfaa.Plain

/-! ### one step of a reader -/
theorem text_step {s : ByteArray} {b : Bool} {most : Int} (hz : s.size ≤ 9223372036854775807) {k : Nat} (hk : 22 ≤ k) :
    ∃ v t c, pack_Reader_Text.f k s b most = some (v, t, c) ∧ t.size ≤ s.size ∧ (c = false → b = false ∧ bl s = vary v.size ++ bl v ++ bl t ∧ (v.size : Int) ≤ most) := by
  cases b with
  | true => exact ⟨_, _, _, ReaderText_true hz hk, Nat.zero_le _, fun h => absurd h (by simp)⟩
  | false =>
    obtain ⟨r, h1, h2⟩ := ReaderText_f s most hz hk
    cases h2 with
    | good t rest hs hm =>
      refine ⟨_, _, _, h1, ?_, fun _ => ⟨rfl, hs, hm⟩⟩
      rw [← bl_length, ← bl_length, hs]; simp; omega
    | bad h => exact ⟨_, _, _, h1, Nat.zero_le _, fun h => absurd h (by simp)⟩
theorem num_good {s t : ByteArray} {n : Nat} (hz : s.size ≤ 9223372036854775807) (hs : bl s = n :: bl t) : pack_Reader_Number.f s false 1 = some ((n : Int), t, false) := by
  have hl : s.size = t.size + 1 := by rw [← bl_length, hs, List.length_cons, bl_length]
  rw [ReaderNumber_good (by omega) (by omega) (by omega) hz]
  have e1 : (bl s).take ((1 : Int).toNat) = [n] := by rw [hs]; rfl
  have e2 : s.extract (1 : Int).toNat s.size = t := bl_inj (by rw [bl_drop, hs]; rfl)
  rw [e1, e2]
  simp [bev]
theorem num_step {s : ByteArray} {b : Bool} (hz : s.size ≤ 9223372036854775807) :
    ∃ v t c, pack_Reader_Number.f s b 1 = some (v, t, c) ∧ t.size ≤ s.size ∧ (c = false → b = false ∧ ∃ n, n < 256 ∧ v = (n : Nat) ∧ bl s = n :: bl t) := by
  by_cases h : b = true ∨ s.size = 0
  · refine ⟨_, _, _, ReaderNumber_bad (by rcases h with h | h; · exact Or.inl h
                                          · exact Or.inr (Or.inr (Or.inr (by omega)))) hz, Nat.zero_le _, fun h => absurd h (by simp)⟩
  · have hb : b = false := by cases b with | true => exact absurd (Or.inl rfl) h | false => rfl
    subst hb
    have h0 : s.size ≠ 0 := fun e => h (Or.inr e)
    obtain ⟨n, l, hl⟩ : ∃ n l, bl s = n :: l := by
      cases e : bl s with
      | nil => exact absurd (by rw [← bl_length, e]; rfl) h0
      | cons n l => exact ⟨n, l, rfl⟩
    have hs : bl s = n :: bl (s.extract 1 s.size) := by rw [bl_drop, hl]; rfl
    refine ⟨_, _, _, num_good hz hs, by simp, fun _ => ⟨rfl, n, ?_, rfl, hs⟩⟩
    exact bl_lt s n (by rw [hl]; exact List.mem_cons_self)
theorem done_true {s : ByteArray} {b : Bool} : pack_Reader_Done.f s b = some (!b && decide (s = ⟨#[]⟩)) := Done_f s b

/-! ### requests -/
/-- What is put of a text: how long it is, and it. -/
def tx (s : ByteArray) : List Nat := vary s.size ++ bl s
theorem tx_inj {s t : ByteArray} {r q : List Nat} (h : tx s ++ r = tx t ++ q) : s = t ∧ r = q := by
  unfold tx at h
  rw [List.append_assoc, List.append_assoc] at h
  obtain ⟨e, h⟩ := vary_prefix _ _ _ _ h
  obtain ⟨e1, e2⟩ := List.append_inj h (by rw [bl_length, bl_length, e])
  exact ⟨bl_inj e1, e2⟩
/-- A request's bytes. -/
def rq (a0 : ByteArray) (n1 n2 n3 n4 : Nat) (a5 a6 a7 : ByteArray) : List Nat := tx a0 ++ (n1 :: n2 :: n3 :: n4 :: (tx a5 ++ (tx a6 ++ tx a7)))
theorem rq_prefix {a0 b0 a5 b5 a6 b6 a7 b7 : ByteArray} {n1 n2 n3 n4 m1 m2 m3 m4 : Nat} {r q : List Nat} (h : rq a0 n1 n2 n3 n4 a5 a6 a7 ++ r = rq b0 m1 m2 m3 m4 b5 b6 b7 ++ q) :
    a0 = b0 ∧ n1 = m1 ∧ n2 = m2 ∧ n3 = m3 ∧ n4 = m4 ∧ a5 = b5 ∧ a6 = b6 ∧ a7 = b7 ∧ r = q := by
  unfold rq at h
  simp only [List.append_assoc, List.cons_append] at h
  obtain ⟨e0, h⟩ := tx_inj h
  simp only [List.cons.injEq] at h
  obtain ⟨e1, e2, e3, e4, h⟩ := h
  obtain ⟨e5, h⟩ := tx_inj h
  obtain ⟨e6, h⟩ := tx_inj h
  obtain ⟨e7, h⟩ := tx_inj h
  exact ⟨e0, e1, e2, e3, e4, e5, e6, e7, h⟩
/-- Is a request right? -/
def ok19 (a0 : ByteArray) (n1 n2 n3 n4 : Int) (a5 a6 a7 : ByteArray) : Prop :=
  a0.size ≤ 128 ∧ (0 ≤ n1 ∧ n1 ≤ 255) ∧ (0 ≤ n2 ∧ n2 ≤ 255) ∧ (0 ≤ n3 ∧ n3 ≤ 255) ∧ (0 ≤ n4 ∧ n4 ≤ 255) ∧ a5.size ≤ 64 ∧ a6.size ≤ 64 ∧ a7.size ≤ 64
instance (a0 : ByteArray) (n1 n2 n3 n4 : Int) (a5 a6 a7 : ByteArray) : Decidable (ok19 a0 n1 n2 n3 n4 a5 a6 a7) := by unfold ok19; infer_instance
theorem right_f (a0 : ByteArray) (n1 n2 n3 n4 : Int) (a5 a6 a7 : ByteArray) : gate_Right.f a0 n1 n2 n3 n4 a5 a6 a7 = some (decide (ok19 a0 n1 n2 n3 n4 a5 a6 a7)) := by
  unfold gate_Right.f
  congr 1
  by_cases h : ok19 a0 n1 n2 n3 n4 a5 a6 a7
  · rw [decide_eq_true h]
    unfold ok19 at h
    simp only [gate_Right.all_i, gate_Right.all_s, gate_Right.ti, gate_Right.ts, Bool.and_eq_true, decide_eq_true_eq]
    omega
  · rw [decide_eq_false h, Bool.eq_false_iff]
    intro hh
    apply h
    unfold ok19
    simp only [gate_Right.all_i, gate_Right.all_s, gate_Right.ti, gate_Right.ts, Bool.and_eq_true, decide_eq_true_eq] at hh
    omega

theorem be_one (n : Nat) (h : n < 256) : be 1 n = [n] := by simp [be]; omega
theorem nb_one (n : Nat) (h : n < 256) : bl (nb n 1) = [n] := by rw [bl_nb, be_one n h]
theorem byte_f (n : Nat) (h : n < 256) : pack_Number.f (IntKind.u64.wrap (n : Int)) 1 = some (nb n 1) := by
  rw [wrap_u64 (by omega) (by omega)]
  exact Number_f n 1 (by omega) (by omega)
theorem put_step {k : Nat} {x : ByteArray} {l : List Int} {i m : Nat} {z0 : ByteArray} {z1 z2 z3 z4 : Int} {z5 z6 z7 : ByteArray} (hl : l.length = 4) (hi : i < 4) (hm : m < 256) (hr : rd l (i : Int) = (m : Int)) (hx : x.size ≤ 140737488351232) :
    gate_Put.l0 (k + 1) x l 4 (i : Int) z0 z1 z2 z3 z4 z5 z6 z7 = gate_Put.l0 k (x ++ nb m 1) l 4 ((i + 1 : Nat) : Int) z0 z1 z2 z3 z4 z5 z6 z7 := by
  rw [gate_Put.l0]
  rw [if_pos (by omega), if_pos (by omega), if_pos (by rw [hl]; omega), hr, byte_f m hm]
  simp only [Option.bind_some]
  rw [if_pos (by rw [nb_size]; omega), wrap64_id (by omega) (by omega), show (i : Int) + 1 = ((i + 1 : Nat) : Int) by omega]
theorem put_turn {k : Nat} {x : ByteArray} {l : List Int} {z0 : ByteArray} {z1 z2 z3 z4 : Int} {z5 z6 z7 : ByteArray} :
    gate_Put.l0 (k + 1) x l 4 4 z0 z1 z2 z3 z4 z5 z6 z7 = gate_Put.l1 k x [z5, z6, z7] 3 0 := by
  rw [gate_Put.l0]
  rw [if_neg (by omega)]
  rfl
theorem put_text {k : Nat} (hk : 11 ≤ k) {x : ByteArray} {l : List ByteArray} {i : Nat} {t : ByteArray} (hl : l.length = 3) (hi : i < 3) (hr : rdOf ByteArray.empty l (i : Int) = t) (ht : t.size ≤ 140737488351232) (hx : x.size ≤ 140737488351232) :
    gate_Put.l1 (k + 1) x l 3 (i : Int) = gate_Put.l1 k (x ++ (vs t.size ++ t)) l 3 ((i + 1 : Nat) : Int) := by
  have h10 := vary_len_ten (show t.size < 18446744073709551616 by omega)
  rw [gate_Put.l1]
  rw [if_pos (by omega), if_pos (by omega), if_pos (by rw [hl]; omega), hr, Text_f (by omega) hk]
  simp only [Option.bind_some]
  rw [if_pos (by rw [ByteArray.size_append, vs_size]; omega), wrap64_id (by omega) (by omega), show (i : Int) + 1 = ((i + 1 : Nat) : Int) by omega]
theorem put_end {k : Nat} {x : ByteArray} {l : List ByteArray} : gate_Put.l1 (k + 1) x l 3 3 = some (x, true) := by
  rw [gate_Put.l1]
  rw [if_neg (by omega)]
theorem bl_tx (s : ByteArray) : bl (vs s.size ++ s) = tx s := by rw [bl_append, bl_vs]; rfl
theorem tx_len (s : ByteArray) (h : s.size < 18446744073709551616) : (tx s).length ≤ s.size + 10 := by
  unfold tx; rw [List.length_append, bl_length]; have := vary_len_ten h; omega
/-- What is put of a request, byte by byte. -/
def rqs (a0 : ByteArray) (n1 n2 n3 n4 : Nat) (a5 a6 a7 : ByteArray) : ByteArray := strOfNums (NL (rq a0 n1 n2 n3 n4 a5 a6 a7))
theorem tx_lt (s : ByteArray) : ∀ b ∈ tx s, b < 256 := by
  intro b hb
  unfold tx at hb
  rcases List.mem_append.1 hb with h | h
  · exact vary_lt _ _ h
  · exact bl_lt _ _ h
theorem rq_lt {a0 a5 a6 a7 : ByteArray} {n1 n2 n3 n4 : Nat} (h1 : n1 < 256) (h2 : n2 < 256) (h3 : n3 < 256) (h4 : n4 < 256) : ∀ b ∈ rq a0 n1 n2 n3 n4 a5 a6 a7, b < 256 := by
  intro b hb
  unfold rq at hb
  simp only [List.mem_append, List.mem_cons] at hb
  rcases hb with h | rfl | rfl | rfl | rfl | h | h | h
  · exact tx_lt _ _ h
  · exact h1
  · exact h2
  · exact h3
  · exact h4
  · exact tx_lt _ _ h
  · exact tx_lt _ _ h
  · exact tx_lt _ _ h
theorem bl_rqs {a0 a5 a6 a7 : ByteArray} {n1 n2 n3 n4 : Nat} (h1 : n1 < 256) (h2 : n2 < 256) (h3 : n3 < 256) (h4 : n4 < 256) : bl (rqs a0 n1 n2 n3 n4 a5 a6 a7) = rq a0 n1 n2 n3 n4 a5 a6 a7 := bl_str _ (rq_lt h1 h2 h3 h4)
theorem put_ok {a0 a5 a6 a7 : ByteArray} {n1 n2 n3 n4 : Nat} (h : ok19 a0 n1 n2 n3 n4 a5 a6 a7) {k : Nat} (hk : 22 ≤ k) :
    gate_Put.f k a0 n1 n2 n3 n4 a5 a6 a7 = some (rqs a0 n1 n2 n3 n4 a5 a6 a7, true) := by
  have hd := right_f a0 n1 n2 n3 n4 a5 a6 a7
  rw [decide_eq_true h] at hd
  unfold ok19 at h
  have t0 := tx_len a0 (by omega)
  have z0 : (vs a0.size ++ a0).size ≤ 200 := by rw [← bl_length, bl_tx]; omega
  unfold gate_Put.f
  rw [hd]
  simp only [Option.bind_some]
  rw [if_pos trivial, Text_f (by omega) (by omega)]
  simp only [Option.bind_some]
  obtain ⟨k, rfl⟩ : ∃ m, k = m + 9 := ⟨k - 9, by omega⟩
  show gate_Put.l0 (k + 9) (vs a0.size ++ a0) [(n1 : Int), n2, n3, n4] 4 ((0 : Nat) : Int) a0 n1 n2 n3 n4 a5 a6 a7 = _
  have zn : ∀ m : Nat, (nb m 1).size = 1 := fun m => nb_size m 1
  rw [put_step (m := n1) rfl (by omega) (by omega) rfl (by omega), put_step (m := n2) rfl (by omega) (by omega) rfl (by rw [ByteArray.size_append, zn]; omega),
    put_step (m := n3) rfl (by omega) (by omega) rfl (by rw [ByteArray.size_append, ByteArray.size_append, zn, zn]; omega), put_step (m := n4) rfl (by omega) (by omega) rfl (by rw [ByteArray.size_append, ByteArray.size_append, ByteArray.size_append, zn, zn, zn]; omega)]
  show gate_Put.l0 (k + 5) _ [(n1 : Int), n2, n3, n4] 4 4 a0 n1 n2 n3 n4 a5 a6 a7 = _
  rw [put_turn]
  have t5 := tx_len a5 (by omega)
  have t6 := tx_len a6 (by omega)
  have t7 := tx_len a7 (by omega)
  have z5 : (vs a5.size ++ a5).size ≤ 200 := by rw [← bl_length, bl_tx]; omega
  have z6 : (vs a6.size ++ a6).size ≤ 200 := by rw [← bl_length, bl_tx]; omega
  generalize hx : vs a0.size ++ a0 ++ nb n1 1 ++ nb n2 1 ++ nb n3 1 ++ nb n4 1 = x
  have hxs : x.size ≤ 1000 := by rw [← hx]; simp only [ByteArray.size_append, zn] at z0 ⊢; omega
  show gate_Put.l1 (k + 4) x [a5, a6, a7] 3 ((0 : Nat) : Int) = _
  rw [put_text (t := a5) (by omega) rfl (by omega) rfl (by omega) (by omega), put_text (t := a6) (by omega) rfl (by omega) rfl (by omega) (by rw [ByteArray.size_append]; omega), put_text (t := a7) (by omega) rfl (by omega) rfl (by omega) (by rw [ByteArray.size_append, ByteArray.size_append]; omega)]
  show gate_Put.l1 (k + 1) _ [a5, a6, a7] 3 3 = _
  rw [put_end]
  congr 2
  apply bl_inj
  rw [bl_rqs (by omega) (by omega) (by omega) (by omega), ← hx]
  simp only [bl_append, bl_tx, nb_one n1 (by omega), nb_one n2 (by omega), nb_one n3 (by omega), nb_one n4 (by omega), bl_vs]
  unfold rq tx
  simp
theorem put_no {a0 a5 a6 a7 : ByteArray} {n1 n2 n3 n4 : Int} (h : ¬ ok19 a0 n1 n2 n3 n4 a5 a6 a7) {k : Nat} :
    gate_Put.f k a0 n1 n2 n3 n4 a5 a6 a7 = some (⟨#[]⟩, false) := by
  unfold gate_Put.f
  rw [right_f, decide_eq_false h]
  rfl

/-- Whatever is got without an error stands there, byte by byte; else nothing is got. -/
theorem get_sound {s : ByteArray} (hz : s.size ≤ 9223372036854775807) {k : Nat} (hk : 22 ≤ k) :
    (∃ (a0 a5 a6 a7 : ByteArray) (n1 n2 n3 n4 : Nat), gate_Get.f k s = some (a0, (n1 : Int), (n2 : Int), (n3 : Int), (n4 : Int), a5, a6, a7, 0) ∧ ok19 a0 n1 n2 n3 n4 a5 a6 a7 ∧ bl s = rq a0 n1 n2 n3 n4 a5 a6 a7) ∨
    gate_Get.f k s = some (⟨#[]⟩, 0, 0, 0, 0, ⟨#[]⟩, ⟨#[]⟩, ⟨#[]⟩, 2) := by
  obtain ⟨v0, t0, c0, e0, z0, h0⟩ := text_step (s := s) (b := false) (most := 128) hz hk
  obtain ⟨v1, t1, c1, e1, z1, h1⟩ := num_step (s := t0) (b := c0) (by omega)
  obtain ⟨v2, t2, c2, e2, z2, h2⟩ := num_step (s := t1) (b := c1) (by omega)
  obtain ⟨v3, t3, c3, e3, z3, h3⟩ := num_step (s := t2) (b := c2) (by omega)
  obtain ⟨v4, t4, c4, e4, z4, h4⟩ := num_step (s := t3) (b := c3) (by omega)
  obtain ⟨v5, t5, c5, e5, z5, h5⟩ := text_step (s := t4) (b := c4) (most := 64) (by omega) hk
  obtain ⟨v6, t6, c6, e6, z6, h6⟩ := text_step (s := t5) (b := c5) (most := 64) (by omega) hk
  obtain ⟨v7, t7, c7, e7, z7, h7⟩ := text_step (s := t6) (b := c6) (most := 64) (by omega) hk
  have hf : gate_Get.f k s = if (!c7 && decide (t7 = ⟨#[]⟩)) = true then some (v0, wrap64 v1, wrap64 v2, wrap64 v3, wrap64 v4, v5, v6, v7, 0) else some (⟨#[]⟩, 0, 0, 0, 0, ⟨#[]⟩, ⟨#[]⟩, ⟨#[]⟩, 2) := by
    unfold gate_Get.f
    simp only [e0, e1, e2, e3, e4, e5, e6, e7, Option.bind_some, Done_f]
  by_cases hd : (!c7 && decide (t7 = ⟨#[]⟩)) = true
  · rw [if_pos hd] at hf
    left
    simp only [Bool.and_eq_true, Bool.not_eq_true', decide_eq_true_eq] at hd
    obtain ⟨rfl, rfl⟩ := hd
    obtain ⟨rfl, g7, m7⟩ := h7 rfl
    obtain ⟨rfl, g6, m6⟩ := h6 rfl
    obtain ⟨rfl, g5, m5⟩ := h5 rfl
    obtain ⟨rfl, n4, l4, rfl, g4⟩ := h4 rfl
    obtain ⟨rfl, n3, l3, rfl, g3⟩ := h3 rfl
    obtain ⟨rfl, n2, l2, rfl, g2⟩ := h2 rfl
    obtain ⟨rfl, n1, l1, rfl, g1⟩ := h1 rfl
    obtain ⟨_, g0, m0⟩ := h0 rfl
    have w : ∀ n : Nat, n < 256 → wrap64 (n : Int) = (n : Int) := fun n h => wrap64_id (by omega) (by omega)
    rw [w n1 l1, w n2 l2, w n3 l3, w n4 l4] at hf
    refine ⟨v0, v5, v6, v7, n1, n2, n3, n4, hf, ?_, ?_⟩
    · unfold ok19; omega
    · rw [g0, g1, g2, g3, g4, g5, g6, g7]
      unfold rq tx
      rw [bl_empty]
      simp
  · rw [if_neg hd] at hf
    exact Or.inr hf
theorem get_good {s a0 a5 a6 a7 : ByteArray} {n1 n2 n3 n4 : Nat} (hs : bl s = rq a0 n1 n2 n3 n4 a5 a6 a7) (h : ok19 a0 n1 n2 n3 n4 a5 a6 a7) {k : Nat} (hk : 22 ≤ k) :
    gate_Get.f k s = some (a0, (n1 : Int), (n2 : Int), (n3 : Int), (n4 : Int), a5, a6, a7, 0) := by
  unfold ok19 at h
  have hsz : s.size ≤ 1000 := by
    have t0 := tx_len a0 (by omega)
    have t5 := tx_len a5 (by omega)
    have t6 := tx_len a6 (by omega)
    have t7 := tx_len a7 (by omega)
    rw [← bl_length, hs]
    unfold rq
    simp only [List.length_append, List.length_cons]
    omega
  have sub : ∀ l : List Nat, (∀ b ∈ l, b < 256) → ∃ t : ByteArray, bl t = l ∧ t.size = l.length := fun l hl => ⟨strOfNums (NL l), bl_str l hl, by rw [← bl_length, bl_str l hl]⟩
  have hall := rq_lt (a0 := a0) (a5 := a5) (a6 := a6) (a7 := a7) (n1 := n1) (n2 := n2) (n3 := n3) (n4 := n4) (by omega) (by omega) (by omega) (by omega)
  have hlen : (rq a0 n1 n2 n3 n4 a5 a6 a7).length ≤ 1000 := by rw [← hs, bl_length]; exact hsz
  unfold rq at hs hall hlen
  simp only [List.length_append, List.length_cons] at hlen
  obtain ⟨t7, b7, z7⟩ := sub [] (by simp)
  obtain ⟨t6, b6, z6⟩ := sub (tx a7) (fun b hb => hall b (by simp [hb]))
  obtain ⟨t5, b5, z5⟩ := sub (tx a6 ++ tx a7) (fun b hb => hall b (by simp only [List.mem_append, List.mem_cons] at hb ⊢; rcases hb with h | h <;> simp [h]))
  obtain ⟨t4, b4, z4⟩ := sub (tx a5 ++ (tx a6 ++ tx a7)) (fun b hb => hall b (by simp only [List.mem_append, List.mem_cons] at hb ⊢; rcases hb with h | h | h <;> simp [h]))
  obtain ⟨t3, b3, z3⟩ := sub (n4 :: (tx a5 ++ (tx a6 ++ tx a7))) (fun b hb => hall b (by simp only [List.mem_append, List.mem_cons] at hb ⊢; rcases hb with h | h | h | h <;> simp [h]))
  obtain ⟨t2, b2, z2⟩ := sub (n3 :: n4 :: (tx a5 ++ (tx a6 ++ tx a7))) (fun b hb => hall b (by simp only [List.mem_append, List.mem_cons] at hb ⊢; rcases hb with h | h | h | h | h <;> simp [h]))
  obtain ⟨t1, b1, z1⟩ := sub (n2 :: n3 :: n4 :: (tx a5 ++ (tx a6 ++ tx a7))) (fun b hb => hall b (by simp only [List.mem_append, List.mem_cons] at hb ⊢; rcases hb with h | h | h | h | h | h <;> simp [h]))
  obtain ⟨t0, b0, z0⟩ := sub (n1 :: n2 :: n3 :: n4 :: (tx a5 ++ (tx a6 ++ tx a7))) (fun b hb => hall b (by simp only [List.mem_append, List.mem_cons] at hb ⊢; rcases hb with h | h | h | h | h | h | h <;> simp [h]))
  have zt : ∀ {t : ByteArray} {l : List Nat}, t.size = l.length → l.length ≤ 1000 → t.size ≤ 9223372036854775807 := fun h1 h2 => by omega
  have e0 : pack_Reader_Text.f k s false 128 = some (a0, t0, false) := ReaderText_good (by omega) (by rw [hs, b0]; rfl) (by omega) hk
  have e1 : pack_Reader_Number.f t0 false 1 = some ((n1 : Int), t1, false) := num_good (zt z0 (by simp only [List.length_append, List.length_cons]; omega)) (by rw [b0, b1])
  have e2 : pack_Reader_Number.f t1 false 1 = some ((n2 : Int), t2, false) := num_good (zt z1 (by simp only [List.length_append, List.length_cons]; omega)) (by rw [b1, b2])
  have e3 : pack_Reader_Number.f t2 false 1 = some ((n3 : Int), t3, false) := num_good (zt z2 (by simp only [List.length_append, List.length_cons]; omega)) (by rw [b2, b3])
  have e4 : pack_Reader_Number.f t3 false 1 = some ((n4 : Int), t4, false) := num_good (zt z3 (by simp only [List.length_append, List.length_cons]; omega)) (by rw [b3, b4])
  have e5 : pack_Reader_Text.f k t4 false 64 = some (a5, t5, false) := ReaderText_good (zt z4 (by simp only [List.length_append, List.length_cons]; omega)) (by rw [b4, b5]; unfold tx; simp) (by omega) hk
  have e6 : pack_Reader_Text.f k t5 false 64 = some (a6, t6, false) := ReaderText_good (zt z5 (by simp only [List.length_append, List.length_cons]; omega)) (by rw [b5, b6]; unfold tx; simp) (by omega) hk
  have e7 : pack_Reader_Text.f k t6 false 64 = some (a7, t7, false) := ReaderText_good (zt z6 (by omega)) (by rw [b6, b7]; unfold tx; simp) (by omega) hk
  have w : ∀ n : Nat, n < 256 → wrap64 (n : Int) = (n : Int) := fun n h => wrap64_id (by omega) (by omega)
  have et : t7 = ⟨#[]⟩ := bl_nil.1 b7
  unfold gate_Get.f
  simp only [e0, e1, e2, e3, e4, e5, e6, e7, Option.bind_some, Done_f, et]
  rw [w n1 (by omega), w n2 (by omega), w n3 (by omega), w n4 (by omega)]
  rfl

theorem examples_60 : tenementlaw19_examples.f 60 = some true := by decide +kernel
theorem examples_f {k : Nat} (hk : 60 ≤ k) : tenementlaw19_examples.f k = some true := at_rounds tenementlaw19_examples.mono hk examples_60
theorem small_num (a : Int) : ∃ n : Nat, n < 256 ∧ wrap64 (Int.tmod (IntKind.u64.wrap a) 256) = (n : Int) := by
  have h : 0 ≤ IntKind.u64.wrap a ∧ IntKind.u64.wrap a < 18446744073709551616 := by simp only [IntKind.wrap_u64]; omega
  generalize IntKind.u64.wrap a = u at *
  rw [Int.tmod_eq_emod_of_nonneg h.1]
  refine ⟨(u % 256).toNat, by omega, ?_⟩
  rw [wrap64_id (by omega) (by omega)]
  omega
theorem request_own {a0 a5 a6 a7 : ByteArray} {m1 m2 m3 m4 : Int} (z0 : a0.size ≤ 140737488351232) (z5 : a5.size ≤ 140737488351232) (z6 : a6.size ≤ 140737488351232) (z7 : a7.size ≤ 140737488351232) :
    ∃ (b0 b5 b6 b7 : ByteArray) (n1 n2 n3 n4 : Nat), tenementlaw19_Asked_request.f a0 m1 m2 m3 m4 a5 a6 a7 true = some (b0, (n1 : Int), (n2 : Int), (n3 : Int), (n4 : Int), b5, b6, b7) ∧ ok19 b0 n1 n2 n3 n4 b5 b6 b7 := by
  obtain ⟨n1, h1, e1⟩ := small_num m1
  obtain ⟨n2, h2, e2⟩ := small_num m2
  obtain ⟨n3, h3, e3⟩ := small_num m3
  obtain ⟨n4, h4, e4⟩ := small_num m4
  refine ⟨a0.extract 0 (min a0.size 128), a5.extract 0 (min a5.size 64), a6.extract 0 (min a6.size 64), a7.extract 0 (min a7.size 64), n1, n2, n3, n4, ?_, ?_⟩
  · unfold tenementlaw19_Asked_request.f
    rw [if_pos rfl, if_pos ⟨by omega, by omega, by omega, by omega⟩, e1, e2, e3, e4]
  · unfold ok19
    simp only [ByteArray.size_extract]
    omega
theorem eq8 {a0 a5 a6 a7 b0 b5 b6 b7 : ByteArray} {n1 n2 n3 n4 m1 m2 m3 m4 : Int} :
    ((a0.toList == b0.toList && (n1 == m1 && (n2 == m2 && (n3 == m3 && (n4 == m4 && (a5.toList == b5.toList && (a6.toList == b6.toList && (a7.toList == b7.toList)))))))) = true) ↔ (a0 = b0 ∧ n1 = m1 ∧ n2 = m2 ∧ n3 = m3 ∧ n4 = m4 ∧ a5 = b5 ∧ a6 = b6 ∧ a7 = b7) := by
  simp only [Bool.and_eq_true, beq_iff_eq, toList_iff]
theorem cut_bounds {n z : Nat} (hz : z ≠ 0) {c : Int} (h0 : 0 ≤ c) (h1 : c ≤ 65535) : ∃ m : Nat, Int.tmod (wrap64 c) (z : Int) = (m : Int) ∧ m < z := by
  rw [wrap64_id (by omega) (by omega), Int.tmod_eq_emod_of_nonneg h0]
  have e1 := Int.emod_nonneg c (show (z : Int) ≠ 0 by omega)
  have e2 := Int.emod_lt_of_pos c (show 0 < (z : Int) by omega)
  exact ⟨(c % (z : Int)).toNat, by omega, by omega⟩
end Go.Proofs.Ytplgbkobpanbfaa.Pure
