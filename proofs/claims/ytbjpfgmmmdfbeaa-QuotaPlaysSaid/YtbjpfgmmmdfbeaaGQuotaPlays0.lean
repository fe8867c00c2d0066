import Derived.Maps.RangeWalk
import Derived.Below
import Derived.Test.YtbjpfgmmmdfbeaaQx0
import Derived.DeepKeys4
import Derived.Deep.LoopGhost
import Derived.Shelf.SlMaps.Clone
import Derived.Test.YtbjpfgmmmdfbeaaWAMore
import Derived.Laws.BitsAllLaws
import Derived.Deep.RegionHeld3
import Derived.OrdersHeld
/- A map of whole numbers told as the list of its entries: what delete, a store, len, a look and a range do to it. -/
set_option linter.unusedVariables false
set_option linter.unusedSimpArgs false
namespace Go.Proofs.Ytbjpfgmmmdfbeaa.Quo
open Go Go.RowKit Go.WideShapes
open Go.Maps (Keyed)
abbrev En := Lit × Int
def enc (l : List En) : List (Lit × DataW Unit) := l.map fun p => (p.1, .lit (.int .i64 p.2))
def total (l : List En) : Int := (l.map fun p => p.2).sum
def strike (k : Lit) (l : List En) : List En := l.filter fun p => !p.1.sameKey k
theorem total_nil : total [] = 0 := rfl
theorem total_cons (x : En) (l : List En) : total (x :: l) = x.2 + total l := by simp [total]
theorem total_append (x y : List En) : total (x ++ y) = total x + total y := by simp [total]
theorem enc_strike (k : Lit) (l : List En) : enc (strike k l) = (enc l).filter fun p => !p.1.sameKey k := by
  unfold enc strike
  rw [List.filter_map]
  rfl
theorem enc_append (x y : List En) : enc (x ++ y) = enc x ++ enc y := by simp [enc]
theorem enc_length (l : List En) : (enc l).length = l.length := by simp [enc]
/-- Block b is a map of just these entries, in whatever order. -/
def Has (w : World) (P : Program) (k e : TypeId) (b : Nat) (l : List En) : Prop :=
  ∃ es, w.ownsMap P k (plainElem P e) b l.length (.map es) ∧ es.Perm (enc l)
variable {P : Program} {k e : TypeId} {w : World} {b : Nat} {l : List En}
theorem has_of {n : Nat} {es : List (Lit × DataW Unit)} (h : w.ownsMap P k (plainElem P e) b n (.map es)) (p : es.Perm (enc l)) : Has w P k e b l := by
  obtain ⟨e0, clock, hb, F, hs, hD⟩ := h
  refine ⟨es, ⟨e0, clock, hb, F, ?_, hD⟩, p⟩
  have h1 : es = (e0.toList.map (Go.WideElems.rg P k (plainElem P e))).foldr DataW.insert [] := by injection hD
  have h2 := p.length_eq
  rw [enc_length, h1, length_sorted] at h2
  simp at h2
  omega
theorem has_made (w : World) (P : Program) (k e : TypeId) : Has (w.alloc (.map #[] 0)) P k e w.heap.size [] := ⟨[], World.ownsMap_made w P k _, List.Perm.refl _⟩
theorem Has.lt (h : Has w P k e b l) : b < w.heap.size := by
  obtain ⟨es, ho, _⟩ := h
  exact ho.lt
theorem Has.kept {w' : World} {row : Option Nat} (h : Has w P k e b l) (hg : w.grownBy w' row) (hne : some b ≠ row) : Has w' P k e b l := by
  obtain ⟨es, ho, hp⟩ := h
  exact ⟨es, ho.kept hg hne, hp⟩
theorem grown_of_below {w w' : World} (hb : Below w.heap.size w w') : w.grownBy w' none := World.grownBy.mk hb.os hb.tape hb.output hb.size (fun i hi _ => hb.block i hi)
theorem Has.below {w' : World} (h : Has w P k e b l) (hb : Below w.heap.size w w') : Has w' P k e b l := h.kept (grown_of_below hb) (by simp)
theorem Has.alloc (h : Has w P k e b l) (o : Obj) : Has (w.alloc o) P k e b l := h.kept (World.grownBy_alloc w o none) (by simp)
theorem Has.drew (h : Has w P k e b l) : Has w.drew P k e b l := h
theorem Has.setCell {a : Addr} (h : Has w P k e b l) (ha : b ≠ a.block) (u : Value) : Has (w.setCell a u) P k e b l := by
  obtain ⟨es, ho, hp⟩ := h
  exact ⟨es, ho.setCell ha u, hp⟩
theorem below_grown {w W w1 : World} {B : Nat} (h : Below w.heap.size w W) (hg : W.grownBy w1 (some B)) (hB : w.heap.size ≤ B) : Below w.heap.size w w1 :=
  ⟨hg.os.trans h.os, hg.tape.trans h.tape, hg.output.trans h.output, Nat.le_trans h.size hg.size, fun i hi => (hg.block i (Nat.lt_of_lt_of_le hi h.size) (by simp; omega)).trans (h.block i hi)⟩
theorem below_grown0 {w W w1 : World} (h : Below w.heap.size w W) (hg : W.grownBy w1 none) : Below w.heap.size w w1 :=
  ⟨hg.os.trans h.os, hg.tape.trans h.tape, hg.output.trans h.output, Nat.le_trans h.size hg.size, fun i hi => (hg.block i (Nat.lt_of_lt_of_le hi h.size) (by simp)).trans (h.block i hi)⟩
/-! ### what the entries tell -/
def vl : DataW Unit → Int
  | .lit (.int _ a) => a
  | _ => 0
def tot (es : List (Lit × DataW Unit)) : Int := (es.map fun p => vl p.2).sum
theorem tot_perm {x y : List (Lit × DataW Unit)} (h : x.Perm y) : tot x = tot y := by
  induction h with
  | nil => rfl
  | cons a _ ih => simp only [tot, List.map_cons, List.sum_cons] at ih ⊢; omega
  | swap a b l => simp only [tot, List.map_cons, List.sum_cons]; omega
  | trans _ _ i1 i2 => exact i1.trans i2
theorem tot_enc (l : List En) : tot (enc l) = total l := by
  unfold tot enc total
  rw [List.map_map]
  rfl
theorem tot_cons (x : Lit × DataW Unit) (l : List (Lit × DataW Unit)) : tot (x :: l) = vl x.2 + tot l := by simp [tot]
theorem tot_step {kl : Lit} {d : DataW Unit} {left : Lit → Bool} (hk : WideAt.IsKeyLit kl) (hl : left kl = true) : ∀ {es : List (Lit × DataW Unit)}, es.Pairwise (fun p q => p.1 ≠ q.1) → (kl, d) ∈ es →
    tot (es.filter fun p => left p.1) = vl d + tot (es.filter fun p => left p.1 && !p.1.sameKey kl)
  | [], _, h => by simp at h
  | x :: r, hp, h => by
    obtain ⟨h1, h2⟩ := List.pairwise_cons.1 hp
    by_cases c : x = (kl, d)
    · subst c
      have e1 : ∀ p ∈ r, p.1.sameKey kl = false := fun p hp => Go.Maps.sameKey_ne (h1 p hp).symm
      have e2 : (r.filter fun p => left p.1 && !p.1.sameKey kl) = r.filter fun p => left p.1 := List.filter_congr (fun p hp => by rw [e1 p hp]; simp)
      rw [List.filter_cons, List.filter_cons, if_pos hl, if_neg (by simp [WideAt.sameKey_self hk]), tot_cons, e2]
    · have hm : (kl, d) ∈ r := by
        rcases List.mem_cons.1 h with h | h
        · exact absurd h.symm c
        · exact h
      have ih := tot_step hk hl h2 hm
      have hx : x.1.sameKey kl = false := Go.Maps.sameKey_ne (h1 _ hm)
      rw [List.filter_cons, List.filter_cons]
      by_cases cl : left x.1 = true
      · rw [if_pos cl, if_pos (by simp [cl, hx]), tot_cons, tot_cons, ih]
        omega
      · rw [if_neg cl, if_neg (by simp [cl]), ih]
theorem at_mem {kl : Lit} {d : DataW Unit} {es : List (Lit × DataW Unit)} (h : ∀ zd, (DataW.map es).atKey kl zd = d) : (kl, d) ∈ es := by
  have hh := Go.Maps.has_true_of_atKey h
  obtain ⟨p, hp, hpk⟩ := List.any_eq_true.1 (show es.any (fun p => p.1.sameKey kl) = true from hh)
  have hs : (es.find? (fun p => p.1.sameKey kl)).isSome = true := List.find?_isSome.2 ⟨p, hp, hpk⟩
  obtain ⟨x, hx⟩ := Option.isSome_iff_exists.1 hs
  have e1 : x.2 = d := by have := h .nil; simpa [DataW.atKey, hx] using this
  have e2 : x.1 = kl := WideAt.sameKey_eq (by simpa using List.find?_some hx)
  rw [← e1, ← e2]
  exact List.mem_of_find?_eq_some hx
theorem mem_enc {kl : Lit} {c : Int} : (kl, DataW.lit (.int .i64 c)) ∈ enc l → (kl, c) ∈ l := by
  intro h
  obtain ⟨p, hp, e⟩ := List.mem_map.1 h
  simp only [Prod.mk.injEq, DataW.lit.injEq, Lit.int.injEq, true_and] at e
  obtain ⟨e1, e2⟩ := e
  rw [← e1, ← e2]
  exact hp
/-! ### at the operations -/
variable {ops : Array Oper} {rest : List Oper} {o : Oper} {a : Act} {Q : Exit → Act → World → Prop}
theorem wp_del (w : World) (hg : o.guard = none) (m x : Operand) (t k : TypeId) (hop : o.op = Op.call { callee := Callee.builtin Builtin.delete, args := #[m, x], argTypes := #[t, k] })
    (e : TypeId) (K : Keyed P k) (ht : P.underlying t = some (.map k e)) (b : Nat) (l : List En) (hm : a.eval m = .map (some b)) (hown : Has w P k e b l) (key : Value) (kl : Lit) (hx : a.eval x = key) (hkey : keyOf P k key = some kl)
    (hK : ∀ w', Has w' P k e b (strike kl l) → w.grownBy w' (some b) → wpList P ops Q rest (a.put o.dst (.tuple #[])) w') : wpList P ops Q (o :: rest) a w := by
  obtain ⟨es, ho, hp⟩ := hown
  refine wpList_delete_own w hg m x t k hop e K ht _ b _ _ hm ho key kl hx hkey (fun w' h1 h2 => hK w' ?_ h2.grown)
  have h1' : w'.ownsMap P k (plainElem P e) b l.length (.map (es.filter fun p => !p.1.sameKey kl)) := h1
  exact has_of h1' (by rw [enc_strike]; exact hp.filter _)
theorem wp_put (w : World) (hg : o.guard = none) (m x v : Operand) (t : TypeId) (hop : o.op = Op.mapUpdate t m x v)
    (k e : TypeId) (K : Keyed P k) (ht : P.underlying t = some (.map k e)) (he : P.underlying e = some (.int .i64)) (b : Nat) (l : List En) (hm : a.eval m = .map (some b)) (hown : Has w P k e b l) (hn : l.length < maxLen)
    (key : Value) (kl : Lit) (hx : a.eval x = key) (hkey : keyOf P k key = some kl) (c : Int) (hv : a.eval v = .int .i64 c) (hc : (Lit.int .i64 c).wf = true)
    (hK : ∀ w', Has w' P k e b (strike kl l ++ [(kl, c)]) → w.grownBy w' (some b) → wpList P ops Q rest (a.put o.dst undef) w') : wpList P ops Q (o :: rest) a w := by
  obtain ⟨es, ho, hp⟩ := hown
  refine wpList_mapUpdate_own w hg m x v t hop k e K ht _ b _ _ hm ho hn key _ kl hx hv hkey (.lit (.int .i64 c)) [] (plainElem_int he hc) (fun w' h1 h2 => hK w' ?_ h2)
  have h1' : w'.ownsMap P k (plainElem P e) b (l.length + 1) (.map (DataW.insert (kl, .lit (.int .i64 c)) (es.filter fun p => !p.1.sameKey kl))) := h1
  refine has_of h1' ((insert_perm _ _).trans ?_)
  rw [enc_append, enc_strike]
  exact (List.Perm.cons _ (hp.filter _)).trans (List.perm_append_comm (l₁ := [_]))
theorem wp_len (w : World) (hg : o.guard = none) (m : Operand) (t : TypeId) (hop : o.op = Op.call { callee := Callee.builtin Builtin.len, args := #[m], argTypes := #[t] })
    (k e : TypeId) (ht : P.underlying t = some (.map k e)) (b : Nat) (l : List En) (hm : a.eval m = .map (some b)) (hown : Has w P k e b l)
    (hK : wpList P ops Q rest (a.put o.dst (.int .i64 l.length)) w) : wpList P ops Q (o :: rest) a w := by
  obtain ⟨es, ho, hp⟩ := hown
  refine wpList_len_own w hg m t hop k e ht _ b _ _ hm ho ?_
  have hs : Go.Maps.size (DataW.map es) = l.length := hp.length_eq.trans (enc_length l)
  rw [hs]
  exact hK
/-- A look: what comes is what the key has, or nought: with what the other ones have it is all. -/
theorem Has.look {t : TypeId} (h : Has w P k e b l) (K : Keyed P k) (ht : P.underlying t = some (.map k e)) (he : P.underlying e = some (.int .i64)) (hz : (zeroValue e).run P w = .ok (.int .i64 0) w) {key : Value} {kl : Lit} (hkey : keyOf P k key = some kl) :
    ∃ c, (Instr.lookup t (.map (some b)) key false).run P w = .ok (.int .i64 c) w ∧ c + total (strike kl l) = total l ∧ (Lit.int .i64 c).wf = true := by
  obtain ⟨es, ho, hp⟩ := h
  obtain ⟨c, hrun, hat, hw⟩ := ho.lookup_int K ht he hz hkey
  refine ⟨c, hrun, ?_, hw⟩
  obtain ⟨es', e1, hpw, hks⟩ := ho.entries K
  cases e1
  have hs : tot (es.filter fun p => !p.1.sameKey kl) = total (strike kl l) := by rw [tot_perm (hp.filter _), ← enc_strike, tot_enc]
  have ht' : tot es = total l := by rw [tot_perm hp, tot_enc]
  rw [← hs, ← ht']
  cases hh : Go.Maps.has (DataW.map es) kl with
  | false =>
    have e2 := Go.Maps.atKey_of_not_has hh (.lit (.int .i64 0))
    rw [e2] at hat
    have e3 := Go.Maps.del_of_not_has hh
    have e4 : (es.filter fun p => !p.1.sameKey kl) = es := by injection e3
    simp only [DataW.lit.injEq, Lit.int.injEq, true_and] at hat
    rw [e4]
    omega
  | true =>
    obtain ⟨p, hpm, hpk⟩ := List.any_eq_true.1 (show es.any (fun p => p.1.sameKey kl) = true from hh)
    have hpe : p.1 = kl := WideAt.sameKey_eq hpk
    have hsome : (es.find? (fun p => p.1.sameKey kl)).isSome = true := List.find?_isSome.2 ⟨p, hpm, hpk⟩
    obtain ⟨x, hx⟩ := Option.isSome_iff_exists.1 hsome
    have e2 : x.2 = .lit (.int .i64 c) := by simpa [DataW.atKey, hx] using hat
    have e3 : x.1 = kl := WideAt.sameKey_eq (by simpa using List.find?_some hx)
    have hxm : (kl, DataW.lit (.int .i64 c)) ∈ es := by rw [← e2, ← e3]; exact List.mem_of_find?_eq_some hx
    have h1 := tot_step (left := fun _ => true) (hpe ▸ hks p hpm) rfl hpw hxm
    rw [List.filter_eq_self.2 (fun _ _ => rfl)] at h1
    simp only [Bool.true_and] at h1
    rw [h1]
    rfl
/-- A range under way. -/
def Going (w : World) (P : Program) (k e : TypeId) (b r : Nat) (l : List En) (left : Lit → Bool) (cnt : Nat) : Prop :=
  ∃ n es, w.ranges P k (plainElem P e) b r n (.map es) left cnt ∧ es.Perm (enc l)
def todo (left : Lit → Bool) (l : List En) : Int := total (l.filter fun p => left p.1)
theorem tot_todo {es : List (Lit × DataW Unit)} (hp : es.Perm (enc l)) (left : Lit → Bool) : tot (es.filter fun p => left p.1) = todo left l := by
  rw [tot_perm (hp.filter _)]
  unfold todo
  rw [← tot_enc]
  unfold enc
  rw [List.filter_map]
  rfl
theorem Going.has {r cnt : Nat} {left : Lit → Bool} (h : Going w P k e b r l left cnt) : Has w P k e b l := by
  obtain ⟨n, es, hr, hp⟩ := h
  exact has_of hr.owns hp
theorem Going.kept {r cnt : Nat} {left : Lit → Bool} {w' : World} {row : Option Nat} (h : Going w P k e b r l left cnt) (hg : w.grownBy w' row) (h1 : some b ≠ row) (h2 : some r ≠ row) : Going w' P k e b r l left cnt := by
  obtain ⟨n, es, hr, hp⟩ := h
  exact ⟨n, es, hr.kept hg h1 h2, hp⟩
theorem Going.left_eq {r cnt : Nat} {left : Lit → Bool} (h : Going w P k e b r l left cnt) : w.rangeLeft b r = cnt := by
  obtain ⟨n, es, hr, hp⟩ := h
  exact hr.left_eq
theorem wp_range (w : World) (hg : o.guard = none) (m : Operand) (t : TypeId) (hop : o.op = Op.range t m) (k e : TypeId) (K : Keyed P k) (ht : P.underlying t = some (.map k e)) (b : Nat) (l : List En)
    (hm : a.eval m = .map (some b)) (hown : Has w P k e b l)
    (hK : ∀ w' left cnt, Going w' P k e b w.heap.size l left cnt → todo left l = total l → w.grownBy w' none → w'.heap.size = w.heap.size + 1 → wpList P ops Q rest (a.put o.dst (.pointer (some ⟨w.heap.size, 0, none⟩))) w') :
    wpList P ops Q (o :: rest) a w := by
  obtain ⟨es, ho, hp⟩ := hown
  refine wpList_range_own w hg m t hop k e K ht _ b _ _ hm ho (fun w' h1 h2 h3 => hK w' _ _ ⟨_, es, h1, hp⟩ ?_ h2 h3)
  obtain ⟨es', e1, hpw, hks⟩ := ho.entries K
  cases e1
  rw [← tot_todo hp, ← tot_enc, ← tot_perm hp, List.filter_eq_self.2]
  intro p hpm
  exact List.any_eq_true.2 ⟨p, hpm, WideAt.sameKey_self (hks p hpm)⟩
theorem wp_next (w : World) (hg : o.guard = none) (it : Operand) (hop : o.op = Op.next it false) (k e : TypeId) (K : Keyed P k) (he : P.underlying e = some (.int .i64)) (b r : Nat) (l : List En) (left : Lit → Bool) (cnt : Nat)
    (hit : a.eval it = .pointer (some ⟨r, 0, none⟩)) (h : Going w P k e b r l left cnt)
    (hDone : todo left l = 0 → wpList P ops Q rest (a.put o.dst (.tuple #[.bool false])) w)
    (hMore : ∀ (key : Value) (kl : Lit) (c : Int) (w' : World) (left' : Lit → Bool) (cnt' : Nat), keyOf P k key = some kl → (kl, c) ∈ l → todo left l = c + todo left' l → Going w' P k e b r l left' cnt' → cnt' < cnt →
      w.grownBy w' (some r) → w'.heap.size = w.heap.size → (Instr.entry (.pointer (some ⟨r, 0, none⟩))).run P w' = .ok (.tuple #[key, .int .i64 c]) w' → wpList P ops Q rest (a.put o.dst (.tuple #[.bool true, key, .int .i64 c])) w') :
    wpList P ops Q (o :: rest) a w := by
  obtain ⟨n, es, hr, hp⟩ := h
  refine wpList_next_ranges (α := Value) w hg it hop k K (plainElem P e) id (Value.int .i64) (fun key kl _ => ⟨key, rfl⟩) (fun v y hv => by obtain ⟨c, rfl, _⟩ := plainElem_int_inv he hv; exact ⟨c, rfl⟩) b r n _ left cnt hit hr ?_ ?_
  · intro h0 h1
    refine hDone ?_
    have : (l.filter fun p => left p.1) = [] := List.filter_eq_nil_iff.2 (fun p _ => by rw [h1]; simp)
    unfold todo
    rw [this]
    rfl
  · intro key c kl y w' cnt' hkey hlk hv hat hrg hlt hgr hsz hen
    obtain ⟨c', ec, rfl, hwc⟩ := plainElem_int_inv he hv
    cases ec
    obtain ⟨es', e1, hpw, hks⟩ := hr.owns.entries K
    cases e1
    have hm := at_mem hat
    have hs := tot_step (hks _ hm) hlk hpw hm
    rw [tot_todo hp, tot_todo hp (fun z => left z && !z.sameKey kl)] at hs
    exact hMore key kl c w' _ cnt' hkey (mem_enc (hp.mem_iff.1 hm)) hs ⟨n, es, hrg, hp⟩ hlt hgr hsz hen
end Go.Proofs.Ytbjpfgmmmdfbeaa.Quo

/- The sum of a map's values, whatever order the range takes; a map's clone. -/
set_option linter.unusedVariables false
set_option linter.unusedSimpArgs false
namespace Go.Proofs.Ytbjpfgmmmdfbeaa.Quo
open Go Go.RowKit Go.WideShapes Go.Proofs.Ytbjpfgmmmdfbeaa.Q Go.Proofs.YtbjpfgmmmdfbeaaW.PrintWords Go.Proofs.YtbjpfgmmmdfbeaaW.PrintLast Go.Proofs.YtbjpfgmmmdfbeaaW.PrintMore
open Go.Maps (Keyed)
theorem wrap_step (t a b c : Int) (h : a = c + b) : wrap64 (wrap64 (t - a) + c) = wrap64 (t - b) := by
  unfold wrap64
  omega
theorem wrap_none (t a : Int) (h : a = t) : wrap64 (t - a) = 0 := by
  unfold wrap64
  omega
theorem wrap_all (t a : Int) (h : a = 0) : wrap64 (t - a) = wrap64 t := by
  unfold wrap64
  omega
theorem keyed_at : Keyed Try.prog 70 := Go.Maps.Keyed.of_law (deep_law_laid (show laidOutB Try.prog = true by kernel_rfl) (m := 2) (by omega) (of_decide_eq_true (by kernel_rfl)) (by kernel_rfl) (by kernel_rfl))
set_option maxHeartbeats 8000000 in
set_option maxRecDepth 100000 in
theorem tally_at (b : Nat) (l : List En) (w : World) (h : Has w Try.prog 70 3 b l) :
    Calls Try.prog 31 #[.map (some b)] w fun e w' => e = .returned (.int .i64 (wrap64 (total l))) ∧ Below w.heap.size w w' := by
  have HO := Aside0.mk h
  clear h
  go_enter Try.func31, Try.ntmps31
  go_wp2_with (first | (at_range; refine wp_range _ rfl _ 58 rfl 70 3 keyed_at Try.underlying58 b l rfl HO.out ?_; intro w0 left0 cnt0 hgo0 htd0 hgr0 hsz0; have HG0 := Aside0.mk hgo0; have HT0 := Aside0.mk htd0; have HB := Aside0.mk (below_grown0 (Below.refl _ _) hgr0); clear hgo0 htd0 hgr0 hsz0))
  go_frame
  go_loopg [3] cnt0 (fun kq v3 wr => ∃ (left : Lit → Bool) (cnt : Nat), v3 = .int .i64 (wrap64 (total l - todo left l)) ∧ Aside0 (cnt ≤ kq) ∧ Aside0 (Going wr Try.prog 70 3 b w.heap.size l left cnt) ∧ Aside0 (Below w.heap.size w wr))
  case atStart => exact ⟨left0, cnt0, by rw [wrap_none _ _ HT0.out], ⟨Nat.le_refl _⟩, HG0, HB⟩
  case round =>
    obtain ⟨left, cnt, rfl, HC, HG, HB⟩ := hrel
    go_wp2_with (first | (at_next; refine wp_next _ rfl _ rfl 70 3 keyed_at Try.underlying3 b w.heap.size l left cnt rfl HG.out ?_ ?_))
    · intro hz
      have HZ := Aside0.mk hz
      clear hz
      go_wp2
      go_ret
      exact ⟨by rw [wrap_all _ _ HZ.out]; rfl, HB.out⟩
    · intro key kl c w1 left1 cnt1 hkey hm htd hg1 hlt hgr hsz hen
      have HT := Aside0.mk htd
      have HL := Aside0.mk hlt
      have HG1 := Aside0.mk hg1
      have HB1 := Aside0.mk (below_grown HB.out hgr (Nat.le_refl _))
      clear htd hlt hg1 hgr hsz hkey hm
      go_wp2
      go_roundg cnt1
      case measure => have := HL.out; have := HC.out; omega
      case rel => exact ⟨left1, cnt1, by rw [wrap_step _ _ _ _ HT.out], ⟨Nat.le_refl _⟩, HG1, HB1⟩
theorem keyed_int : Keyed Try.prog 3 := Go.Maps.int_keyed Try.underlying3
set_option maxHeartbeats 8000000 in
set_option maxRecDepth 100000 in
theorem tally_int (b : Nat) (l : List En) (w : World) (h : Has w Try.prog 3 3 b l) :
    Calls Try.prog 25 #[.map (some b)] w fun e w' => e = .returned (.int .i64 (wrap64 (total l))) ∧ Below w.heap.size w w' := by
  have HO := Aside0.mk h
  clear h
  go_enter Try.func25, Try.ntmps25
  go_wp2_with (first | (at_range; refine wp_range _ rfl _ 49 rfl 3 3 keyed_int Try.underlying49 b l rfl HO.out ?_; intro w0 left0 cnt0 hgo0 htd0 hgr0 hsz0; have HG0 := Aside0.mk hgo0; have HT0 := Aside0.mk htd0; have HB := Aside0.mk (below_grown0 (Below.refl _ _) hgr0); clear hgo0 htd0 hgr0 hsz0))
  go_frame
  go_loopg [3] cnt0 (fun kq v3 wr => ∃ (left : Lit → Bool) (cnt : Nat), v3 = .int .i64 (wrap64 (total l - todo left l)) ∧ Aside0 (cnt ≤ kq) ∧ Aside0 (Going wr Try.prog 3 3 b w.heap.size l left cnt) ∧ Aside0 (Below w.heap.size w wr))
  case atStart => exact ⟨left0, cnt0, by rw [wrap_none _ _ HT0.out], ⟨Nat.le_refl _⟩, HG0, HB⟩
  case round =>
    obtain ⟨left, cnt, rfl, HC, HG, HB⟩ := hrel
    go_wp2_with (first | (at_next; refine wp_next _ rfl _ rfl 3 3 keyed_int Try.underlying3 b w.heap.size l left cnt rfl HG.out ?_ ?_))
    · intro hz
      have HZ := Aside0.mk hz
      clear hz
      go_wp2
      go_ret
      exact ⟨by rw [wrap_all _ _ HZ.out]; rfl, HB.out⟩
    · intro key kl c w1 left1 cnt1 hkey hm htd hg1 hlt hgr hsz hen
      have HT := Aside0.mk htd
      have HL := Aside0.mk hlt
      have HG1 := Aside0.mk hg1
      have HB1 := Aside0.mk (below_grown HB.out hgr (Nat.le_refl _))
      clear htd hlt hg1 hgr hsz hkey hm
      go_wp2
      go_roundg cnt1
      case measure => have := HL.out; have := HC.out; omega
      case rel => exact ⟨left1, cnt1, by rw [wrap_step _ _ _ _ HT.out], ⟨Nat.le_refl _⟩, HG1, HB1⟩
theorem keyed_byte : Keyed Try.prog 5 := Go.Maps.int_keyed Try.underlying5
set_option maxHeartbeats 8000000 in
set_option maxRecDepth 100000 in
theorem tally_byte (b : Nat) (l : List En) (w : World) (h : Has w Try.prog 5 3 b l) :
    Calls Try.prog 26 #[.map (some b)] w fun e w' => e = .returned (.int .i64 (wrap64 (total l))) ∧ Below w.heap.size w w' := by
  have HO := Aside0.mk h
  clear h
  go_enter Try.func26, Try.ntmps26
  go_wp2_with (first | (at_range; refine wp_range _ rfl _ 50 rfl 5 3 keyed_byte Try.underlying50 b l rfl HO.out ?_; intro w0 left0 cnt0 hgo0 htd0 hgr0 hsz0; have HG0 := Aside0.mk hgo0; have HT0 := Aside0.mk htd0; have HB := Aside0.mk (below_grown0 (Below.refl _ _) hgr0); clear hgo0 htd0 hgr0 hsz0))
  go_frame
  go_loopg [3] cnt0 (fun kq v3 wr => ∃ (left : Lit → Bool) (cnt : Nat), v3 = .int .i64 (wrap64 (total l - todo left l)) ∧ Aside0 (cnt ≤ kq) ∧ Aside0 (Going wr Try.prog 5 3 b w.heap.size l left cnt) ∧ Aside0 (Below w.heap.size w wr))
  case atStart => exact ⟨left0, cnt0, by rw [wrap_none _ _ HT0.out], ⟨Nat.le_refl _⟩, HG0, HB⟩
  case round =>
    obtain ⟨left, cnt, rfl, HC, HG, HB⟩ := hrel
    go_wp2_with (first | (at_next; refine wp_next _ rfl _ rfl 5 3 keyed_byte Try.underlying3 b w.heap.size l left cnt rfl HG.out ?_ ?_))
    · intro hz
      have HZ := Aside0.mk hz
      clear hz
      go_wp2
      go_ret
      exact ⟨by rw [wrap_all _ _ HZ.out]; rfl, HB.out⟩
    · intro key kl c w1 left1 cnt1 hkey hm htd hg1 hlt hgr hsz hen
      have HT := Aside0.mk htd
      have HL := Aside0.mk hlt
      have HG1 := Aside0.mk hg1
      have HB1 := Aside0.mk (below_grown HB.out hgr (Nat.le_refl _))
      clear htd hlt hg1 hgr hsz hkey hm
      go_wp2
      go_roundg cnt1
      case measure => have := HL.out; have := HC.out; omega
      case rel => exact ⟨left1, cnt1, by rw [wrap_step _ _ _ _ HT.out], ⟨Nat.le_refl _⟩, HG1, HB1⟩
theorem keyed_string : Keyed Try.prog 9 := Go.Maps.string_keyed Try.underlying9
set_option maxHeartbeats 8000000 in
set_option maxRecDepth 100000 in
theorem tally_string (b : Nat) (l : List En) (w : World) (h : Has w Try.prog 9 3 b l) :
    Calls Try.prog 27 #[.map (some b)] w fun e w' => e = .returned (.int .i64 (wrap64 (total l))) ∧ Below w.heap.size w w' := by
  have HO := Aside0.mk h
  clear h
  go_enter Try.func27, Try.ntmps27
  go_wp2_with (first | (at_range; refine wp_range _ rfl _ 57 rfl 9 3 keyed_string Try.underlying57 b l rfl HO.out ?_; intro w0 left0 cnt0 hgo0 htd0 hgr0 hsz0; have HG0 := Aside0.mk hgo0; have HT0 := Aside0.mk htd0; have HB := Aside0.mk (below_grown0 (Below.refl _ _) hgr0); clear hgo0 htd0 hgr0 hsz0))
  go_frame
  go_loopg [3] cnt0 (fun kq v3 wr => ∃ (left : Lit → Bool) (cnt : Nat), v3 = .int .i64 (wrap64 (total l - todo left l)) ∧ Aside0 (cnt ≤ kq) ∧ Aside0 (Going wr Try.prog 9 3 b w.heap.size l left cnt) ∧ Aside0 (Below w.heap.size w wr))
  case atStart => exact ⟨left0, cnt0, by rw [wrap_none _ _ HT0.out], ⟨Nat.le_refl _⟩, HG0, HB⟩
  case round =>
    obtain ⟨left, cnt, rfl, HC, HG, HB⟩ := hrel
    go_wp2_with (first | (at_next; refine wp_next _ rfl _ rfl 9 3 keyed_string Try.underlying3 b w.heap.size l left cnt rfl HG.out ?_ ?_))
    · intro hz
      have HZ := Aside0.mk hz
      clear hz
      go_wp2
      go_ret
      exact ⟨by rw [wrap_all _ _ HZ.out]; rfl, HB.out⟩
    · intro key kl c w1 left1 cnt1 hkey hm htd hg1 hlt hgr hsz hen
      have HT := Aside0.mk htd
      have HL := Aside0.mk hlt
      have HG1 := Aside0.mk hg1
      have HB1 := Aside0.mk (below_grown HB.out hgr (Nat.le_refl _))
      clear htd hlt hg1 hgr hsz hkey hm
      go_wp2
      go_roundg cnt1
      case measure => have := HL.out; have := HC.out; omega
      case rel => exact ⟨left1, cnt1, by rw [wrap_step _ _ _ _ HT.out], ⟨Nat.le_refl _⟩, HG1, HB1⟩
/-- The clone: a new block that holds the same. -/
theorem clone_at (b : Nat) (l : List En) (w : World) (h : Has w Try.prog 70 3 b l) :
    Calls Try.prog 36 #[.map (some b)] w fun e w' => e = .returned (.map (some w.heap.size)) ∧ Has w' Try.prog 70 3 w.heap.size l ∧ Below w.heap.size w w' := by
  obtain ⟨es, ho, hp⟩ := h
  have hlt := ho.lt
  obtain ⟨e0, clock, hb, F, hs, hD⟩ := ho
  have hq := fun w => run_eql_map_nil_sl (P := Try.prog) w 58 _ _ (some b) Try.underlying58
  have HF := Aside0.mk F
  have HS := Aside0.mk hs
  have HD := Aside0.mk hD
  have HP := Aside0.mk hp
  clear F hs hD hp
  go_enter Try.func36, Try.ntmps36
  go_wp2
  rw [run_callFunc_extern Try.func38 (by kernel_rfl) (by kernel_rfl) (by kernel_rfl) (e := Extern.MapsClone.clone) (by kernel_rfl), run_maps_clone_sl w 58 hb]
  simp only [Result.andThen]
  rw [Oper.upon_value]
  go_wp2
  rw [run_typeAssert_map_sl _ 58 20 _ _ _ Try.underlying58]
  simp only [Result.andThen]
  rw [Oper.upon_value]
  go_wp2
  go_ret
  exact ⟨rfl, ⟨es, ⟨e0, clock, (MapKept.heap_alloc w _).1, HF.out, HS.out, HD.out⟩, HP.out⟩, (Below.refl _ w).alloc (Nat.le_refl _) _⟩
end Go.Proofs.Ytbjpfgmmmdfbeaa.Quo

namespace Go.Proofs.Ytbjpfgmmmdfbeaa.Q
open Go.RowKit Go.Proofs.YtbjpfgmmmdfbeaaW.PrintWords Go.Proofs.YtbjpfgmmmdfbeaaW.PrintLast Go.Proofs.YtbjpfgmmmdfbeaaW.PrintMore
attribute [local go_sem] max2_int min2_int max_two min_two max_three min_three max_four min_four   -- for this text's walks alone
set_option linter.unusedVariables false
set_option linter.unusedSimpArgs false
/-! ### item_named: function 34 -/
def item_named.f (a0 : ByteArray) : Option (Bool) := if a0.toList = ([] : List UInt8) then (some false) else (some (decide ((a0.size : Int) ≤ 16)))
set_option maxHeartbeats 8000000 in
set_option maxRecDepth 100000 in
theorem item_named.calls (a0 : ByteArray) (r : Bool) (w : World) (h : item_named.f a0 = some r) :
    Calls Try.prog 34 #[.string a0] w fun e w' => e = .returned (.bool r) ∧ Drawn0 w w' := by
  have H : (if a0.toList = ([] : List UInt8) then (some false) else (some (decide ((a0.size : Int) ≤ 16)))) = some r := h
  clear h
  by_cases c2 : a0.toList = ([] : List UInt8)
  rotate_left
  · rw [if_neg c2] at H
    have c2b0 : (a0.toList == ([] : List UInt8)) = false := beq_eq_false_iff_ne.mpr c2
    have c2b1 : (a0.toList != ([] : List UInt8)) = true := bne_iff_ne.mpr c2
    obtain rfl := Option.some.inj H
    go_enter Try.func34, Try.ntmps34
    go_wp2
    go_ret
    exact ⟨by first | rfl | (simp; done) | (simp [*]; done), by repeat (first | exact Drawn0.refl _ | apply Drawn0.step)⟩
  rw [if_pos c2] at H
  have c2b0 : (a0.toList == ([] : List UInt8)) = true := beq_iff_eq.mpr c2
  have c2b1 : (a0.toList != ([] : List UInt8)) = false := bne_eq_false_iff_eq.mpr c2
  clear c2
  obtain rfl := Option.some.inj H
  go_enter Try.func34, Try.ntmps34
  go_wp2
  go_ret
  exact ⟨by first | rfl | (simp; done) | (simp [*]; done), by repeat (first | exact Drawn0.refl _ | apply Drawn0.step)⟩
/-! ### item_Right: function 23 -/
def item_Right.f (a0_0 : ByteArray) (a0_1 : ByteArray) (a0_2 : ByteArray) (a0_3 : Bool) : Option (Bool) := (item_named.f a0_0).bind fun t102 => (if t102 = true then ((item_named.f a0_1).bind fun t103 => (if t103 = true then (if (a0_2.size : Int) ≤ 32 then (if a0_2.toList = ([] : List UInt8) then (some true) else (some (!a0_3))) else (some false)) else (some false))) else (some false))
set_option maxHeartbeats 8000000 in
set_option maxRecDepth 100000 in
theorem item_Right.calls (a0_0 : ByteArray) (a0_1 : ByteArray) (a0_2 : ByteArray) (a0_3 : Bool) (r : Bool) (w : World) (h : item_Right.f a0_0 a0_1 a0_2 a0_3 = some r) :
    Calls Try.prog 23 #[.agg #[.string a0_0, .string a0_1, .string a0_2, .bool a0_3]] w fun e w' => e = .returned (.bool r) ∧ Below w.heap.size w w' := by
  have hu45 := Try.underlying45
  have HB := Aside0.mk (Below.refl w.heap.size w)
  have H : ((item_named.f a0_0).bind fun t102 => (if t102 = true then ((item_named.f a0_1).bind fun t103 => (if t103 = true then (if (a0_2.size : Int) ≤ 32 then (if a0_2.toList = ([] : List UInt8) then (some true) else (some (!a0_3))) else (some false)) else (some false))) else (some false))) = some r := h
  clear h
  replace H := Option.bind_eq_some_iff.mp H
  obtain ⟨t102, A20, H⟩ := H
  replace H : (if t102 = true then ((item_named.f a0_1).bind fun t103 => (if t103 = true then (if (a0_2.size : Int) ≤ 32 then (if a0_2.toList = ([] : List UInt8) then (some true) else (some (!a0_3))) else (some false)) else (some false))) else (some false)) = some r := H
  have A2 := Aside0.mk A20
  clear A20
  by_cases c3 : t102 = true
  rotate_left
  · replace c3 := Bool.eq_false_iff.mpr c3
    subst c3
    have H1 : (some false) = some r := by rw [if_neg (show ¬ (false = true) by decide)] at H; exact H
    clear H
    have H := H1
    clear H1
    obtain rfl := Option.some.inj H
    go_enter Try.func23, Try.ntmps23
    go_wp2_with (first | ((with_reducible refine gate_dst (N := 1) rfl ?_); refine box_event ?hg (N := 1) ?hd (cs := #[.string a0_0, .string a0_1, .string a0_2, .bool a0_3]) (t := 45) ?hr ?_; (case hd => rfl); (case hg => rfl); (case hr => first | (go_simp; done) | (go_simp; rfl)); intro gb101 hg w16 hbox hb; have BK101 := Aside0.mk (hbox); have GW101 := Kw_ HB hg; have GE101 := GW101; replace HB := Ks_ HB hb; clear hb hbox hg; obtain ⟨hcz17_0, hcz17_1, hcz17_2, hcz17_3, hfz17_0, hfz17_1, hfz17_2, hfz17_3⟩ := Ke4_ BK101.out) | ((with_reducible refine gate_callee (f := 34) rfl ?_); refine Kg_ (some 5) rfl rfl Try.func34 (by kernel_rfl) rfl #[.string a0_0] rfl ?_; (with_reducible refine (item_named.calls a0_0 false _ A2.out).mono ?_); rintro e w' ⟨rfl, ⟨nd, rfl⟩⟩; refine ⟨_, rfl, ?_⟩))
    go_ret
    exact ⟨Kh_, Kz_ HB GE101⟩
  subst c3
  have H1 : ((item_named.f a0_1).bind fun t103 => (if t103 = true then (if (a0_2.size : Int) ≤ 32 then (if a0_2.toList = ([] : List UInt8) then (some true) else (some (!a0_3))) else (some false)) else (some false))) = some r := by rw [if_pos rfl] at H; exact H
  clear H
  have H := H1
  clear H1
  replace H := Option.bind_eq_some_iff.mp H
  obtain ⟨t103, A40, H⟩ := H
  replace H : (if t103 = true then (if (a0_2.size : Int) ≤ 32 then (if a0_2.toList = ([] : List UInt8) then (some true) else (some (!a0_3))) else (some false)) else (some false)) = some r := H
  have A4 := Aside0.mk A40
  clear A40
  by_cases c5 : t103 = true
  rotate_left
  · replace c5 := Bool.eq_false_iff.mpr c5
    subst c5
    have H1 : (some false) = some r := by rw [if_neg (show ¬ (false = true) by decide)] at H; exact H
    clear H
    have H := H1
    clear H1
    obtain rfl := Option.some.inj H
    go_enter Try.func23, Try.ntmps23
    go_wp2_with (first | ((with_reducible refine gate_dst (N := 1) rfl ?_); refine box_event ?hg (N := 1) ?hd (cs := #[.string a0_0, .string a0_1, .string a0_2, .bool a0_3]) (t := 45) ?hr ?_; (case hd => rfl); (case hg => rfl); (case hr => first | (go_simp; done) | (go_simp; rfl)); intro gb101 hg w14 hbox hb; have BK101 := Aside0.mk (hbox); have GW101 := Kw_ HB hg; have GE101 := GW101; replace HB := Ks_ HB hb; clear hb hbox hg; obtain ⟨hcz15_0, hcz15_1, hcz15_2, hcz15_3, hfz15_0, hfz15_1, hfz15_2, hfz15_3⟩ := Ke4_ BK101.out) | ((with_reducible refine gate_callee (f := 34) rfl ?_); refine Kg_ (some 5) rfl rfl Try.func34 (by kernel_rfl) rfl #[.string a0_0] rfl ?_; (with_reducible refine (item_named.calls a0_0 true _ A2.out).mono ?_); rintro e w' ⟨rfl, ⟨nd, rfl⟩⟩; refine ⟨_, rfl, ?_⟩) | (go_at_call 34; (with_reducible refine (item_named.calls a0_1 false _ A4.out).mono ?_); rintro e w' ⟨rfl, ⟨nd, rfl⟩⟩))
    go_ret
    exact ⟨Kh_, Kz_ HB GE101⟩
  subst c5
  have H1 : (if (a0_2.size : Int) ≤ 32 then (if a0_2.toList = ([] : List UInt8) then (some true) else (some (!a0_3))) else (some false)) = some r := by rw [if_pos rfl] at H; exact H
  clear H
  have H := H1
  clear H1
  by_cases c6 : (a0_2.size : Int) ≤ 32
  rotate_left
  · rw [if_neg c6] at H
    have c6b0 : decide ((a0_2.size : Int) ≤ 32) = false := decide_eq_false c6
    have c6b1 : decide (a0_2.size ≤ 32) = false := decide_eq_false (by omega)
    clear c6
    obtain rfl := Option.some.inj H
    go_enter Try.func23, Try.ntmps23
    go_wp2_with (first | ((with_reducible refine gate_dst (N := 1) rfl ?_); refine box_event ?hg (N := 1) ?hd (cs := #[.string a0_0, .string a0_1, .string a0_2, .bool a0_3]) (t := 45) ?hr ?_; (case hd => rfl); (case hg => rfl); (case hr => first | (go_simp; done) | (go_simp; rfl)); intro gb101 hg w12 hbox hb; have BK101 := Aside0.mk (hbox); have GW101 := Kw_ HB hg; have GE101 := GW101; replace HB := Ks_ HB hb; clear hb hbox hg; obtain ⟨hcz13_0, hcz13_1, hcz13_2, hcz13_3, hfz13_0, hfz13_1, hfz13_2, hfz13_3⟩ := Ke4_ BK101.out) | ((with_reducible refine gate_callee (f := 34) rfl ?_); refine Kg_ (some 5) rfl rfl Try.func34 (by kernel_rfl) rfl #[.string a0_0] rfl ?_; (with_reducible refine (item_named.calls a0_0 true _ A2.out).mono ?_); rintro e w' ⟨rfl, ⟨nd, rfl⟩⟩; refine ⟨_, rfl, ?_⟩) | (go_at_call 34; (with_reducible refine (item_named.calls a0_1 true _ A4.out).mono ?_); rintro e w' ⟨rfl, ⟨nd, rfl⟩⟩))
    go_ret
    exact ⟨Kh_, Kz_ HB GE101⟩
  rw [if_pos c6] at H
  have c6b0 : decide ((a0_2.size : Int) ≤ 32) = true := decide_eq_true c6
  have c6b1 : decide (a0_2.size ≤ 32) = true := decide_eq_true (by omega)
  clear c6
  by_cases c7 : a0_2.toList = ([] : List UInt8)
  rotate_left
  · rw [if_neg c7] at H
    have c7b0 : (a0_2.toList == ([] : List UInt8)) = false := beq_eq_false_iff_ne.mpr c7
    have c7b1 : (a0_2.toList != ([] : List UInt8)) = true := bne_iff_ne.mpr c7
    obtain rfl := Option.some.inj H
    go_enter Try.func23, Try.ntmps23
    go_wp2_with (first | ((with_reducible refine gate_dst (N := 1) rfl ?_); refine box_event ?hg (N := 1) ?hd (cs := #[.string a0_0, .string a0_1, .string a0_2, .bool a0_3]) (t := 45) ?hr ?_; (case hd => rfl); (case hg => rfl); (case hr => first | (go_simp; done) | (go_simp; rfl)); intro gb101 hg w10 hbox hb; have BK101 := Aside0.mk (hbox); have GW101 := Kw_ HB hg; have GE101 := GW101; replace HB := Ks_ HB hb; clear hb hbox hg; obtain ⟨hcz11_0, hcz11_1, hcz11_2, hcz11_3, hfz11_0, hfz11_1, hfz11_2, hfz11_3⟩ := Ke4_ BK101.out) | ((with_reducible refine gate_callee (f := 34) rfl ?_); refine Kg_ (some 5) rfl rfl Try.func34 (by kernel_rfl) rfl #[.string a0_0] rfl ?_; (with_reducible refine (item_named.calls a0_0 true _ A2.out).mono ?_); rintro e w' ⟨rfl, ⟨nd, rfl⟩⟩; refine ⟨_, rfl, ?_⟩) | (go_at_call 34; (with_reducible refine (item_named.calls a0_1 true _ A4.out).mono ?_); rintro e w' ⟨rfl, ⟨nd, rfl⟩⟩))
    go_ret
    exact ⟨Kh_, Kz_ HB GE101⟩
  rw [if_pos c7] at H
  have c7b0 : (a0_2.toList == ([] : List UInt8)) = true := beq_iff_eq.mpr c7
  have c7b1 : (a0_2.toList != ([] : List UInt8)) = false := bne_eq_false_iff_eq.mpr c7
  clear c7
  obtain rfl := Option.some.inj H
  go_enter Try.func23, Try.ntmps23
  go_wp2_with (first | ((with_reducible refine gate_dst (N := 1) rfl ?_); refine box_event ?hg (N := 1) ?hd (cs := #[.string a0_0, .string a0_1, .string a0_2, .bool a0_3]) (t := 45) ?hr ?_; (case hd => rfl); (case hg => rfl); (case hr => first | (go_simp; done) | (go_simp; rfl)); intro gb101 hg w8 hbox hb; have BK101 := Aside0.mk (hbox); have GW101 := Kw_ HB hg; have GE101 := GW101; replace HB := Ks_ HB hb; clear hb hbox hg; obtain ⟨hcz9_0, hcz9_1, hcz9_2, hcz9_3, hfz9_0, hfz9_1, hfz9_2, hfz9_3⟩ := Ke4_ BK101.out) | ((with_reducible refine gate_callee (f := 34) rfl ?_); refine Kg_ (some 5) rfl rfl Try.func34 (by kernel_rfl) rfl #[.string a0_0] rfl ?_; (with_reducible refine (item_named.calls a0_0 true _ A2.out).mono ?_); rintro e w' ⟨rfl, ⟨nd, rfl⟩⟩; refine ⟨_, rfl, ?_⟩) | (go_at_call 34; (with_reducible refine (item_named.calls a0_1 true _ A4.out).mono ?_); rintro e w' ⟨rfl, ⟨nd, rfl⟩⟩))
  go_ret
  exact ⟨Kh_, Kz_ HB GE101⟩
/-! ### item_Size: function 24 -/
def item_Size.f (a0_0 : ByteArray) (a0_1 : ByteArray) (a0_2 : ByteArray) (a0_3 : Bool) : Option (Int) := if a0_3 = true then (some 0) else (some (wrap64 ((wrap64 ((a0_0.size : Int) + (a0_1.size : Int))) + (a0_2.size : Int))))
set_option maxHeartbeats 8000000 in
set_option maxRecDepth 100000 in
theorem item_Size.calls (a0_0 : ByteArray) (a0_1 : ByteArray) (a0_2 : ByteArray) (a0_3 : Bool) (r : Int) (w : World) (h : item_Size.f a0_0 a0_1 a0_2 a0_3 = some r) :
    Calls Try.prog 24 #[.agg #[.string a0_0, .string a0_1, .string a0_2, .bool a0_3]] w fun e w' => e = .returned (.int .i64 r) ∧ Below w.heap.size w w' := by
  have hu45 := Try.underlying45
  have HB := Aside0.mk (Below.refl w.heap.size w)
  have H : (if a0_3 = true then (some 0) else (some (wrap64 ((wrap64 ((a0_0.size : Int) + (a0_1.size : Int))) + (a0_2.size : Int))))) = some r := h
  clear h
  by_cases c2 : a0_3 = true
  · subst c2
    have H1 : (some 0) = some r := by rw [if_pos rfl] at H; exact H
    clear H
    have H := H1
    clear H1
    obtain rfl := Option.some.inj H
    go_enter Try.func24, Try.ntmps24
    go_wp2_with (first | ((with_reducible refine gate_dst (N := 1) rfl ?_); refine box_event ?hg (N := 1) ?hd (cs := #[.string a0_0, .string a0_1, .string a0_2, .bool true]) (t := 45) ?hr ?_; (case hd => rfl); (case hg => rfl); (case hr => first | (go_simp; done) | (go_simp; rfl)); intro gb104 hg w3 hbox hb; have BK104 := Aside0.mk (hbox); have GW104 := Kw_ HB hg; have GE104 := GW104; replace HB := Ks_ HB hb; clear hb hbox hg; obtain ⟨hcz4_0, hcz4_1, hcz4_2, hcz4_3, hfz4_0, hfz4_1, hfz4_2, hfz4_3⟩ := Ke4_ BK104.out))
    go_ret
    exact ⟨Kh_, Kz_ HB GE104⟩
  replace c2 := Bool.eq_false_iff.mpr c2
  subst c2
  have H1 : (some (wrap64 ((wrap64 ((a0_0.size : Int) + (a0_1.size : Int))) + (a0_2.size : Int)))) = some r := by rw [if_neg (show ¬ (false = true) by decide)] at H; exact H
  clear H
  have H := H1
  clear H1
  obtain rfl := Option.some.inj H
  go_enter Try.func24, Try.ntmps24
  go_wp2_with (first | ((with_reducible refine gate_dst (N := 1) rfl ?_); refine box_event ?hg (N := 1) ?hd (cs := #[.string a0_0, .string a0_1, .string a0_2, .bool false]) (t := 45) ?hr ?_; (case hd => rfl); (case hg => rfl); (case hr => first | (go_simp; done) | (go_simp; rfl)); intro gb104 hg w5 hbox hb; have BK104 := Aside0.mk (hbox); have GW104 := Kw_ HB hg; have GE104 := GW104; replace HB := Ks_ HB hb; clear hb hbox hg; obtain ⟨hcz6_0, hcz6_1, hcz6_2, hcz6_3, hfz6_0, hfz6_1, hfz6_2, hfz6_3⟩ := Ke4_ BK104.out))
  go_ret
  exact ⟨Kh_, Kz_ HB GE104⟩
end Go.Proofs.Ytbjpfgmmmdfbeaa.Q

/- Texts as lists of bytes; wraps that do nothing. -/
set_option linter.unusedVariables false
set_option linter.unusedSimpArgs false
namespace Go.Proofs.Ytbjpfgmmmdfbeaa.Pure
open Go.RowKit Go.Proofs.YtbjpfgmmmdfbeaaW.PrintWords Go.Proofs.YtbjpfgmmmdfbeaaW.PrintLast Go.Proofs.YtbjpfgmmmdfbeaaW.PrintMore

/-! ### texts as lists of bytes -/
def bl (s : ByteArray) : List Nat := s.data.toList.map UInt8.toNat
theorem bl_length (s : ByteArray) : (bl s).length = s.size := by unfold bl; rw [List.length_map, Array.length_toList]; rfl
theorem bl_lt (s : ByteArray) : ∀ b ∈ bl s, b < 256 := by
  intro b hb
  obtain ⟨u, _, rfl⟩ := List.mem_map.1 hb
  exact u.toNat_lt
theorem map_toNat_inj : ∀ {l m : List UInt8}, l.map UInt8.toNat = m.map UInt8.toNat → l = m
  | [], [], _ => rfl
  | [], _ :: _, h => by simp at h
  | _ :: _, [], h => by simp at h
  | a :: l, b :: m, h => by
    simp only [List.map_cons, List.cons.injEq] at h
    rw [UInt8.toNat_inj.1 h.1, map_toNat_inj h.2]
theorem ba_ext {s t : ByteArray} (h : s.data.toList = t.data.toList) : s = t := by
  cases s; cases t
  simp only [ByteArray.mk.injEq]
  exact Array.toList_inj.1 h
theorem bl_inj {s t : ByteArray} (h : bl s = bl t) : s = t := ba_ext (map_toNat_inj h)
theorem bl_append (s t : ByteArray) : bl (s ++ t) = bl s ++ bl t := by
  unfold bl; rw [← List.map_append, ByteArray.data_append]; simp
theorem bl_extract (s : ByteArray) (a b : Nat) : bl (s.extract a b) = ((bl s).take b).drop a := by
  unfold bl
  rw [← List.map_take, ← List.map_drop]
  congr 1
  simp [ByteArray.data_extract, Array.toList_extract, List.extract_eq_take_drop, List.drop_take]
theorem bl_take (s : ByteArray) (n : Nat) : bl (s.extract 0 n) = (bl s).take n := by rw [bl_extract, List.drop_zero]
theorem bl_drop (s : ByteArray) (n : Nat) : bl (s.extract n s.size) = (bl s).drop n := by rw [bl_extract, ← bl_length, List.take_length]
theorem toList_data (s : ByteArray) : s.toList = s.data.toList := by
  exact ByteArray.toList_eq s
theorem toList_iff {s t : ByteArray} : s.toList = t.toList ↔ s = t := by
  rw [toList_data, toList_data]; exact ⟨ba_ext, fun h => by rw [h]⟩
def NL (l : List Nat) : List Int := l.map fun n : Nat => (n : Int)
theorem bl_str (l : List Nat) (h : ∀ b ∈ l, b < 256) : bl (strOfNums (NL l)) = l := by
  unfold bl strOfNums NL
  simp only [List.map_map]
  conv => rhs; rw [← List.map_id l]
  apply List.map_congr_left
  intro b hb
  have := h b hb
  simp [UInt8.toNat_ofNat_of_lt', this]
theorem bl_empty : bl (⟨#[]⟩ : ByteArray) = [] := rfl
theorem bl_nil {s : ByteArray} : bl s = [] ↔ s = ⟨#[]⟩ := ⟨fun h => bl_inj (by rw [h]; rfl), fun h => by rw [h]; rfl⟩
theorem bt_bl (s : ByteArray) (i : Nat) (h : i < s.size) : ∃ b, (bl s)[i]? = some b ∧ bt s i = (b : Int) ∧ b < 256 := by
  have hl : i < (bl s).length := by rw [bl_length]; exact h
  refine ⟨(bl s)[i], List.getElem?_eq_getElem hl, ?_, bl_lt s _ (List.getElem_mem hl)⟩
  unfold bt
  rw [dif_pos (by simpa using h)]
  simp [bl, ByteArray.getElem_eq_getElem_data]
theorem wrap_u64 {x : Int} (h0 : 0 ≤ x) (h1 : x < 18446744073709551616) : IntKind.u64.wrap x = x := by
  simp only [IntKind.wrap_u64]; omega
theorem wrap64_id {x : Int} (h0 : -9223372036854775808 ≤ x) (h1 : x ≤ 9223372036854775807) : wrap64 x = x := by
  unfold wrap64; omega
end Go.Proofs.Ytbjpfgmmmdfbeaa.Pure

/- What a Quota's functions do: the sizes behind some writes, their sum, whether it fits, what is taken. -/
set_option linter.unusedVariables false
set_option linter.unusedSimpArgs false
namespace Go.Proofs.Ytbjpfgmmmdfbeaa.Quo
open Go Go.RowKit Go.WideShapes Go.Proofs.Ytbjpfgmmmdfbeaa.Q Go.Proofs.YtbjpfgmmmdfbeaaW.PrintWords Go.Proofs.YtbjpfgmmmdfbeaaW.PrintLast Go.Proofs.YtbjpfgmmmdfbeaaW.PrintMore
open Go.Maps (Keyed)
open Go.Proofs.Ytbjpfgmmmdfbeaa.Pure (wrap64_id toList_data toList_iff)
abbrev Wr := S45
def kl (a b : ByteArray) : Lit := .string (keyBytes [.string a.data.toList, .string b.data.toList])
theorem kl_of (a b : ByteArray) (h0 : a.size ≤ 9223372036854775807) (h1 : b.size ≤ 9223372036854775807) : keyOf Try.prog 70 (.agg #[.string a, .string b]) = some (kl a b) := by
  have hu := Try.underlying70
  have hs := Try.underlying9
  have hk : Try.prog.keyType 70 = true := by kernel_rfl
  have hf : (Value.agg #[.string a, .string b]).formed Try.prog 70 = true := by
    have hc : Try.prog.cellsOf 70 = 2 := by kernel_rfl
    simp [Value.formed, hu, hc]
  have hc : Try.prog.cellsOf 70 = 2 := by kernel_rfl
  have hc9 : Try.prog.cellsOf 9 = 1 := by kernel_rfl
  have hn : ∃ n, Try.prog.types.size + 1 = n + 2 := ⟨Try.prog.types.size - 1, by have : 1 ≤ Try.prog.types.size := of_decide_eq_true (by kernel_rfl); omega⟩
  obtain ⟨n, hn⟩ := hn
  have m0 : a.size ≤ maxLen := by unfold maxLen; omega
  have m1 : b.size ≤ maxLen := by unfold maxLen; omega
  unfold keyOf
  rw [hu]
  simp only [hk, hf, Bool.and_self, if_true, hn]
  have k1 : ∀ s : ByteArray, s.size ≤ maxLen → Try.prog.keyLits (n + 1) 9 [.string s] = some [.string s.data.toList] := by
    intro s m
    unfold Program.keyLits
    simp only [hs]
    rw [if_pos m]
  unfold Program.keyLits
  simp only [hu]
  rw [if_pos ⟨by rw [hc]; rfl, by first | rfl | decide +kernel⟩]
  have e0 := k1 _ m0
  have e1 := k1 _ m1
  clear hu hs hk hf hc
  simp [hc9, Value.cells, e0, e1, kl]
theorem kl_inj {a b c d : ByteArray} (h0 : a.size ≤ 9223372036854775807) (h1 : b.size ≤ 9223372036854775807) (h2 : c.size ≤ 9223372036854775807) (h3 : d.size ≤ 9223372036854775807) (h : kl a b = kl c d) : a = c ∧ b = d := by
  have e := keyed_at.inj (kl_of a b h0 h1) (h ▸ kl_of c d h2 h3)
  simpa using e
def rightW (x : Wr) : Bool := (item_Right.f x.f0 x.f1 x.f2 x.f3).getD false
def szW (x : Wr) : Int := if x.f3 = true then 0 else (x.f0.size : Int) + (x.f1.size : Int) + (x.f2.size : Int)
theorem tl_nil {s : ByteArray} : s.toList = ([] : List UInt8) ↔ s.size = 0 := by
  rw [toList_data]
  constructor
  · intro h
    have := congrArg List.length h
    simpa using this
  · intro h
    have h2 : s.data.toList.length = 0 := by rw [Array.length_toList]; exact h
    exact List.eq_nil_of_length_eq_zero h2
theorem named_f (s : ByteArray) : item_named.f s = some (decide (1 ≤ s.size ∧ s.size ≤ 16)) := by
  unfold item_named.f
  by_cases c : s.size = 0
  · rw [if_pos (tl_nil.2 c), decide_eq_false (by omega)]
  · rw [if_neg (fun h => c (tl_nil.1 h))]
    by_cases d : s.size ≤ 16
    · rw [decide_eq_true (by omega), decide_eq_true (by omega)]
    · rw [decide_eq_false (by omega), decide_eq_false (by omega)]
theorem right_is (x : Wr) : item_Right.f x.f0 x.f1 x.f2 x.f3 = some (decide ((1 ≤ x.f0.size ∧ x.f0.size ≤ 16) ∧ (1 ≤ x.f1.size ∧ x.f1.size ≤ 16) ∧ x.f2.size ≤ 32 ∧ (x.f2.size = 0 ∨ x.f3 = false))) := by
  unfold item_Right.f
  rw [named_f, named_f, Option.bind_some, Option.bind_some]
  by_cases c0 : 1 ≤ x.f0.size ∧ x.f0.size ≤ 16
  · rw [decide_eq_true c0, if_pos rfl]
    by_cases c1 : 1 ≤ x.f1.size ∧ x.f1.size ≤ 16
    · rw [decide_eq_true c1, if_pos rfl]
      by_cases c2 : x.f2.size ≤ 32
      · rw [if_pos (by omega)]
        by_cases c3 : x.f2.size = 0
        · rw [if_pos (tl_nil.2 c3), decide_eq_true ⟨c0, c1, c2, Or.inl c3⟩]
        · rw [if_neg (fun h => c3 (tl_nil.1 h))]
          cases hx : x.f3 with
          | true => rw [decide_eq_false (fun h => by rcases h.2.2.2 with h | h; exact c3 h; cases h)]; rfl
          | false => rw [decide_eq_true ⟨c0, c1, c2, Or.inr rfl⟩]; rfl
      · rw [if_neg (by omega), decide_eq_false (fun h => c2 h.2.2.1)]
    · rw [decide_eq_false c1, if_neg (by simp), decide_eq_false (fun h => c1 h.2.1)]
  · rw [decide_eq_false c0, if_neg (by simp), decide_eq_false (fun h => c0 h.1)]
theorem right_f (x : Wr) : item_Right.f x.f0 x.f1 x.f2 x.f3 = some (rightW x) := by
  unfold rightW
  rw [right_is]
  rfl
theorem right_iff (x : Wr) : rightW x = true ↔ (1 ≤ x.f0.size ∧ x.f0.size ≤ 16) ∧ (1 ≤ x.f1.size ∧ x.f1.size ≤ 16) ∧ x.f2.size ≤ 32 ∧ (x.f2.size = 0 ∨ x.f3 = false) := by
  unfold rightW
  rw [right_is]
  exact decide_eq_true_iff
theorem size_f {x : Wr} (h : rightW x = true) : item_Size.f x.f0 x.f1 x.f2 x.f3 = some (szW x) ∧ 0 ≤ szW x ∧ szW x ≤ 64 ∧ (x.f3 = false → 0 < szW x) := by
  obtain ⟨⟨a0, a1⟩, ⟨b0, b1⟩, c1, d1⟩ := (right_iff x).1 h
  unfold item_Size.f szW
  cases x.f3 with
  | true => exact ⟨by rw [if_pos rfl, if_pos rfl], by simp, by simp, fun h => by cases h⟩
  | false =>
    rw [if_neg (by simp), if_neg (by simp), wrap64_id (x := (x.f0.size : Int) + (x.f1.size : Int)) (by omega) (by omega), wrap64_id (by omega) (by omega)]
    exact ⟨rfl, by omega, by omega, fun _ => by omega⟩
/-- A write taken. -/
def step (L : List En) (x : Wr) : List En := if rightW x = true then (if 0 < szW x then strike (kl x.f0 x.f1) (strike (kl x.f0 x.f1) L) ++ [(kl x.f0 x.f1, szW x)] else strike (kl x.f0 x.f1) L) else L
def taken (L : List En) (l : List Wr) : List En := l.foldl step L
theorem strike_length (k : Lit) (L : List En) : (strike k L).length ≤ L.length := List.length_filter_le _ _
theorem strike_strike (k : Lit) (L : List En) : strike k (strike k L) = strike k L := by
  unfold strike
  rw [List.filter_filter]
  exact List.filter_congr (fun p _ => by simp)
theorem step_length (L : List En) (x : Wr) : (step L x).length ≤ L.length + 1 := by
  have h1 := strike_length (kl x.f0 x.f1) L
  have h2 := strike_length (kl x.f0 x.f1) (strike (kl x.f0 x.f1) L)
  unfold step
  split
  · split
    · rw [List.length_append, List.length_singleton]; omega
    · omega
  · omega
theorem taken_length : ∀ (l : List Wr) (L : List En), (taken L l).length ≤ L.length + l.length
  | [], L => Nat.le_refl _
  | x :: r, L => by
    have h := taken_length r (step L x)
    have h1 := step_length L x
    rw [show taken L (x :: r) = taken (step L x) r from rfl, List.length_cons]
    omega
theorem taken_snoc (L : List En) (l : List Wr) (x : Wr) : taken L (l ++ [x]) = step (taken L l) x := by simp [taken, List.foldl_append]
def St (w : World) (g b : Nat) (lim : Int) (L : List En) : Prop :=
  w.heap[g]? = some (.cells #[.int .i64 lim, .map (some b)] 60 (0, 0)) ∧ Has w Try.prog 70 3 b L
theorem St.below {w w' : World} {g b : Nat} {lim : Int} {L : List En} (h : St w g b lim L) (hb : Below w.heap.size w w') : St w' g b lim L := ⟨blk_below h.1 hb, h.2.below hb⟩
theorem St.kept {w w' : World} {g b : Nat} {lim : Int} {L : List En} {row : Option Nat} (h : St w g b lim L) (hg : w.grownBy w' row) (h1 : some g ≠ row) (h2 : some b ≠ row) : St w' g b lim L := ⟨(hg.block g (blk_lt h.1) h1).trans h.1, h.2.kept hg h2⟩
set_option maxHeartbeats 8000000 in
set_option maxRecDepth 100000 in
theorem used_c (g b : Nat) (lim : Int) (L : List En) (w : World) (h : St w g b lim L) :
    Calls Try.prog 18 #[.pointer (some ⟨g, 0, none⟩)] w fun e w' => e = .returned (.int .i64 (wrap64 (total L))) ∧ Below w.heap.size w w' := by
  have HO := Aside0.mk h.2
  obtain ⟨k0, k1, z0, z1⟩ := Ke2_ h.1
  clear h
  go_enter Try.func18, Try.ntmps18
  go_wp2_with (go_at_call 31; refine (tally_at b L _ HO.out).mono ?_; rintro e w1 ⟨rfl, hb⟩; have HB := Aside0.mk hb; clear hb)
  go_ret
  exact ⟨rfl, HB.out⟩
set_option maxHeartbeats 8000000 in
set_option maxRecDepth 100000 in
theorem keys_c (g b : Nat) (lim : Int) (L : List En) (w : World) (h : St w g b lim L) :
    Calls Try.prog 20 #[.pointer (some ⟨g, 0, none⟩)] w fun e w' => e = .returned (.int .i64 L.length) ∧ Below w.heap.size w w' := by
  have HO := Aside0.mk h.2
  obtain ⟨k0, k1, z0, z1⟩ := Ke2_ h.1
  clear h
  go_enter Try.func20, Try.ntmps20
  go_wp2_with (at_len; refine wp_len _ rfl _ 58 rfl 70 3 Try.underlying58 b L rfl HO.out ?_)
  go_ret
  exact ⟨rfl, Below.refl _ _⟩
set_option maxHeartbeats 8000000 in
set_option maxRecDepth 100000 in
theorem limit_c (g b : Nat) (lim : Int) (L : List En) (w : World) (h : St w g b lim L) :
    Calls Try.prog 22 #[.pointer (some ⟨g, 0, none⟩)] w fun e w' => e = .returned (.int .i64 lim) ∧ Below w.heap.size w w' := by
  obtain ⟨k0, k1, z0, z1⟩ := Ke2_ h.1
  clear h
  go_enter Try.func22, Try.ntmps22
  go_wp2
  go_ret
  exact ⟨rfl, Below.refl _ _⟩
set_option maxHeartbeats 8000000 in
set_option maxRecDepth 100000 in
theorem new_c (lim : Int) (w : World) (h0 : 0 ≤ lim) (h1 : lim ≤ 1073741824) :
    Calls Try.prog 9 #[.int .i64 lim] w fun e w' => ∃ g b, e = .returned (.tuple #[.pointer (some ⟨g, 0, none⟩), .int .i64 0]) ∧ w.heap.size ≤ g ∧ w.heap.size ≤ b ∧ g ≠ b ∧ St w' g b lim [] ∧ Below w.heap.size w w' := by
  have q0 : decide (lim < 0) = false := decide_eq_false (by omega)
  have q1 : decide (1073741824 < lim) = false := decide_eq_false (by omega)
  have hmm := @run_makeMap Try.prog
  go_enter Try.func9, Try.ntmps9
  go_wp2
  go_ret2
  have s1 : (w.alloc (.map #[] 0)).heap.size = w.heap.size + 1 := by simp [World.alloc, -World.alloc_eq]
  refine ⟨w.heap.size + 1, w.heap.size, rfl, by omega, by omega, by omega, ⟨?_, (has_made w _ _ _).alloc _⟩, below_alloc (below_alloc (Below.refl _ _) _) _⟩
  have h := blk_new (w.alloc (.map #[] 0)) (.cells #[.int .i64 lim, .map (some w.heap.size)] 60)
  rw [s1] at h
  exact h
set_option maxHeartbeats 8000000 in
set_option maxRecDepth 100000 in
theorem new_bad (lim : Int) (w : World) (h : lim < 0 ∨ 1073741824 < lim) :
    Calls Try.prog 9 #[.int .i64 lim] w fun e w' => e = .returned (.tuple #[.pointer none, .int .i64 1]) ∧ Below w.heap.size w w' := by
  by_cases c : lim < 0
  · have q0 : decide (lim < 0) = true := decide_eq_true c
    go_enter Try.func9, Try.ntmps9
    go_wp2
    go_ret2
    exact ⟨rfl, Below.refl _ _⟩
  · have q0 : decide (lim < 0) = false := decide_eq_false c
    have q1 : decide (1073741824 < lim) = true := decide_eq_true (by omega)
    go_enter Try.func9, Try.ntmps9
    go_wp2
    go_ret2
    exact ⟨rfl, Below.refl _ _⟩
end Go.Proofs.Ytbjpfgmmmdfbeaa.Quo

/- What is behind some writes, how much that is, whether it fits, what is taken. -/
set_option linter.unusedVariables false
set_option linter.unusedSimpArgs false
namespace Go.Proofs.Ytbjpfgmmmdfbeaa.Quo
open Go Go.RowKit Go.WideShapes Go.Proofs.Ytbjpfgmmmdfbeaa.Q Go.Proofs.YtbjpfgmmmdfbeaaW.PrintWords Go.Proofs.YtbjpfgmmmdfbeaaW.PrintLast Go.Proofs.YtbjpfgmmmdfbeaaW.PrintMore
open Go.Maps (Keyed)
open Go.Proofs.Ytbjpfgmmmdfbeaa.Pure (wrap64_id toList_data toList_iff)
def small (l : List Wr) : Prop := ∀ x ∈ l, x.f0.size ≤ 9223372036854775807 ∧ x.f1.size ≤ 9223372036854775807
theorem wf_i64 {z : Int} (h0 : 0 ≤ z) (h1 : z ≤ 64) : (Lit.int .i64 z).wf = true := by
  have e1 : IntKind.i64.min = -9223372036854775808 := by decide
  have e2 : IntKind.i64.max = 9223372036854775807 := by decide
  simp only [Lit.wf, e1, e2, Bool.and_eq_true, decide_eq_true_eq]
  omega
theorem grown_set (W : World) (b j : Nat) (v : Value) : W.grownBy (W.setCell ⟨b, j, none⟩ v) (some b) :=
  ⟨rfl, rfl, rfl, by simp [World.setCell], fun i _ hi => Below.heap_setCell _ _ _ i (fun e => hi (by rw [e]))⟩
set_option maxHeartbeats 8000000 in
set_option maxRecDepth 100000 in
theorem behind_c (g b : Nat) (lim : Int) (L : List En) (A : Option Addr) (c : Nat) (l : List Wr) (w : World) (h : St w g b lim L) (hr : Kd.C k45 w A l.length l) (hc : l.length ≤ c) (hs : small l) (hn : L.length + l.length ≤ 1000000000) :
    Calls Try.prog 32 #[.pointer (some ⟨g, 0, none⟩), .slice A l.length c] w fun e w' => e = .returned (.map (some w.heap.size)) ∧ Has w' Try.prog 70 3 w.heap.size (taken L l) ∧ Below w.heap.size w w' := by
  have HO := Aside0.mk h.2
  have HR := Aside0.mk hr
  have HS := Aside0.mk hs
  obtain ⟨k0, k1, z0, z1⟩ := Ke2_ h.1
  clear h hr hs
  go_enter Try.func32, Try.ntmps32
  go_wp2_with (go_at_call 36; refine (clone_at b L _ HO.out).mono ?_; rintro e w1 ⟨rfl, hm, hb⟩; have HM := Aside0.mk hm; have HB := Aside0.mk hb; clear hm hb)
  clear k0 k1 z0 z1
  go_loopg [16] l.length (fun kq v16 wr => ∃ (j : Nat), v16 = .int .i64 j ∧ Aside0 (j ≤ l.length) ∧ Aside0 (l.length - j ≤ kq) ∧ Aside0 (Has wr Try.prog 70 3 w.heap.size (taken L (l.take j))) ∧ Aside0 (Below w.heap.size w wr))
  case atStart => exact ⟨0, rfl, ⟨by omega⟩, ⟨by omega⟩, HM, HB⟩
  case round =>
    obtain ⟨j, rfl, HJ, HK, HM, HB⟩ := hrel
    by_cases c1 : j < l.length
    rotate_left
    · have c1b : decide ((j : Int) < (l.length : Int)) = false := decide_eq_false (by omega)
      have e : l.take j = l := List.take_of_length_le (by omega)
      rw [e] at HM
      go_wp2
      go_ret
      exact ⟨rfl, HM.out, HB.out⟩
    · have c1b : decide ((j : Int) < (l.length : Int)) = true := decide_eq_true (by omega)
      have c0b : decide (0 ≤ (j : Int)) = true := decide_eq_true (by omega)
      have hx : l[j]? = .some (rd_T45 l j) := by
        unfold rd_T45
        rw [Int.toNat_natCast, List.getD_eq_getElem?_getD, List.getElem?_eq_getElem c1]
        rfl
      have hm : rd_T45 l j ∈ l := List.mem_of_getElem? hx
      have HZ := Aside0.mk (HS.out _ hm)
      obtain ⟨ad, e0, h0, h1, h2, h3⟩ := at_T45 HR.out (j : Int) (by omega) (by omega)
      cases e0
      replace h0 := (HB.out.cell (World.block_lt_of_cell? w _ h0)).trans h0
      replace h1 := (HB.out.cell (World.block_lt_of_cell? w _ h1)).trans h1
      replace h2 := (HB.out.cell (World.block_lt_of_cell? w _ h2)).trans h2
      replace h3 := (HB.out.cell (World.block_lt_of_cell? w _ h3)).trans h3
      have HX := Aside0.mk (show taken L (l.take (j + 1)) = step (taken L (l.take j)) (rd_T45 l j) by
        rw [List.take_add_one, hx]
        exact taken_snoc _ _ _)
      have HL := Aside0.mk (show (taken L (l.take j)).length < maxLen by
        have h1 := taken_length (l.take j) L
        rw [List.length_take] at h1
        unfold maxLen
        omega)
      have hle : w.heap.size < wr.heap.size := HM.out.lt
      clear hx hm
      generalize rd_T45 l j = x at *
      generalize taken L (l.take j) = T at *
      have HF := Aside0.mk (right_f x)
      have HG := Aside0.mk (fun h => size_f (x := x) h)
      have HKEY := Aside0.mk (kl_of x.f0 x.f1 HZ.out.1 HZ.out.2)
      obtain ⟨x0, x1, x2, x3⟩ := x
      simp only [Int.toNat_natCast] at h0 h1 h2 h3
      have HLE := Aside0.mk hle
      clear hle
      have HM1 := Aside0.mk (HM.out.alloc (Obj.cells #[.string x0, .string x1, .string x2, .bool x3] 45))
      have HB1 := Aside0.mk (below_alloc HB.out (Obj.cells #[.string x0, .string x1, .string x2, .bool x3] 45))
      have HK1 := Aside0.mk (blk_new wr (Obj.cells #[.string x0, .string x1, .string x2, .bool x3] 45))
      have HR9 : Aside0 (∃ rb, rb = rightW ⟨x0, x1, x2, x3⟩) := ⟨⟨_, rfl⟩⟩
      obtain ⟨rb, hrb⟩ := HR9.out
      have HRB := Aside0.mk hrb
      have HF1 := Aside0.mk (show item_Right.f x0 x1 x2 x3 = some rb from hrb ▸ HF.out)
      clear hrb HR9 HF HM HZ
      cases rb with
      | false =>
        go_wp2_with (first | (go_at_call 23; refine (item_Right.calls x0 x1 x2 x3 _ _ HF1.out).mono ?_; rintro e w1 ⟨rfl, hb⟩; have HM2 := Aside0.mk (HM1.out.below hb); have HB2 := Aside0.mk (below_step HB1.out hb); clear hb))
        go_roundg (l.length - (j + 1))
        case measure => have := HK.out; omega
        case rel => exact ⟨j + 1, by first | rfl | (rw [show ((j + 1 : Nat) : Int) = (j : Int) + 1 by omega]; rfl) | (rw [show ((j + 1 : Nat) : Int) = (j : Int) + 1 by omega]; congr 1; exact wrap64_id (by omega) (by omega)), ⟨by omega⟩, ⟨by omega⟩, ⟨by rw [HX.out, show step T ⟨x0, x1, x2, x3⟩ = T by unfold step; rw [← HRB.out]; rfl]; exact HM2.out⟩, HB2⟩
      | true =>
        obtain ⟨hf, hg0, hg1, hg2⟩ := HG.out HRB.out.symm
        have HSZ := Aside0.mk (show item_Size.f x0 x1 x2 x3 = some (szW ⟨x0, x1, x2, x3⟩) from hf)
        have HST := Aside0.mk (show step T ⟨x0, x1, x2, x3⟩ = if 0 < szW ⟨x0, x1, x2, x3⟩ then strike (kl x0 x1) (strike (kl x0 x1) T) ++ [(kl x0 x1, szW ⟨x0, x1, x2, x3⟩)] else strike (kl x0 x1) T by unfold step; rw [← HRB.out]; rfl)
        clear hf hg2 HG HRB
        generalize szW ⟨x0, x1, x2, x3⟩ = z at *
        by_cases hz : 0 < z
        · rw [if_pos hz] at HST
          have hzb : decide (0 < z) = true := decide_eq_true hz
          have HWF := Aside0.mk (wf_i64 hg0 hg1)
          clear hg0 hg1 hz
          go_wp2_with (first
            | (go_at_call 23; refine (item_Right.calls x0 x1 x2 x3 _ _ HF1.out).mono ?_; rintro e w1 ⟨rfl, hb⟩; have HM2 := Aside0.mk (HM1.out.below hb); have HB2 := Aside0.mk (below_step HB1.out hb); have HK2 := Aside0.mk (blk_below HK1.out hb); clear hb; obtain ⟨k0, k1, k2, k3, z0, z1, z2, z3⟩ := Ke4_ HK2.out)
            | (at_delete; refine wp_del _ rfl _ _ 58 70 rfl 3 keyed_at Try.underlying58 w.heap.size T rfl HM2.out _ (kl x0 x1) rfl HKEY.out ?_; intro w2 hm2 hg2; have HM3 := Aside0.mk hm2; have HB3 := Aside0.mk (below_grown HB2.out hg2 (Nat.le_refl _)); have HK3 := Aside0.mk ((hg2.block _ (blk_lt HK2.out) (by simp; have := HLE.out; omega)).trans HK2.out); clear hm2 hg2 k0 k1 k2 k3 z0 z1 z2 z3; obtain ⟨k0, k1, k2, k3, z0, z1, z2, z3⟩ := Ke4_ HK3.out)
            | (go_at_call 24; refine (item_Size.calls x0 x1 x2 x3 _ _ HSZ.out).mono ?_; rintro e w4 ⟨rfl, hb⟩; have HM4 := Aside0.mk (HM3.out.below hb); have HB4 := Aside0.mk (below_step HB3.out hb); have HK4 := Aside0.mk (blk_below HK3.out hb); clear hb k0 k1 k2 k3 z0 z1 z2 z3; obtain ⟨k0, k1, k2, k3, z0, z1, z2, z3⟩ := Ke4_ HK4.out)
            | (at_mapUpdate; refine wp_put _ rfl _ _ _ 58 rfl 70 3 keyed_at Try.underlying58 Try.underlying3 w.heap.size _ rfl HM4.out (Nat.lt_of_le_of_lt (strike_length _ _) HL.out) _ (kl x0 x1) rfl HKEY.out z rfl HWF.out ?_; intro w5 hm5 hg5; have HM5 := Aside0.mk hm5; have HB5 := Aside0.mk (below_grown HB4.out hg5 (Nat.le_refl _)); clear hm5 hg5))
          go_roundg (l.length - (j + 1))
          case measure => have := HK.out; omega
          case rel => exact ⟨j + 1, by first | rfl | (rw [show ((j + 1 : Nat) : Int) = (j : Int) + 1 by omega]; rfl) | (rw [show ((j + 1 : Nat) : Int) = (j : Int) + 1 by omega]; congr 1; exact wrap64_id (by omega) (by omega)), ⟨by omega⟩, ⟨by omega⟩, ⟨by rw [HX.out, HST.out]; exact HM5.out⟩, HB5⟩
        · rw [if_neg hz] at HST
          have hzb : decide (0 < z) = false := decide_eq_false hz
          clear hg0 hg1 hz
          go_wp2_with (first
            | (go_at_call 23; refine (item_Right.calls x0 x1 x2 x3 _ _ HF1.out).mono ?_; rintro e w1 ⟨rfl, hb⟩; have HM2 := Aside0.mk (HM1.out.below hb); have HB2 := Aside0.mk (below_step HB1.out hb); have HK2 := Aside0.mk (blk_below HK1.out hb); clear hb; obtain ⟨k0, k1, k2, k3, z0, z1, z2, z3⟩ := Ke4_ HK2.out)
            | (at_delete; refine wp_del _ rfl _ _ 58 70 rfl 3 keyed_at Try.underlying58 w.heap.size T rfl HM2.out _ (kl x0 x1) rfl HKEY.out ?_; intro w2 hm2 hg2; have HM3 := Aside0.mk hm2; have HB3 := Aside0.mk (below_grown HB2.out hg2 (Nat.le_refl _)); have HK3 := Aside0.mk ((hg2.block _ (blk_lt HK2.out) (by simp; have := HLE.out; omega)).trans HK2.out); clear hm2 hg2 k0 k1 k2 k3 z0 z1 z2 z3; obtain ⟨k0, k1, k2, k3, z0, z1, z2, z3⟩ := Ke4_ HK3.out)
            | (go_at_call 24; refine (item_Size.calls x0 x1 x2 x3 _ _ HSZ.out).mono ?_; rintro e w4 ⟨rfl, hb⟩; have HM4 := Aside0.mk (HM3.out.below hb); have HB4 := Aside0.mk (below_step HB3.out hb); clear hb k0 k1 k2 k3 z0 z1 z2 z3))
          go_roundg (l.length - (j + 1))
          case measure => have := HK.out; omega
          case rel => exact ⟨j + 1, by first | rfl | (rw [show ((j + 1 : Nat) : Int) = (j : Int) + 1 by omega]; rfl) | (rw [show ((j + 1 : Nat) : Int) = (j : Int) + 1 by omega]; congr 1; exact wrap64_id (by omega) (by omega)), ⟨by omega⟩, ⟨by omega⟩, ⟨by rw [HX.out, HST.out]; exact HM4.out⟩, HB4⟩
set_option maxHeartbeats 8000000 in
set_option maxRecDepth 100000 in
theorem after_c (g b : Nat) (lim : Int) (L : List En) (A : Option Addr) (c : Nat) (l : List Wr) (w : World) (h : St w g b lim L) (hr : Kd.C k45 w A l.length l) (hc : l.length ≤ c) (hs : small l) (hn : L.length + l.length ≤ 1000000000) :
    Calls Try.prog 14 #[.pointer (some ⟨g, 0, none⟩), .slice A l.length c] w fun e w' => e = .returned (.int .i64 (wrap64 (total (taken L l)))) ∧ Below w.heap.size w w' := by
  have HC := Aside0.mk (behind_c g b lim L A c l w h hr hc hs hn)
  clear h hr hs
  go_enter Try.func14, Try.ntmps14
  go_wp2_with (first
    | (go_at_call 32; refine HC.out.mono ?_; rintro e w1 ⟨rfl, hm, hb⟩; have HM := Aside0.mk hm; have HB := Aside0.mk hb; clear hm hb HC)
    | (go_at_call 31; refine (tally_at _ _ _ HM.out).mono ?_; rintro e w2 ⟨rfl, hb⟩; have HB2 := Aside0.mk (below_step HB.out hb); clear hb HM))
  go_ret
  exact ⟨rfl, HB2.out⟩
set_option maxHeartbeats 8000000 in
set_option maxRecDepth 100000 in
theorem fits_c (g b : Nat) (lim : Int) (L : List En) (A : Option Addr) (c : Nat) (l : List Wr) (w : World) (h : St w g b lim L) (hr : Kd.C k45 w A l.length l) (hc : l.length ≤ c) (hs : small l) (hn : L.length + l.length ≤ 1000000000) :
    Calls Try.prog 15 #[.pointer (some ⟨g, 0, none⟩), .slice A l.length c] w fun e w' => e = .returned (.bool (decide (wrap64 (total (taken L l)) ≤ lim))) ∧ Below w.heap.size w w' := by
  have HH := Aside0.mk h
  have HR := Aside0.mk hr
  have HS := Aside0.mk hs
  obtain ⟨k0, k1, z0, z1⟩ := Ke2_ h.1
  clear h hr hs
  go_enter Try.func15, Try.ntmps15
  go_wp2
  have HD := Aside0.mk (show Below w.heap.size w w.drew from below_drew1 (Below.refl _ _))
  go_region_held3 (fun w' => w'.cell? ⟨g, 0, none⟩ = some (.int .i64 lim)) (go_keep)
    (first | (go_at_call 14; refine (after_c g b lim L A c l _ (HH.out.below HD.out) (Kd.C_below HR.out HD.out) hc HS.out hn).mono ?_; rintro e w1 ⟨rfl, hb⟩; have HB := Aside0.mk (below_step HD.out hb); have k9 := (Kc2_ (HH.out.below HB.out).1).1; clear hb))
  all_goals go_wp2
  all_goals go_ret
  all_goals exact ⟨rfl, HB.out⟩
theorem grown_put {w w1 : World} {g j : Nat} (hb : Below w.heap.size w w1) (v : Value) : w.grownBy (w1.setCell ⟨g, j, none⟩ v) (some g) := by
  have h0 : w1.grownBy (w1.setCell ⟨g, j, none⟩ v) (some g) := grown_set w1 g j v
  exact ((grown_of_below hb).but (some g)).andThen h0 (fun j hj => Or.inr hj)
set_option maxHeartbeats 8000000 in
set_option maxRecDepth 100000 in
theorem take_c (g b : Nat) (lim : Int) (L : List En) (A : Option Addr) (c : Nat) (l : List Wr) (w : World) (h : St w g b lim L) (hr : Kd.C k45 w A l.length l) (hc : l.length ≤ c) (hs : small l) (hn : L.length + l.length ≤ 1000000000) :
    Calls Try.prog 16 #[.pointer (some ⟨g, 0, none⟩), .slice A l.length c] w fun e w' => e = .returned (.bool (decide (wrap64 (total (taken L l)) ≤ lim))) ∧
      (∃ b', St w' g b' lim (if wrap64 (total (taken L l)) ≤ lim then taken L l else L) ∧ (b' = b ∨ w.heap.size ≤ b')) ∧ w.grownBy w' (some g) := by
  have HH := Aside0.mk h
  have HR := Aside0.mk hr
  have HS := Aside0.mk hs
  clear h hr hs
  by_cases hf : wrap64 (total (taken L l)) ≤ lim
  · have hfb : decide (wrap64 (total (taken L l)) ≤ lim) = true := decide_eq_true hf
    rw [hfb, if_pos hf]
    go_enter Try.func16, Try.ntmps16
    go_wp2_with (first
      | (go_at_call 15; refine (fits_c g b lim L A c l _ HH.out HR.out hc HS.out hn).mono ?_; rintro e w1 ⟨rfl, hb⟩; rw [hfb]; have HB := Aside0.mk hb; clear hb)
      | (go_at_call 32; refine (behind_c g b lim L A c l _ (HH.out.below HB.out) (Kd.C_below HR.out HB.out) hc HS.out hn).mono ?_; rintro e w2 ⟨rfl, hm, hb⟩; have HM := Aside0.mk hm; have HB2 := Aside0.mk (below_step HB.out hb); have HG := Aside0.mk ((HH.out.below HB.out).below hb).1; clear hb hm; obtain ⟨k0, k1, z0, z1⟩ := Ke2_ HG.out))
    go_ret
    have hsz := HB.out.size
    have hlt := blk_lt HH.out.1
    exact ⟨rfl, ⟨_, ⟨blk_put HG.out 1 (.map (some w1.heap.size)) (cs' := #[.int .i64 lim, .map (some w1.heap.size)]) rfl, HM.out.setCell (a := ⟨g, 1, none⟩) (by simp; omega) _⟩, Or.inr hsz⟩, grown_put HB2.out _⟩
  · have hfb : decide (wrap64 (total (taken L l)) ≤ lim) = false := decide_eq_false hf
    rw [hfb, if_neg hf]
    go_enter Try.func16, Try.ntmps16
    go_wp2_with (first
      | (go_at_call 15; refine (fits_c g b lim L A c l _ HH.out HR.out hc HS.out hn).mono ?_; rintro e w1 ⟨rfl, hb⟩; rw [hfb]; have HB := Aside0.mk hb; clear hb))
    go_ret
    exact ⟨rfl, ⟨b, HH.out.below HB.out, Or.inl rfl⟩, (grown_of_below HB.out).but _⟩
end Go.Proofs.Ytbjpfgmmmdfbeaa.Quo

/- A Quota as it is held by a law; the chapter's examples. -/
set_option linter.unusedVariables false
set_option linter.unusedSimpArgs false
namespace Go.Proofs.Ytbjpfgmmmdfbeaa.Quo
open Go Go.RowKit Go.WideShapes Go.Proofs.Ytbjpfgmmmdfbeaa.Q Go.Proofs.YtbjpfgmmmdfbeaaW.PrintWords Go.Proofs.YtbjpfgmmmdfbeaaW.PrintLast Go.Proofs.YtbjpfgmmmdfbeaaW.PrintMore
open Go.Maps (Keyed)
open Go.Proofs.Ytbjpfgmmmdfbeaa.Pure (wrap64_id toList_data toList_iff)
/-- Block g is a Quota of this limit, and of these sizes. -/
def Sq (w : World) (g : Nat) (lim : Int) (L : List En) : Prop := ∃ b, St w g b lim L
theorem Sq.below {w w' : World} {g : Nat} {lim : Int} {L : List En} (h : Sq w g lim L) (hb : Below w.heap.size w w') : Sq w' g lim L := by
  obtain ⟨b, h⟩ := h
  exact ⟨b, h.below hb⟩
theorem Sq.alloc {w : World} {g : Nat} {lim : Int} {L : List En} (h : Sq w g lim L) (o : Obj) : Sq (w.alloc o) g lim L := h.below (below_alloc (Below.refl _ _) o)
theorem Sq.lt {w : World} {g : Nat} {lim : Int} {L : List En} (h : Sq w g lim L) : g < w.heap.size := by
  obtain ⟨b, h⟩ := h
  exact blk_lt h.1
theorem used_q (g : Nat) (lim : Int) (L : List En) (w : World) (h : Sq w g lim L) (n : Int) (hn : wrap64 (total L) = n) :
    Calls Try.prog 18 #[.pointer (some ⟨g, 0, none⟩)] w fun e w' => e = .returned (.int .i64 n) ∧ Below w.heap.size w w' := by
  obtain ⟨b, h⟩ := h
  exact hn ▸ used_c g b lim L w h
theorem keys_q (g : Nat) (lim : Int) (L : List En) (w : World) (h : Sq w g lim L) (n : Int) (hn : (L.length : Int) = n) :
    Calls Try.prog 20 #[.pointer (some ⟨g, 0, none⟩)] w fun e w' => e = .returned (.int .i64 n) ∧ Below w.heap.size w w' := by
  obtain ⟨b, h⟩ := h
  exact hn ▸ keys_c g b lim L w h
theorem limit_q (g : Nat) (lim : Int) (L : List En) (w : World) (h : Sq w g lim L) :
    Calls Try.prog 22 #[.pointer (some ⟨g, 0, none⟩)] w fun e w' => e = .returned (.int .i64 lim) ∧ Below w.heap.size w w' := by
  obtain ⟨b, h⟩ := h
  exact limit_c g b lim L w h
theorem after_q (g : Nat) (lim : Int) (L : List En) (A : Option Addr) (n_ c : Nat) (l : List Wr) (hl : l.length = n_) (w : World) (h : Sq w g lim L) (hr : Kd.C k45 w A n_ l) (hc : n_ ≤ c) (hs : small l) (hn : L.length + n_ ≤ 1000000000)
    (L' : List En) (n : Int) (h1 : taken L l = L') (h2 : wrap64 (total L') = n) :
    Calls Try.prog 14 #[.pointer (some ⟨g, 0, none⟩), .slice A n_ c] w fun e w' => e = .returned (.int .i64 n) ∧ Below w.heap.size w w' := by
  obtain ⟨b, h⟩ := h
  subst hl
  subst h1
  exact h2 ▸ after_c g b lim L A c l w h hr hc hs hn
theorem fits_q (g : Nat) (lim : Int) (L : List En) (A : Option Addr) (n_ c : Nat) (l : List Wr) (hl : l.length = n_) (w : World) (h : Sq w g lim L) (hr : Kd.C k45 w A n_ l) (hc : n_ ≤ c) (hs : small l) (hn : L.length + n_ ≤ 1000000000)
    (L' : List En) (n : Int) (f : Bool) (h1 : taken L l = L') (h2 : wrap64 (total L') = n) (h3 : decide (n ≤ lim) = f) :
    Calls Try.prog 15 #[.pointer (some ⟨g, 0, none⟩), .slice A n_ c] w fun e w' => e = .returned (.bool f) ∧ Below w.heap.size w w' := by
  obtain ⟨b, h⟩ := h
  subst hl
  subst h1
  subst h2
  exact h3 ▸ fits_c g b lim L A c l w h hr hc hs hn
theorem take_q (g : Nat) (lim : Int) (L : List En) (A : Option Addr) (n_ c : Nat) (l : List Wr) (hl : l.length = n_) (w : World) (h : Sq w g lim L) (hr : Kd.C k45 w A n_ l) (hc : n_ ≤ c) (hs : small l) (hn : L.length + n_ ≤ 1000000000)
    (L' : List En) (n : Int) (f : Bool) (h1 : taken L l = L') (h2 : wrap64 (total L') = n) (h3 : decide (n ≤ lim) = f) :
    Calls Try.prog 16 #[.pointer (some ⟨g, 0, none⟩), .slice A n_ c] w fun e w' => e = .returned (.bool f) ∧ Sq w' g lim (if f = true then L' else L) ∧ w.grownBy w' (some g) := by
  obtain ⟨b, h⟩ := h
  subst hl
  subst h1
  subst h2
  refine (take_c g b lim L A c l w h hr hc hs hn).mono ?_
  rintro e w' ⟨rfl, ⟨b', hst, _⟩, hg⟩
  rw [h3]
  refine ⟨rfl, ⟨b', ?_⟩, hg⟩
  by_cases d : wrap64 (total (taken L l)) ≤ lim
  · rw [if_pos d] at hst
    rw [if_pos (h3 ▸ decide_eq_true d)]
    exact hst
  · rw [if_neg d] at hst
    rw [if_neg (by rw [← h3, decide_eq_false d]; simp)]
    exact hst
theorem new_q (lim : Int) (w : World) (h0 : 0 ≤ lim) (h1 : lim ≤ 1073741824) :
    Calls Try.prog 9 #[.int .i64 lim] w fun e w' => ∃ g, e = .returned (.tuple #[.pointer (some ⟨g, 0, none⟩), .int .i64 0]) ∧ w.heap.size ≤ g ∧ Sq w' g lim [] ∧ Below w.heap.size w w' := by
  refine (new_c lim w h0 h1).mono ?_
  rintro e w' ⟨g, b, rfl, hg, _, _, hst, hb⟩
  exact ⟨g, rfl, hg, ⟨b, hst⟩, hb⟩
/-- A slice of one write, as a law lays it. -/
theorem C_one {w : World} {g : Nat} {x : Wr} (h : w.heap[g]? = some (.cells #[.string x.f0, .string x.f1, .string x.f2, .bool x.f3] 45 (0, 0))) : Kd.C k45 w (some ⟨g, 0, none⟩) 1 [x] := by
  refine ⟨rfl, by omega, fun _ => ⟨_, rfl, ?_⟩⟩
  intro j p hp
  have hj : j = 0 := by
    rcases j with _ | j
    · rfl
    · simp at hp
  subst hj
  obtain rfl : x = p := by simpa using hp
  refine ⟨_, rfl, k45_mk w x, ?_⟩
  intro i u hu
  have e : (⟨g, 0, none⟩ : Addr).add (0 * k45.sz + i) = ⟨g, i, none⟩ := by simp [Addr.add]; omega
  rw [e, blk_cell h i]
  simpa using hu
theorem grown_blk {w w' : World} {g a : Nat} {o : Obj} (hg : w.grownBy w' (some g)) (h : w.heap[a]? = some o) (hne : a ≠ g) : w'.heap[a]? = some o := (hg.block a (blk_lt h) (by simpa using hne)).trans h
theorem wp_ins {P : Program} {ops : Array Oper} {rest : List Oper} {o : Oper} {a : Act} {Q : Exit → Act → World → Prop} (w : World) (hg : o.guard = none) (m x v : Operand) (t : TypeId) (hop : o.op = Op.insert t m x v)
    (k e : TypeId) (K : Keyed P k) (ht : P.underlying t = some (.map k e)) (he : P.underlying e = some (.int .i64)) (b : Nat) (l : List En) (hm : a.eval m = .map (some b)) (hown : Has w P k e b l) (hn : l.length < maxLen)
    (key : Value) (kl : Lit) (hx : a.eval x = key) (hkey : keyOf P k key = some kl) (c : Int) (hv : a.eval v = .int .i64 c) (hc : (Lit.int .i64 c).wf = true)
    (hK : ∀ w', Has w' P k e b (strike kl l ++ [(kl, c)]) → w.grownBy w' (some b) → wpList P ops Q rest (a.put o.dst undef) w') : wpList P ops Q (o :: rest) a w := by
  refine wpList_plain hg fun K' hK' => ?_
  obtain ⟨es, ho, hp⟩ := hown
  obtain ⟨w', hrun, r1, r2⟩ := ho.update K ht hn hkey (plainElem_int he hc)
  unfold Oper.wp
  simp [execOp, hop, hm, hx, hv, hrun, Result.andThen]
  refine hK' _ _ (hK w' ?_ r2)
  have h1' : w'.ownsMap P k (plainElem P e) b (l.length + 1) (.map (DataW.insert (kl, .lit (.int .i64 c)) (es.filter fun p => !p.1.sameKey kl))) := r1
  refine has_of h1' ((insert_perm _ _).trans ?_)
  rw [enc_append, enc_strike]
  exact (List.Perm.cons _ (hp.filter _)).trans (List.perm_append_comm (l₁ := [_]))
abbrev exA : Wr := ⟨⟨#[98]⟩, ⟨#[107]⟩, ⟨#[118]⟩, false⟩
abbrev exB : Wr := ⟨⟨#[98]⟩, ⟨#[107]⟩, ⟨#[49, 50, 51, 52, 53, 54, 55]⟩, false⟩
abbrev exC : Wr := ⟨⟨#[98]⟩, ⟨#[107]⟩, ⟨#[]⟩, true⟩
def exK : Lit := kl ⟨#[98]⟩ ⟨#[107]⟩
theorem ex_t1 : taken [] [exA] = [(exK, 3)] := by kernel_rfl
theorem ex_t2 : taken [(exK, 3)] [exB] = [(exK, 9)] := by kernel_rfl
theorem ex_t3 : taken [(exK, 3)] [exC] = [] := by kernel_rfl
theorem ex_t4 : taken [] [exB] = [(exK, 9)] := by kernel_rfl
theorem ex_small (x : Wr) (h : x.f0.size ≤ 9 ∧ x.f1.size ≤ 9) : small [x] := by
  intro y hy
  obtain rfl := List.mem_singleton.1 hy
  omega
abbrev exOA : Obj := .cells #[.string ⟨#[98]⟩, .string ⟨#[107]⟩, .string ⟨#[118]⟩, .bool false] 45
abbrev exOB : Obj := .cells #[.string ⟨#[98]⟩, .string ⟨#[107]⟩, .string ⟨#[49, 50, 51, 52, 53, 54, 55]⟩, .bool false] 45
abbrev exOC : Obj := .cells #[.string ⟨#[98]⟩, .string ⟨#[107]⟩, .string ⟨#[]⟩, .bool true] 45
theorem blk_next (w : World) (o o' : Obj) : ((w.alloc o).alloc o').heap[w.heap.size + 1]? = some o' := by
  have h := blk_new (w.alloc o) o'
  have s1 : (w.alloc o).heap.size = w.heap.size + 1 := by simp [World.alloc, -World.alloc_eq]
  rwa [s1] at h
theorem ex_t5 : wrap64 (total (strike (.string [98]) (strike (.string [97]) [] ++ [(.string [97], 1)]) ++ [(.string [98], 2)])) = 3 := by kernel_rfl
set_option maxHeartbeats 8000000 in
set_option maxRecDepth 100000 in
theorem ex_c (w : World) : Calls Try.prog 8 #[] w fun e w' => e = .returned (.bool true) ∧ Below w.heap.size w w' := by
  have hmm := @run_makeMap Try.prog
  have HKA := Aside0.mk (Go.WideMaps.keyOf_string_mk (P := Try.prog) Try.underlying9 (s := ⟨#[97]⟩) (by decide))
  have HKB := Aside0.mk (Go.WideMaps.keyOf_string_mk (P := Try.prog) Try.underlying9 (s := ⟨#[98]⟩) (by decide))
  go_enter Try.func8, Try.ntmps8
  go_wp2_with (first
    | (go_at_call 9; (with_reducible refine (new_bad (-1) _ (Or.inl (by omega))).mono ?_); rintro e w1 ⟨rfl, hb⟩; have HB1 := Aside0.mk hb; clear hb)
    | (go_at_call 9; (with_reducible refine (new_q 6 _ (by omega) (by omega)).mono ?_); rintro e w2 ⟨g, rfl, hg, hst, hb⟩; have HG := Aside0.mk (Nat.le_trans HB1.out.size hg); have HNE := Aside0.mk (show w2.heap.size + 1 ≠ g by have := hst.lt; omega); have HSA := Aside0.mk ((hst.alloc exOA).alloc exOB); have HBA := Aside0.mk (below_alloc (below_alloc (below_step HB1.out hb) exOA) exOB); have HA := Aside0.mk (blk_alloc (blk_new w2 exOA) exOB); have HE := Aside0.mk (blk_next w2 exOA exOB); clear hg hst hb)
    | (go_at_call 16; (with_reducible refine (take_q g 6 [] _ 1 1 [exA] rfl _ HSA.out (C_one HA.out) (by decide) (ex_small _ (by decide)) (by decide) _ 3 true ex_t1 (by kernel_rfl) (by decide)).mono ?_); rintro e w3 ⟨rfl, hst, hg⟩; have HS3 := Aside0.mk (show Sq w3 g 6 [(exK, 3)] from hst); have HB3 := Aside0.mk (below_grown HBA.out hg HG.out); have HE3 := Aside0.mk (grown_blk hg HE.out HNE.out); clear hst hg)
    | (go_at_call 18; (with_reducible refine (used_q g 6 _ _ HS3.out 3 (by kernel_rfl)).mono ?_); rintro e w4 ⟨rfl, hb⟩; have HS4 := Aside0.mk (HS3.out.below hb); have HB4 := Aside0.mk (below_step HB3.out hb); have HE4 := Aside0.mk (blk_below HE3.out hb); clear hb)
    | (go_at_call 16; (with_reducible refine (take_q g 6 _ _ 1 1 [exB] rfl _ HS4.out (C_one HE4.out) (by decide) (ex_small _ (by decide)) (by decide) _ 9 false ex_t2 (by kernel_rfl) (by decide)).mono ?_); rintro e w5 ⟨rfl, hst, hg⟩; have HS5 := Aside0.mk (show Sq w5 g 6 [(exK, 3)] from hst); have HB5 := Aside0.mk (below_grown HB4.out hg HG.out); have HE5 := Aside0.mk (grown_blk hg HE4.out HNE.out); clear hst hg)
    | (go_at_call 16; (with_reducible refine (take_q g 6 _ _ 1 1 [exC] rfl _ (HS5.out.alloc exOC) (C_one (blk_new w5 exOC)) (by decide) (ex_small _ (by decide)) (by decide) _ 0 true ex_t3 (by kernel_rfl) (by decide)).mono ?_); rintro e w6 ⟨rfl, hst, hg⟩; have HS6 := Aside0.mk (show Sq w6 g 6 [] from hst); have HB6 := Aside0.mk (below_grown (below_alloc HB5.out exOC) hg HG.out); have HE6 := Aside0.mk (grown_blk hg (blk_alloc HE5.out exOC) HNE.out); clear hst hg)
    | (go_at_call 14; (with_reducible refine (after_q g 6 _ _ 1 1 [exB] rfl _ HS6.out (C_one HE6.out) (by decide) (ex_small _ (by decide)) (by decide) _ 9 ex_t4 (by kernel_rfl)).mono ?_); rintro e w7 ⟨rfl, hb⟩; have HS7 := Aside0.mk (HS6.out.below hb); have HB7 := Aside0.mk (below_step HB6.out hb); have HE7 := Aside0.mk (blk_below HE6.out hb); clear hb)
    | (go_at_call 15; (with_reducible refine (fits_q g 6 _ _ 1 1 [exB] rfl _ HS7.out (C_one HE7.out) (by decide) (ex_small _ (by decide)) (by decide) _ 9 false ex_t4 (by kernel_rfl) (by decide)).mono ?_); rintro e w8 ⟨rfl, hb⟩; have HS8 := Aside0.mk (HS7.out.below hb); have HB8 := Aside0.mk (below_step HB7.out hb); have HE8 := Aside0.mk (blk_below HE7.out hb); clear hb)
    | (go_at_call 18; (with_reducible refine (used_q g 6 _ _ HS8.out 0 (by kernel_rfl)).mono ?_); rintro e w9 ⟨rfl, hb⟩; have HS9 := Aside0.mk (HS8.out.below hb); have HB9 := Aside0.mk (below_step HB8.out hb); have HE9 := Aside0.mk (blk_below HE8.out hb); clear hb)
    | (go_at_call 20; (with_reducible refine (keys_q g 6 _ _ HS9.out 0 rfl).mono ?_); rintro e w10 ⟨rfl, hb⟩; have HS10 := Aside0.mk (HS9.out.below hb); have HB10 := Aside0.mk (below_step HB9.out hb); have HE10 := Aside0.mk (blk_below HE9.out hb); clear hb)
    | (go_at_call 22; (with_reducible refine (limit_q g 6 _ _ HS10.out).mono ?_); rintro e w11 ⟨rfl, hb⟩; have HS11 := Aside0.mk (HS10.out.below hb); have HB11 := Aside0.mk (below_step HB10.out hb); have HE11 := Aside0.mk (blk_below HE10.out hb); clear hb)
    | ((try (refine gate_guard (by rfl) ?_; dsimp only)); refine wp_ins _ rfl _ _ _ 57 rfl 9 3 keyed_string Try.underlying57 Try.underlying3 w11.heap.size [] rfl (has_made w11 _ _ _) (by decide) _ _ rfl HKA.out 1 rfl (by decide) ?_; intro w12 hm hg; have HM12 := Aside0.mk hm; have HB12 := Aside0.mk (below_grown (below_alloc HB11.out _) hg HB11.out.size); clear hm hg)
    | ((try (refine gate_guard (by rfl) ?_; dsimp only)); refine wp_ins _ rfl _ _ _ 57 rfl 9 3 keyed_string Try.underlying57 Try.underlying3 w11.heap.size _ rfl HM12.out (by decide) _ _ rfl HKB.out 2 rfl (by decide) ?_; intro w13 hm hg; have HM13 := Aside0.mk hm; have HB13 := Aside0.mk (below_grown HB12.out hg HB11.out.size); clear hm hg)
    | (go_at_call 27; (with_reducible refine (tally_string _ _ _ HM13.out).mono ?_); rintro e w14 ⟨rfl, hb⟩; rw [ex_t5]; have HB14 := Aside0.mk (below_step HB13.out hb); clear hb))
  go_ret
  exact ⟨rfl, HB14.out⟩
end Go.Proofs.Ytbjpfgmmmdfbeaa.Quo

/- Plain lists of bytes: numbers of as few bytes as they need, numbers of a fixed size, texts behind their length. No program here. -/
namespace Go.Proofs.Ytbjpfgmmmdfbeaa.Plain

/-! ### numbers of as few bytes as they need -/
def vary (n : Nat) : List Nat := if n < 128 then [n] else (n % 128 + 128) :: vary (n / 128)
termination_by n
decreasing_by omega

theorem vary_small {n : Nat} (h : n < 128) : vary n = [n] := by rw [vary, if_pos h]
theorem vary_big {n : Nat} (h : ¬ n < 128) : vary n = (n % 128 + 128) :: vary (n / 128) := by rw [vary, if_neg h]
theorem vary_ne_nil (n : Nat) : vary n ≠ [] := by
  by_cases h : n < 128
  · rw [vary_small h]; simp
  · rw [vary_big h]; simp
theorem vary_pos (n : Nat) : 0 < (vary n).length := List.length_pos_iff.2 (vary_ne_nil n)
theorem vary_lt (n : Nat) : ∀ b ∈ vary n, b < 256 := by
  induction n using Nat.strongRecOn with
  | _ n ih =>
    intro b hb
    by_cases h : n < 128
    · rw [vary_small h] at hb; simp at hb; omega
    · rw [vary_big h] at hb
      rcases List.mem_cons.1 hb with rfl | hb
      · omega
      · exact ih (n / 128) (by omega) b hb
/-- how many bytes -/
theorem vary_len_le (k : Nat) : ∀ n, n < 128 ^ (k + 1) → (vary n).length ≤ k + 1 := by
  induction k with
  | zero => intro n h; rw [vary_small (by simpa using h)]; simp
  | succ k ih =>
    intro n h
    by_cases h1 : n < 128
    · rw [vary_small h1]; simp
    · rw [vary_big h1]
      have := ih (n / 128) (by rw [Nat.div_lt_iff_lt_mul (by omega)]; rw [Nat.pow_succ] at h; exact h)
      simp; omega
theorem vary_len_gt (k : Nat) : ∀ n, 128 ^ k ≤ n → k < (vary n).length := by
  induction k with
  | zero => intro n _; exact vary_pos n
  | succ k ih =>
    intro n h
    have h1 : ¬ n < 128 := by
      have : 128 ^ 1 ≤ 128 ^ (k + 1) := Nat.pow_le_pow_right (by omega) (by omega)
      omega
    rw [vary_big h1]
    have := ih (n / 128) (by rw [Nat.le_div_iff_mul_le (by omega), ← Nat.pow_succ]; exact h)
    simp; omega
theorem vary_len_ten {n : Nat} (h : n < 18446744073709551616) : (vary n).length ≤ 10 := vary_len_le 9 n (by omega)
/-- it is the length alone that a number's bytes can be told by: where they end -/
theorem vary_prefix (n : Nat) : ∀ m (r s : List Nat), vary n ++ r = vary m ++ s → n = m ∧ r = s := by
  induction n using Nat.strongRecOn with
  | _ n ih =>
    intro m r s h
    by_cases h1 : n < 128
    · rw [vary_small h1] at h
      by_cases h2 : m < 128
      · rw [vary_small h2] at h
        simp at h; exact h
      · rw [vary_big h2] at h
        simp at h; omega
    · rw [vary_big h1] at h
      by_cases h2 : m < 128
      · rw [vary_small h2] at h
        simp at h; omega
      · rw [vary_big h2] at h
        simp only [List.cons_append, List.cons.injEq] at h
        obtain ⟨e, h⟩ := h
        obtain ⟨e2, h⟩ := ih (n / 128) (by omega) (m / 128) r s h
        exact ⟨by omega, h⟩
theorem vary_inj {n m : Nat} (h : vary n = vary m) : n = m := (vary_prefix n m [] [] (by rw [h])).1
/-- the byte at a place -/
theorem vary_get (i : Nat) : ∀ n, i < (vary n).length → (vary n)[i]? = some (n / 128 ^ i % 128 + if i + 1 < (vary n).length then 128 else 0) := by
  induction i with
  | zero =>
    intro n hi
    by_cases h : n < 128
    · rw [vary_small h]; simp; omega
    · rw [vary_big h]
      have := vary_pos (n / 128)
      simp [this]
  | succ i ih =>
    intro n hi
    by_cases h : n < 128
    · rw [vary_small h] at hi; simp at hi
    · have e := vary_big h
      have hl : (vary n).length = (vary (n / 128)).length + 1 := by rw [e]; rfl
      rw [e, List.getElem?_cons_succ, ih (n / 128) (by omega)]
      congr 2
      · rw [Nat.div_div_eq_div_mul, Nat.pow_succ, Nat.mul_comm 128]
      · simp
/-- the end: what is left of the number -/
theorem vary_len_iff (n i : Nat) : i < (vary n).length ↔ i = 0 ∨ 128 ^ i ≤ n := by
  constructor
  · intro h
    by_cases h0 : i = 0
    · exact .inl h0
    · refine .inr ?_
      rcases Nat.lt_or_ge n (128 ^ i) with hl | hl
      · obtain ⟨j, rfl⟩ : ∃ j, i = j + 1 := ⟨i - 1, by omega⟩
        have := vary_len_le j n hl
        omega
      · exact hl
  · rintro (rfl | h)
    · exact vary_pos n
    · exact vary_len_gt i n h

/-! ### numbers of a fixed size, the greatest byte first -/
def be : Nat → Nat → List Nat
  | 0, _ => []
  | k + 1, a => (a / 256 ^ k % 256) :: be k a
def bev : List Nat → Nat
  | [] => 0
  | b :: l => b * 256 ^ l.length + bev l
theorem be_len (k a : Nat) : (be k a).length = k := by induction k with | zero => rfl | succ k ih => simp [be, ih]
theorem be_lt (k a : Nat) : ∀ b ∈ be k a, b < 256 := by
  induction k with
  | zero => intro b h; simp [be] at h
  | succ k ih => intro b h; simp only [be, List.mem_cons] at h; rcases h with rfl | h <;> first | omega | exact ih b h
theorem bev_lt (l : List Nat) (h : ∀ b ∈ l, b < 256) : bev l < 256 ^ l.length := by
  induction l with
  | nil => simp [bev]
  | cons b l ih =>
    have h1 := ih (fun x hx => h x (by simp [hx]))
    have h2 : b < 256 := h b (by simp)
    simp only [bev, List.length_cons, Nat.pow_succ]
    have : b * 256 ^ l.length ≤ 255 * 256 ^ l.length := Nat.mul_le_mul_right _ (by omega)
    omega
theorem bev_be (k a : Nat) : bev (be k a) = a % 256 ^ k := by
  induction k with
  | zero => simp [be, bev, Nat.mod_one]
  | succ k ih =>
    simp only [be, bev, be_len, ih]
    rw [Nat.pow_succ, Nat.mod_mul, Nat.add_comm, Nat.mul_comm]
theorem be_bev (l : List Nat) (h : ∀ b ∈ l, b < 256) : be l.length (bev l) = l := by
  induction l with
  | nil => rfl
  | cons b l ih =>
    have h1 : ∀ b ∈ l, b < 256 := fun x hx => h x (by simp [hx])
    have h2 : b < 256 := h b (by simp)
    have h3 := bev_lt l h1
    have key : ∀ k, k ≤ l.length → be k (b * 256 ^ l.length + bev l) = be k (bev l) := by
      intro k
      induction k with
      | zero => intro _; rfl
      | succ k ihk =>
        intro hk
        simp only [be]
        rw [ihk (by omega)]
        congr 1
        have e : b * 256 ^ l.length = (b * 256 ^ (l.length - (k + 1))) * 256 * 256 ^ k := by
          rw [Nat.mul_assoc, Nat.mul_assoc, ← Nat.pow_succ', ← Nat.pow_add]
          congr 2; omega
        rw [e, Nat.add_comm, Nat.add_mul_div_right _ _ (Nat.pow_pos (by omega))]
        omega
    simp only [List.length_cons, bev, be]
    rw [key _ (Nat.le_refl _), ih h1]
    congr 1
    rw [Nat.add_comm, Nat.add_mul_div_right _ _ (Nat.pow_pos (by omega)), Nat.div_eq_of_lt h3]
    omega
theorem be_inj {k a b : Nat} (ha : a < 256 ^ k) (hb : b < 256 ^ k) (h : be k a = be k b) : a = b := by
  have := congrArg bev h
  rwa [bev_be, bev_be, Nat.mod_eq_of_lt ha, Nat.mod_eq_of_lt hb] at this
theorem bev_snoc (l : List Nat) (b : Nat) : bev (l ++ [b]) = bev l * 256 + b := by
  induction l with
  | nil => simp [bev]
  | cons a l ih =>
    simp only [List.cons_append, bev, ih, List.length_append, List.length_singleton, Nat.pow_succ]
    rw [Nat.add_mul, Nat.mul_assoc]; omega
/-- their order as bytes -/
def less : List Nat → List Nat → Bool
  | _, [] => false
  | [], _ :: _ => true
  | a :: l, b :: m => decide (a < b) || (decide (a = b) && less l m)
theorem less_be (k : Nat) : ∀ a b : Nat, a < 256 ^ k → b < 256 ^ k → (less (be k a) (be k b) = true ↔ a < b) := by
  have main : ∀ l m : List Nat, l.length = m.length → (∀ x ∈ l, x < 256) → (∀ x ∈ m, x < 256) → (less l m = true ↔ bev l < bev m) := by
    intro l
    induction l with
    | nil => intro m hl _ _; cases m with | nil => simp [less] | cons => simp at hl
    | cons a l ih =>
      intro m hl h1 h2
      cases m with
      | nil => simp at hl
      | cons b m =>
        have hl' : l.length = m.length := by simpa using hl
        have g1 := bev_lt l (fun x hx => h1 x (by simp [hx]))
        have g2 := bev_lt m (fun x hx => h2 x (by simp [hx]))
        have hi := ih m hl' (fun x hx => h1 x (by simp [hx])) (fun x hx => h2 x (by simp [hx]))
        simp only [less, bev, Bool.or_eq_true, Bool.and_eq_true, decide_eq_true_eq, hi]
        rw [hl'] at g1 ⊢
        rcases Nat.lt_trichotomy a b with h | h | h
        · have : (a + 1) * 256 ^ m.length ≤ b * 256 ^ m.length := Nat.mul_le_mul_right _ h
          rw [Nat.add_mul] at this
          constructor
          · intro _; omega
          · intro _; exact .inl h
        · subst h
          constructor
          · rintro (h | ⟨_, h⟩) <;> omega
          · intro h; exact .inr ⟨rfl, by omega⟩
        · have : (b + 1) * 256 ^ m.length ≤ a * 256 ^ m.length := Nat.mul_le_mul_right _ h
          rw [Nat.add_mul] at this
          constructor
          · rintro (h | ⟨h, _⟩) <;> omega
          · intro h; omega
  intro a b ha hb
  rw [main _ _ (by rw [be_len, be_len]) (be_lt k a) (be_lt k b), bev_be, bev_be, Nat.mod_eq_of_lt ha, Nat.mod_eq_of_lt hb]
end Go.Proofs.Ytbjpfgmmmdfbeaa.Plain

/- A region that draws its order, by an invariant: each operation once, whatever has come up ahead of it. -/
set_option linter.unusedVariables false
set_option linter.unusedSimpArgs false
namespace Go.Proofs.Ytbjpfgmmmdfbeaa.Inv
open Go Go.RowKit
section
variable {P : Program} {ops : Array Oper} {Q : Exit → Act → World → Prop}
/-- How many have not come up yet. -/
def left (L : Array Bool) : Nat := L.toList.countP (fun b => !b)
theorem left_set {L : Array Bool} {i : Nat} (h : L.getD i true = false) : left (L.setIfInBounds i true) + 1 = left L := by
  have hi : i < L.size := by
    rcases Nat.lt_or_ge i L.size with h' | h'
    · exact h'
    · simp [Array.getElem?_eq_none h'] at h
  have hv : L.toList[i]'(by simpa using hi) = false := by simpa [hi] using h
  unfold left
  rw [Array.toList_setIfInBounds, List.countP_set (by simpa using hi), hv]
  have hp : 0 < L.toList.countP (fun b => !b) := List.countP_pos_iff.2 ⟨false, by rw [← hv]; exact List.getElem_mem _, rfl⟩
  simp only [Bool.not_false, Bool.not_true, if_true, Bool.false_eq_true, if_false, Nat.add_zero]
  omega
theorem any_inv (Inv : Array Bool → Act → World → Prop) (hd : ∀ L a w, Inv L a w → Region.ready .any ops L = [] → Q .normal a w)
    (hs : ∀ L a w i, Inv L a w → i ∈ Region.ready .any ops L → wpOp P ops Q i (fun a' w' => Inv (L.setIfInBounds i true) a' w') a w) :
    ∀ fuel L a w, left L ≤ fuel → Inv L a w → wpAny P .any ops Q fuel L a w := by
  intro fuel
  induction fuel with
  | zero =>
    intro L a w hl hI
    have h0 : Region.ready .any ops L = [] := by
      cases hr : Region.ready .any ops L with
      | nil => rfl
      | cons i t =>
        have hm := (mem_ready.1 (show i ∈ Region.ready .any ops L by rw [hr]; simp)).1
        have := left_set hm
        omega
    exact ⟨h0, hd L a w hI h0⟩
  | succ fuel ih =>
    intro L a w hl hI
    refine ⟨hd L a w hI, fun i hi => ?_⟩
    have := left_set (mem_ready.1 hi).1
    exact wpOp_mono (fun a' w' h => ih _ a' w' (by omega) h) (hs L a w i hI hi)
theorem all_of_ready {n : Nat} (hn : ops.size = n + 1) (hback : ∀ (i : Nat) (o : Oper), ops[i]? = some o → ∀ e ∈ o.after, e.on < i) {L : Array Bool} (hL : L.size = n + 1) (h : Region.ready .any ops L = []) : ∀ j, j ≤ n → L.getD j false = true := by
  intro j
  induction j using Nat.strongRecOn with
  | _ j ih =>
    intro hj
    have ho : ops[j]? = some (ops[j]'(by omega)) := Array.getElem?_eq_getElem _
    by_cases c : L.getD j true = false
    · have : j ∈ Region.ready .any ops L := mem_ready.2 ⟨c, _, ho, fun e he _ => ih e.on (hback j _ ho e he) (by have := hback j _ ho e he; omega)⟩
      rw [h] at this
      cases this
    · have hlt : j < L.size := by omega
      simpa [hlt] using c
/-- Two acts that are the same but for the places of the region's own. -/
def Like (own : List Tmp) (a0 a : Act) : Prop := a.defers = a0.defers ∧ a.tmps.size = a0.tmps.size ∧ ∀ t, t ∉ own → a.tmps.getD t undef = a0.tmps.getD t undef
theorem Like.refl (own : List Tmp) (a : Act) : Like own a a := ⟨rfl, rfl, fun _ _ => rfl⟩
theorem Like.put {own : List Tmp} {a0 a : Act} (h : Like own a0 a) {N : Tmp} (hN : N ∈ own) (v : Value) : Like own a0 (a.put (some N) v) := by
  refine ⟨h.1, by simp [Act.put, h.2.1], fun t ht => ?_⟩
  have hne : N ≠ t := fun e => ht (e ▸ hN)
  rw [← h.2.2 t ht]
  simp [Act.put, Array.getElem?_setIfInBounds_ne hne]
theorem put_same (a : Act) (N : Tmp) (v : Value) (h : N < a.tmps.size) : (a.put (some N) v).tmps.getD N undef = v := by
  simp [Act.put, h]
theorem put_ne (a : Act) {N M : Tmp} (v : Value) (h : N ≠ M) : (a.put (some N) v).tmps.getD M undef = a.tmps.getD M undef := by
  simp [Act.put, Array.getElem?_setIfInBounds_ne h]
/-- THE LAW. All but the last operation leave a value in a place of their own, and may make memory; the last one waits for all. -/
theorem region_inv {id : Nat} {a0 : Act} {w0 : World} (hm : P.follows .mixedOrders = true) (n : Nat) (hn : ops.size = n + 1) (dst : Nat → Tmp) (own : List Tmp)
    (hdst : ∀ (i : Nat) (o : Oper), i < n → ops[i]? = some o → o.dst = some (dst i) ∧ Region.wanted o = fun _ => true) (hown : ∀ i, i < n → dst i ∈ own ∧ dst i < a0.tmps.size) (hinj : ∀ i j, i < n → j < n → dst i = dst j → i = j)
    (hback : ∀ (i : Nat) (o : Oper), ops[i]? = some o → ∀ e ∈ o.after, e.on < i) (hlast : ∀ o : Oper, ops[n]? = some o → ∀ j, j < n → ∃ e ∈ o.after, Region.binds .any e = true ∧ e.on = j)
    (Spec : Nat → Value → World → Prop) (S : World → Prop) (hS : S w0.drew)
    (hstay : ∀ i v W W', S W → Below W.heap.size W W' → Spec i v W → Spec i v W')
    (hstep : ∀ (i : Nat) (o : Oper), i < n → ops[i]? = some o → ∀ (a : Act) (W : World), S W → Like own a0 a → (∀ e ∈ o.after, Region.binds .any e = true → Spec e.on (a.tmps.getD (dst e.on) undef) W) →
      ∃ v W', (execOp a.eval o).run P W = .ok (.value v) W' ∧ S W' ∧ Below W.heap.size W W' ∧ Spec i v W')
    (hend : ∀ (a : Act) (W : World), S W → Like own a0 a → (∀ i, i < n → Spec i (a.tmps.getD (dst i) undef) W) → wpOp P ops Q n (fun a' w' => Q .normal a' w') a W) :
    (Code.region id ops true).wp P Q a0 w0 := by
  refine wp_region_any hm ?_
  refine any_inv (P := P) (ops := ops) (Q := Q) (fun L a W => L.size = n + 1 ∧ (L.getD n false = false → S W ∧ Like own a0 a ∧ ∀ i, i < n → L.getD i false = true → Spec i (a.tmps.getD (dst i) undef) W) ∧ (L.getD n false = true → Q .normal a W ∧ ∀ j, j < n → L.getD j false = true)) ?_ ?_ _ _ _ _ ?_ ?_
  · intro L a W hI hr
    exact (hI.2.2 (all_of_ready hn hback hI.1 hr n (Nat.le_refl _))).1
  · intro L a W i hI hi
    obtain ⟨h0, o, ho, hdeps⟩ := mem_ready.1 hi
    have hlt : i < n + 1 := by have := (Array.getElem?_eq_some_iff.1 ho).1; omega
    have hnl : L.getD n false = false := by
      cases hc : L.getD n false with
      | false => rfl
      | true =>
        have hall := (hI.2.2 hc).2
        have hil : i < L.size := by have := hI.1; omega
        have h0' : L.getD i false = false := by simpa [hil] using h0
        by_cases c : i = n
        · rw [c, hc] at h0'; cases h0'
        · rw [hall i (by omega)] at h0'; cases h0'
    obtain ⟨hSW, hLike, hSpec⟩ := hI.2.1 hnl
    by_cases c : i = n
    · subst c
      have hall : ∀ j, j < i → L.getD j false = true := fun j hj => by
        obtain ⟨e, he, hb, rfl⟩ := hlast o ho j hj
        exact hdeps e he hb
      have hE := hend a W hSW hLike (fun j hj => hSpec j hj (hall j hj))
      refine wpOp_mono (fun a' w' hq => ⟨by simp [hI.1], ?_, fun _ => ⟨hq, fun j hj => ?_⟩⟩) hE
      · intro hc
        have : i < L.size := by have := hI.1; omega
        simp [this] at hc
      · exact getD_set_true (hall j hj)
    · have hin : i < n := by omega
      obtain ⟨hd, hw⟩ := hdst i o hin ho
      obtain ⟨v, W', hrun, hS', hB, hv⟩ := hstep i o hin ho a W hSW hLike (fun e he hb => hSpec e.on (by have := hback i o ho e he; omega) (hdeps e he hb))
      unfold wpOp
      rw [ho]
      simp only [hw, if_true]
      left
      unfold Oper.wp
      rw [hrun]
      show _ ∧ _
      have hsz : dst i < a.tmps.size := by rw [hLike.2.1]; exact (hown i hin).2
      have hne : i ≠ n := c
      refine ⟨by simp [hI.1], fun _ => ⟨hS', by rw [hd]; exact hLike.put (hown i hin).1 v, ?_⟩, fun hc => ?_⟩
      · intro j hj hl
        by_cases cj : j = i
        · subst cj
          rw [hd, put_same a _ v hsz]
          exact hv
        · rw [hd, put_ne a v (fun e => cj (hinj i j hin hj e).symm)]
          have hl' : L.getD j false = true := by rw [getD_set_ne false (Ne.symm cj)] at hl; exact hl
          exact hstay j _ W W' hSW hB (hSpec j hj hl')
      · rw [getD_set_ne false hne, hnl] at hc
        cases hc
  · show left (Array.replicate ops.size false) ≤ ops.size
    unfold left
    exact Nat.le_trans (List.countP_le_length) (by simp)
  · refine ⟨by simp [hn], fun _ => ⟨hS, Like.refl _ _, fun i _ hl => ?_⟩, fun hc => ?_⟩
    · exfalso
      by_cases c : i < ops.size
      · simp [c] at hl
      · simp [c] at hl
    · exfalso
      simp [hn] at hc
/-- What is asked of the region's text, at once. -/
def okB (ops : Array Oper) (n : Nat) (ds : List Tmp) : Bool :=
  ops.size == n + 1 && ds.length == n && (List.range n).all (fun i => (List.range n).all fun j => i == j || ds[i]? != ds[j]?) &&
  (List.range n).all (fun i => match ops[i]? with | some o => o.dst == ds[i]? && o.guard.isNone | none => false) &&
  (List.range (n + 1)).all (fun i => match ops[i]? with | some o => o.after.all (fun e => decide (e.on < i)) | none => true) &&
  (match ops[n]? with | some o => (List.range n).all (fun j => o.after.any fun e => Region.binds .any e && e.on == j) | none => false)
theorem wanted_none {o : Oper} (h : o.guard.isNone = true) : Region.wanted o = fun _ => true := by
  funext y
  unfold Region.wanted
  cases hg : o.guard with
  | none => rfl
  | some g => rw [hg] at h; cases h
theorem region_ok {id : Nat} {a0 : Act} {w0 : World} (hm : P.follows .mixedOrders = true) (n : Nat) (ds : List Tmp) (hB : okB ops n ds = true) (hsz : ∀ N ∈ ds, N < a0.tmps.size)
    (Spec : Nat → Value → World → Prop) (S : World → Prop) (hS : S w0.drew)
    (hstay : ∀ i v W W', S W → Below W.heap.size W W' → Spec i v W → Spec i v W')
    (hstep : ∀ (i : Nat) (o : Oper), i < n → ops[i]? = some o → ∀ (a : Act) (W : World), S W → Like ds a0 a → (∀ e ∈ o.after, Region.binds .any e = true → Spec e.on (a.tmps.getD (ds.getD e.on 0) undef) W) →
      ∃ v W', (execOp a.eval o).run P W = .ok (.value v) W' ∧ S W' ∧ Below W.heap.size W W' ∧ Spec i v W')
    (hend : ∀ (a : Act) (W : World), S W → Like ds a0 a → (∀ i, i < n → Spec i (a.tmps.getD (ds.getD i 0) undef) W) → wpOp P ops Q n (fun a' w' => Q .normal a' w') a W) :
    (Code.region id ops true).wp P Q a0 w0 := by
  unfold okB at hB
  simp only [Bool.and_eq_true, beq_iff_eq, List.all_eq_true, List.mem_range, Bool.or_eq_true, bne_iff_ne, decide_eq_true_eq] at hB
  obtain ⟨⟨⟨⟨⟨h1, h2⟩, h3⟩, h4⟩, h5⟩, h6⟩ := hB
  have hget : ∀ i, i < n → ds[i]? = some (ds.getD i 0) := fun i hi => by
    rw [List.getD_eq_getElem?_getD, List.getElem?_eq_getElem (by omega)]
    rfl
  have hmem : ∀ i, i < n → ds.getD i 0 ∈ ds := fun i hi => List.mem_of_getElem? (hget i hi)
  refine region_inv hm n h1 (fun i => ds.getD i 0) ds ?_ (fun i hi => ⟨hmem i hi, hsz _ (hmem i hi)⟩) ?_ ?_ ?_ Spec S hS hstay hstep hend
  · intro i o hi ho
    have := h4 i hi
    rw [ho] at this
    simp only [Bool.and_eq_true, beq_iff_eq] at this
    exact ⟨this.1.trans (hget i hi), wanted_none this.2⟩
  · intro i j hi hj e
    rcases h3 i hi j hj with h | h
    · exact h
    · rw [hget i hi, hget j hj] at h
      exact absurd (congrArg some e) h
  · intro i o ho e he
    have hi : i < n + 1 := by have := (Array.getElem?_eq_some_iff.1 ho).1; omega
    have := h5 i hi
    rw [ho] at this
    simp only [Array.all_eq_true_iff_forall_mem, decide_eq_true_eq] at this
    exact this e he
  · intro o ho j hj
    rw [ho] at h6
    simp only [List.all_eq_true, List.mem_range] at h6
    have := h6 j hj
    obtain ⟨e, he, hb⟩ := Array.any_eq_true'.1 this
    simp only [Bool.and_eq_true, beq_iff_eq] at hb
    exact ⟨e, he, hb.1, hb.2⟩
theorem tmps_eq (a : Act) (n : Nat) (h : a.tmps.size = n) : a.tmps = ((List.range n).map fun t => a.tmps.getD t undef).toArray := by
  apply Array.ext
  · simp [h]
  · intro i h1 h2
    simp [h1]
end
end Go.Proofs.Ytbjpfgmmmdfbeaa.Inv

namespace Go.Proofs.Ytbjpfgmmmdfbeaa.Q
open Go.RowKit Go.Proofs.YtbjpfgmmmdfbeaaW.PrintWords Go.Proofs.YtbjpfgmmmdfbeaaW.PrintLast Go.Proofs.YtbjpfgmmmdfbeaaW.PrintMore
attribute [local go_sem] max2_int min2_int max_two min_two max_three min_three max_four min_four   -- for this text's walks alone
set_option linter.unusedVariables false
set_option linter.unusedSimpArgs false
/-! ### tenementlaw13_Put_write: function 28 -/
-- FOREIGN: a record is built of texts of bytes; the region that draws is told by an invariant
-- import Derived.Test.YtbjpfgmmmdfbeaaInv
def tenementlaw13_Put_write.f (a0 : ByteArray) (a1 : ByteArray) (a2 : ByteArray) (a3 : Bool) (a4 : Bool) (k : Int) : Option (ByteArray × ByteArray × ByteArray × Bool) := if a4 = true then (if a2.size ≤ 9223372036854775807 then (if 224 ≤ k then some ((strOfNums [98, (IntKind.u8.wrap (48 + Int.tmod k 2))]), (strOfNums [(IntKind.u8.wrap (97 + Int.tmod (IntKind.u8.wrap (Int.tdiv k 2)) 4))]), (⟨#[]⟩ : ByteArray), true) else some ((strOfNums [98, (IntKind.u8.wrap (48 + Int.tmod k 2))]), (strOfNums [(IntKind.u8.wrap (97 + Int.tmod (IntKind.u8.wrap (Int.tdiv k 2)) 4))]), (a2.extract 0 (min a2.size 8)), false)) else none) else some (a0, a1, a2, a3)
def tenementlaw13_Put_write.Sp (gb s0 : Nat) (a2 : ByteArray) (k : Int) : Nat → Value → World → Prop
  | 0, v, _ => v = .pointer (some ⟨gb, 5, none⟩)
  | 1, v, _ => v = .int .u8 k
  | 2, v, _ => v = .int .u8 (Int.tmod k 2)
  | 3, v, _ => v = .int .u8 (IntKind.u8.wrap (48 + Int.tmod k 2))
  | 4, v, W => ∃ b, v = .slice (some ⟨b, 0, none⟩) 2 2 ∧ s0 ≤ b ∧ W.heap[b]? = some (.cells #[.int .u8 98, .int .u8 (IntKind.u8.wrap (48 + Int.tmod k 2))] 5 (0, 0))
  | 5, v, _ => v = .string (strOfNums [98, (IntKind.u8.wrap (48 + Int.tmod k 2))])
  | 6, v, _ => v = .pointer (some ⟨gb, 5, none⟩)
  | 7, v, _ => v = .int .u8 k
  | 8, v, _ => v = .int .u8 (IntKind.u8.wrap (Int.tdiv k 2))
  | 9, v, _ => v = .int .u8 (Int.tmod (IntKind.u8.wrap (Int.tdiv k 2)) 4)
  | 10, v, _ => v = .int .u8 (IntKind.u8.wrap (97 + Int.tmod (IntKind.u8.wrap (Int.tdiv k 2)) 4))
  | 11, v, W => ∃ b, v = .slice (some ⟨b, 0, none⟩) 1 1 ∧ s0 ≤ b ∧ W.heap[b]? = some (.cells #[.int .u8 (IntKind.u8.wrap (97 + Int.tmod (IntKind.u8.wrap (Int.tdiv k 2)) 4))] 5 (0, 0))
  | 12, v, _ => v = .string (strOfNums [(IntKind.u8.wrap (97 + Int.tmod (IntKind.u8.wrap (Int.tdiv k 2)) 4))])
  | 13, v, _ => v = .pointer (some ⟨gb, 0, none⟩)
  | 14, v, _ => v = .pointer (some ⟨gb, 2, none⟩)
  | 15, v, _ => v = .string a2
  | 16, v, _ => v = .pointer (some ⟨gb, 0, none⟩)
  | 17, v, _ => v = .pointer (some ⟨gb, 2, none⟩)
  | 18, v, _ => v = .string a2
  | 19, v, _ => v = .int .i64 (a2.size : Int)
  | 20, v, _ => v = .int .i64 ((min a2.size 8 : Nat) : Int)
  | 21, v, _ => v = .string (a2.extract 0 (min a2.size 8))
  | 22, v, _ => v = .pointer (some ⟨gb, 5, none⟩)
  | 23, v, _ => v = .int .u8 k
  | 24, v, _ => v = .bool (decide (224 ≤ k))
  | 25, v, _ => v = .agg #[.string (strOfNums [98, (IntKind.u8.wrap (48 + Int.tmod k 2))]), .string (strOfNums [(IntKind.u8.wrap (97 + Int.tmod (IntKind.u8.wrap (Int.tdiv k 2)) 4))]), .string (a2.extract 0 (min a2.size 8)), .bool (decide (224 ≤ k))]
  | 26, v, W => ∃ b, v = .pointer (some ⟨b, 0, none⟩) ∧ s0 ≤ b ∧ W.heap[b]? = some (.cells #[.string ⟨#[]⟩, .string ⟨#[]⟩, .string ⟨#[]⟩, .bool false] 45 (0, 0))
  | _, _, _ => True
theorem tenementlaw13_Put_write.stay (gb s0 : Nat) (a2 : ByteArray) (k : Int) : ∀ (i : Nat) (v : Value) (W W' : World), Below W.heap.size W W' → tenementlaw13_Put_write.Sp gb s0 a2 k i v W → tenementlaw13_Put_write.Sp gb s0 a2 k i v W'
  | 0, v, W, W', hb, h => h
  | 1, v, W, W', hb, h => h
  | 2, v, W, W', hb, h => h
  | 3, v, W, W', hb, h => h
  | 4, v, W, W', hb, h => by obtain ⟨b, e, hs, h⟩ := h; exact ⟨b, e, hs, blk_below h hb⟩
  | 5, v, W, W', hb, h => h
  | 6, v, W, W', hb, h => h
  | 7, v, W, W', hb, h => h
  | 8, v, W, W', hb, h => h
  | 9, v, W, W', hb, h => h
  | 10, v, W, W', hb, h => h
  | 11, v, W, W', hb, h => by obtain ⟨b, e, hs, h⟩ := h; exact ⟨b, e, hs, blk_below h hb⟩
  | 12, v, W, W', hb, h => h
  | 13, v, W, W', hb, h => h
  | 14, v, W, W', hb, h => h
  | 15, v, W, W', hb, h => h
  | 16, v, W, W', hb, h => h
  | 17, v, W, W', hb, h => h
  | 18, v, W, W', hb, h => h
  | 19, v, W, W', hb, h => h
  | 20, v, W, W', hb, h => h
  | 21, v, W, W', hb, h => h
  | 22, v, W, W', hb, h => h
  | 23, v, W, W', hb, h => h
  | 24, v, W, W', hb, h => h
  | 25, v, W, W', hb, h => h
  | 26, v, W, W', hb, h => by obtain ⟨b, e, hs, h⟩ := h; exact ⟨b, e, hs, blk_below h hb⟩
  | _ + 27, v, W, W', hb, h => trivial
theorem tenementlaw13_Put_write.boxes2 (w : World) (xs ys : Array Value) (t1 t2 : TypeId) (W : World) (h : (w.alloc (.cells xs t1)).alloc (.cells ys t2) = W) :
    W.heap[w.heap.size]? = some (.cells xs t1 (0,0)) ∧ W.heap[w.heap.size+1]? = some (.cells ys t2 (0,0)) ∧ Below w.heap.size w W := by
  subst h
  have s1 : (w.alloc (.cells xs t1)).heap.size = w.heap.size + 1 := by simp [World.alloc, -World.alloc_eq]
  refine ⟨blk_alloc (blk_new _ _) _, ?_, below_alloc (below_alloc (Below.refl _ _) _) _⟩
  rw [← s1]; exact blk_new _ _
def tenementlaw13_Put_write.St (w : World) (gb s0 : Nat) (cs : Array Value) (W : World) : Prop := W.heap[gb]? = some (.cells cs 64 (0, 0)) ∧ W.heap[gb + 1]? = some (.cells #[.string ⟨#[]⟩, .string ⟨#[]⟩, .string ⟨#[]⟩, .bool false] 45 (0, 0)) ∧ Below w.heap.size w W ∧ s0 ≤ W.heap.size
theorem tenementlaw13_Put_write.st_alloc {w : World} {gb s0 : Nat} {cs : Array Value} {W : World} (h : tenementlaw13_Put_write.St w gb s0 cs W) (o : Obj) : tenementlaw13_Put_write.St w gb s0 cs (W.alloc o) :=
  ⟨blk_alloc h.1 o, blk_alloc h.2.1 o, below_alloc h.2.2.1 o, Nat.le_trans h.2.2.2 (by simp [World.alloc, -World.alloc_eq])⟩
theorem tenementlaw13_Put_write.alloc_below (W : World) (o : Obj) : Below W.heap.size W (W.alloc o) := below_alloc (Below.refl _ _) o
theorem tenementlaw13_Put_write.op_some {P : Program} {ops : Array Oper} {Q : Exit → Act → World → Prop} {i : Nat} {o : Oper} {K : Act → World → Prop} {a : Act} {w : World} (hi : ops[i]? = some o) (hg : o.guard.isNone = true) (h : o.wp P a w K Q) : wpOp P ops Q i K a w := by
  unfold wpOp
  rw [hi]
  simp only [Go.Proofs.Ytbjpfgmmmdfbeaa.Inv.wanted_none hg, if_true]
  exact .inl h
set_option maxHeartbeats 8000000 in
set_option maxRecDepth 100000 in
theorem tenementlaw13_Put_write.calls (a0 : ByteArray) (a1 : ByteArray) (a2 : ByteArray) (a3 : Bool) (a4 : Bool) (k : Int) (r1 r2 r3 : ByteArray) (r4 : Bool) (w : World) (h : tenementlaw13_Put_write.f a0 a1 a2 a3 a4 k = some (r1, r2, r3, r4)) :
    Calls Try.prog 28 #[.agg #[.string a0, .string a1, .string a2, .bool a3, .bool a4, .int .u8 k]] w fun e w' => e = .returned (.agg #[.string r1, .string r2, .string r3, .bool r4]) ∧ Below w.heap.size w w' := by
  have hu23 := Try.underlying45
  unfold tenementlaw13_Put_write.f at h
  cases a4 with
  | false =>
    rw [if_neg (by simp)] at h
    simp only [Option.some.injEq, Prod.mk.injEq] at h
    obtain ⟨rfl, rfl, rfl, rfl⟩ := h
    go_enter Try.func28, Try.ntmps28
    go_wp2
    obtain ⟨hA, hB, HB1⟩ := tenementlaw13_Put_write.boxes2 w #[.string a0, .string a1, .string a2, .bool a3, .bool false, .int .u8 k] #[.string a0, .string a1, .string a2, .bool a3] 64 45 _ rfl
    generalize ((w.alloc (Obj.cells #[.string a0, .string a1, .string a2, .bool a3, .bool false, .int .u8 k] 64)).alloc (Obj.cells #[.string a0, .string a1, .string a2, .bool a3] 45)) = W0 at *
    obtain ⟨f0, f1, f2, f3⟩ := Kc4_ hB
    exact bodyPost_ret (v := .agg #[.string a0, .string a1, .string a2, .bool a3]) (by simp [results, Try.results28, go_sem, hu23, f0, f1, f2, f3]) rfl ⟨rfl, HB1⟩
  | true =>
    rw [if_pos rfl] at h
    by_cases hz : a2.size ≤ 9223372036854775807
    rotate_left
    · rw [if_neg hz] at h; cases h
    rw [if_pos hz] at h
    have HH := Aside0.mk h
    clear h
    go_enter Try.func28, Try.ntmps28
    go_wp2
    obtain ⟨hA, hB, HB1⟩ := tenementlaw13_Put_write.boxes2 w #[.string a0, .string a1, .string a2, .bool a3, .bool true, .int .u8 k] #[.string ⟨#[]⟩, .string ⟨#[]⟩, .string ⟨#[]⟩, .bool false] 64 45 _ rfl
    generalize ((w.alloc (Obj.cells #[.string a0, .string a1, .string a2, .bool a3, .bool true, .int .u8 k] 64)).alloc (Obj.cells #[.string ⟨#[]⟩, .string ⟨#[]⟩, .string ⟨#[]⟩, .bool false] 45)) = W0 at *
    have HB := Aside0.mk HB1
    have hlt : w.heap.size + 1 < W0.heap.size := blk_lt hB
    have hst : tenementlaw13_Put_write.St w w.heap.size W0.heap.size #[.string a0, .string a1, .string a2, .bool a3, .bool true, .int .u8 k] W0.drew := ⟨hA, hB, below_drew1 HB1, Nat.le_refl _⟩
    clear hA hB HB1
    have hmm : (if 8 < (a2.size : Int) then 8 else (a2.size : Int)) = ((min a2.size 8 : Nat) : Int) := by split <;> omega
    have m0 : (0 : Int) ≤ ((min a2.size 8 : Nat) : Int) := by omega
    have m1 : ((min a2.size 8 : Nat) : Int) ≤ (a2.size : Int) := by omega
    obtain ⟨gb, hgb⟩ : ∃ gb, gb = w.heap.size := ⟨_, rfl⟩
    obtain ⟨s0, hs0⟩ : ∃ s0, s0 = W0.heap.size := ⟨_, rfl⟩
    rw [← hgb, ← hs0] at hst
    rw [← hgb]
    refine Go.Proofs.Ytbjpfgmmmdfbeaa.Inv.region_ok (by kernel_rfl) 27 [9, 10, 11, 12, 13, 14, 15, 16, 17, 18, 19, 20, 21, 22, 23, 24, 25, 26, 27, 28, 29, 30, 31, 32, 33, 34, 3] (by kernel_rfl) (fun N hN => (show N < 39 from (by decide : ∀ N ∈ ([9, 10, 11, 12, 13, 14, 15, 16, 17, 18, 19, 20, 21, 22, 23, 24, 25, 26, 27, 28, 29, 30, 31, 32, 33, 34, 3] : List Nat), N < 39) N hN)) (tenementlaw13_Put_write.Sp gb s0 a2 k) (tenementlaw13_Put_write.St w gb s0 #[.string a0, .string a1, .string a2, .bool a3, .bool true, .int .u8 k]) hst (fun i v W W' _ hb h => tenementlaw13_Put_write.stay gb s0 a2 k i v W W' hb h) ?hstep ?hend
    case hstep =>
      clear HH
      intro i o hi ho a W hS hL hd
      have q1 : a.tmps.getD 1 undef = .pointer (some ⟨gb, 0, none⟩) := hL.2.2 1 (by decide)
      obtain ⟨c0, c1, c2, c3, c4, c5, z0, z1, z2, z3, z4, z5⟩ := Ke6_ hS.1
      clear hL hgb hs0 hlt hst
      match i, hi, ho, hd with
      | 0, _, ho, hd =>
        obtain rfl := Option.some.inj ho
        clear hd ho
        refine ⟨.pointer (some ⟨gb, 5, none⟩), W, ?_, hS, Below.refl _ _, rfl⟩
        first | (go_simp; done) | (simp only [execOp, Act.eval, q1]; go_simp; done) | (simp only [execOp, Act.eval, q1]; go_simp; rfl) 
      | 1, _, ho, hd =>
        obtain rfl := Option.some.inj ho
        have d0 : a.tmps.getD 9 undef = .pointer (some ⟨gb, 5, none⟩) := hd ⟨0, .data⟩ (by simp) rfl
        clear hd ho
        refine ⟨.int .u8 k, W, ?_, hS, Below.refl _ _, rfl⟩
        first | (go_simp; done) | (simp only [execOp, Act.eval, q1, d0]; go_simp; done) | (simp only [execOp, Act.eval, q1, d0]; go_simp; rfl) 
      | 2, _, ho, hd =>
        obtain rfl := Option.some.inj ho
        have d1 : a.tmps.getD 10 undef = .int .u8 k := hd ⟨1, .data⟩ (by simp) rfl
        clear hd ho
        refine ⟨.int .u8 (Int.tmod k 2), W, ?_, hS, Below.refl _ _, rfl⟩
        first | (go_simp; done) | (simp only [execOp, Act.eval, q1, d1]; go_simp; done) | (simp only [execOp, Act.eval, q1, d1]; go_simp; rfl) 
      | 3, _, ho, hd =>
        obtain rfl := Option.some.inj ho
        have d2 : a.tmps.getD 11 undef = .int .u8 (Int.tmod k 2) := hd ⟨2, .data⟩ (by simp) rfl
        clear hd ho
        refine ⟨.int .u8 (IntKind.u8.wrap (48 + Int.tmod k 2)), W, ?_, hS, Below.refl _ _, rfl⟩
        first | (go_simp; done) | (simp only [execOp, Act.eval, q1, d2]; go_simp; done) | (simp only [execOp, Act.eval, q1, d2]; go_simp; rfl) 
      | 4, _, ho, hd =>
        obtain rfl := Option.some.inj ho
        have d3 : a.tmps.getD 12 undef = .int .u8 (IntKind.u8.wrap (48 + Int.tmod k 2)) := hd ⟨3, .data⟩ (by simp) rfl
        clear hd ho
        refine ⟨.slice (some ⟨W.heap.size, 0, none⟩) 2 2, W.alloc (.cells #[.int .u8 98, .int .u8 (IntKind.u8.wrap (48 + Int.tmod k 2))] 5), ?_, tenementlaw13_Put_write.st_alloc hS _, tenementlaw13_Put_write.alloc_below W _, ⟨_, rfl, hS.2.2.2, blk_new _ _⟩⟩
        have g3 := (Array.getD_eq_getD_getElem? (xs := a.tmps) (i := 12) (d := undef)).symm.trans d3
        go_simp
      | 5, _, ho, hd =>
        obtain rfl := Option.some.inj ho
        obtain ⟨b, d4, hsb, hbk⟩ : tenementlaw13_Put_write.Sp gb s0 a2 k 4 (a.tmps.getD 13 undef) W := hd ⟨4, .data⟩ (by simp) rfl
        clear hd ho
        refine ⟨.string (strOfNums [98, (IntKind.u8.wrap (48 + Int.tmod k 2))]), W, ?_, hS, Below.refl _ _, rfl⟩
        have hcv := run_convert_bytes_arg (P := Try.prog) W 74 5 Try.underlying74 Try.underlying5 b 0 2 2 [98, (IntKind.u8.wrap (48 + Int.tmod k 2))] rfl (fun j hj => by
          have hj2 : j = 0 ∨ j = 1 := by omega
          rcases hj2 with rfl | rfl
          · exact (blk_cell hbk 0).trans rfl
          · exact (blk_cell hbk 1).trans rfl) 9 Try.underlying9
        first | (go_simp; done) | (simp only [execOp, Act.eval, q1, d4]; go_simp; done) | (simp only [execOp, Act.eval, q1, d4]; go_simp; rfl) 
      | 6, _, ho, hd =>
        obtain rfl := Option.some.inj ho
        clear hd ho
        refine ⟨.pointer (some ⟨gb, 5, none⟩), W, ?_, hS, Below.refl _ _, rfl⟩
        first | (go_simp; done) | (simp only [execOp, Act.eval, q1]; go_simp; done) | (simp only [execOp, Act.eval, q1]; go_simp; rfl) 
      | 7, _, ho, hd =>
        obtain rfl := Option.some.inj ho
        have d6 : a.tmps.getD 15 undef = .pointer (some ⟨gb, 5, none⟩) := hd ⟨6, .data⟩ (by simp) rfl
        clear hd ho
        refine ⟨.int .u8 k, W, ?_, hS, Below.refl _ _, rfl⟩
        first | (go_simp; done) | (simp only [execOp, Act.eval, q1, d6]; go_simp; done) | (simp only [execOp, Act.eval, q1, d6]; go_simp; rfl) 
      | 8, _, ho, hd =>
        obtain rfl := Option.some.inj ho
        have d7 : a.tmps.getD 16 undef = .int .u8 k := hd ⟨7, .data⟩ (by simp) rfl
        clear hd ho
        refine ⟨.int .u8 (IntKind.u8.wrap (Int.tdiv k 2)), W, ?_, hS, Below.refl _ _, rfl⟩
        first | (go_simp; done) | (simp only [execOp, Act.eval, q1, d7]; go_simp; done) | (simp only [execOp, Act.eval, q1, d7]; go_simp; rfl) 
      | 9, _, ho, hd =>
        obtain rfl := Option.some.inj ho
        have d8 : a.tmps.getD 17 undef = .int .u8 (IntKind.u8.wrap (Int.tdiv k 2)) := hd ⟨8, .data⟩ (by simp) rfl
        clear hd ho
        refine ⟨.int .u8 (Int.tmod (IntKind.u8.wrap (Int.tdiv k 2)) 4), W, ?_, hS, Below.refl _ _, rfl⟩
        first | (go_simp; done) | (simp only [execOp, Act.eval, q1, d8]; go_simp; done) | (simp only [execOp, Act.eval, q1, d8]; go_simp; rfl) 
      | 10, _, ho, hd =>
        obtain rfl := Option.some.inj ho
        have d9 : a.tmps.getD 18 undef = .int .u8 (Int.tmod (IntKind.u8.wrap (Int.tdiv k 2)) 4) := hd ⟨9, .data⟩ (by simp) rfl
        clear hd ho
        refine ⟨.int .u8 (IntKind.u8.wrap (97 + Int.tmod (IntKind.u8.wrap (Int.tdiv k 2)) 4)), W, ?_, hS, Below.refl _ _, rfl⟩
        first | (go_simp; done) | (simp only [execOp, Act.eval, q1, d9]; go_simp; done) | (simp only [execOp, Act.eval, q1, d9]; go_simp; rfl) 
      | 11, _, ho, hd =>
        obtain rfl := Option.some.inj ho
        have d10 : a.tmps.getD 19 undef = .int .u8 (IntKind.u8.wrap (97 + Int.tmod (IntKind.u8.wrap (Int.tdiv k 2)) 4)) := hd ⟨10, .data⟩ (by simp) rfl
        clear hd ho
        refine ⟨.slice (some ⟨W.heap.size, 0, none⟩) 1 1, W.alloc (.cells #[.int .u8 (IntKind.u8.wrap (97 + Int.tmod (IntKind.u8.wrap (Int.tdiv k 2)) 4))] 5), ?_, tenementlaw13_Put_write.st_alloc hS _, tenementlaw13_Put_write.alloc_below W _, ⟨_, rfl, hS.2.2.2, blk_new _ _⟩⟩
        have g10 := (Array.getD_eq_getD_getElem? (xs := a.tmps) (i := 19) (d := undef)).symm.trans d10
        go_simp
      | 12, _, ho, hd =>
        obtain rfl := Option.some.inj ho
        obtain ⟨b, d11, hsb, hbk⟩ : tenementlaw13_Put_write.Sp gb s0 a2 k 11 (a.tmps.getD 20 undef) W := hd ⟨11, .data⟩ (by simp) rfl
        clear hd ho
        refine ⟨.string (strOfNums [(IntKind.u8.wrap (97 + Int.tmod (IntKind.u8.wrap (Int.tdiv k 2)) 4))]), W, ?_, hS, Below.refl _ _, rfl⟩
        have hcv := run_convert_bytes_arg (P := Try.prog) W 74 5 Try.underlying74 Try.underlying5 b 0 1 1 [(IntKind.u8.wrap (97 + Int.tmod (IntKind.u8.wrap (Int.tdiv k 2)) 4))] rfl (fun j hj => by
          have hj2 : j = 0 := by omega
          rcases hj2 with rfl
          exact (blk_cell hbk 0).trans rfl) 9 Try.underlying9
        first | (go_simp; done) | (simp only [execOp, Act.eval, q1, d11]; go_simp; done) | (simp only [execOp, Act.eval, q1, d11]; go_simp; rfl) 
      | 13, _, ho, hd =>
        obtain rfl := Option.some.inj ho
        clear hd ho
        refine ⟨.pointer (some ⟨gb, 0, none⟩), W, ?_, hS, Below.refl _ _, rfl⟩
        first | (go_simp; done) | (simp only [execOp, Act.eval, q1]; go_simp; done) | (simp only [execOp, Act.eval, q1]; go_simp; rfl) 
      | 14, _, ho, hd =>
        obtain rfl := Option.some.inj ho
        have d13 : a.tmps.getD 22 undef = .pointer (some ⟨gb, 0, none⟩) := hd ⟨13, .data⟩ (by simp) rfl
        clear hd ho
        refine ⟨.pointer (some ⟨gb, 2, none⟩), W, ?_, hS, Below.refl _ _, rfl⟩
        first | (go_simp; done) | (simp only [execOp, Act.eval, q1, d13]; go_simp; done) | (simp only [execOp, Act.eval, q1, d13]; go_simp; rfl) 
      | 15, _, ho, hd =>
        obtain rfl := Option.some.inj ho
        have d14 : a.tmps.getD 23 undef = .pointer (some ⟨gb, 2, none⟩) := hd ⟨14, .data⟩ (by simp) rfl
        clear hd ho
        refine ⟨.string a2, W, ?_, hS, Below.refl _ _, rfl⟩
        first | (go_simp; done) | (simp only [execOp, Act.eval, q1, d14]; go_simp; done) | (simp only [execOp, Act.eval, q1, d14]; go_simp; rfl) 
      | 16, _, ho, hd =>
        obtain rfl := Option.some.inj ho
        clear hd ho
        refine ⟨.pointer (some ⟨gb, 0, none⟩), W, ?_, hS, Below.refl _ _, rfl⟩
        first | (go_simp; done) | (simp only [execOp, Act.eval, q1]; go_simp; done) | (simp only [execOp, Act.eval, q1]; go_simp; rfl) 
      | 17, _, ho, hd =>
        obtain rfl := Option.some.inj ho
        have d16 : a.tmps.getD 25 undef = .pointer (some ⟨gb, 0, none⟩) := hd ⟨16, .data⟩ (by simp) rfl
        clear hd ho
        refine ⟨.pointer (some ⟨gb, 2, none⟩), W, ?_, hS, Below.refl _ _, rfl⟩
        first | (go_simp; done) | (simp only [execOp, Act.eval, q1, d16]; go_simp; done) | (simp only [execOp, Act.eval, q1, d16]; go_simp; rfl) 
      | 18, _, ho, hd =>
        obtain rfl := Option.some.inj ho
        have d17 : a.tmps.getD 26 undef = .pointer (some ⟨gb, 2, none⟩) := hd ⟨17, .data⟩ (by simp) rfl
        clear hd ho
        refine ⟨.string a2, W, ?_, hS, Below.refl _ _, rfl⟩
        first | (go_simp; done) | (simp only [execOp, Act.eval, q1, d17]; go_simp; done) | (simp only [execOp, Act.eval, q1, d17]; go_simp; rfl) 
      | 19, _, ho, hd =>
        obtain rfl := Option.some.inj ho
        have d18 : a.tmps.getD 27 undef = .string a2 := hd ⟨18, .data⟩ (by simp) rfl
        clear hd ho
        refine ⟨.int .i64 (a2.size : Int), W, ?_, hS, Below.refl _ _, rfl⟩
        first | (go_simp; done) | (simp only [execOp, Act.eval, q1, d18]; go_simp; done) | (simp only [execOp, Act.eval, q1, d18]; go_simp; rfl) 
      | 20, _, ho, hd =>
        obtain rfl := Option.some.inj ho
        have d19 : a.tmps.getD 28 undef = .int .i64 (a2.size : Int) := hd ⟨19, .data⟩ (by simp) rfl
        clear hd ho
        refine ⟨.int .i64 ((min a2.size 8 : Nat) : Int), W, ?_, hS, Below.refl _ _, rfl⟩
        first | (go_simp; done) | (simp only [execOp, Act.eval, q1, d19]; go_simp; done) | (simp only [execOp, Act.eval, q1, d19]; go_simp; rfl) 
      | 21, _, ho, hd =>
        obtain rfl := Option.some.inj ho
        have d15 : a.tmps.getD 24 undef = .string a2 := hd ⟨15, .data⟩ (by simp) rfl
        have d20 : a.tmps.getD 29 undef = .int .i64 ((min a2.size 8 : Nat) : Int) := hd ⟨20, .data⟩ (by simp) rfl
        clear hd ho
        refine ⟨.string (a2.extract 0 (min a2.size 8)), W, ?_, hS, Below.refl _ _, rfl⟩
        first | (go_simp; done) | (simp only [execOp, Act.eval, q1, d15, d20]; go_simp; done) | (simp only [execOp, Act.eval, q1, d15, d20]; go_simp; rfl) 
      | 22, _, ho, hd =>
        obtain rfl := Option.some.inj ho
        clear hd ho
        refine ⟨.pointer (some ⟨gb, 5, none⟩), W, ?_, hS, Below.refl _ _, rfl⟩
        first | (go_simp; done) | (simp only [execOp, Act.eval, q1]; go_simp; done) | (simp only [execOp, Act.eval, q1]; go_simp; rfl) 
      | 23, _, ho, hd =>
        obtain rfl := Option.some.inj ho
        have d22 : a.tmps.getD 31 undef = .pointer (some ⟨gb, 5, none⟩) := hd ⟨22, .data⟩ (by simp) rfl
        clear hd ho
        refine ⟨.int .u8 k, W, ?_, hS, Below.refl _ _, rfl⟩
        first | (go_simp; done) | (simp only [execOp, Act.eval, q1, d22]; go_simp; done) | (simp only [execOp, Act.eval, q1, d22]; go_simp; rfl) 
      | 24, _, ho, hd =>
        obtain rfl := Option.some.inj ho
        have d23 : a.tmps.getD 32 undef = .int .u8 k := hd ⟨23, .data⟩ (by simp) rfl
        clear hd ho
        refine ⟨.bool (decide (224 ≤ k)), W, ?_, hS, Below.refl _ _, rfl⟩
        first | (go_simp; done) | (simp only [execOp, Act.eval, q1, d23]; go_simp; done) | (simp only [execOp, Act.eval, q1, d23]; go_simp; rfl) 
      | 25, _, ho, hd =>
        obtain rfl := Option.some.inj ho
        have d5 : a.tmps.getD 14 undef = .string (strOfNums [98, (IntKind.u8.wrap (48 + Int.tmod k 2))]) := hd ⟨5, .data⟩ (by simp) rfl
        have d12 : a.tmps.getD 21 undef = .string (strOfNums [(IntKind.u8.wrap (97 + Int.tmod (IntKind.u8.wrap (Int.tdiv k 2)) 4))]) := hd ⟨12, .data⟩ (by simp) rfl
        have d21 : a.tmps.getD 30 undef = .string (a2.extract 0 (min a2.size 8)) := hd ⟨21, .data⟩ (by simp) rfl
        have d24 : a.tmps.getD 33 undef = .bool (decide (224 ≤ k)) := hd ⟨24, .data⟩ (by simp) rfl
        clear hd ho
        refine ⟨.agg #[.string (strOfNums [98, (IntKind.u8.wrap (48 + Int.tmod k 2))]), .string (strOfNums [(IntKind.u8.wrap (97 + Int.tmod (IntKind.u8.wrap (Int.tdiv k 2)) 4))]), .string (a2.extract 0 (min a2.size 8)), .bool (decide (224 ≤ k))], W, ?_, hS, Below.refl _ _, rfl⟩
        have g5 := (Array.getD_eq_getD_getElem? (xs := a.tmps) (i := 14) (d := undef)).symm.trans d5
        have g12 := (Array.getD_eq_getD_getElem? (xs := a.tmps) (i := 21) (d := undef)).symm.trans d12
        have g21 := (Array.getD_eq_getD_getElem? (xs := a.tmps) (i := 30) (d := undef)).symm.trans d21
        have g24 := (Array.getD_eq_getD_getElem? (xs := a.tmps) (i := 33) (d := undef)).symm.trans d24
        go_simp
      | 26, _, ho, hd =>
        obtain rfl := Option.some.inj ho
        clear hd ho
        refine ⟨.pointer (some ⟨W.heap.size, 0, none⟩), W.alloc (.cells #[.string ⟨#[]⟩, .string ⟨#[]⟩, .string ⟨#[]⟩, .bool false] 45), ?_, tenementlaw13_Put_write.st_alloc hS _, tenementlaw13_Put_write.alloc_below W _, ⟨_, rfl, hS.2.2.2, blk_new _ _⟩⟩
        first | (go_simp; done) | (simp only [execOp, Act.eval, q1]; go_simp; done) | (simp only [execOp, Act.eval, q1]; go_simp; rfl) 
      | _ + 27, hi, _, _ => omega
    case hend =>
      intro a W hS hL hA
      have q0 : a.tmps.getD 0 undef = .agg #[.string a0, .string a1, .string a2, .bool a3, .bool true, .int .u8 k] := hL.2.2 0 (by decide)
      have q1 : a.tmps.getD 1 undef = .pointer (some ⟨gb, 0, none⟩) := hL.2.2 1 (by decide)
      have q2 : a.tmps.getD 2 undef = .pointer (some ⟨gb + 1, 0, none⟩) := hL.2.2 2 (by decide)
      have q4 : a.tmps.getD 4 undef = .pointer (some ⟨gb, 4, none⟩) := hL.2.2 4 (by decide)
      have q5 : a.tmps.getD 5 undef = .bool true := hL.2.2 5 (by decide)
      have q6 : a.tmps.getD 6 undef = .bool false := hL.2.2 6 (by decide)
      have q7 : a.tmps.getD 7 undef = undef := hL.2.2 7 (by decide)
      have q8 : a.tmps.getD 8 undef = undef := hL.2.2 8 (by decide)
      have q35 : a.tmps.getD 35 undef = undef := hL.2.2 35 (by decide)
      have q36 : a.tmps.getD 36 undef = undef := hL.2.2 36 (by decide)
      have q37 : a.tmps.getD 37 undef = undef := hL.2.2 37 (by decide)
      have q38 : a.tmps.getD 38 undef = undef := hL.2.2 38 (by decide)
      have q9 : a.tmps.getD 9 undef = .pointer (some ⟨gb, 5, none⟩) := hA 0 (by decide)
      have q10 : a.tmps.getD 10 undef = .int .u8 k := hA 1 (by decide)
      have q11 : a.tmps.getD 11 undef = .int .u8 (Int.tmod k 2) := hA 2 (by decide)
      have q12 : a.tmps.getD 12 undef = .int .u8 (IntKind.u8.wrap (48 + Int.tmod k 2)) := hA 3 (by decide)
      obtain ⟨b13, q13, s13, k13⟩ : tenementlaw13_Put_write.Sp gb s0 a2 k 4 (a.tmps.getD 13 undef) W := hA 4 (by decide)
      have q14 : a.tmps.getD 14 undef = .string (strOfNums [98, (IntKind.u8.wrap (48 + Int.tmod k 2))]) := hA 5 (by decide)
      have q15 : a.tmps.getD 15 undef = .pointer (some ⟨gb, 5, none⟩) := hA 6 (by decide)
      have q16 : a.tmps.getD 16 undef = .int .u8 k := hA 7 (by decide)
      have q17 : a.tmps.getD 17 undef = .int .u8 (IntKind.u8.wrap (Int.tdiv k 2)) := hA 8 (by decide)
      have q18 : a.tmps.getD 18 undef = .int .u8 (Int.tmod (IntKind.u8.wrap (Int.tdiv k 2)) 4) := hA 9 (by decide)
      have q19 : a.tmps.getD 19 undef = .int .u8 (IntKind.u8.wrap (97 + Int.tmod (IntKind.u8.wrap (Int.tdiv k 2)) 4)) := hA 10 (by decide)
      obtain ⟨b20, q20, s20, k20⟩ : tenementlaw13_Put_write.Sp gb s0 a2 k 11 (a.tmps.getD 20 undef) W := hA 11 (by decide)
      have q21 : a.tmps.getD 21 undef = .string (strOfNums [(IntKind.u8.wrap (97 + Int.tmod (IntKind.u8.wrap (Int.tdiv k 2)) 4))]) := hA 12 (by decide)
      have q22 : a.tmps.getD 22 undef = .pointer (some ⟨gb, 0, none⟩) := hA 13 (by decide)
      have q23 : a.tmps.getD 23 undef = .pointer (some ⟨gb, 2, none⟩) := hA 14 (by decide)
      have q24 : a.tmps.getD 24 undef = .string a2 := hA 15 (by decide)
      have q25 : a.tmps.getD 25 undef = .pointer (some ⟨gb, 0, none⟩) := hA 16 (by decide)
      have q26 : a.tmps.getD 26 undef = .pointer (some ⟨gb, 2, none⟩) := hA 17 (by decide)
      have q27 : a.tmps.getD 27 undef = .string a2 := hA 18 (by decide)
      have q28 : a.tmps.getD 28 undef = .int .i64 (a2.size : Int) := hA 19 (by decide)
      have q29 : a.tmps.getD 29 undef = .int .i64 ((min a2.size 8 : Nat) : Int) := hA 20 (by decide)
      have q30 : a.tmps.getD 30 undef = .string (a2.extract 0 (min a2.size 8)) := hA 21 (by decide)
      have q31 : a.tmps.getD 31 undef = .pointer (some ⟨gb, 5, none⟩) := hA 22 (by decide)
      have q32 : a.tmps.getD 32 undef = .int .u8 k := hA 23 (by decide)
      have q33 : a.tmps.getD 33 undef = .bool (decide (224 ≤ k)) := hA 24 (by decide)
      have q34 : a.tmps.getD 34 undef = .agg #[.string (strOfNums [98, (IntKind.u8.wrap (48 + Int.tmod k 2))]), .string (strOfNums [(IntKind.u8.wrap (97 + Int.tmod (IntKind.u8.wrap (Int.tdiv k 2)) 4))]), .string (a2.extract 0 (min a2.size 8)), .bool (decide (224 ≤ k))] := hA 25 (by decide)
      obtain ⟨b3, q3, s3, k3⟩ : tenementlaw13_Put_write.Sp gb s0 a2 k 26 (a.tmps.getD 3 undef) W := hA 26 (by decide)
      have ht : a.tmps = #[.agg #[.string a0, .string a1, .string a2, .bool a3, .bool true, .int .u8 k], .pointer (some ⟨gb, 0, none⟩), .pointer (some ⟨gb + 1, 0, none⟩), .pointer (some ⟨b3, 0, none⟩), .pointer (some ⟨gb, 4, none⟩), .bool true, .bool false, undef, undef, .pointer (some ⟨gb, 5, none⟩), .int .u8 k, .int .u8 (Int.tmod k 2), .int .u8 (IntKind.u8.wrap (48 + Int.tmod k 2)), .slice (some ⟨b13, 0, none⟩) 2 2, .string (strOfNums [98, (IntKind.u8.wrap (48 + Int.tmod k 2))]), .pointer (some ⟨gb, 5, none⟩), .int .u8 k, .int .u8 (IntKind.u8.wrap (Int.tdiv k 2)), .int .u8 (Int.tmod (IntKind.u8.wrap (Int.tdiv k 2)) 4), .int .u8 (IntKind.u8.wrap (97 + Int.tmod (IntKind.u8.wrap (Int.tdiv k 2)) 4)), .slice (some ⟨b20, 0, none⟩) 1 1, .string (strOfNums [(IntKind.u8.wrap (97 + Int.tmod (IntKind.u8.wrap (Int.tdiv k 2)) 4))]), .pointer (some ⟨gb, 0, none⟩), .pointer (some ⟨gb, 2, none⟩), .string a2, .pointer (some ⟨gb, 0, none⟩), .pointer (some ⟨gb, 2, none⟩), .string a2, .int .i64 (a2.size : Int), .int .i64 ((min a2.size 8 : Nat) : Int), .string (a2.extract 0 (min a2.size 8)), .pointer (some ⟨gb, 5, none⟩), .int .u8 k, .bool (decide (224 ≤ k)), .agg #[.string (strOfNums [98, (IntKind.u8.wrap (48 + Int.tmod k 2))]), .string (strOfNums [(IntKind.u8.wrap (97 + Int.tmod (IntKind.u8.wrap (Int.tdiv k 2)) 4))]), .string (a2.extract 0 (min a2.size 8)), .bool (decide (224 ≤ k))], undef, undef, undef, undef] := by
        rw [Go.Proofs.Ytbjpfgmmmdfbeaa.Inv.tmps_eq a 39 hL.2.1, show List.range 39 = [0, 1, 2, 3, 4, 5, 6, 7, 8, 9, 10, 11, 12, 13, 14, 15, 16, 17, 18, 19, 20, 21, 22, 23, 24, 25, 26, 27, 28, 29, 30, 31, 32, 33, 34, 35, 36, 37, 38] from rfl]
        simp only [List.map_cons, List.map_nil, q0, q1, q2, q3, q4, q5, q6, q7, q8, q9, q10, q11, q12, q13, q14, q15, q16, q17, q18, q19, q20, q21, q22, q23, q24, q25, q26, q27, q28, q29, q30, q31, q32, q33, q34, q35, q36, q37, q38]
      clear q0 q1 q2 q3 q4 q5 q6 q7 q8 q9 q10 q11 q12 q13 q14 q15 q16 q17 q18 q19 q20 q21 q22 q23 q24 q25 q26 q27 q28 q29 q30 q31 q32 q33 q34 q35 q36 q37 q38 k13 k20 s13 s20
      obtain ⟨tm, df⟩ := a
      obtain rfl : df = [] := hL.1
      obtain rfl : tm = _ := ht
      have nb : gb + 1 ≠ b3 := by omega
      have gb3 : w.heap.size ≤ b3 := by omega
      have BK := blk_put (blk_put (blk_put (blk_put k3 0 (.string (strOfNums [98, (IntKind.u8.wrap (48 + Int.tmod k 2))])) (cs' := #[.string (strOfNums [98, (IntKind.u8.wrap (48 + Int.tmod k 2))]), .string ⟨#[]⟩, .string ⟨#[]⟩, .bool false]) rfl) 1 (.string (strOfNums [(IntKind.u8.wrap (97 + Int.tmod (IntKind.u8.wrap (Int.tdiv k 2)) 4))])) (cs' := #[.string (strOfNums [98, (IntKind.u8.wrap (48 + Int.tmod k 2))]), .string (strOfNums [(IntKind.u8.wrap (97 + Int.tmod (IntKind.u8.wrap (Int.tdiv k 2)) 4))]), .string ⟨#[]⟩, .bool false]) rfl) 2 (.string (a2.extract 0 (min a2.size 8))) (cs' := #[.string (strOfNums [98, (IntKind.u8.wrap (48 + Int.tmod k 2))]), .string (strOfNums [(IntKind.u8.wrap (97 + Int.tmod (IntKind.u8.wrap (Int.tdiv k 2)) 4))]), .string (a2.extract 0 (min a2.size 8)), .bool false]) rfl) 3 (.bool (decide (224 ≤ k))) (cs' := #[.string (strOfNums [98, (IntKind.u8.wrap (48 + Int.tmod k 2))]), .string (strOfNums [(IntKind.u8.wrap (97 + Int.tmod (IntKind.u8.wrap (Int.tdiv k 2)) 4))]), .string (a2.extract 0 (min a2.size 8)), .bool (decide (224 ≤ k))]) rfl
      have BR := blk_far (blk_far (blk_far (blk_far (hS.2.1) (p := ⟨b3, 0, none⟩) nb (.string (strOfNums [98, (IntKind.u8.wrap (48 + Int.tmod k 2))]))) (p := ⟨b3, 1, none⟩) nb (.string (strOfNums [(IntKind.u8.wrap (97 + Int.tmod (IntKind.u8.wrap (Int.tdiv k 2)) 4))]))) (p := ⟨b3, 2, none⟩) nb (.string (a2.extract 0 (min a2.size 8)))) (p := ⟨b3, 3, none⟩) nb (.bool (decide (224 ≤ k)))
      have HB1 := Aside0.mk (below_set (j := 3) (v := .bool (decide (224 ≤ k))) (below_set (j := 2) (v := .string (a2.extract 0 (min a2.size 8))) (below_set (j := 1) (v := .string (strOfNums [(IntKind.u8.wrap (97 + Int.tmod (IntKind.u8.wrap (Int.tdiv k 2)) 4))])) (below_set (j := 0) (v := .string (strOfNums [98, (IntKind.u8.wrap (48 + Int.tmod k 2))])) (hS.2.2.1) gb3) gb3) gb3) gb3)
      obtain ⟨x0, x1, x2, x3, z0, z1, z2, z3⟩ := Ke4_ k3
      clear hL hA hst HB
      refine tenementlaw13_Put_write.op_some (i := 27) rfl rfl ?_
      unfold Oper.wp
      go_simp
      clear x0 x1 x2 x3 z0 z1 z2 z3 k3 hS
      subst hgb
      generalize ((((W.setCell ⟨b3, 0, none⟩ (.string (strOfNums [98, (IntKind.u8.wrap (48 + Int.tmod k 2))]))).setCell ⟨b3, 1, none⟩ (.string (strOfNums [(IntKind.u8.wrap (97 + Int.tmod (IntKind.u8.wrap (Int.tdiv k 2)) 4))]))).setCell ⟨b3, 2, none⟩ (.string (a2.extract 0 (min a2.size 8)))).setCell ⟨b3, 3, none⟩ (.bool (decide (224 ≤ k)))) = W2 at *
      clear W hs0 s3 hmm m0 m1
      obtain ⟨x0, x1, x2, x3, z0, z1, z2, z3⟩ := Ke4_ BK
      obtain ⟨y0, y1, y2, y3, t0, t1, t2, t3⟩ := Ke4_ BR
      have HH' := HH.out
      clear HH
      generalize (strOfNums [98, (IntKind.u8.wrap (48 + Int.tmod k 2))]) = T1 at *
      generalize (strOfNums [(IntKind.u8.wrap (97 + Int.tmod (IntKind.u8.wrap (Int.tdiv k 2)) 4))]) = T2 at *
      generalize (a2.extract 0 (min a2.size 8)) = T3 at *
      by_cases c6 : 224 ≤ k
      · have c6b : decide (224 ≤ k) = true := decide_eq_true c6
        rw [if_pos c6] at HH'
        simp only [Option.some.injEq, Prod.mk.injEq] at HH'
        obtain ⟨rfl, rfl, rfl, rfl⟩ := HH'
        go_wp2
        have BF := blk_put (blk_put (blk_put (blk_put (blk_far BR (p := ⟨b3, 2, none⟩) nb (.string ⟨#[]⟩)) 0 (.string T1) (cs' := #[.string T1, .string ⟨#[]⟩, .string ⟨#[]⟩, .bool false]) rfl) 1 (.string T2) (cs' := #[.string T1, .string T2, .string ⟨#[]⟩, .bool false]) rfl) 2 (.string ⟨#[]⟩) (cs' := #[.string T1, .string T2, .string ⟨#[]⟩, .bool false]) rfl) 3 (.bool true) (cs' := #[.string T1, .string T2, .string ⟨#[]⟩, .bool true]) rfl
        have HF := below_set (j := 3) (v := .bool true) (below_set (j := 2) (v := .string ⟨#[]⟩) (below_set (j := 1) (v := .string T2) (below_set (j := 0) (v := .string T1) (below_set (j := 2) (v := .string ⟨#[]⟩) HB1.out gb3) (show w.heap.size ≤ w.heap.size + 1 by omega)) (show w.heap.size ≤ w.heap.size + 1 by omega)) (show w.heap.size ≤ w.heap.size + 1 by omega)) (show w.heap.size ≤ w.heap.size + 1 by omega)
        obtain ⟨f0, f1, f2, f3⟩ := Kc4_ BF
        clear x0 x1 x2 x3 y0 y1 y2 y3 z0 z1 z2 z3 t0 t1 t2 t3 BR BK BF
        refine bodyPost_ret (v := .agg #[.string T1, .string T2, .string ⟨#[]⟩, .bool true]) (by simp [results, Try.results28, go_sem, hu23, f0, f1, f2, f3]) rfl ⟨rfl, HF⟩
      · have c6b : decide (224 ≤ k) = false := decide_eq_false c6
        rw [if_neg c6] at HH'
        simp only [Option.some.injEq, Prod.mk.injEq] at HH'
        obtain ⟨rfl, rfl, rfl, rfl⟩ := HH'
        go_wp2
        have BF := blk_put (blk_put (blk_put (blk_put (BR) 0 (.string T1) (cs' := #[.string T1, .string ⟨#[]⟩, .string ⟨#[]⟩, .bool false]) rfl) 1 (.string T2) (cs' := #[.string T1, .string T2, .string ⟨#[]⟩, .bool false]) rfl) 2 (.string T3) (cs' := #[.string T1, .string T2, .string T3, .bool false]) rfl) 3 (.bool false) (cs' := #[.string T1, .string T2, .string T3, .bool false]) rfl
        have HF := below_set (j := 3) (v := .bool false) (below_set (j := 2) (v := .string T3) (below_set (j := 1) (v := .string T2) (below_set (j := 0) (v := .string T1) (HB1.out) (show w.heap.size ≤ w.heap.size + 1 by omega)) (show w.heap.size ≤ w.heap.size + 1 by omega)) (show w.heap.size ≤ w.heap.size + 1 by omega)) (show w.heap.size ≤ w.heap.size + 1 by omega)
        obtain ⟨f0, f1, f2, f3⟩ := Kc4_ BF
        clear x0 x1 x2 x3 y0 y1 y2 y3 z0 z1 z2 z3 t0 t1 t2 t3 BR BK BF
        refine bodyPost_ret (v := .agg #[.string T1, .string T2, .string T3, .bool false]) (by simp [results, Try.results28, go_sem, hu23, f0, f1, f2, f3]) rfl ⟨rfl, HF⟩
end Go.Proofs.Ytbjpfgmmmdfbeaa.Q
