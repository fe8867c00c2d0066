import Derived.Maps.RangeWalk
import Derived.Below
import Derived.Test.YtbjpfgmmmdfbeaaQx0
import Derived.DeepKeys4
import Derived.Deep.LoopGhost
import Derived.Shelf.SlMaps.Clone
import Derived.Test.YtbjpfgmmmdfbeaaWAMore
import Derived.Laws.BitsAllLaws
import Derived.Deep.RegionHeld3
import Derived.RegionTactic
import Derived.Deep.Slices
import Derived.OpenShut
import Derived.SizedLaws
import Derived.ChangeArms
import Derived.WideShapes
import Derived.ChangeShapes
import Derived.KernelRfl
/- A map of whole numbers told as the list of its entries: what delete, a store, len, a look and a range do to it. -/
set_option linter.unusedVariables false
set_option linter.unusedSimpArgs false
namespace Go.Proofs.Ytbjpfgmmmdfbeaa.Quo
open Go Go.RowKit Go.WideShapes
open Go.Maps (Keyed)
abbrev En := Lit × Int
def enc (l : List En) : List (Lit × DataW Unit) := l.map fun p => (p.1, .lit (.int .i64 p.2))
def total (l : List En) : Int := (l.map fun p => p.2).sum
def strike (k : Lit) (l : List En) : List En := l.filter fun p => !p.1.sameKey k
theorem total_nil : total [] = 0 := rfl
theorem total_cons (x : En) (l : List En) : total (x :: l) = x.2 + total l := by simp [total]
theorem total_append (x y : List En) : total (x ++ y) = total x + total y := by simp [total]
theorem enc_strike (k : Lit) (l : List En) : enc (strike k l) = (enc l).filter fun p => !p.1.sameKey k := by
  unfold enc strike
  rw [List.filter_map]
  rfl
theorem enc_append (x y : List En) : enc (x ++ y) = enc x ++ enc y := by simp [enc]
theorem enc_length (l : List En) : (enc l).length = l.length := by simp [enc]
/-- Block b is a map of just these entries, in whatever order. -/
def Has (w : World) (P : Program) (k e : TypeId) (b : Nat) (l : List En) : Prop :=
  ∃ es, w.ownsMap P k (plainElem P e) b l.length (.map es) ∧ es.Perm (enc l)
variable {P : Program} {k e : TypeId} {w : World} {b : Nat} {l : List En}
theorem has_of {n : Nat} {es : List (Lit × DataW Unit)} (h : w.ownsMap P k (plainElem P e) b n (.map es)) (p : es.Perm (enc l)) : Has w P k e b l := by
  obtain ⟨e0, clock, hb, F, hs, hD⟩ := h
  refine ⟨es, ⟨e0, clock, hb, F, ?_, hD⟩, p⟩
  have h1 : es = (e0.toList.map (Go.WideElems.rg P k (plainElem P e))).foldr DataW.insert [] := by injection hD
  have h2 := p.length_eq
  rw [enc_length, h1, length_sorted] at h2
  simp at h2
  omega
theorem has_made (w : World) (P : Program) (k e : TypeId) : Has (w.alloc (.map #[] 0)) P k e w.heap.size [] := ⟨[], World.ownsMap_made w P k _, List.Perm.refl _⟩
theorem Has.lt (h : Has w P k e b l) : b < w.heap.size := by
  obtain ⟨es, ho, _⟩ := h
  exact ho.lt
theorem Has.kept {w' : World} {row : Option Nat} (h : Has w P k e b l) (hg : w.grownBy w' row) (hne : some b ≠ row) : Has w' P k e b l := by
  obtain ⟨es, ho, hp⟩ := h
  exact ⟨es, ho.kept hg hne, hp⟩
theorem grown_of_below {w w' : World} (hb : Below w.heap.size w w') : w.grownBy w' none := World.grownBy.mk hb.os hb.tape hb.output hb.size (fun i hi _ => hb.block i hi)
theorem Has.below {w' : World} (h : Has w P k e b l) (hb : Below w.heap.size w w') : Has w' P k e b l := h.kept (grown_of_below hb) (by simp)
theorem Has.alloc (h : Has w P k e b l) (o : Obj) : Has (w.alloc o) P k e b l := h.kept (World.grownBy_alloc w o none) (by simp)
theorem Has.drew (h : Has w P k e b l) : Has w.drew P k e b l := h
theorem Has.setCell {a : Addr} (h : Has w P k e b l) (ha : b ≠ a.block) (u : Value) : Has (w.setCell a u) P k e b l := by
  obtain ⟨es, ho, hp⟩ := h
  exact ⟨es, ho.setCell ha u, hp⟩
theorem below_grown {w W w1 : World} {B : Nat} (h : Below w.heap.size w W) (hg : W.grownBy w1 (some B)) (hB : w.heap.size ≤ B) : Below w.heap.size w w1 :=
  ⟨hg.os.trans h.os, hg.tape.trans h.tape, hg.output.trans h.output, Nat.le_trans h.size hg.size, fun i hi => (hg.block i (Nat.lt_of_lt_of_le hi h.size) (by simp; omega)).trans (h.block i hi)⟩
theorem below_grown0 {w W w1 : World} (h : Below w.heap.size w W) (hg : W.grownBy w1 none) : Below w.heap.size w w1 :=
  ⟨hg.os.trans h.os, hg.tape.trans h.tape, hg.output.trans h.output, Nat.le_trans h.size hg.size, fun i hi => (hg.block i (Nat.lt_of_lt_of_le hi h.size) (by simp)).trans (h.block i hi)⟩
/-! ### what the entries tell -/
def vl : DataW Unit → Int
  | .lit (.int _ a) => a
  | _ => 0
def tot (es : List (Lit × DataW Unit)) : Int := (es.map fun p => vl p.2).sum
theorem tot_perm {x y : List (Lit × DataW Unit)} (h : x.Perm y) : tot x = tot y := by
  induction h with
  | nil => rfl
  | cons a _ ih => simp only [tot, List.map_cons, List.sum_cons] at ih ⊢; omega
  | swap a b l => simp only [tot, List.map_cons, List.sum_cons]; omega
  | trans _ _ i1 i2 => exact i1.trans i2
theorem tot_enc (l : List En) : tot (enc l) = total l := by
  unfold tot enc total
  rw [List.map_map]
  rfl
theorem tot_cons (x : Lit × DataW Unit) (l : List (Lit × DataW Unit)) : tot (x :: l) = vl x.2 + tot l := by simp [tot]
theorem tot_step {kl : Lit} {d : DataW Unit} {left : Lit → Bool} (hk : WideAt.IsKeyLit kl) (hl : left kl = true) : ∀ {es : List (Lit × DataW Unit)}, es.Pairwise (fun p q => p.1 ≠ q.1) → (kl, d) ∈ es →
    tot (es.filter fun p => left p.1) = vl d + tot (es.filter fun p => left p.1 && !p.1.sameKey kl)
  | [], _, h => by simp at h
  | x :: r, hp, h => by
    obtain ⟨h1, h2⟩ := List.pairwise_cons.1 hp
    by_cases c : x = (kl, d)
    · subst c
      have e1 : ∀ p ∈ r, p.1.sameKey kl = false := fun p hp => Go.Maps.sameKey_ne (h1 p hp).symm
      have e2 : (r.filter fun p => left p.1 && !p.1.sameKey kl) = r.filter fun p => left p.1 := List.filter_congr (fun p hp => by rw [e1 p hp]; simp)
      rw [List.filter_cons, List.filter_cons, if_pos hl, if_neg (by simp [WideAt.sameKey_self hk]), tot_cons, e2]
    · have hm : (kl, d) ∈ r := by
        rcases List.mem_cons.1 h with h | h
        · exact absurd h.symm c
        · exact h
      have ih := tot_step hk hl h2 hm
      have hx : x.1.sameKey kl = false := Go.Maps.sameKey_ne (h1 _ hm)
      rw [List.filter_cons, List.filter_cons]
      by_cases cl : left x.1 = true
      · rw [if_pos cl, if_pos (by simp [cl, hx]), tot_cons, tot_cons, ih]
        omega
      · rw [if_neg cl, if_neg (by simp [cl]), ih]
theorem at_mem {kl : Lit} {d : DataW Unit} {es : List (Lit × DataW Unit)} (h : ∀ zd, (DataW.map es).atKey kl zd = d) : (kl, d) ∈ es := by
  have hh := Go.Maps.has_true_of_atKey h
  obtain ⟨p, hp, hpk⟩ := List.any_eq_true.1 (show es.any (fun p => p.1.sameKey kl) = true from hh)
  have hs : (es.find? (fun p => p.1.sameKey kl)).isSome = true := List.find?_isSome.2 ⟨p, hp, hpk⟩
  obtain ⟨x, hx⟩ := Option.isSome_iff_exists.1 hs
  have e1 : x.2 = d := by have := h .nil; simpa [DataW.atKey, hx] using this
  have e2 : x.1 = kl := WideAt.sameKey_eq (by simpa using List.find?_some hx)
  rw [← e1, ← e2]
  exact List.mem_of_find?_eq_some hx
theorem mem_enc {kl : Lit} {c : Int} : (kl, DataW.lit (.int .i64 c)) ∈ enc l → (kl, c) ∈ l := by
  intro h
  obtain ⟨p, hp, e⟩ := List.mem_map.1 h
  simp only [Prod.mk.injEq, DataW.lit.injEq, Lit.int.injEq, true_and] at e
  obtain ⟨e1, e2⟩ := e
  rw [← e1, ← e2]
  exact hp
/-! ### at the operations -/
variable {ops : Array Oper} {rest : List Oper} {o : Oper} {a : Act} {Q : Exit → Act → World → Prop}
theorem wp_del (w : World) (hg : o.guard = none) (m x : Operand) (t k : TypeId) (hop : o.op = Op.call { callee := Callee.builtin Builtin.delete, args := #[m, x], argTypes := #[t, k] })
    (e : TypeId) (K : Keyed P k) (ht : P.underlying t = some (.map k e)) (b : Nat) (l : List En) (hm : a.eval m = .map (some b)) (hown : Has w P k e b l) (key : Value) (kl : Lit) (hx : a.eval x = key) (hkey : keyOf P k key = some kl)
    (hK : ∀ w', Has w' P k e b (strike kl l) → w.grownBy w' (some b) → wpList P ops Q rest (a.put o.dst (.tuple #[])) w') : wpList P ops Q (o :: rest) a w := by
  obtain ⟨es, ho, hp⟩ := hown
  refine wpList_delete_own w hg m x t k hop e K ht _ b _ _ hm ho key kl hx hkey (fun w' h1 h2 => hK w' ?_ h2.grown)
  have h1' : w'.ownsMap P k (plainElem P e) b l.length (.map (es.filter fun p => !p.1.sameKey kl)) := h1
  exact has_of h1' (by rw [enc_strike]; exact hp.filter _)
theorem wp_put (w : World) (hg : o.guard = none) (m x v : Operand) (t : TypeId) (hop : o.op = Op.mapUpdate t m x v)
    (k e : TypeId) (K : Keyed P k) (ht : P.underlying t = some (.map k e)) (he : P.underlying e = some (.int .i64)) (b : Nat) (l : List En) (hm : a.eval m = .map (some b)) (hown : Has w P k e b l) (hn : l.length < maxLen)
    (key : Value) (kl : Lit) (hx : a.eval x = key) (hkey : keyOf P k key = some kl) (c : Int) (hv : a.eval v = .int .i64 c) (hc : (Lit.int .i64 c).wf = true)
    (hK : ∀ w', Has w' P k e b (strike kl l ++ [(kl, c)]) → w.grownBy w' (some b) → wpList P ops Q rest (a.put o.dst undef) w') : wpList P ops Q (o :: rest) a w := by
  obtain ⟨es, ho, hp⟩ := hown
  refine wpList_mapUpdate_own w hg m x v t hop k e K ht _ b _ _ hm ho hn key _ kl hx hv hkey (.lit (.int .i64 c)) [] (plainElem_int he hc) (fun w' h1 h2 => hK w' ?_ h2)
  have h1' : w'.ownsMap P k (plainElem P e) b (l.length + 1) (.map (DataW.insert (kl, .lit (.int .i64 c)) (es.filter fun p => !p.1.sameKey kl))) := h1
  refine has_of h1' ((insert_perm _ _).trans ?_)
  rw [enc_append, enc_strike]
  exact (List.Perm.cons _ (hp.filter _)).trans (List.perm_append_comm (l₁ := [_]))
theorem wp_len (w : World) (hg : o.guard = none) (m : Operand) (t : TypeId) (hop : o.op = Op.call { callee := Callee.builtin Builtin.len, args := #[m], argTypes := #[t] })
    (k e : TypeId) (ht : P.underlying t = some (.map k e)) (b : Nat) (l : List En) (hm : a.eval m = .map (some b)) (hown : Has w P k e b l)
    (hK : wpList P ops Q rest (a.put o.dst (.int .i64 l.length)) w) : wpList P ops Q (o :: rest) a w := by
  obtain ⟨es, ho, hp⟩ := hown
  refine wpList_len_own w hg m t hop k e ht _ b _ _ hm ho ?_
  have hs : Go.Maps.size (DataW.map es) = l.length := hp.length_eq.trans (enc_length l)
  rw [hs]
  exact hK
/-- A look: what comes is what the key has, or nought: with what the other ones have it is all. -/
theorem Has.look {t : TypeId} (h : Has w P k e b l) (K : Keyed P k) (ht : P.underlying t = some (.map k e)) (he : P.underlying e = some (.int .i64)) (hz : (zeroValue e).run P w = .ok (.int .i64 0) w) {key : Value} {kl : Lit} (hkey : keyOf P k key = some kl) :
    ∃ c, (Instr.lookup t (.map (some b)) key false).run P w = .ok (.int .i64 c) w ∧ c + total (strike kl l) = total l ∧ (Lit.int .i64 c).wf = true := by
  obtain ⟨es, ho, hp⟩ := h
  obtain ⟨c, hrun, hat, hw⟩ := ho.lookup_int K ht he hz hkey
  refine ⟨c, hrun, ?_, hw⟩
  obtain ⟨es', e1, hpw, hks⟩ := ho.entries K
  cases e1
  have hs : tot (es.filter fun p => !p.1.sameKey kl) = total (strike kl l) := by rw [tot_perm (hp.filter _), ← enc_strike, tot_enc]
  have ht' : tot es = total l := by rw [tot_perm hp, tot_enc]
  rw [← hs, ← ht']
  cases hh : Go.Maps.has (DataW.map es) kl with
  | false =>
    have e2 := Go.Maps.atKey_of_not_has hh (.lit (.int .i64 0))
    rw [e2] at hat
    have e3 := Go.Maps.del_of_not_has hh
    have e4 : (es.filter fun p => !p.1.sameKey kl) = es := by injection e3
    simp only [DataW.lit.injEq, Lit.int.injEq, true_and] at hat
    rw [e4]
    omega
  | true =>
    obtain ⟨p, hpm, hpk⟩ := List.any_eq_true.1 (show es.any (fun p => p.1.sameKey kl) = true from hh)
    have hpe : p.1 = kl := WideAt.sameKey_eq hpk
    have hsome : (es.find? (fun p => p.1.sameKey kl)).isSome = true := List.find?_isSome.2 ⟨p, hpm, hpk⟩
    obtain ⟨x, hx⟩ := Option.isSome_iff_exists.1 hsome
    have e2 : x.2 = .lit (.int .i64 c) := by simpa [DataW.atKey, hx] using hat
    have e3 : x.1 = kl := WideAt.sameKey_eq (by simpa using List.find?_some hx)
    have hxm : (kl, DataW.lit (.int .i64 c)) ∈ es := by rw [← e2, ← e3]; exact List.mem_of_find?_eq_some hx
    have h1 := tot_step (left := fun _ => true) (hpe ▸ hks p hpm) rfl hpw hxm
    rw [List.filter_eq_self.2 (fun _ _ => rfl)] at h1
    simp only [Bool.true_and] at h1
    rw [h1]
    rfl
/-- A range under way. -/
def Going (w : World) (P : Program) (k e : TypeId) (b r : Nat) (l : List En) (left : Lit → Bool) (cnt : Nat) : Prop :=
  ∃ n es, w.ranges P k (plainElem P e) b r n (.map es) left cnt ∧ es.Perm (enc l)
def todo (left : Lit → Bool) (l : List En) : Int := total (l.filter fun p => left p.1)
theorem tot_todo {es : List (Lit × DataW Unit)} (hp : es.Perm (enc l)) (left : Lit → Bool) : tot (es.filter fun p => left p.1) = todo left l := by
  rw [tot_perm (hp.filter _)]
  unfold todo
  rw [← tot_enc]
  unfold enc
  rw [List.filter_map]
  rfl
theorem Going.has {r cnt : Nat} {left : Lit → Bool} (h : Going w P k e b r l left cnt) : Has w P k e b l := by
  obtain ⟨n, es, hr, hp⟩ := h
  exact has_of hr.owns hp
theorem Going.kept {r cnt : Nat} {left : Lit → Bool} {w' : World} {row : Option Nat} (h : Going w P k e b r l left cnt) (hg : w.grownBy w' row) (h1 : some b ≠ row) (h2 : some r ≠ row) : Going w' P k e b r l left cnt := by
  obtain ⟨n, es, hr, hp⟩ := h
  exact ⟨n, es, hr.kept hg h1 h2, hp⟩
theorem Going.left_eq {r cnt : Nat} {left : Lit → Bool} (h : Going w P k e b r l left cnt) : w.rangeLeft b r = cnt := by
  obtain ⟨n, es, hr, hp⟩ := h
  exact hr.left_eq
theorem wp_range (w : World) (hg : o.guard = none) (m : Operand) (t : TypeId) (hop : o.op = Op.range t m) (k e : TypeId) (K : Keyed P k) (ht : P.underlying t = some (.map k e)) (b : Nat) (l : List En)
    (hm : a.eval m = .map (some b)) (hown : Has w P k e b l)
    (hK : ∀ w' left cnt, Going w' P k e b w.heap.size l left cnt → todo left l = total l → w.grownBy w' none → w'.heap.size = w.heap.size + 1 → wpList P ops Q rest (a.put o.dst (.pointer (some ⟨w.heap.size, 0, none⟩))) w') :
    wpList P ops Q (o :: rest) a w := by
  obtain ⟨es, ho, hp⟩ := hown
  refine wpList_range_own w hg m t hop k e K ht _ b _ _ hm ho (fun w' h1 h2 h3 => hK w' _ _ ⟨_, es, h1, hp⟩ ?_ h2 h3)
  obtain ⟨es', e1, hpw, hks⟩ := ho.entries K
  cases e1
  rw [← tot_todo hp, ← tot_enc, ← tot_perm hp, List.filter_eq_self.2]
  intro p hpm
  exact List.any_eq_true.2 ⟨p, hpm, WideAt.sameKey_self (hks p hpm)⟩
theorem wp_next (w : World) (hg : o.guard = none) (it : Operand) (hop : o.op = Op.next it false) (k e : TypeId) (K : Keyed P k) (he : P.underlying e = some (.int .i64)) (b r : Nat) (l : List En) (left : Lit → Bool) (cnt : Nat)
    (hit : a.eval it = .pointer (some ⟨r, 0, none⟩)) (h : Going w P k e b r l left cnt)
    (hDone : todo left l = 0 → wpList P ops Q rest (a.put o.dst (.tuple #[.bool false])) w)
    (hMore : ∀ (key : Value) (kl : Lit) (c : Int) (w' : World) (left' : Lit → Bool) (cnt' : Nat), keyOf P k key = some kl → (kl, c) ∈ l → todo left l = c + todo left' l → Going w' P k e b r l left' cnt' → cnt' < cnt →
      w.grownBy w' (some r) → w'.heap.size = w.heap.size → (Instr.entry (.pointer (some ⟨r, 0, none⟩))).run P w' = .ok (.tuple #[key, .int .i64 c]) w' → wpList P ops Q rest (a.put o.dst (.tuple #[.bool true, key, .int .i64 c])) w') :
    wpList P ops Q (o :: rest) a w := by
  obtain ⟨n, es, hr, hp⟩ := h
  refine wpList_next_ranges (α := Value) w hg it hop k K (plainElem P e) id (Value.int .i64) (fun key kl _ => ⟨key, rfl⟩) (fun v y hv => by obtain ⟨c, rfl, _⟩ := plainElem_int_inv he hv; exact ⟨c, rfl⟩) b r n _ left cnt hit hr ?_ ?_
  · intro h0 h1
    refine hDone ?_
    have : (l.filter fun p => left p.1) = [] := List.filter_eq_nil_iff.2 (fun p _ => by rw [h1]; simp)
    unfold todo
    rw [this]
    rfl
  · intro key c kl y w' cnt' hkey hlk hv hat hrg hlt hgr hsz hen
    obtain ⟨c', ec, rfl, hwc⟩ := plainElem_int_inv he hv
    cases ec
    obtain ⟨es', e1, hpw, hks⟩ := hr.owns.entries K
    cases e1
    have hm := at_mem hat
    have hs := tot_step (hks _ hm) hlk hpw hm
    rw [tot_todo hp, tot_todo hp (fun z => left z && !z.sameKey kl)] at hs
    exact hMore key kl c w' _ cnt' hkey (mem_enc (hp.mem_iff.1 hm)) hs ⟨n, es, hrg, hp⟩ hlt hgr hsz hen
end Go.Proofs.Ytbjpfgmmmdfbeaa.Quo

/- The sum of a map's values, whatever order the range takes; a map's clone. -/
set_option linter.unusedVariables false
set_option linter.unusedSimpArgs false
namespace Go.Proofs.Ytbjpfgmmmdfbeaa.Quo
open Go Go.RowKit Go.WideShapes Go.Proofs.Ytbjpfgmmmdfbeaa.Q Go.Proofs.YtbjpfgmmmdfbeaaW.PrintWords Go.Proofs.YtbjpfgmmmdfbeaaW.PrintLast Go.Proofs.YtbjpfgmmmdfbeaaW.PrintMore
open Go.Maps (Keyed)
theorem wrap_step (t a b c : Int) (h : a = c + b) : wrap64 (wrap64 (t - a) + c) = wrap64 (t - b) := by
  unfold wrap64
  omega
theorem wrap_none (t a : Int) (h : a = t) : wrap64 (t - a) = 0 := by
  unfold wrap64
  omega
theorem wrap_all (t a : Int) (h : a = 0) : wrap64 (t - a) = wrap64 t := by
  unfold wrap64
  omega
theorem keyed_at : Keyed Try.prog 70 := Go.Maps.Keyed.of_law (deep_law_laid (show laidOutB Try.prog = true by kernel_rfl) (m := 2) (by omega) (of_decide_eq_true (by kernel_rfl)) (by kernel_rfl) (by kernel_rfl))
set_option maxHeartbeats 8000000 in
set_option maxRecDepth 100000 in
theorem tally_at (b : Nat) (l : List En) (w : World) (h : Has w Try.prog 70 3 b l) :
    Calls Try.prog 31 #[.map (some b)] w fun e w' => e = .returned (.int .i64 (wrap64 (total l))) ∧ Below w.heap.size w w' := by
  have HO := Aside0.mk h
  clear h
  go_enter Try.func31, Try.ntmps31
  go_wp2_with (first | (at_range; refine wp_range _ rfl _ 58 rfl 70 3 keyed_at Try.underlying58 b l rfl HO.out ?_; intro w0 left0 cnt0 hgo0 htd0 hgr0 hsz0; have HG0 := Aside0.mk hgo0; have HT0 := Aside0.mk htd0; have HB := Aside0.mk (below_grown0 (Below.refl _ _) hgr0); clear hgo0 htd0 hgr0 hsz0))
  go_frame
  go_loopg [3] cnt0 (fun kq v3 wr => ∃ (left : Lit → Bool) (cnt : Nat), v3 = .int .i64 (wrap64 (total l - todo left l)) ∧ Aside0 (cnt ≤ kq) ∧ Aside0 (Going wr Try.prog 70 3 b w.heap.size l left cnt) ∧ Aside0 (Below w.heap.size w wr))
  case atStart => exact ⟨left0, cnt0, by rw [wrap_none _ _ HT0.out], ⟨Nat.le_refl _⟩, HG0, HB⟩
  case round =>
    obtain ⟨left, cnt, rfl, HC, HG, HB⟩ := hrel
    go_wp2_with (first | (at_next; refine wp_next _ rfl _ rfl 70 3 keyed_at Try.underlying3 b w.heap.size l left cnt rfl HG.out ?_ ?_))
    · intro hz
      have HZ := Aside0.mk hz
      clear hz
      go_wp2
      go_ret
      exact ⟨by rw [wrap_all _ _ HZ.out]; rfl, HB.out⟩
    · intro key kl c w1 left1 cnt1 hkey hm htd hg1 hlt hgr hsz hen
      have HT := Aside0.mk htd
      have HL := Aside0.mk hlt
      have HG1 := Aside0.mk hg1
      have HB1 := Aside0.mk (below_grown HB.out hgr (Nat.le_refl _))
      clear htd hlt hg1 hgr hsz hkey hm
      go_wp2
      go_roundg cnt1
      case measure => have := HL.out; have := HC.out; omega
      case rel => exact ⟨left1, cnt1, by rw [wrap_step _ _ _ _ HT.out], ⟨Nat.le_refl _⟩, HG1, HB1⟩
theorem keyed_int : Keyed Try.prog 3 := Go.Maps.int_keyed Try.underlying3
set_option maxHeartbeats 8000000 in
set_option maxRecDepth 100000 in
theorem tally_int (b : Nat) (l : List En) (w : World) (h : Has w Try.prog 3 3 b l) :
    Calls Try.prog 25 #[.map (some b)] w fun e w' => e = .returned (.int .i64 (wrap64 (total l))) ∧ Below w.heap.size w w' := by
  have HO := Aside0.mk h
  clear h
  go_enter Try.func25, Try.ntmps25
  go_wp2_with (first | (at_range; refine wp_range _ rfl _ 49 rfl 3 3 keyed_int Try.underlying49 b l rfl HO.out ?_; intro w0 left0 cnt0 hgo0 htd0 hgr0 hsz0; have HG0 := Aside0.mk hgo0; have HT0 := Aside0.mk htd0; have HB := Aside0.mk (below_grown0 (Below.refl _ _) hgr0); clear hgo0 htd0 hgr0 hsz0))
  go_frame
  go_loopg [3] cnt0 (fun kq v3 wr => ∃ (left : Lit → Bool) (cnt : Nat), v3 = .int .i64 (wrap64 (total l - todo left l)) ∧ Aside0 (cnt ≤ kq) ∧ Aside0 (Going wr Try.prog 3 3 b w.heap.size l left cnt) ∧ Aside0 (Below w.heap.size w wr))
  case atStart => exact ⟨left0, cnt0, by rw [wrap_none _ _ HT0.out], ⟨Nat.le_refl _⟩, HG0, HB⟩
  case round =>
    obtain ⟨left, cnt, rfl, HC, HG, HB⟩ := hrel
    go_wp2_with (first | (at_next; refine wp_next _ rfl _ rfl 3 3 keyed_int Try.underlying3 b w.heap.size l left cnt rfl HG.out ?_ ?_))
    · intro hz
      have HZ := Aside0.mk hz
      clear hz
      go_wp2
      go_ret
      exact ⟨by rw [wrap_all _ _ HZ.out]; rfl, HB.out⟩
    · intro key kl c w1 left1 cnt1 hkey hm htd hg1 hlt hgr hsz hen
      have HT := Aside0.mk htd
      have HL := Aside0.mk hlt
      have HG1 := Aside0.mk hg1
      have HB1 := Aside0.mk (below_grown HB.out hgr (Nat.le_refl _))
      clear htd hlt hg1 hgr hsz hkey hm
      go_wp2
      go_roundg cnt1
      case measure => have := HL.out; have := HC.out; omega
      case rel => exact ⟨left1, cnt1, by rw [wrap_step _ _ _ _ HT.out], ⟨Nat.le_refl _⟩, HG1, HB1⟩
theorem keyed_byte : Keyed Try.prog 5 := Go.Maps.int_keyed Try.underlying5
set_option maxHeartbeats 8000000 in
set_option maxRecDepth 100000 in
theorem tally_byte (b : Nat) (l : List En) (w : World) (h : Has w Try.prog 5 3 b l) :
    Calls Try.prog 26 #[.map (some b)] w fun e w' => e = .returned (.int .i64 (wrap64 (total l))) ∧ Below w.heap.size w w' := by
  have HO := Aside0.mk h
  clear h
  go_enter Try.func26, Try.ntmps26
  go_wp2_with (first | (at_range; refine wp_range _ rfl _ 50 rfl 5 3 keyed_byte Try.underlying50 b l rfl HO.out ?_; intro w0 left0 cnt0 hgo0 htd0 hgr0 hsz0; have HG0 := Aside0.mk hgo0; have HT0 := Aside0.mk htd0; have HB := Aside0.mk (below_grown0 (Below.refl _ _) hgr0); clear hgo0 htd0 hgr0 hsz0))
  go_frame
  go_loopg [3] cnt0 (fun kq v3 wr => ∃ (left : Lit → Bool) (cnt : Nat), v3 = .int .i64 (wrap64 (total l - todo left l)) ∧ Aside0 (cnt ≤ kq) ∧ Aside0 (Going wr Try.prog 5 3 b w.heap.size l left cnt) ∧ Aside0 (Below w.heap.size w wr))
  case atStart => exact ⟨left0, cnt0, by rw [wrap_none _ _ HT0.out], ⟨Nat.le_refl _⟩, HG0, HB⟩
  case round =>
    obtain ⟨left, cnt, rfl, HC, HG, HB⟩ := hrel
    go_wp2_with (first | (at_next; refine wp_next _ rfl _ rfl 5 3 keyed_byte Try.underlying3 b w.heap.size l left cnt rfl HG.out ?_ ?_))
    · intro hz
      have HZ := Aside0.mk hz
      clear hz
      go_wp2
      go_ret
      exact ⟨by rw [wrap_all _ _ HZ.out]; rfl, HB.out⟩
    · intro key kl c w1 left1 cnt1 hkey hm htd hg1 hlt hgr hsz hen
      have HT := Aside0.mk htd
      have HL := Aside0.mk hlt
      have HG1 := Aside0.mk hg1
      have HB1 := Aside0.mk (below_grown HB.out hgr (Nat.le_refl _))
      clear htd hlt hg1 hgr hsz hkey hm
      go_wp2
      go_roundg cnt1
      case measure => have := HL.out; have := HC.out; omega
      case rel => exact ⟨left1, cnt1, by rw [wrap_step _ _ _ _ HT.out], ⟨Nat.le_refl _⟩, HG1, HB1⟩
theorem keyed_string : Keyed Try.prog 9 := Go.Maps.string_keyed Try.underlying9
set_option maxHeartbeats 8000000 in
set_option maxRecDepth 100000 in
theorem tally_string (b : Nat) (l : List En) (w : World) (h : Has w Try.prog 9 3 b l) :
    Calls Try.prog 27 #[.map (some b)] w fun e w' => e = .returned (.int .i64 (wrap64 (total l))) ∧ Below w.heap.size w w' := by
  have HO := Aside0.mk h
  clear h
  go_enter Try.func27, Try.ntmps27
  go_wp2_with (first | (at_range; refine wp_range _ rfl _ 57 rfl 9 3 keyed_string Try.underlying57 b l rfl HO.out ?_; intro w0 left0 cnt0 hgo0 htd0 hgr0 hsz0; have HG0 := Aside0.mk hgo0; have HT0 := Aside0.mk htd0; have HB := Aside0.mk (below_grown0 (Below.refl _ _) hgr0); clear hgo0 htd0 hgr0 hsz0))
  go_frame
  go_loopg [3] cnt0 (fun kq v3 wr => ∃ (left : Lit → Bool) (cnt : Nat), v3 = .int .i64 (wrap64 (total l - todo left l)) ∧ Aside0 (cnt ≤ kq) ∧ Aside0 (Going wr Try.prog 9 3 b w.heap.size l left cnt) ∧ Aside0 (Below w.heap.size w wr))
  case atStart => exact ⟨left0, cnt0, by rw [wrap_none _ _ HT0.out], ⟨Nat.le_refl _⟩, HG0, HB⟩
  case round =>
    obtain ⟨left, cnt, rfl, HC, HG, HB⟩ := hrel
    go_wp2_with (first | (at_next; refine wp_next _ rfl _ rfl 9 3 keyed_string Try.underlying3 b w.heap.size l left cnt rfl HG.out ?_ ?_))
    · intro hz
      have HZ := Aside0.mk hz
      clear hz
      go_wp2
      go_ret
      exact ⟨by rw [wrap_all _ _ HZ.out]; rfl, HB.out⟩
    · intro key kl c w1 left1 cnt1 hkey hm htd hg1 hlt hgr hsz hen
      have HT := Aside0.mk htd
      have HL := Aside0.mk hlt
      have HG1 := Aside0.mk hg1
      have HB1 := Aside0.mk (below_grown HB.out hgr (Nat.le_refl _))
      clear htd hlt hg1 hgr hsz hkey hm
      go_wp2
      go_roundg cnt1
      case measure => have := HL.out; have := HC.out; omega
      case rel => exact ⟨left1, cnt1, by rw [wrap_step _ _ _ _ HT.out], ⟨Nat.le_refl _⟩, HG1, HB1⟩
/-- The clone: a new block that holds the same. -/
theorem clone_at (b : Nat) (l : List En) (w : World) (h : Has w Try.prog 70 3 b l) :
    Calls Try.prog 36 #[.map (some b)] w fun e w' => e = .returned (.map (some w.heap.size)) ∧ Has w' Try.prog 70 3 w.heap.size l ∧ Below w.heap.size w w' := by
  obtain ⟨es, ho, hp⟩ := h
  have hlt := ho.lt
  obtain ⟨e0, clock, hb, F, hs, hD⟩ := ho
  have hq := fun w => run_eql_map_nil_sl (P := Try.prog) w 58 _ _ (some b) Try.underlying58
  have HF := Aside0.mk F
  have HS := Aside0.mk hs
  have HD := Aside0.mk hD
  have HP := Aside0.mk hp
  clear F hs hD hp
  go_enter Try.func36, Try.ntmps36
  go_wp2
  rw [run_callFunc_extern Try.func38 (by kernel_rfl) (by kernel_rfl) (by kernel_rfl) (e := Extern.MapsClone.clone) (by kernel_rfl), run_maps_clone_sl w 58 hb]
  simp only [Result.andThen]
  rw [Oper.upon_value]
  go_wp2
  rw [run_typeAssert_map_sl _ 58 20 _ _ _ Try.underlying58]
  simp only [Result.andThen]
  rw [Oper.upon_value]
  go_wp2
  go_ret
  exact ⟨rfl, ⟨es, ⟨e0, clock, (MapKept.heap_alloc w _).1, HF.out, HS.out, HD.out⟩, HP.out⟩, (Below.refl _ w).alloc (Nat.le_refl _) _⟩
end Go.Proofs.Ytbjpfgmmmdfbeaa.Quo

namespace Go.Proofs.Ytbjpfgmmmdfbeaa.Q
open Go.RowKit Go.Proofs.YtbjpfgmmmdfbeaaW.PrintWords Go.Proofs.YtbjpfgmmmdfbeaaW.PrintLast Go.Proofs.YtbjpfgmmmdfbeaaW.PrintMore
attribute [local go_sem] max2_int min2_int max_two min_two max_three min_three max_four min_four   -- for this text's walks alone
set_option linter.unusedVariables false
set_option linter.unusedSimpArgs false
/-! ### item_named: function 34 -/
def item_named.f (a0 : ByteArray) : Option (Bool) := if a0.toList = ([] : List UInt8) then (some false) else (some (decide ((a0.size : Int) ≤ 16)))
set_option maxHeartbeats 8000000 in
set_option maxRecDepth 100000 in
theorem item_named.calls (a0 : ByteArray) (r : Bool) (w : World) (h : item_named.f a0 = some r) :
    Calls Try.prog 34 #[.string a0] w fun e w' => e = .returned (.bool r) ∧ Drawn0 w w' := by
  have H : (if a0.toList = ([] : List UInt8) then (some false) else (some (decide ((a0.size : Int) ≤ 16)))) = some r := h
  clear h
  by_cases c2 : a0.toList = ([] : List UInt8)
  rotate_left
  · rw [if_neg c2] at H
    have c2b0 : (a0.toList == ([] : List UInt8)) = false := beq_eq_false_iff_ne.mpr c2
    have c2b1 : (a0.toList != ([] : List UInt8)) = true := bne_iff_ne.mpr c2
    obtain rfl := Option.some.inj H
    go_enter Try.func34, Try.ntmps34
    go_wp2
    go_ret
    exact ⟨by first | rfl | (simp; done) | (simp [*]; done), by repeat (first | exact Drawn0.refl _ | apply Drawn0.step)⟩
  rw [if_pos c2] at H
  have c2b0 : (a0.toList == ([] : List UInt8)) = true := beq_iff_eq.mpr c2
  have c2b1 : (a0.toList != ([] : List UInt8)) = false := bne_eq_false_iff_eq.mpr c2
  clear c2
  obtain rfl := Option.some.inj H
  go_enter Try.func34, Try.ntmps34
  go_wp2
  go_ret
  exact ⟨by first | rfl | (simp; done) | (simp [*]; done), by repeat (first | exact Drawn0.refl _ | apply Drawn0.step)⟩
/-! ### item_Right: function 23 -/
def item_Right.f (a0_0 : ByteArray) (a0_1 : ByteArray) (a0_2 : ByteArray) (a0_3 : Bool) : Option (Bool) := (item_named.f a0_0).bind fun t102 => (if t102 = true then ((item_named.f a0_1).bind fun t103 => (if t103 = true then (if (a0_2.size : Int) ≤ 32 then (if a0_2.toList = ([] : List UInt8) then (some true) else (some (!a0_3))) else (some false)) else (some false))) else (some false))
set_option maxHeartbeats 8000000 in
set_option maxRecDepth 100000 in
theorem item_Right.calls (a0_0 : ByteArray) (a0_1 : ByteArray) (a0_2 : ByteArray) (a0_3 : Bool) (r : Bool) (w : World) (h : item_Right.f a0_0 a0_1 a0_2 a0_3 = some r) :
    Calls Try.prog 23 #[.agg #[.string a0_0, .string a0_1, .string a0_2, .bool a0_3]] w fun e w' => e = .returned (.bool r) ∧ Below w.heap.size w w' := by
  have hu45 := Try.underlying45
  have HB := Aside0.mk (Below.refl w.heap.size w)
  have H : ((item_named.f a0_0).bind fun t102 => (if t102 = true then ((item_named.f a0_1).bind fun t103 => (if t103 = true then (if (a0_2.size : Int) ≤ 32 then (if a0_2.toList = ([] : List UInt8) then (some true) else (some (!a0_3))) else (some false)) else (some false))) else (some false))) = some r := h
  clear h
  replace H := Option.bind_eq_some_iff.mp H
  obtain ⟨t102, A20, H⟩ := H
  replace H : (if t102 = true then ((item_named.f a0_1).bind fun t103 => (if t103 = true then (if (a0_2.size : Int) ≤ 32 then (if a0_2.toList = ([] : List UInt8) then (some true) else (some (!a0_3))) else (some false)) else (some false))) else (some false)) = some r := H
  have A2 := Aside0.mk A20
  clear A20
  by_cases c3 : t102 = true
  rotate_left
  · replace c3 := Bool.eq_false_iff.mpr c3
    subst c3
    have H1 : (some false) = some r := by rw [if_neg (show ¬ (false = true) by decide)] at H; exact H
    clear H
    have H := H1
    clear H1
    obtain rfl := Option.some.inj H
    go_enter Try.func23, Try.ntmps23
    go_wp2_with (first | ((with_reducible refine gate_dst (N := 1) rfl ?_); refine box_event ?hg (N := 1) ?hd (cs := #[.string a0_0, .string a0_1, .string a0_2, .bool a0_3]) (t := 45) ?hr ?_; (case hd => rfl); (case hg => rfl); (case hr => first | (go_simp; done) | (go_simp; rfl)); intro gb101 hg w16 hbox hb; have BK101 := Aside0.mk (hbox); have GW101 := Kw_ HB hg; have GE101 := GW101; replace HB := Ks_ HB hb; clear hb hbox hg; obtain ⟨hcz17_0, hcz17_1, hcz17_2, hcz17_3, hfz17_0, hfz17_1, hfz17_2, hfz17_3⟩ := Ke4_ BK101.out) | ((with_reducible refine gate_callee (f := 34) rfl ?_); refine Kg_ (some 5) rfl rfl Try.func34 (by kernel_rfl) rfl #[.string a0_0] rfl ?_; (with_reducible refine (item_named.calls a0_0 false _ A2.out).mono ?_); rintro e w' ⟨rfl, ⟨nd, rfl⟩⟩; refine ⟨_, rfl, ?_⟩))
    go_ret
    exact ⟨Kh_, Kz_ HB GE101⟩
  subst c3
  have H1 : ((item_named.f a0_1).bind fun t103 => (if t103 = true then (if (a0_2.size : Int) ≤ 32 then (if a0_2.toList = ([] : List UInt8) then (some true) else (some (!a0_3))) else (some false)) else (some false))) = some r := by rw [if_pos rfl] at H; exact H
  clear H
  have H := H1
  clear H1
  replace H := Option.bind_eq_some_iff.mp H
  obtain ⟨t103, A40, H⟩ := H
  replace H : (if t103 = true then (if (a0_2.size : Int) ≤ 32 then (if a0_2.toList = ([] : List UInt8) then (some true) else (some (!a0_3))) else (some false)) else (some false)) = some r := H
  have A4 := Aside0.mk A40
  clear A40
  by_cases c5 : t103 = true
  rotate_left
  · replace c5 := Bool.eq_false_iff.mpr c5
    subst c5
    have H1 : (some false) = some r := by rw [if_neg (show ¬ (false = true) by decide)] at H; exact H
    clear H
    have H := H1
    clear H1
    obtain rfl := Option.some.inj H
    go_enter Try.func23, Try.ntmps23
    go_wp2_with (first | ((with_reducible refine gate_dst (N := 1) rfl ?_); refine box_event ?hg (N := 1) ?hd (cs := #[.string a0_0, .string a0_1, .string a0_2, .bool a0_3]) (t := 45) ?hr ?_; (case hd => rfl); (case hg => rfl); (case hr => first | (go_simp; done) | (go_simp; rfl)); intro gb101 hg w14 hbox hb; have BK101 := Aside0.mk (hbox); have GW101 := Kw_ HB hg; have GE101 := GW101; replace HB := Ks_ HB hb; clear hb hbox hg; obtain ⟨hcz15_0, hcz15_1, hcz15_2, hcz15_3, hfz15_0, hfz15_1, hfz15_2, hfz15_3⟩ := Ke4_ BK101.out) | ((with_reducible refine gate_callee (f := 34) rfl ?_); refine Kg_ (some 5) rfl rfl Try.func34 (by kernel_rfl) rfl #[.string a0_0] rfl ?_; (with_reducible refine (item_named.calls a0_0 true _ A2.out).mono ?_); rintro e w' ⟨rfl, ⟨nd, rfl⟩⟩; refine ⟨_, rfl, ?_⟩) | (go_at_call 34; (with_reducible refine (item_named.calls a0_1 false _ A4.out).mono ?_); rintro e w' ⟨rfl, ⟨nd, rfl⟩⟩))
    go_ret
    exact ⟨Kh_, Kz_ HB GE101⟩
  subst c5
  have H1 : (if (a0_2.size : Int) ≤ 32 then (if a0_2.toList = ([] : List UInt8) then (some true) else (some (!a0_3))) else (some false)) = some r := by rw [if_pos rfl] at H; exact H
  clear H
  have H := H1
  clear H1
  by_cases c6 : (a0_2.size : Int) ≤ 32
  rotate_left
  · rw [if_neg c6] at H
    have c6b0 : decide ((a0_2.size : Int) ≤ 32) = false := decide_eq_false c6
    have c6b1 : decide (a0_2.size ≤ 32) = false := decide_eq_false (by omega)
    clear c6
    obtain rfl := Option.some.inj H
    go_enter Try.func23, Try.ntmps23
    go_wp2_with (first | ((with_reducible refine gate_dst (N := 1) rfl ?_); refine box_event ?hg (N := 1) ?hd (cs := #[.string a0_0, .string a0_1, .string a0_2, .bool a0_3]) (t := 45) ?hr ?_; (case hd => rfl); (case hg => rfl); (case hr => first | (go_simp; done) | (go_simp; rfl)); intro gb101 hg w12 hbox hb; have BK101 := Aside0.mk (hbox); have GW101 := Kw_ HB hg; have GE101 := GW101; replace HB := Ks_ HB hb; clear hb hbox hg; obtain ⟨hcz13_0, hcz13_1, hcz13_2, hcz13_3, hfz13_0, hfz13_1, hfz13_2, hfz13_3⟩ := Ke4_ BK101.out) | ((with_reducible refine gate_callee (f := 34) rfl ?_); refine Kg_ (some 5) rfl rfl Try.func34 (by kernel_rfl) rfl #[.string a0_0] rfl ?_; (with_reducible refine (item_named.calls a0_0 true _ A2.out).mono ?_); rintro e w' ⟨rfl, ⟨nd, rfl⟩⟩; refine ⟨_, rfl, ?_⟩) | (go_at_call 34; (with_reducible refine (item_named.calls a0_1 true _ A4.out).mono ?_); rintro e w' ⟨rfl, ⟨nd, rfl⟩⟩))
    go_ret
    exact ⟨Kh_, Kz_ HB GE101⟩
  rw [if_pos c6] at H
  have c6b0 : decide ((a0_2.size : Int) ≤ 32) = true := decide_eq_true c6
  have c6b1 : decide (a0_2.size ≤ 32) = true := decide_eq_true (by omega)
  clear c6
  by_cases c7 : a0_2.toList = ([] : List UInt8)
  rotate_left
  · rw [if_neg c7] at H
    have c7b0 : (a0_2.toList == ([] : List UInt8)) = false := beq_eq_false_iff_ne.mpr c7
    have c7b1 : (a0_2.toList != ([] : List UInt8)) = true := bne_iff_ne.mpr c7
    obtain rfl := Option.some.inj H
    go_enter Try.func23, Try.ntmps23
    go_wp2_with (first | ((with_reducible refine gate_dst (N := 1) rfl ?_); refine box_event ?hg (N := 1) ?hd (cs := #[.string a0_0, .string a0_1, .string a0_2, .bool a0_3]) (t := 45) ?hr ?_; (case hd => rfl); (case hg => rfl); (case hr => first | (go_simp; done) | (go_simp; rfl)); intro gb101 hg w10 hbox hb; have BK101 := Aside0.mk (hbox); have GW101 := Kw_ HB hg; have GE101 := GW101; replace HB := Ks_ HB hb; clear hb hbox hg; obtain ⟨hcz11_0, hcz11_1, hcz11_2, hcz11_3, hfz11_0, hfz11_1, hfz11_2, hfz11_3⟩ := Ke4_ BK101.out) | ((with_reducible refine gate_callee (f := 34) rfl ?_); refine Kg_ (some 5) rfl rfl Try.func34 (by kernel_rfl) rfl #[.string a0_0] rfl ?_; (with_reducible refine (item_named.calls a0_0 true _ A2.out).mono ?_); rintro e w' ⟨rfl, ⟨nd, rfl⟩⟩; refine ⟨_, rfl, ?_⟩) | (go_at_call 34; (with_reducible refine (item_named.calls a0_1 true _ A4.out).mono ?_); rintro e w' ⟨rfl, ⟨nd, rfl⟩⟩))
    go_ret
    exact ⟨Kh_, Kz_ HB GE101⟩
  rw [if_pos c7] at H
  have c7b0 : (a0_2.toList == ([] : List UInt8)) = true := beq_iff_eq.mpr c7
  have c7b1 : (a0_2.toList != ([] : List UInt8)) = false := bne_eq_false_iff_eq.mpr c7
  clear c7
  obtain rfl := Option.some.inj H
  go_enter Try.func23, Try.ntmps23
  go_wp2_with (first | ((with_reducible refine gate_dst (N := 1) rfl ?_); refine box_event ?hg (N := 1) ?hd (cs := #[.string a0_0, .string a0_1, .string a0_2, .bool a0_3]) (t := 45) ?hr ?_; (case hd => rfl); (case hg => rfl); (case hr => first | (go_simp; done) | (go_simp; rfl)); intro gb101 hg w8 hbox hb; have BK101 := Aside0.mk (hbox); have GW101 := Kw_ HB hg; have GE101 := GW101; replace HB := Ks_ HB hb; clear hb hbox hg; obtain ⟨hcz9_0, hcz9_1, hcz9_2, hcz9_3, hfz9_0, hfz9_1, hfz9_2, hfz9_3⟩ := Ke4_ BK101.out) | ((with_reducible refine gate_callee (f := 34) rfl ?_); refine Kg_ (some 5) rfl rfl Try.func34 (by kernel_rfl) rfl #[.string a0_0] rfl ?_; (with_reducible refine (item_named.calls a0_0 true _ A2.out).mono ?_); rintro e w' ⟨rfl, ⟨nd, rfl⟩⟩; refine ⟨_, rfl, ?_⟩) | (go_at_call 34; (with_reducible refine (item_named.calls a0_1 true _ A4.out).mono ?_); rintro e w' ⟨rfl, ⟨nd, rfl⟩⟩))
  go_ret
  exact ⟨Kh_, Kz_ HB GE101⟩
/-! ### item_Size: function 24 -/
def item_Size.f (a0_0 : ByteArray) (a0_1 : ByteArray) (a0_2 : ByteArray) (a0_3 : Bool) : Option (Int) := if a0_3 = true then (some 0) else (some (wrap64 ((wrap64 ((a0_0.size : Int) + (a0_1.size : Int))) + (a0_2.size : Int))))
set_option maxHeartbeats 8000000 in
set_option maxRecDepth 100000 in
theorem item_Size.calls (a0_0 : ByteArray) (a0_1 : ByteArray) (a0_2 : ByteArray) (a0_3 : Bool) (r : Int) (w : World) (h : item_Size.f a0_0 a0_1 a0_2 a0_3 = some r) :
    Calls Try.prog 24 #[.agg #[.string a0_0, .string a0_1, .string a0_2, .bool a0_3]] w fun e w' => e = .returned (.int .i64 r) ∧ Below w.heap.size w w' := by
  have hu45 := Try.underlying45
  have HB := Aside0.mk (Below.refl w.heap.size w)
  have H : (if a0_3 = true then (some 0) else (some (wrap64 ((wrap64 ((a0_0.size : Int) + (a0_1.size : Int))) + (a0_2.size : Int))))) = some r := h
  clear h
  by_cases c2 : a0_3 = true
  · subst c2
    have H1 : (some 0) = some r := by rw [if_pos rfl] at H; exact H
    clear H
    have H := H1
    clear H1
    obtain rfl := Option.some.inj H
    go_enter Try.func24, Try.ntmps24
    go_wp2_with (first | ((with_reducible refine gate_dst (N := 1) rfl ?_); refine box_event ?hg (N := 1) ?hd (cs := #[.string a0_0, .string a0_1, .string a0_2, .bool true]) (t := 45) ?hr ?_; (case hd => rfl); (case hg => rfl); (case hr => first | (go_simp; done) | (go_simp; rfl)); intro gb104 hg w3 hbox hb; have BK104 := Aside0.mk (hbox); have GW104 := Kw_ HB hg; have GE104 := GW104; replace HB := Ks_ HB hb; clear hb hbox hg; obtain ⟨hcz4_0, hcz4_1, hcz4_2, hcz4_3, hfz4_0, hfz4_1, hfz4_2, hfz4_3⟩ := Ke4_ BK104.out))
    go_ret
    exact ⟨Kh_, Kz_ HB GE104⟩
  replace c2 := Bool.eq_false_iff.mpr c2
  subst c2
  have H1 : (some (wrap64 ((wrap64 ((a0_0.size : Int) + (a0_1.size : Int))) + (a0_2.size : Int)))) = some r := by rw [if_neg (show ¬ (false = true) by decide)] at H; exact H
  clear H
  have H := H1
  clear H1
  obtain rfl := Option.some.inj H
  go_enter Try.func24, Try.ntmps24
  go_wp2_with (first | ((with_reducible refine gate_dst (N := 1) rfl ?_); refine box_event ?hg (N := 1) ?hd (cs := #[.string a0_0, .string a0_1, .string a0_2, .bool false]) (t := 45) ?hr ?_; (case hd => rfl); (case hg => rfl); (case hr => first | (go_simp; done) | (go_simp; rfl)); intro gb104 hg w5 hbox hb; have BK104 := Aside0.mk (hbox); have GW104 := Kw_ HB hg; have GE104 := GW104; replace HB := Ks_ HB hb; clear hb hbox hg; obtain ⟨hcz6_0, hcz6_1, hcz6_2, hcz6_3, hfz6_0, hfz6_1, hfz6_2, hfz6_3⟩ := Ke4_ BK104.out))
  go_ret
  exact ⟨Kh_, Kz_ HB GE104⟩
end Go.Proofs.Ytbjpfgmmmdfbeaa.Q

/- Texts as lists of bytes; wraps that do nothing. -/
set_option linter.unusedVariables false
set_option linter.unusedSimpArgs false
namespace Go.Proofs.Ytbjpfgmmmdfbeaa.Pure
open Go.RowKit Go.Proofs.YtbjpfgmmmdfbeaaW.PrintWords Go.Proofs.YtbjpfgmmmdfbeaaW.PrintLast Go.Proofs.YtbjpfgmmmdfbeaaW.PrintMore

/-! ### texts as lists of bytes -/
def bl (s : ByteArray) : List Nat := s.data.toList.map UInt8.toNat
theorem bl_length (s : ByteArray) : (bl s).length = s.size := by unfold bl; rw [List.length_map, Array.length_toList]; rfl
theorem bl_lt (s : ByteArray) : ∀ b ∈ bl s, b < 256 := by
  intro b hb
  obtain ⟨u, _, rfl⟩ := List.mem_map.1 hb
  exact u.toNat_lt
theorem map_toNat_inj : ∀ {l m : List UInt8}, l.map UInt8.toNat = m.map UInt8.toNat → l = m
  | [], [], _ => rfl
  | [], _ :: _, h => by simp at h
  | _ :: _, [], h => by simp at h
  | a :: l, b :: m, h => by
    simp only [List.map_cons, List.cons.injEq] at h
    rw [UInt8.toNat_inj.1 h.1, map_toNat_inj h.2]
theorem ba_ext {s t : ByteArray} (h : s.data.toList = t.data.toList) : s = t := by
  cases s; cases t
  simp only [ByteArray.mk.injEq]
  exact Array.toList_inj.1 h
theorem bl_inj {s t : ByteArray} (h : bl s = bl t) : s = t := ba_ext (map_toNat_inj h)
theorem bl_append (s t : ByteArray) : bl (s ++ t) = bl s ++ bl t := by
  unfold bl; rw [← List.map_append, ByteArray.data_append]; simp
theorem bl_extract (s : ByteArray) (a b : Nat) : bl (s.extract a b) = ((bl s).take b).drop a := by
  unfold bl
  rw [← List.map_take, ← List.map_drop]
  congr 1
  simp [ByteArray.data_extract, Array.toList_extract, List.extract_eq_take_drop, List.drop_take]
theorem bl_take (s : ByteArray) (n : Nat) : bl (s.extract 0 n) = (bl s).take n := by rw [bl_extract, List.drop_zero]
theorem bl_drop (s : ByteArray) (n : Nat) : bl (s.extract n s.size) = (bl s).drop n := by rw [bl_extract, ← bl_length, List.take_length]
theorem toList_data (s : ByteArray) : s.toList = s.data.toList := by
  exact ByteArray.toList_eq s
theorem toList_iff {s t : ByteArray} : s.toList = t.toList ↔ s = t := by
  rw [toList_data, toList_data]; exact ⟨ba_ext, fun h => by rw [h]⟩
def NL (l : List Nat) : List Int := l.map fun n : Nat => (n : Int)
theorem bl_str (l : List Nat) (h : ∀ b ∈ l, b < 256) : bl (strOfNums (NL l)) = l := by
  unfold bl strOfNums NL
  simp only [List.map_map]
  conv => rhs; rw [← List.map_id l]
  apply List.map_congr_left
  intro b hb
  have := h b hb
  simp [UInt8.toNat_ofNat_of_lt', this]
theorem bl_empty : bl (⟨#[]⟩ : ByteArray) = [] := rfl
theorem bl_nil {s : ByteArray} : bl s = [] ↔ s = ⟨#[]⟩ := ⟨fun h => bl_inj (by rw [h]; rfl), fun h => by rw [h]; rfl⟩
theorem bt_bl (s : ByteArray) (i : Nat) (h : i < s.size) : ∃ b, (bl s)[i]? = some b ∧ bt s i = (b : Int) ∧ b < 256 := by
  have hl : i < (bl s).length := by rw [bl_length]; exact h
  refine ⟨(bl s)[i], List.getElem?_eq_getElem hl, ?_, bl_lt s _ (List.getElem_mem hl)⟩
  unfold bt
  rw [dif_pos (by simpa using h)]
  simp [bl, ByteArray.getElem_eq_getElem_data]
theorem wrap_u64 {x : Int} (h0 : 0 ≤ x) (h1 : x < 18446744073709551616) : IntKind.u64.wrap x = x := by
  simp only [IntKind.wrap_u64]; omega
theorem wrap64_id {x : Int} (h0 : -9223372036854775808 ≤ x) (h1 : x ≤ 9223372036854775807) : wrap64 x = x := by
  unfold wrap64; omega
end Go.Proofs.Ytbjpfgmmmdfbeaa.Pure

/- What a Quota's functions do: the sizes behind some writes, their sum, whether it fits, what is taken. -/
set_option linter.unusedVariables false
set_option linter.unusedSimpArgs false
namespace Go.Proofs.Ytbjpfgmmmdfbeaa.Quo
open Go Go.RowKit Go.WideShapes Go.Proofs.Ytbjpfgmmmdfbeaa.Q Go.Proofs.YtbjpfgmmmdfbeaaW.PrintWords Go.Proofs.YtbjpfgmmmdfbeaaW.PrintLast Go.Proofs.YtbjpfgmmmdfbeaaW.PrintMore
open Go.Maps (Keyed)
open Go.Proofs.Ytbjpfgmmmdfbeaa.Pure (wrap64_id toList_data toList_iff)
abbrev Wr := S45
def kl (a b : ByteArray) : Lit := .string (keyBytes [.string a.data.toList, .string b.data.toList])
theorem kl_of (a b : ByteArray) (h0 : a.size ≤ 9223372036854775807) (h1 : b.size ≤ 9223372036854775807) : keyOf Try.prog 70 (.agg #[.string a, .string b]) = some (kl a b) := by
  have hu := Try.underlying70
  have hs := Try.underlying9
  have hk : Try.prog.keyType 70 = true := by kernel_rfl
  have hf : (Value.agg #[.string a, .string b]).formed Try.prog 70 = true := by
    have hc : Try.prog.cellsOf 70 = 2 := by kernel_rfl
    simp [Value.formed, hu, hc]
  have hc : Try.prog.cellsOf 70 = 2 := by kernel_rfl
  have hc9 : Try.prog.cellsOf 9 = 1 := by kernel_rfl
  have hn : ∃ n, Try.prog.types.size + 1 = n + 2 := ⟨Try.prog.types.size - 1, by have : 1 ≤ Try.prog.types.size := of_decide_eq_true (by kernel_rfl); omega⟩
  obtain ⟨n, hn⟩ := hn
  have m0 : a.size ≤ maxLen := by unfold maxLen; omega
  have m1 : b.size ≤ maxLen := by unfold maxLen; omega
  unfold keyOf
  rw [hu]
  simp only [hk, hf, Bool.and_self, if_true, hn]
  have k1 : ∀ s : ByteArray, s.size ≤ maxLen → Try.prog.keyLits (n + 1) 9 [.string s] = some [.string s.data.toList] := by
    intro s m
    unfold Program.keyLits
    simp only [hs]
    rw [if_pos m]
  unfold Program.keyLits
  simp only [hu]
  rw [if_pos ⟨by rw [hc]; rfl, by first | rfl | decide +kernel⟩]
  have e0 := k1 _ m0
  have e1 := k1 _ m1
  clear hu hs hk hf hc
  simp [hc9, Value.cells, e0, e1, kl]
theorem kl_inj {a b c d : ByteArray} (h0 : a.size ≤ 9223372036854775807) (h1 : b.size ≤ 9223372036854775807) (h2 : c.size ≤ 9223372036854775807) (h3 : d.size ≤ 9223372036854775807) (h : kl a b = kl c d) : a = c ∧ b = d := by
  have e := keyed_at.inj (kl_of a b h0 h1) (h ▸ kl_of c d h2 h3)
  simpa using e
def rightW (x : Wr) : Bool := (item_Right.f x.f0 x.f1 x.f2 x.f3).getD false
def szW (x : Wr) : Int := if x.f3 = true then 0 else (x.f0.size : Int) + (x.f1.size : Int) + (x.f2.size : Int)
theorem tl_nil {s : ByteArray} : s.toList = ([] : List UInt8) ↔ s.size = 0 := by
  rw [toList_data]
  constructor
  · intro h
    have := congrArg List.length h
    simpa using this
  · intro h
    have h2 : s.data.toList.length = 0 := by rw [Array.length_toList]; exact h
    exact List.eq_nil_of_length_eq_zero h2
theorem named_f (s : ByteArray) : item_named.f s = some (decide (1 ≤ s.size ∧ s.size ≤ 16)) := by
  unfold item_named.f
  by_cases c : s.size = 0
  · rw [if_pos (tl_nil.2 c), decide_eq_false (by omega)]
  · rw [if_neg (fun h => c (tl_nil.1 h))]
    by_cases d : s.size ≤ 16
    · rw [decide_eq_true (by omega), decide_eq_true (by omega)]
    · rw [decide_eq_false (by omega), decide_eq_false (by omega)]
theorem right_is (x : Wr) : item_Right.f x.f0 x.f1 x.f2 x.f3 = some (decide ((1 ≤ x.f0.size ∧ x.f0.size ≤ 16) ∧ (1 ≤ x.f1.size ∧ x.f1.size ≤ 16) ∧ x.f2.size ≤ 32 ∧ (x.f2.size = 0 ∨ x.f3 = false))) := by
  unfold item_Right.f
  rw [named_f, named_f, Option.bind_some, Option.bind_some]
  by_cases c0 : 1 ≤ x.f0.size ∧ x.f0.size ≤ 16
  · rw [decide_eq_true c0, if_pos rfl]
    by_cases c1 : 1 ≤ x.f1.size ∧ x.f1.size ≤ 16
    · rw [decide_eq_true c1, if_pos rfl]
      by_cases c2 : x.f2.size ≤ 32
      · rw [if_pos (by omega)]
        by_cases c3 : x.f2.size = 0
        · rw [if_pos (tl_nil.2 c3), decide_eq_true ⟨c0, c1, c2, Or.inl c3⟩]
        · rw [if_neg (fun h => c3 (tl_nil.1 h))]
          cases hx : x.f3 with
          | true => rw [decide_eq_false (fun h => by rcases h.2.2.2 with h | h; exact c3 h; cases h)]; rfl
          | false => rw [decide_eq_true ⟨c0, c1, c2, Or.inr rfl⟩]; rfl
      · rw [if_neg (by omega), decide_eq_false (fun h => c2 h.2.2.1)]
    · rw [decide_eq_false c1, if_neg (by simp), decide_eq_false (fun h => c1 h.2.1)]
  · rw [decide_eq_false c0, if_neg (by simp), decide_eq_false (fun h => c0 h.1)]
theorem right_f (x : Wr) : item_Right.f x.f0 x.f1 x.f2 x.f3 = some (rightW x) := by
  unfold rightW
  rw [right_is]
  rfl
theorem right_iff (x : Wr) : rightW x = true ↔ (1 ≤ x.f0.size ∧ x.f0.size ≤ 16) ∧ (1 ≤ x.f1.size ∧ x.f1.size ≤ 16) ∧ x.f2.size ≤ 32 ∧ (x.f2.size = 0 ∨ x.f3 = false) := by
  unfold rightW
  rw [right_is]
  exact decide_eq_true_iff
theorem size_f {x : Wr} (h : rightW x = true) : item_Size.f x.f0 x.f1 x.f2 x.f3 = some (szW x) ∧ 0 ≤ szW x ∧ szW x ≤ 64 ∧ (x.f3 = false → 0 < szW x) := by
  obtain ⟨⟨a0, a1⟩, ⟨b0, b1⟩, c1, d1⟩ := (right_iff x).1 h
  unfold item_Size.f szW
  cases x.f3 with
  | true => exact ⟨by rw [if_pos rfl, if_pos rfl], by simp, by simp, fun h => by cases h⟩
  | false =>
    rw [if_neg (by simp), if_neg (by simp), wrap64_id (x := (x.f0.size : Int) + (x.f1.size : Int)) (by omega) (by omega), wrap64_id (by omega) (by omega)]
    exact ⟨rfl, by omega, by omega, fun _ => by omega⟩
/-- A write taken. -/
def step (L : List En) (x : Wr) : List En := if rightW x = true then (if 0 < szW x then strike (kl x.f0 x.f1) (strike (kl x.f0 x.f1) L) ++ [(kl x.f0 x.f1, szW x)] else strike (kl x.f0 x.f1) L) else L
def taken (L : List En) (l : List Wr) : List En := l.foldl step L
theorem strike_length (k : Lit) (L : List En) : (strike k L).length ≤ L.length := List.length_filter_le _ _
theorem strike_strike (k : Lit) (L : List En) : strike k (strike k L) = strike k L := by
  unfold strike
  rw [List.filter_filter]
  exact List.filter_congr (fun p _ => by simp)
theorem step_length (L : List En) (x : Wr) : (step L x).length ≤ L.length + 1 := by
  have h1 := strike_length (kl x.f0 x.f1) L
  have h2 := strike_length (kl x.f0 x.f1) (strike (kl x.f0 x.f1) L)
  unfold step
  split
  · split
    · rw [List.length_append, List.length_singleton]; omega
    · omega
  · omega
theorem taken_length : ∀ (l : List Wr) (L : List En), (taken L l).length ≤ L.length + l.length
  | [], L => Nat.le_refl _
  | x :: r, L => by
    have h := taken_length r (step L x)
    have h1 := step_length L x
    rw [show taken L (x :: r) = taken (step L x) r from rfl, List.length_cons]
    omega
theorem taken_snoc (L : List En) (l : List Wr) (x : Wr) : taken L (l ++ [x]) = step (taken L l) x := by simp [taken, List.foldl_append]
def St (w : World) (g b : Nat) (lim : Int) (L : List En) : Prop :=
  w.heap[g]? = some (.cells #[.int .i64 lim, .map (some b)] 60 (0, 0)) ∧ Has w Try.prog 70 3 b L
theorem St.below {w w' : World} {g b : Nat} {lim : Int} {L : List En} (h : St w g b lim L) (hb : Below w.heap.size w w') : St w' g b lim L := ⟨blk_below h.1 hb, h.2.below hb⟩
theorem St.kept {w w' : World} {g b : Nat} {lim : Int} {L : List En} {row : Option Nat} (h : St w g b lim L) (hg : w.grownBy w' row) (h1 : some g ≠ row) (h2 : some b ≠ row) : St w' g b lim L := ⟨(hg.block g (blk_lt h.1) h1).trans h.1, h.2.kept hg h2⟩
set_option maxHeartbeats 8000000 in
set_option maxRecDepth 100000 in
theorem used_c (g b : Nat) (lim : Int) (L : List En) (w : World) (h : St w g b lim L) :
    Calls Try.prog 18 #[.pointer (some ⟨g, 0, none⟩)] w fun e w' => e = .returned (.int .i64 (wrap64 (total L))) ∧ Below w.heap.size w w' := by
  have HO := Aside0.mk h.2
  obtain ⟨k0, k1, z0, z1⟩ := Ke2_ h.1
  clear h
  go_enter Try.func18, Try.ntmps18
  go_wp2_with (go_at_call 31; refine (tally_at b L _ HO.out).mono ?_; rintro e w1 ⟨rfl, hb⟩; have HB := Aside0.mk hb; clear hb)
  go_ret
  exact ⟨rfl, HB.out⟩
set_option maxHeartbeats 8000000 in
set_option maxRecDepth 100000 in
theorem keys_c (g b : Nat) (lim : Int) (L : List En) (w : World) (h : St w g b lim L) :
    Calls Try.prog 20 #[.pointer (some ⟨g, 0, none⟩)] w fun e w' => e = .returned (.int .i64 L.length) ∧ Below w.heap.size w w' := by
  have HO := Aside0.mk h.2
  obtain ⟨k0, k1, z0, z1⟩ := Ke2_ h.1
  clear h
  go_enter Try.func20, Try.ntmps20
  go_wp2_with (at_len; refine wp_len _ rfl _ 58 rfl 70 3 Try.underlying58 b L rfl HO.out ?_)
  go_ret
  exact ⟨rfl, Below.refl _ _⟩
set_option maxHeartbeats 8000000 in
set_option maxRecDepth 100000 in
theorem limit_c (g b : Nat) (lim : Int) (L : List En) (w : World) (h : St w g b lim L) :
    Calls Try.prog 22 #[.pointer (some ⟨g, 0, none⟩)] w fun e w' => e = .returned (.int .i64 lim) ∧ Below w.heap.size w w' := by
  obtain ⟨k0, k1, z0, z1⟩ := Ke2_ h.1
  clear h
  go_enter Try.func22, Try.ntmps22
  go_wp2
  go_ret
  exact ⟨rfl, Below.refl _ _⟩
set_option maxHeartbeats 8000000 in
set_option maxRecDepth 100000 in
theorem new_c (lim : Int) (w : World) (h0 : 0 ≤ lim) (h1 : lim ≤ 1073741824) :
    Calls Try.prog 9 #[.int .i64 lim] w fun e w' => ∃ g b, e = .returned (.tuple #[.pointer (some ⟨g, 0, none⟩), .int .i64 0]) ∧ w.heap.size ≤ g ∧ w.heap.size ≤ b ∧ g ≠ b ∧ St w' g b lim [] ∧ Below w.heap.size w w' := by
  have q0 : decide (lim < 0) = false := decide_eq_false (by omega)
  have q1 : decide (1073741824 < lim) = false := decide_eq_false (by omega)
  have hmm := @run_makeMap Try.prog
  go_enter Try.func9, Try.ntmps9
  go_wp2
  go_ret2
  have s1 : (w.alloc (.map #[] 0)).heap.size = w.heap.size + 1 := by simp [World.alloc, -World.alloc_eq]
  refine ⟨w.heap.size + 1, w.heap.size, rfl, by omega, by omega, by omega, ⟨?_, (has_made w _ _ _).alloc _⟩, below_alloc (below_alloc (Below.refl _ _) _) _⟩
  have h := blk_new (w.alloc (.map #[] 0)) (.cells #[.int .i64 lim, .map (some w.heap.size)] 60)
  rw [s1] at h
  exact h
set_option maxHeartbeats 8000000 in
set_option maxRecDepth 100000 in
theorem new_bad (lim : Int) (w : World) (h : lim < 0 ∨ 1073741824 < lim) :
    Calls Try.prog 9 #[.int .i64 lim] w fun e w' => e = .returned (.tuple #[.pointer none, .int .i64 1]) ∧ Below w.heap.size w w' := by
  by_cases c : lim < 0
  · have q0 : decide (lim < 0) = true := decide_eq_true c
    go_enter Try.func9, Try.ntmps9
    go_wp2
    go_ret2
    exact ⟨rfl, Below.refl _ _⟩
  · have q0 : decide (lim < 0) = false := decide_eq_false c
    have q1 : decide (1073741824 < lim) = true := decide_eq_true (by omega)
    go_enter Try.func9, Try.ntmps9
    go_wp2
    go_ret2
    exact ⟨rfl, Below.refl _ _⟩
end Go.Proofs.Ytbjpfgmmmdfbeaa.Quo

/- What is behind some writes, how much that is, whether it fits, what is taken. -/
set_option linter.unusedVariables false
set_option linter.unusedSimpArgs false
namespace Go.Proofs.Ytbjpfgmmmdfbeaa.Quo
open Go Go.RowKit Go.WideShapes Go.Proofs.Ytbjpfgmmmdfbeaa.Q Go.Proofs.YtbjpfgmmmdfbeaaW.PrintWords Go.Proofs.YtbjpfgmmmdfbeaaW.PrintLast Go.Proofs.YtbjpfgmmmdfbeaaW.PrintMore
open Go.Maps (Keyed)
open Go.Proofs.Ytbjpfgmmmdfbeaa.Pure (wrap64_id toList_data toList_iff)
def small (l : List Wr) : Prop := ∀ x ∈ l, x.f0.size ≤ 9223372036854775807 ∧ x.f1.size ≤ 9223372036854775807
theorem wf_i64 {z : Int} (h0 : 0 ≤ z) (h1 : z ≤ 64) : (Lit.int .i64 z).wf = true := by
  have e1 : IntKind.i64.min = -9223372036854775808 := by decide
  have e2 : IntKind.i64.max = 9223372036854775807 := by decide
  simp only [Lit.wf, e1, e2, Bool.and_eq_true, decide_eq_true_eq]
  omega
theorem grown_set (W : World) (b j : Nat) (v : Value) : W.grownBy (W.setCell ⟨b, j, none⟩ v) (some b) :=
  ⟨rfl, rfl, rfl, by simp [World.setCell], fun i _ hi => Below.heap_setCell _ _ _ i (fun e => hi (by rw [e]))⟩
set_option maxHeartbeats 8000000 in
set_option maxRecDepth 100000 in
theorem behind_c (g b : Nat) (lim : Int) (L : List En) (A : Option Addr) (c : Nat) (l : List Wr) (w : World) (h : St w g b lim L) (hr : Kd.C k45 w A l.length l) (hc : l.length ≤ c) (hs : small l) (hn : L.length + l.length ≤ 1000000000) :
    Calls Try.prog 32 #[.pointer (some ⟨g, 0, none⟩), .slice A l.length c] w fun e w' => e = .returned (.map (some w.heap.size)) ∧ Has w' Try.prog 70 3 w.heap.size (taken L l) ∧ Below w.heap.size w w' := by
  have HO := Aside0.mk h.2
  have HR := Aside0.mk hr
  have HS := Aside0.mk hs
  obtain ⟨k0, k1, z0, z1⟩ := Ke2_ h.1
  clear h hr hs
  go_enter Try.func32, Try.ntmps32
  go_wp2_with (go_at_call 36; refine (clone_at b L _ HO.out).mono ?_; rintro e w1 ⟨rfl, hm, hb⟩; have HM := Aside0.mk hm; have HB := Aside0.mk hb; clear hm hb)
  clear k0 k1 z0 z1
  go_loopg [16] l.length (fun kq v16 wr => ∃ (j : Nat), v16 = .int .i64 j ∧ Aside0 (j ≤ l.length) ∧ Aside0 (l.length - j ≤ kq) ∧ Aside0 (Has wr Try.prog 70 3 w.heap.size (taken L (l.take j))) ∧ Aside0 (Below w.heap.size w wr))
  case atStart => exact ⟨0, rfl, ⟨by omega⟩, ⟨by omega⟩, HM, HB⟩
  case round =>
    obtain ⟨j, rfl, HJ, HK, HM, HB⟩ := hrel
    by_cases c1 : j < l.length
    rotate_left
    · have c1b : decide ((j : Int) < (l.length : Int)) = false := decide_eq_false (by omega)
      have e : l.take j = l := List.take_of_length_le (by omega)
      rw [e] at HM
      go_wp2
      go_ret
      exact ⟨rfl, HM.out, HB.out⟩
    · have c1b : decide ((j : Int) < (l.length : Int)) = true := decide_eq_true (by omega)
      have c0b : decide (0 ≤ (j : Int)) = true := decide_eq_true (by omega)
      have hx : l[j]? = .some (rd_T45 l j) := by
        unfold rd_T45
        rw [Int.toNat_natCast, List.getD_eq_getElem?_getD, List.getElem?_eq_getElem c1]
        rfl
      have hm : rd_T45 l j ∈ l := List.mem_of_getElem? hx
      have HZ := Aside0.mk (HS.out _ hm)
      obtain ⟨ad, e0, h0, h1, h2, h3⟩ := at_T45 HR.out (j : Int) (by omega) (by omega)
      cases e0
      replace h0 := (HB.out.cell (World.block_lt_of_cell? w _ h0)).trans h0
      replace h1 := (HB.out.cell (World.block_lt_of_cell? w _ h1)).trans h1
      replace h2 := (HB.out.cell (World.block_lt_of_cell? w _ h2)).trans h2
      replace h3 := (HB.out.cell (World.block_lt_of_cell? w _ h3)).trans h3
      have HX := Aside0.mk (show taken L (l.take (j + 1)) = step (taken L (l.take j)) (rd_T45 l j) by
        rw [List.take_add_one, hx]
        exact taken_snoc _ _ _)
      have HL := Aside0.mk (show (taken L (l.take j)).length < maxLen by
        have h1 := taken_length (l.take j) L
        rw [List.length_take] at h1
        unfold maxLen
        omega)
      have hle : w.heap.size < wr.heap.size := HM.out.lt
      clear hx hm
      generalize rd_T45 l j = x at *
      generalize taken L (l.take j) = T at *
      have HF := Aside0.mk (right_f x)
      have HG := Aside0.mk (fun h => size_f (x := x) h)
      have HKEY := Aside0.mk (kl_of x.f0 x.f1 HZ.out.1 HZ.out.2)
      obtain ⟨x0, x1, x2, x3⟩ := x
      simp only [Int.toNat_natCast] at h0 h1 h2 h3
      have HLE := Aside0.mk hle
      clear hle
      have HM1 := Aside0.mk (HM.out.alloc (Obj.cells #[.string x0, .string x1, .string x2, .bool x3] 45))
      have HB1 := Aside0.mk (below_alloc HB.out (Obj.cells #[.string x0, .string x1, .string x2, .bool x3] 45))
      have HK1 := Aside0.mk (blk_new wr (Obj.cells #[.string x0, .string x1, .string x2, .bool x3] 45))
      have HR9 : Aside0 (∃ rb, rb = rightW ⟨x0, x1, x2, x3⟩) := ⟨⟨_, rfl⟩⟩
      obtain ⟨rb, hrb⟩ := HR9.out
      have HRB := Aside0.mk hrb
      have HF1 := Aside0.mk (show item_Right.f x0 x1 x2 x3 = some rb from hrb ▸ HF.out)
      clear hrb HR9 HF HM HZ
      cases rb with
      | false =>
        go_wp2_with (first | (go_at_call 23; refine (item_Right.calls x0 x1 x2 x3 _ _ HF1.out).mono ?_; rintro e w1 ⟨rfl, hb⟩; have HM2 := Aside0.mk (HM1.out.below hb); have HB2 := Aside0.mk (below_step HB1.out hb); clear hb))
        go_roundg (l.length - (j + 1))
        case measure => have := HK.out; omega
        case rel => exact ⟨j + 1, by first | rfl | (rw [show ((j + 1 : Nat) : Int) = (j : Int) + 1 by omega]; rfl) | (rw [show ((j + 1 : Nat) : Int) = (j : Int) + 1 by omega]; congr 1; exact wrap64_id (by omega) (by omega)), ⟨by omega⟩, ⟨by omega⟩, ⟨by rw [HX.out, show step T ⟨x0, x1, x2, x3⟩ = T by unfold step; rw [← HRB.out]; rfl]; exact HM2.out⟩, HB2⟩
      | true =>
        obtain ⟨hf, hg0, hg1, hg2⟩ := HG.out HRB.out.symm
        have HSZ := Aside0.mk (show item_Size.f x0 x1 x2 x3 = some (szW ⟨x0, x1, x2, x3⟩) from hf)
        have HST := Aside0.mk (show step T ⟨x0, x1, x2, x3⟩ = if 0 < szW ⟨x0, x1, x2, x3⟩ then strike (kl x0 x1) (strike (kl x0 x1) T) ++ [(kl x0 x1, szW ⟨x0, x1, x2, x3⟩)] else strike (kl x0 x1) T by unfold step; rw [← HRB.out]; rfl)
        clear hf hg2 HG HRB
        generalize szW ⟨x0, x1, x2, x3⟩ = z at *
        by_cases hz : 0 < z
        · rw [if_pos hz] at HST
          have hzb : decide (0 < z) = true := decide_eq_true hz
          have HWF := Aside0.mk (wf_i64 hg0 hg1)
          clear hg0 hg1 hz
          go_wp2_with (first
            | (go_at_call 23; refine (item_Right.calls x0 x1 x2 x3 _ _ HF1.out).mono ?_; rintro e w1 ⟨rfl, hb⟩; have HM2 := Aside0.mk (HM1.out.below hb); have HB2 := Aside0.mk (below_step HB1.out hb); have HK2 := Aside0.mk (blk_below HK1.out hb); clear hb; obtain ⟨k0, k1, k2, k3, z0, z1, z2, z3⟩ := Ke4_ HK2.out)
            | (at_delete; refine wp_del _ rfl _ _ 58 70 rfl 3 keyed_at Try.underlying58 w.heap.size T rfl HM2.out _ (kl x0 x1) rfl HKEY.out ?_; intro w2 hm2 hg2; have HM3 := Aside0.mk hm2; have HB3 := Aside0.mk (below_grown HB2.out hg2 (Nat.le_refl _)); have HK3 := Aside0.mk ((hg2.block _ (blk_lt HK2.out) (by simp; have := HLE.out; omega)).trans HK2.out); clear hm2 hg2 k0 k1 k2 k3 z0 z1 z2 z3; obtain ⟨k0, k1, k2, k3, z0, z1, z2, z3⟩ := Ke4_ HK3.out)
            | (go_at_call 24; refine (item_Size.calls x0 x1 x2 x3 _ _ HSZ.out).mono ?_; rintro e w4 ⟨rfl, hb⟩; have HM4 := Aside0.mk (HM3.out.below hb); have HB4 := Aside0.mk (below_step HB3.out hb); have HK4 := Aside0.mk (blk_below HK3.out hb); clear hb k0 k1 k2 k3 z0 z1 z2 z3; obtain ⟨k0, k1, k2, k3, z0, z1, z2, z3⟩ := Ke4_ HK4.out)
            | (at_mapUpdate; refine wp_put _ rfl _ _ _ 58 rfl 70 3 keyed_at Try.underlying58 Try.underlying3 w.heap.size _ rfl HM4.out (Nat.lt_of_le_of_lt (strike_length _ _) HL.out) _ (kl x0 x1) rfl HKEY.out z rfl HWF.out ?_; intro w5 hm5 hg5; have HM5 := Aside0.mk hm5; have HB5 := Aside0.mk (below_grown HB4.out hg5 (Nat.le_refl _)); clear hm5 hg5))
          go_roundg (l.length - (j + 1))
          case measure => have := HK.out; omega
          case rel => exact ⟨j + 1, by first | rfl | (rw [show ((j + 1 : Nat) : Int) = (j : Int) + 1 by omega]; rfl) | (rw [show ((j + 1 : Nat) : Int) = (j : Int) + 1 by omega]; congr 1; exact wrap64_id (by omega) (by omega)), ⟨by omega⟩, ⟨by omega⟩, ⟨by rw [HX.out, HST.out]; exact HM5.out⟩, HB5⟩
        · rw [if_neg hz] at HST
          have hzb : decide (0 < z) = false := decide_eq_false hz
          clear hg0 hg1 hz
          go_wp2_with (first
            | (go_at_call 23; refine (item_Right.calls x0 x1 x2 x3 _ _ HF1.out).mono ?_; rintro e w1 ⟨rfl, hb⟩; have HM2 := Aside0.mk (HM1.out.below hb); have HB2 := Aside0.mk (below_step HB1.out hb); have HK2 := Aside0.mk (blk_below HK1.out hb); clear hb; obtain ⟨k0, k1, k2, k3, z0, z1, z2, z3⟩ := Ke4_ HK2.out)
            | (at_delete; refine wp_del _ rfl _ _ 58 70 rfl 3 keyed_at Try.underlying58 w.heap.size T rfl HM2.out _ (kl x0 x1) rfl HKEY.out ?_; intro w2 hm2 hg2; have HM3 := Aside0.mk hm2; have HB3 := Aside0.mk (below_grown HB2.out hg2 (Nat.le_refl _)); have HK3 := Aside0.mk ((hg2.block _ (blk_lt HK2.out) (by simp; have := HLE.out; omega)).trans HK2.out); clear hm2 hg2 k0 k1 k2 k3 z0 z1 z2 z3; obtain ⟨k0, k1, k2, k3, z0, z1, z2, z3⟩ := Ke4_ HK3.out)
            | (go_at_call 24; refine (item_Size.calls x0 x1 x2 x3 _ _ HSZ.out).mono ?_; rintro e w4 ⟨rfl, hb⟩; have HM4 := Aside0.mk (HM3.out.below hb); have HB4 := Aside0.mk (below_step HB3.out hb); clear hb k0 k1 k2 k3 z0 z1 z2 z3))
          go_roundg (l.length - (j + 1))
          case measure => have := HK.out; omega
          case rel => exact ⟨j + 1, by first | rfl | (rw [show ((j + 1 : Nat) : Int) = (j : Int) + 1 by omega]; rfl) | (rw [show ((j + 1 : Nat) : Int) = (j : Int) + 1 by omega]; congr 1; exact wrap64_id (by omega) (by omega)), ⟨by omega⟩, ⟨by omega⟩, ⟨by rw [HX.out, HST.out]; exact HM4.out⟩, HB4⟩
set_option maxHeartbeats 8000000 in
set_option maxRecDepth 100000 in
theorem after_c (g b : Nat) (lim : Int) (L : List En) (A : Option Addr) (c : Nat) (l : List Wr) (w : World) (h : St w g b lim L) (hr : Kd.C k45 w A l.length l) (hc : l.length ≤ c) (hs : small l) (hn : L.length + l.length ≤ 1000000000) :
    Calls Try.prog 14 #[.pointer (some ⟨g, 0, none⟩), .slice A l.length c] w fun e w' => e = .returned (.int .i64 (wrap64 (total (taken L l)))) ∧ Below w.heap.size w w' := by
  have HC := Aside0.mk (behind_c g b lim L A c l w h hr hc hs hn)
  clear h hr hs
  go_enter Try.func14, Try.ntmps14
  go_wp2_with (first
    | (go_at_call 32; refine HC.out.mono ?_; rintro e w1 ⟨rfl, hm, hb⟩; have HM := Aside0.mk hm; have HB := Aside0.mk hb; clear hm hb HC)
    | (go_at_call 31; refine (tally_at _ _ _ HM.out).mono ?_; rintro e w2 ⟨rfl, hb⟩; have HB2 := Aside0.mk (below_step HB.out hb); clear hb HM))
  go_ret
  exact ⟨rfl, HB2.out⟩
set_option maxHeartbeats 8000000 in
set_option maxRecDepth 100000 in
theorem fits_c (g b : Nat) (lim : Int) (L : List En) (A : Option Addr) (c : Nat) (l : List Wr) (w : World) (h : St w g b lim L) (hr : Kd.C k45 w A l.length l) (hc : l.length ≤ c) (hs : small l) (hn : L.length + l.length ≤ 1000000000) :
    Calls Try.prog 15 #[.pointer (some ⟨g, 0, none⟩), .slice A l.length c] w fun e w' => e = .returned (.bool (decide (wrap64 (total (taken L l)) ≤ lim))) ∧ Below w.heap.size w w' := by
  have HH := Aside0.mk h
  have HR := Aside0.mk hr
  have HS := Aside0.mk hs
  obtain ⟨k0, k1, z0, z1⟩ := Ke2_ h.1
  clear h hr hs
  go_enter Try.func15, Try.ntmps15
  go_wp2
  have HD := Aside0.mk (show Below w.heap.size w w.drew from below_drew1 (Below.refl _ _))
  go_region_held3 (fun w' => w'.cell? ⟨g, 0, none⟩ = some (.int .i64 lim)) (go_keep)
    (first | (go_at_call 14; refine (after_c g b lim L A c l _ (HH.out.below HD.out) (Kd.C_below HR.out HD.out) hc HS.out hn).mono ?_; rintro e w1 ⟨rfl, hb⟩; have HB := Aside0.mk (below_step HD.out hb); have k9 := (Kc2_ (HH.out.below HB.out).1).1; clear hb))
  all_goals go_wp2
  all_goals go_ret
  all_goals exact ⟨rfl, HB.out⟩
theorem grown_put {w w1 : World} {g j : Nat} (hb : Below w.heap.size w w1) (v : Value) : w.grownBy (w1.setCell ⟨g, j, none⟩ v) (some g) := by
  have h0 : w1.grownBy (w1.setCell ⟨g, j, none⟩ v) (some g) := grown_set w1 g j v
  exact ((grown_of_below hb).but (some g)).andThen h0 (fun j hj => Or.inr hj)
set_option maxHeartbeats 8000000 in
set_option maxRecDepth 100000 in
theorem take_c (g b : Nat) (lim : Int) (L : List En) (A : Option Addr) (c : Nat) (l : List Wr) (w : World) (h : St w g b lim L) (hr : Kd.C k45 w A l.length l) (hc : l.length ≤ c) (hs : small l) (hn : L.length + l.length ≤ 1000000000) :
    Calls Try.prog 16 #[.pointer (some ⟨g, 0, none⟩), .slice A l.length c] w fun e w' => e = .returned (.bool (decide (wrap64 (total (taken L l)) ≤ lim))) ∧
      (∃ b', St w' g b' lim (if wrap64 (total (taken L l)) ≤ lim then taken L l else L) ∧ (b' = b ∨ w.heap.size ≤ b')) ∧ w.grownBy w' (some g) := by
  have HH := Aside0.mk h
  have HR := Aside0.mk hr
  have HS := Aside0.mk hs
  clear h hr hs
  by_cases hf : wrap64 (total (taken L l)) ≤ lim
  · have hfb : decide (wrap64 (total (taken L l)) ≤ lim) = true := decide_eq_true hf
    rw [hfb, if_pos hf]
    go_enter Try.func16, Try.ntmps16
    go_wp2_with (first
      | (go_at_call 15; refine (fits_c g b lim L A c l _ HH.out HR.out hc HS.out hn).mono ?_; rintro e w1 ⟨rfl, hb⟩; rw [hfb]; have HB := Aside0.mk hb; clear hb)
      | (go_at_call 32; refine (behind_c g b lim L A c l _ (HH.out.below HB.out) (Kd.C_below HR.out HB.out) hc HS.out hn).mono ?_; rintro e w2 ⟨rfl, hm, hb⟩; have HM := Aside0.mk hm; have HB2 := Aside0.mk (below_step HB.out hb); have HG := Aside0.mk ((HH.out.below HB.out).below hb).1; clear hb hm; obtain ⟨k0, k1, z0, z1⟩ := Ke2_ HG.out))
    go_ret
    have hsz := HB.out.size
    have hlt := blk_lt HH.out.1
    exact ⟨rfl, ⟨_, ⟨blk_put HG.out 1 (.map (some w1.heap.size)) (cs' := #[.int .i64 lim, .map (some w1.heap.size)]) rfl, HM.out.setCell (a := ⟨g, 1, none⟩) (by simp; omega) _⟩, Or.inr hsz⟩, grown_put HB2.out _⟩
  · have hfb : decide (wrap64 (total (taken L l)) ≤ lim) = false := decide_eq_false hf
    rw [hfb, if_neg hf]
    go_enter Try.func16, Try.ntmps16
    go_wp2_with (first
      | (go_at_call 15; refine (fits_c g b lim L A c l _ HH.out HR.out hc HS.out hn).mono ?_; rintro e w1 ⟨rfl, hb⟩; rw [hfb]; have HB := Aside0.mk hb; clear hb))
    go_ret
    exact ⟨rfl, ⟨b, HH.out.below HB.out, Or.inl rfl⟩, (grown_of_below HB.out).but _⟩
end Go.Proofs.Ytbjpfgmmmdfbeaa.Quo

/- A Quota as it is held by a law; the chapter's examples. -/
set_option linter.unusedVariables false
set_option linter.unusedSimpArgs false
namespace Go.Proofs.Ytbjpfgmmmdfbeaa.Quo
open Go Go.RowKit Go.WideShapes Go.Proofs.Ytbjpfgmmmdfbeaa.Q Go.Proofs.YtbjpfgmmmdfbeaaW.PrintWords Go.Proofs.YtbjpfgmmmdfbeaaW.PrintLast Go.Proofs.YtbjpfgmmmdfbeaaW.PrintMore
open Go.Maps (Keyed)
open Go.Proofs.Ytbjpfgmmmdfbeaa.Pure (wrap64_id toList_data toList_iff)
/-- Block g is a Quota of this limit, and of these sizes. -/
def Sq (w : World) (g : Nat) (lim : Int) (L : List En) : Prop := ∃ b, St w g b lim L
theorem Sq.below {w w' : World} {g : Nat} {lim : Int} {L : List En} (h : Sq w g lim L) (hb : Below w.heap.size w w') : Sq w' g lim L := by
  obtain ⟨b, h⟩ := h
  exact ⟨b, h.below hb⟩
theorem Sq.alloc {w : World} {g : Nat} {lim : Int} {L : List En} (h : Sq w g lim L) (o : Obj) : Sq (w.alloc o) g lim L := h.below (below_alloc (Below.refl _ _) o)
theorem Sq.lt {w : World} {g : Nat} {lim : Int} {L : List En} (h : Sq w g lim L) : g < w.heap.size := by
  obtain ⟨b, h⟩ := h
  exact blk_lt h.1
theorem used_q (g : Nat) (lim : Int) (L : List En) (w : World) (h : Sq w g lim L) (n : Int) (hn : wrap64 (total L) = n) :
    Calls Try.prog 18 #[.pointer (some ⟨g, 0, none⟩)] w fun e w' => e = .returned (.int .i64 n) ∧ Below w.heap.size w w' := by
  obtain ⟨b, h⟩ := h
  exact hn ▸ used_c g b lim L w h
theorem keys_q (g : Nat) (lim : Int) (L : List En) (w : World) (h : Sq w g lim L) (n : Int) (hn : (L.length : Int) = n) :
    Calls Try.prog 20 #[.pointer (some ⟨g, 0, none⟩)] w fun e w' => e = .returned (.int .i64 n) ∧ Below w.heap.size w w' := by
  obtain ⟨b, h⟩ := h
  exact hn ▸ keys_c g b lim L w h
theorem limit_q (g : Nat) (lim : Int) (L : List En) (w : World) (h : Sq w g lim L) :
    Calls Try.prog 22 #[.pointer (some ⟨g, 0, none⟩)] w fun e w' => e = .returned (.int .i64 lim) ∧ Below w.heap.size w w' := by
  obtain ⟨b, h⟩ := h
  exact limit_c g b lim L w h
theorem after_q (g : Nat) (lim : Int) (L : List En) (A : Option Addr) (n_ c : Nat) (l : List Wr) (hl : l.length = n_) (w : World) (h : Sq w g lim L) (hr : Kd.C k45 w A n_ l) (hc : n_ ≤ c) (hs : small l) (hn : L.length + n_ ≤ 1000000000)
    (L' : List En) (n : Int) (h1 : taken L l = L') (h2 : wrap64 (total L') = n) :
    Calls Try.prog 14 #[.pointer (some ⟨g, 0, none⟩), .slice A n_ c] w fun e w' => e = .returned (.int .i64 n) ∧ Below w.heap.size w w' := by
  obtain ⟨b, h⟩ := h
  subst hl
  subst h1
  exact h2 ▸ after_c g b lim L A c l w h hr hc hs hn
theorem fits_q (g : Nat) (lim : Int) (L : List En) (A : Option Addr) (n_ c : Nat) (l : List Wr) (hl : l.length = n_) (w : World) (h : Sq w g lim L) (hr : Kd.C k45 w A n_ l) (hc : n_ ≤ c) (hs : small l) (hn : L.length + n_ ≤ 1000000000)
    (L' : List En) (n : Int) (f : Bool) (h1 : taken L l = L') (h2 : wrap64 (total L') = n) (h3 : decide (n ≤ lim) = f) :
    Calls Try.prog 15 #[.pointer (some ⟨g, 0, none⟩), .slice A n_ c] w fun e w' => e = .returned (.bool f) ∧ Below w.heap.size w w' := by
  obtain ⟨b, h⟩ := h
  subst hl
  subst h1
  subst h2
  exact h3 ▸ fits_c g b lim L A c l w h hr hc hs hn
theorem take_q (g : Nat) (lim : Int) (L : List En) (A : Option Addr) (n_ c : Nat) (l : List Wr) (hl : l.length = n_) (w : World) (h : Sq w g lim L) (hr : Kd.C k45 w A n_ l) (hc : n_ ≤ c) (hs : small l) (hn : L.length + n_ ≤ 1000000000)
    (L' : List En) (n : Int) (f : Bool) (h1 : taken L l = L') (h2 : wrap64 (total L') = n) (h3 : decide (n ≤ lim) = f) :
    Calls Try.prog 16 #[.pointer (some ⟨g, 0, none⟩), .slice A n_ c] w fun e w' => e = .returned (.bool f) ∧ Sq w' g lim (if f = true then L' else L) ∧ w.grownBy w' (some g) := by
  obtain ⟨b, h⟩ := h
  subst hl
  subst h1
  subst h2
  refine (take_c g b lim L A c l w h hr hc hs hn).mono ?_
  rintro e w' ⟨rfl, ⟨b', hst, _⟩, hg⟩
  rw [h3]
  refine ⟨rfl, ⟨b', ?_⟩, hg⟩
  by_cases d : wrap64 (total (taken L l)) ≤ lim
  · rw [if_pos d] at hst
    rw [if_pos (h3 ▸ decide_eq_true d)]
    exact hst
  · rw [if_neg d] at hst
    rw [if_neg (by rw [← h3, decide_eq_false d]; simp)]
    exact hst
theorem new_q (lim : Int) (w : World) (h0 : 0 ≤ lim) (h1 : lim ≤ 1073741824) :
    Calls Try.prog 9 #[.int .i64 lim] w fun e w' => ∃ g, e = .returned (.tuple #[.pointer (some ⟨g, 0, none⟩), .int .i64 0]) ∧ w.heap.size ≤ g ∧ Sq w' g lim [] ∧ Below w.heap.size w w' := by
  refine (new_c lim w h0 h1).mono ?_
  rintro e w' ⟨g, b, rfl, hg, _, _, hst, hb⟩
  exact ⟨g, rfl, hg, ⟨b, hst⟩, hb⟩
/-- A slice of one write, as a law lays it. -/
theorem C_one {w : World} {g : Nat} {x : Wr} (h : w.heap[g]? = some (.cells #[.string x.f0, .string x.f1, .string x.f2, .bool x.f3] 45 (0, 0))) : Kd.C k45 w (some ⟨g, 0, none⟩) 1 [x] := by
  refine ⟨rfl, by omega, fun _ => ⟨_, rfl, ?_⟩⟩
  intro j p hp
  have hj : j = 0 := by
    rcases j with _ | j
    · rfl
    · simp at hp
  subst hj
  obtain rfl : x = p := by simpa using hp
  refine ⟨_, rfl, k45_mk w x, ?_⟩
  intro i u hu
  have e : (⟨g, 0, none⟩ : Addr).add (0 * k45.sz + i) = ⟨g, i, none⟩ := by simp [Addr.add]; omega
  rw [e, blk_cell h i]
  simpa using hu
theorem grown_blk {w w' : World} {g a : Nat} {o : Obj} (hg : w.grownBy w' (some g)) (h : w.heap[a]? = some o) (hne : a ≠ g) : w'.heap[a]? = some o := (hg.block a (blk_lt h) (by simpa using hne)).trans h
theorem wp_ins {P : Program} {ops : Array Oper} {rest : List Oper} {o : Oper} {a : Act} {Q : Exit → Act → World → Prop} (w : World) (hg : o.guard = none) (m x v : Operand) (t : TypeId) (hop : o.op = Op.insert t m x v)
    (k e : TypeId) (K : Keyed P k) (ht : P.underlying t = some (.map k e)) (he : P.underlying e = some (.int .i64)) (b : Nat) (l : List En) (hm : a.eval m = .map (some b)) (hown : Has w P k e b l) (hn : l.length < maxLen)
    (key : Value) (kl : Lit) (hx : a.eval x = key) (hkey : keyOf P k key = some kl) (c : Int) (hv : a.eval v = .int .i64 c) (hc : (Lit.int .i64 c).wf = true)
    (hK : ∀ w', Has w' P k e b (strike kl l ++ [(kl, c)]) → w.grownBy w' (some b) → wpList P ops Q rest (a.put o.dst undef) w') : wpList P ops Q (o :: rest) a w := by
  refine wpList_plain hg fun K' hK' => ?_
  obtain ⟨es, ho, hp⟩ := hown
  obtain ⟨w', hrun, r1, r2⟩ := ho.update K ht hn hkey (plainElem_int he hc)
  unfold Oper.wp
  simp [execOp, hop, hm, hx, hv, hrun, Result.andThen]
  refine hK' _ _ (hK w' ?_ r2)
  have h1' : w'.ownsMap P k (plainElem P e) b (l.length + 1) (.map (DataW.insert (kl, .lit (.int .i64 c)) (es.filter fun p => !p.1.sameKey kl))) := r1
  refine has_of h1' ((insert_perm _ _).trans ?_)
  rw [enc_append, enc_strike]
  exact (List.Perm.cons _ (hp.filter _)).trans (List.perm_append_comm (l₁ := [_]))
abbrev exA : Wr := ⟨⟨#[98]⟩, ⟨#[107]⟩, ⟨#[118]⟩, false⟩
abbrev exB : Wr := ⟨⟨#[98]⟩, ⟨#[107]⟩, ⟨#[49, 50, 51, 52, 53, 54, 55]⟩, false⟩
abbrev exC : Wr := ⟨⟨#[98]⟩, ⟨#[107]⟩, ⟨#[]⟩, true⟩
def exK : Lit := kl ⟨#[98]⟩ ⟨#[107]⟩
theorem ex_t1 : taken [] [exA] = [(exK, 3)] := by kernel_rfl
theorem ex_t2 : taken [(exK, 3)] [exB] = [(exK, 9)] := by kernel_rfl
theorem ex_t3 : taken [(exK, 3)] [exC] = [] := by kernel_rfl
theorem ex_t4 : taken [] [exB] = [(exK, 9)] := by kernel_rfl
theorem ex_small (x : Wr) (h : x.f0.size ≤ 9 ∧ x.f1.size ≤ 9) : small [x] := by
  intro y hy
  obtain rfl := List.mem_singleton.1 hy
  omega
abbrev exOA : Obj := .cells #[.string ⟨#[98]⟩, .string ⟨#[107]⟩, .string ⟨#[118]⟩, .bool false] 45
abbrev exOB : Obj := .cells #[.string ⟨#[98]⟩, .string ⟨#[107]⟩, .string ⟨#[49, 50, 51, 52, 53, 54, 55]⟩, .bool false] 45
abbrev exOC : Obj := .cells #[.string ⟨#[98]⟩, .string ⟨#[107]⟩, .string ⟨#[]⟩, .bool true] 45
theorem blk_next (w : World) (o o' : Obj) : ((w.alloc o).alloc o').heap[w.heap.size + 1]? = some o' := by
  have h := blk_new (w.alloc o) o'
  have s1 : (w.alloc o).heap.size = w.heap.size + 1 := by simp [World.alloc, -World.alloc_eq]
  rwa [s1] at h
theorem ex_t5 : wrap64 (total (strike (.string [98]) (strike (.string [97]) [] ++ [(.string [97], 1)]) ++ [(.string [98], 2)])) = 3 := by kernel_rfl
set_option maxHeartbeats 8000000 in
set_option maxRecDepth 100000 in
theorem ex_c (w : World) : Calls Try.prog 8 #[] w fun e w' => e = .returned (.bool true) ∧ Below w.heap.size w w' := by
  have hmm := @run_makeMap Try.prog
  have HKA := Aside0.mk (Go.WideMaps.keyOf_string_mk (P := Try.prog) Try.underlying9 (s := ⟨#[97]⟩) (by decide))
  have HKB := Aside0.mk (Go.WideMaps.keyOf_string_mk (P := Try.prog) Try.underlying9 (s := ⟨#[98]⟩) (by decide))
  go_enter Try.func8, Try.ntmps8
  go_wp2_with (first
    | (go_at_call 9; (with_reducible refine (new_bad (-1) _ (Or.inl (by omega))).mono ?_); rintro e w1 ⟨rfl, hb⟩; have HB1 := Aside0.mk hb; clear hb)
    | (go_at_call 9; (with_reducible refine (new_q 6 _ (by omega) (by omega)).mono ?_); rintro e w2 ⟨g, rfl, hg, hst, hb⟩; have HG := Aside0.mk (Nat.le_trans HB1.out.size hg); have HNE := Aside0.mk (show w2.heap.size + 1 ≠ g by have := hst.lt; omega); have HSA := Aside0.mk ((hst.alloc exOA).alloc exOB); have HBA := Aside0.mk (below_alloc (below_alloc (below_step HB1.out hb) exOA) exOB); have HA := Aside0.mk (blk_alloc (blk_new w2 exOA) exOB); have HE := Aside0.mk (blk_next w2 exOA exOB); clear hg hst hb)
    | (go_at_call 16; (with_reducible refine (take_q g 6 [] _ 1 1 [exA] rfl _ HSA.out (C_one HA.out) (by decide) (ex_small _ (by decide)) (by decide) _ 3 true ex_t1 (by kernel_rfl) (by decide)).mono ?_); rintro e w3 ⟨rfl, hst, hg⟩; have HS3 := Aside0.mk (show Sq w3 g 6 [(exK, 3)] from hst); have HB3 := Aside0.mk (below_grown HBA.out hg HG.out); have HE3 := Aside0.mk (grown_blk hg HE.out HNE.out); clear hst hg)
    | (go_at_call 18; (with_reducible refine (used_q g 6 _ _ HS3.out 3 (by kernel_rfl)).mono ?_); rintro e w4 ⟨rfl, hb⟩; have HS4 := Aside0.mk (HS3.out.below hb); have HB4 := Aside0.mk (below_step HB3.out hb); have HE4 := Aside0.mk (blk_below HE3.out hb); clear hb)
    | (go_at_call 16; (with_reducible refine (take_q g 6 _ _ 1 1 [exB] rfl _ HS4.out (C_one HE4.out) (by decide) (ex_small _ (by decide)) (by decide) _ 9 false ex_t2 (by kernel_rfl) (by decide)).mono ?_); rintro e w5 ⟨rfl, hst, hg⟩; have HS5 := Aside0.mk (show Sq w5 g 6 [(exK, 3)] from hst); have HB5 := Aside0.mk (below_grown HB4.out hg HG.out); have HE5 := Aside0.mk (grown_blk hg HE4.out HNE.out); clear hst hg)
    | (go_at_call 16; (with_reducible refine (take_q g 6 _ _ 1 1 [exC] rfl _ (HS5.out.alloc exOC) (C_one (blk_new w5 exOC)) (by decide) (ex_small _ (by decide)) (by decide) _ 0 true ex_t3 (by kernel_rfl) (by decide)).mono ?_); rintro e w6 ⟨rfl, hst, hg⟩; have HS6 := Aside0.mk (show Sq w6 g 6 [] from hst); have HB6 := Aside0.mk (below_grown (below_alloc HB5.out exOC) hg HG.out); have HE6 := Aside0.mk (grown_blk hg (blk_alloc HE5.out exOC) HNE.out); clear hst hg)
    | (go_at_call 14; (with_reducible refine (after_q g 6 _ _ 1 1 [exB] rfl _ HS6.out (C_one HE6.out) (by decide) (ex_small _ (by decide)) (by decide) _ 9 ex_t4 (by kernel_rfl)).mono ?_); rintro e w7 ⟨rfl, hb⟩; have HS7 := Aside0.mk (HS6.out.below hb); have HB7 := Aside0.mk (below_step HB6.out hb); have HE7 := Aside0.mk (blk_below HE6.out hb); clear hb)
    | (go_at_call 15; (with_reducible refine (fits_q g 6 _ _ 1 1 [exB] rfl _ HS7.out (C_one HE7.out) (by decide) (ex_small _ (by decide)) (by decide) _ 9 false ex_t4 (by kernel_rfl) (by decide)).mono ?_); rintro e w8 ⟨rfl, hb⟩; have HS8 := Aside0.mk (HS7.out.below hb); have HB8 := Aside0.mk (below_step HB7.out hb); have HE8 := Aside0.mk (blk_below HE7.out hb); clear hb)
    | (go_at_call 18; (with_reducible refine (used_q g 6 _ _ HS8.out 0 (by kernel_rfl)).mono ?_); rintro e w9 ⟨rfl, hb⟩; have HS9 := Aside0.mk (HS8.out.below hb); have HB9 := Aside0.mk (below_step HB8.out hb); have HE9 := Aside0.mk (blk_below HE8.out hb); clear hb)
    | (go_at_call 20; (with_reducible refine (keys_q g 6 _ _ HS9.out 0 rfl).mono ?_); rintro e w10 ⟨rfl, hb⟩; have HS10 := Aside0.mk (HS9.out.below hb); have HB10 := Aside0.mk (below_step HB9.out hb); have HE10 := Aside0.mk (blk_below HE9.out hb); clear hb)
    | (go_at_call 22; (with_reducible refine (limit_q g 6 _ _ HS10.out).mono ?_); rintro e w11 ⟨rfl, hb⟩; have HS11 := Aside0.mk (HS10.out.below hb); have HB11 := Aside0.mk (below_step HB10.out hb); have HE11 := Aside0.mk (blk_below HE10.out hb); clear hb)
    | ((try (refine gate_guard (by rfl) ?_; dsimp only)); refine wp_ins _ rfl _ _ _ 57 rfl 9 3 keyed_string Try.underlying57 Try.underlying3 w11.heap.size [] rfl (has_made w11 _ _ _) (by decide) _ _ rfl HKA.out 1 rfl (by decide) ?_; intro w12 hm hg; have HM12 := Aside0.mk hm; have HB12 := Aside0.mk (below_grown (below_alloc HB11.out _) hg HB11.out.size); clear hm hg)
    | ((try (refine gate_guard (by rfl) ?_; dsimp only)); refine wp_ins _ rfl _ _ _ 57 rfl 9 3 keyed_string Try.underlying57 Try.underlying3 w11.heap.size _ rfl HM12.out (by decide) _ _ rfl HKB.out 2 rfl (by decide) ?_; intro w13 hm hg; have HM13 := Aside0.mk hm; have HB13 := Aside0.mk (below_grown HB12.out hg HB11.out.size); clear hm hg)
    | (go_at_call 27; (with_reducible refine (tally_string _ _ _ HM13.out).mono ?_); rintro e w14 ⟨rfl, hb⟩; rw [ex_t5]; have HB14 := Aside0.mk (below_step HB13.out hb); clear hb))
  go_ret
  exact ⟨rfl, HB14.out⟩
end Go.Proofs.Ytbjpfgmmmdfbeaa.Quo

namespace Go.Proofs.Ytbjpfgmmmdfbeaa.Q
open Go.RowKit Go.Proofs.YtbjpfgmmmdfbeaaW.PrintWords Go.Proofs.YtbjpfgmmmdfbeaaW.PrintLast Go.Proofs.YtbjpfgmmmdfbeaaW.PrintMore
attribute [local go_sem] max2_int min2_int max_two min_two max_three min_three max_four min_four   -- for this text's walks alone
set_option linter.unusedVariables false
set_option linter.unusedSimpArgs false
/-! ### tenementlaw13_QuotaTally: function 6 -/
-- FOREIGN: two maps filled, and summed
-- import Derived.Test.YtbjpfgmmmdfbeaaQuoX
-- import Derived.RegionTactic
open Classical in
noncomputable def tenementlaw13_QuotaTally.f (l0 : List Int) (a1 : ByteArray) : Option Bool := if (∀ x ∈ l0, (Lit.int .i16 x).wf = true) ∧ a1.size ≤ 140737488351232 then some true else none
theorem tenementlaw13_QuotaTally.add_total {k : Lit} {L : List Quo.En} (c : Int) (h : ∀ p ∈ L, p.1 ≠ k) : Quo.total (Quo.strike k L ++ [(k, c)]) = Quo.total L + c := by
  have e : Quo.strike k L = L := List.filter_eq_self.2 (fun p hp => by rw [Go.Maps.sameKey_ne (h p hp)]; rfl)
  rw [Quo.total_append, e]
  simp [Quo.total]
theorem tenementlaw13_QuotaTally.i16 {x : Int} (h : (Lit.int .i16 x).wf = true) : -32768 ≤ x ∧ x ≤ 32767 := by
  have e1 : IntKind.i16.min = -32768 := by decide
  have e2 : IntKind.i16.max = 32767 := by decide
  simpa only [Lit.wf, e1, e2, Bool.and_eq_true, decide_eq_true_eq] using h
theorem tenementlaw13_QuotaTally.i64 {x : Int} (h0 : -9223372036854775808 ≤ x) (h1 : x ≤ 9223372036854775807) : (Lit.int .i64 x).wf = true := by
  have e1 : IntKind.i64.min = -9223372036854775808 := by decide
  have e2 : IntKind.i64.max = 9223372036854775807 := by decide
  simp only [Lit.wf, e1, e2, Bool.and_eq_true, decide_eq_true_eq]
  omega
theorem tenementlaw13_QuotaTally.w64 (x : Int) : -9223372036854775808 ≤ wrap64 x ∧ wrap64 x ≤ 9223372036854775807 := by
  unfold wrap64
  omega
theorem tenementlaw13_QuotaTally.take_bound {l : List Int} (h : ∀ x ∈ l, (Lit.int .i16 x).wf = true) : ∀ j : Nat, -32768 * (j : Int) ≤ (l.take j).sum ∧ (l.take j).sum ≤ 32767 * (j : Int)
  | 0 => by simp
  | j + 1 => by
    have ih := tenementlaw13_QuotaTally.take_bound h j
    rw [List.take_add_one]
    cases hx : l[j]? with
    | none => simp only [Option.toList, List.append_nil]; omega
    | some x =>
      have := tenementlaw13_QuotaTally.i16 (h x (List.mem_of_getElem? hx))
      simp only [Option.toList, List.sum_append, List.sum_cons, List.sum_nil]
      omega
theorem tenementlaw13_QuotaTally.at_I {w : World} {A : Option Addr} {n : Nat} {xs : List Int} (h : Kd.C (Kd.int .i16) w A n xs) (j : Nat) (h1 : j < n) : ∃ ad x, A = some ad ∧ xs[j]? = some x ∧ w.cell? (ad.add j) = some (.int .i16 x) := by
  obtain ⟨ad, c, e, _, hK, hc⟩ := Kd.C_get h 0 (j : Int) (by omega) (by omega)
  have hl : j < xs.length := by have := h.1; omega
  refine ⟨ad, xs.getD j 0, e, by rw [List.getD_eq_getElem?_getD, List.getElem?_eq_getElem hl]; rfl, ?_⟩
  have hK' : c = [.int .i16 (xs.getD j 0)] := hK
  have h2 := hc 0 (.int .i16 (xs.getD j 0)) (by rw [hK']; rfl)
  have e2 : (j : Int).toNat * (Kd.int .i16).sz + 0 = j := by
    show (j : Int).toNat * 1 + 0 = j
    omega
  rwa [e2] at h2
theorem tenementlaw13_QuotaTally.update {w : World} {t : TypeId} {k : TypeId} {b : Nat} {L : List Quo.En} (h : Quo.Has w Try.prog k 3 b L) (K : Go.Maps.Keyed Try.prog k) (ht : Try.prog.underlying t = some (.map k 3)) (hn : L.length < maxLen) {key : Value} {kl : Lit} {c : Int} (hc : (Lit.int .i64 c).wf = true)
    (hkey : keyOf Try.prog k key = some kl) : ∃ w', (Instr.mapUpdate t (.map (some b)) key (.int .i64 c)).run Try.prog w = .ok () w' ∧ Quo.Has w' Try.prog k 3 b (Quo.strike kl L ++ [(kl, c)]) ∧ w.grownBy w' (some b) := by
  obtain ⟨es, ho, hp⟩ := h
  obtain ⟨w', hrun, r1, r2⟩ := ho.update K ht hn hkey (plainElem_int Try.underlying3 hc)
  refine ⟨w', hrun, ?_, r2⟩
  have h1' : w'.ownsMap Try.prog k (plainElem Try.prog 3) b (L.length + 1) (.map (DataW.insert (kl, .lit (.int .i64 c)) (es.filter fun p => !p.1.sameKey kl))) := r1
  refine Quo.has_of h1' ((Go.WideShapes.insert_perm _ _).trans ?_)
  rw [Quo.enc_append, Quo.enc_strike]
  exact (List.Perm.cons _ (hp.filter _)).trans (List.perm_append_comm (l₁ := [_]))
theorem tenementlaw13_QuotaTally.u8 (b : UInt8) : (Lit.int .u8 (b.toNat : Int)).wf = true := by
  have e1 : IntKind.u8.min = 0 := by decide
  have e2 : IntKind.u8.max = 255 := by decide
  have := b.toNat_lt
  simp only [Lit.wf, e1, e2, Bool.and_eq_true, decide_eq_true_eq]
  omega
theorem tenementlaw13_QuotaTally.wrap_more (c s t : Int) (i : Nat) (h : c + s = t) (ht : wrap64 t = wrap64 i) : wrap64 (s + (wrap64 (c + 1) + 0)) = wrap64 ((i + 1 : Nat) : Int) := by
  unfold wrap64 at *
  omega
theorem tenementlaw13_QuotaTally.step_int (j : Nat) (h : j ≤ 4611686018427387904) : Value.int .i64 (wrap64 ((j : Int) + 1)) = .int .i64 ((j + 1 : Nat) : Int) := by
  rw [Pure.wrap64_id (by omega) (by omega)]
  rfl
set_option maxHeartbeats 8000000 in
set_option maxRecDepth 100000 in
theorem tenementlaw13_QuotaTally.calls (A0 : Option Addr) (c0 : Nat) (l0 : List Int) (a1 : ByteArray) (r : Bool) (w : World) (hr0 : Kd.C (Kd.int .i16) w A0 l0.length l0) (hc0 : l0.length ≤ c0) (h : tenementlaw13_QuotaTally.f l0 a1 = some r) :
    Calls Try.prog 6 #[.slice A0 l0.length c0, .string a1] w fun e w' => e = .returned (.bool r) ∧ Below w.heap.size w w' := by
  unfold tenementlaw13_QuotaTally.f at h
  by_cases hw : (∀ x ∈ l0, (Lit.int .i16 x).wf = true) ∧ a1.size ≤ 140737488351232
  rotate_left
  · rw [if_neg hw] at h; cases h
  rw [if_pos hw] at h
  obtain rfl := Option.some.inj h
  clear h
  have HW := Aside0.mk hw.1
  have HZ := Aside0.mk hw.2
  have HR := Aside0.mk hr0
  clear hw hr0
  have hmm := @run_makeMap Try.prog
  go_enter Try.func6, Try.ntmps6
  go_wp2_with (go_at_call 8; refine (Quo.ex_c _).mono ?_; rintro e w1 ⟨rfl, hb⟩; have HB1 := Aside0.mk hb; clear hb)
  have HA := Aside0.mk ((Quo.has_made w1 Try.prog 3 3).alloc (.map #[] 0))
  have s1 : (w1.alloc (.map #[] 0)).heap.size = w1.heap.size + 1 := by simp [World.alloc, -World.alloc_eq]
  have HQ : Aside0 (Quo.Has ((w1.alloc (.map #[] 0)).alloc (.map #[] 0)) Try.prog 5 3 (w1.heap.size + 1) []) := ⟨by have := Quo.has_made (w1.alloc (.map #[] 0)) Try.prog 5 3; rwa [s1] at this⟩
  have HB2 := Aside0.mk (below_alloc (below_alloc HB1.out (.map #[] 0)) (.map #[] 0))
  have HS := Aside0.mk HB1.out.size
  have hle : w.heap.size ≤ w1.heap.size := HB1.out.size
  clear s1 HB1
  obtain ⟨g, hg⟩ : ∃ g, g = w1.heap.size := ⟨_, rfl⟩
  rw [← hg] at HA HQ HS
  rw [← hg]
  clear hg hle
  generalize ((w1.alloc (.map #[] 0)).alloc (.map #[] 0)) = w2 at *
  go_loopg [8, 9] l0.length (fun kq v8 v9 wr => ∃ (j : Nat) (L : List Quo.En), v9 = .int .i64 j ∧ v8 = .int .i64 (l0.take j).sum ∧ Aside0 (j ≤ 30) ∧ Aside0 (j ≤ l0.length) ∧ Aside0 (l0.length - j ≤ kq) ∧ Aside0 (Quo.Has wr Try.prog 3 3 g L) ∧ Aside0 (Quo.Has wr Try.prog 5 3 (g + 1) []) ∧ Aside0 (Below w.heap.size w wr) ∧ Aside0 (∀ p ∈ L, ∃ i : Nat, i < j ∧ p.1 = .int .i64 i) ∧ Aside0 (Quo.total L = (l0.take j).sum) ∧ Aside0 (L.length ≤ j))
  case atStart => exact ⟨0, [], rfl, rfl, ⟨by omega⟩, ⟨by omega⟩, ⟨by omega⟩, HA, HQ, HB2, ⟨fun p hp => by cases hp⟩, ⟨rfl⟩, ⟨by simp⟩⟩
  case round =>
    obtain ⟨j, L, rfl, rfl, HJ30, HJ, HK, HA, HQ, HB, HL, HT, HN⟩ := hrel
    by_cases c1 : j < l0.length ∧ j < 30
    · obtain ⟨c1, c2⟩ := c1
      have c1b : decide ((j : Int) < (l0.length : Int)) = true := decide_eq_true (by omega)
      have c2b : decide ((j : Int) < 30) = true := decide_eq_true (by omega)
      have c0b : decide (0 ≤ (j : Int)) = true := decide_eq_true (by omega)
      obtain ⟨ad, x, e0, hx, hcell⟩ := tenementlaw13_QuotaTally.at_I HR.out j c1
      cases e0
      have HCE := Aside0.mk hcell
      replace hcell := (HB.out.cell (World.block_lt_of_cell? w _ hcell)).trans hcell
      have hb16 := tenementlaw13_QuotaTally.i16 (HW.out x (List.mem_of_getElem? hx))
      have HX := Aside0.mk (show (l0.take (j + 1)).sum = (l0.take j).sum + x by rw [List.take_add_one, hx]; simp)
      have HI := Aside0.mk hb16
      have HC64 := Aside0.mk (tenementlaw13_QuotaTally.i64 (x := wrap64 x) (tenementlaw13_QuotaTally.w64 x).1 (tenementlaw13_QuotaTally.w64 x).2)
      have hnx := Aside0.mk (tenementlaw13_QuotaTally.take_bound HW.out j)
      have HKEY := Aside0.mk (Go.Maps.keyOf_int_mk (P := Try.prog) Try.underlying3 (a := (j : Int)) (tenementlaw13_QuotaTally.i64 (by omega) (by omega)))
      have HWX := Aside0.mk (Pure.wrap64_id (x := x) (by omega) (by omega))
      clear hx hb16
      go_wp2_with (first | (at_mapUpdate; refine Quo.wp_put _ rfl _ _ _ 49 rfl 3 3 Quo.keyed_int Try.underlying49 Try.underlying3 g L rfl HA.out (by have := HN.out; unfold maxLen; omega) _ _ rfl HKEY.out (wrap64 x) rfl HC64.out ?_; intro w3 hm hg; have HA3 := Aside0.mk hm; have HQ3 := Aside0.mk (HQ.out.kept hg (by simp)); have HB3 := Aside0.mk (Quo.below_grown HB.out hg HS.out); have hcell3 := (HB3.out.cell (World.block_lt_of_cell? w _ HCE.out)).trans HCE.out; clear hm hg))
      go_roundg (l0.length - (j + 1))
      case measure => have := HK.out; omega
      case rel =>
        have hi := HI.out
        have hb := hnx.out
        have ea := HA.out
        refine ⟨j + 1, _, by first | rfl | exact tenementlaw13_QuotaTally.step_int j (by omega), ?_, ⟨by omega⟩, ⟨by omega⟩, ⟨by omega⟩, HA3, HQ3, HB3, ⟨?_⟩, ⟨?_⟩, ⟨?_⟩⟩
        · rw [HX.out, HWX.out, Pure.wrap64_id (by omega) (by omega)]
        · intro p hp
          rcases List.mem_append.1 hp with hp | hp
          · obtain ⟨i, hi, e⟩ := HL.out p (List.mem_filter.1 hp).1
            exact ⟨i, by omega, e⟩
          · exact ⟨j, by omega, by rw [List.mem_singleton.1 hp]⟩
        · rw [tenementlaw13_QuotaTally.add_total (wrap64 x) (fun p hp e => by obtain ⟨i, hi, e2⟩ := HL.out p hp; rw [e2] at e; injection e with _ e; omega), HT.out, HX.out, HWX.out]
        · rw [List.length_append, List.length_singleton]
          have := Quo.strike_length (.int .i64 (j : Int)) L
          have := HN.out
          omega
    · have hbd := tenementlaw13_QuotaTally.take_bound HW.out j
      have HSUM := Aside0.mk (show wrap64 (Quo.total L) = (l0.take j).sum by rw [HT.out, Pure.wrap64_id (by have := HJ30.out; omega) (by have := HJ30.out; omega)])
      clear hbd HT HL HK HJ HJ30 HN
      generalize (l0.take j).sum = S at *
      by_cases d : j < l0.length
      case' pos =>
        have c1b : decide ((j : Int) < (l0.length : Int)) = true := decide_eq_true (by omega)
        have c2b : decide ((j : Int) < 30) = false := decide_eq_false (by omega)
      case' neg => have c1b : decide ((j : Int) < (l0.length : Int)) = false := decide_eq_false (by omega)
      all_goals
        go_wp2
        go_loopg [10] a1.size (fun kq v10 wr => ∃ (i : Nat) (L2 : List Quo.En), v10 = .int .i64 i ∧ Aside0 (i ≤ a1.size) ∧ Aside0 (a1.size - i ≤ kq) ∧ Aside0 (Quo.Has wr Try.prog 3 3 g L) ∧ Aside0 (Quo.Has wr Try.prog 5 3 (g + 1) L2) ∧ Aside0 (Below w.heap.size w wr) ∧ Aside0 (L2.length ≤ i) ∧ Aside0 (wrap64 (Quo.total L2) = wrap64 i))
        case atStart => exact ⟨0, [], rfl, ⟨by omega⟩, ⟨by omega⟩, HA, HQ, HB, ⟨by simp⟩, ⟨rfl⟩⟩
        case round =>
          obtain ⟨i, L2, rfl, HJ, HK, HA, HQ, HB, HN, HT⟩ := hrel
          by_cases c1 : i < a1.size
          · have c1b : decide ((i : Int) < (a1.size : Int)) = true := decide_eq_true (by omega)
            have c0b : decide (0 ≤ (i : Int)) = true := decide_eq_true (by omega)
            have HXW := Aside0.mk (tenementlaw13_QuotaTally.u8 (a1[i]'c1))
            have HKEY := Aside0.mk (Go.Maps.keyOf_int_mk (P := Try.prog) Try.underlying5 HXW.out)
            have HQ' := Aside0.mk HQ.out.drew
            obtain ⟨c, hrun, hat, hwf⟩ := HQ'.out.look Quo.keyed_byte Try.underlying50 Try.underlying3 (Try.zeroValue3 _) HKEY.out
            obtain ⟨w3, hup, hm, hg⟩ := tenementlaw13_QuotaTally.update HQ'.out Quo.keyed_byte Try.underlying50 (by have := HN.out; have := HZ.out; unfold maxLen; omega) (tenementlaw13_QuotaTally.i64 (x := wrap64 (c + 1)) (tenementlaw13_QuotaTally.w64 _).1 (tenementlaw13_QuotaTally.w64 _).2) HKEY.out
            have HAT := Aside0.mk hat
            have HM := Aside0.mk hm
            have HA3 := Aside0.mk (HA.out.drew.kept hg (by simp))
            have HB3 := Aside0.mk (Quo.below_grown (below_drew1 HB.out) hg (by have := HS.out; omega))
            clear hat hwf hm hg
            go_wp2
            go_region
            go_wp2
            go_roundg (a1.size - (i + 1))
            case measure => have := HK.out; omega
            case rel =>
              have hat := HAT.out
              have ht := HT.out
              refine ⟨i + 1, _, by first | rfl | exact tenementlaw13_QuotaTally.step_int i (by have := HZ.out; omega), ⟨by omega⟩, ⟨by omega⟩, HA3, HM, HB3, ⟨?_⟩, ⟨?_⟩⟩
              · rw [List.length_append, List.length_singleton]
                have := Quo.strike_length (.int .u8 ((a1[i]'c1).toNat : Int)) L2
                have := HN.out
                omega
              · rw [Quo.total_append, Quo.total_cons, Quo.total_nil]
                exact tenementlaw13_QuotaTally.wrap_more _ _ _ _ hat ht
          · have c1b : decide ((i : Int) < (a1.size : Int)) = false := decide_eq_false (by omega)
            have hi : i = a1.size := by have := HJ.out; omega
            subst hi
            have HSZ := Aside0.mk (show wrap64 (Quo.total L2) = (a1.size : Int) by rw [HT.out, Pure.wrap64_id (by omega) (by have := HZ.out; omega)])
            go_wp2_with (first
              | (go_at_call 25; refine (Quo.tally_int g L _ HA.out).mono ?_; rintro e w4 ⟨rfl, hb⟩; rw [HSUM.out]; have HQ4 := Aside0.mk (HQ.out.below hb); have HB4 := Aside0.mk (below_step HB.out hb); clear hb)
              | (go_at_call 26; refine (Quo.tally_byte (g + 1) L2 _ HQ4.out).mono ?_; rintro e w5 ⟨rfl, hb⟩; rw [HSZ.out]; have HB5 := Aside0.mk (below_step HB4.out hb); clear hb))
            go_ret
            exact ⟨rfl, HB5.out⟩
end Go.Proofs.Ytbjpfgmmmdfbeaa.Q

/- What an argument of a law reads as: the kinds of the printed words, opened out of the form's reading, whatever the type: numbers, bools, texts, slices, structs, arrays. No program here. -/
set_option linter.unusedVariables false
set_option linter.unusedSimpArgs false
namespace Go.Proofs.Ytbjpfgmmmdfbeaa.Open
open Go Go.RowKit Go.Deep Go.WideShapes Go.ChangeShapes Go.Proofs.YtbjpfgmmmdfbeaaW.PrintWords Go.Proofs.YtbjpfgmmmdfbeaaW.PrintLast Go.Proofs.YtbjpfgmmmdfbeaaW.PrintMore

structure To (P : Program) (t : TypeId) {α : Type} (K : Kd α) (wf : α → Prop) : Prop where
  sz : P.cellsOf t = K.sz
  go : ∀ {H : Type} (enc : TypeId × Value → H) (w : World) (fuel : Nat) (cs : List Value) (d : DataW H) (ps : List MemPlace),
    DataW.trod enc P w 0 (fun _ => true) true fuel t cs = some (d, ps) → (DataW.weights P t d).all (· ≤ reachBytes) = true → ∃ x : α, K.K w x cs ∧ wf x

theorem int {P : Program} {t : TypeId} {k : IntKind} (ht : P.underlying t = some (.int k)) (hs : P.cellsOf t = 1) : To P t (Kd.int k) (fun n => (Lit.int k n).wf = true) := by
  refine ⟨hs, fun enc w fuel cs d ps h _ => ?_⟩
  obtain ⟨n, rfl, _, hw⟩ := DataW.trod_int ht h
  exact ⟨n, rfl, hw⟩
theorem bool {P : Program} {t : TypeId} (ht : P.underlying t = some .bool) (hs : P.cellsOf t = 1) : To P t Kd.bool (fun _ => True) := by
  refine ⟨hs, fun enc w fuel cs d ps h _ => ?_⟩
  obtain ⟨b, rfl, _⟩ := DataW.trod_bool ht h
  exact ⟨b, rfl, trivial⟩
theorem string {P : Program} {t : TypeId} (ht : P.underlying t = some .string) (hs : P.cellsOf t = 1) : To P t Kd.string (fun s => s.size ≤ 140737488351232) := by
  refine ⟨hs, fun enc w fuel cs d ps h hw => ?_⟩
  obtain ⟨s, rfl, hx, _⟩ := DataW.trod_string ht h
  obtain ⟨rfl, _⟩ := Prod.mk.inj hx
  refine ⟨s, rfl, ?_⟩
  simp only [DataW.weights, List.all_cons, List.all_nil, Bool.and_true, reachBytes, Array.length_toList] at hw
  exact of_decide_eq_true hw
theorem weightsAll_mem {H : Type} {P : Program} {e : TypeId} : ∀ {l : List (DataW H)} {d : DataW H}, d ∈ l → (DataW.weightsAll P e l).all (· ≤ reachBytes) = true → (DataW.weights P e d).all (· ≤ reachBytes) = true
  | [], _, h, _ => by cases h
  | a :: l, d, h, hw => by
    simp only [DataW.weightsAll, List.all_append, Bool.and_eq_true] at hw
    rcases List.mem_cons.1 h with rfl | h
    · exact hw.1
    · exact weightsAll_mem h hw.2
theorem add_add (a : Addr) (i j : Nat) : (a.add i).add j = a.add (i + j) := by
  unfold Addr.add
  by_cases h1 : i = 0 <;> by_cases h2 : j = 0 <;> simp [h1, h2, Nat.add_assoc]
theorem slice {P : Program} {t e : TypeId} {α : Type} {K : Kd α} {wf : α → Prop} {B : Nat} (ht : P.underlying t = some (.slice e)) (hs : P.cellsOf t = 1) (hB : P.bytesOf e = B) (he : To P e K wf) :
    To P t (Kd.slice e K) (fun l => (∀ x ∈ l, wf x) ∧ l.length * B ≤ 140737488351232) := by
  refine ⟨hs, fun {H} enc w fuel cs d ps h hw => ?_⟩
  rcases open_slice ht h with ⟨rfl, _⟩ | ⟨a, len, cap, m, n, D, Pl, rfl, _, hl, hm, hmc, hx, hel⟩
  · exact ⟨[], ⟨none, 0, rfl, Nat.le_refl _, rfl, by simp, fun h => absurd h (by simp)⟩, by simp, by simp⟩
  · obtain ⟨rfl, _⟩ := Prod.mk.inj hx
    simp only [if_true] at hmc
    subst hmc
    have hw1 := hw
    simp only [DataW.weights, ht, List.all_cons, List.all_append, Bool.and_eq_true, decide_eq_true_eq, List.length_map, List.length_range, hB, reachBytes] at hw1
    have hchoose : ∀ i, i < len → ∃ x : α, (∃ cs', w.cells? 0 (a.add (i * P.cellsOf e)) (P.cellsOf e) = some cs' ∧ K.K w x cs') ∧ wf x := by
      intro i hi
      obtain ⟨cs', h1, h2⟩ := hel i (by omega)
      obtain ⟨x, hx1, hx2⟩ := he.go enc w n cs' (D i) (Pl i) h2 (weightsAll_mem (List.mem_map.2 ⟨i, by simpa using hi, rfl⟩) hw1.2.1)
      exact ⟨x, ⟨cs', h1, hx1⟩, hx2⟩
    have hall : ∀ k, k ≤ len → ∃ l : List α, l.length = k ∧ ∀ i x, l[i]? = some x → (∃ cs', w.cells? 0 (a.add (i * P.cellsOf e)) (P.cellsOf e) = some cs' ∧ K.K w x cs') ∧ wf x := by
      intro k
      induction k with
      | zero => intro _; exact ⟨[], rfl, fun i x h => by simp at h⟩
      | succ k ih =>
        intro hk
        obtain ⟨l, h1, h2⟩ := ih (by omega)
        obtain ⟨x, hx⟩ := hchoose k (by omega)
        refine ⟨l ++ [x], by simp [h1], fun i y hy => ?_⟩
        by_cases hi : i < l.length
        · exact h2 i y (by rwa [List.getElem?_append_left hi] at hy)
        · rw [List.getElem?_append_right (by omega)] at hy
          have : i = l.length := by
            have := (List.getElem?_eq_some_iff.1 hy).1
            simp at this; omega
          subst this
          simp at hy
          subst hy
          rw [h1]; exact hx
    obtain ⟨l, h1, h2⟩ := hall len (Nat.le_refl _)
    refine ⟨l, ⟨some a, m, by rw [h1], by omega, rfl, by unfold maxLen at hm; omega, fun _ => ⟨a, rfl, fun j p hj => ?_⟩⟩, ?_, ?_⟩
    · obtain ⟨⟨cs', g1, g2⟩, _⟩ := h2 j p hj
      obtain ⟨_, g3, g4⟩ := World.cells?_some g1
      refine ⟨cs', by rw [g3, he.sz], g2, fun i u hu => ?_⟩
      have hi : i < P.cellsOf e := by
        have := (List.getElem?_eq_some_iff.1 hu).1
        omega
      rw [← hu, ← g4 i hi, add_add, he.sz]
    · intro x hx
      obtain ⟨i, hi, rfl⟩ := List.getElem_of_mem hx
      exact (h2 i _ (List.getElem?_eq_getElem hi)).2
    · rw [h1]
      refine Nat.le_trans (Nat.mul_le_mul_right _ ?_) (of_decide_eq_true hw1.1)
      omega

/-! ### structs, arrays -/
structure Fs (P : Program) (o : Nat) (fs : List (TypeId × Nat)) {α : Type} (K : Kd α) (wf : α → Prop) : Prop where
  go : ∀ {H : Type} (enc : TypeId × Value → H) (w : World) (n : Nat) (cs : List Value) (xs : List (DataW H × List MemPlace)), cs.length = o + K.sz → xs.length = fs.length →
    (∀ (i : Nat) (f : TypeId × Nat), fs[i]? = some f → DataW.trod enc P w 0 (fun _ => true) true n f.1 ((cs.drop f.2).take (P.cellsOf f.1)) = xs[i]?) →
    (DataW.weightsEach P (fs.map (·.1)) (xs.map (·.1))).all (· ≤ reachBytes) = true → ∃ x : α, K.K w x (cs.drop o) ∧ wf x
theorem one {P : Program} {o : Nat} {t : TypeId} {α : Type} {K : Kd α} {wf : α → Prop} (h : To P t K wf) : Fs P o [(t, o)] K wf := by
  refine ⟨fun enc w n cs xs hl hx hr hw => ?_⟩
  match xs, hx with
  | [x], _ =>
    have h0 := hr 0 _ rfl
    simp only [List.getElem?_cons_zero] at h0
    rw [h.sz, List.take_of_length_le (by simp; omega)] at h0
    simp only [List.map_cons, List.map_nil, DataW.weightsEach, List.append_nil] at hw
    exact h.go enc w n _ x.1 x.2 h0 hw
theorem cons {P : Program} {o : Nat} {t : TypeId} {fs : List (TypeId × Nat)} {α β : Type} {K : Kd α} {wf : α → Prop} {L : Kd β} {wg : β → Prop} (h : To P t K wf) (hs : Fs P (o + K.sz) fs L wg) :
    Fs P o ((t, o) :: fs) (Kd.pair K L) (fun x => wf x.1 ∧ wg x.2) := by
  refine ⟨fun {H} enc w n cs xs hl hx hr hw => ?_⟩
  have hsz : (Kd.pair K L).sz = K.sz + L.sz := rfl
  match xs, hx with
  | x :: xs, hx =>
    have h0 := hr 0 _ rfl
    simp only [List.getElem?_cons_zero] at h0
    rw [h.sz] at h0
    simp only [List.map_cons, DataW.weightsEach, List.all_append, Bool.and_eq_true] at hw
    obtain ⟨a, ha, hwa⟩ := h.go enc w n _ x.1 x.2 h0 hw.1
    obtain ⟨b, hb, hwb⟩ := hs.go enc w n cs xs (by omega) (by simpa using hx) (fun i f hf => by have := hr (i + 1) f (by simpa using hf); simpa using this) hw.2
    refine ⟨(a, b), ⟨_, _, ?_, ha, hb⟩, hwa, hwb⟩
    rw [← List.drop_drop, List.take_append_drop]
theorem struct {P : Program} {t : TypeId} {fs : Array Field} {gs : List (TypeId × Nat)} {α : Type} {K : Kd α} {wf : α → Prop} (ht : P.underlying t = some (.struct fs)) (hg : fs.toList.map (fun f => (f.type, f.offset)) = gs) (hs : P.cellsOf t = K.sz) (h : Fs P 0 gs K wf) : To P t K wf := by
  refine ⟨hs, fun {H} enc w fuel cs d ps hr hw => ?_⟩
  obtain ⟨xs, n, _, hx, hl, hxl, hel⟩ := DataW.trod_struct ht hr
  obtain ⟨rfl, _⟩ := Prod.mk.inj hx
  have := h.go enc w n cs xs (by omega) (by rw [← hg]; simpa using hxl) (fun i f hf => ?_) ?_
  · simpa using this
  · rw [← hg] at hf
    simp only [List.getElem?_map, Option.map_eq_some_iff] at hf
    obtain ⟨g, hg1, rfl⟩ := hf
    exact hel i g (by simpa using hg1)
  · rw [← hg]
    simp only [DataW.weights, ht] at hw
    simpa [List.map_map, Function.comp_def] using hw
theorem weightsAll_each {H : Type} (P : Program) (e : TypeId) : ∀ (l : List (DataW H)) (ts : List TypeId), ts.length = l.length → (∀ t ∈ ts, t = e) → DataW.weightsEach P ts l = DataW.weightsAll P e l
  | [], [], _, _ => rfl
  | [], _ :: _, h, _ => by simp at h
  | _ :: _, [], h, _ => by simp at h
  | d :: l, t :: ts, h, ht => by
    simp only [DataW.weightsEach, DataW.weightsAll]
    rw [ht t (by simp), weightsAll_each P e l ts (by simpa using h) (fun x hx => ht x (by simp [hx]))]
theorem array {P : Program} {t e : TypeId} {n s : Nat} {α : Type} {K : Kd α} {wf : α → Prop} (ht : P.underlying t = some (.array n e)) (he : P.cellsOf e = s) (hs : P.cellsOf t = K.sz) (h : Fs P 0 ((List.range n).map fun i => (e, i * s)) K wf) : To P t K wf := by
  refine ⟨hs, fun {H} enc w fuel cs d ps hr hw => ?_⟩
  obtain ⟨xs, m, _, hx, hl, hxl, hel⟩ := DataW.trod_array ht hr
  obtain ⟨rfl, _⟩ := Prod.mk.inj hx
  have := h.go enc w m cs xs (by omega) (by simpa using hxl) (fun i f hf => ?_) ?_
  · simpa using this
  · simp only [List.getElem?_map, Option.map_eq_some_iff] at hf
    obtain ⟨g, hg1, rfl⟩ := hf
    have hi : i < n := by have := (List.getElem?_eq_some_iff.1 hg1).1; simpa using this
    have hgi : g = i := by
      have := (List.getElem?_eq_some_iff.1 hg1).2
      simpa using this.symm
    subst hgi
    have := hel g hi
    rw [he] at this ⊢
    exact this
  · simp only [DataW.weights, ht] at hw
    rw [weightsAll_each P e _ _ (by simp [hxl]) (by simp)]
    exact hw
theorem iso {P : Program} {t : TypeId} {α β : Type} {K : Kd α} {wf : α → Prop} (f : β → α) (g : α → β) (hfg : ∀ a, f (g a) = a) (h : To P t K wf) : To P t (Kd.iso K f) (fun b => wf (f b)) := by
  refine ⟨h.sz, fun {H} enc w fuel cs d ps hr hw => ?_⟩
  obtain ⟨x, h1, h2⟩ := h.go enc w fuel cs d ps hr hw
  refine ⟨g x, ?_, ?_⟩
  · show K.K w (f (g x)) cs
    rw [hfg]; exact h1
  · rw [hfg]; exact h2
theorem imp {P : Program} {t : TypeId} {α : Type} {K : Kd α} {wf wf' : α → Prop} (h : To P t K wf) (hi : ∀ x, wf x → wf' x) : To P t K wf' :=
  ⟨h.sz, fun enc w fuel cs d ps hr hw => by
    obtain ⟨x, h1, h2⟩ := h.go enc w fuel cs d ps hr hw
    exact ⟨x, h1, hi x h2⟩⟩
/-- At a parameter. -/
theorem at_param {P : Program} {t : TypeId} {α : Type} {K : Kd α} {wf : α → Prop} (h : To P t K wf) {H : Type} {enc : TypeId × Value → H} {w : World} {v : Value} {d : DataW H} {ps : List MemPlace} {ts : List TypeId} {ds : List (DataW H)} {j : Nat}
    (hsz : (DataW.weightsEach P ts ds).all (· ≤ reachBytes) = true) (ht : ts[j]? = some t) (hd : ds[j]? = some d) (hr : DataW.Trod enc P w 0 (fun _ => true) true t v d ps) : ∃ x : α, K.K w x v.cells.toList ∧ wf x := by
  obtain ⟨fuel, hf⟩ := hr
  refine h.go enc w fuel _ d ps hf ?_
  rw [List.all_eq_true]
  intro x hx
  exact List.all_eq_true.1 hsz x (DataW.weights_mem_each ht hd x hx)
theorem okWide_array {P : Program} {w : World} {r : Reach} {base : Nat} {t : TypeId} {v : Value} {n : Nat} {e : TypeId} (ht : P.underlying t = some (.array n e)) (h : Value.okWide P w r base t v) : ∃ cs, v = .agg cs := by
  simp only [Value.okWide, ht] at h
  obtain ⟨cs, h1, _⟩ := h
  exact ⟨cs, h1⟩
end Go.Proofs.Ytbjpfgmmmdfbeaa.Open

set_option linter.unusedVariables false
namespace Go.Proofs.Ytbjpfgmmmdfbeaa.Q
open Go.RowKit Go.Proofs.Ytbjpfgmmmdfbeaa.Q Go.Proofs.YtbjpfgmmmdfbeaaW.PrintWords Go.Proofs.YtbjpfgmmmdfbeaaW.PrintLast Go.Proofs.YtbjpfgmmmdfbeaaW.PrintMore
open Go.Proofs.Ytbjpfgmmmdfbeaa

end Go.Proofs.Ytbjpfgmmmdfbeaa.Q

set_option linter.unusedVariables false
namespace Go.Proofs.Ytbjpfgmmmdfbeaa.Q
open Go.RowKit Go.Proofs.Ytbjpfgmmmdfbeaa.Q Go.Proofs.YtbjpfgmmmdfbeaaW.PrintWords Go.Proofs.YtbjpfgmmmdfbeaaW.PrintLast Go.Proofs.YtbjpfgmmmdfbeaaW.PrintMore
def tenementlaw13_QuotaTally.Pure : Prop := ∀ (x0 : List Int) (x1 : ByteArray), ((∀ x_ ∈ x0, (Lit.int .i16 x_).wf = true) ∧ x0.length * 2 ≤ 140737488351232) → (x1.size ≤ 140737488351232) → tenementlaw13_QuotaTally.f x0 x1 = some true
end Go.Proofs.Ytbjpfgmmmdfbeaa.Q
