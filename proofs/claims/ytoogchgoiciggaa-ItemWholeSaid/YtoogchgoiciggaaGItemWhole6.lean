import Derived.Test.YtoogchgoiciggaaGItemWhole2
import Derived.Test.YtoogchgoiciggaaGItemWhole1
import Derived.Deep.Slices
import Derived.OpenShut
import Derived.SizedLaws
import Derived.ChangeArms
import Derived.WideShapes
import Derived.ChangeShapes
import Derived.KernelRfl
import Derived.Laws.BitsAllLaws
import Derived.Test.YtoogchgoiciggaaGItemWhole0
import Derived.Test.YtoogchgoiciggaaGItemWhole5
import Derived.Test.YtoogchgoiciggaaGItemWhole4
import Derived.Test.YtoogchgoiciggaaGItemWhole3
set_option linter.unusedVariables false
set_option linter.unusedSimpArgs false
namespace Go.Proofs.Ytoogchgoiciggaa.Iw
open Go Go.RowKit Go.WideShapes Go.Proofs.Ytoogchgoiciggaa.Q Go.Proofs.YtoogchgoiciggaaW.PrintWords Go.Proofs.YtoogchgoiciggaaW.PrintLast Go.Proofs.YtoogchgoiciggaaW.PrintMore
abbrev Wr := S23
abbrev kW := k23
abbrev cl (x : Wr) : List Value := [.string x.f0, .string x.f1, .string x.f2, .bool x.f3]
theorem infoW : (Try.prog.info? 23).map (fun i => (i.zero, i.size, i.bytes)) = some (some (.agg #[(.string ⟨#[]⟩), (.string ⟨#[]⟩), (.string ⟨#[]⟩), (.bool false)]), 4, 56) := by kernel_rfl
theorem R_at0 {w : World} {base : Nat} {ok : Nat → Prop} {g n cap : Nat} {x : Wr} {xs : List Wr} (h : Kd.R kW 23 w base ok (.slice (some ⟨g, 0, none⟩) n cap) (x :: xs)) : (∀ i u, (cl x)[i]? = some u → w.cell? ⟨g, i, none⟩ = some u) ∧ ∀ i, w.frozen? ⟨g, i, none⟩ = false := by
 have hn := (Kd.R_reads' h).1
 obtain ⟨c, hcl, hM, hcc, hfr⟩ := Kd.R_elem h z23 0 (by omega) (by rw [hn]; simp only [List.length_cons]; omega)
 have hc := k23_openM hM
 subst hc
 refine ⟨fun i u hu => ?_, fun i => ?_⟩
 ·have := hcc i u hu
  simpa using this
 ·have := hfr i
  simpa using this
theorem R_set0 {w : World} {base : Nat} {ok : Nat → Prop} {g n cap : Nat} {x : Wr} {xs : List Wr} (h : Kd.R kW 23 w base ok (.slice (some ⟨g, 0, none⟩) n cap) (x :: xs)) (y : Wr) (i : Nat) (u : Value) (hi : i < 4) (hy : (cl x).take i ++ [u] ++ (cl x).drop (i + 1) = cl y) :
  Kd.R kW 23 (w.setCell ⟨g, i, none⟩ u) base ok (.slice (some ⟨g, 0, none⟩) n cap) (y :: xs) := by
 have hn := (Kd.R_reads' h).1
 obtain ⟨h1, h2⟩ := R_at0 h
 have := (Kd.R_seg h 0 (by omega) (by rw [hn]; simp only [List.length_cons]; omega) (c := cl x) (seg := [u]) (j := i) rfl (fun j v hv => by have := h1 j v hv; simpa using this) (by show i + 1 ≤ 4; omega) (x' := y) (okp := fun _ => False) (by show kW.M w base (fun _ => False) y ((cl x).take i ++ [u] ++ (cl x).drop (i + 1)); rw [hy]; exact k23_mkM w base _ y) (fun _ hk => hk.elim)).1
 have e : w.setCells g ((0 : Int).toNat * kW.sz + i) [u] = w.setCell ⟨g, i, none⟩ u := by
  have : ((0 : Int).toNat * kW.sz + i) = i := by show 0 * 4 + i = i; omega
  rw [this]
  rfl
 rw [e] at this
 exact this
theorem below_none {W w1 : World} (hg : W.grownBy w1 none) : Below W.heap.size W w1 := ⟨hg.os, hg.tape, hg.output, hg.size, fun k hk => hg.block k hk (by simp)⟩
theorem two_run (ty : TypeId) (W : World) (ad : Addr) (x y : Wr) :
  ∃ A1 c1 w1, (Builtin.append_ #[41, 41] ty #[.slice (some ad) 0 0, .slice (some ⟨W.heap.size, 0, none⟩) 2 2]).run Try.prog (W.alloc (.cells (cl x ++ cl y).toArray 23)) = .ok (.slice A1 2 c1) w1 ∧ (∀ (p : Addr) (u : Value), p.block < W.heap.size → Kd.C kW (w1.setCell p u) A1 2 [x, y]) ∧ 2 ≤ c1 ∧ Below W.heap.size W w1 := by
 obtain ⟨i0, hi, hzz⟩ := Option.map_eq_some_iff.1 infoW
 simp only [Prod.mk.injEq] at hzz
 obtain ⟨hz0, hz1, hz2⟩ := hzz
 have hba := below_alloc (Below.refl W.heap.size W) (.cells (cl x ++ cl y).toArray 23)
 have hnews := World.news_of_block (cs := (cl x ++ cl y).toArray) (t := 23) (fr := (0, 0)) (heap_alloc_new W (.cells (cl x ++ cl y).toArray 23))
 obtain ⟨v1, w1, hrun, hown, hg⟩ := run_append_arg_grows (P := Try.prog) (W.alloc (.cells (cl x ++ cl y).toArray 23)) 41 ty 23 i0 _ 4 56 Try.underlying41 hi hz0 hz1 hz2 rfl (by decide) ad 0 0 [] rfl (fun j u hu => by simp at hu) ⟨W.heap.size, 0, none⟩ 2 2 (cl x ++ cl y) rfl (by simpa using hnews) (by omega) (by decide) (by decide)
 have hb : Below W.heap.size W w1 := by
  have h1 := below_none hg
  exact ⟨h1.os.trans hba.os, h1.tape.trans hba.tape, h1.output.trans hba.output, Nat.le_trans hba.size h1.size, fun k hk => (h1.block k (Nat.lt_of_lt_of_le hk hba.size)).trans (hba.block k hk)⟩
 have hlt : (W.alloc (.cells (cl x ++ cl y).toArray 23)).heap.size = W.heap.size + 1 := World.size_alloc W _
 have hK : ∀ (w2 : World) (z : Wr), kW.K w2 z (cl z) := fun w2 z => kW.K_of_M (k23_mkM w2 0 (fun _ => True) z)
 have hr2 : ∀ w2 : World, Reps (kW.K w2) 4 [x, y] ([] ++ (cl x ++ cl y)) := fun w2 => (((Reps.none (kW.K w2) 4).snoc (hK w2 x) rfl).snoc (hK w2 y) rfl)
 obtain ⟨A1, c1, he, -⟩ := own_reads_row hown (hr2 w1) rfl
 subst he
 refine ⟨A1, c1, w1, hrun, fun p u hp => ?_, own_le hown, hb⟩
 have hown2 := own_move (w1 := w1.setCell p u) hown (fun k hk => Below.heap_setCell w1 p u k (fun e => by have := own_base hown k hk; omega))
 obtain ⟨A2, c2, he, hrow⟩ := own_reads_row hown2 (hr2 (w1.setCell p u)) rfl
 injection he with e1 e2 e3
 subst e1
 exact hrow
theorem two_step {ops : Array Oper} {o : Oper} {a : Act} {Q : Exit → Act → World → Prop} {Kc : Act → World → Prop} {W : World} (hw : Region.wanted o (yielded ops a.tmps) = true) (s q : Operand) (ho : o.op = .call { callee := .builtin .append, args := #[s, q], argTypes := #[41, 41] })
  (ad : Addr) (x y : Wr) (hs : a.eval s = .slice (some ad) 0 0) (hx : a.eval q = .slice (some ⟨W.heap.size, 0, none⟩) 2 2)
  (h : ∀ A1 c1 w1, (∀ (p : Addr) (u : Value), p.block < W.heap.size → Kd.C kW (w1.setCell p u) A1 2 [x, y]) → 2 ≤ c1 → Below W.heap.size W w1 → Kc (a.put o.dst (.slice A1 2 c1)) w1) :
  if Region.wanted o (yielded ops a.tmps) = true then Oper.wp Try.prog o a (W.alloc (.cells (cl x ++ cl y).toArray 23)) Kc Q else Kc (a.put o.dst undef) (W.alloc (.cells (cl x ++ cl y).toArray 23)) := by
 obtain ⟨A1, c1, w1, hrun, h1, h2, h3⟩ := two_run o.type W ad x y
 rw [if_pos hw]
 unfold Oper.wp execOp
 simp only [ho, resolve, invoke, builtin, Sem.run_bind, Sem.run_pure, Result.andThen_ok, List.map_toArray, List.map_cons, List.map_nil, hs, hx, hrun]
 exact h A1 c1 w1 h1 h2 h3
theorem conv1 (w : World) (b : Nat) (z : Int) (h : w.heap[b]? = some (.cells #[.int .u8 z] 5 (0, 0))) : (convert 76 9 (.slice (some ⟨b, 0, none⟩) 1 1)).run Try.prog w = .ok (.string (strOfNums [z])) w :=
 run_convert_bytes_arg (P := Try.prog) w 76 5 Try.underlying76 Try.underlying5 b 0 1 1 [z] rfl (fun j hj => by
  have e : j = 0 := by omega
  subst e
  exact (blk_cell h 0).trans rfl) 9 Try.underlying9
theorem cut0 (A : Option Addr) (n c : Nat) : ∀ W : World, (Instr.slice 41 (.slice A n c) none (some (.int .i64 0)) (some (.int .i64 0))).run Try.prog W = .ok (.slice A 0 0) W := by
 intro W
 obtain ⟨i0, hi, hsz⟩ := Option.map_eq_some_iff.1 infoW
 have hel : Try.prog.elem 41 = 23 := by simp [Program.elem, Try.underlying41]
 have hu : Try.prog.underlying 41 = some (.slice (Try.prog.elem 41)) := by rw [hel]; exact Try.underlying41
 have ha : (A.map fun x => x.add 0) = A := by cases A <;> simp [Addr.add]
 rw [run_slice_hm W 41 A n c hu .i64 .i64 0 0 (by omega) (by omega) (by omega), hel]
 simp [sizeOf, typeInfo, hi, sliced, Result.andThen, ha]
end Go.Proofs.Ytoogchgoiciggaa.Iw

set_option linter.unusedVariables false
set_option linter.unusedSimpArgs false
namespace Go.Proofs.Ytoogchgoiciggaa.Open
open Go Go.RowKit Go.Deep Go.WideShapes Go.ChangeShapes Go.Proofs.YtoogchgoiciggaaW.PrintWords Go.Proofs.YtoogchgoiciggaaW.PrintLast Go.Proofs.YtoogchgoiciggaaW.PrintMore
structure To (P : Program) (t : TypeId) {α : Type} (K : Kd α) (wf : α → Prop) : Prop where
 sz : P.cellsOf t = K.sz
 go : ∀ {H : Type} (enc : TypeId × Value → H) (w : World) (fuel : Nat) (cs : List Value) (d : DataW H) (ps : List MemPlace),
  DataW.trod enc P w 0 (fun _ => true) true fuel t cs = some (d, ps) → (DataW.weights P t d).all (· ≤ reachBytes) = true → ∃ x : α, K.K w x cs ∧ wf x
theorem int {P : Program} {t : TypeId} {k : IntKind} (ht : P.underlying t = some (.int k)) (hs : P.cellsOf t = 1) : To P t (Kd.int k) (fun n => (Lit.int k n).wf = true) := by
 refine ⟨hs, fun enc w fuel cs d ps h _ => ?_⟩
 obtain ⟨n, rfl, _, hw⟩ := DataW.trod_int ht h
 exact ⟨n, rfl, hw⟩
theorem bool {P : Program} {t : TypeId} (ht : P.underlying t = some .bool) (hs : P.cellsOf t = 1) : To P t Kd.bool (fun _ => True) := by
 refine ⟨hs, fun enc w fuel cs d ps h _ => ?_⟩
 obtain ⟨b, rfl, _⟩ := DataW.trod_bool ht h
 exact ⟨b, rfl, trivial⟩
theorem string {P : Program} {t : TypeId} (ht : P.underlying t = some .string) (hs : P.cellsOf t = 1) : To P t Kd.string (fun s => s.size ≤ 140737488351232) := by
 refine ⟨hs, fun enc w fuel cs d ps h hw => ?_⟩
 obtain ⟨s, rfl, hx, _⟩ := DataW.trod_string ht h
 obtain ⟨rfl, _⟩ := Prod.mk.inj hx
 refine ⟨s, rfl, ?_⟩
 simp only [DataW.weights, List.all_cons, List.all_nil, Bool.and_true, reachBytes, Array.length_toList] at hw
 exact of_decide_eq_true hw
theorem weightsAll_mem {H : Type} {P : Program} {e : TypeId} : ∀ {l : List (DataW H)} {d : DataW H}, d ∈ l → (DataW.weightsAll P e l).all (· ≤ reachBytes) = true → (DataW.weights P e d).all (· ≤ reachBytes) = true
 | [], _, h, _ => by cases h
 | a :: l, d, h, hw => by
  simp only [DataW.weightsAll, List.all_append, Bool.and_eq_true] at hw
  rcases List.mem_cons.1 h with rfl | h
  ·exact hw.1
  ·exact weightsAll_mem h hw.2
theorem add_add (a : Addr) (i j : Nat) : (a.add i).add j = a.add (i + j) := by
 unfold Addr.add
 by_cases h1 : i = 0 <;> by_cases h2 : j = 0 <;> simp [h1, h2, Nat.add_assoc]
theorem slice {P : Program} {t e : TypeId} {α : Type} {K : Kd α} {wf : α → Prop} {B : Nat} (ht : P.underlying t = some (.slice e)) (hs : P.cellsOf t = 1) (hB : P.bytesOf e = B) (he : To P e K wf) :
  To P t (Kd.slice e K) (fun l => (∀ x ∈ l, wf x) ∧ l.length * B ≤ 140737488351232) := by
 refine ⟨hs, fun {H} enc w fuel cs d ps h hw => ?_⟩
 rcases open_slice ht h with ⟨rfl, _⟩ | ⟨a, len, cap, m, n, D, Pl, rfl, _, hl, hm, hmc, hx, hel⟩
 ·exact ⟨[], ⟨none, 0, rfl, Nat.le_refl _, rfl, by simp, fun h => absurd h (by simp)⟩, by simp, by simp⟩
 ·obtain ⟨rfl, _⟩ := Prod.mk.inj hx
  simp only [if_true] at hmc
  subst hmc
  have hw1 := hw
  simp only [DataW.weights, ht, List.all_cons, List.all_append, Bool.and_eq_true, decide_eq_true_eq, List.length_map, List.length_range, hB, reachBytes] at hw1
  have hchoose : ∀ i, i < len → ∃ x : α, (∃ cs', w.cells? 0 (a.add (i * P.cellsOf e)) (P.cellsOf e) = some cs' ∧ K.K w x cs') ∧ wf x := by
   intro i hi
   obtain ⟨cs', h1, h2⟩ := hel i (by omega)
   obtain ⟨x, hx1, hx2⟩ := he.go enc w n cs' (D i) (Pl i) h2 (weightsAll_mem (List.mem_map.2 ⟨i, by simpa using hi, rfl⟩) hw1.2.1)
   exact ⟨x, ⟨cs', h1, hx1⟩, hx2⟩
  have hall : ∀ k, k ≤ len → ∃ l : List α, l.length = k ∧ ∀ i x, l[i]? = some x → (∃ cs', w.cells? 0 (a.add (i * P.cellsOf e)) (P.cellsOf e) = some cs' ∧ K.K w x cs') ∧ wf x := by
   intro k
   induction k with
   | zero => intro _; exact ⟨[], rfl, fun i x h => by simp at h⟩
   | succ k ih =>
    intro hk
    obtain ⟨l, h1, h2⟩ := ih (by omega)
    obtain ⟨x, hx⟩ := hchoose k (by omega)
    refine ⟨l ++ [x], by simp [h1], fun i y hy => ?_⟩
    by_cases hi : i < l.length
    ·exact h2 i y (by rwa [List.getElem?_append_left hi] at hy)
    ·rw [List.getElem?_append_right (by omega)] at hy
     have : i = l.length := by
      have := (List.getElem?_eq_some_iff.1 hy).1
      simp at this; omega
     subst this
     simp at hy
     subst hy
     rw [h1]; exact hx
  obtain ⟨l, h1, h2⟩ := hall len (Nat.le_refl _)
  refine ⟨l, ⟨some a, m, by rw [h1], by omega, rfl, by unfold maxLen at hm; omega, fun _ => ⟨a, rfl, fun j p hj => ?_⟩⟩, ?_, ?_⟩
  ·obtain ⟨⟨cs', g1, g2⟩, _⟩ := h2 j p hj
   obtain ⟨_, g3, g4⟩ := World.cells?_some g1
   refine ⟨cs', by rw [g3, he.sz], g2, fun i u hu => ?_⟩
   have hi : i < P.cellsOf e := by
    have := (List.getElem?_eq_some_iff.1 hu).1
    omega
   rw [← hu, ← g4 i hi, add_add, he.sz]
  ·intro x hx
   obtain ⟨i, hi, rfl⟩ := List.getElem_of_mem hx
   exact (h2 i _ (List.getElem?_eq_getElem hi)).2
  ·rw [h1]
   refine Nat.le_trans (Nat.mul_le_mul_right _ ?_) (of_decide_eq_true hw1.1)
   omega
structure Fs (P : Program) (o : Nat) (fs : List (TypeId × Nat)) {α : Type} (K : Kd α) (wf : α → Prop) : Prop where
 go : ∀ {H : Type} (enc : TypeId × Value → H) (w : World) (n : Nat) (cs : List Value) (xs : List (DataW H × List MemPlace)), cs.length = o + K.sz → xs.length = fs.length →
  (∀ (i : Nat) (f : TypeId × Nat), fs[i]? = some f → DataW.trod enc P w 0 (fun _ => true) true n f.1 ((cs.drop f.2).take (P.cellsOf f.1)) = xs[i]?) →
  (DataW.weightsEach P (fs.map (·.1)) (xs.map (·.1))).all (· ≤ reachBytes) = true → ∃ x : α, K.K w x (cs.drop o) ∧ wf x
theorem one {P : Program} {o : Nat} {t : TypeId} {α : Type} {K : Kd α} {wf : α → Prop} (h : To P t K wf) : Fs P o [(t, o)] K wf := by
 refine ⟨fun enc w n cs xs hl hx hr hw => ?_⟩
 match xs, hx with
 | [x], _ =>
  have h0 := hr 0 _ rfl
  simp only [List.getElem?_cons_zero] at h0
  rw [h.sz, List.take_of_length_le (by simp; omega)] at h0
  simp only [List.map_cons, List.map_nil, DataW.weightsEach, List.append_nil] at hw
  exact h.go enc w n _ x.1 x.2 h0 hw
theorem cons {P : Program} {o : Nat} {t : TypeId} {fs : List (TypeId × Nat)} {α β : Type} {K : Kd α} {wf : α → Prop} {L : Kd β} {wg : β → Prop} (h : To P t K wf) (hs : Fs P (o + K.sz) fs L wg) :
  Fs P o ((t, o) :: fs) (Kd.pair K L) (fun x => wf x.1 ∧ wg x.2) := by
 refine ⟨fun {H} enc w n cs xs hl hx hr hw => ?_⟩
 have hsz : (Kd.pair K L).sz = K.sz + L.sz := rfl
 match xs, hx with
 | x :: xs, hx =>
  have h0 := hr 0 _ rfl
  simp only [List.getElem?_cons_zero] at h0
  rw [h.sz] at h0
  simp only [List.map_cons, DataW.weightsEach, List.all_append, Bool.and_eq_true] at hw
  obtain ⟨a, ha, hwa⟩ := h.go enc w n _ x.1 x.2 h0 hw.1
  obtain ⟨b, hb, hwb⟩ := hs.go enc w n cs xs (by omega) (by simpa using hx) (fun i f hf => by have := hr (i + 1) f (by simpa using hf); simpa using this) hw.2
  refine ⟨(a, b), ⟨_, _, ?_, ha, hb⟩, hwa, hwb⟩
  rw [← List.drop_drop, List.take_append_drop]
theorem struct {P : Program} {t : TypeId} {fs : Array Field} {gs : List (TypeId × Nat)} {α : Type} {K : Kd α} {wf : α → Prop} (ht : P.underlying t = some (.struct fs)) (hg : fs.toList.map (fun f => (f.type, f.offset)) = gs) (hs : P.cellsOf t = K.sz) (h : Fs P 0 gs K wf) : To P t K wf := by
 refine ⟨hs, fun {H} enc w fuel cs d ps hr hw => ?_⟩
 obtain ⟨xs, n, _, hx, hl, hxl, hel⟩ := DataW.trod_struct ht hr
 obtain ⟨rfl, _⟩ := Prod.mk.inj hx
 have := h.go enc w n cs xs (by omega) (by rw [← hg]; simpa using hxl) (fun i f hf => ?_) ?_
 ·simpa using this
 ·rw [← hg] at hf
  simp only [List.getElem?_map, Option.map_eq_some_iff] at hf
  obtain ⟨g, hg1, rfl⟩ := hf
  exact hel i g (by simpa using hg1)
 ·rw [← hg]
  simp only [DataW.weights, ht] at hw
  simpa [List.map_map, Function.comp_def] using hw
theorem weightsAll_each {H : Type} (P : Program) (e : TypeId) : ∀ (l : List (DataW H)) (ts : List TypeId), ts.length = l.length → (∀ t ∈ ts, t = e) → DataW.weightsEach P ts l = DataW.weightsAll P e l
 | [], [], _, _ => rfl
 | [], _ :: _, h, _ => by simp at h
 | _ :: _, [], h, _ => by simp at h
 | d :: l, t :: ts, h, ht => by
  simp only [DataW.weightsEach, DataW.weightsAll]
  rw [ht t (by simp), weightsAll_each P e l ts (by simpa using h) (fun x hx => ht x (by simp [hx]))]
theorem array {P : Program} {t e : TypeId} {n s : Nat} {α : Type} {K : Kd α} {wf : α → Prop} (ht : P.underlying t = some (.array n e)) (he : P.cellsOf e = s) (hs : P.cellsOf t = K.sz) (h : Fs P 0 ((List.range n).map fun i => (e, i * s)) K wf) : To P t K wf := by
 refine ⟨hs, fun {H} enc w fuel cs d ps hr hw => ?_⟩
 obtain ⟨xs, m, _, hx, hl, hxl, hel⟩ := DataW.trod_array ht hr
 obtain ⟨rfl, _⟩ := Prod.mk.inj hx
 have := h.go enc w m cs xs (by omega) (by simpa using hxl) (fun i f hf => ?_) ?_
 ·simpa using this
 ·simp only [List.getElem?_map, Option.map_eq_some_iff] at hf
  obtain ⟨g, hg1, rfl⟩ := hf
  have hi : i < n := by have := (List.getElem?_eq_some_iff.1 hg1).1; simpa using this
  have hgi : g = i := by
   have := (List.getElem?_eq_some_iff.1 hg1).2
   simpa using this.symm
  subst hgi
  have := hel g hi
  rw [he] at this ⊢
  exact this
 ·simp only [DataW.weights, ht] at hw
  rw [weightsAll_each P e _ _ (by simp [hxl]) (by simp)]
  exact hw
theorem iso {P : Program} {t : TypeId} {α β : Type} {K : Kd α} {wf : α → Prop} (f : β → α) (g : α → β) (hfg : ∀ a, f (g a) = a) (h : To P t K wf) : To P t (Kd.iso K f) (fun b => wf (f b)) := by
 refine ⟨h.sz, fun {H} enc w fuel cs d ps hr hw => ?_⟩
 obtain ⟨x, h1, h2⟩ := h.go enc w fuel cs d ps hr hw
 refine ⟨g x, ?_, ?_⟩
 ·show K.K w (f (g x)) cs
  rw [hfg]; exact h1
 ·rw [hfg]; exact h2
theorem imp {P : Program} {t : TypeId} {α : Type} {K : Kd α} {wf wf' : α → Prop} (h : To P t K wf) (hi : ∀ x, wf x → wf' x) : To P t K wf' :=
 ⟨h.sz, fun enc w fuel cs d ps hr hw => by
  obtain ⟨x, h1, h2⟩ := h.go enc w fuel cs d ps hr hw
  exact ⟨x, h1, hi x h2⟩⟩
theorem at_param {P : Program} {t : TypeId} {α : Type} {K : Kd α} {wf : α → Prop} (h : To P t K wf) {H : Type} {enc : TypeId × Value → H} {w : World} {v : Value} {d : DataW H} {ps : List MemPlace} {ts : List TypeId} {ds : List (DataW H)} {j : Nat}
  (hsz : (DataW.weightsEach P ts ds).all (· ≤ reachBytes) = true) (ht : ts[j]? = some t) (hd : ds[j]? = some d) (hr : DataW.Trod enc P w 0 (fun _ => true) true t v d ps) : ∃ x : α, K.K w x v.cells.toList ∧ wf x := by
 obtain ⟨fuel, hf⟩ := hr
 refine h.go enc w fuel _ d ps hf ?_
 rw [List.all_eq_true]
 intro x hx
 exact List.all_eq_true.1 hsz x (DataW.weights_mem_each ht hd x hx)
end Go.Proofs.Ytoogchgoiciggaa.Open

set_option linter.unusedVariables false
namespace Go.Proofs.Ytoogchgoiciggaa.Q
open Go.RowKit Go.Proofs.Ytoogchgoiciggaa.Q Go.Proofs.YtoogchgoiciggaaW.PrintWords Go.Proofs.YtoogchgoiciggaaW.PrintLast Go.Proofs.YtoogchgoiciggaaW.PrintMore
open Go.Proofs.Ytoogchgoiciggaa
def wf23 (x : S23) : Prop := (x.f0.size ≤ 140737488351232) ∧ (x.f1.size ≤ 140737488351232) ∧ (x.f2.size ≤ 140737488351232) ∧ (True)
theorem to23 : Open.To Try.prog 23 k23 wf23 := Open.imp (Open.iso (fun x : S23 => (x.f0, (x.f1, (x.f2, x.f3)))) (fun y => (⟨y.1, y.2.1, y.2.2.1, y.2.2.2⟩ : S23)) (fun _ => rfl) (Open.struct Try.underlying23 (by rfl) (by kernel_rfl) (show Open.Fs Try.prog 0 [(9, 0), (9, 1), (9, 2), (4, 3)] _ _ from (Open.cons (Open.string Try.underlying9 (by kernel_rfl)) (Open.cons (Open.string Try.underlying9 (by kernel_rfl)) (Open.cons (Open.string Try.underlying9 (by kernel_rfl)) (Open.one (Open.bool Try.underlying4 (by kernel_rfl))))))))) (fun _ h => h)
def wf25 (x : S25) : Prop := (wf23 x.f0) ∧ (True) ∧ ((Lit.int .u8 x.f2).wf = true)
theorem to25 : Open.To Try.prog 25 k25 wf25 := Open.imp (Open.iso (fun x : S25 => (x.f0, (x.f1, x.f2))) (fun y => (⟨y.1, y.2.1, y.2.2⟩ : S25)) (fun _ => rfl) (Open.struct Try.underlying25 (by rfl) (by kernel_rfl) (show Open.Fs Try.prog 0 [(23, 0), (4, 4), (5, 5)] _ _ from (Open.cons to23 (Open.cons (Open.bool Try.underlying4 (by kernel_rfl)) (Open.one (Open.int Try.underlying5 (by kernel_rfl)))))))) (fun _ h => h)
def wf28 (x : S28) : Prop := ((Lit.int .u64 x.f0).wf = true) ∧ ((Lit.int .u64 x.f1).wf = true) ∧ ((Lit.int .u64 x.f2).wf = true) ∧ ((Lit.int .u64 x.f3).wf = true)
theorem to28 : Open.To Try.prog 28 k28 wf28 := Open.imp (Open.iso (fun x : S28 => (x.f0, (x.f1, (x.f2, x.f3)))) (fun y => (⟨y.1, y.2.1, y.2.2.1, y.2.2.2⟩ : S28)) (fun _ => rfl) (Open.array (n := 4) (e := 26) (s := 1) Try.underlying28 (by kernel_rfl) (by kernel_rfl) (show Open.Fs Try.prog 0 [(26, 0), (26, 1), (26, 2), (26, 3)] _ _ from (Open.cons (Open.int Try.underlying26 (by kernel_rfl)) (Open.cons (Open.int Try.underlying26 (by kernel_rfl)) (Open.cons (Open.int Try.underlying26 (by kernel_rfl)) (Open.one (Open.int Try.underlying26 (by kernel_rfl))))))))) (fun _ h => h)
def wf30 (x : S30) : Prop := (wf28 x.f0) ∧ ((Lit.int .i64 x.f1).wf = true)
theorem to30 : Open.To Try.prog 30 k30 wf30 := Open.imp (Open.iso (fun x : S30 => (x.f0, x.f1)) (fun y => (⟨y.1, y.2⟩ : S30)) (fun _ => rfl) (Open.struct Try.underlying30 (by rfl) (by kernel_rfl) (show Open.Fs Try.prog 0 [(28, 0), (3, 4)] _ _ from (Open.cons to28 (Open.one (Open.int Try.underlying3 (by kernel_rfl))))))) (fun _ h => h)
def wf32 (x : S32) : Prop := (wf30 x.f0) ∧ (True)
theorem to32 : Open.To Try.prog 32 k32 wf32 := Open.imp (Open.iso (fun x : S32 => (x.f0, x.f1)) (fun y => (⟨y.1, y.2⟩ : S32)) (fun _ => rfl) (Open.struct Try.underlying32 (by rfl) (by kernel_rfl) (show Open.Fs Try.prog 0 [(30, 0), (4, 5)] _ _ from (Open.cons to30 (Open.one (Open.bool Try.underlying4 (by kernel_rfl))))))) (fun _ h => h)
def wf35 (x : S35) : Prop := (wf32 x.f0) ∧ ((∀ x_ ∈ x.f1, wf25 x_) ∧ x.f1.length * 64 ≤ 140737488351232) ∧ (True)
theorem to35 : Open.To Try.prog 35 k35 wf35 := Open.imp (Open.iso (fun x : S35 => (x.f0, (x.f1, x.f2))) (fun y => (⟨y.1, y.2.1, y.2.2⟩ : S35)) (fun _ => rfl) (Open.struct Try.underlying35 (by rfl) (by kernel_rfl) (show Open.Fs Try.prog 0 [(32, 0), (33, 6), (4, 7)] _ _ from (Open.cons to32 (Open.cons (Open.slice (e := 25) (B := 64) Try.underlying33 (by kernel_rfl) (by kernel_rfl) to25) (Open.one (Open.bool Try.underlying4 (by kernel_rfl)))))))) (fun _ h => h)
end Go.Proofs.Ytoogchgoiciggaa.Q

set_option linter.unusedVariables false
set_option linter.unusedSimpArgs false
namespace Go.Proofs.Ytoogchgoiciggaa.Pure
open Go.RowKit Go.Proofs.YtoogchgoiciggaaW.PrintWords Go.Proofs.YtoogchgoiciggaaW.PrintLast Go.Proofs.YtoogchgoiciggaaW.PrintMore
def bl (s : ByteArray) : List Nat := s.data.toList.map UInt8.toNat
theorem bl_length (s : ByteArray) : (bl s).length = s.size := by unfold bl; rw [List.length_map, Array.length_toList]; rfl
theorem map_toNat_inj : ∀ {l m : List UInt8}, l.map UInt8.toNat = m.map UInt8.toNat → l = m
 | [], [], _ => rfl
 | [], _ :: _, h => by simp at h
 | _ :: _, [], h => by simp at h
 | a :: l, b :: m, h => by
  simp only [List.map_cons, List.cons.injEq] at h
  rw [UInt8.toNat_inj.1 h.1, map_toNat_inj h.2]
theorem ba_ext {s t : ByteArray} (h : s.data.toList = t.data.toList) : s = t := by
 cases s; cases t
 simp only [ByteArray.mk.injEq]
 exact Array.toList_inj.1 h
theorem bl_inj {s t : ByteArray} (h : bl s = bl t) : s = t := ba_ext (map_toNat_inj h)
theorem toList_data (s : ByteArray) : s.toList = s.data.toList := by
 exact ByteArray.toList_eq s
theorem toList_iff {s t : ByteArray} : s.toList = t.toList ↔ s = t := by
 rw [toList_data, toList_data]; exact ⟨ba_ext, fun h => by rw [h]⟩
def NL (l : List Nat) : List Int := l.map fun n : Nat => (n : Int)
theorem wrap_u64 {x : Int} (h0 : 0 ≤ x) (h1 : x < 18446744073709551616) : IntKind.u64.wrap x = x := by
 simp only [IntKind.wrap_u64]; omega
theorem wrap64_id {x : Int} (h0 : -9223372036854775808 ≤ x) (h1 : x ≤ 9223372036854775807) : wrap64 x = x := by
 unfold wrap64; omega
end Go.Proofs.Ytoogchgoiciggaa.Pure

set_option linter.unusedVariables false
set_option linter.unusedSimpArgs false
namespace Go.Proofs.Ytoogchgoiciggaa.Pure
open Go.RowKit Go.Proofs.Ytoogchgoiciggaa.Q Go.Proofs.YtoogchgoiciggaaW.PrintWords Go.Proofs.YtoogchgoiciggaaW.PrintLast Go.Proofs.YtoogchgoiciggaaW.PrintMore Go.Proofs.Ytoogchgoiciggaa.Plain
theorem u8_of {x : Int} (h : (Lit.int .u8 x).wf = true) : 0 ≤ x ∧ x ≤ 255 := by
 have h : IntKind.u8.min ≤ x ∧ x ≤ IntKind.u8.max := by simpa only [Lit.wf, Bool.and_eq_true, decide_eq_true_eq] using h
 exact h
theorem u64_of {x : Int} (h : (Lit.int .u64 x).wf = true) : 0 ≤ x ∧ x ≤ 18446744073709551615 := by
 have h : IntKind.u64.min ≤ x ∧ x ≤ IntKind.u64.max := by simpa only [Lit.wf, Bool.and_eq_true, decide_eq_true_eq] using h
 exact h
def own (a b c d e : Int) : Int := if e = 1 then a else if e = 2 then b else if e = 3 then c else if e = 4 then d else 0
def okS (a b c d e : Int) : Prop := (a ≤ 1152921504606846976 ∧ b ≤ 1152921504606846976 ∧ c ≤ 1152921504606846976 ∧ d ≤ 1152921504606846976) ∧ 0 < own a b c d e
theorem okS_dc {a b c d e : Int} (h : okS a b c d e) : 1 ≤ e ∧ e ≤ 4 := by
 have h := h.2
 unfold own at h
 by_cases h1 : e = 1
 ·omega
 by_cases h2 : e = 2
 ·omega
 by_cases h3 : e = 3
 ·omega
 by_cases h4 : e = 4
 ·omega
 rw [if_neg h1, if_neg h2, if_neg h3, if_neg h4] at h
 omega
theorem mark_loop (v0 v1 v2 v3 d D : Int) (k : Nat) : tenementlaw08_Mark_mark.l0 (k + 4) 0 v0 v1 v2 v3 d true 0 0 0 0 D =
  (if D = 1 then some (IntKind.u64.wrap (1 + Int.tmod v0 4), Int.tmod v1 4, Int.tmod v2 4, 0, D) else if D = 2 then some (Int.tmod v0 4, IntKind.u64.wrap (1 + Int.tmod v1 4), Int.tmod v2 4, 0, D) else
     if D = 3 then some (Int.tmod v0 4, Int.tmod v1 4, IntKind.u64.wrap (1 + Int.tmod v2 4), 0, D) else if D = 4 then some (Int.tmod v0 4, Int.tmod v1 4, Int.tmod v2 4, IntKind.u64.wrap (1 + 0), D) else none) := by
 rw [tenementlaw08_Mark_mark.l0, if_pos (by omega), if_pos rfl, show wrap64 (0 + 1) = 1 from wrap64_id (by omega) (by omega)]
 rw [tenementlaw08_Mark_mark.l0, if_pos (by omega), if_neg (by omega), if_pos rfl, show wrap64 (1 + 1) = 2 from wrap64_id (by omega) (by omega)]
 rw [tenementlaw08_Mark_mark.l0, if_pos (by omega), if_neg (by omega), if_neg (by omega), if_pos rfl, show wrap64 (2 + 1) = 3 from wrap64_id (by omega) (by omega)]
 rw [tenementlaw08_Mark_mark.l0, if_neg (by omega)]
theorem mark_own {v0 v1 v2 v3 d : Int} (h0 : (Lit.int .u64 v0).wf = true) (h1 : (Lit.int .u64 v1).wf = true) (h2 : (Lit.int .u64 v2).wf = true) {k : Nat} (hk : 4 ≤ k) :
  ∃ n0 n1 n2 n3 dc : Nat, tenementlaw08_Mark_mark.f k v0 v1 v2 v3 d true = some ((n0 : Int), (n1 : Int), (n2 : Int), (n3 : Int), (dc : Int)) ∧ (n0 ≤ 4 ∧ n1 ≤ 4 ∧ n2 ≤ 4 ∧ n3 ≤ 4) ∧ 1 ≤ dc ∧ dc ≤ 3 ∧ okS n0 n1 n2 n3 dc := by
 have h0 := u64_of h0
 have h1 := u64_of h1
 have h2 := u64_of h2
 obtain ⟨k, rfl⟩ : ∃ m, k = m + 4 := ⟨k - 4, by omega⟩
 unfold tenementlaw08_Mark_mark.f
 rw [if_pos rfl]
 have hw : 0 ≤ IntKind.u64.wrap d := by rw [IntKind.wrap_u64]; omega
 have hD : wrap64 (1 + (wrap64 (Int.tmod (IntKind.u64.wrap d) 3))) = 1 + (IntKind.u64.wrap d) % 3 := by
  rw [Int.tmod_eq_emod_of_nonneg hw, wrap64_id (x := (IntKind.u64.wrap d) % 3) (by omega) (by omega), wrap64_id (by omega) (by omega)]
 rw [hD, mark_loop, Int.tmod_eq_emod_of_nonneg h0.1, Int.tmod_eq_emod_of_nonneg h1.1, Int.tmod_eq_emod_of_nonneg h2.1, wrap_u64 (x := 1 + v0 % 4) (by omega) (by omega), wrap_u64 (x := 1 + v1 % 4) (by omega) (by omega), wrap_u64 (x := 1 + v2 % 4) (by omega) (by omega)]
 generalize IntKind.u64.wrap d = q at hw ⊢
 clear hD
 have c : q % 3 = 0 ∨ q % 3 = 1 ∨ q % 3 = 2 := by omega
 rcases c with c | c | c
 ·rw [c, if_pos (by omega)]
  refine ⟨(1 + v0 % 4).toNat, (v1 % 4).toNat, (v2 % 4).toNat, 0, 1, by rw [Int.toNat_of_nonneg (by omega), Int.toNat_of_nonneg (by omega), Int.toNat_of_nonneg (by omega)]; rfl, by omega, by omega, by omega, by omega, ?_⟩
  unfold own
  rw [if_pos (by omega)]
  omega
 ·rw [c, if_neg (by omega), if_pos (by omega)]
  refine ⟨(v0 % 4).toNat, (1 + v1 % 4).toNat, (v2 % 4).toNat, 0, 2, by rw [Int.toNat_of_nonneg (by omega), Int.toNat_of_nonneg (by omega), Int.toNat_of_nonneg (by omega)]; rfl, by omega, by omega, by omega, by omega, ?_⟩
  unfold own
  rw [if_neg (by omega), if_pos (by omega)]
  omega
 ·rw [c, if_neg (by omega), if_neg (by omega), if_pos (by omega)]
  refine ⟨(v0 % 4).toNat, (v1 % 4).toNat, (1 + v2 % 4).toNat, 0, 3, by rw [Int.toNat_of_nonneg (by omega), Int.toNat_of_nonneg (by omega), Int.toNat_of_nonneg (by omega)]; rfl, by omega, by omega, by omega, by omega, ?_⟩
  unfold own
  rw [if_neg (by omega), if_neg (by omega), if_pos (by omega)]
  omega
def vs (n : Nat) : ByteArray := strOfNums (NL (vary n))
theorem vright_f (a b c d : Int) : vec_Right.f a b c d = some (decide (a ≤ 1152921504606846976 ∧ b ≤ 1152921504606846976 ∧ c ≤ 1152921504606846976 ∧ d ≤ 1152921504606846976)) := by
 have h : ∀ x : Int, (mx x 1152921504606846976 == (1152921504606846976 : Int)) = decide (x ≤ 1152921504606846976) := by
  intro x
  rw [Bool.eq_iff_iff, beq_iff_eq, decide_eq_true_eq]
  unfold mx
  split <;> omega
 unfold vec_Right.f vec_Leq.f vec_Join.f
 simp only [Option.bind_some, h]
 simp only [Bool.decide_and]

def nb (n k : Nat) : ByteArray := strOfNums (NL (be k n))
theorem numL_be (n k : Nat) : numL (n : Int) k = NL (be k n) := by
 unfold numL NL
 have h : be k n = (List.range k).map fun j => n / 256 ^ (k - 1 - j) % 256 := by
  induction k with
  | zero => rfl
  | succ k ih =>
   rw [List.range_succ_eq_map, List.map_cons, List.map_map]
   simp only [be]
   congr 1
   rw [ih]
   apply List.map_congr_left
   intro j hj
   have := List.mem_range.1 hj
   simp only [Function.comp]
   rw [show k - 1 - j = k + 1 - 1 - (j + 1) by omega]
 rw [h, List.map_map]
 apply List.map_congr_left
 intro j hj
 simp only [Function.comp, Nat.pow_mul, Int.natCast_emod, Int.natCast_ediv]
 rfl
theorem Number_f (n : Nat) (k : Int) (h1 : 1 ≤ k) (h8 : k ≤ 8) : pack_Number.f (n : Int) k = some (nb n k.toNat) := by
 unfold pack_Number.f
 rw [if_neg (by omega), if_neg (by omega), numL_be]; rfl
theorem sN_f (a b c d e : Int) : stamp_Stamp_N.f a b c d e = some (own a b c d e) := rfl
theorem sright_true {a b c d e : Int} (h : okS a b c d e) : stamp_Right.f a b c d e = some true := by
 unfold stamp_Right.f
 rw [vright_f, Option.bind_some, if_pos (decide_eq_true h.1), sN_f, Option.bind_some, decide_eq_true h.2]
theorem sright_false {a b c d e : Int} (h : ¬ okS a b c d e) : stamp_Right.f a b c d e = some false := by
 unfold stamp_Right.f
 rw [vright_f, Option.bind_some]
 by_cases c1 : (a ≤ 1152921504606846976 ∧ b ≤ 1152921504606846976 ∧ c ≤ 1152921504606846976 ∧ d ≤ 1152921504606846976)
 ·rw [if_pos (decide_eq_true c1), sN_f, Option.bind_some, decide_eq_false (fun c2 => h ⟨c1, c2⟩)]
 ·rw [if_neg (by simpa using c1)]
end Go.Proofs.Ytoogchgoiciggaa.Pure
