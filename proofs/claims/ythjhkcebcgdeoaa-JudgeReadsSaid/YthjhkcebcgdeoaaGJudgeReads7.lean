import Derived.Test.YthjhkcebcgdeoaaGJudgeReads1
import Derived.Deep.Slices
import Derived.OpenShut
import Derived.SizedLaws
import Derived.ChangeArms
import Derived.WideShapes
import Derived.ChangeShapes
import Derived.Test.YthjhkcebcgdeoaaGJudgeReads2
import Derived.KernelRfl
import Derived.Test.YthjhkcebcgdeoaaGJudgeReads0
import Derived.Test.YthjhkcebcgdeoaaGJudgeReads6
set_option linter.unusedVariables false
set_option linter.unusedSimpArgs false
namespace Go.Proofs.Ythjhkcebcgdeoaa.Open
open Go Go.RowKit Go.Deep Go.WideShapes Go.ChangeShapes Go.Proofs.YthjhkcebcgdeoaaW.PrintWords Go.Proofs.YthjhkcebcgdeoaaW.PrintLast Go.Proofs.YthjhkcebcgdeoaaW.PrintMore
structure To (P : Program) (t : TypeId) {α : Type} (K : Kd α) (wf : α → Prop) : Prop where
 sz : P.cellsOf t = K.sz
 go : ∀ {H : Type} (enc : TypeId × Value → H) (w : World) (fuel : Nat) (cs : List Value) (d : DataW H) (ps : List MemPlace),
  DataW.trod enc P w 0 (fun _ => true) true fuel t cs = some (d, ps) → (DataW.weights P t d).all (· ≤ reachBytes) = true → ∃ x : α, K.K w x cs ∧ wf x
theorem int {P : Program} {t : TypeId} {k : IntKind} (ht : P.underlying t = some (.int k)) (hs : P.cellsOf t = 1) : To P t (Kd.int k) (fun n => (Lit.int k n).wf = true) := by
 refine ⟨hs, fun enc w fuel cs d ps h _ => ?_⟩
 obtain ⟨n, rfl, _, hw⟩ := DataW.trod_int ht h
 exact ⟨n, rfl, hw⟩
theorem bool {P : Program} {t : TypeId} (ht : P.underlying t = some .bool) (hs : P.cellsOf t = 1) : To P t Kd.bool (fun _ => True) := by
 refine ⟨hs, fun enc w fuel cs d ps h _ => ?_⟩
 obtain ⟨b, rfl, _⟩ := DataW.trod_bool ht h
 exact ⟨b, rfl, trivial⟩
theorem string {P : Program} {t : TypeId} (ht : P.underlying t = some .string) (hs : P.cellsOf t = 1) : To P t Kd.string (fun s => s.size ≤ 140737488351232) := by
 refine ⟨hs, fun enc w fuel cs d ps h hw => ?_⟩
 obtain ⟨s, rfl, hx, _⟩ := DataW.trod_string ht h
 obtain ⟨rfl, _⟩ := Prod.mk.inj hx
 refine ⟨s, rfl, ?_⟩
 simp only [DataW.weights, List.all_cons, List.all_nil, Bool.and_true, reachBytes, Array.length_toList] at hw
 exact of_decide_eq_true hw
theorem weightsAll_mem {H : Type} {P : Program} {e : TypeId} : ∀ {l : List (DataW H)} {d : DataW H}, d ∈ l → (DataW.weightsAll P e l).all (· ≤ reachBytes) = true → (DataW.weights P e d).all (· ≤ reachBytes) = true
 | [], _, h, _ => by cases h
 | a :: l, d, h, hw => by
  simp only [DataW.weightsAll, List.all_append, Bool.and_eq_true] at hw
  rcases List.mem_cons.1 h with rfl | h
  ·exact hw.1
  ·exact weightsAll_mem h hw.2
theorem add_add (a : Addr) (i j : Nat) : (a.add i).add j = a.add (i + j) := by
 unfold Addr.add
 by_cases h1 : i = 0 <;> by_cases h2 : j = 0 <;> simp [h1, h2, Nat.add_assoc]
theorem slice {P : Program} {t e : TypeId} {α : Type} {K : Kd α} {wf : α → Prop} {B : Nat} (ht : P.underlying t = some (.slice e)) (hs : P.cellsOf t = 1) (hB : P.bytesOf e = B) (he : To P e K wf) :
  To P t (Kd.slice e K) (fun l => (∀ x ∈ l, wf x) ∧ l.length * B ≤ 140737488351232) := by
 refine ⟨hs, fun {H} enc w fuel cs d ps h hw => ?_⟩
 rcases open_slice ht h with ⟨rfl, _⟩ | ⟨a, len, cap, m, n, D, Pl, rfl, _, hl, hm, hmc, hx, hel⟩
 ·exact ⟨[], ⟨none, 0, rfl, Nat.le_refl _, rfl, by simp, fun h => absurd h (by simp)⟩, by simp, by simp⟩
 ·obtain ⟨rfl, _⟩ := Prod.mk.inj hx
  simp only [if_true] at hmc
  subst hmc
  have hw1 := hw
  simp only [DataW.weights, ht, List.all_cons, List.all_append, Bool.and_eq_true, decide_eq_true_eq, List.length_map, List.length_range, hB, reachBytes] at hw1
  have hchoose : ∀ i, i < len → ∃ x : α, (∃ cs', w.cells? 0 (a.add (i * P.cellsOf e)) (P.cellsOf e) = some cs' ∧ K.K w x cs') ∧ wf x := by
   intro i hi
   obtain ⟨cs', h1, h2⟩ := hel i (by omega)
   obtain ⟨x, hx1, hx2⟩ := he.go enc w n cs' (D i) (Pl i) h2 (weightsAll_mem (List.mem_map.2 ⟨i, by simpa using hi, rfl⟩) hw1.2.1)
   exact ⟨x, ⟨cs', h1, hx1⟩, hx2⟩
  have hall : ∀ k, k ≤ len → ∃ l : List α, l.length = k ∧ ∀ i x, l[i]? = some x → (∃ cs', w.cells? 0 (a.add (i * P.cellsOf e)) (P.cellsOf e) = some cs' ∧ K.K w x cs') ∧ wf x := by
   intro k
   induction k with
   | zero => intro _; exact ⟨[], rfl, fun i x h => by simp at h⟩
   | succ k ih =>
    intro hk
    obtain ⟨l, h1, h2⟩ := ih (by omega)
    obtain ⟨x, hx⟩ := hchoose k (by omega)
    refine ⟨l ++ [x], by simp [h1], fun i y hy => ?_⟩
    by_cases hi : i < l.length
    ·exact h2 i y (by rwa [List.getElem?_append_left hi] at hy)
    ·rw [List.getElem?_append_right (by omega)] at hy
     have : i = l.length := by
      have := (List.getElem?_eq_some_iff.1 hy).1
      simp at this; omega
     subst this
     simp at hy
     subst hy
     rw [h1]; exact hx
  obtain ⟨l, h1, h2⟩ := hall len (Nat.le_refl _)
  refine ⟨l, ⟨some a, m, by rw [h1], by omega, rfl, by unfold maxLen at hm; omega, fun _ => ⟨a, rfl, fun j p hj => ?_⟩⟩, ?_, ?_⟩
  ·obtain ⟨⟨cs', g1, g2⟩, _⟩ := h2 j p hj
   obtain ⟨_, g3, g4⟩ := World.cells?_some g1
   refine ⟨cs', by rw [g3, he.sz], g2, fun i u hu => ?_⟩
   have hi : i < P.cellsOf e := by
    have := (List.getElem?_eq_some_iff.1 hu).1
    omega
   rw [← hu, ← g4 i hi, add_add, he.sz]
  ·intro x hx
   obtain ⟨i, hi, rfl⟩ := List.getElem_of_mem hx
   exact (h2 i _ (List.getElem?_eq_getElem hi)).2
  ·rw [h1]
   refine Nat.le_trans (Nat.mul_le_mul_right _ ?_) (of_decide_eq_true hw1.1)
   omega
structure Fs (P : Program) (o : Nat) (fs : List (TypeId × Nat)) {α : Type} (K : Kd α) (wf : α → Prop) : Prop where
 go : ∀ {H : Type} (enc : TypeId × Value → H) (w : World) (n : Nat) (cs : List Value) (xs : List (DataW H × List MemPlace)), cs.length = o + K.sz → xs.length = fs.length →
  (∀ (i : Nat) (f : TypeId × Nat), fs[i]? = some f → DataW.trod enc P w 0 (fun _ => true) true n f.1 ((cs.drop f.2).take (P.cellsOf f.1)) = xs[i]?) →
  (DataW.weightsEach P (fs.map (·.1)) (xs.map (·.1))).all (· ≤ reachBytes) = true → ∃ x : α, K.K w x (cs.drop o) ∧ wf x
theorem one {P : Program} {o : Nat} {t : TypeId} {α : Type} {K : Kd α} {wf : α → Prop} (h : To P t K wf) : Fs P o [(t, o)] K wf := by
 refine ⟨fun enc w n cs xs hl hx hr hw => ?_⟩
 match xs, hx with
 | [x], _ =>
  have h0 := hr 0 _ rfl
  simp only [List.getElem?_cons_zero] at h0
  rw [h.sz, List.take_of_length_le (by simp; omega)] at h0
  simp only [List.map_cons, List.map_nil, DataW.weightsEach, List.append_nil] at hw
  exact h.go enc w n _ x.1 x.2 h0 hw
theorem cons {P : Program} {o : Nat} {t : TypeId} {fs : List (TypeId × Nat)} {α β : Type} {K : Kd α} {wf : α → Prop} {L : Kd β} {wg : β → Prop} (h : To P t K wf) (hs : Fs P (o + K.sz) fs L wg) :
  Fs P o ((t, o) :: fs) (Kd.pair K L) (fun x => wf x.1 ∧ wg x.2) := by
 refine ⟨fun {H} enc w n cs xs hl hx hr hw => ?_⟩
 have hsz : (Kd.pair K L).sz = K.sz + L.sz := rfl
 match xs, hx with
 | x :: xs, hx =>
  have h0 := hr 0 _ rfl
  simp only [List.getElem?_cons_zero] at h0
  rw [h.sz] at h0
  simp only [List.map_cons, DataW.weightsEach, List.all_append, Bool.and_eq_true] at hw
  obtain ⟨a, ha, hwa⟩ := h.go enc w n _ x.1 x.2 h0 hw.1
  obtain ⟨b, hb, hwb⟩ := hs.go enc w n cs xs (by omega) (by simpa using hx) (fun i f hf => by have := hr (i + 1) f (by simpa using hf); simpa using this) hw.2
  refine ⟨(a, b), ⟨_, _, ?_, ha, hb⟩, hwa, hwb⟩
  rw [← List.drop_drop, List.take_append_drop]
theorem struct {P : Program} {t : TypeId} {fs : Array Field} {gs : List (TypeId × Nat)} {α : Type} {K : Kd α} {wf : α → Prop} (ht : P.underlying t = some (.struct fs)) (hg : fs.toList.map (fun f => (f.type, f.offset)) = gs) (hs : P.cellsOf t = K.sz) (h : Fs P 0 gs K wf) : To P t K wf := by
 refine ⟨hs, fun {H} enc w fuel cs d ps hr hw => ?_⟩
 obtain ⟨xs, n, _, hx, hl, hxl, hel⟩ := DataW.trod_struct ht hr
 obtain ⟨rfl, _⟩ := Prod.mk.inj hx
 have := h.go enc w n cs xs (by omega) (by rw [← hg]; simpa using hxl) (fun i f hf => ?_) ?_
 ·simpa using this
 ·rw [← hg] at hf
  simp only [List.getElem?_map, Option.map_eq_some_iff] at hf
  obtain ⟨g, hg1, rfl⟩ := hf
  exact hel i g (by simpa using hg1)
 ·rw [← hg]
  simp only [DataW.weights, ht] at hw
  simpa [List.map_map, Function.comp_def] using hw
theorem weightsAll_each {H : Type} (P : Program) (e : TypeId) : ∀ (l : List (DataW H)) (ts : List TypeId), ts.length = l.length → (∀ t ∈ ts, t = e) → DataW.weightsEach P ts l = DataW.weightsAll P e l
 | [], [], _, _ => rfl
 | [], _ :: _, h, _ => by simp at h
 | _ :: _, [], h, _ => by simp at h
 | d :: l, t :: ts, h, ht => by
  simp only [DataW.weightsEach, DataW.weightsAll]
  rw [ht t (by simp), weightsAll_each P e l ts (by simpa using h) (fun x hx => ht x (by simp [hx]))]
theorem array {P : Program} {t e : TypeId} {n s : Nat} {α : Type} {K : Kd α} {wf : α → Prop} (ht : P.underlying t = some (.array n e)) (he : P.cellsOf e = s) (hs : P.cellsOf t = K.sz) (h : Fs P 0 ((List.range n).map fun i => (e, i * s)) K wf) : To P t K wf := by
 refine ⟨hs, fun {H} enc w fuel cs d ps hr hw => ?_⟩
 obtain ⟨xs, m, _, hx, hl, hxl, hel⟩ := DataW.trod_array ht hr
 obtain ⟨rfl, _⟩ := Prod.mk.inj hx
 have := h.go enc w m cs xs (by omega) (by simpa using hxl) (fun i f hf => ?_) ?_
 ·simpa using this
 ·simp only [List.getElem?_map, Option.map_eq_some_iff] at hf
  obtain ⟨g, hg1, rfl⟩ := hf
  have hi : i < n := by have := (List.getElem?_eq_some_iff.1 hg1).1; simpa using this
  have hgi : g = i := by
   have := (List.getElem?_eq_some_iff.1 hg1).2
   simpa using this.symm
  subst hgi
  have := hel g hi
  rw [he] at this ⊢
  exact this
 ·simp only [DataW.weights, ht] at hw
  rw [weightsAll_each P e _ _ (by simp [hxl]) (by simp)]
  exact hw
theorem iso {P : Program} {t : TypeId} {α β : Type} {K : Kd α} {wf : α → Prop} (f : β → α) (g : α → β) (hfg : ∀ a, f (g a) = a) (h : To P t K wf) : To P t (Kd.iso K f) (fun b => wf (f b)) := by
 refine ⟨h.sz, fun {H} enc w fuel cs d ps hr hw => ?_⟩
 obtain ⟨x, h1, h2⟩ := h.go enc w fuel cs d ps hr hw
 refine ⟨g x, ?_, ?_⟩
 ·show K.K w (f (g x)) cs
  rw [hfg]; exact h1
 ·rw [hfg]; exact h2
theorem imp {P : Program} {t : TypeId} {α : Type} {K : Kd α} {wf wf' : α → Prop} (h : To P t K wf) (hi : ∀ x, wf x → wf' x) : To P t K wf' :=
 ⟨h.sz, fun enc w fuel cs d ps hr hw => by
  obtain ⟨x, h1, h2⟩ := h.go enc w fuel cs d ps hr hw
  exact ⟨x, h1, hi x h2⟩⟩
theorem at_param {P : Program} {t : TypeId} {α : Type} {K : Kd α} {wf : α → Prop} (h : To P t K wf) {H : Type} {enc : TypeId × Value → H} {w : World} {v : Value} {d : DataW H} {ps : List MemPlace} {ts : List TypeId} {ds : List (DataW H)} {j : Nat}
  (hsz : (DataW.weightsEach P ts ds).all (· ≤ reachBytes) = true) (ht : ts[j]? = some t) (hd : ds[j]? = some d) (hr : DataW.Trod enc P w 0 (fun _ => true) true t v d ps) : ∃ x : α, K.K w x v.cells.toList ∧ wf x := by
 obtain ⟨fuel, hf⟩ := hr
 refine h.go enc w fuel _ d ps hf ?_
 rw [List.all_eq_true]
 intro x hx
 exact List.all_eq_true.1 hsz x (DataW.weights_mem_each ht hd x hx)
end Go.Proofs.Ythjhkcebcgdeoaa.Open

set_option linter.unusedVariables false
namespace Go.Proofs.Ythjhkcebcgdeoaa.Q
open Go.RowKit Go.Proofs.Ythjhkcebcgdeoaa.Q Go.Proofs.YthjhkcebcgdeoaaW.PrintWords Go.Proofs.YthjhkcebcgdeoaaW.PrintLast Go.Proofs.YthjhkcebcgdeoaaW.PrintMore
open Go.Proofs.Ythjhkcebcgdeoaa
def wf29 (x : S29) : Prop := ((Lit.int .u64 x.f0).wf = true) ∧ ((Lit.int .u64 x.f1).wf = true) ∧ ((Lit.int .u64 x.f2).wf = true) ∧ ((Lit.int .u64 x.f3).wf = true)
theorem to29 : Open.To Try.prog 29 k29 wf29 := Open.imp (Open.iso (fun x : S29 => (x.f0, (x.f1, (x.f2, x.f3)))) (fun y => (⟨y.1, y.2.1, y.2.2.1, y.2.2.2⟩ : S29)) (fun _ => rfl) (Open.array (n := 4) (e := 27) (s := 1) Try.underlying29 (by kernel_rfl) (by kernel_rfl) (show Open.Fs Try.prog 0 [(27, 0), (27, 1), (27, 2), (27, 3)] _ _ from (Open.cons (Open.int Try.underlying27 (by kernel_rfl)) (Open.cons (Open.int Try.underlying27 (by kernel_rfl)) (Open.cons (Open.int Try.underlying27 (by kernel_rfl)) (Open.one (Open.int Try.underlying27 (by kernel_rfl))))))))) (fun _ h => h)
def wf56 (x : S56) : Prop := (wf29 x.f0) ∧ ((Lit.int .i64 x.f1).wf = true)
theorem to56 : Open.To Try.prog 56 k56 wf56 := Open.imp (Open.iso (fun x : S56 => (x.f0, x.f1)) (fun y => (⟨y.1, y.2⟩ : S56)) (fun _ => rfl) (Open.struct Try.underlying56 (by rfl) (by kernel_rfl) (show Open.Fs Try.prog 0 [(29, 0), (3, 4)] _ _ from (Open.cons to29 (Open.one (Open.int Try.underlying3 (by kernel_rfl))))))) (fun _ h => h)
def wf58 (x : S58) : Prop := (wf56 x.f0) ∧ (True)
theorem to58 : Open.To Try.prog 58 k58 wf58 := Open.imp (Open.iso (fun x : S58 => (x.f0, x.f1)) (fun y => (⟨y.1, y.2⟩ : S58)) (fun _ => rfl) (Open.struct Try.underlying58 (by rfl) (by kernel_rfl) (show Open.Fs Try.prog 0 [(56, 0), (4, 5)] _ _ from (Open.cons to56 (Open.one (Open.bool Try.underlying4 (by kernel_rfl))))))) (fun _ h => h)
def wf24 (x : S24) : Prop := (x.f0.size ≤ 140737488351232) ∧ (x.f1.size ≤ 140737488351232) ∧ (x.f2.size ≤ 140737488351232) ∧ (True)
theorem to24 : Open.To Try.prog 24 k24 wf24 := Open.imp (Open.iso (fun x : S24 => (x.f0, (x.f1, (x.f2, x.f3)))) (fun y => (⟨y.1, y.2.1, y.2.2.1, y.2.2.2⟩ : S24)) (fun _ => rfl) (Open.struct Try.underlying24 (by rfl) (by kernel_rfl) (show Open.Fs Try.prog 0 [(9, 0), (9, 1), (9, 2), (4, 3)] _ _ from (Open.cons (Open.string Try.underlying9 (by kernel_rfl)) (Open.cons (Open.string Try.underlying9 (by kernel_rfl)) (Open.cons (Open.string Try.underlying9 (by kernel_rfl)) (Open.one (Open.bool Try.underlying4 (by kernel_rfl))))))))) (fun _ h => h)
def wf26 (x : S26) : Prop := (wf24 x.f0) ∧ (True) ∧ ((Lit.int .u8 x.f2).wf = true)
theorem to26 : Open.To Try.prog 26 k26 wf26 := Open.imp (Open.iso (fun x : S26 => (x.f0, (x.f1, x.f2))) (fun y => (⟨y.1, y.2.1, y.2.2⟩ : S26)) (fun _ => rfl) (Open.struct Try.underlying26 (by rfl) (by kernel_rfl) (show Open.Fs Try.prog 0 [(24, 0), (4, 4), (5, 5)] _ _ from (Open.cons to24 (Open.cons (Open.bool Try.underlying4 (by kernel_rfl)) (Open.one (Open.int Try.underlying5 (by kernel_rfl)))))))) (fun _ h => h)
def wf61 (x : S61) : Prop := (wf58 x.f0) ∧ ((∀ x_ ∈ x.f1, wf26 x_) ∧ x.f1.length * 64 ≤ 140737488351232) ∧ (True)
theorem to61 : Open.To Try.prog 61 k61 wf61 := Open.imp (Open.iso (fun x : S61 => (x.f0, (x.f1, x.f2))) (fun y => (⟨y.1, y.2.1, y.2.2⟩ : S61)) (fun _ => rfl) (Open.struct Try.underlying61 (by rfl) (by kernel_rfl) (show Open.Fs Try.prog 0 [(58, 0), (59, 6), (4, 7)] _ _ from (Open.cons to58 (Open.cons (Open.slice (e := 26) (B := 64) Try.underlying59 (by kernel_rfl) (by kernel_rfl) to26) (Open.one (Open.bool Try.underlying4 (by kernel_rfl)))))))) (fun _ h => h)
def wf31 (x : S31) : Prop := (wf29 x.f0) ∧ (True)
theorem to31 : Open.To Try.prog 31 k31 wf31 := Open.imp (Open.iso (fun x : S31 => (x.f0, x.f1)) (fun y => (⟨y.1, y.2⟩ : S31)) (fun _ => rfl) (Open.struct Try.underlying31 (by rfl) (by kernel_rfl) (show Open.Fs Try.prog 0 [(29, 0), (4, 4)] _ _ from (Open.cons to29 (Open.one (Open.bool Try.underlying4 (by kernel_rfl))))))) (fun _ h => h)
end Go.Proofs.Ythjhkcebcgdeoaa.Q

set_option linter.unusedVariables false
set_option linter.unusedSimpArgs false
namespace Go.Proofs.Ythjhkcebcgdeoaa.Pure
open Go.RowKit Go.Proofs.Ythjhkcebcgdeoaa.Q Go.Proofs.YthjhkcebcgdeoaaW.PrintWords Go.Proofs.YthjhkcebcgdeoaaW.PrintLast Go.Proofs.YthjhkcebcgdeoaaW.PrintMore Go.Proofs.Ythjhkcebcgdeoaa.Plain
theorem u64_of {x : Int} (h : (Lit.int .u64 x).wf = true) : 0 ≤ x ∧ x ≤ 18446744073709551615 := by
 have h : IntKind.u64.min ≤ x ∧ x ≤ IntKind.u64.max := by simpa only [Lit.wf, Bool.and_eq_true, decide_eq_true_eq] using h
 exact h
def own (a b c d e : Int) : Int := if e = 1 then a else if e = 2 then b else if e = 3 then c else if e = 4 then d else 0
def okS (a b c d e : Int) : Prop := (a ≤ 1152921504606846976 ∧ b ≤ 1152921504606846976 ∧ c ≤ 1152921504606846976 ∧ d ≤ 1152921504606846976) ∧ 0 < own a b c d e
theorem mark_loop (v0 v1 v2 v3 d D : Int) (k : Nat) : tenementlaw22_Mark_mark.l0 (k + 4) 0 v0 v1 v2 v3 d true 0 0 0 0 D =
  (if D = 1 then some (IntKind.u64.wrap (1 + Int.tmod v0 4), Int.tmod v1 4, Int.tmod v2 4, 0, D) else if D = 2 then some (Int.tmod v0 4, IntKind.u64.wrap (1 + Int.tmod v1 4), Int.tmod v2 4, 0, D) else
     if D = 3 then some (Int.tmod v0 4, Int.tmod v1 4, IntKind.u64.wrap (1 + Int.tmod v2 4), 0, D) else if D = 4 then some (Int.tmod v0 4, Int.tmod v1 4, Int.tmod v2 4, IntKind.u64.wrap (1 + 0), D) else none) := by
 rw [tenementlaw22_Mark_mark.l0, if_pos (by omega), if_pos rfl, show wrap64 (0 + 1) = 1 from wrap64_id (by omega) (by omega)]
 rw [tenementlaw22_Mark_mark.l0, if_pos (by omega), if_neg (by omega), if_pos rfl, show wrap64 (1 + 1) = 2 from wrap64_id (by omega) (by omega)]
 rw [tenementlaw22_Mark_mark.l0, if_pos (by omega), if_neg (by omega), if_neg (by omega), if_pos rfl, show wrap64 (2 + 1) = 3 from wrap64_id (by omega) (by omega)]
 rw [tenementlaw22_Mark_mark.l0, if_neg (by omega)]
theorem mark_own {v0 v1 v2 v3 d : Int} (h0 : (Lit.int .u64 v0).wf = true) (h1 : (Lit.int .u64 v1).wf = true) (h2 : (Lit.int .u64 v2).wf = true) {k : Nat} (hk : 4 ≤ k) :
  ∃ n0 n1 n2 n3 dc : Nat, tenementlaw22_Mark_mark.f k v0 v1 v2 v3 d true = some ((n0 : Int), (n1 : Int), (n2 : Int), (n3 : Int), (dc : Int)) ∧ (n0 ≤ 4 ∧ n1 ≤ 4 ∧ n2 ≤ 4 ∧ n3 ≤ 4) ∧ 1 ≤ dc ∧ dc ≤ 3 ∧ okS n0 n1 n2 n3 dc := by
 have h0 := u64_of h0
 have h1 := u64_of h1
 have h2 := u64_of h2
 obtain ⟨k, rfl⟩ : ∃ m, k = m + 4 := ⟨k - 4, by omega⟩
 unfold tenementlaw22_Mark_mark.f
 rw [if_pos rfl]
 have hw : 0 ≤ IntKind.u64.wrap d := by rw [IntKind.wrap_u64]; omega
 have hD : wrap64 (1 + (wrap64 (Int.tmod (IntKind.u64.wrap d) 3))) = 1 + (IntKind.u64.wrap d) % 3 := by
  rw [Int.tmod_eq_emod_of_nonneg hw, wrap64_id (x := (IntKind.u64.wrap d) % 3) (by omega) (by omega), wrap64_id (by omega) (by omega)]
 rw [hD, mark_loop, Int.tmod_eq_emod_of_nonneg h0.1, Int.tmod_eq_emod_of_nonneg h1.1, Int.tmod_eq_emod_of_nonneg h2.1, wrap_u64 (x := 1 + v0 % 4) (by omega) (by omega), wrap_u64 (x := 1 + v1 % 4) (by omega) (by omega), wrap_u64 (x := 1 + v2 % 4) (by omega) (by omega)]
 generalize IntKind.u64.wrap d = q at hw ⊢
 clear hD
 have c : q % 3 = 0 ∨ q % 3 = 1 ∨ q % 3 = 2 := by omega
 rcases c with c | c | c
 ·rw [c, if_pos (by omega)]
  refine ⟨(1 + v0 % 4).toNat, (v1 % 4).toNat, (v2 % 4).toNat, 0, 1, by rw [Int.toNat_of_nonneg (by omega), Int.toNat_of_nonneg (by omega), Int.toNat_of_nonneg (by omega)]; rfl, by omega, by omega, by omega, by omega, ?_⟩
  unfold own
  rw [if_pos (by omega)]
  omega
 ·rw [c, if_neg (by omega), if_pos (by omega)]
  refine ⟨(v0 % 4).toNat, (1 + v1 % 4).toNat, (v2 % 4).toNat, 0, 2, by rw [Int.toNat_of_nonneg (by omega), Int.toNat_of_nonneg (by omega), Int.toNat_of_nonneg (by omega)]; rfl, by omega, by omega, by omega, by omega, ?_⟩
  unfold own
  rw [if_neg (by omega), if_pos (by omega)]
  omega
 ·rw [c, if_neg (by omega), if_neg (by omega), if_pos (by omega)]
  refine ⟨(v0 % 4).toNat, (v1 % 4).toNat, (1 + v2 % 4).toNat, 0, 3, by rw [Int.toNat_of_nonneg (by omega), Int.toNat_of_nonneg (by omega), Int.toNat_of_nonneg (by omega)]; rfl, by omega, by omega, by omega, by omega, ?_⟩
  unfold own
  rw [if_neg (by omega), if_neg (by omega), if_pos (by omega)]
  omega
end Go.Proofs.Ythjhkcebcgdeoaa.Pure
