import Derived.Test.YthjhkcebcgdeoaaGJudgeTells2
import Derived.Deep.LoopGhost
import Derived.RegionTactic
import Derived.Test.YthjhkcebcgdeoaaGJudgeTells0
namespace Go.Proofs.Ythjhkcebcgdeoaa.Q
open Go.RowKit Go.Proofs.YthjhkcebcgdeoaaW.PrintWords Go.Proofs.YthjhkcebcgdeoaaW.PrintLast Go.Proofs.YthjhkcebcgdeoaaW.PrintMore
attribute [local go_sem] max2_int min2_int max_two min_two max_three min_three max_four min_four   -- for this text's walks alone
set_option linter.unusedVariables false
set_option linter.unusedSimpArgs false
attribute [local go_sem] ixA29_0 ixA29_1 ixA29_2 ixA29_3   -- for this text's walks alone
attribute [local go_sem high] eqA29
def vec_Leq.f (a0_0 : Int) (a0_1 : Int) (a0_2 : Int) (a0_3 : Int) (a1_0 : Int) (a1_1 : Int) (a1_2 : Int) (a1_3 : Int) : Option (Bool) := (vec_Join.f a0_0 a0_1 a0_2 a0_3 a1_0 a1_1 a1_2 a1_3).bind fun bt110 => (some (bt110.1 == a1_0 && (bt110.2.1 == a1_1 && (bt110.2.2.1 == a1_2 && (bt110.2.2.2 == a1_3)))))
set_option maxHeartbeats 8000000 in
set_option maxRecDepth 100000 in
theorem vec_Leq.calls (a0_0 : Int) (a0_1 : Int) (a0_2 : Int) (a0_3 : Int) (a1_0 : Int) (a1_1 : Int) (a1_2 : Int) (a1_3 : Int) (r : Bool) (w : World) (h : vec_Leq.f a0_0 a0_1 a0_2 a0_3 a1_0 a1_1 a1_2 a1_3 = some r) :
  Calls Try.prog 61 #[.agg #[.int .u64 a0_0, .int .u64 a0_1, .int .u64 a0_2, .int .u64 a0_3], .agg #[.int .u64 a1_0, .int .u64 a1_1, .int .u64 a1_2, .int .u64 a1_3]] w fun e w' => e = .returned (.bool r) ∧ Below w.heap.size w w' := by
 have hu29 := Try.underlying29
 have HB := Aside0.mk (Below.refl w.heap.size w)
 have H : ((vec_Join.f a0_0 a0_1 a0_2 a0_3 a1_0 a1_1 a1_2 a1_3).bind fun bt110 => (some (bt110.1 == a1_0 && (bt110.2.1 == a1_1 && (bt110.2.2.1 == a1_2 && (bt110.2.2.2 == a1_3)))))) = some r := h
 clear h
 replace H := Option.bind_eq_some_iff.mp H
 obtain ⟨⟨t110, t111, t112, t113⟩, A30, H⟩ := H
 replace H : (some (t110 == a1_0 && (t111 == a1_1 && (t112 == a1_2 && (t113 == a1_3))))) = some r := H
 have A3 := Aside0.mk A30
 clear A30
 obtain rfl := Option.some.inj H
 go_enter Try.func61, Try.ntmps61
 try go_wp2_with (first | ((with_reducible refine gate_dst (N := 2) rfl ?_); refine Ka_ 2 #[.int .u64 a0_0, .int .u64 a0_1, .int .u64 a0_2, .int .u64 a0_3] 29 ?_; intro gb108 hg w4 hbox hb; have BK108 := Aside0.mk (hbox); have GW108 := Kw_ HB hg; have GE108 := GW108; replace HB := Ks_ HB hb; clear hb hbox hg) | ((with_reducible refine gate_dst (N := 3) rfl ?_); refine Ka_ 3 #[.int .u64 a1_0, .int .u64 a1_1, .int .u64 a1_2, .int .u64 a1_3] 29 ?_; intro gb109 hg w5 hbox hb; have BK109 := Aside0.mk (hbox); have GW109 := Kw_ HB hg; have GE109 := GW109; have NB108_109 := Kl_ BK108 hg; have NB109_108 := Kr_ BK108 hg; replace BK108 := Kb_ BK108 hb; replace HB := Ks_ HB hb; clear hb hbox hg))
 replace BK108 := Kd_ BK108
 replace BK109 := Kd_ BK109
 replace HB := Aside0.mk (below_drew1 HB.out)
 refine start_ (n := 6) (S := fun w' => w'.cell? ⟨gb108, 0, none⟩ = some (.int .u64 a0_0) ∧ w'.cell? ⟨gb108, 1, none⟩ = some (.int .u64 a0_1) ∧ w'.cell? ⟨gb108, 2, none⟩ = some (.int .u64 a0_2) ∧ w'.cell? ⟨gb108, 3, none⟩ = some (.int .u64 a0_3) ∧ w'.cell? ⟨gb109, 0, none⟩ = some (.int .u64 a1_0) ∧ w'.cell? ⟨gb109, 1, none⟩ = some (.int .u64 a1_1) ∧ w'.cell? ⟨gb109, 2, none⟩ = some (.int .u64 a1_2) ∧ w'.cell? ⟨gb109, 3, none⟩ = some (.int .u64 a1_3)) (ds := []) (mB_ 6 0) (by kernel_rfl) rfl rfl ⟨Km_ BK108 0, Km_ BK108 1, Km_ BK108 2, Km_ BK108 3, Km_ BK109 0, Km_ BK109 1, Km_ BK109 2, Km_ BK109 3⟩ (fun hHeld => ?_)
 generalize w5.drew = w6 at BK108 BK109 HB hHeld ⊢
 refine Ko_ 0 5 (mB_ 6 1) (by kernel_rfl) hHeld ?_
 refine Ko_ 1 6 (mB_ 6 3) (by kernel_rfl) hHeld ?_
 refine Ko_ 3 8 (mB_ 6 11) (by kernel_rfl) hHeld ?_
 refine one_ (i := 2) (N := some 7) (mB_ 6 15) rfl rfl (by kernel_rfl) (by decide) (fun K hK => ?_)
 refine goes_ Try.func30 (by kernel_rfl) rfl #[.agg #[.int .u64 a0_0, .int .u64 a0_1, .int .u64 a0_2, .int .u64 a0_3], .agg #[.int .u64 a1_0, .int .u64 a1_1, .int .u64 a1_2, .int .u64 a1_3]] (by rfl) rfl rfl (by (try simp only [List.map_toArray, List.map_cons, List.map_nil]); first | done | rfl | (simp only [List.length_drop, List.length_take]; rfl)) ?_
 with_reducible refine (vec_Join.calls a0_0 a0_1 a0_2 a0_3 a1_0 a1_1 a1_2 a1_3 t110 t111 t112 t113 _ A3.out).mono ?_
 rintro e w7 ⟨rfl, hb⟩
 refine ⟨_, rfl, ?_⟩
 replace BK108 := Kb_ BK108 hb
 replace BK109 := Kb_ BK109 hb
 replace HB := Ks_ HB hb
 (try clear hb)
 (try clear hb2)
 (try clear hk)
 (try clear hi)
 refine hK.out _ _ ⟨Km_ BK108 0, Km_ BK108 1, Km_ BK108 2, Km_ BK108 3, Km_ BK109 0, Km_ BK109 1, Km_ BK109 2, Km_ BK109 3⟩ (fun hHeld => ?_)
 clear hK K
 refine Kn_ 7 ?_
 refine Kp_ 4 9 (mB_ 6 31) (by kernel_rfl) ?_
 refine Kp_ 5 4 (mB_ 6 63) (by kernel_rfl) ?_
 refine done_ (by kernel_rfl) ?_
 try go_wp2
 go_ret
 exact ⟨Kh_, K2a_ HB GE108 GE109⟩
end Go.Proofs.Ythjhkcebcgdeoaa.Q

namespace Go.Proofs.Ythjhkcebcgdeoaa.Q
open Go.RowKit Go.Proofs.YthjhkcebcgdeoaaW.PrintWords Go.Proofs.YthjhkcebcgdeoaaW.PrintLast Go.Proofs.YthjhkcebcgdeoaaW.PrintMore
attribute [local go_sem] max2_int min2_int max_two min_two max_three min_three max_four min_four   -- for this text's walks alone
set_option linter.unusedVariables false
set_option linter.unusedSimpArgs false
def stamp_Seen.f (a0_0 : Int) (a0_1 : Int) (a0_2 : Int) (a0_3 : Int) (a0_4 : Int) (a1_0 : Int) (a1_1 : Int) (a1_2 : Int) (a1_3 : Int) : Option (Bool) := (vec_Leq.f a0_0 a0_1 a0_2 a0_3 a1_0 a1_1 a1_2 a1_3).bind fun t116 => (some t116)
set_option maxHeartbeats 8000000 in
set_option maxRecDepth 100000 in
theorem stamp_Seen.calls (a0_0 : Int) (a0_1 : Int) (a0_2 : Int) (a0_3 : Int) (a0_4 : Int) (a1_0 : Int) (a1_1 : Int) (a1_2 : Int) (a1_3 : Int) (r : Bool) (w : World) (h : stamp_Seen.f a0_0 a0_1 a0_2 a0_3 a0_4 a1_0 a1_1 a1_2 a1_3 = some r) :
  Calls Try.prog 31 #[.agg #[.int .u64 a0_0, .int .u64 a0_1, .int .u64 a0_2, .int .u64 a0_3, .int .i64 a0_4], .agg #[.int .u64 a1_0, .int .u64 a1_1, .int .u64 a1_2, .int .u64 a1_3]] w fun e w' => e = .returned (.bool r) ∧ Below w.heap.size w w' := by
 have hu56 := Try.underlying56
 have hu29 := Try.underlying29
 have HB := Aside0.mk (Below.refl w.heap.size w)
 have H : ((vec_Leq.f a0_0 a0_1 a0_2 a0_3 a1_0 a1_1 a1_2 a1_3).bind fun t116 => (some t116)) = some r := h
 clear h
 replace H := Option.bind_eq_some_iff.mp H
 obtain ⟨t116, A30, H⟩ := H
 replace H : (some t116) = some r := H
 have A3 := Aside0.mk A30
 clear A30
 obtain rfl := Option.some.inj H
 go_enter Try.func31, Try.ntmps31
 go_wp2_with (first | ((with_reducible refine gate_dst (N := 2) rfl ?_); refine Ka_ 2 #[.int .u64 a0_0, .int .u64 a0_1, .int .u64 a0_2, .int .u64 a0_3, .int .i64 a0_4] 56 ?_; intro gb114 hg w4 hbox hb; have BK114 := Aside0.mk (hbox); have GW114 := Kw_ HB hg; have GE114 := GW114; replace HB := Ks_ HB hb; clear hb hbox hg) | ((with_reducible refine gate_dst (N := 3) rfl ?_); refine Ka_ 3 #[.int .u64 a1_0, .int .u64 a1_1, .int .u64 a1_2, .int .u64 a1_3] 29 ?_; intro gb115 hg w5 hbox hb; have BK115 := Aside0.mk (hbox); have GW115 := Kw_ HB hg; have GE115 := GW115; have NB114_115 := Kl_ BK114 hg; have NB115_114 := Kr_ BK114 hg; replace BK114 := Kb_ BK114 hb; replace HB := Ks_ HB hb; clear hb hbox hg; have hnb6 := NB114_115.out; have hnc6 := NB115_114.out; obtain ⟨hcz7_0, hcz7_1, hcz7_2, hcz7_3, hcz7_4, hfz7_0, hfz7_1, hfz7_2, hfz7_3, hfz7_4⟩ := Ke5_ BK114.out; obtain ⟨hcz8_0, hcz8_1, hcz8_2, hcz8_3, hfz8_0, hfz8_1, hfz8_2, hfz8_3⟩ := Ke4_ BK115.out) | ((with_reducible refine gate_callee (f := 61) rfl ?_); refine Kg_ (some 8) rfl rfl Try.func61 (by kernel_rfl) rfl #[.agg #[.int .u64 a0_0, .int .u64 a0_1, .int .u64 a0_2, .int .u64 a0_3], .agg #[.int .u64 a1_0, .int .u64 a1_1, .int .u64 a1_2, .int .u64 a1_3]] rfl ?_; (with_reducible refine (vec_Leq.calls a0_0 a0_1 a0_2 a0_3 a1_0 a1_1 a1_2 a1_3 t116 _ A3.out).mono ?_); rintro e w9 ⟨rfl, hb⟩; refine ⟨_, rfl, ?_⟩; replace BK114 := Kb_ BK114 hb; replace BK115 := Kb_ BK115 hb; replace HB := Ks_ HB hb; (try clear hb); (try clear hb2); (try clear hk); (try clear hi)))
 go_ret
 exact ⟨Kh_, K2a_ HB GE114 GE115⟩
end Go.Proofs.Ythjhkcebcgdeoaa.Q

set_option linter.unusedVariables false
set_option linter.unusedSimpArgs false
namespace Go.Proofs.Ythjhkcebcgdeoaa.Jud
open Go Go.RowKit Go.WideShapes Go.Proofs.Ythjhkcebcgdeoaa.Q Go.Proofs.YthjhkcebcgdeoaaW.PrintWords Go.Proofs.YthjhkcebcgdeoaaW.PrintLast Go.Proofs.YthjhkcebcgdeoaaW.PrintMore
open Go.Proofs.Ythjhkcebcgdeoaa.Pure (wrap64_id toList_data toList_iff)
abbrev Wr := S24
abbrev Tx := S64
abbrev St := S56
abbrev encW (x : Wr) : Value := .agg #[.string x.f0, .string x.f1, .string x.f2, .bool x.f3]
abbrev encS (x : St) : Value := .agg #[.int .u64 x.f0.f0, .int .u64 x.f0.f1, .int .u64 x.f0.f2, .int .u64 x.f0.f3, .int .i64 x.f1]
abbrev encT (x : Tx) (A : Option Addr) (c : Nat) : Value := .agg #[.int .u64 x.f0.f0.f0, .int .u64 x.f0.f0.f1, .int .u64 x.f0.f0.f2, .int .u64 x.f0.f0.f3, .int .i64 x.f0.f1, .slice A x.f1.length c]
theorem enters (P : Program) {f : FuncId} {fn : Func} {c : Code} (hf : P.funcs[f]? = some fn) (hname : (fn.name == "runtime.NumGoroutine") = false) (hb : fn.body = some c) (args : Array Value) (w : World) : (callFunc f args).run P w = .ok (.enter f args) w := by
 have h1 : fn.name ≠ "runtime.NumGoroutine" := by simpa using hname
 simp [callFunc, hf, h1, hb, mark]
def hit (b k : ByteArray) (x : Wr) : Bool := (x.f0.toList == b.toList) && (x.f1.toList == k.toList)
def idx {α : Type} (p : α → Bool) (l : List α) : Int := if l.any p then (l.findIdx p : Int) else -1
theorem idx_none {α : Type} {p : α → Bool} {l : List α} (h : l.any p = false) : idx p l = -1 := by
 unfold idx
 rw [if_neg (by simp [h])]
theorem idx_at {α : Type} {p : α → Bool} {l : List α} {j : Nat} {x : α} (h : (l.take j).any p = false) (hx : l[j]? = some x) (hp : p x = true) : idx p l = (j : Int) := by
 obtain ⟨hj, hx⟩ := List.getElem?_eq_some_iff.1 hx
 have ha : l.any p = true := List.any_eq_true.2 ⟨x, hx ▸ List.getElem_mem hj, hp⟩
 unfold idx
 rw [if_pos ha]
 congr 1
 rw [List.findIdx_eq hj]
 refine ⟨by rw [hx]; exact hp, fun i hi => ?_⟩
 have hn := List.any_eq_false.1 h (l[i]'(by omega)) (by
  rw [List.mem_take_iff_getElem]
  exact ⟨i, by omega, rfl⟩)
 simpa using hn
set_option maxHeartbeats 8000000 in
set_option maxRecDepth 100000 in
theorem hit_c (b k : ByteArray) (gb gk : Nat) (x0 x1 x2 : ByteArray) (x3 : Bool) (w : World) (hb : w.cell? ⟨gb, 0, none⟩ = some (.string b)) (hk : w.cell? ⟨gk, 0, none⟩ = some (.string k)) :
  Calls Try.prog 77 (#[encW ⟨x0, x1, x2, x3⟩] ++ #[.pointer (some ⟨gb, 0, none⟩), .pointer (some ⟨gk, 0, none⟩)]) w fun e w' => e = .returned (.bool (hit b k ⟨x0, x1, x2, x3⟩)) ∧ Below w.heap.size w w' := by
 have b1 := World.block_lt_of_cell? _ _ hb
 have b2 := World.block_lt_of_cell? _ _ hk
 unfold hit
 by_cases c : (x0.toList == b.toList) = true
 ·go_enter Try.func77, Try.ntmps77
  go_wp2
  go_ret
  refine ⟨?_, below_alloc (Below.refl _ _) _⟩
  simp [c]
 ·have c' : (x0.toList == b.toList) = false := by simpa using c
  go_enter Try.func77, Try.ntmps77
  go_wp2
  go_ret
  refine ⟨?_, below_alloc (Below.refl _ _) _⟩
  simp [c']
set_option maxHeartbeats 8000000 in
set_option maxRecDepth 100000 in
theorem index_w (p : Wr → Bool) (g : Nat) (lb : Array Value) (eg : ∀ args w, (callFunc g args).run Try.prog w = .ok (.enter g args) w) (A : Option Addr) (c : Nat) (l : List Wr) (w : World) (hr : Kd.C k24 w A l.length l) (hc : l.length ≤ c) (hl : l.length ≤ 9223372036854775806)
  (hp : ∀ (W : World) (x : Wr), Below w.heap.size w W → Calls Try.prog g (#[encW x] ++ lb) W fun e w' => e = .returned (.bool (p x)) ∧ Below W.heap.size W w') :
  Calls Try.prog 76 #[.slice A l.length c, .func (.func g) #[] lb] w fun e w' => e = .returned (.int .i64 (idx p l)) ∧ Below w.heap.size w w' := by
 have HR0 := Aside0.mk hr
 clear hr
 have HB := Aside0.mk (Below.refl w.heap.size w)
 have HP := Aside0.mk hp
 clear hp
 go_enter Try.func76, Try.ntmps76
 go_wp2
 go_loopg [8] l.length (fun kq v8 w' => ∃ (j : Nat), v8 = .int .i64 j ∧ Aside0 (j ≤ l.length) ∧ Aside0 (l.length - j ≤ kq) ∧ Aside0 ((l.take j).any p = false) ∧ Aside0 (Below w.heap.size w w'))
 case atStart => exact ⟨0, rfl, ⟨by omega⟩, ⟨by omega⟩, ⟨rfl⟩, HB⟩
 case round =>
  obtain ⟨j, rfl, HJ, HK, HO, HB⟩ := hrel
  by_cases c1 : j < l.length
  rotate_left
  ·have c1b : decide ((j : Int) < (l.length : Int)) = false := decide_eq_false (by omega)
   have e : l.take j = l := List.take_of_length_le (by omega)
   rw [e] at HO
   go_wp2
   go_ret
   exact ⟨by rw [idx_none HO.out]; rfl, HB.out⟩
  ·have c1b : decide ((j : Int) < (l.length : Int)) = true := decide_eq_true (by omega)
   have c0b : decide (0 ≤ (j : Int)) = true := decide_eq_true (by omega)
   have hx : l[j]? = .some (rd_T24 l j) := by
    unfold rd_T24
    rw [Int.toNat_natCast, List.getD_eq_getElem?_getD, List.getElem?_eq_getElem c1]
    rfl
   obtain ⟨ad, e0, h0, h1, h2, h3⟩ := at_T24 HR0.out (j : Int) (by omega) (by omega)
   cases e0
   replace h0 := (HB.out.cell (World.block_lt_of_cell? w _ h0)).trans h0
   replace h1 := (HB.out.cell (World.block_lt_of_cell? w _ h1)).trans h1
   replace h2 := (HB.out.cell (World.block_lt_of_cell? w _ h2)).trans h2
   replace h3 := (HB.out.cell (World.block_lt_of_cell? w _ h3)).trans h3
   have HX := Aside0.mk (show (l.take (j + 1)).any p = p (rd_T24 l j) by
    rw [List.take_add_one, hx, List.any_append, HO.out]
    simp only [Option.toList, List.any_cons, List.any_nil, Bool.or_false, Bool.false_or])
   have HY := Aside0.mk (show p (rd_T24 l j) = true → idx p l = j from fun h => idx_at HO.out hx h)
   clear hx HO
   generalize rd_T24 l j = x at *
   obtain ⟨x0, x1, x2, x3⟩ := x
   simp only [Int.toNat_natCast] at h0 h1 h2 h3
   have HC := Aside0.mk (HP.out wr ⟨x0, x1, x2, x3⟩ HB.out)
   cases hq : p ⟨x0, x1, x2, x3⟩ with
   | true =>
    have hy := HY.out hq
    rw [hq] at HC
    go_wp2_with (fail)
    refine HC.out.mono ?_
    rintro e w1 ⟨rfl, hb⟩
    replace HB := Aside0.mk (below_step HB.out hb)
    clear hb HC
    go_wp2
    go_ret
    exact ⟨by rw [hy]; rfl, HB.out⟩
   | false =>
    rw [hq] at HC HX
    go_wp2_with (fail)
    refine HC.out.mono ?_
    rintro e w1 ⟨rfl, hb⟩
    replace HB := Aside0.mk (below_step HB.out hb)
    clear hb HC
    go_wp2
    go_roundg (l.length - (j + 1))
    case measure => have := HK.out; omega
    case rel => exact ⟨j + 1, by first | rfl | (rw [show ((j + 1 : Nat) : Int) = (j : Int) + 1 by omega]; rfl) | (rw [show ((j + 1 : Nat) : Int) = (j : Int) + 1 by omega]; congr 1; exact wrap64_id (by omega) (by omega)), ⟨by omega⟩, ⟨by omega⟩, HX, HB⟩
set_option maxHeartbeats 8000000 in
set_option maxRecDepth 100000 in
theorem index_t (p : Tx → Bool) (g : Nat) (lb : Array Value) (eg : ∀ args w, (callFunc g args).run Try.prog w = .ok (.enter g args) w) (A : Option Addr) (c : Nat) (l : List Tx) (w : World) (hr : Kd.C k64 w A l.length l) (hc : l.length ≤ c) (hl : l.length ≤ 9223372036854775806)
  (hp : ∀ (W : World) (x : Tx) (B : Option Addr) (m : Nat), x ∈ l → Below w.heap.size w W → x.f1.length ≤ m → Kd.C k24 W B x.f1.length x.f1 → Calls Try.prog g (#[encT x B m] ++ lb) W fun e w' => e = .returned (.bool (p x)) ∧ Below W.heap.size W w') :
  Calls Try.prog 71 #[.slice A l.length c, .func (.func g) #[] lb] w fun e w' => e = .returned (.int .i64 (idx p l)) ∧ Below w.heap.size w w' := by
 have HR0 := Aside0.mk hr
 clear hr
 have HB := Aside0.mk (Below.refl w.heap.size w)
 have HP := Aside0.mk hp
 clear hp
 go_enter Try.func71, Try.ntmps71
 go_wp2
 go_loopg [8] l.length (fun kq v8 w' => ∃ (j : Nat), v8 = .int .i64 j ∧ Aside0 (j ≤ l.length) ∧ Aside0 (l.length - j ≤ kq) ∧ Aside0 ((l.take j).any p = false) ∧ Aside0 (Below w.heap.size w w'))
 case atStart => exact ⟨0, rfl, ⟨by omega⟩, ⟨by omega⟩, ⟨rfl⟩, HB⟩
 case round =>
  obtain ⟨j, rfl, HJ, HK, HO, HB⟩ := hrel
  by_cases c1 : j < l.length
  rotate_left
  ·have c1b : decide ((j : Int) < (l.length : Int)) = false := decide_eq_false (by omega)
   have e : l.take j = l := List.take_of_length_le (by omega)
   rw [e] at HO
   go_wp2
   go_ret
   exact ⟨by rw [idx_none HO.out]; rfl, HB.out⟩
  ·have c1b : decide ((j : Int) < (l.length : Int)) = true := decide_eq_true (by omega)
   have c0b : decide (0 ≤ (j : Int)) = true := decide_eq_true (by omega)
   have hx : l[j]? = .some (rd_T64 l j) := by
    unfold rd_T64
    rw [Int.toNat_natCast, List.getD_eq_getElem?_getD, List.getElem?_eq_getElem c1]
    rfl
   obtain ⟨ad, Ax, cx, e0, h0, h1, h2, h3, h4, h5, lx, gx⟩ := at_T64 HR0.out (j : Int) (by omega) (by omega)
   cases e0
   replace h0 := (HB.out.cell (World.block_lt_of_cell? w _ h0)).trans h0
   replace h1 := (HB.out.cell (World.block_lt_of_cell? w _ h1)).trans h1
   replace h2 := (HB.out.cell (World.block_lt_of_cell? w _ h2)).trans h2
   replace h3 := (HB.out.cell (World.block_lt_of_cell? w _ h3)).trans h3
   replace h4 := (HB.out.cell (World.block_lt_of_cell? w _ h4)).trans h4
   replace h5 := (HB.out.cell (World.block_lt_of_cell? w _ h5)).trans h5
   have HX := Aside0.mk (show (l.take (j + 1)).any p = p (rd_T64 l j) by
    rw [List.take_add_one, hx, List.any_append, HO.out]
    simp only [Option.toList, List.any_cons, List.any_nil, Bool.or_false, Bool.false_or])
   have HY := Aside0.mk (show p (rd_T64 l j) = true → idx p l = j from fun h => idx_at HO.out hx h)
   have hm : rd_T64 l j ∈ l := List.mem_of_getElem? hx
   have HM := Aside0.mk hm
   clear hx HO hm
   generalize rd_T64 l j = x at *
   obtain ⟨⟨⟨y0, y1, y2, y3⟩, y4⟩, y5⟩ := x
   simp only [Int.toNat_natCast] at h0 h1 h2 h3 h4 h5
   have HC := Aside0.mk (HP.out wr ⟨⟨⟨y0, y1, y2, y3⟩, y4⟩, y5⟩ Ax cx HM.out HB.out lx (Kd.C_below gx HB.out))
   clear HM
   cases hq : p ⟨⟨⟨y0, y1, y2, y3⟩, y4⟩, y5⟩ with
   | true =>
    have hy := HY.out hq
    rw [hq] at HC
    go_wp2_with (fail)
    refine HC.out.mono ?_
    rintro e w1 ⟨rfl, hb⟩
    replace HB := Aside0.mk (below_step HB.out hb)
    clear hb HC
    go_wp2
    go_ret
    exact ⟨by rw [hy]; rfl, HB.out⟩
   | false =>
    rw [hq] at HC HX
    go_wp2_with (fail)
    refine HC.out.mono ?_
    rintro e w1 ⟨rfl, hb⟩
    replace HB := Aside0.mk (below_step HB.out hb)
    clear hb HC
    go_wp2
    go_roundg (l.length - (j + 1))
    case measure => have := HK.out; omega
    case rel => exact ⟨j + 1, by first | rfl | (rw [show ((j + 1 : Nat) : Int) = (j : Int) + 1 by omega]; rfl) | (rw [show ((j + 1 : Nat) : Int) = (j : Int) + 1 by omega]; congr 1; exact wrap64_id (by omega) (by omega)), ⟨by omega⟩, ⟨by omega⟩, HX, HB⟩
set_option maxHeartbeats 8000000 in
set_option maxRecDepth 100000 in
theorem contains_t (p : Tx → Bool) (g : Nat) (lb : Array Value) (eg : ∀ args w, (callFunc g args).run Try.prog w = .ok (.enter g args) w) (A : Option Addr) (c : Nat) (l : List Tx) (w : World) (hr : Kd.C k64 w A l.length l) (hc : l.length ≤ c) (hl : l.length ≤ 9223372036854775806)
  (hp : ∀ (W : World) (x : Tx) (B : Option Addr) (m : Nat), x ∈ l → Below w.heap.size w W → x.f1.length ≤ m → Kd.C k24 W B x.f1.length x.f1 → Calls Try.prog g (#[encT x B m] ++ lb) W fun e w' => e = .returned (.bool (p x)) ∧ Below W.heap.size W w') :
  Calls Try.prog 46 #[.slice A l.length c, .func (.func g) #[] lb] w fun e w' => e = .returned (.bool (l.any p)) ∧ Below w.heap.size w w' := by
 have HC := Aside0.mk (index_t p g lb eg A c l w hr hc hl hp)
 clear hr hc hp
 have HI := Aside0.mk (show decide (idx p l ≥ 0) = l.any p by
  unfold idx
  cases h : l.any p with
  | true => rw [if_pos rfl]; exact decide_eq_true (by omega)
  | false => rfl)
 generalize l.any p = b at HI ⊢
 generalize idx p l = r at HI HC
 go_enter Try.func46, Try.ntmps46
 go_wp2_with (go_at_call 71; refine HC.out.mono ?_; rintro e w1 ⟨rfl, hb⟩; have HB := Aside0.mk hb; clear hb HC)
 go_ret
 exact ⟨by rw [← HI.out]; rfl, HB.out⟩
structure Wn where
 f0 : St
 f1 : Wr
def kWn : Kd Wn := Kd.iso (Kd.pair k56 k24) (fun x : Wn => (x.f0, x.f1))
abbrev cellsN (x : Wn) : List Value := [.int .u64 x.f0.f0.f0, .int .u64 x.f0.f0.f1, .int .u64 x.f0.f0.f2, .int .u64 x.f0.f0.f3, .int .i64 x.f0.f1, .string x.f1.f0, .string x.f1.f1, .string x.f1.f2, .bool x.f1.f3]
theorem kWn_open {w : World} {x : Wn} {cs : List Value} (h : kWn.K w x cs) : cs = cellsN x := by
 obtain ⟨_, _, rfl, s0, s1⟩ := h
 obtain rfl := k56_open s0
 obtain rfl := k24_open s1
 rfl
theorem kWn_mkM (w : World) (base : Nat) (ok : Nat → Prop) (x : Wn) : kWn.M w base ok x (cellsN x) := ⟨_, _, rfl, k56_mkM w base ok x.f0, k24_mkM w base ok x.f1⟩
def zW : Wr := ⟨⟨#[]⟩, ⟨#[]⟩, ⟨#[]⟩, false⟩
def zN : Wn := ⟨⟨⟨0, 0, 0, 0⟩, 0⟩, zW⟩
def rdN (xs : List Wn) (i : Int) : Wn := xs.getD i.toNat zN
theorem at_N {w : World} {A : Option Addr} {n : Nat} {xs : List Wn} (h : Kd.C kWn w A n xs) (i : Int) (h0 : 0 ≤ i) (h1 : i < n) : ∃ ad, A = some ad ∧ w.cell? (ad.add (i.toNat * 9)) = some (.int .u64 (rdN xs i).f0.f0.f0) ∧ w.cell? ⟨(ad.add (i.toNat * 9)).block, (ad.add (i.toNat * 9)).off + 1, none⟩ = some (.int .u64 (rdN xs i).f0.f0.f1) ∧ w.cell? ⟨(ad.add (i.toNat * 9)).block, (ad.add (i.toNat * 9)).off + 2, none⟩ = some (.int .u64 (rdN xs i).f0.f0.f2) ∧ w.cell? ⟨(ad.add (i.toNat * 9)).block, (ad.add (i.toNat * 9)).off + 3, none⟩ = some (.int .u64 (rdN xs i).f0.f0.f3) ∧ w.cell? ⟨(ad.add (i.toNat * 9)).block, (ad.add (i.toNat * 9)).off + 4, none⟩ = some (.int .i64 (rdN xs i).f0.f1) ∧ w.cell? ⟨(ad.add (i.toNat * 9)).block, (ad.add (i.toNat * 9)).off + 5, none⟩ = some (.string (rdN xs i).f1.f0) ∧ w.cell? ⟨(ad.add (i.toNat * 9)).block, (ad.add (i.toNat * 9)).off + 6, none⟩ = some (.string (rdN xs i).f1.f1) ∧ w.cell? ⟨(ad.add (i.toNat * 9)).block, (ad.add (i.toNat * 9)).off + 7, none⟩ = some (.string (rdN xs i).f1.f2) ∧ w.cell? ⟨(ad.add (i.toNat * 9)).block, (ad.add (i.toNat * 9)).off + 8, none⟩ = some (.bool (rdN xs i).f1.f3) := by
 obtain ⟨ad, c, e, _, hK, hc0⟩ := Kd.C_get h zN i h0 h1
 have hc : ∀ j u, c[j]? = some u → w.cell? (ad.add (i.toNat * 9 + j)) = some u := hc0
 obtain rfl := kWn_open hK
 exact ⟨ad, e, hc 0 _ rfl, by rw [← add_field _ _ 1 (by omega)]; exact hc 1 _ rfl, by rw [← add_field _ _ 2 (by omega)]; exact hc 2 _ rfl, by rw [← add_field _ _ 3 (by omega)]; exact hc 3 _ rfl, by rw [← add_field _ _ 4 (by omega)]; exact hc 4 _ rfl, by rw [← add_field _ _ 5 (by omega)]; exact hc 5 _ rfl, by rw [← add_field _ _ 6 (by omega)]; exact hc 6 _ rfl, by rw [← add_field _ _ 7 (by omega)]; exact hc 7 _ rfl, by rw [← add_field _ _ 8 (by omega)]; exact hc 8 _ rfl⟩
theorem infoN : (Try.prog.info? 122).map (fun i => (i.zero, i.size, i.bytes)) = some (some (.agg #[.int .u64 0, .int .u64 0, .int .u64 0, .int .u64 0, .int .i64 0, .string ⟨#[]⟩, .string ⟨#[]⟩, .string ⟨#[]⟩, .bool false]), 9, 96) := by kernel_rfl
def one (is : St → Bool) (b k : ByteArray) (x : Tx) : List Wn := if is x.f0 then (match x.f1.find? (hit b k) with | some y => [⟨x.f0, y⟩] | none => []) else []
def wrs (is : St → Bool) (b k : ByteArray) (l : List Tx) : List Wn := l.flatMap (one is b k)
theorem wrs_snoc {is : St → Bool} {b k : ByteArray} {l : List Tx} {j : Nat} {x : Tx} (hx : l[j]? = some x) : wrs is b k (l.take (j + 1)) = wrs is b k (l.take j) ++ one is b k x := by
 unfold wrs
 rw [List.take_add_one, hx, List.flatMap_append]
 simp
theorem one_len (is : St → Bool) (b k : ByteArray) (x : Tx) : (one is b k x).length ≤ 1 := by
 unfold one
 split
 ·split <;> simp
 ·simp
theorem wrs_len (is : St → Bool) (b k : ByteArray) : ∀ l : List Tx, (wrs is b k l).length ≤ l.length
 | [] => by simp [wrs]
 | x :: l => by
  have h := wrs_len is b k l
  have h1 := one_len is b k x
  unfold wrs at h ⊢
  rw [List.flatMap_cons, List.length_append, List.length_cons]
  omega
theorem find_cases (p : Wr → Bool) (l : List Wr) : (l.find? p = none ∧ idx p l = -1) ∨ ∃ j : Nat, j < l.length ∧ idx p l = (j : Int) ∧ l.find? p = some (rd_T24 l j) := by
 cases ha : l.any p with
 | false => 
  refine .inl ⟨?_, idx_none ha⟩
  rw [List.find?_eq_none]
  intro x hx
  exact List.any_eq_false.1 ha x hx
 | true =>
  obtain ⟨x, hx, hp⟩ := List.any_eq_true.1 ha
  have hlt : l.findIdx p < l.length := List.findIdx_lt_length_of_exists ⟨x, hx, hp⟩
  refine .inr ⟨l.findIdx p, hlt, ?_, ?_⟩
  ·unfold idx
   rw [if_pos ha]
  ·rw [List.find?_eq_getElem?_findIdx] <;> skip
   unfold rd_T24
   rw [Int.toNat_natCast, List.getD_eq_getElem?_getD, List.getElem?_eq_getElem hlt]
   rfl
set_option maxHeartbeats 16000000 in
set_option maxRecDepth 100000 in
theorem writes_c (is : St → Bool) (g : Nat) (lb : Array Value) (eg : ∀ args w, (callFunc g args).run Try.prog w = .ok (.enter g args) w) (b k : ByteArray) (A : Option Addr) (c : Nat) (l : List Tx) (w : World) (hr : Kd.C k64 w A l.length l) (hc : l.length ≤ c) (hl : l.length ≤ 1000000) (hw : ∀ x ∈ l, x.f1.length ≤ 9223372036854775806)
  (hp : ∀ (W : World) (x : Tx), x ∈ l → Below w.heap.size w W → Calls Try.prog g (#[encS x.f0] ++ lb) W fun e w' => e = .returned (.bool (is x.f0)) ∧ Below W.heap.size W w') :
  Calls Try.prog 65 #[.slice A l.length c, .string b, .string k, .func (.func g) #[] lb] w fun e w' => ∃ v, e = .returned v ∧ Kd.R kWn 122 w' w.heap.size (fun _ => True) v (wrs is b k l) ∧ Below w.heap.size w w' := by
 have HR := Aside0.mk hr
 have HP := Aside0.mk hp
 have HW := Aside0.mk hw
 clear hr hp hw
 go_enter Try.func65, Try.ntmps65
 go_wp2_with (first
  | ((with_reducible refine gate_dst (N := 5) rfl ?_); refine Ka_ 5 #[.string b] 9 ?_; intro gb hg w1 hbox hb; have GEb : Aside0 (w.heap.size ≤ gb) := ⟨Nat.le_of_eq hg.symm⟩; have BKb1 := Aside0.mk hbox; have HB1 := Aside0.mk hb; clear hb hbox hg)
  | ((with_reducible refine gate_dst (N := 6) rfl ?_); refine Ka_ 6 #[.string k] 9 ?_; intro gk_ hg w2 hbox hb; have GEk : Aside0 (w.heap.size ≤ gk_) := ⟨by rw [hg]; exact HB1.out.size⟩; have BKk := Aside0.mk hbox; have BKb := Aside0.mk (blk_below BKb1.out hb); have HB := Aside0.mk (below_step HB1.out hb); clear hb hbox hg))
 go_loopg [9, 15] l.length (fun kq v9 v15 wr => ∃ (j : Nat), v15 = .int .i64 j ∧ Aside0 (j ≤ l.length) ∧ Aside0 (l.length - j ≤ kq) ∧ Aside0 (wr.heap[gb]? = some (.cells #[.string b] 9 (0, 0))) ∧ Aside0 (wr.heap[gk_]? = some (.cells #[.string k] 9 (0, 0))) ∧ Aside0 (Kd.R kWn 122 wr w.heap.size (fun k_ => k_ ≠ gb ∧ k_ ≠ gk_) v9 (wrs is b k (l.take j))) ∧ Aside0 (Below w.heap.size w wr))
 case atStart => exact ⟨0, rfl, ⟨by omega⟩, ⟨by omega⟩, BKb, BKk, ⟨Kd.R_nil _ _ _ _ _⟩, HB⟩
 case round =>
  clear BKb BKk BKb1 HB1 HB
  obtain ⟨j, rfl, HJ, HK, BKb, BKk, HO, HB⟩ := hrel
  by_cases c1 : j < l.length
  rotate_left
  ·have c1b : decide ((j : Int) < (l.length : Int)) = false := decide_eq_false (by omega)
   have e : l.take j = l := List.take_of_length_le (by omega)
   rw [e] at HO
   go_wp2
   go_ret
   exact ⟨_, rfl, Kd.R_mono HO.out (fun _ _ => trivial), HB.out⟩
  have c1b : decide ((j : Int) < (l.length : Int)) = true := decide_eq_true (by omega)
  have c0b : decide (0 ≤ (j : Int)) = true := decide_eq_true (by omega)
  have hx : l[j]? = .some (rd_T64 l j) := by
   unfold rd_T64
   rw [Int.toNat_natCast, List.getD_eq_getElem?_getD, List.getElem?_eq_getElem c1]
   rfl
  have hm : rd_T64 l j ∈ l := List.mem_of_getElem? hx
  obtain ⟨ad, Ax, cx, e0, h0, h1, h2, h3, h4, h5, lx, gx⟩ := at_T64 HR.out (j : Int) (by omega) (by omega)
  cases e0
  replace h0 := (HB.out.cell (World.block_lt_of_cell? w _ h0)).trans h0
  replace h1 := (HB.out.cell (World.block_lt_of_cell? w _ h1)).trans h1
  replace h2 := (HB.out.cell (World.block_lt_of_cell? w _ h2)).trans h2
  replace h3 := (HB.out.cell (World.block_lt_of_cell? w _ h3)).trans h3
  replace h4 := (HB.out.cell (World.block_lt_of_cell? w _ h4)).trans h4
  replace h5 := (HB.out.cell (World.block_lt_of_cell? w _ h5)).trans h5
  have HM := Aside0.mk hm
  have HWL := Aside0.mk (HW.out _ hm)
  have HSN := Aside0.mk (wrs_snoc (is := is) (b := b) (k := k) hx)
  have HLN := Aside0.mk (wrs_len is b k (l.take j))
  have GX := Aside0.mk (Kd.C_below gx HB.out)
  have GX0 := Aside0.mk gx
  clear hx hm gx
  generalize rd_T64 l j = x at *
  obtain ⟨⟨⟨y0, y1, y2, y3⟩, y4⟩, y5⟩ := x
  simp only [Int.toNat_natCast] at h0 h1 h2 h3 h4 h5
  have HCALL : ∀ W, Below w.heap.size w W → Calls Try.prog g (#[encS ⟨⟨y0, y1, y2, y3⟩, y4⟩] ++ lb) W fun e w' => e = .returned (.bool (is ⟨⟨y0, y1, y2, y3⟩, y4⟩)) ∧ Below W.heap.size W w' := fun W hW => HP.out W _ HM.out hW
  have HCL := Aside0.mk HCALL
  clear HCALL
  have LX : y5.length ≤ cx := lx
  have GX : Aside0 (Kd.C k24 wr Ax y5.length y5) := GX
  have GX0 : Aside0 (Kd.C k24 w Ax y5.length y5) := GX0
  have HWL : Aside0 (y5.length ≤ 9223372036854775806) := HWL
  clear lx
  rcases find_cases (hit b k) y5 with ⟨hf, hi⟩ | ⟨q, hq, hi, hf⟩
  ·have HI := Aside0.mk hi
   have HN := Aside0.mk (show one is b k ⟨⟨⟨y0, y1, y2, y3⟩, y4⟩, y5⟩ = [] by unfold one; simp only [hf]; split <;> rfl)
   clear hf hi
   have cm : decide ((-1 : Int) ≥ 0) = false := rfl
   go_wp2_with (first
    | ((with_reducible refine gate_dst (N := 11) rfl ?_); refine Ka_ 11 #[.int .u64 0, .int .u64 0, .int .u64 0, .int .u64 0, .int .i64 0, .slice none 0 0] 64 ?_; intro g11 hg w3 hbox hb; have GE11 : Aside0 (wr.heap.size ≤ g11) := ⟨Nat.le_of_eq hg.symm⟩; have BK11 := Aside0.mk hbox; have H3 := Aside0.mk hb; obtain ⟨hca0, hca1, hca2, hca3, hca4, hca5, hfa0, hfa1, hfa2, hfa3, hfa4, hfa5⟩ := Ke6_ BK11.out; clear hb hbox hg)
    | ((with_reducible refine gate_callee (f := 76) rfl ?_); refine Kg_ (some 22) rfl rfl Try.func76 (by kernel_rfl) rfl #[.slice Ax y5.length cx, .func (.func 77) #[] #[.pointer (some ⟨gb, 0, none⟩), .pointer (some ⟨gk_, 0, none⟩)]] rfl ?_; (with_reducible refine (index_w (hit b k) 77 #[.pointer (some ⟨gb, 0, none⟩), .pointer (some ⟨gk_, 0, none⟩)] (enters Try.prog Try.func77 (by kernel_rfl) rfl) Ax cx y5 _ ?s1 LX ?s2 ?s3).mono ?_); (case s1 => exact Kd.C_below GX.out ((((((((((((H3.out).setCell GE11.out _)).setCell GE11.out _)).setCell GE11.out _)).setCell GE11.out _)).setCell GE11.out _)).setCell GE11.out _)); (case s2 => exact HWL.out); (case s3 => intro W z hW; obtain ⟨z0, z1, z2, z3⟩ := z; exact hit_c b k gb gk_ z0 z1 z2 z3 W ((blk_cell (blk_below (blk_below BKb.out ((((((((((((H3.out).setCell GE11.out _)).setCell GE11.out _)).setCell GE11.out _)).setCell GE11.out _)).setCell GE11.out _)).setCell GE11.out _)) hW) 0).trans rfl) ((blk_cell (blk_below (blk_below BKk.out ((((((((((((H3.out).setCell GE11.out _)).setCell GE11.out _)).setCell GE11.out _)).setCell GE11.out _)).setCell GE11.out _)).setCell GE11.out _)) hW) 0).trans rfl)); rintro e w4 ⟨rfl, hb⟩; refine ⟨_, rfl, ?_⟩; rw [HI.out]; have H4 := Aside0.mk (below_step ((((((((((((H3.out).setCell GE11.out _)).setCell GE11.out _)).setCell GE11.out _)).setCell GE11.out _)).setCell GE11.out _)).setCell GE11.out _) hb); have BK4 : Aside0 (w4.heap[g11]? = some (.cells #[.int .u64 y0, .int .u64 y1, .int .u64 y2, .int .u64 y3, .int .i64 y4, .slice Ax y5.length cx] 64 (0, 0))) := ⟨blk_below (g := g11) (o := .cells #[.int .u64 y0, .int .u64 y1, .int .u64 y2, .int .u64 y3, .int .i64 y4, .slice Ax y5.length cx] 64 (0, 0)) (by refine Kv_ ?_; refine blk_put (cs := #[.int .u64 y0, .int .u64 y1, .int .u64 y2, .int .u64 y3, .int .i64 y4, .slice none 0 0]) ?_ 5 _ rfl; refine Kv_ ?_; refine blk_put (cs := #[.int .u64 y0, .int .u64 y1, .int .u64 y2, .int .u64 y3, .int .i64 0, .slice none 0 0]) ?_ 4 _ rfl; refine Kv_ ?_; refine blk_put (cs := #[.int .u64 y0, .int .u64 y1, .int .u64 y2, .int .u64 0, .int .i64 0, .slice none 0 0]) ?_ 3 _ rfl; refine Kv_ ?_; refine blk_put (cs := #[.int .u64 y0, .int .u64 y1, .int .u64 0, .int .u64 0, .int .i64 0, .slice none 0 0]) ?_ 2 _ rfl; refine Kv_ ?_; refine blk_put (cs := #[.int .u64 y0, .int .u64 0, .int .u64 0, .int .u64 0, .int .i64 0, .slice none 0 0]) ?_ 1 _ rfl; refine Kv_ ?_; refine blk_put (cs := #[.int .u64 0, .int .u64 0, .int .u64 0, .int .u64 0, .int .i64 0, .slice none 0 0]) ?_ 0 _ rfl; exact Kq_ BK11) hb⟩; clear hb; obtain ⟨hcb0, hcb1, hcb2, hcb3, hcb4, hcb5, hfb0, hfb1, hfb2, hfb3, hfb4, hfb5⟩ := Ke6_ BK4.out))
   go_roundg (l.length - (j + 1))
   case measure => have := HK.out; omega
   case rel => exact ⟨j + 1, by first | rfl | (rw [show ((j + 1 : Nat) : Int) = (j : Int) + 1 by omega]; rfl) | (rw [show ((j + 1 : Nat) : Int) = (j : Int) + 1 by omega]; congr 1; exact wrap64_id (by omega) (by omega)), ⟨by omega⟩, ⟨by omega⟩, ⟨blk_below BKb.out H4.out⟩, ⟨blk_below BKk.out H4.out⟩, ⟨by rw [HSN.out, HN.out, List.append_nil]; exact Kd.R_below HO.out H4.out⟩, ⟨below_step HB.out H4.out⟩⟩
  ·have HI := Aside0.mk hi
   obtain ⟨ax, e1, z0, z1, z2, z3⟩ := at_T24 GX0.out (q : Int) (by omega) (by omega)
   cases e1
   have Z0 := Aside0.mk z0
   have Z1 := Aside0.mk z1
   have Z2 := Aside0.mk z2
   have Z3 := Aside0.mk z3
   have cm : decide ((q : Int) ≥ 0) = true := decide_eq_true (by omega)
   have q0 : decide (0 ≤ (q : Int)) = true := decide_eq_true (by omega)
   have q1 : decide ((q : Int) < (y5.length : Int)) = true := decide_eq_true (by omega)
   have HN := Aside0.mk (show one is b k ⟨⟨⟨y0, y1, y2, y3⟩, y4⟩, y5⟩ = if is ⟨⟨y0, y1, y2, y3⟩, y4⟩ then [⟨⟨⟨y0, y1, y2, y3⟩, y4⟩, rd_T24 y5 q⟩] else [] by unfold one; simp only [hf])
   clear hf hi z0 z1 z2 z3
   generalize rd_T24 y5 q = z at *
   obtain ⟨z0, z1, z2, z3⟩ := z
   cases hq2 : is ⟨⟨y0, y1, y2, y3⟩, y4⟩ with
   | false =>
    rw [hq2] at HCL HN
    go_wp2_with (first
     | ((with_reducible refine gate_dst (N := 11) rfl ?_); refine Ka_ 11 #[.int .u64 0, .int .u64 0, .int .u64 0, .int .u64 0, .int .i64 0, .slice none 0 0] 64 ?_; intro g11 hg w3 hbox hb; have GE11 : Aside0 (wr.heap.size ≤ g11) := ⟨Nat.le_of_eq hg.symm⟩; have BK11 := Aside0.mk hbox; have H3 := Aside0.mk hb; obtain ⟨hca0, hca1, hca2, hca3, hca4, hca5, hfa0, hfa1, hfa2, hfa3, hfa4, hfa5⟩ := Ke6_ BK11.out; clear hb hbox hg)
     | ((with_reducible refine gate_callee (f := 76) rfl ?_); refine Kg_ (some 22) rfl rfl Try.func76 (by kernel_rfl) rfl #[.slice (some ax) y5.length cx, .func (.func 77) #[] #[.pointer (some ⟨gb, 0, none⟩), .pointer (some ⟨gk_, 0, none⟩)]] rfl ?_; (with_reducible refine (index_w (hit b k) 77 #[.pointer (some ⟨gb, 0, none⟩), .pointer (some ⟨gk_, 0, none⟩)] (enters Try.prog Try.func77 (by kernel_rfl) rfl) (some ax) cx y5 _ ?s1 LX ?s2 ?s3).mono ?_); (case s1 => exact Kd.C_below GX.out ((((((((((((H3.out).setCell GE11.out _)).setCell GE11.out _)).setCell GE11.out _)).setCell GE11.out _)).setCell GE11.out _)).setCell GE11.out _)); (case s2 => exact HWL.out); (case s3 => intro W z hW; obtain ⟨z0, z1, z2, z3⟩ := z; exact hit_c b k gb gk_ z0 z1 z2 z3 W ((blk_cell (blk_below (blk_below BKb.out ((((((((((((H3.out).setCell GE11.out _)).setCell GE11.out _)).setCell GE11.out _)).setCell GE11.out _)).setCell GE11.out _)).setCell GE11.out _)) hW) 0).trans rfl) ((blk_cell (blk_below (blk_below BKk.out ((((((((((((H3.out).setCell GE11.out _)).setCell GE11.out _)).setCell GE11.out _)).setCell GE11.out _)).setCell GE11.out _)).setCell GE11.out _)) hW) 0).trans rfl)); rintro e w4 ⟨rfl, hb⟩; refine ⟨_, rfl, ?_⟩; rw [HI.out]; have H4 := Aside0.mk (below_step ((((((((((((H3.out).setCell GE11.out _)).setCell GE11.out _)).setCell GE11.out _)).setCell GE11.out _)).setCell GE11.out _)).setCell GE11.out _) hb); have BK4 : Aside0 (w4.heap[g11]? = some (.cells #[.int .u64 y0, .int .u64 y1, .int .u64 y2, .int .u64 y3, .int .i64 y4, .slice (some ax) y5.length cx] 64 (0, 0))) := ⟨blk_below (g := g11) (o := .cells #[.int .u64 y0, .int .u64 y1, .int .u64 y2, .int .u64 y3, .int .i64 y4, .slice (some ax) y5.length cx] 64 (0, 0)) (by refine Kv_ ?_; refine blk_put (cs := #[.int .u64 y0, .int .u64 y1, .int .u64 y2, .int .u64 y3, .int .i64 y4, .slice none 0 0]) ?_ 5 _ rfl; refine Kv_ ?_; refine blk_put (cs := #[.int .u64 y0, .int .u64 y1, .int .u64 y2, .int .u64 y3, .int .i64 0, .slice none 0 0]) ?_ 4 _ rfl; refine Kv_ ?_; refine blk_put (cs := #[.int .u64 y0, .int .u64 y1, .int .u64 y2, .int .u64 0, .int .i64 0, .slice none 0 0]) ?_ 3 _ rfl; refine Kv_ ?_; refine blk_put (cs := #[.int .u64 y0, .int .u64 y1, .int .u64 0, .int .u64 0, .int .i64 0, .slice none 0 0]) ?_ 2 _ rfl; refine Kv_ ?_; refine blk_put (cs := #[.int .u64 y0, .int .u64 0, .int .u64 0, .int .u64 0, .int .i64 0, .slice none 0 0]) ?_ 1 _ rfl; refine Kv_ ?_; refine blk_put (cs := #[.int .u64 0, .int .u64 0, .int .u64 0, .int .u64 0, .int .i64 0, .slice none 0 0]) ?_ 0 _ rfl; exact Kq_ BK11) hb⟩; clear hb; obtain ⟨hcb0, hcb1, hcb2, hcb3, hcb4, hcb5, hfb0, hfb1, hfb2, hfb3, hfb4, hfb5⟩ := Ke6_ BK4.out))
    refine (HCL.out _ (below_step HB.out H4.out)).mono ?_
    rintro e w5 ⟨rfl, hb⟩
    have H5 := Aside0.mk (below_step H4.out hb)
    clear hb
    go_wp2
    go_roundg (l.length - (j + 1))
    case measure => have := HK.out; omega
    case rel => exact ⟨j + 1, by first | rfl | (rw [show ((j + 1 : Nat) : Int) = (j : Int) + 1 by omega]; rfl) | (rw [show ((j + 1 : Nat) : Int) = (j : Int) + 1 by omega]; congr 1; exact wrap64_id (by omega) (by omega)), ⟨by omega⟩, ⟨by omega⟩, ⟨blk_below BKb.out H5.out⟩, ⟨blk_below BKk.out H5.out⟩, ⟨by rw [HSN.out, HN.out]; exact Kd.R_below (by rw [if_neg (by simp), List.append_nil]; exact HO.out) H5.out⟩, ⟨below_step HB.out H5.out⟩⟩
   | true =>
    rw [hq2] at HCL HN
    go_wp2_with (first
     | ((with_reducible refine gate_dst (N := 11) rfl ?_); refine Ka_ 11 #[.int .u64 0, .int .u64 0, .int .u64 0, .int .u64 0, .int .i64 0, .slice none 0 0] 64 ?_; intro g11 hg w3 hbox hb; have GE11 : Aside0 (wr.heap.size ≤ g11) := ⟨Nat.le_of_eq hg.symm⟩; have BK11 := Aside0.mk hbox; have H3 := Aside0.mk hb; obtain ⟨hca0, hca1, hca2, hca3, hca4, hca5, hfa0, hfa1, hfa2, hfa3, hfa4, hfa5⟩ := Ke6_ BK11.out; clear hb hbox hg)
     | ((with_reducible refine gate_callee (f := 76) rfl ?_); refine Kg_ (some 22) rfl rfl Try.func76 (by kernel_rfl) rfl #[.slice (some ax) y5.length cx, .func (.func 77) #[] #[.pointer (some ⟨gb, 0, none⟩), .pointer (some ⟨gk_, 0, none⟩)]] rfl ?_; (with_reducible refine (index_w (hit b k) 77 #[.pointer (some ⟨gb, 0, none⟩), .pointer (some ⟨gk_, 0, none⟩)] (enters Try.prog Try.func77 (by kernel_rfl) rfl) (some ax) cx y5 _ ?s1 LX ?s2 ?s3).mono ?_); (case s1 => exact Kd.C_below GX.out ((((((((((((H3.out).setCell GE11.out _)).setCell GE11.out _)).setCell GE11.out _)).setCell GE11.out _)).setCell GE11.out _)).setCell GE11.out _)); (case s2 => exact HWL.out); (case s3 => intro W z hW; obtain ⟨z0, z1, z2, z3⟩ := z; exact hit_c b k gb gk_ z0 z1 z2 z3 W ((blk_cell (blk_below (blk_below BKb.out ((((((((((((H3.out).setCell GE11.out _)).setCell GE11.out _)).setCell GE11.out _)).setCell GE11.out _)).setCell GE11.out _)).setCell GE11.out _)) hW) 0).trans rfl) ((blk_cell (blk_below (blk_below BKk.out ((((((((((((H3.out).setCell GE11.out _)).setCell GE11.out _)).setCell GE11.out _)).setCell GE11.out _)).setCell GE11.out _)).setCell GE11.out _)) hW) 0).trans rfl)); rintro e w4 ⟨rfl, hb⟩; refine ⟨_, rfl, ?_⟩; rw [HI.out]; have H4 := Aside0.mk (below_step ((((((((((((H3.out).setCell GE11.out _)).setCell GE11.out _)).setCell GE11.out _)).setCell GE11.out _)).setCell GE11.out _)).setCell GE11.out _) hb); have BK4 : Aside0 (w4.heap[g11]? = some (.cells #[.int .u64 y0, .int .u64 y1, .int .u64 y2, .int .u64 y3, .int .i64 y4, .slice (some ax) y5.length cx] 64 (0, 0))) := ⟨blk_below (g := g11) (o := .cells #[.int .u64 y0, .int .u64 y1, .int .u64 y2, .int .u64 y3, .int .i64 y4, .slice (some ax) y5.length cx] 64 (0, 0)) (by refine Kv_ ?_; refine blk_put (cs := #[.int .u64 y0, .int .u64 y1, .int .u64 y2, .int .u64 y3, .int .i64 y4, .slice none 0 0]) ?_ 5 _ rfl; refine Kv_ ?_; refine blk_put (cs := #[.int .u64 y0, .int .u64 y1, .int .u64 y2, .int .u64 y3, .int .i64 0, .slice none 0 0]) ?_ 4 _ rfl; refine Kv_ ?_; refine blk_put (cs := #[.int .u64 y0, .int .u64 y1, .int .u64 y2, .int .u64 0, .int .i64 0, .slice none 0 0]) ?_ 3 _ rfl; refine Kv_ ?_; refine blk_put (cs := #[.int .u64 y0, .int .u64 y1, .int .u64 0, .int .u64 0, .int .i64 0, .slice none 0 0]) ?_ 2 _ rfl; refine Kv_ ?_; refine blk_put (cs := #[.int .u64 y0, .int .u64 0, .int .u64 0, .int .u64 0, .int .i64 0, .slice none 0 0]) ?_ 1 _ rfl; refine Kv_ ?_; refine blk_put (cs := #[.int .u64 0, .int .u64 0, .int .u64 0, .int .u64 0, .int .i64 0, .slice none 0 0]) ?_ 0 _ rfl; exact Kq_ BK11) hb⟩; clear hb; obtain ⟨hcb0, hcb1, hcb2, hcb3, hcb4, hcb5, hfb0, hfb1, hfb2, hfb3, hfb4, hfb5⟩ := Ke6_ BK4.out))
    refine (HCL.out _ (below_step HB.out H4.out)).mono ?_
    rintro e w5 ⟨rfl, hb⟩
    have H5 := Aside0.mk (below_step H4.out hb)
    have BK5 := Aside0.mk (blk_below BK4.out hb)
    clear hb
    go_wp2
    have H6 : Aside0 (Below wr.heap.size wr w5.drew) := ⟨below_drew1 H5.out⟩
    have BK6 := Aside0.mk (blk_drew BK5.out)
    have BKb6 := Aside0.mk (blk_below BKb.out H6.out)
    have BKk6 := Aside0.mk (blk_below BKk.out H6.out)
    have HO6 := Aside0.mk (Kd.R_below HO.out H6.out)
    simp only [Int.toNat_natCast] at Z0 Z1 Z2 Z3
    refine start_ (n := 12) (S := fun w' => w'.cell? ⟨g11, 0, none⟩ = some (.int .u64 y0) ∧ w'.cell? ⟨g11, 1, none⟩ = some (.int .u64 y1) ∧ w'.cell? ⟨g11, 2, none⟩ = some (.int .u64 y2) ∧ w'.cell? ⟨g11, 3, none⟩ = some (.int .u64 y3) ∧ w'.cell? ⟨g11, 4, none⟩ = some (.int .i64 y4) ∧ w'.cell? ⟨g11, 5, none⟩ = some (.slice (some ax) y5.length cx) ∧ w'.cell? (ax.add (q * 4)) = some (.string z0) ∧ w'.cell? ⟨(ax.add (q * 4)).block, (ax.add (q * 4)).off + 1, none⟩ = some (.string z1) ∧ w'.cell? ⟨(ax.add (q * 4)).block, (ax.add (q * 4)).off + 2, none⟩ = some (.string z2) ∧ w'.cell? ⟨(ax.add (q * 4)).block, (ax.add (q * 4)).off + 3, none⟩ = some (.bool z3)) (ds := []) #[false, false, false, false, false, false, false, false, false, false, false, false] (by kernel_rfl) rfl rfl ⟨(blk_cell BK6.out 0).trans rfl, (blk_cell BK6.out 1).trans rfl, (blk_cell BK6.out 2).trans rfl, (blk_cell BK6.out 3).trans rfl, (blk_cell BK6.out 4).trans rfl, (blk_cell BK6.out 5).trans rfl, ((below_step HB.out H6.out).cell (World.block_lt_of_cell? _ _ Z0.out)).trans Z0.out, ((below_step HB.out H6.out).cell (World.block_lt_of_cell? _ _ Z1.out)).trans Z1.out, ((below_step HB.out H6.out).cell (World.block_lt_of_cell? _ _ Z2.out)).trans Z2.out, ((below_step HB.out H6.out).cell (World.block_lt_of_cell? _ _ Z3.out)).trans Z3.out⟩ (fun hHeld => ?_)
    generalize w5.drew = w6 at H6 BK6 BKb6 BKk6 HO6 hHeld ⊢
    refine Kp_ 0 31 #[true, false, false, false, false, false, false, false, false, false, false, false] (by kernel_rfl) ?_
    refine Kp_ 1 32 #[true, true, false, false, false, false, false, false, false, false, false, false] (by kernel_rfl) ?_
    refine Kp_ 3 34 #[true, true, false, true, false, false, false, false, false, false, false, false] (by kernel_rfl) ?_
    refine Kp_ 5 36 #[true, true, false, true, false, true, false, false, false, false, false, false] (by kernel_rfl) ?_
    refine Ko_ 2 33 #[true, true, true, true, false, true, false, false, false, false, false, false] (by kernel_rfl) hHeld ?_
    refine Ko_ 4 35 #[true, true, true, true, true, true, false, false, false, false, false, false] (by kernel_rfl) hHeld ?_
    refine Kp_ 6 37 #[true, true, true, true, true, true, true, false, false, false, false, false] (by kernel_rfl) ?_
    refine Ko_ 7 38 #[true, true, true, true, true, true, true, true, false, false, false, false] (by kernel_rfl) hHeld ?_
    refine Kp_ 8 39 #[true, true, true, true, true, true, true, true, true, false, false, false] (by kernel_rfl) ?_
    refine one_ (i := 9) (N := some 40) #[true, true, true, true, true, true, true, true, true, true, false, false] rfl rfl (by kernel_rfl) (by decide) (fun K hK => ?_)
    refine value_ (w1 := ?_) (v := ?_) (by rfl) rfl ?_ ?_
    rotate_left 2
    ·go_simp
     constructor
     ·rfl
     ·rfl
    refine hK.out _ _ ⟨(blk_cell (blk_alloc BK6.out _) 0).trans rfl, (blk_cell (blk_alloc BK6.out _) 1).trans rfl, (blk_cell (blk_alloc BK6.out _) 2).trans rfl, (blk_cell (blk_alloc BK6.out _) 3).trans rfl, (blk_cell (blk_alloc BK6.out _) 4).trans rfl, (blk_cell (blk_alloc BK6.out _) 5).trans rfl, ((below_alloc (below_step HB.out H6.out) _).cell (World.block_lt_of_cell? _ _ Z0.out)).trans Z0.out, ((below_alloc (below_step HB.out H6.out) _).cell (World.block_lt_of_cell? _ _ Z1.out)).trans Z1.out, ((below_alloc (below_step HB.out H6.out) _).cell (World.block_lt_of_cell? _ _ Z2.out)).trans Z2.out, ((below_alloc (below_step HB.out H6.out) _).cell (World.block_lt_of_cell? _ _ Z3.out)).trans Z3.out⟩ (fun hHeld => ?_)
    clear hK K
    refine Kn_ 40 ?_
    refine one_ (i := 10) (N := some 41) #[true, true, true, true, true, true, true, true, true, true, true, false] rfl rfl (by kernel_rfl) (by decide) (fun K hK => ?_)
    refine Kd.R_append_step kWn (w0 := w) w.heap.size (by rfl) (.tmp 31) (.tmp 40) 125 122 (.agg #[.int .u64 0, .int .u64 0, .int .u64 0, .int .u64 0, .int .i64 0, .string ⟨#[]⟩, .string ⟨#[]⟩, .string ⟨#[]⟩, .bool false]) 96 rfl Try.underlying125 infoN rfl (by decide) (by omega) u9 (wrs is b k (l.take j)) (⟨⟨⟨y0, y1, y2, y3⟩, y4⟩, ⟨z0, z1, z2, z3⟩⟩ : Wn) (cellsN ⟨⟨⟨y0, y1, y2, y3⟩, y4⟩, ⟨z0, z1, z2, z3⟩⟩) (fun k_ => k_ ≠ gb ∧ k_ ≠ gk_) (fun _ => False) rfl rfl ?aP (fun _ hk => hk.elim) ?aF ?aO ?aB ?aS ?aL ?_
    (case aP => exact kWn_mkM _ _ _ (⟨⟨⟨y0, y1, y2, y3⟩, y4⟩, ⟨z0, z1, z2, z3⟩⟩ : Wn))
    (case aB => exact below_step HB.out H6.out)
    (case aF => exact (fun k_ hk => ⟨(Nat.ne_of_lt (Nat.lt_of_lt_of_le (blk_lt BKb6.out) hk)).symm, (Nat.ne_of_lt (Nat.lt_of_lt_of_le (blk_lt BKk6.out) hk)).symm⟩))
    (case aO => exact HO6.out)
    (case aS => exact below_size (below_step HB.out H6.out))
    (case aL => have := HLN.out; rw [List.length_take] at this; omega)
    intro v7 w7 ho hb hg hat
    have HO7 := Aside0.mk ho
    have HB7 := Aside0.mk hb
    have BKb7 := Aside0.mk (blk_grown BKb6.out hg (Kd.R_away HO6.out (fun _ hk => hk.1)))
    have BKk7 := Aside0.mk (blk_grown BKk6.out hg (Kd.R_away HO6.out (fun _ hk => hk.2)))
    have BK7 := Aside0.mk (blk_grown BK6.out hg (Kd.R_away (Kd.R_types HO6.out BK6.out (by decide)) (fun _ hk => hk.2)))
    clear ho hb hg hat
    refine hK.out _ _ ⟨(blk_cell BK7.out 0).trans rfl, (blk_cell BK7.out 1).trans rfl, (blk_cell BK7.out 2).trans rfl, (blk_cell BK7.out 3).trans rfl, (blk_cell BK7.out 4).trans rfl, (blk_cell BK7.out 5).trans rfl, (HB7.out.cell (World.block_lt_of_cell? _ _ Z0.out)).trans Z0.out, (HB7.out.cell (World.block_lt_of_cell? _ _ Z1.out)).trans Z1.out, (HB7.out.cell (World.block_lt_of_cell? _ _ Z2.out)).trans Z2.out, (HB7.out.cell (World.block_lt_of_cell? _ _ Z3.out)).trans Z3.out⟩ (fun hHeld => ?_)
    clear hK K
    refine Kn_ 41 ?_
    refine Kp_ 11 9 #[true, true, true, true, true, true, true, true, true, true, true, true] (by kernel_rfl) ?_
    refine done_ (by kernel_rfl) ?_
    try go_wp2
    go_roundg (l.length - (j + 1))
    case measure => have := HK.out; omega
    case rel => exact ⟨j + 1, by first | rfl | (rw [show ((j + 1 : Nat) : Int) = (j : Int) + 1 by omega]; rfl) | (rw [show ((j + 1 : Nat) : Int) = (j : Int) + 1 by omega]; congr 1; exact wrap64_id (by omega) (by omega)), ⟨by omega⟩, ⟨by omega⟩, BKb7, BKk7, ⟨by rw [HSN.out, HN.out]; exact HO7.out⟩, HB7⟩
abbrev encN (x : Wn) : Value := .agg #[.int .u64 x.f0.f0.f0, .int .u64 x.f0.f0.f1, .int .u64 x.f0.f0.f2, .int .u64 x.f0.f0.f3, .int .i64 x.f0.f1, .string x.f1.f0, .string x.f1.f1, .string x.f1.f2, .bool x.f1.f3]
theorem cells9 {W : World} {g : Nat} {t : TypeId} {v0 v1 v2 v3 v4 v5 v6 v7 v8 : Value} (h : W.heap[g]? = some (.cells #[v0, v1, v2, v3, v4, v5, v6, v7, v8] t (0, 0))) : W.cell? ⟨g, 0, none⟩ = some v0 ∧ W.cell? ⟨g, 1, none⟩ = some v1 ∧ W.cell? ⟨g, 2, none⟩ = some v2 ∧ W.cell? ⟨g, 3, none⟩ = some v3 ∧ W.cell? ⟨g, 4, none⟩ = some v4 ∧ W.cell? ⟨g, 5, none⟩ = some v5 ∧ W.cell? ⟨g, 6, none⟩ = some v6 ∧ W.cell? ⟨g, 7, none⟩ = some v7 ∧ W.cell? ⟨g, 8, none⟩ = some v8 :=
 ⟨(blk_cell h 0).trans rfl, (blk_cell h 1).trans rfl, (blk_cell h 2).trans rfl, (blk_cell h 3).trans rfl, (blk_cell h 4).trans rfl, (blk_cell h 5).trans rfl, (blk_cell h 6).trans rfl, (blk_cell h 7).trans rfl, (blk_cell h 8).trans rfl⟩
theorem frozen9 {W : World} {g : Nat} {t : TypeId} {cs : Array Value} (h : W.heap[g]? = some (.cells cs t (0, 0))) : W.frozen? ⟨g, 0, none⟩ = false ∧ W.frozen? ⟨g, 1, none⟩ = false ∧ W.frozen? ⟨g, 2, none⟩ = false ∧ W.frozen? ⟨g, 3, none⟩ = false ∧ W.frozen? ⟨g, 4, none⟩ = false ∧ W.frozen? ⟨g, 5, none⟩ = false ∧ W.frozen? ⟨g, 6, none⟩ = false ∧ W.frozen? ⟨g, 7, none⟩ = false ∧ W.frozen? ⟨g, 8, none⟩ = false :=
 ⟨blk_frozen h 0, blk_frozen h 1, blk_frozen h 2, blk_frozen h 3, blk_frozen h 4, blk_frozen h 5, blk_frozen h 6, blk_frozen h 7, blk_frozen h 8⟩
theorem goesv_ {P : Program} {ops : Array Oper} {Q : Exit → Act → World → Prop} {oi : Oper} {N : Option Tmp} {a : Act} {w : World} {K : Act → World → Prop} {as_ : Array Operand} {ts : Array TypeId} {t : Tmp} (g : FuncId) (lb : Array Value) (args : Array Value)
  (eg : ∀ args w, (callFunc g args).run P w = .ok (.enter g args) w) (hw : Region.wanted oi (yielded ops a.tmps) = true) (hN : oi.dst = N) (hop : oi.op = .call { callee := .value (.tmp t), args := as_, argTypes := ts }) (ht : a.eval (.tmp t) = .func (.func g) #[] lb) (hargs : as_.map a.eval = args)
  (h : Calls P g (args ++ lb) w fun e w' => ∃ v, e = .returned v ∧ K (a.put N v) w') : if Region.wanted oi (yielded ops a.tmps) = true then Oper.wp P oi a w K Q else K (a.put N undef) w := by
 refine call_ g (args ++ lb) hw hN ?_ h
 have he := eg (args ++ lb) w
 unfold execOp
 simp [hop, resolve, Deferred.ofValue, invoke, ht, hargs, he]
set_option maxHeartbeats 8000000 in
set_option maxRecDepth 100000 in
theorem ord_c (k : Nat) (r : Int) (a0 a1 a2 a3 a4 : Int) (a5 a6 a7 : ByteArray) (a8 : Bool) (b0 b1 b2 b3 b4 : Int) (b5 b6 b7 : ByteArray) (b8 : Bool) (w : World) (h : stamp_Order.f k a0 a1 a2 a3 a4 b0 b1 b2 b3 b4 = some r) :
  Calls Try.prog 66 (#[.agg #[.int .u64 a0, .int .u64 a1, .int .u64 a2, .int .u64 a3, .int .i64 a4, .string a5, .string a6, .string a7, .bool a8], .agg #[.int .u64 b0, .int .u64 b1, .int .u64 b2, .int .u64 b3, .int .i64 b4, .string b5, .string b6, .string b7, .bool b8]] ++ #[]) w fun e w' => e = .returned (.int .i64 r) ∧ Below w.heap.size w w' := by
 have H := Aside0.mk h
 clear h
 go_enter Try.func66, Try.ntmps66
 go_wp2_with (first
  | ((with_reducible refine gate_dst (N := 2) rfl ?_); refine Ka_ 2 #[.int .u64 a0, .int .u64 a1, .int .u64 a2, .int .u64 a3, .int .i64 a4, .string a5, .string a6, .string a7, .bool a8] 122 ?_; intro g2 hg w1 hbox hb; have BK1 := Aside0.mk hbox; have HB1 := Aside0.mk hb; clear hb hbox hg)
  | ((with_reducible refine gate_dst (N := 3) rfl ?_); refine Ka_ 3 #[.int .u64 b0, .int .u64 b1, .int .u64 b2, .int .u64 b3, .int .i64 b4, .string b5, .string b6, .string b7, .bool b8] 122 ?_; intro g3 hg w2 hbox hb; have HB2 := Aside0.mk (below_step HB1.out hb); obtain ⟨ca0, ca1, ca2, ca3, ca4, ca5, ca6, ca7, ca8⟩ := cells9 (blk_below BK1.out hb); obtain ⟨cb0, cb1, cb2, cb3, cb4, cb5, cb6, cb7, cb8⟩ := cells9 hbox; clear hb hbox hg)
  | ((with_reducible refine gate_callee (f := 28) rfl ?_); refine Kg_ (some 9) rfl rfl Try.func28 (by kernel_rfl) rfl #[.agg #[.int .u64 a0, .int .u64 a1, .int .u64 a2, .int .u64 a3, .int .i64 a4], .agg #[.int .u64 b0, .int .u64 b1, .int .u64 b2, .int .u64 b3, .int .i64 b4]] rfl ?_; (with_reducible refine (stamp_Order.calls k a0 a1 a2 a3 a4 b0 b1 b2 b3 b4 r _ H.out).mono ?_); rintro e w3 ⟨rfl, hb⟩; refine ⟨_, rfl, ?_⟩; have HB3 := Aside0.mk (below_step HB2.out hb); clear hb))
 go_ret
 exact ⟨rfl, HB3.out⟩
def up (cmp : Wn → Wn → Int) (m y : Wn) : Wn := if cmp y m > 0 then y else m
def mx (cmp : Wn → Wn → Int) (l : List Wn) : Wn := l.tail.foldl (up cmp) (rdN l 0)
theorem rdN_eq (l : List Wn) (j : Nat) (h : j < l.length) : l[j]? = some (rdN l j) := by
 unfold rdN
 rw [Int.toNat_natCast, List.getD_eq_getElem?_getD, List.getElem?_eq_getElem h]
 rfl
theorem rdN_mem (l : List Wn) (j : Nat) (h : j < l.length) : rdN l j ∈ l := List.mem_of_getElem? (rdN_eq l j h)
theorem take_tail (l : List Wn) (j : Nat) (h1 : 1 ≤ j) (h : j < l.length) : (l.take (j + 1)).tail = (l.take j).tail ++ [rdN l j] := by
 have hx := rdN_eq l j h
 rw [List.take_add_one, hx, List.tail_append_of_ne_nil (by intro e; have := congrArg List.length e; rw [List.length_take, List.length_nil] at this; omega)]
 rfl
set_option maxHeartbeats 16000000 in
set_option maxRecDepth 100000 in
theorem max_c (cmp : Wn → Wn → Int) (g : Nat) (lb : Array Value) (eg : ∀ args w, (callFunc g args).run Try.prog w = .ok (.enter g args) w) (A : Option Addr) (c : Nat) (l : List Wn) (w : World) (hr : Kd.C kWn w A l.length l) (hc : l.length ≤ c) (h1 : 1 ≤ l.length) (hl : l.length ≤ 1000000)
  (hp : ∀ (W : World) (a b : Wn), a ∈ l → b ∈ l → Below w.heap.size w W → Calls Try.prog g (#[encN a, encN b] ++ lb) W fun e w' => e = .returned (.int .i64 (cmp a b)) ∧ Below W.heap.size W w') :
  Calls Try.prog 75 #[.slice A l.length c, .func (.func g) #[] lb] w fun e w' => e = .returned (encN (mx cmp l)) ∧ Below w.heap.size w w' := by
 obtain ⟨ad, e0, h0, h1_, h2, h3, h4, h5, h6, h7, h8⟩ := at_N hr 0 (by omega) (by omega)
 cases e0
 have HR := Aside0.mk hr
 have HP := Aside0.mk hp
 have HM0 := Aside0.mk (rdN_mem l 0 (by omega))
 have HXX : ∃ x, rdN l 0 = x := ⟨_, rfl⟩
 obtain ⟨x, hxx⟩ := HXX
 have hm0 : ((0 : Nat) : Int) = 0 := rfl
 rw [hm0] at HM0
 rw [hxx] at HM0 h0 h1_ h2 h3 h4 h5 h6 h7 h8
 have HX0 := Aside0.mk hxx
 clear hr hp hxx hm0
 obtain ⟨⟨⟨⟨a0, a1, a2, a3⟩, a4⟩, ⟨a5, a6, a7, a8⟩⟩, rfl⟩ : ∃ y : Wn, y = x := ⟨x, rfl⟩
 simp only [Int.toNat_zero, Nat.zero_mul] at h0 h1_ h2 h3 h4 h5 h6 h7 h8
 have cl1 : decide ((l.length : Int) < 1) = false := decide_eq_false (by omega)
 have cl0 : decide ((0 : Int) < (l.length : Int)) = true := decide_eq_true (by omega)
 have ea : ad.add 0 = ad := by cases ad; simp [Addr.add]
 rw [ea] at h0 h1_ h2 h3 h4 h5 h6 h7 h8
 go_enter Try.func75, Try.ntmps75
 go_wp2_with (first
  | ((with_reducible refine gate_dst (N := 4) rfl ?_); refine Ka_ 4 #[.int .u64 0, .int .u64 0, .int .u64 0, .int .u64 0, .int .i64 0, .string (⟨#[]⟩ : ByteArray), .string (⟨#[]⟩ : ByteArray), .string (⟨#[]⟩ : ByteArray), .bool false] 122 ?_; intro g4 hg w1 hbox hb; have GE4 : Aside0 (w.heap.size ≤ g4) := ⟨Nat.le_of_eq hg.symm⟩; have BK4a := Aside0.mk hbox; have HB1 := Aside0.mk hb; replace h0 := (hb.cell (World.block_lt_of_cell? w _ h0)).trans h0; replace h1_ := (hb.cell (World.block_lt_of_cell? w _ h1_)).trans h1_; replace h2 := (hb.cell (World.block_lt_of_cell? w _ h2)).trans h2; replace h3 := (hb.cell (World.block_lt_of_cell? w _ h3)).trans h3; replace h4 := (hb.cell (World.block_lt_of_cell? w _ h4)).trans h4; replace h5 := (hb.cell (World.block_lt_of_cell? w _ h5)).trans h5; replace h6 := (hb.cell (World.block_lt_of_cell? w _ h6)).trans h6; replace h7 := (hb.cell (World.block_lt_of_cell? w _ h7)).trans h7; replace h8 := (hb.cell (World.block_lt_of_cell? w _ h8)).trans h8; clear hb hbox hg)
  | ((with_reducible refine gate_dst (N := 5) rfl ?_); refine Ka_ 5 #[.int .u64 0, .int .u64 0, .int .u64 0, .int .u64 0, .int .i64 0, .string (⟨#[]⟩ : ByteArray), .string (⟨#[]⟩ : ByteArray), .string (⟨#[]⟩ : ByteArray), .bool false] 122 ?_; intro g5 hg w2 hbox hb; have GE5 : Aside0 (w.heap.size ≤ g5) := ⟨by rw [hg]; exact HB1.out.size⟩; have BK5a := Aside0.mk hbox; have BK4 := Aside0.mk (blk_below BK4a.out hb); have HB := Aside0.mk (below_step HB1.out hb); obtain ⟨fz0, fz1, fz2, fz3, fz4, fz5, fz6, fz7, fz8⟩ := frozen9 hbox; obtain ⟨hy0, hy1, hy2, hy3, hy4, hy5, hy6, hy7, hy8⟩ := cells9 hbox; have N45 : g4 ≠ g5 := Nat.ne_of_lt (by rw [hg]; exact blk_lt BK4a.out); clear hb hbox hg))
 go_loopg [6] l.length (fun kq v6 wr => ∃ (j : Nat) (m : Wn), v6 = .int .i64 j ∧ Aside0 (1 ≤ j ∧ j ≤ l.length) ∧ Aside0 (l.length - j ≤ kq) ∧ Aside0 (m ∈ l ∧ m = (l.take j).tail.foldl (up cmp) (rdN l 0)) ∧ Aside0 (wr.heap[g4]? = some (.cells #[.int .u64 0, .int .u64 0, .int .u64 0, .int .u64 0, .int .i64 0, .string (⟨#[]⟩ : ByteArray), .string (⟨#[]⟩ : ByteArray), .string (⟨#[]⟩ : ByteArray), .bool false] 122 (0, 0))) ∧ Aside0 (wr.heap[g5]? = some (.cells (cellsN m).toArray 122 (0, 0))) ∧ Aside0 (Below w.heap.size w wr))
 case atStart => exact ⟨1, ⟨⟨⟨a0, a1, a2, a3⟩, a4⟩, ⟨a5, a6, a7, a8⟩⟩, rfl, ⟨by omega⟩, ⟨by omega⟩, ⟨HM0.out, by rw [HX0.out]; cases l with | nil => exact absurd h1 (by simp) | cons y r => simp⟩, ⟨(blk_far (blk_far (blk_far (blk_far (blk_far (blk_far (blk_far (blk_far (blk_far BK4.out N45 _) N45 _) N45 _) N45 _) N45 _) N45 _) N45 _) N45 _) N45 _)⟩, ⟨by refine Kv_ ?_; refine blk_put (cs := #[.int .u64 a0, .int .u64 a1, .int .u64 a2, .int .u64 a3, .int .i64 a4, .string a5, .string a6, .string a7, .bool false]) ?_ 8 _ rfl; refine Kv_ ?_; refine blk_put (cs := #[.int .u64 a0, .int .u64 a1, .int .u64 a2, .int .u64 a3, .int .i64 a4, .string a5, .string a6, .string (⟨#[]⟩ : ByteArray), .bool false]) ?_ 7 _ rfl; refine Kv_ ?_; refine blk_put (cs := #[.int .u64 a0, .int .u64 a1, .int .u64 a2, .int .u64 a3, .int .i64 a4, .string a5, .string (⟨#[]⟩ : ByteArray), .string (⟨#[]⟩ : ByteArray), .bool false]) ?_ 6 _ rfl; refine Kv_ ?_; refine blk_put (cs := #[.int .u64 a0, .int .u64 a1, .int .u64 a2, .int .u64 a3, .int .i64 a4, .string (⟨#[]⟩ : ByteArray), .string (⟨#[]⟩ : ByteArray), .string (⟨#[]⟩ : ByteArray), .bool false]) ?_ 5 _ rfl; refine Kv_ ?_; refine blk_put (cs := #[.int .u64 a0, .int .u64 a1, .int .u64 a2, .int .u64 a3, .int .i64 0, .string (⟨#[]⟩ : ByteArray), .string (⟨#[]⟩ : ByteArray), .string (⟨#[]⟩ : ByteArray), .bool false]) ?_ 4 _ rfl; refine Kv_ ?_; refine blk_put (cs := #[.int .u64 a0, .int .u64 a1, .int .u64 a2, .int .u64 0, .int .i64 0, .string (⟨#[]⟩ : ByteArray), .string (⟨#[]⟩ : ByteArray), .string (⟨#[]⟩ : ByteArray), .bool false]) ?_ 3 _ rfl; refine Kv_ ?_; refine blk_put (cs := #[.int .u64 a0, .int .u64 a1, .int .u64 0, .int .u64 0, .int .i64 0, .string (⟨#[]⟩ : ByteArray), .string (⟨#[]⟩ : ByteArray), .string (⟨#[]⟩ : ByteArray), .bool false]) ?_ 2 _ rfl; refine Kv_ ?_; refine blk_put (cs := #[.int .u64 a0, .int .u64 0, .int .u64 0, .int .u64 0, .int .i64 0, .string (⟨#[]⟩ : ByteArray), .string (⟨#[]⟩ : ByteArray), .string (⟨#[]⟩ : ByteArray), .bool false]) ?_ 1 _ rfl; refine Kv_ ?_; refine blk_put (cs := #[.int .u64 0, .int .u64 0, .int .u64 0, .int .u64 0, .int .i64 0, .string (⟨#[]⟩ : ByteArray), .string (⟨#[]⟩ : ByteArray), .string (⟨#[]⟩ : ByteArray), .bool false]) ?_ 0 _ rfl; exact Kq_ BK5a⟩, ⟨((((((((((((((((((HB.out).setCell GE5.out _)).setCell GE5.out _)).setCell GE5.out _)).setCell GE5.out _)).setCell GE5.out _)).setCell GE5.out _)).setCell GE5.out _)).setCell GE5.out _)).setCell GE5.out _)⟩⟩
 case round =>
  clear fz0 fz1 fz2 fz3 fz4 fz5 fz6 fz7 fz8 hy0 hy1 hy2 hy3 hy4 hy5 hy6 hy7 hy8 h0 h1_ h2 h3 h4 h5 h6 h7 h8 BK4 BK4a BK5a HB HB1
  obtain ⟨j, m, rfl, HJ, HK, HM, BK4, BK5, HB⟩ := hrel
  have hj1 := HJ.out.1
  by_cases c1 : j < l.length
  rotate_left
  ·have c1b : decide ((j : Int) < (l.length : Int)) = false := decide_eq_false (by omega)
   have e : l.take j = l := List.take_of_length_le (by omega)
   rw [e] at HM
   have HE := Aside0.mk (show m = mx cmp l from HM.out.2)
   obtain ⟨⟨⟨m0, m1, m2, m3⟩, m4⟩, ⟨m5, m6, m7, m8⟩⟩ := m
   obtain ⟨k0, k1, k2, k3, k4, k5, k6, k7, k8⟩ := cells9 BK5.out
   obtain ⟨fz0, fz1, fz2, fz3, fz4, fz5, fz6, fz7, fz8⟩ := frozen9 BK4.out
   obtain ⟨hy0, hy1, hy2, hy3, hy4, hy5, hy6, hy7, hy8⟩ := cells9 BK4.out
   go_wp2
   refine bodyPost_ret (results_cell_row rfl _ _ g4 122 #[.int .u64 m0, .int .u64 m1, .int .u64 m2, .int .u64 m3, .int .i64 m4, .string m5, .string m6, .string m7, .bool m8] (0, 0) _ rfl (by refine Kv_ ?_; refine blk_put (cs := #[.int .u64 m0, .int .u64 m1, .int .u64 m2, .int .u64 m3, .int .i64 m4, .string m5, .string m6, .string m7, .bool false]) ?_ 8 _ rfl; refine Kv_ ?_; refine blk_put (cs := #[.int .u64 m0, .int .u64 m1, .int .u64 m2, .int .u64 m3, .int .i64 m4, .string m5, .string m6, .string (⟨#[]⟩ : ByteArray), .bool false]) ?_ 7 _ rfl; refine Kv_ ?_; refine blk_put (cs := #[.int .u64 m0, .int .u64 m1, .int .u64 m2, .int .u64 m3, .int .i64 m4, .string m5, .string (⟨#[]⟩ : ByteArray), .string (⟨#[]⟩ : ByteArray), .bool false]) ?_ 6 _ rfl; refine Kv_ ?_; refine blk_put (cs := #[.int .u64 m0, .int .u64 m1, .int .u64 m2, .int .u64 m3, .int .i64 m4, .string (⟨#[]⟩ : ByteArray), .string (⟨#[]⟩ : ByteArray), .string (⟨#[]⟩ : ByteArray), .bool false]) ?_ 5 _ rfl; refine Kv_ ?_; refine blk_put (cs := #[.int .u64 m0, .int .u64 m1, .int .u64 m2, .int .u64 m3, .int .i64 0, .string (⟨#[]⟩ : ByteArray), .string (⟨#[]⟩ : ByteArray), .string (⟨#[]⟩ : ByteArray), .bool false]) ?_ 4 _ rfl; refine Kv_ ?_; refine blk_put (cs := #[.int .u64 m0, .int .u64 m1, .int .u64 m2, .int .u64 0, .int .i64 0, .string (⟨#[]⟩ : ByteArray), .string (⟨#[]⟩ : ByteArray), .string (⟨#[]⟩ : ByteArray), .bool false]) ?_ 3 _ rfl; refine Kv_ ?_; refine blk_put (cs := #[.int .u64 m0, .int .u64 m1, .int .u64 0, .int .u64 0, .int .i64 0, .string (⟨#[]⟩ : ByteArray), .string (⟨#[]⟩ : ByteArray), .string (⟨#[]⟩ : ByteArray), .bool false]) ?_ 2 _ rfl; refine Kv_ ?_; refine blk_put (cs := #[.int .u64 m0, .int .u64 0, .int .u64 0, .int .u64 0, .int .i64 0, .string (⟨#[]⟩ : ByteArray), .string (⟨#[]⟩ : ByteArray), .string (⟨#[]⟩ : ByteArray), .bool false]) ?_ 1 _ rfl; refine Kv_ ?_; refine blk_put (cs := #[.int .u64 0, .int .u64 0, .int .u64 0, .int .u64 0, .int .i64 0, .string (⟨#[]⟩ : ByteArray), .string (⟨#[]⟩ : ByteArray), .string (⟨#[]⟩ : ByteArray), .bool false]) ?_ 0 _ rfl; exact Kq_ BK4) Try.underlying122 rfl (by kernel_rfl)) rfl ?_
   exact ⟨by rw [← HE.out], ((((((((((((((((((HB.out).setCell GE4.out _)).setCell GE4.out _)).setCell GE4.out _)).setCell GE4.out _)).setCell GE4.out _)).setCell GE4.out _)).setCell GE4.out _)).setCell GE4.out _)).setCell GE4.out _)⟩
  have c1b : decide ((j : Int) < (l.length : Int)) = true := decide_eq_true (by omega)
  have c0b : decide (0 ≤ (j : Int)) = true := decide_eq_true (by omega)
  obtain ⟨ad', e1, z0, z1, z2, z3, z4, z5, z6, z7, z8⟩ := at_N HR.out (j : Int) (by omega) (by omega)
  obtain rfl : ad = ad' := by injection e1
  have HT := Aside0.mk (take_tail l j hj1 c1)
  have HME := Aside0.mk (rdN_mem l j c1)
  generalize rdN l j = y at z0 z1 z2 z3 z4 z5 z6 z7 z8 HT HME
  have HSTEP := Aside0.mk (show (l.take (j + 1)).tail.foldl (up cmp) (rdN l 0) = up cmp m y by rw [HT.out, List.foldl_append, ← HM.out.2]; rfl)
  have HMM := Aside0.mk HM.out.1
  clear HT HM
  obtain ⟨⟨⟨b0, b1, b2, b3⟩, b4⟩, ⟨b5, b6, b7, b8⟩⟩ := y
  obtain ⟨⟨⟨m0, m1, m2, m3⟩, m4⟩, ⟨m5, m6, m7, m8⟩⟩ := m
  simp only [Int.toNat_natCast] at z0 z1 z2 z3 z4 z5 z6 z7 z8
  have Z0 := Aside0.mk z0
  have Z1 := Aside0.mk z1
  have Z2 := Aside0.mk z2
  have Z3 := Aside0.mk z3
  have Z4 := Aside0.mk z4
  have Z5 := Aside0.mk z5
  have Z6 := Aside0.mk z6
  have Z7 := Aside0.mk z7
  have Z8 := Aside0.mk z8
  clear z0 z1 z2 z3 z4 z5 z6 z7 z8
  have HC : Aside0 (∀ W, Below w.heap.size w W → Calls Try.prog g (#[.agg #[.int .u64 b0, .int .u64 b1, .int .u64 b2, .int .u64 b3, .int .i64 b4, .string b5, .string b6, .string b7, .bool b8], .agg #[.int .u64 m0, .int .u64 m1, .int .u64 m2, .int .u64 m3, .int .i64 m4, .string m5, .string m6, .string m7, .bool m8]] ++ lb) W fun e w' => e = .returned (.int .i64 (cmp ⟨⟨⟨b0, b1, b2, b3⟩, b4⟩, ⟨b5, b6, b7, b8⟩⟩ ⟨⟨⟨m0, m1, m2, m3⟩, m4⟩, ⟨m5, m6, m7, m8⟩⟩)) ∧ Below W.heap.size W w') := ⟨fun W hW => HP.out W ⟨⟨⟨b0, b1, b2, b3⟩, b4⟩, ⟨b5, b6, b7, b8⟩⟩ ⟨⟨⟨m0, m1, m2, m3⟩, m4⟩, ⟨m5, m6, m7, m8⟩⟩ HME.out HMM.out hW⟩
  clear e1
  go_wp2
  have HB6 : Aside0 (Below w.heap.size w wr.drew) := ⟨below_drew1 HB.out⟩
  have BK56 := Aside0.mk (blk_drew BK5.out)
  have BK46 := Aside0.mk (blk_drew BK4.out)
  refine start_ (n := 8) (S := fun w' => w'.cell? (ad.add (j * 9)) = some (.int .u64 b0) ∧ w'.cell? ⟨(ad.add (j * 9)).block, (ad.add (j * 9)).off + 1, none⟩ = some (.int .u64 b1) ∧ w'.cell? ⟨(ad.add (j * 9)).block, (ad.add (j * 9)).off + 2, none⟩ = some (.int .u64 b2) ∧ w'.cell? ⟨(ad.add (j * 9)).block, (ad.add (j * 9)).off + 3, none⟩ = some (.int .u64 b3) ∧ w'.cell? ⟨(ad.add (j * 9)).block, (ad.add (j * 9)).off + 4, none⟩ = some (.int .i64 b4) ∧ w'.cell? ⟨(ad.add (j * 9)).block, (ad.add (j * 9)).off + 5, none⟩ = some (.string b5) ∧ w'.cell? ⟨(ad.add (j * 9)).block, (ad.add (j * 9)).off + 6, none⟩ = some (.string b6) ∧ w'.cell? ⟨(ad.add (j * 9)).block, (ad.add (j * 9)).off + 7, none⟩ = some (.string b7) ∧ w'.cell? ⟨(ad.add (j * 9)).block, (ad.add (j * 9)).off + 8, none⟩ = some (.bool b8) ∧ w'.cell? ⟨g5, 0, none⟩ = some (.int .u64 m0) ∧ w'.cell? ⟨g5, 1, none⟩ = some (.int .u64 m1) ∧ w'.cell? ⟨g5, 2, none⟩ = some (.int .u64 m2) ∧ w'.cell? ⟨g5, 3, none⟩ = some (.int .u64 m3) ∧ w'.cell? ⟨g5, 4, none⟩ = some (.int .i64 m4) ∧ w'.cell? ⟨g5, 5, none⟩ = some (.string m5) ∧ w'.cell? ⟨g5, 6, none⟩ = some (.string m6) ∧ w'.cell? ⟨g5, 7, none⟩ = some (.string m7) ∧ w'.cell? ⟨g5, 8, none⟩ = some (.bool m8)) (ds := []) #[false, false, false, false, false, false, false, false] (by kernel_rfl) rfl rfl ⟨(HB6.out.cell (World.block_lt_of_cell? _ _ Z0.out)).trans Z0.out, (HB6.out.cell (World.block_lt_of_cell? _ _ Z1.out)).trans Z1.out, (HB6.out.cell (World.block_lt_of_cell? _ _ Z2.out)).trans Z2.out, (HB6.out.cell (World.block_lt_of_cell? _ _ Z3.out)).trans Z3.out, (HB6.out.cell (World.block_lt_of_cell? _ _ Z4.out)).trans Z4.out, (HB6.out.cell (World.block_lt_of_cell? _ _ Z5.out)).trans Z5.out, (HB6.out.cell (World.block_lt_of_cell? _ _ Z6.out)).trans Z6.out, (HB6.out.cell (World.block_lt_of_cell? _ _ Z7.out)).trans Z7.out, (HB6.out.cell (World.block_lt_of_cell? _ _ Z8.out)).trans Z8.out, (blk_cell BK56.out 0).trans rfl, (blk_cell BK56.out 1).trans rfl, (blk_cell BK56.out 2).trans rfl, (blk_cell BK56.out 3).trans rfl, (blk_cell BK56.out 4).trans rfl, (blk_cell BK56.out 5).trans rfl, (blk_cell BK56.out 6).trans rfl, (blk_cell BK56.out 7).trans rfl, (blk_cell BK56.out 8).trans rfl⟩ (fun hHeld => ?_)
  generalize wr.drew = w6 at HB6 BK56 BK46 hHeld ⊢
  refine Kp_ 0 20 #[true, false, false, false, false, false, false, false] (by kernel_rfl) ?_
  refine Kp_ 1 21 #[true, true, false, false, false, false, false, false] (by kernel_rfl) ?_
  refine Kp_ 2 22 #[true, true, true, false, false, false, false, false] (by kernel_rfl) ?_
  refine Kp_ 3 23 #[true, true, true, true, false, false, false, false] (by kernel_rfl) ?_
  refine Ko_ 4 24 #[true, true, true, true, true, false, false, false] (by kernel_rfl) hHeld ?_
  refine Ko_ 5 25 #[true, true, true, true, true, true, false, false] (by kernel_rfl) hHeld ?_
  refine one_ (i := 6) (N := some 26) #[true, true, true, true, true, true, true, false] rfl rfl (by kernel_rfl) (by decide) (fun K hK => ?_)
  refine goesv_ (t := 20) g lb #[.agg #[.int .u64 b0, .int .u64 b1, .int .u64 b2, .int .u64 b3, .int .i64 b4, .string b5, .string b6, .string b7, .bool b8], .agg #[.int .u64 m0, .int .u64 m1, .int .u64 m2, .int .u64 m3, .int .i64 m4, .string m5, .string m6, .string m7, .bool m8]] eg (by rfl) rfl rfl rfl (by (try simp only [List.map_toArray, List.map_cons, List.map_nil]); first | done | rfl) ?_
  refine (HC.out w6 HB6.out).mono ?_
  rintro e w7 ⟨rfl, hb⟩
  refine ⟨_, rfl, ?_⟩
  have HB7 := Aside0.mk (below_step HB6.out hb)
  have BK57 := Aside0.mk (blk_below BK56.out hb)
  have BK47 := Aside0.mk (blk_below BK46.out hb)
  clear hb
  refine hK.out _ _ ⟨(HB7.out.cell (World.block_lt_of_cell? _ _ Z0.out)).trans Z0.out, (HB7.out.cell (World.block_lt_of_cell? _ _ Z1.out)).trans Z1.out, (HB7.out.cell (World.block_lt_of_cell? _ _ Z2.out)).trans Z2.out, (HB7.out.cell (World.block_lt_of_cell? _ _ Z3.out)).trans Z3.out, (HB7.out.cell (World.block_lt_of_cell? _ _ Z4.out)).trans Z4.out, (HB7.out.cell (World.block_lt_of_cell? _ _ Z5.out)).trans Z5.out, (HB7.out.cell (World.block_lt_of_cell? _ _ Z6.out)).trans Z6.out, (HB7.out.cell (World.block_lt_of_cell? _ _ Z7.out)).trans Z7.out, (HB7.out.cell (World.block_lt_of_cell? _ _ Z8.out)).trans Z8.out, (blk_cell BK57.out 0).trans rfl, (blk_cell BK57.out 1).trans rfl, (blk_cell BK57.out 2).trans rfl, (blk_cell BK57.out 3).trans rfl, (blk_cell BK57.out 4).trans rfl, (blk_cell BK57.out 5).trans rfl, (blk_cell BK57.out 6).trans rfl, (blk_cell BK57.out 7).trans rfl, (blk_cell BK57.out 8).trans rfl⟩ (fun hHeld => ?_)
  clear hK K
  refine Kn_ 26 ?_
  refine Kp_ 7 27 #[true, true, true, true, true, true, true, true] (by kernel_rfl) ?_
  refine done_ (by kernel_rfl) ?_
  obtain ⟨hz0, hz1, hz2, hz3, hz4, hz5, hz6, hz7, hz8, k0, k1, k2, k3, k4, k5, k6, k7, k8⟩ := hHeld
  obtain ⟨fz0, fz1, fz2, fz3, fz4, fz5, fz6, fz7, fz8⟩ := frozen9 BK57.out
  by_cases hgt : cmp ⟨⟨⟨b0, b1, b2, b3⟩, b4⟩, ⟨b5, b6, b7, b8⟩⟩ ⟨⟨⟨m0, m1, m2, m3⟩, m4⟩, ⟨m5, m6, m7, m8⟩⟩ > 0
  ·have hgb : decide (cmp ⟨⟨⟨b0, b1, b2, b3⟩, b4⟩, ⟨b5, b6, b7, b8⟩⟩ ⟨⟨⟨m0, m1, m2, m3⟩, m4⟩, ⟨m5, m6, m7, m8⟩⟩ > 0) = true := decide_eq_true hgt
   have HU := Aside0.mk (show up cmp ⟨⟨⟨m0, m1, m2, m3⟩, m4⟩, ⟨m5, m6, m7, m8⟩⟩ ⟨⟨⟨b0, b1, b2, b3⟩, b4⟩, ⟨b5, b6, b7, b8⟩⟩ = ⟨⟨⟨b0, b1, b2, b3⟩, b4⟩, ⟨b5, b6, b7, b8⟩⟩ by unfold up; rw [if_pos hgt])
   generalize cmp ⟨⟨⟨b0, b1, b2, b3⟩, b4⟩, ⟨b5, b6, b7, b8⟩⟩ ⟨⟨⟨m0, m1, m2, m3⟩, m4⟩, ⟨m5, m6, m7, m8⟩⟩ = q at *
   go_wp2
   go_roundg (l.length - (j + 1))
   case measure => have := HK.out; omega
   case rel => exact ⟨j + 1, ⟨⟨⟨b0, b1, b2, b3⟩, b4⟩, ⟨b5, b6, b7, b8⟩⟩, by first | rfl | (rw [show ((j + 1 : Nat) : Int) = (j : Int) + 1 by omega]; rfl) | (rw [show ((j + 1 : Nat) : Int) = (j : Int) + 1 by omega]; congr 1; exact wrap64_id (by omega) (by omega)), ⟨by omega⟩, ⟨by omega⟩, ⟨HME.out, by rw [HSTEP.out, HU.out]⟩, ⟨(blk_far (blk_far (blk_far (blk_far (blk_far (blk_far (blk_far (blk_far (blk_far BK47.out N45 _) N45 _) N45 _) N45 _) N45 _) N45 _) N45 _) N45 _) N45 _)⟩, ⟨by refine Kv_ ?_; refine blk_put (cs := #[.int .u64 b0, .int .u64 b1, .int .u64 b2, .int .u64 b3, .int .i64 b4, .string b5, .string b6, .string b7, .bool m8]) ?_ 8 _ rfl; refine Kv_ ?_; refine blk_put (cs := #[.int .u64 b0, .int .u64 b1, .int .u64 b2, .int .u64 b3, .int .i64 b4, .string b5, .string b6, .string m7, .bool m8]) ?_ 7 _ rfl; refine Kv_ ?_; refine blk_put (cs := #[.int .u64 b0, .int .u64 b1, .int .u64 b2, .int .u64 b3, .int .i64 b4, .string b5, .string m6, .string m7, .bool m8]) ?_ 6 _ rfl; refine Kv_ ?_; refine blk_put (cs := #[.int .u64 b0, .int .u64 b1, .int .u64 b2, .int .u64 b3, .int .i64 b4, .string m5, .string m6, .string m7, .bool m8]) ?_ 5 _ rfl; refine Kv_ ?_; refine blk_put (cs := #[.int .u64 b0, .int .u64 b1, .int .u64 b2, .int .u64 b3, .int .i64 m4, .string m5, .string m6, .string m7, .bool m8]) ?_ 4 _ rfl; refine Kv_ ?_; refine blk_put (cs := #[.int .u64 b0, .int .u64 b1, .int .u64 b2, .int .u64 m3, .int .i64 m4, .string m5, .string m6, .string m7, .bool m8]) ?_ 3 _ rfl; refine Kv_ ?_; refine blk_put (cs := #[.int .u64 b0, .int .u64 b1, .int .u64 m2, .int .u64 m3, .int .i64 m4, .string m5, .string m6, .string m7, .bool m8]) ?_ 2 _ rfl; refine Kv_ ?_; refine blk_put (cs := #[.int .u64 b0, .int .u64 m1, .int .u64 m2, .int .u64 m3, .int .i64 m4, .string m5, .string m6, .string m7, .bool m8]) ?_ 1 _ rfl; refine Kv_ ?_; refine blk_put (cs := #[.int .u64 m0, .int .u64 m1, .int .u64 m2, .int .u64 m3, .int .i64 m4, .string m5, .string m6, .string m7, .bool m8]) ?_ 0 _ rfl; exact Kq_ BK57⟩, ⟨((((((((((((((((((HB7.out).setCell GE5.out _)).setCell GE5.out _)).setCell GE5.out _)).setCell GE5.out _)).setCell GE5.out _)).setCell GE5.out _)).setCell GE5.out _)).setCell GE5.out _)).setCell GE5.out _)⟩⟩
  ·have hgb : decide (cmp ⟨⟨⟨b0, b1, b2, b3⟩, b4⟩, ⟨b5, b6, b7, b8⟩⟩ ⟨⟨⟨m0, m1, m2, m3⟩, m4⟩, ⟨m5, m6, m7, m8⟩⟩ > 0) = false := decide_eq_false hgt
   have HU := Aside0.mk (show up cmp ⟨⟨⟨m0, m1, m2, m3⟩, m4⟩, ⟨m5, m6, m7, m8⟩⟩ ⟨⟨⟨b0, b1, b2, b3⟩, b4⟩, ⟨b5, b6, b7, b8⟩⟩ = ⟨⟨⟨m0, m1, m2, m3⟩, m4⟩, ⟨m5, m6, m7, m8⟩⟩ by unfold up; rw [if_neg hgt])
   generalize cmp ⟨⟨⟨b0, b1, b2, b3⟩, b4⟩, ⟨b5, b6, b7, b8⟩⟩ ⟨⟨⟨m0, m1, m2, m3⟩, m4⟩, ⟨m5, m6, m7, m8⟩⟩ = q at *
   go_wp2
   go_roundg (l.length - (j + 1))
   case measure => have := HK.out; omega
   case rel => exact ⟨j + 1, ⟨⟨⟨m0, m1, m2, m3⟩, m4⟩, ⟨m5, m6, m7, m8⟩⟩, by first | rfl | (rw [show ((j + 1 : Nat) : Int) = (j : Int) + 1 by omega]; rfl) | (rw [show ((j + 1 : Nat) : Int) = (j : Int) + 1 by omega]; congr 1; exact wrap64_id (by omega) (by omega)), ⟨by omega⟩, ⟨by omega⟩, ⟨HMM.out, by rw [HSTEP.out, HU.out]⟩, BK47, BK57, HB7⟩
theorem cells4 {W : World} {g : Nat} {t : TypeId} {v0 v1 v2 v3 : Value} (h : W.heap[g]? = some (.cells #[v0, v1, v2, v3] t (0, 0))) : W.cell? ⟨g, 0, none⟩ = some v0 ∧ W.cell? ⟨g, 1, none⟩ = some v1 ∧ W.cell? ⟨g, 2, none⟩ = some v2 ∧ W.cell? ⟨g, 3, none⟩ = some v3 ∧ W.frozen? ⟨g, 0, none⟩ = false ∧ W.frozen? ⟨g, 1, none⟩ = false ∧ W.frozen? ⟨g, 2, none⟩ = false ∧ W.frozen? ⟨g, 3, none⟩ = false :=
 ⟨(blk_cell h 0).trans rfl, (blk_cell h 1).trans rfl, (blk_cell h 2).trans rfl, (blk_cell h 3).trans rfl, blk_frozen h 0, blk_frozen h 1, blk_frozen h 2, blk_frozen h 3⟩
set_option maxHeartbeats 16000000 in
set_option maxRecDepth 100000 in
theorem best_nil (F : Value) (A : Option Addr) (c : Nat) (l : List Wn) (w : World) (hl : l.length = 0) :
  Calls Try.prog 64 #[.slice A l.length c, F] w fun e w' => e = .returned (.tuple #[.agg #[.int .u64 0, .int .u64 0, .int .u64 0, .int .u64 0, .int .i64 0, .string (⟨#[]⟩ : ByteArray), .string (⟨#[]⟩ : ByteArray), .string (⟨#[]⟩ : ByteArray), .bool false], .bool false]) ∧ Below w.heap.size w w' := by
 have c0 : ((l.length : Int) == 0) = true := beq_iff_eq.2 (by omega)
 go_enter Try.func64, Try.ntmps64
 go_wp2_with (first
  | ((with_reducible refine gate_dst (N := 4) rfl ?_); refine Ka_ 4 #[.int .u64 0, .int .u64 0, .int .u64 0, .int .u64 0, .int .i64 0, .string (⟨#[]⟩ : ByteArray), .string (⟨#[]⟩ : ByteArray), .string (⟨#[]⟩ : ByteArray), .bool false] 122 ?_; intro g4 hg w1 hbox hb; have GE4 : Aside0 (w.heap.size ≤ g4) := ⟨Nat.le_of_eq hg.symm⟩; have BK4 := Aside0.mk hbox; have HB1 := Aside0.mk hb; obtain ⟨hy0, hy1, hy2, hy3, hy4, hy5, hy6, hy7, hy8⟩ := cells9 hbox; obtain ⟨fz0, fz1, fz2, fz3, fz4, fz5, fz6, fz7, fz8⟩ := frozen9 hbox; clear hb hbox hg))
 refine bodyPost_ret (results_ct rfl _ _ g4 122 #[.int .u64 0, .int .u64 0, .int .u64 0, .int .u64 0, .int .i64 0, .string (⟨#[]⟩ : ByteArray), .string (⟨#[]⟩ : ByteArray), .string (⟨#[]⟩ : ByteArray), .bool false] (0, 0) _ rfl (by refine Kv_ ?_; refine blk_put (cs := #[.int .u64 0, .int .u64 0, .int .u64 0, .int .u64 0, .int .i64 0, .string (⟨#[]⟩ : ByteArray), .string (⟨#[]⟩ : ByteArray), .string (⟨#[]⟩ : ByteArray), .bool false]) ?_ 8 _ rfl; refine Kv_ ?_; refine blk_put (cs := #[.int .u64 0, .int .u64 0, .int .u64 0, .int .u64 0, .int .i64 0, .string (⟨#[]⟩ : ByteArray), .string (⟨#[]⟩ : ByteArray), .string (⟨#[]⟩ : ByteArray), .bool false]) ?_ 7 _ rfl; refine Kv_ ?_; refine blk_put (cs := #[.int .u64 0, .int .u64 0, .int .u64 0, .int .u64 0, .int .i64 0, .string (⟨#[]⟩ : ByteArray), .string (⟨#[]⟩ : ByteArray), .string (⟨#[]⟩ : ByteArray), .bool false]) ?_ 6 _ rfl; refine Kv_ ?_; refine blk_put (cs := #[.int .u64 0, .int .u64 0, .int .u64 0, .int .u64 0, .int .i64 0, .string (⟨#[]⟩ : ByteArray), .string (⟨#[]⟩ : ByteArray), .string (⟨#[]⟩ : ByteArray), .bool false]) ?_ 5 _ rfl; refine Kv_ ?_; refine blk_put (cs := #[.int .u64 0, .int .u64 0, .int .u64 0, .int .u64 0, .int .i64 0, .string (⟨#[]⟩ : ByteArray), .string (⟨#[]⟩ : ByteArray), .string (⟨#[]⟩ : ByteArray), .bool false]) ?_ 4 _ rfl; refine Kv_ ?_; refine blk_put (cs := #[.int .u64 0, .int .u64 0, .int .u64 0, .int .u64 0, .int .i64 0, .string (⟨#[]⟩ : ByteArray), .string (⟨#[]⟩ : ByteArray), .string (⟨#[]⟩ : ByteArray), .bool false]) ?_ 3 _ rfl; refine Kv_ ?_; refine blk_put (cs := #[.int .u64 0, .int .u64 0, .int .u64 0, .int .u64 0, .int .i64 0, .string (⟨#[]⟩ : ByteArray), .string (⟨#[]⟩ : ByteArray), .string (⟨#[]⟩ : ByteArray), .bool false]) ?_ 2 _ rfl; refine Kv_ ?_; refine blk_put (cs := #[.int .u64 0, .int .u64 0, .int .u64 0, .int .u64 0, .int .i64 0, .string (⟨#[]⟩ : ByteArray), .string (⟨#[]⟩ : ByteArray), .string (⟨#[]⟩ : ByteArray), .bool false]) ?_ 1 _ rfl; refine Kv_ ?_; refine blk_put (cs := #[.int .u64 0, .int .u64 0, .int .u64 0, .int .u64 0, .int .i64 0, .string (⟨#[]⟩ : ByteArray), .string (⟨#[]⟩ : ByteArray), .string (⟨#[]⟩ : ByteArray), .bool false]) ?_ 0 _ rfl; exact Kq_ BK4) Try.underlying122 rfl (by kernel_rfl)) rfl ?_
 exact ⟨rfl, ((((((((((((((((((HB1.out).setCell GE4.out _)).setCell GE4.out _)).setCell GE4.out _)).setCell GE4.out _)).setCell GE4.out _)).setCell GE4.out _)).setCell GE4.out _)).setCell GE4.out _)).setCell GE4.out _)⟩
set_option maxHeartbeats 16000000 in
set_option maxRecDepth 100000 in
theorem best_cons (cmp : Wn → Wn → Int) (g : Nat) (lb : Array Value) (eg : ∀ args w, (callFunc g args).run Try.prog w = .ok (.enter g args) w) (A : Option Addr) (c : Nat) (l : List Wn) (w : World) (hr : Kd.C kWn w A l.length l) (hc : l.length ≤ c) (h1 : 1 ≤ l.length) (hl : l.length ≤ 1000000)
  (hp : ∀ (W : World) (a b : Wn), a ∈ l → b ∈ l → Below w.heap.size w W → Calls Try.prog g (#[encN a, encN b] ++ lb) W fun e w' => e = .returned (.int .i64 (cmp a b)) ∧ Below W.heap.size W w') :
  Calls Try.prog 64 #[.slice A l.length c, .func (.func g) #[] lb] w fun e w' => e = .returned (.tuple #[encN (mx cmp l), .bool true]) ∧ Below w.heap.size w w' := by
 have c0 : ((l.length : Int) == 0) = false := beq_eq_false_iff_ne.2 (by omega)
 have HR := Aside0.mk hr
 have HP := Aside0.mk hp
 clear hr hp
 obtain ⟨m, hm⟩ : ∃ m, m = mx cmp l := ⟨_, rfl⟩
 rw [← hm]
 obtain ⟨⟨⟨m0, m1, m2, m3⟩, m4⟩, ⟨m5, m6, m7, m8⟩⟩ := m
 have HM := Aside0.mk hm
 clear hm
 go_enter Try.func64, Try.ntmps64
 go_wp2_with (first
  | ((with_reducible refine gate_dst (N := 4) rfl ?_); refine Ka_ 4 #[.int .u64 0, .int .u64 0, .int .u64 0, .int .u64 0, .int .i64 0, .string (⟨#[]⟩ : ByteArray), .string (⟨#[]⟩ : ByteArray), .string (⟨#[]⟩ : ByteArray), .bool false] 122 ?_; intro g4 hg w1 hbox hb; have GE4 : Aside0 (w.heap.size ≤ g4) := ⟨Nat.le_of_eq hg.symm⟩; have BK4a := Aside0.mk hbox; have HB1 := Aside0.mk hb; clear hb hbox hg)
  | ((with_reducible refine gate_callee (f := 75) rfl ?_); refine Kg_ (some 12) rfl rfl Try.func75 (by kernel_rfl) rfl #[.slice A l.length c, .func (.func g) #[] lb] rfl ?_; (with_reducible refine (max_c cmp g lb eg A c l _ ?s1 hc h1 hl ?s2).mono ?_); (case s1 => exact Kd.C_below HR.out HB1.out); (case s2 => exact fun W a b ha hb2 hW => HP.out W a b ha hb2 (below_step HB1.out hW)); rintro e w2 ⟨rfl, hb⟩; rw [← HM.out]; refine ⟨_, rfl, ?_⟩; have BK4 := Aside0.mk (blk_below BK4a.out hb); have HB2 := Aside0.mk (below_step HB1.out hb); clear hb; obtain ⟨hy0, hy1, hy2, hy3, hy4, hy5, hy6, hy7, hy8⟩ := cells9 BK4.out; obtain ⟨fz0, fz1, fz2, fz3, fz4, fz5, fz6, fz7, fz8⟩ := frozen9 BK4.out))
 refine bodyPost_ret (results_ct rfl _ _ g4 122 #[.int .u64 m0, .int .u64 m1, .int .u64 m2, .int .u64 m3, .int .i64 m4, .string m5, .string m6, .string m7, .bool m8] (0, 0) _ rfl (by refine Kv_ ?_; refine blk_put (cs := #[.int .u64 m0, .int .u64 m1, .int .u64 m2, .int .u64 m3, .int .i64 m4, .string m5, .string m6, .string m7, .bool false]) ?_ 8 _ rfl; refine Kv_ ?_; refine blk_put (cs := #[.int .u64 m0, .int .u64 m1, .int .u64 m2, .int .u64 m3, .int .i64 m4, .string m5, .string m6, .string (⟨#[]⟩ : ByteArray), .bool false]) ?_ 7 _ rfl; refine Kv_ ?_; refine blk_put (cs := #[.int .u64 m0, .int .u64 m1, .int .u64 m2, .int .u64 m3, .int .i64 m4, .string m5, .string (⟨#[]⟩ : ByteArray), .string (⟨#[]⟩ : ByteArray), .bool false]) ?_ 6 _ rfl; refine Kv_ ?_; refine blk_put (cs := #[.int .u64 m0, .int .u64 m1, .int .u64 m2, .int .u64 m3, .int .i64 m4, .string (⟨#[]⟩ : ByteArray), .string (⟨#[]⟩ : ByteArray), .string (⟨#[]⟩ : ByteArray), .bool false]) ?_ 5 _ rfl; refine Kv_ ?_; refine blk_put (cs := #[.int .u64 m0, .int .u64 m1, .int .u64 m2, .int .u64 m3, .int .i64 0, .string (⟨#[]⟩ : ByteArray), .string (⟨#[]⟩ : ByteArray), .string (⟨#[]⟩ : ByteArray), .bool false]) ?_ 4 _ rfl; refine Kv_ ?_; refine blk_put (cs := #[.int .u64 m0, .int .u64 m1, .int .u64 m2, .int .u64 0, .int .i64 0, .string (⟨#[]⟩ : ByteArray), .string (⟨#[]⟩ : ByteArray), .string (⟨#[]⟩ : ByteArray), .bool false]) ?_ 3 _ rfl; refine Kv_ ?_; refine blk_put (cs := #[.int .u64 m0, .int .u64 m1, .int .u64 0, .int .u64 0, .int .i64 0, .string (⟨#[]⟩ : ByteArray), .string (⟨#[]⟩ : ByteArray), .string (⟨#[]⟩ : ByteArray), .bool false]) ?_ 2 _ rfl; refine Kv_ ?_; refine blk_put (cs := #[.int .u64 m0, .int .u64 0, .int .u64 0, .int .u64 0, .int .i64 0, .string (⟨#[]⟩ : ByteArray), .string (⟨#[]⟩ : ByteArray), .string (⟨#[]⟩ : ByteArray), .bool false]) ?_ 1 _ rfl; refine Kv_ ?_; refine blk_put (cs := #[.int .u64 0, .int .u64 0, .int .u64 0, .int .u64 0, .int .i64 0, .string (⟨#[]⟩ : ByteArray), .string (⟨#[]⟩ : ByteArray), .string (⟨#[]⟩ : ByteArray), .bool false]) ?_ 0 _ rfl; exact Kq_ BK4) Try.underlying122 rfl (by kernel_rfl)) rfl ?_
 exact ⟨rfl, ((((((((((((((((((HB2.out).setCell GE4.out _)).setCell GE4.out _)).setCell GE4.out _)).setCell GE4.out _)).setCell GE4.out _)).setCell GE4.out _)).setCell GE4.out _)).setCell GE4.out _)).setCell GE4.out _)⟩
def lst (is : St → Bool) (od : St → St → Int) (b k : ByteArray) (l : List Tx) : Wr := if (wrs is b k l).isEmpty then ⟨⟨#[]⟩, ⟨#[]⟩, ⟨#[]⟩, true⟩ else (mx (fun x y => od x.f0 y.f0) (wrs is b k l)).f1
theorem mem_wrs {is : St → Bool} {b k : ByteArray} {l : List Tx} {a : Wn} (h : a ∈ wrs is b k l) : ∃ x ∈ l, a.f0 = x.f0 := by
 obtain ⟨x, hx, ha⟩ := List.mem_flatMap.1 h
 refine ⟨x, hx, ?_⟩
 unfold one at ha
 split at ha
 ·split at ha
  ·rw [List.mem_singleton] at ha; rw [ha]
  ·cases ha
 ·cases ha
set_option maxHeartbeats 16000000 in
set_option maxRecDepth 100000 in
theorem last_c (is : St → Bool) (od : St → St → Int) (g : Nat) (lb : Array Value) (eg : ∀ args w, (callFunc g args).run Try.prog w = .ok (.enter g args) w) (b k : ByteArray) (A : Option Addr) (c : Nat) (l : List Tx) (w : World) (hr : Kd.C k64 w A l.length l) (hc : l.length ≤ c) (hl : l.length ≤ 1000000) (hw : ∀ x ∈ l, x.f1.length ≤ 9223372036854775806)
  (hp : ∀ (W : World) (x : Tx), x ∈ l → Below w.heap.size w W → Calls Try.prog g (#[encS x.f0] ++ lb) W fun e w' => e = .returned (.bool (is x.f0)) ∧ Below W.heap.size W w')
  (ho : ∀ x ∈ l, ∀ y ∈ l, ∃ q, stamp_Order.f q x.f0.f0.f0 x.f0.f0.f1 x.f0.f0.f2 x.f0.f0.f3 x.f0.f1 y.f0.f0.f0 y.f0.f0.f1 y.f0.f0.f2 y.f0.f0.f3 y.f0.f1 = some (od x.f0 y.f0)) :
  Calls Try.prog 33 #[.slice A l.length c, .string b, .string k, .func (.func g) #[] lb] w fun e w' => e = .returned (encW (lst is od b k l)) ∧ Below w.heap.size w w' := by
 have HR := Aside0.mk hr
 have HP := Aside0.mk hp
 have HW := Aside0.mk hw
 have HCMP : ∀ (W : World) (x y : Wn), x ∈ wrs is b k l → y ∈ wrs is b k l → Calls Try.prog 66 (#[encN x, encN y] ++ #[]) W fun e w' => e = .returned (.int .i64 (od x.f0 y.f0)) ∧ Below W.heap.size W w' := by
  intro W x y hx hy
  obtain ⟨x', hx', ex⟩ := mem_wrs hx
  obtain ⟨y', hy', ey⟩ := mem_wrs hy
  obtain ⟨q, hq⟩ := ho x' hx' y' hy'
  rw [← ex, ← ey] at hq
  obtain ⟨⟨⟨p0, p1, p2, p3⟩, p4⟩, ⟨p5, p6, p7, p8⟩⟩ := x
  obtain ⟨⟨⟨q0, q1, q2, q3⟩, q4⟩, ⟨q5, q6, q7, q8⟩⟩ := y
  exact ord_c q _ p0 p1 p2 p3 p4 p5 p6 p7 p8 q0 q1 q2 q3 q4 q5 q6 q7 q8 W hq
 have HCM := Aside0.mk HCMP
 have HLN := Aside0.mk (wrs_len is b k l)
 clear hr hp hw ho HCMP
 unfold lst
 obtain ⟨ys, hys⟩ : ∃ ys, wrs is b k l = ys := ⟨_, rfl⟩
 rw [hys] at HCM HLN ⊢
 have HY := Aside0.mk hys
 clear hys
 cases hn : ys.isEmpty with
 | true =>
  have hl0 : ys.length = 0 := by rw [List.isEmpty_iff] at hn; rw [hn]; rfl
  clear hn
  go_enter Try.func33, Try.ntmps33
  go_wp2_with (first
   | ((with_reducible refine gate_dst (N := 8) rfl ?_); refine Ka_ 8 #[.string (⟨#[]⟩ : ByteArray), .string (⟨#[]⟩ : ByteArray), .string (⟨#[]⟩ : ByteArray), .bool false] 24 ?_; intro g8 hg w1 hbox hb; have GE8 : Aside0 (w.heap.size ≤ g8) := ⟨Nat.le_of_eq hg.symm⟩; have BK8a := Aside0.mk hbox; have HB1 := Aside0.mk hb; clear hb hbox hg)
   | ((with_reducible refine gate_callee (f := 65) rfl ?_); refine Kg_ (some 16) rfl rfl Try.func65 (by kernel_rfl) rfl #[.slice A l.length c, .string b, .string k, .func (.func g) #[] lb] rfl ?_; (with_reducible refine (writes_c is g lb eg b k A c l _ ?s1 hc hl ?s2 ?s3).mono ?_); (case s1 => exact Kd.C_below HR.out HB1.out); (case s2 => exact HW.out); (case s3 => exact fun W x hx hW => HP.out W x hx (below_step HB1.out hW)); rintro e w2 ⟨v, rfl, hR, hb⟩; refine ⟨_, rfl, ?_⟩; rw [HY.out] at hR; obtain ⟨A2, c2, ev, hc2, hC2⟩ := Kd.R_reads hR; subst ev; have HC2 := Aside0.mk hC2; have BK8b := Aside0.mk (blk_below BK8a.out hb); have HB2 := Aside0.mk (below_step HB1.out hb); have LC2 := Aside0.mk hc2; clear hb hR hC2 hc2)
   | ((with_reducible refine gate_callee (f := 64) rfl ?_); refine Kg_ (some 17) rfl rfl Try.func64 (by kernel_rfl) rfl #[.slice A2 ys.length c2, .func (.func 66) #[] #[]] rfl ?_; (with_reducible refine (best_nil _ A2 c2 ys _ hl0).mono ?_); rintro e w3 ⟨rfl, hb⟩; refine ⟨_, rfl, ?_⟩; have BK8c := Aside0.mk (blk_below BK8b.out hb); have HB3 := Aside0.mk (below_step HB2.out hb); clear hb)
   | ((with_reducible refine gate_dst (N := 9) rfl ?_); refine Ka_ 9 #[.int .u64 0, .int .u64 0, .int .u64 0, .int .u64 0, .int .i64 0, .string (⟨#[]⟩ : ByteArray), .string (⟨#[]⟩ : ByteArray), .string (⟨#[]⟩ : ByteArray), .bool false] 122 ?_; intro g9 hg w4 hbox hb; have GE9 : Aside0 (w.heap.size ≤ g9) := ⟨by rw [hg]; exact HB3.out.size⟩; have N89 : g8 ≠ g9 := Nat.ne_of_lt (by rw [hg]; exact blk_lt BK8c.out); have BK8 := Aside0.mk (blk_below BK8c.out hb); have BK9 := Aside0.mk hbox; have HB4 := Aside0.mk (below_step HB3.out hb); obtain ⟨hy0, hy1, hy2, hy3, hy4, hy5, hy6, hy7, hy8⟩ := cells9 hbox; obtain ⟨fz0, fz1, fz2, fz3, fz4, fz5, fz6, fz7, fz8⟩ := frozen9 hbox; obtain ⟨hz0, hz1, hz2, hz3, fy0, fy1, fy2, fy3⟩ := cells4 BK8.out; clear hb hbox hg))
  refine bodyPost_ret (results_cell_row rfl _ _ g8 24 #[.string (⟨#[]⟩ : ByteArray), .string (⟨#[]⟩ : ByteArray), .string (⟨#[]⟩ : ByteArray), .bool true] (0, 0) _ rfl (by refine Kv_ ?_; refine blk_put (cs := #[.string (⟨#[]⟩ : ByteArray), .string (⟨#[]⟩ : ByteArray), .string (⟨#[]⟩ : ByteArray), .bool false]) ?_ 3 _ rfl; refine Kv_ ?_; refine blk_put (cs := #[.string (⟨#[]⟩ : ByteArray), .string (⟨#[]⟩ : ByteArray), .string (⟨#[]⟩ : ByteArray), .bool false]) ?_ 2 _ rfl; refine Kv_ ?_; refine blk_put (cs := #[.string (⟨#[]⟩ : ByteArray), .string (⟨#[]⟩ : ByteArray), .string (⟨#[]⟩ : ByteArray), .bool false]) ?_ 1 _ rfl; refine Kv_ ?_; refine blk_put (cs := #[.string (⟨#[]⟩ : ByteArray), .string (⟨#[]⟩ : ByteArray), .string (⟨#[]⟩ : ByteArray), .bool false]) ?_ 0 _ rfl; exact Kq_ (Aside0.mk (blk_far (blk_far (blk_far (blk_far (blk_far (blk_far (blk_far (blk_far (blk_far BK8.out N89 _) N89 _) N89 _) N89 _) N89 _) N89 _) N89 _) N89 _) N89 _))) Try.underlying24 rfl (by kernel_rfl)) rfl ?_
  exact ⟨rfl, ((((((((((((((((((((((((((HB4.out).setCell GE9.out _)).setCell GE9.out _)).setCell GE9.out _)).setCell GE9.out _)).setCell GE9.out _)).setCell GE9.out _)).setCell GE9.out _)).setCell GE9.out _)).setCell GE9.out _)).setCell GE8.out _)).setCell GE8.out _)).setCell GE8.out _)).setCell GE8.out _)⟩
 | false =>
  have hl1 : 1 ≤ ys.length := by
   cases ys with
   | nil => cases hn
   | cons _ _ => simp
  clear hn
  obtain ⟨m, hm⟩ : ∃ m, m = mx (fun x y => od x.f0 y.f0) ys := ⟨_, rfl⟩
  simp only [Bool.false_eq_true, if_false]
  rw [← hm]
  obtain ⟨⟨⟨m0, m1, m2, m3⟩, m4⟩, ⟨m5, m6, m7, m8⟩⟩ := m
  have HM := Aside0.mk hm
  clear hm
  go_enter Try.func33, Try.ntmps33
  go_wp2_with (first
   | ((with_reducible refine gate_dst (N := 8) rfl ?_); refine Ka_ 8 #[.string (⟨#[]⟩ : ByteArray), .string (⟨#[]⟩ : ByteArray), .string (⟨#[]⟩ : ByteArray), .bool false] 24 ?_; intro g8 hg w1 hbox hb; have GE8 : Aside0 (w.heap.size ≤ g8) := ⟨Nat.le_of_eq hg.symm⟩; have BK8a := Aside0.mk hbox; have HB1 := Aside0.mk hb; clear hb hbox hg)
   | ((with_reducible refine gate_callee (f := 65) rfl ?_); refine Kg_ (some 16) rfl rfl Try.func65 (by kernel_rfl) rfl #[.slice A l.length c, .string b, .string k, .func (.func g) #[] lb] rfl ?_; (with_reducible refine (writes_c is g lb eg b k A c l _ ?s1 hc hl ?s2 ?s3).mono ?_); (case s1 => exact Kd.C_below HR.out HB1.out); (case s2 => exact HW.out); (case s3 => exact fun W x hx hW => HP.out W x hx (below_step HB1.out hW)); rintro e w2 ⟨v, rfl, hR, hb⟩; refine ⟨_, rfl, ?_⟩; rw [HY.out] at hR; obtain ⟨A2, c2, ev, hc2, hC2⟩ := Kd.R_reads hR; subst ev; have HC2 := Aside0.mk hC2; have BK8b := Aside0.mk (blk_below BK8a.out hb); have HB2 := Aside0.mk (below_step HB1.out hb); have LC2 := Aside0.mk hc2; clear hb hR hC2 hc2)
   | ((with_reducible refine gate_callee (f := 64) rfl ?_); refine Kg_ (some 17) rfl rfl Try.func64 (by kernel_rfl) rfl #[.slice A2 ys.length c2, .func (.func 66) #[] #[]] rfl ?_; (with_reducible refine (best_cons (fun x y => od x.f0 y.f0) 66 #[] (enters Try.prog Try.func66 (by kernel_rfl) rfl) A2 c2 ys _ HC2.out LC2.out hl1 ?s1 ?s2).mono ?_); (case s1 => have := HLN.out; omega); (case s2 => exact fun W x y hx hy _ => HCM.out W x y hx hy); rintro e w3 ⟨rfl, hb⟩; rw [← HM.out]; refine ⟨_, rfl, ?_⟩; have BK8c := Aside0.mk (blk_below BK8b.out hb); have HB3 := Aside0.mk (below_step HB2.out hb); clear hb)
   | ((with_reducible refine gate_dst (N := 9) rfl ?_); refine Ka_ 9 #[.int .u64 0, .int .u64 0, .int .u64 0, .int .u64 0, .int .i64 0, .string (⟨#[]⟩ : ByteArray), .string (⟨#[]⟩ : ByteArray), .string (⟨#[]⟩ : ByteArray), .bool false] 122 ?_; intro g9 hg w4 hbox hb; have GE9 : Aside0 (w.heap.size ≤ g9) := ⟨by rw [hg]; exact HB3.out.size⟩; have N89 : g8 ≠ g9 := Nat.ne_of_lt (by rw [hg]; exact blk_lt BK8c.out); have BK8 := Aside0.mk (blk_below BK8c.out hb); have BK9 := Aside0.mk hbox; have HB4 := Aside0.mk (below_step HB3.out hb); obtain ⟨hy0, hy1, hy2, hy3, hy4, hy5, hy6, hy7, hy8⟩ := cells9 hbox; obtain ⟨fz0, fz1, fz2, fz3, fz4, fz5, fz6, fz7, fz8⟩ := frozen9 hbox; obtain ⟨hz0, hz1, hz2, hz3, fy0, fy1, fy2, fy3⟩ := cells4 BK8.out; clear hb hbox hg))
  refine bodyPost_ret (results_cell_row rfl _ _ g8 24 #[.string m5, .string m6, .string m7, .bool m8] (0, 0) _ rfl (by refine Kv_ ?_; refine blk_put (cs := #[.string m5, .string m6, .string m7, .bool false]) ?_ 3 _ rfl; refine Kv_ ?_; refine blk_put (cs := #[.string m5, .string m6, .string (⟨#[]⟩ : ByteArray), .bool false]) ?_ 2 _ rfl; refine Kv_ ?_; refine blk_put (cs := #[.string m5, .string (⟨#[]⟩ : ByteArray), .string (⟨#[]⟩ : ByteArray), .bool false]) ?_ 1 _ rfl; refine Kv_ ?_; refine blk_put (cs := #[.string (⟨#[]⟩ : ByteArray), .string (⟨#[]⟩ : ByteArray), .string (⟨#[]⟩ : ByteArray), .bool false]) ?_ 0 _ rfl; exact Kq_ (Aside0.mk (blk_far (blk_far (blk_far (blk_far (blk_far (blk_far (blk_far (blk_far (blk_far BK8.out N89 _) N89 _) N89 _) N89 _) N89 _) N89 _) N89 _) N89 _) N89 _))) Try.underlying24 rfl (by kernel_rfl)) rfl ?_
  exact ⟨rfl, ((((((((((((((((((((((((((HB4.out).setCell GE9.out _)).setCell GE9.out _)).setCell GE9.out _)).setCell GE9.out _)).setCell GE9.out _)).setCell GE9.out _)).setCell GE9.out _)).setCell GE9.out _)).setCell GE9.out _)).setCell GE8.out _)).setCell GE8.out _)).setCell GE8.out _)).setCell GE8.out _)⟩
set_option maxHeartbeats 16000000 in
set_option maxRecDepth 100000 in
theorem all_c (x0 x1 x2 x3 x4 : Int) (w : World) : Calls Try.prog 36 (#[.agg #[.int .u64 x0, .int .u64 x1, .int .u64 x2, .int .u64 x3, .int .i64 x4]] ++ #[]) w fun e w' => e = .returned (.bool true) ∧ Below w.heap.size w w' := by
 go_enter Try.func36, Try.ntmps36
 go_wp2
 go_ret
 exact ⟨rfl, below_alloc (Below.refl _ _) _⟩
set_option maxHeartbeats 16000000 in
set_option maxRecDepth 100000 in
theorem seen_c (x0 x1 x2 x3 x4 s0 s1 s2 s3 : Int) (r : Bool) (g : Nat) (w : World) (hb : w.heap[g]? = some (.cells #[.int .u64 s0, .int .u64 s1, .int .u64 s2, .int .u64 s3] 29 (0, 0))) (h : stamp_Seen.f x0 x1 x2 x3 x4 s0 s1 s2 s3 = some r) :
  Calls Try.prog 34 (#[.agg #[.int .u64 x0, .int .u64 x1, .int .u64 x2, .int .u64 x3, .int .i64 x4]] ++ #[.pointer (some ⟨g, 0, none⟩)]) w fun e w' => e = .returned (.bool r) ∧ Below w.heap.size w w' := by
 have BK := Aside0.mk hb
 have H := Aside0.mk h
 clear hb h
 go_enter Try.func34, Try.ntmps34
 go_wp2_with (first
  | ((with_reducible refine gate_dst (N := 2) rfl ?_); refine Ka_ 2 #[.int .u64 x0, .int .u64 x1, .int .u64 x2, .int .u64 x3, .int .i64 x4] 56 ?_; intro g2 hg w1 hbox hb; have HB1 := Aside0.mk hb; have hx0 := (blk_cell hbox 0).trans rfl; have hx1 := (blk_cell hbox 1).trans rfl; have hx2 := (blk_cell hbox 2).trans rfl; have hx3 := (blk_cell hbox 3).trans rfl; have hx4 := (blk_cell hbox 4).trans rfl; obtain ⟨hv0, hv1, hv2, hv3, _, _, _, _⟩ := cells4 (blk_below BK.out hb); clear hb hbox hg)
  | ((with_reducible refine gate_callee (f := 31) rfl ?_); refine Kg_ (some 6) rfl rfl Try.func31 (by kernel_rfl) rfl #[.agg #[.int .u64 x0, .int .u64 x1, .int .u64 x2, .int .u64 x3, .int .i64 x4], .agg #[.int .u64 s0, .int .u64 s1, .int .u64 s2, .int .u64 s3]] rfl ?_; (with_reducible refine (stamp_Seen.calls x0 x1 x2 x3 x4 s0 s1 s2 s3 r _ H.out).mono ?_); rintro e w2 ⟨rfl, hb⟩; refine ⟨_, rfl, ?_⟩; have HB2 := Aside0.mk (below_step HB1.out hb); clear hb))
 go_ret
 exact ⟨rfl, HB2.out⟩
set_option maxHeartbeats 16000000 in
set_option maxRecDepth 100000 in
theorem last_is (od : St → St → Int) (b k : ByteArray) (A : Option Addr) (c : Nat) (l : List Tx) (w : World) (hr : Kd.C k64 w A l.length l) (hc : l.length ≤ c) (hl : l.length ≤ 1000000) (hw : ∀ x ∈ l, x.f1.length ≤ 9223372036854775806)
  (ho : ∀ x ∈ l, ∀ y ∈ l, ∃ q, stamp_Order.f q x.f0.f0.f0 x.f0.f0.f1 x.f0.f0.f2 x.f0.f0.f3 x.f0.f1 y.f0.f0.f0 y.f0.f0.f1 y.f0.f0.f2 y.f0.f0.f3 y.f0.f1 = some (od x.f0 y.f0)) (z : Wr) (hz : z = lst (fun _ => true) od b k l) :
  Calls Try.prog 16 #[.slice A l.length c, .string b, .string k] w fun e w' => e = .returned (.tuple #[.string (if z.f3 then ⟨#[]⟩ else z.f2), .bool (!z.f3)]) ∧ Below w.heap.size w w' := by
 have HR := Aside0.mk hr
 have HW := Aside0.mk hw
 have HO := Aside0.mk ho
 have HZ := Aside0.mk hz
 clear hr hw ho hz
 obtain ⟨y0, y1, y2, y3⟩ := z
 have HB0 := Aside0.mk (Below.refl w.heap.size w)
 cases y3 <;>
 ·go_enter Try.func16, Try.ntmps16
  go_wp2_with (first
   | ((with_reducible refine gate_callee (f := 33) rfl ?_); refine Kg_ (some 12) rfl rfl Try.func33 (by kernel_rfl) rfl #[.slice A l.length c, .string b, .string k, .func (.func 36) #[] #[]] rfl ?_; (with_reducible refine (last_c (fun _ => true) od 36 #[] (enters Try.prog Try.func36 (by kernel_rfl) rfl) b k A c l _ ?s1 hc hl ?s2 ?s3 ?s4).mono ?_); (case s1 => exact HR.out); (case s2 => exact HW.out); (case s3 => intro W x _ _; obtain ⟨⟨⟨p0, p1, p2, p3⟩, p4⟩, p5⟩ := x; exact all_c p0 p1 p2 p3 p4 W); (case s4 => exact HO.out); rintro e w4 ⟨rfl, hb⟩; rw [← HZ.out]; refine ⟨_, rfl, ?_⟩; have HBL := Aside0.mk hb; clear hb)
   | ((with_reducible refine gate_dst (N := 8) rfl ?_); refine Ka_ 8 #[.string (⟨#[]⟩ : ByteArray), .string (⟨#[]⟩ : ByteArray), .string (⟨#[]⟩ : ByteArray), .bool false] 24 ?_; intro gy hg w5 hbox hb; have GEY : Aside0 (w.heap.size ≤ gy) := ⟨by rw [hg]; exact HBL.out.size⟩; have BKY := Aside0.mk hbox; have HB5 := Aside0.mk (below_step HBL.out hb); obtain ⟨hc0, hc1, hc2, hc3, hf0, hf1, hf2, hf3⟩ := cells4 hbox; clear hb hbox hg))
  go_ret2
  exact ⟨rfl, ((((((((HB5.out).setCell GEY.out _)).setCell GEY.out _)).setCell GEY.out _)).setCell GEY.out _)⟩
set_option maxHeartbeats 16000000 in
set_option maxRecDepth 100000 in
theorem read_is (od : St → St → Int) (sn : St → Bool) (s0 s1 s2 s3 : Int) (b k : ByteArray) (A : Option Addr) (c : Nat) (l : List Tx) (w : World) (hr : Kd.C k64 w A l.length l) (hc : l.length ≤ c) (hl : l.length ≤ 1000000) (hw : ∀ x ∈ l, x.f1.length ≤ 9223372036854775806)
  (ho : ∀ x ∈ l, ∀ y ∈ l, ∃ q, stamp_Order.f q x.f0.f0.f0 x.f0.f0.f1 x.f0.f0.f2 x.f0.f0.f3 x.f0.f1 y.f0.f0.f0 y.f0.f0.f1 y.f0.f0.f2 y.f0.f0.f3 y.f0.f1 = some (od x.f0 y.f0)) (hs : ∀ x ∈ l, stamp_Seen.f x.f0.f0.f0 x.f0.f0.f1 x.f0.f0.f2 x.f0.f0.f3 x.f0.f1 s0 s1 s2 s3 = some (sn x.f0)) (z : Wr) (hz : z = lst sn od b k l) :
  Calls Try.prog 14 #[.slice A l.length c, .string b, .string k, .agg #[.int .u64 s0, .int .u64 s1, .int .u64 s2, .int .u64 s3]] w fun e w' => e = .returned (.tuple #[.string (if z.f3 then ⟨#[]⟩ else z.f2), .bool (!z.f3)]) ∧ Below w.heap.size w w' := by
 have HR := Aside0.mk hr
 have HW := Aside0.mk hw
 have HO := Aside0.mk ho
 have HSN := Aside0.mk hs
 clear hs
 have HZ := Aside0.mk hz
 clear hr hw ho hz
 obtain ⟨y0, y1, y2, y3⟩ := z
 have HB0 := Aside0.mk (Below.refl w.heap.size w)
 cases y3 <;>
 ·go_enter Try.func14, Try.ntmps14
  go_wp2_with (first
   | ((with_reducible refine gate_dst (N := 7) rfl ?_); refine Ka_ 7 #[.int .u64 s0, .int .u64 s1, .int .u64 s2, .int .u64 s3] 29 ?_; intro g7 hg w1 hbox hb; have BK7 := Aside0.mk hbox; have HB1 := Aside0.mk hb; clear hb hbox hg)
   | ((with_reducible refine gate_callee (f := 33) rfl ?_); refine Kg_ (some 15) rfl rfl Try.func33 (by kernel_rfl) rfl #[.slice A l.length c, .string b, .string k, .func (.func 34) #[] #[.pointer (some ⟨g7, 0, none⟩)]] rfl ?_; (with_reducible refine (last_c sn od 34 #[.pointer (some ⟨g7, 0, none⟩)] (enters Try.prog Try.func34 (by kernel_rfl) rfl) b k A c l _ ?s1 hc hl ?s2 ?s3 ?s4).mono ?_); (case s1 => exact Kd.C_below HR.out HB1.out); (case s2 => exact HW.out); (case s3 => intro W x hx hW; have hs := HSN.out x hx; obtain ⟨⟨⟨p0, p1, p2, p3⟩, p4⟩, p5⟩ := x; exact seen_c p0 p1 p2 p3 p4 s0 s1 s2 s3 _ g7 W (blk_below BK7.out hW) hs); (case s4 => exact HO.out); rintro e w4 ⟨rfl, hb⟩; rw [← HZ.out]; refine ⟨_, rfl, ?_⟩; have HBL := Aside0.mk (below_step HB1.out hb); clear hb)
   | ((with_reducible refine gate_dst (N := 10) rfl ?_); refine Ka_ 10 #[.string (⟨#[]⟩ : ByteArray), .string (⟨#[]⟩ : ByteArray), .string (⟨#[]⟩ : ByteArray), .bool false] 24 ?_; intro gy hg w5 hbox hb; have GEY : Aside0 (w.heap.size ≤ gy) := ⟨by rw [hg]; exact HBL.out.size⟩; have BKY := Aside0.mk hbox; have HB5 := Aside0.mk (below_step HBL.out hb); obtain ⟨hc0, hc1, hc2, hc3, hf0, hf1, hf2, hf3⟩ := cells4 hbox; clear hb hbox hg))
  go_ret2
  exact ⟨rfl, ((((((((HB5.out).setCell GEY.out _)).setCell GEY.out _)).setCell GEY.out _)).setCell GEY.out _)⟩
end Go.Proofs.Ythjhkcebcgdeoaa.Jud

namespace Go.Proofs.Ythjhkcebcgdeoaa.Q
open Go.RowKit Go.Proofs.YthjhkcebcgdeoaaW.PrintWords Go.Proofs.YthjhkcebcgdeoaaW.PrintLast Go.Proofs.YthjhkcebcgdeoaaW.PrintMore
attribute [local go_sem] max2_int min2_int max_two min_two max_three min_three max_four min_four   -- for this text's walks alone
set_option linter.unusedVariables false
set_option linter.unusedSimpArgs false
def vec_At.f (a0_0 a0_1 a0_2 a0_3 n : Int) : Option Int := some (if n = 1 then a0_0 else if n = 2 then a0_1 else if n = 3 then a0_2 else if n = 4 then a0_3 else 0)
set_option maxHeartbeats 8000000 in
set_option maxRecDepth 100000 in
theorem vec_At.calls (a0_0 a0_1 a0_2 a0_3 n : Int) (r : Int) (w : World) (h : vec_At.f a0_0 a0_1 a0_2 a0_3 n = some r) :
  Calls Try.prog 41 #[.agg #[.int .u64 a0_0, .int .u64 a0_1, .int .u64 a0_2, .int .u64 a0_3], .int .i64 n] w fun e w' => e = .returned (.int .u64 r) ∧ Below w.heap.size w w' := by
 unfold vec_At.f at h
 obtain rfl := Option.some.inj h
 clear h
 have hu := Try.underlying29
 by_cases c0 : n = 1
 ·subst c0
  go_enter Try.func41, Try.ntmps41
  go_wp2
  go_ret
  exact ⟨by first | rfl | simp, by first | exact below_alloc (Below.refl _ _) _ | (repeat (first | exact Below.refl _ _ | apply below_alloc | apply pw_below_drewN | apply below_drew1))⟩
 by_cases c1 : n = 2
 ·subst c1
  go_enter Try.func41, Try.ntmps41
  go_wp2
  go_ret
  exact ⟨by first | rfl | simp, by first | exact below_alloc (Below.refl _ _) _ | (repeat (first | exact Below.refl _ _ | apply below_alloc | apply pw_below_drewN | apply below_drew1))⟩
 by_cases c2 : n = 3
 ·subst c2
  go_enter Try.func41, Try.ntmps41
  go_wp2
  go_ret
  exact ⟨by first | rfl | simp, by first | exact below_alloc (Below.refl _ _) _ | (repeat (first | exact Below.refl _ _ | apply below_alloc | apply pw_below_drewN | apply below_drew1))⟩
 by_cases c3 : n = 4
 ·subst c3
  go_enter Try.func41, Try.ntmps41
  go_wp2
  go_ret
  exact ⟨by first | rfl | simp, by first | exact below_alloc (Below.refl _ _) _ | (repeat (first | exact Below.refl _ _ | apply below_alloc | apply pw_below_drewN | apply below_drew1))⟩
 rw [if_neg c0, if_neg c1, if_neg c2, if_neg c3]
 have b1 : (decide (1 ≤ n) = false ∧ decide (n < 1) = true) ∨ (decide (1 ≤ n) = true ∧ decide (n < 1) = false ∧ decide (n ≤ 4) = false ∧ decide (4 < n) = true) := by
  by_cases h : 1 ≤ n
  ·exact Or.inr ⟨decide_eq_true h, decide_eq_false (by omega), decide_eq_false (by omega), decide_eq_true (by omega)⟩
  ·exact Or.inl ⟨decide_eq_false h, decide_eq_true (by omega)⟩
 clear c0 c1 c2 c3
 rcases b1 with ⟨b1, b2⟩ | ⟨b1, b2, b3, b4⟩
 ·go_enter Try.func41, Try.ntmps41
  go_wp2
  go_ret
  exact ⟨by first | rfl | simp, by first | exact below_alloc (Below.refl _ _) _ | (repeat (first | exact Below.refl _ _ | apply below_alloc | apply pw_below_drewN | apply below_drew1))⟩
 ·go_enter Try.func41, Try.ntmps41
  go_wp2
  go_ret
  exact ⟨by first | rfl | simp, by first | exact below_alloc (Below.refl _ _) _ | (repeat (first | exact Below.refl _ _ | apply below_alloc | apply pw_below_drewN | apply below_drew1))⟩
def stamp_Stamp_N.f (a0_0 : Int) (a0_1 : Int) (a0_2 : Int) (a0_3 : Int) (a0_4 : Int) : Option (Int) := (vec_At.f a0_0 a0_1 a0_2 a0_3 a0_4).bind fun t118 => (some t118)
set_option maxHeartbeats 8000000 in
set_option maxRecDepth 100000 in
theorem stamp_Stamp_N.calls (a0_0 : Int) (a0_1 : Int) (a0_2 : Int) (a0_3 : Int) (a0_4 : Int) (r : Int) (w : World) (h : stamp_Stamp_N.f a0_0 a0_1 a0_2 a0_3 a0_4 = some r) :
  Calls Try.prog 40 #[.agg #[.int .u64 a0_0, .int .u64 a0_1, .int .u64 a0_2, .int .u64 a0_3, .int .i64 a0_4]] w fun e w' => e = .returned (.int .u64 r) ∧ Below w.heap.size w w' := by
 have hu56 := Try.underlying56
 have hu29 := Try.underlying29
 have HB := Aside0.mk (Below.refl w.heap.size w)
 have H : ((vec_At.f a0_0 a0_1 a0_2 a0_3 a0_4).bind fun t118 => (some t118)) = some r := h
 clear h
 replace H := Option.bind_eq_some_iff.mp H
 obtain ⟨t118, A20, H⟩ := H
 replace H : (some t118) = some r := H
 have A2 := Aside0.mk A20
 clear A20
 obtain rfl := Option.some.inj H
 go_enter Try.func40, Try.ntmps40
 go_wp2_with (first | ((with_reducible refine gate_dst (N := 1) rfl ?_); refine Ka_ 1 #[.int .u64 a0_0, .int .u64 a0_1, .int .u64 a0_2, .int .u64 a0_3, .int .i64 a0_4] 56 ?_; intro gb117 hg w3 hbox hb; have BK117 := Aside0.mk (hbox); have GW117 := Kw_ HB hg; have GE117 := GW117; replace HB := Ks_ HB hb; clear hb hbox hg; obtain ⟨hcz4_0, hcz4_1, hcz4_2, hcz4_3, hcz4_4, hfz4_0, hfz4_1, hfz4_2, hfz4_3, hfz4_4⟩ := Ke5_ BK117.out) | ((with_reducible refine gate_callee (f := 41) rfl ?_); refine Kg_ (some 7) rfl rfl Try.func41 (by kernel_rfl) rfl #[.agg #[.int .u64 a0_0, .int .u64 a0_1, .int .u64 a0_2, .int .u64 a0_3], .int .i64 a0_4] rfl ?_; (with_reducible refine (vec_At.calls a0_0 a0_1 a0_2 a0_3 a0_4 t118 _ A2.out).mono ?_); rintro e w5 ⟨rfl, hb⟩; refine ⟨_, rfl, ?_⟩; replace BK117 := Kb_ BK117 hb; replace HB := Ks_ HB hb; (try clear hb); (try clear hb2); (try clear hk); (try clear hi)))
 go_ret
 exact ⟨Kh_, Kz_ HB GE117⟩
end Go.Proofs.Ythjhkcebcgdeoaa.Q

set_option linter.unusedVariables false
set_option linter.unusedSimpArgs false
namespace Go.Proofs.Ythjhkcebcgdeoaa.Pure
open Go.RowKit Go.Proofs.Ythjhkcebcgdeoaa.Q Go.Proofs.YthjhkcebcgdeoaaW.PrintWords Go.Proofs.YthjhkcebcgdeoaaW.PrintLast Go.Proofs.YthjhkcebcgdeoaaW.PrintMore Go.Proofs.Ythjhkcebcgdeoaa.Plain
def lex : List Int → List Int → Int
 | x :: xs, y :: ys => if x < y then -1 else if y < x then 1 else lex xs ys
 | _, _ => 0
theorem lex_range : ∀ a b, lex a b = -1 ∨ lex a b = 0 ∨ lex a b = 1
 | [], _ => by simp [lex]
 | _ :: _, [] => by simp [lex]
 | x :: xs, y :: ys => by
  rw [lex]
  by_cases c : x < y
  ·rw [if_pos c]; omega
  ·rw [if_neg c]
   by_cases d : y < x
   ·rw [if_pos d]; omega
   ·rw [if_neg d]; exact lex_range xs ys
theorem lex_neg : ∀ a b, lex b a = -lex a b
 | [], [] => by simp [lex]
 | [], _ :: _ => by simp [lex]
 | _ :: _, [] => by simp [lex]
 | x :: xs, y :: ys => by
  rw [lex, lex]
  by_cases c : x < y
  ·rw [if_pos c, if_neg (by omega), if_pos c]; rfl
  ·rw [if_neg c]
   by_cases d : y < x
   ·rw [if_pos d, if_neg c, if_pos d]
   ·rw [if_neg d, if_neg c, if_neg d]; exact lex_neg xs ys
theorem lex_self : ∀ a, lex a a = 0
 | [] => rfl
 | x :: xs => by
  rw [lex, if_neg (by omega), if_neg (by omega)]
  exact lex_self xs
theorem lex_eq : ∀ a b, a.length = b.length → lex a b = 0 → a = b
 | [], [], _, _ => rfl
 | [], _ :: _, h, _ => by simp at h
 | _ :: _, [], h, _ => by simp at h
 | x :: xs, y :: ys, h, e => by
  rw [lex] at e
  by_cases c : x < y
  ·rw [if_pos c] at e; exact absurd e (by omega)
  ·rw [if_neg c] at e
   by_cases d : y < x
   ·rw [if_pos d] at e; exact absurd e (by omega)
   ·rw [if_neg d] at e
    rw [lex_eq xs ys (by simpa using h) e, show x = y by omega]
def sumv (a b c d : Int) : Int := IntKind.u64.wrap (IntKind.u64.wrap (IntKind.u64.wrap (IntKind.u64.wrap (0 + a) + b) + c) + d)
def key (a b c d e : Int) : List Int := [sumv a b c d, e, a, b, c, d]
theorem key_inj {a b c d e a' b' c' d' e' : Int} (h : key a b c d e = key a' b' c' d' e') : a = a' ∧ b = b' ∧ c = c' ∧ d = d' ∧ e = e' := by
 simp only [key, List.cons.injEq] at h
 omega
theorem cmpU (a b : Int) : cmp_Compare_uint64.f a b = some (if a < b then -1 else if b < a then 1 else 0) := by
 unfold cmp_Compare_uint64.f cmp_isNaN_uint64.f
 simp only [bne_self_eq_false, Option.bind_some]
 rw [if_neg (by simp), if_neg (by simp)]
 by_cases c : a < b
 ·rw [if_pos c, if_pos c]
 ·rw [if_neg c, if_neg c]
  by_cases d : b < a
  ·rw [if_pos d, if_pos d]
  ·rw [if_neg d, if_neg d]
theorem cmpI (a b : Int) : cmp_Compare_int.f a b = some (if a < b then -1 else if b < a then 1 else 0) := by
 unfold cmp_Compare_int.f cmp_isNaN_int.f
 simp only [bne_self_eq_false, Option.bind_some]
 rw [if_neg (by simp), if_neg (by simp)]
 by_cases c : a < b
 ·rw [if_pos c, if_pos c]
 ·rw [if_neg c, if_neg c]
  by_cases d : b < a
  ·rw [if_pos d, if_pos d]
  ·rw [if_neg d, if_neg d]
theorem sl_step (A B : List Int) (hA : A.length = 4) (hB : B.length = 4) {j x y : Int} (h0 : 0 ≤ j) (h4 : j < 4) (hx : rd A j = x) (hy : rd B j = y) (k : Nat) :
  slices_Compare_uint64_uint64.l0 (k + 1) A B A 4 j = if x < y then some (-1) else if y < x then some 1 else slices_Compare_uint64_uint64.l0 k A B A 4 (j + 1) := by
 rw [slices_Compare_uint64_uint64.l0, if_pos h4, if_pos h0, if_pos (by rw [hA]; omega), if_neg (by rw [hB]; omega), if_pos (by rw [hB]; omega), hx, hy, cmpU, Option.bind_some, show wrap64 (j + 1) = j + 1 from wrap64_id (by omega) (by omega)]
 by_cases c : x < y
 ·rw [if_pos c, if_neg (by omega), if_pos c]
 ·rw [if_neg c, if_neg c]
  by_cases d : y < x
  ·rw [if_pos d, if_neg (by omega), if_pos d]
  ·rw [if_neg d, if_neg d, if_pos rfl]
theorem slices_f (a0 a1 a2 a3 b0 b1 b2 b3 : Int) {k : Nat} (hk : 5 ≤ k) : slices_Compare_uint64_uint64.f k [a0, a1, a2, a3] [b0, b1, b2, b3] = some (lex [a0, a1, a2, a3] [b0, b1, b2, b3]) := by
 obtain ⟨k, rfl⟩ : ∃ m, k = m + 5 := ⟨k - 5, by omega⟩
 show slices_Compare_uint64_uint64.l0 (k + 4 + 1) [a0, a1, a2, a3] [b0, b1, b2, b3] [a0, a1, a2, a3] 4 0 = _
 rw [sl_step [a0, a1, a2, a3] [b0, b1, b2, b3] rfl rfl (j := 0) (x := a0) (y := b0) (by omega) (by omega) rfl rfl]
 rw [lex]
 by_cases c : a0 < b0
 ·rw [if_pos c, if_pos c]
 rw [if_neg c, if_neg c]
 by_cases d : b0 < a0
 ·rw [if_pos d, if_pos d]
 rw [if_neg d, if_neg d]
 clear c d
 rw [sl_step [a0, a1, a2, a3] [b0, b1, b2, b3] rfl rfl (j := 0 + 1) (x := a1) (y := b1) (by omega) (by omega) rfl rfl]
 rw [lex]
 by_cases c : a1 < b1
 ·rw [if_pos c, if_pos c]
 rw [if_neg c, if_neg c]
 by_cases d : b1 < a1
 ·rw [if_pos d, if_pos d]
 rw [if_neg d, if_neg d]
 clear c d
 rw [sl_step [a0, a1, a2, a3] [b0, b1, b2, b3] rfl rfl (j := 0 + 1 + 1) (x := a2) (y := b2) (by omega) (by omega) rfl rfl]
 rw [lex]
 by_cases c : a2 < b2
 ·rw [if_pos c, if_pos c]
 rw [if_neg c, if_neg c]
 by_cases d : b2 < a2
 ·rw [if_pos d, if_pos d]
 rw [if_neg d, if_neg d]
 clear c d
 rw [sl_step [a0, a1, a2, a3] [b0, b1, b2, b3] rfl rfl (j := 0 + 1 + 1 + 1) (x := a3) (y := b3) (by omega) (by omega) rfl rfl]
 rw [lex]
 by_cases c : a3 < b3
 ·rw [if_pos c, if_pos c]
 rw [if_neg c, if_neg c]
 by_cases d : b3 < a3
 ·rw [if_pos d, if_pos d]
 rw [if_neg d, if_neg d]
 rw [slices_Compare_uint64_uint64.l0, if_neg (by omega), if_neg (by simp)]
 rfl
theorem or_step (L : List Int) (hL : L.length = 3) {j x : Int} (h0 : 0 ≤ j) (h3 : j < 3) (hx : rd L j = x) (k : Nat) : cmp_Or_int.l0 (k + 1) 0 L 3 j = if x = 0 then cmp_Or_int.l0 k 0 L 3 (j + 1) else some x := by
 rw [cmp_Or_int.l0, if_pos h3, if_pos h0, if_pos (by rw [hL]; omega), hx, show wrap64 (j + 1) = j + 1 from wrap64_id (by omega) (by omega)]
theorem or_f (x y z : Int) {k : Nat} (hk : 4 ≤ k) : cmp_Or_int.f k [x, y, z] = some (if x = 0 then if y = 0 then z else y else x) := by
 obtain ⟨k, rfl⟩ : ∃ m, k = m + 4 := ⟨k - 4, by omega⟩
 show cmp_Or_int.l0 (k + 3 + 1) 0 [x, y, z] 3 0 = _
 rw [or_step [x, y, z] rfl (j := 0) (x := x) (by omega) (by omega) rfl]
 by_cases c : x = 0
 ·rw [if_pos c, if_pos c, or_step [x, y, z] rfl (j := 0 + 1) (x := y) (by omega) (by omega) rfl]
  by_cases d : y = 0
  ·rw [if_pos d, if_pos d, or_step [x, y, z] rfl (j := 0 + 1 + 1) (x := z) (by omega) (by omega) rfl]
   by_cases e : z = 0
   ·rw [if_pos e, cmp_Or_int.l0, if_neg (by omega), e]
   ·rw [if_neg e]
  ·rw [if_neg d, if_neg d]
 ·rw [if_neg c, if_neg c]
theorem beq5_iff {a b c d e x y z u v : Int} : (((a == x && (b == y && (c == z && (d == u)))) && (e == v)) = true) ↔ (a = x ∧ b = y ∧ c = z ∧ d = u ∧ e = v) := by
 simp only [Bool.and_eq_true, beq_iff_eq]
 omega
theorem lex_two (S T d e : Int) (xs ys : List Int) : lex (S :: d :: xs) (T :: e :: ys) = if S < T then -1 else if T < S then 1 else if d < e then -1 else if e < d then 1 else lex xs ys := by
 rw [lex, lex]
theorem order_f (a0 a1 a2 a3 a4 b0 b1 b2 b3 b4 : Int) {k : Nat} (hk : 5 ≤ k) : stamp_Order.f k a0 a1 a2 a3 a4 b0 b1 b2 b3 b4 = some (lex (key a0 a1 a2 a3 a4) (key b0 b1 b2 b3 b4)) := by
 unfold stamp_Order.f
 by_cases c : ((a0 == b0 && (a1 == b1 && (a2 == b2 && (a3 == b3)))) && (a4 == b4)) = true
 ·rw [if_pos c]
  obtain ⟨rfl, rfl, rfl, rfl, rfl⟩ := beq5_iff.1 c
  rw [lex_self]
 rw [if_neg c]
 have e1 : vec_Sum.f a0 a1 a2 a3 = some (sumv a0 a1 a2 a3) := rfl
 have e2 : vec_Sum.f b0 b1 b2 b3 = some (sumv b0 b1 b2 b3) := rfl
 rw [e1, Option.bind_some, e2, Option.bind_some]
 unfold key
 generalize sumv a0 a1 a2 a3 = S
 generalize sumv b0 b1 b2 b3 = T
 rw [cmpU, Option.bind_some, cmpI, Option.bind_some, slices_f _ _ _ _ _ _ _ _ hk, Option.bind_some, or_f _ _ _ (by omega), lex_two S T a4 b4]
 by_cases c1 : S < T
 ·rw [if_pos c1, if_neg (by omega), if_pos c1]
 rw [if_neg c1, if_neg c1]
 by_cases c2 : T < S
 ·rw [if_pos c2, if_neg (by omega), if_pos c2]
 rw [if_neg c2, if_pos rfl, if_neg c2]
 by_cases c3 : a4 < b4
 ·rw [if_pos c3, if_neg (by omega), if_pos c3]
 rw [if_neg c3, if_neg c3]
 by_cases c4 : b4 < a4
 ·rw [if_pos c4, if_neg (by omega), if_pos c4]
 rw [if_neg c4, if_pos rfl, if_neg c4]
theorem mx_beq (a b : Int) : (mx a b == b) = decide (a ≤ b) := by
 rw [Bool.eq_iff_iff, beq_iff_eq, decide_eq_true_eq]
 unfold mx
 split <;> omega
theorem jleq_f (a b c d x y z u : Int) : vec_Leq.f a b c d x y z u = some (decide (a ≤ x ∧ b ≤ y ∧ c ≤ z ∧ d ≤ u)) := by
 unfold vec_Leq.f vec_Join.f
 simp only [Option.bind_some, mx_beq, Bool.decide_and]
theorem jseen_f (a b c d e x y z u : Int) : stamp_Seen.f a b c d e x y z u = some (decide (a ≤ x ∧ b ≤ y ∧ c ≤ z ∧ d ≤ u)) := by
 unfold stamp_Seen.f
 rw [jleq_f, Option.bind_some]
def nOf (a b c d e : Int) : Int := if e = 1 then a else if e = 2 then b else if e = 3 then c else if e = 4 then d else 0
theorem jN_f (a b c d e : Int) : stamp_Stamp_N.f a b c d e = some (nOf a b c d e) := rfl
theorem jat_f (a b c d e : Int) : vec_At.f a b c d e = some (nOf a b c d e) := rfl
end Go.Proofs.Ythjhkcebcgdeoaa.Pure
