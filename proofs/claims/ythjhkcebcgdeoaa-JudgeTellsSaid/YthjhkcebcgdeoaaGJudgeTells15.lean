import Derived.Test.YthjhkcebcgdeoaaGJudgeTells2
import Derived.Test.YthjhkcebcgdeoaaGJudgeTells11
import Derived.Test.YthjhkcebcgdeoaaGJudgeTells8
namespace Go.Proofs.Ythjhkcebcgdeoaa.Q
open Go.RowKit Go.Proofs.YthjhkcebcgdeoaaW.PrintWords Go.Proofs.YthjhkcebcgdeoaaW.PrintLast Go.Proofs.YthjhkcebcgdeoaaW.PrintMore
attribute [local go_sem] max2_int min2_int max_two min_two max_three min_three max_four min_four   -- for this text's walks alone
set_option linter.unusedVariables false
set_option linter.unusedSimpArgs false
mutual
def tenementref22_Live.l0 : Nat → List (S81) → Int → Int → Option (Int)
 | 0, _, _, _ => none
 | k + 1, x0, x3, x4 => if x4 < (x0.length : Int) then (tenementref22_Live.l1 k x0 x3 x4 0) else (some x3)
def tenementref22_Live.l1 : Nat → List (S81) → Int → Int → Int → Option (Int)
 | 0, _, _, _, _ => none
 | k + 1, x0, x3, x4, x5 => if 0 ≤ x4 then (if x4 < (x0.length : Int) then (if x5 < (((rd_T81 x0 x4).f1).length : Int) then (if 0 ≤ x5 then (tenementref22_Live.l2 k x0 x3 x4 x5 true 0 ((rd_T86 ((rd_T81 x0 x4).f1) x5).f0) ((rd_T86 ((rd_T81 x0 x4).f1) x5).f1) ((rd_T86 ((rd_T81 x0 x4).f1) x5).f2) ((rd_T86 ((rd_T81 x0 x4).f1) x5).f3)) else (none)) else (tenementref22_Live.l0 k x0 x3 (wrap64 (x4 + 1)))) else (none)) else (none)
def tenementref22_Live.l2 : Nat → List (S81) → Int → Int → Int → Bool → Int → ByteArray → ByteArray → ByteArray → Bool → Option (Int)
 | 0, _, _, _, _, _, _, _, _, _, _ => none
 | k + 1, x0, x3, x4, x5, x7, x8, x100, x101, x102, x103 => if x8 ≤ x4 then (tenementref22_Live.l3 k x0 x3 x4 x5 x7 x8 0 x100 x101 x102 x103) else (if x7 = true then ((tenementref22_last.f k x0 x100 x101 0 0 0 0 true).bind fun bt309 => ((tenementref08_Size.f bt309.1 bt309.2.1 bt309.2.2.1 bt309.2.2.2.1).bind fun t315 => (tenementref22_Live.l1 k x0 (wrap64 (x3 + t315)) x4 (wrap64 (x5 + 1))))) else (tenementref22_Live.l1 k x0 x3 x4 (wrap64 (x5 + 1))))
def tenementref22_Live.l3 : Nat → List (S81) → Int → Int → Int → Bool → Int → Int → ByteArray → ByteArray → ByteArray → Bool → Option (Int)
 | 0, _, _, _, _, _, _, _, _, _, _, _ => none
 | k + 1, x0, x3, x4, x5, x7, x8, x9, x100, x101, x102, x103 => if 0 ≤ x8 then (if x8 < (x0.length : Int) then (if x9 < (((rd_T81 x0 x8).f1).length : Int) then (if x8 < x4 then (if 0 ≤ x9 then (if ((rd_T86 ((rd_T81 x0 x8).f1) x9).f0).toList = x100.toList then (if ((rd_T86 ((rd_T81 x0 x8).f1) x9).f1).toList = x101.toList then (tenementref22_Live.l3 k x0 x3 x4 x5 false x8 (wrap64 (x9 + 1)) x100 x101 x102 x103) else (tenementref22_Live.l3 k x0 x3 x4 x5 x7 x8 (wrap64 (x9 + 1)) x100 x101 x102 x103)) else (tenementref22_Live.l3 k x0 x3 x4 x5 x7 x8 (wrap64 (x9 + 1)) x100 x101 x102 x103)) else (none)) else (if x9 < x5 then (if 0 ≤ x9 then (if ((rd_T86 ((rd_T81 x0 x8).f1) x9).f0).toList = x100.toList then (if ((rd_T86 ((rd_T81 x0 x8).f1) x9).f1).toList = x101.toList then (tenementref22_Live.l3 k x0 x3 x4 x5 false x8 (wrap64 (x9 + 1)) x100 x101 x102 x103) else (tenementref22_Live.l3 k x0 x3 x4 x5 x7 x8 (wrap64 (x9 + 1)) x100 x101 x102 x103)) else (tenementref22_Live.l3 k x0 x3 x4 x5 x7 x8 (wrap64 (x9 + 1)) x100 x101 x102 x103)) else (none)) else (tenementref22_Live.l3 k x0 x3 x4 x5 x7 x8 (wrap64 (x9 + 1)) x100 x101 x102 x103))) else (tenementref22_Live.l2 k x0 x3 x4 x5 x7 (wrap64 (x8 + 1)) x100 x101 x102 x103)) else (none)) else (none)
end
def tenementref22_Live.f (k : Nat) (l0 : List (S81)) : Option (Int) := tenementref22_Live.l0 k l0 0 0
set_option maxHeartbeats 8000000 in
set_option maxRecDepth 100000 in
theorem tenementref22_Live.calls (k : Nat) (A0 : Option Addr) (c0 : Nat) (l0 : List (S81)) (r : Int) (w : World) (hr0 : Kd.C k81 w A0 l0.length l0) (hc0 : l0.length ≤ c0) (h : tenementref22_Live.f k l0 = some r) :
  Calls Try.prog 23 #[.slice A0 l0.length c0] w fun e w' => e = .returned (.int .i64 r) ∧ Below w.heap.size w w' := by
 have hu86 := Try.underlying86
 have hu42 := Try.underlying42
 have HR0 := Aside0.mk hr0
 have HC0 := Aside0.mk hc0
 clear hr0 hc0
 have HB := Aside0.mk (Below.refl w.heap.size w)
 have H : (tenementref22_Live.l0 k l0 0 0) = some r := h
 clear h
 have H' := Aside0.mk H
 clear H
 go_enter Try.func23, Try.ntmps23
 go_wp2
 repeat (go_quiet (fail); try go_wp2)
 go_loopg [3, 4] k (fun kq v3 v4 w' => ∃ (x3_1 : Int) (x4_1 : Int), v3 = .int .i64 x3_1 ∧ v4 = .int .i64 x4_1 ∧ Aside0 (tenementref22_Live.l0 kq l0 x3_1 x4_1 = some r) ∧ Aside0 (kq ≤ k) ∧ Aside0 (Below w.heap.size w w'))
 case atStart => exact ⟨(0), (0), (by first | rfl | (simp; done) | (simp [*]; done)), (by first | rfl | (simp; done) | (simp [*]; done)), H', ⟨Nat.le_refl _⟩, ⟨Ky_ HB⟩⟩
 case round =>
  clear H'
  obtain ⟨x3_1, x4_1, rfl, rfl, HA, HK1, HB⟩ := hrel
  cases gk with
  | zero => exact absurd HA.out (by simp [tenementref22_Live.l0])
  | succ k1 =>
   have H := HA.out
   clear HA
   simp only [tenementref22_Live.l0] at H
   by_cases c2 : x4_1 < (l0.length : Int)
   rotate_left
   ·rw [if_neg c2] at H
    have c2b0 : decide (x4_1 < (l0.length : Int)) = false := decide_eq_false c2
    clear c2
    obtain rfl := Option.some.inj H
    go_wp2
    repeat (go_quiet (fail); try go_wp2)
    go_ret
    exact ⟨Kh_, Ky_ HB⟩
   rw [if_pos c2] at H
   have c2b0 : decide (x4_1 < (l0.length : Int)) = true := decide_eq_true c2
   clear c2
   have H' := Aside0.mk H
   clear H
   go_wp2
   repeat (go_quiet (fail); try go_wp2)
   go_loopg [3, 5] k1 (fun kq v3 v5 w' => ∃ (x3_2 : Int) (x5_2 : Int), v3 = .int .i64 x3_2 ∧ v5 = .int .i64 x5_2 ∧ Aside0 (tenementref22_Live.l1 kq l0 x3_2 x4_1 x5_2 = some r) ∧ Aside0 (kq ≤ k1) ∧ Aside0 (Below w.heap.size w w'))
   case atStart => exact ⟨(x3_1), (0), (by first | rfl | (simp; done) | (simp [*]; done)), (by first | rfl | (simp; done) | (simp [*]; done)), H', ⟨Nat.le_refl _⟩, ⟨Ky_ HB⟩⟩
   case round =>
    clear H'
    try clear c2
    try clear c2b0
    try clear p2
    obtain ⟨x3_2, x5_2, rfl, rfl, HA, HK2, HB⟩ := hrel
    cases gk with
    | zero => exact absurd HA.out (by simp [tenementref22_Live.l1])
    | succ k2 =>
     have H := HA.out
     clear HA
     simp only [tenementref22_Live.l1] at H
     by_cases c3 : 0 ≤ x4_1
     rotate_left
     ·rw [if_neg c3] at H
      exact absurd H (by simp)
     rw [if_pos c3] at H
     have c3b0 : decide (0 ≤ x4_1) = true := decide_eq_true c3
     clear c3
     by_cases c4 : x4_1 < (l0.length : Int)
     rotate_left
     ·rw [if_neg c4] at H
      exact absurd H (by simp)
     rw [if_pos c4] at H
     have c4b0 : decide (x4_1 < (l0.length : Int)) = true := decide_eq_true c4
     clear c4
     by_cases c5 : x5_2 < (((rd_T81 l0 x4_1).f1).length : Int)
     rotate_left
     ·rw [if_neg c5] at H
      have c5b0 : decide (x5_2 < (((rd_T81 l0 x4_1).f1).length : Int)) = false := decide_eq_false c5
      clear c5
      have H' := Aside0.mk H
      clear H
      have p296 : 0 ≤ (x4_1 : Int) := of_decide_eq_true (by first | (with_reducible assumption) | assumption)
      have q296 : x4_1 < (l0.length : Int) := of_decide_eq_true (by first | (with_reducible assumption) | assumption)
      obtain ⟨ad296, A296_5, c296_5, e296, hx296_0, hx296_1, hx296_2, hx296_3, hx296_4, hx296_5, hl296_5, hi296_5⟩ := at_T81 HR0.out x4_1 p296 q296
      cases e296
      replace hx296_0 := (HB.out.cell (World.block_lt_of_cell? w _ hx296_0)).trans hx296_0
      replace hx296_1 := (HB.out.cell (World.block_lt_of_cell? w _ hx296_1)).trans hx296_1
      replace hx296_2 := (HB.out.cell (World.block_lt_of_cell? w _ hx296_2)).trans hx296_2
      replace hx296_3 := (HB.out.cell (World.block_lt_of_cell? w _ hx296_3)).trans hx296_3
      replace hx296_4 := (HB.out.cell (World.block_lt_of_cell? w _ hx296_4)).trans hx296_4
      replace hx296_5 := (HB.out.cell (World.block_lt_of_cell? w _ hx296_5)).trans hx296_5
      have HR296_5 := Aside0.mk hi296_5
      have HC296_5 := Aside0.mk hl296_5
      clear hi296_5 hl296_5
      replace p296 := eq_true p296
      replace q296 := eq_true q296
      go_wp2
      repeat (go_quiet (fail); try go_wp2)
      go_roundg k2
      case measure => have := HK1.out; have := HK2.out; omega
      case rel => exact ⟨(x3_2), (wrap64 (x4_1 + 1)), (by first | rfl | (simp; done) | (simp [*]; done)), (by first | rfl | (simp; done) | (simp [*]; done)), H', ⟨by have := HK1.out; have := HK2.out; omega⟩, ⟨Ky_ HB⟩⟩
     rw [if_pos c5] at H
     have c5b0 : decide (x5_2 < (((rd_T81 l0 x4_1).f1).length : Int)) = true := decide_eq_true c5
     clear c5
     by_cases c6 : 0 ≤ x5_2
     rotate_left
     ·rw [if_neg c6] at H
      exact absurd H (by simp)
     rw [if_pos c6] at H
     have c6b0 : decide (0 ≤ x5_2) = true := decide_eq_true c6
     clear c6
     have H' := Aside0.mk H
     clear H
     have p296 : 0 ≤ (x4_1 : Int) := of_decide_eq_true (by first | (with_reducible assumption) | assumption)
     have q296 : x4_1 < (l0.length : Int) := of_decide_eq_true (by first | (with_reducible assumption) | assumption)
     obtain ⟨ad296, A296_5, c296_5, e296, hx296_0, hx296_1, hx296_2, hx296_3, hx296_4, hx296_5, hl296_5, hi296_5⟩ := at_T81 HR0.out x4_1 p296 q296
     cases e296
     replace hx296_0 := (HB.out.cell (World.block_lt_of_cell? w _ hx296_0)).trans hx296_0
     replace hx296_1 := (HB.out.cell (World.block_lt_of_cell? w _ hx296_1)).trans hx296_1
     replace hx296_2 := (HB.out.cell (World.block_lt_of_cell? w _ hx296_2)).trans hx296_2
     replace hx296_3 := (HB.out.cell (World.block_lt_of_cell? w _ hx296_3)).trans hx296_3
     replace hx296_4 := (HB.out.cell (World.block_lt_of_cell? w _ hx296_4)).trans hx296_4
     replace hx296_5 := (HB.out.cell (World.block_lt_of_cell? w _ hx296_5)).trans hx296_5
     have HR296_5 := Aside0.mk hi296_5
     have HC296_5 := Aside0.mk hl296_5
     clear hi296_5 hl296_5
     replace p296 := eq_true p296
     replace q296 := eq_true q296
     have p297 : 0 ≤ (x4_1 : Int) := of_decide_eq_true (by first | (with_reducible assumption) | assumption)
     have q297 : x4_1 < (l0.length : Int) := of_decide_eq_true (by first | (with_reducible assumption) | assumption)
     obtain ⟨ad297, A297_5, c297_5, e297, hx297_0, hx297_1, hx297_2, hx297_3, hx297_4, hx297_5, hl297_5, hi297_5⟩ := at_T81 HR0.out x4_1 p297 q297
     obtain rfl : ad296 = ad297 := (by injection e297)
     replace hx297_0 := (HB.out.cell (World.block_lt_of_cell? w _ hx297_0)).trans hx297_0
     replace hx297_1 := (HB.out.cell (World.block_lt_of_cell? w _ hx297_1)).trans hx297_1
     replace hx297_2 := (HB.out.cell (World.block_lt_of_cell? w _ hx297_2)).trans hx297_2
     replace hx297_3 := (HB.out.cell (World.block_lt_of_cell? w _ hx297_3)).trans hx297_3
     replace hx297_4 := (HB.out.cell (World.block_lt_of_cell? w _ hx297_4)).trans hx297_4
     replace hx297_5 := (HB.out.cell (World.block_lt_of_cell? w _ hx297_5)).trans hx297_5
     have HR297_5 := Aside0.mk hi297_5
     have HC297_5 := Aside0.mk hl297_5
     clear hi297_5 hl297_5
     replace p297 := eq_true p297
     replace q297 := eq_true q297
     have ea_ := Option.some.inj (hx296_5.symm.trans hx297_5)
     injection ea_ with ea_ en_ ec_
     subst ea_
     subst ec_
     clear en_
     have p298 : 0 ≤ (x5_2 : Int) := of_decide_eq_true (by first | (with_reducible assumption) | assumption)
     have q298 : x5_2 < (((rd_T81 l0 x4_1).f1).length : Int) := of_decide_eq_true (by first | (with_reducible assumption) | assumption)
     obtain ⟨ad298, e298, hx298_0, hx298_1, hx298_2, hx298_3⟩ := at_T86 HR297_5.out x5_2 p298 q298
     cases e298
     replace hx298_0 := (HB.out.cell (World.block_lt_of_cell? w _ hx298_0)).trans hx298_0
     replace hx298_1 := (HB.out.cell (World.block_lt_of_cell? w _ hx298_1)).trans hx298_1
     replace hx298_2 := (HB.out.cell (World.block_lt_of_cell? w _ hx298_2)).trans hx298_2
     replace hx298_3 := (HB.out.cell (World.block_lt_of_cell? w _ hx298_3)).trans hx298_3
     replace p298 := eq_true p298
     replace q298 := eq_true q298
     go_wp2_with (first | ((with_reducible refine gate_dst (N := 6) rfl ?_); refine Ka_ 6 #[.string (⟨#[]⟩ : ByteArray), .string (⟨#[]⟩ : ByteArray), .string (⟨#[]⟩ : ByteArray), .bool false] 86 ?_; intro gb299 hg w7 hbox hb; have BK299 := Aside0.mk (hbox); have GW299 := Kw_ HB hg; have GE299 := GW299; replace HB := Ks_ HB hb; clear hb hbox hg; obtain ⟨hcz8_0, hcz8_1, hcz8_2, hcz8_3, hfz8_0, hfz8_1, hfz8_2, hfz8_3⟩ := Ke4_ BK299.out))
     repeat (go_quiet (first | ((with_reducible refine gate_dst (N := 6) rfl ?_); refine Ka_ 6 #[.string (⟨#[]⟩ : ByteArray), .string (⟨#[]⟩ : ByteArray), .string (⟨#[]⟩ : ByteArray), .bool false] 86 ?_; intro gb299 hg w7 hbox hb; have BK299 := Aside0.mk (hbox); have GW299 := Kw_ HB hg; have GE299 := GW299; replace HB := Ks_ HB hb; clear hb hbox hg; obtain ⟨hcz8_0, hcz8_1, hcz8_2, hcz8_3, hfz8_0, hfz8_1, hfz8_2, hfz8_3⟩ := Ke4_ BK299.out)); try go_wp2_with (first | ((with_reducible refine gate_dst (N := 6) rfl ?_); refine Ka_ 6 #[.string (⟨#[]⟩ : ByteArray), .string (⟨#[]⟩ : ByteArray), .string (⟨#[]⟩ : ByteArray), .bool false] 86 ?_; intro gb299 hg w7 hbox hb; have BK299 := Aside0.mk (hbox); have GW299 := Kw_ HB hg; have GE299 := GW299; replace HB := Ks_ HB hb; clear hb hbox hg; obtain ⟨hcz8_0, hcz8_1, hcz8_2, hcz8_3, hfz8_0, hfz8_1, hfz8_2, hfz8_3⟩ := Ke4_ BK299.out)))
     go_loopg [7, 8] k2 (fun kq v7 v8 w' => ∃ (x7_3 : Bool) (x8_3 : Int), v7 = .bool x7_3 ∧ v8 = .int .i64 x8_3 ∧ Aside0 (tenementref22_Live.l2 kq l0 x3_2 x4_1 x5_2 x7_3 x8_3 ((rd_T86 ((rd_T81 l0 x4_1).f1) x5_2).f0) ((rd_T86 ((rd_T81 l0 x4_1).f1) x5_2).f1) ((rd_T86 ((rd_T81 l0 x4_1).f1) x5_2).f2) ((rd_T86 ((rd_T81 l0 x4_1).f1) x5_2).f3) = some r) ∧ Aside0 (kq ≤ k2) ∧ Aside0 (w'.heap[gb299]? = some (.cells #[.string ((rd_T86 ((rd_T81 l0 x4_1).f1) x5_2).f0), .string ((rd_T86 ((rd_T81 l0 x4_1).f1) x5_2).f1), .string ((rd_T86 ((rd_T81 l0 x4_1).f1) x5_2).f2), .bool ((rd_T86 ((rd_T81 l0 x4_1).f1) x5_2).f3)] 86 (0, 0))) ∧ Aside0 (Below w.heap.size w w'))
     case atStart => exact ⟨(true), (0), (by first | rfl | (simp; done) | (simp [*]; done)), (by first | rfl | (simp; done) | (simp [*]; done)), H', ⟨Nat.le_refl _⟩, ⟨by refine Kv_ ?_; refine blk_put (cs := #[.string ((rd_T86 ((rd_T81 l0 x4_1).f1) x5_2).f0), .string ((rd_T86 ((rd_T81 l0 x4_1).f1) x5_2).f1), .string ((rd_T86 ((rd_T81 l0 x4_1).f1) x5_2).f2), .bool false]) ?_ 3 _ rfl; refine Kv_ ?_; refine blk_put (cs := #[.string ((rd_T86 ((rd_T81 l0 x4_1).f1) x5_2).f0), .string ((rd_T86 ((rd_T81 l0 x4_1).f1) x5_2).f1), .string (⟨#[]⟩ : ByteArray), .bool false]) ?_ 2 _ rfl; refine Kv_ ?_; refine blk_put (cs := #[.string ((rd_T86 ((rd_T81 l0 x4_1).f1) x5_2).f0), .string (⟨#[]⟩ : ByteArray), .string (⟨#[]⟩ : ByteArray), .bool false]) ?_ 1 _ rfl; refine Kv_ ?_; refine blk_put (cs := #[.string (⟨#[]⟩ : ByteArray), .string (⟨#[]⟩ : ByteArray), .string (⟨#[]⟩ : ByteArray), .bool false]) ?_ 0 _ rfl; exact Kq_ BK299⟩, ⟨Kz_ HB GE299⟩⟩
     case round =>
      clear H'
      try clear c2
      try clear c2b0
      try clear p2
      try clear q2
      try clear hx2
      try clear c3
      try clear c3b0
      try clear c4
      try clear c4b0
      try clear c5
      try clear c5b0
      try clear c6
      try clear c6b0
      try clear hcz8_0
      try clear hcz8_1
      try clear hcz8_2
      try clear hcz8_3
      try clear hfz8_0
      try clear hfz8_1
      try clear hfz8_2
      try clear hfz8_3
      try clear hx296_0
      try clear hx296_1
      try clear hx296_2
      try clear hx296_3
      try clear hx296_4
      try clear hx296_5
      try clear hx297_0
      try clear hx297_1
      try clear hx297_2
      try clear hx297_3
      try clear hx297_4
      try clear hx297_5
      try clear hx298_0
      try clear hx298_1
      try clear hx298_2
      try clear hx298_3
      try clear p2
      try clear p296
      try clear p297
      try clear p298
      try clear q296
      try clear q297
      try clear q298
      obtain ⟨x7_3, x8_3, rfl, rfl, HA, HK3, BK299, HB⟩ := hrel
      cases gk with
      | zero => exact absurd HA.out (by simp [tenementref22_Live.l2])
      | succ k3 =>
       have H := HA.out
       clear HA
       simp only [tenementref22_Live.l2] at H
       by_cases c9 : x8_3 ≤ x4_1
       rotate_left
       ·rw [if_neg c9] at H
        have c9b0 : decide (x8_3 ≤ x4_1) = false := decide_eq_false c9
        clear c9
        by_cases c27 : x7_3 = true
        rotate_left
        ·replace c27 := Bool.eq_false_iff.mpr c27
         subst c27
         have H1 : (tenementref22_Live.l1 k3 l0 x3_2 x4_1 (wrap64 (x5_2 + 1))) = some r := by rw [if_neg (show ¬ (false = true) by decide)] at H; exact H
         clear H
         have H := H1
         clear H1
         have H' := Aside0.mk H
         clear H
         go_wp2
         repeat (go_quiet (fail); try go_wp2)
         go_roundg k3
         case measure => have := HK1.out; have := HK2.out; have := HK3.out; omega
         case rel => exact ⟨(x3_2), (wrap64 (x5_2 + 1)), (by first | rfl | (simp; done) | (simp [*]; done)), (by first | rfl | (simp; done) | (simp [*]; done)), H', ⟨by have := HK1.out; have := HK2.out; have := HK3.out; omega⟩, ⟨Kz_ HB GE299⟩⟩
        subst c27
        have H1 : ((tenementref22_last.f k3 l0 ((rd_T86 ((rd_T81 l0 x4_1).f1) x5_2).f0) ((rd_T86 ((rd_T81 l0 x4_1).f1) x5_2).f1) 0 0 0 0 true).bind fun bt309 => ((tenementref08_Size.f bt309.1 bt309.2.1 bt309.2.2.1 bt309.2.2.2.1).bind fun t315 => (tenementref22_Live.l1 k3 l0 (wrap64 (x3_2 + t315)) x4_1 (wrap64 (x5_2 + 1))))) = some r := by rw [if_pos rfl] at H; exact H
        clear H
        have H := H1
        clear H1
        replace H := Option.bind_eq_some_iff.mp H
        obtain ⟨⟨t309, t310, t311, t312, t313⟩, A280, H⟩ := H
        replace H : ((tenementref08_Size.f t309 t310 t311 t312).bind fun t315 => (tenementref22_Live.l1 k3 l0 (wrap64 (x3_2 + t315)) x4_1 (wrap64 (x5_2 + 1)))) = some r := H
        have A28 := Aside0.mk A280
        clear A280
        replace H := Option.bind_eq_some_iff.mp H
        obtain ⟨t315, A290, H⟩ := H
        replace H : (tenementref22_Live.l1 k3 l0 (wrap64 (x3_2 + t315)) x4_1 (wrap64 (x5_2 + 1))) = some r := H
        have A29 := Aside0.mk A290
        clear A290
        have H' := Aside0.mk H
        clear H
        obtain ⟨hcz30_0, hcz30_1, hcz30_2, hcz30_3, hfz30_0, hfz30_1, hfz30_2, hfz30_3⟩ := Ke4_ BK299.out
        go_wp2_with (first | (go_at_call 35; (with_reducible refine (tenementref22_last.calls k3 _ _ l0 ((rd_T86 ((rd_T81 l0 x4_1).f1) x5_2).f0) ((rd_T86 ((rd_T81 l0 x4_1).f1) x5_2).f1) 0 0 0 0 true t309 t310 t311 t312 t313 _ ?side1 ?side2 A28.out).mono ?_); (case side1 => repeat (first | exact (Kd.C_below HR0.out HB.out) | (with_reducible refine Kd.C_alloc ?_ _) | (with_reducible refine Kd.C_drewN ?_ _) | (with_reducible refine Kd.C_drew ?_))); (case side2 => exact HC0.out); rintro e w31 ⟨rfl, hb⟩; replace BK299 := Kb_ BK299 hb; replace HB := Ks_ HB hb; (try clear hb); (try clear hb2); (try clear hk); (try clear hi)) | ((with_reducible refine gate_dst (N := 10) rfl ?_); refine Ka_ 10 #[.string (⟨#[]⟩ : ByteArray), .string (⟨#[]⟩ : ByteArray), .string (⟨#[]⟩ : ByteArray), .bool false] 86 ?_; intro gb314 hg w32 hbox hb; have BK314 := Aside0.mk (hbox); have GW314 := Kw_ HB hg; have GE314 := GW314; have NB299_314 := Kl_ BK299 hg; have NB314_299 := Kr_ BK299 hg; replace BK299 := Kb_ BK299 hb; replace HB := Ks_ HB hb; clear hb hbox hg; have hnb33 := NB314_299.out; have hnc33 := NB299_314.out; obtain ⟨hcz34_0, hcz34_1, hcz34_2, hcz34_3, hfz34_0, hfz34_1, hfz34_2, hfz34_3⟩ := Ke4_ BK314.out) | (go_at_call 45; (with_reducible refine (tenementref08_Size.calls t309 t310 t311 t312 t315 _ A29.out).mono ?_); rintro e w35 ⟨rfl, hb⟩; replace BK299 := Kf_ BK299 NB299_314 hb; replace BK314 := Aside0.mk (blk_below (g := gb314) (o := .cells #[.string t309, .string t310, .string t311, .bool t312] 86 (0, 0)) (by refine Kv_ ?_; refine blk_put (cs := #[.string t309, .string t310, .string t311, .bool false]) ?_ 3 _ rfl; refine Kv_ ?_; refine blk_put (cs := #[.string t309, .string t310, .string (⟨#[]⟩ : ByteArray), .bool false]) ?_ 2 _ rfl; refine Kv_ ?_; refine blk_put (cs := #[.string t309, .string (⟨#[]⟩ : ByteArray), .string (⟨#[]⟩ : ByteArray), .bool false]) ?_ 1 _ rfl; refine Kv_ ?_; refine blk_put (cs := #[.string (⟨#[]⟩ : ByteArray), .string (⟨#[]⟩ : ByteArray), .string (⟨#[]⟩ : ByteArray), .bool false]) ?_ 0 _ rfl; exact Kq_ BK314) hb); replace HB := Kt_ HB GE314 hb; (try clear hb); (try clear hb2); (try clear hk); (try clear hi)))
        repeat (go_quiet (first | (go_at_call 35; (with_reducible refine (tenementref22_last.calls k3 _ _ l0 ((rd_T86 ((rd_T81 l0 x4_1).f1) x5_2).f0) ((rd_T86 ((rd_T81 l0 x4_1).f1) x5_2).f1) 0 0 0 0 true t309 t310 t311 t312 t313 _ ?side1 ?side2 A28.out).mono ?_); (case side1 => repeat (first | exact (Kd.C_below HR0.out HB.out) | (with_reducible refine Kd.C_alloc ?_ _) | (with_reducible refine Kd.C_drewN ?_ _) | (with_reducible refine Kd.C_drew ?_))); (case side2 => exact HC0.out); rintro e w31 ⟨rfl, hb⟩; replace BK299 := Kb_ BK299 hb; replace HB := Ks_ HB hb; (try clear hb); (try clear hb2); (try clear hk); (try clear hi)) | ((with_reducible refine gate_dst (N := 10) rfl ?_); refine Ka_ 10 #[.string (⟨#[]⟩ : ByteArray), .string (⟨#[]⟩ : ByteArray), .string (⟨#[]⟩ : ByteArray), .bool false] 86 ?_; intro gb314 hg w32 hbox hb; have BK314 := Aside0.mk (hbox); have GW314 := Kw_ HB hg; have GE314 := GW314; have NB299_314 := Kl_ BK299 hg; have NB314_299 := Kr_ BK299 hg; replace BK299 := Kb_ BK299 hb; replace HB := Ks_ HB hb; clear hb hbox hg; have hnb33 := NB314_299.out; have hnc33 := NB299_314.out; obtain ⟨hcz34_0, hcz34_1, hcz34_2, hcz34_3, hfz34_0, hfz34_1, hfz34_2, hfz34_3⟩ := Ke4_ BK314.out) | (go_at_call 45; (with_reducible refine (tenementref08_Size.calls t309 t310 t311 t312 t315 _ A29.out).mono ?_); rintro e w35 ⟨rfl, hb⟩; replace BK299 := Kf_ BK299 NB299_314 hb; replace BK314 := Aside0.mk (blk_below (g := gb314) (o := .cells #[.string t309, .string t310, .string t311, .bool t312] 86 (0, 0)) (by refine Kv_ ?_; refine blk_put (cs := #[.string t309, .string t310, .string t311, .bool false]) ?_ 3 _ rfl; refine Kv_ ?_; refine blk_put (cs := #[.string t309, .string t310, .string (⟨#[]⟩ : ByteArray), .bool false]) ?_ 2 _ rfl; refine Kv_ ?_; refine blk_put (cs := #[.string t309, .string (⟨#[]⟩ : ByteArray), .string (⟨#[]⟩ : ByteArray), .bool false]) ?_ 1 _ rfl; refine Kv_ ?_; refine blk_put (cs := #[.string (⟨#[]⟩ : ByteArray), .string (⟨#[]⟩ : ByteArray), .string (⟨#[]⟩ : ByteArray), .bool false]) ?_ 0 _ rfl; exact Kq_ BK314) hb); replace HB := Kt_ HB GE314 hb; (try clear hb); (try clear hb2); (try clear hk); (try clear hi))); try go_wp2_with (first | (go_at_call 35; (with_reducible refine (tenementref22_last.calls k3 _ _ l0 ((rd_T86 ((rd_T81 l0 x4_1).f1) x5_2).f0) ((rd_T86 ((rd_T81 l0 x4_1).f1) x5_2).f1) 0 0 0 0 true t309 t310 t311 t312 t313 _ ?side1 ?side2 A28.out).mono ?_); (case side1 => repeat (first | exact (Kd.C_below HR0.out HB.out) | (with_reducible refine Kd.C_alloc ?_ _) | (with_reducible refine Kd.C_drewN ?_ _) | (with_reducible refine Kd.C_drew ?_))); (case side2 => exact HC0.out); rintro e w31 ⟨rfl, hb⟩; replace BK299 := Kb_ BK299 hb; replace HB := Ks_ HB hb; (try clear hb); (try clear hb2); (try clear hk); (try clear hi)) | ((with_reducible refine gate_dst (N := 10) rfl ?_); refine Ka_ 10 #[.string (⟨#[]⟩ : ByteArray), .string (⟨#[]⟩ : ByteArray), .string (⟨#[]⟩ : ByteArray), .bool false] 86 ?_; intro gb314 hg w32 hbox hb; have BK314 := Aside0.mk (hbox); have GW314 := Kw_ HB hg; have GE314 := GW314; have NB299_314 := Kl_ BK299 hg; have NB314_299 := Kr_ BK299 hg; replace BK299 := Kb_ BK299 hb; replace HB := Ks_ HB hb; clear hb hbox hg; have hnb33 := NB314_299.out; have hnc33 := NB299_314.out; obtain ⟨hcz34_0, hcz34_1, hcz34_2, hcz34_3, hfz34_0, hfz34_1, hfz34_2, hfz34_3⟩ := Ke4_ BK314.out) | (go_at_call 45; (with_reducible refine (tenementref08_Size.calls t309 t310 t311 t312 t315 _ A29.out).mono ?_); rintro e w35 ⟨rfl, hb⟩; replace BK299 := Kf_ BK299 NB299_314 hb; replace BK314 := Aside0.mk (blk_below (g := gb314) (o := .cells #[.string t309, .string t310, .string t311, .bool t312] 86 (0, 0)) (by refine Kv_ ?_; refine blk_put (cs := #[.string t309, .string t310, .string t311, .bool false]) ?_ 3 _ rfl; refine Kv_ ?_; refine blk_put (cs := #[.string t309, .string t310, .string (⟨#[]⟩ : ByteArray), .bool false]) ?_ 2 _ rfl; refine Kv_ ?_; refine blk_put (cs := #[.string t309, .string (⟨#[]⟩ : ByteArray), .string (⟨#[]⟩ : ByteArray), .bool false]) ?_ 1 _ rfl; refine Kv_ ?_; refine blk_put (cs := #[.string (⟨#[]⟩ : ByteArray), .string (⟨#[]⟩ : ByteArray), .string (⟨#[]⟩ : ByteArray), .bool false]) ?_ 0 _ rfl; exact Kq_ BK314) hb); replace HB := Kt_ HB GE314 hb; (try clear hb); (try clear hb2); (try clear hk); (try clear hi))))
        go_roundg k3
        case measure => have := HK1.out; have := HK2.out; have := HK3.out; omega
        case rel => exact ⟨(wrap64 (x3_2 + t315)), (wrap64 (x5_2 + 1)), (by first | rfl | (simp; done) | (simp [*]; done)), (by first | rfl | (simp; done) | (simp [*]; done)), H', ⟨by have := HK1.out; have := HK2.out; have := HK3.out; omega⟩, ⟨K2a_ HB GE299 GE314⟩⟩
       rw [if_pos c9] at H
       have c9b0 : decide (x8_3 ≤ x4_1) = true := decide_eq_true c9
       clear c9
       have H' := Aside0.mk H
       clear H
       go_wp2
       repeat (go_quiet (fail); try go_wp2)
       go_loopg [7, 9] k3 (fun kq v7 v9 w' => ∃ (x7_4 : Bool) (x9_4 : Int), v7 = .bool x7_4 ∧ v9 = .int .i64 x9_4 ∧ Aside0 (tenementref22_Live.l3 kq l0 x3_2 x4_1 x5_2 x7_4 x8_3 x9_4 ((rd_T86 ((rd_T81 l0 x4_1).f1) x5_2).f0) ((rd_T86 ((rd_T81 l0 x4_1).f1) x5_2).f1) ((rd_T86 ((rd_T81 l0 x4_1).f1) x5_2).f2) ((rd_T86 ((rd_T81 l0 x4_1).f1) x5_2).f3) = some r) ∧ Aside0 (kq ≤ k3) ∧ Aside0 (w'.heap[gb299]? = some (.cells #[.string ((rd_T86 ((rd_T81 l0 x4_1).f1) x5_2).f0), .string ((rd_T86 ((rd_T81 l0 x4_1).f1) x5_2).f1), .string ((rd_T86 ((rd_T81 l0 x4_1).f1) x5_2).f2), .bool ((rd_T86 ((rd_T81 l0 x4_1).f1) x5_2).f3)] 86 (0, 0))) ∧ Aside0 (Below w.heap.size w w'))
       case atStart => exact ⟨(x7_3), (0), (by first | rfl | (simp; done) | (simp [*]; done)), (by first | rfl | (simp; done) | (simp [*]; done)), H', ⟨Nat.le_refl _⟩, ⟨by exact Kq_ BK299⟩, ⟨Kz_ HB GE299⟩⟩
       case round =>
        clear H'
        try clear c2
        try clear c2b0
        try clear p2
        try clear q2
        try clear hx2
        try clear c3
        try clear c3b0
        try clear c4
        try clear c4b0
        try clear c5
        try clear c5b0
        try clear c6
        try clear c6b0
        try clear c9
        try clear c9b0
        try clear hcz8_0
        try clear hcz8_1
        try clear hcz8_2
        try clear hcz8_3
        try clear hfz8_0
        try clear hfz8_1
        try clear hfz8_2
        try clear hfz8_3
        try clear hx296_0
        try clear hx296_1
        try clear hx296_2
        try clear hx296_3
        try clear hx296_4
        try clear hx296_5
        try clear hx297_0
        try clear hx297_1
        try clear hx297_2
        try clear hx297_3
        try clear hx297_4
        try clear hx297_5
        try clear hx298_0
        try clear hx298_1
        try clear hx298_2
        try clear hx298_3
        try clear p2
        try clear p296
        try clear p297
        try clear p298
        try clear q2
        try clear q296
        try clear q297
        try clear q298
        obtain ⟨x7_4, x9_4, rfl, rfl, HA, HK4, BK299, HB⟩ := hrel
        cases gk with
        | zero => exact absurd HA.out (by simp [tenementref22_Live.l3])
        | succ k4 =>
         have H := HA.out
         clear HA
         simp only [tenementref22_Live.l3] at H
         by_cases c10 : 0 ≤ x8_3
         rotate_left
         ·rw [if_neg c10] at H
          exact absurd H (by simp)
         rw [if_pos c10] at H
         have c10b0 : decide (0 ≤ x8_3) = true := decide_eq_true c10
         clear c10
         by_cases c11 : x8_3 < (l0.length : Int)
         rotate_left
         ·rw [if_neg c11] at H
          exact absurd H (by simp)
         rw [if_pos c11] at H
         have c11b0 : decide (x8_3 < (l0.length : Int)) = true := decide_eq_true c11
         clear c11
         by_cases c12 : x9_4 < (((rd_T81 l0 x8_3).f1).length : Int)
         rotate_left
         ·rw [if_neg c12] at H
          have c12b0 : decide (x9_4 < (((rd_T81 l0 x8_3).f1).length : Int)) = false := decide_eq_false c12
          clear c12
          have H' := Aside0.mk H
          clear H
          have p300 : 0 ≤ (x8_3 : Int) := of_decide_eq_true (by first | (with_reducible assumption) | assumption)
          have q300 : x8_3 < (l0.length : Int) := of_decide_eq_true (by first | (with_reducible assumption) | assumption)
          obtain ⟨ad300, A300_5, c300_5, e300, hx300_0, hx300_1, hx300_2, hx300_3, hx300_4, hx300_5, hl300_5, hi300_5⟩ := at_T81 HR0.out x8_3 p300 q300
          obtain rfl : ad296 = ad300 := (by injection e300)
          replace hx300_0 := (HB.out.cell (World.block_lt_of_cell? w _ hx300_0)).trans hx300_0
          replace hx300_1 := (HB.out.cell (World.block_lt_of_cell? w _ hx300_1)).trans hx300_1
          replace hx300_2 := (HB.out.cell (World.block_lt_of_cell? w _ hx300_2)).trans hx300_2
          replace hx300_3 := (HB.out.cell (World.block_lt_of_cell? w _ hx300_3)).trans hx300_3
          replace hx300_4 := (HB.out.cell (World.block_lt_of_cell? w _ hx300_4)).trans hx300_4
          replace hx300_5 := (HB.out.cell (World.block_lt_of_cell? w _ hx300_5)).trans hx300_5
          have HR300_5 := Aside0.mk hi300_5
          have HC300_5 := Aside0.mk hl300_5
          clear hi300_5 hl300_5
          replace p300 := eq_true p300
          replace q300 := eq_true q300
          go_wp2
          repeat (go_quiet (fail); try go_wp2)
          go_roundg k4
          case measure => have := HK1.out; have := HK2.out; have := HK3.out; have := HK4.out; omega
          case rel => exact ⟨(x7_4), (wrap64 (x8_3 + 1)), (by first | rfl | (simp; done) | (simp [*]; done)), (by first | rfl | (simp; done) | (simp [*]; done)), H', ⟨by have := HK1.out; have := HK2.out; have := HK3.out; have := HK4.out; omega⟩, ⟨by exact Kq_ BK299⟩, ⟨Kz_ HB GE299⟩⟩
         rw [if_pos c12] at H
         have c12b0 : decide (x9_4 < (((rd_T81 l0 x8_3).f1).length : Int)) = true := decide_eq_true c12
         clear c12
         by_cases c13 : x8_3 < x4_1
         ·rw [if_pos c13] at H
          have c13b0 : decide (x8_3 < x4_1) = true := decide_eq_true c13
          clear c13
          by_cases c14 : 0 ≤ x9_4
          rotate_left
          ·rw [if_neg c14] at H
           exact absurd H (by simp)
          rw [if_pos c14] at H
          have c14b0 : decide (0 ≤ x9_4) = true := decide_eq_true c14
          clear c14
          by_cases c15 : ((rd_T86 ((rd_T81 l0 x8_3).f1) x9_4).f0).toList = ((rd_T86 ((rd_T81 l0 x4_1).f1) x5_2).f0).toList
          rotate_left
          ·rw [if_neg c15] at H
           have c15b0 : (((rd_T86 ((rd_T81 l0 x8_3).f1) x9_4).f0).toList == ((rd_T86 ((rd_T81 l0 x4_1).f1) x5_2).f0).toList) = false := beq_eq_false_iff_ne.mpr c15
           have c15b1 : (((rd_T86 ((rd_T81 l0 x8_3).f1) x9_4).f0).toList != ((rd_T86 ((rd_T81 l0 x4_1).f1) x5_2).f0).toList) = true := bne_iff_ne.mpr c15
           have H' := Aside0.mk H
           clear H
           have p300 : 0 ≤ (x8_3 : Int) := of_decide_eq_true (by first | (with_reducible assumption) | assumption)
           have q300 : x8_3 < (l0.length : Int) := of_decide_eq_true (by first | (with_reducible assumption) | assumption)
           obtain ⟨ad300, A300_5, c300_5, e300, hx300_0, hx300_1, hx300_2, hx300_3, hx300_4, hx300_5, hl300_5, hi300_5⟩ := at_T81 HR0.out x8_3 p300 q300
           obtain rfl : ad296 = ad300 := (by injection e300)
           replace hx300_0 := (HB.out.cell (World.block_lt_of_cell? w _ hx300_0)).trans hx300_0
           replace hx300_1 := (HB.out.cell (World.block_lt_of_cell? w _ hx300_1)).trans hx300_1
           replace hx300_2 := (HB.out.cell (World.block_lt_of_cell? w _ hx300_2)).trans hx300_2
           replace hx300_3 := (HB.out.cell (World.block_lt_of_cell? w _ hx300_3)).trans hx300_3
           replace hx300_4 := (HB.out.cell (World.block_lt_of_cell? w _ hx300_4)).trans hx300_4
           replace hx300_5 := (HB.out.cell (World.block_lt_of_cell? w _ hx300_5)).trans hx300_5
           have HR300_5 := Aside0.mk hi300_5
           have HC300_5 := Aside0.mk hl300_5
           clear hi300_5 hl300_5
           replace p300 := eq_true p300
           replace q300 := eq_true q300
           have p301 : 0 ≤ (x8_3 : Int) := of_decide_eq_true (by first | (with_reducible assumption) | assumption)
           have q301 : x8_3 < (l0.length : Int) := of_decide_eq_true (by first | (with_reducible assumption) | assumption)
           obtain ⟨ad301, A301_5, c301_5, e301, hx301_0, hx301_1, hx301_2, hx301_3, hx301_4, hx301_5, hl301_5, hi301_5⟩ := at_T81 HR0.out x8_3 p301 q301
           obtain rfl : ad296 = ad301 := (by injection e301)
           replace hx301_0 := (HB.out.cell (World.block_lt_of_cell? w _ hx301_0)).trans hx301_0
           replace hx301_1 := (HB.out.cell (World.block_lt_of_cell? w _ hx301_1)).trans hx301_1
           replace hx301_2 := (HB.out.cell (World.block_lt_of_cell? w _ hx301_2)).trans hx301_2
           replace hx301_3 := (HB.out.cell (World.block_lt_of_cell? w _ hx301_3)).trans hx301_3
           replace hx301_4 := (HB.out.cell (World.block_lt_of_cell? w _ hx301_4)).trans hx301_4
           replace hx301_5 := (HB.out.cell (World.block_lt_of_cell? w _ hx301_5)).trans hx301_5
           have HR301_5 := Aside0.mk hi301_5
           have HC301_5 := Aside0.mk hl301_5
           clear hi301_5 hl301_5
           replace p301 := eq_true p301
           replace q301 := eq_true q301
           have ea_ := Option.some.inj (hx300_5.symm.trans hx301_5)
           injection ea_ with ea_ en_ ec_
           subst ea_
           subst ec_
           clear en_
           have p302 : 0 ≤ (x9_4 : Int) := of_decide_eq_true (by first | (with_reducible assumption) | assumption)
           have q302 : x9_4 < (((rd_T81 l0 x8_3).f1).length : Int) := of_decide_eq_true (by first | (with_reducible assumption) | assumption)
           obtain ⟨ad302, e302, hx302_0, hx302_1, hx302_2, hx302_3⟩ := at_T86 HR301_5.out x9_4 p302 q302
           cases e302
           replace hx302_0 := (HB.out.cell (World.block_lt_of_cell? w _ hx302_0)).trans hx302_0
           replace hx302_1 := (HB.out.cell (World.block_lt_of_cell? w _ hx302_1)).trans hx302_1
           replace hx302_2 := (HB.out.cell (World.block_lt_of_cell? w _ hx302_2)).trans hx302_2
           replace hx302_3 := (HB.out.cell (World.block_lt_of_cell? w _ hx302_3)).trans hx302_3
           replace p302 := eq_true p302
           replace q302 := eq_true q302
           obtain ⟨hcz19_0, hcz19_1, hcz19_2, hcz19_3, hfz19_0, hfz19_1, hfz19_2, hfz19_3⟩ := Ke4_ BK299.out
           go_wp2
           repeat (go_quiet (fail); try go_wp2)
           go_roundg k4
           case measure => have := HK1.out; have := HK2.out; have := HK3.out; have := HK4.out; omega
           case rel => exact ⟨(x7_4), (wrap64 (x9_4 + 1)), (by first | rfl | (simp; done) | (simp [*]; done)), (by first | rfl | (simp; done) | (simp [*]; done)), H', ⟨by have := HK1.out; have := HK2.out; have := HK3.out; have := HK4.out; omega⟩, ⟨by exact Kq_ BK299⟩, ⟨Kz_ HB GE299⟩⟩
          rw [if_pos c15] at H
          have c15b0 : (((rd_T86 ((rd_T81 l0 x8_3).f1) x9_4).f0).toList == ((rd_T86 ((rd_T81 l0 x4_1).f1) x5_2).f0).toList) = true := beq_iff_eq.mpr c15
          have c15b1 : (((rd_T86 ((rd_T81 l0 x8_3).f1) x9_4).f0).toList != ((rd_T86 ((rd_T81 l0 x4_1).f1) x5_2).f0).toList) = false := bne_eq_false_iff_eq.mpr c15
          clear c15
          by_cases c16 : ((rd_T86 ((rd_T81 l0 x8_3).f1) x9_4).f1).toList = ((rd_T86 ((rd_T81 l0 x4_1).f1) x5_2).f1).toList
          rotate_left
          ·rw [if_neg c16] at H
           have c16b0 : (((rd_T86 ((rd_T81 l0 x8_3).f1) x9_4).f1).toList == ((rd_T86 ((rd_T81 l0 x4_1).f1) x5_2).f1).toList) = false := beq_eq_false_iff_ne.mpr c16
           have c16b1 : (((rd_T86 ((rd_T81 l0 x8_3).f1) x9_4).f1).toList != ((rd_T86 ((rd_T81 l0 x4_1).f1) x5_2).f1).toList) = true := bne_iff_ne.mpr c16
           have H' := Aside0.mk H
           clear H
           have p300 : 0 ≤ (x8_3 : Int) := of_decide_eq_true (by first | (with_reducible assumption) | assumption)
           have q300 : x8_3 < (l0.length : Int) := of_decide_eq_true (by first | (with_reducible assumption) | assumption)
           obtain ⟨ad300, A300_5, c300_5, e300, hx300_0, hx300_1, hx300_2, hx300_3, hx300_4, hx300_5, hl300_5, hi300_5⟩ := at_T81 HR0.out x8_3 p300 q300
           obtain rfl : ad296 = ad300 := (by injection e300)
           replace hx300_0 := (HB.out.cell (World.block_lt_of_cell? w _ hx300_0)).trans hx300_0
           replace hx300_1 := (HB.out.cell (World.block_lt_of_cell? w _ hx300_1)).trans hx300_1
           replace hx300_2 := (HB.out.cell (World.block_lt_of_cell? w _ hx300_2)).trans hx300_2
           replace hx300_3 := (HB.out.cell (World.block_lt_of_cell? w _ hx300_3)).trans hx300_3
           replace hx300_4 := (HB.out.cell (World.block_lt_of_cell? w _ hx300_4)).trans hx300_4
           replace hx300_5 := (HB.out.cell (World.block_lt_of_cell? w _ hx300_5)).trans hx300_5
           have HR300_5 := Aside0.mk hi300_5
           have HC300_5 := Aside0.mk hl300_5
           clear hi300_5 hl300_5
           replace p300 := eq_true p300
           replace q300 := eq_true q300
           have p301 : 0 ≤ (x8_3 : Int) := of_decide_eq_true (by first | (with_reducible assumption) | assumption)
           have q301 : x8_3 < (l0.length : Int) := of_decide_eq_true (by first | (with_reducible assumption) | assumption)
           obtain ⟨ad301, A301_5, c301_5, e301, hx301_0, hx301_1, hx301_2, hx301_3, hx301_4, hx301_5, hl301_5, hi301_5⟩ := at_T81 HR0.out x8_3 p301 q301
           obtain rfl : ad296 = ad301 := (by injection e301)
           replace hx301_0 := (HB.out.cell (World.block_lt_of_cell? w _ hx301_0)).trans hx301_0
           replace hx301_1 := (HB.out.cell (World.block_lt_of_cell? w _ hx301_1)).trans hx301_1
           replace hx301_2 := (HB.out.cell (World.block_lt_of_cell? w _ hx301_2)).trans hx301_2
           replace hx301_3 := (HB.out.cell (World.block_lt_of_cell? w _ hx301_3)).trans hx301_3
           replace hx301_4 := (HB.out.cell (World.block_lt_of_cell? w _ hx301_4)).trans hx301_4
           replace hx301_5 := (HB.out.cell (World.block_lt_of_cell? w _ hx301_5)).trans hx301_5
           have HR301_5 := Aside0.mk hi301_5
           have HC301_5 := Aside0.mk hl301_5
           clear hi301_5 hl301_5
           replace p301 := eq_true p301
           replace q301 := eq_true q301
           have ea_ := Option.some.inj (hx300_5.symm.trans hx301_5)
           injection ea_ with ea_ en_ ec_
           subst ea_
           subst ec_
           clear en_
           have p302 : 0 ≤ (x9_4 : Int) := of_decide_eq_true (by first | (with_reducible assumption) | assumption)
           have q302 : x9_4 < (((rd_T81 l0 x8_3).f1).length : Int) := of_decide_eq_true (by first | (with_reducible assumption) | assumption)
           obtain ⟨ad302, e302, hx302_0, hx302_1, hx302_2, hx302_3⟩ := at_T86 HR301_5.out x9_4 p302 q302
           cases e302
           replace hx302_0 := (HB.out.cell (World.block_lt_of_cell? w _ hx302_0)).trans hx302_0
           replace hx302_1 := (HB.out.cell (World.block_lt_of_cell? w _ hx302_1)).trans hx302_1
           replace hx302_2 := (HB.out.cell (World.block_lt_of_cell? w _ hx302_2)).trans hx302_2
           replace hx302_3 := (HB.out.cell (World.block_lt_of_cell? w _ hx302_3)).trans hx302_3
           replace p302 := eq_true p302
           replace q302 := eq_true q302
           obtain ⟨hcz18_0, hcz18_1, hcz18_2, hcz18_3, hfz18_0, hfz18_1, hfz18_2, hfz18_3⟩ := Ke4_ BK299.out
           have p303 : 0 ≤ (x8_3 : Int) := of_decide_eq_true (by first | (with_reducible assumption) | assumption)
           have q303 : x8_3 < (l0.length : Int) := of_decide_eq_true (by first | (with_reducible assumption) | assumption)
           obtain ⟨ad303, A303_5, c303_5, e303, hx303_0, hx303_1, hx303_2, hx303_3, hx303_4, hx303_5, hl303_5, hi303_5⟩ := at_T81 HR0.out x8_3 p303 q303
           obtain rfl : ad296 = ad303 := (by injection e303)
           replace hx303_0 := (HB.out.cell (World.block_lt_of_cell? w _ hx303_0)).trans hx303_0
           replace hx303_1 := (HB.out.cell (World.block_lt_of_cell? w _ hx303_1)).trans hx303_1
           replace hx303_2 := (HB.out.cell (World.block_lt_of_cell? w _ hx303_2)).trans hx303_2
           replace hx303_3 := (HB.out.cell (World.block_lt_of_cell? w _ hx303_3)).trans hx303_3
           replace hx303_4 := (HB.out.cell (World.block_lt_of_cell? w _ hx303_4)).trans hx303_4
           replace hx303_5 := (HB.out.cell (World.block_lt_of_cell? w _ hx303_5)).trans hx303_5
           have HR303_5 := Aside0.mk hi303_5
           have HC303_5 := Aside0.mk hl303_5
           clear hi303_5 hl303_5
           replace p303 := eq_true p303
           replace q303 := eq_true q303
           have ea_ := Option.some.inj (hx300_5.symm.trans hx303_5)
           injection ea_ with ea_ en_ ec_
           subst ea_
           subst ec_
           clear en_
           have p304 : 0 ≤ (x9_4 : Int) := of_decide_eq_true (by first | (with_reducible assumption) | assumption)
           have q304 : x9_4 < (((rd_T81 l0 x8_3).f1).length : Int) := of_decide_eq_true (by first | (with_reducible assumption) | assumption)
           obtain ⟨ad304, e304, hx304_0, hx304_1, hx304_2, hx304_3⟩ := at_T86 HR303_5.out x9_4 p304 q304
           cases e304
           replace hx304_0 := (HB.out.cell (World.block_lt_of_cell? w _ hx304_0)).trans hx304_0
           replace hx304_1 := (HB.out.cell (World.block_lt_of_cell? w _ hx304_1)).trans hx304_1
           replace hx304_2 := (HB.out.cell (World.block_lt_of_cell? w _ hx304_2)).trans hx304_2
           replace hx304_3 := (HB.out.cell (World.block_lt_of_cell? w _ hx304_3)).trans hx304_3
           replace p304 := eq_true p304
           replace q304 := eq_true q304
           go_wp2
           repeat (go_quiet (fail); try go_wp2)
           go_roundg k4
           case measure => have := HK1.out; have := HK2.out; have := HK3.out; have := HK4.out; omega
           case rel => exact ⟨(x7_4), (wrap64 (x9_4 + 1)), (by first | rfl | (simp; done) | (simp [*]; done)), (by first | rfl | (simp; done) | (simp [*]; done)), H', ⟨by have := HK1.out; have := HK2.out; have := HK3.out; have := HK4.out; omega⟩, ⟨by exact Kq_ BK299⟩, ⟨Kz_ HB GE299⟩⟩
          rw [if_pos c16] at H
          have c16b0 : (((rd_T86 ((rd_T81 l0 x8_3).f1) x9_4).f1).toList == ((rd_T86 ((rd_T81 l0 x4_1).f1) x5_2).f1).toList) = true := beq_iff_eq.mpr c16
          have c16b1 : (((rd_T86 ((rd_T81 l0 x8_3).f1) x9_4).f1).toList != ((rd_T86 ((rd_T81 l0 x4_1).f1) x5_2).f1).toList) = false := bne_eq_false_iff_eq.mpr c16
          clear c16
          have H' := Aside0.mk H
          clear H
          have p300 : 0 ≤ (x8_3 : Int) := of_decide_eq_true (by first | (with_reducible assumption) | assumption)
          have q300 : x8_3 < (l0.length : Int) := of_decide_eq_true (by first | (with_reducible assumption) | assumption)
          obtain ⟨ad300, A300_5, c300_5, e300, hx300_0, hx300_1, hx300_2, hx300_3, hx300_4, hx300_5, hl300_5, hi300_5⟩ := at_T81 HR0.out x8_3 p300 q300
          obtain rfl : ad296 = ad300 := (by injection e300)
          replace hx300_0 := (HB.out.cell (World.block_lt_of_cell? w _ hx300_0)).trans hx300_0
          replace hx300_1 := (HB.out.cell (World.block_lt_of_cell? w _ hx300_1)).trans hx300_1
          replace hx300_2 := (HB.out.cell (World.block_lt_of_cell? w _ hx300_2)).trans hx300_2
          replace hx300_3 := (HB.out.cell (World.block_lt_of_cell? w _ hx300_3)).trans hx300_3
          replace hx300_4 := (HB.out.cell (World.block_lt_of_cell? w _ hx300_4)).trans hx300_4
          replace hx300_5 := (HB.out.cell (World.block_lt_of_cell? w _ hx300_5)).trans hx300_5
          have HR300_5 := Aside0.mk hi300_5
          have HC300_5 := Aside0.mk hl300_5
          clear hi300_5 hl300_5
          replace p300 := eq_true p300
          replace q300 := eq_true q300
          have p301 : 0 ≤ (x8_3 : Int) := of_decide_eq_true (by first | (with_reducible assumption) | assumption)
          have q301 : x8_3 < (l0.length : Int) := of_decide_eq_true (by first | (with_reducible assumption) | assumption)
          obtain ⟨ad301, A301_5, c301_5, e301, hx301_0, hx301_1, hx301_2, hx301_3, hx301_4, hx301_5, hl301_5, hi301_5⟩ := at_T81 HR0.out x8_3 p301 q301
          obtain rfl : ad296 = ad301 := (by injection e301)
          replace hx301_0 := (HB.out.cell (World.block_lt_of_cell? w _ hx301_0)).trans hx301_0
          replace hx301_1 := (HB.out.cell (World.block_lt_of_cell? w _ hx301_1)).trans hx301_1
          replace hx301_2 := (HB.out.cell (World.block_lt_of_cell? w _ hx301_2)).trans hx301_2
          replace hx301_3 := (HB.out.cell (World.block_lt_of_cell? w _ hx301_3)).trans hx301_3
          replace hx301_4 := (HB.out.cell (World.block_lt_of_cell? w _ hx301_4)).trans hx301_4
          replace hx301_5 := (HB.out.cell (World.block_lt_of_cell? w _ hx301_5)).trans hx301_5
          have HR301_5 := Aside0.mk hi301_5
          have HC301_5 := Aside0.mk hl301_5
          clear hi301_5 hl301_5
          replace p301 := eq_true p301
          replace q301 := eq_true q301
          have ea_ := Option.some.inj (hx300_5.symm.trans hx301_5)
          injection ea_ with ea_ en_ ec_
          subst ea_
          subst ec_
          clear en_
          have p302 : 0 ≤ (x9_4 : Int) := of_decide_eq_true (by first | (with_reducible assumption) | assumption)
          have q302 : x9_4 < (((rd_T81 l0 x8_3).f1).length : Int) := of_decide_eq_true (by first | (with_reducible assumption) | assumption)
          obtain ⟨ad302, e302, hx302_0, hx302_1, hx302_2, hx302_3⟩ := at_T86 HR301_5.out x9_4 p302 q302
          cases e302
          replace hx302_0 := (HB.out.cell (World.block_lt_of_cell? w _ hx302_0)).trans hx302_0
          replace hx302_1 := (HB.out.cell (World.block_lt_of_cell? w _ hx302_1)).trans hx302_1
          replace hx302_2 := (HB.out.cell (World.block_lt_of_cell? w _ hx302_2)).trans hx302_2
          replace hx302_3 := (HB.out.cell (World.block_lt_of_cell? w _ hx302_3)).trans hx302_3
          replace p302 := eq_true p302
          replace q302 := eq_true q302
          obtain ⟨hcz17_0, hcz17_1, hcz17_2, hcz17_3, hfz17_0, hfz17_1, hfz17_2, hfz17_3⟩ := Ke4_ BK299.out
          have p303 : 0 ≤ (x8_3 : Int) := of_decide_eq_true (by first | (with_reducible assumption) | assumption)
          have q303 : x8_3 < (l0.length : Int) := of_decide_eq_true (by first | (with_reducible assumption) | assumption)
          obtain ⟨ad303, A303_5, c303_5, e303, hx303_0, hx303_1, hx303_2, hx303_3, hx303_4, hx303_5, hl303_5, hi303_5⟩ := at_T81 HR0.out x8_3 p303 q303
          obtain rfl : ad296 = ad303 := (by injection e303)
          replace hx303_0 := (HB.out.cell (World.block_lt_of_cell? w _ hx303_0)).trans hx303_0
          replace hx303_1 := (HB.out.cell (World.block_lt_of_cell? w _ hx303_1)).trans hx303_1
          replace hx303_2 := (HB.out.cell (World.block_lt_of_cell? w _ hx303_2)).trans hx303_2
          replace hx303_3 := (HB.out.cell (World.block_lt_of_cell? w _ hx303_3)).trans hx303_3
          replace hx303_4 := (HB.out.cell (World.block_lt_of_cell? w _ hx303_4)).trans hx303_4
          replace hx303_5 := (HB.out.cell (World.block_lt_of_cell? w _ hx303_5)).trans hx303_5
          have HR303_5 := Aside0.mk hi303_5
          have HC303_5 := Aside0.mk hl303_5
          clear hi303_5 hl303_5
          replace p303 := eq_true p303
          replace q303 := eq_true q303
          have ea_ := Option.some.inj (hx300_5.symm.trans hx303_5)
          injection ea_ with ea_ en_ ec_
          subst ea_
          subst ec_
          clear en_
          have p304 : 0 ≤ (x9_4 : Int) := of_decide_eq_true (by first | (with_reducible assumption) | assumption)
          have q304 : x9_4 < (((rd_T81 l0 x8_3).f1).length : Int) := of_decide_eq_true (by first | (with_reducible assumption) | assumption)
          obtain ⟨ad304, e304, hx304_0, hx304_1, hx304_2, hx304_3⟩ := at_T86 HR303_5.out x9_4 p304 q304
          cases e304
          replace hx304_0 := (HB.out.cell (World.block_lt_of_cell? w _ hx304_0)).trans hx304_0
          replace hx304_1 := (HB.out.cell (World.block_lt_of_cell? w _ hx304_1)).trans hx304_1
          replace hx304_2 := (HB.out.cell (World.block_lt_of_cell? w _ hx304_2)).trans hx304_2
          replace hx304_3 := (HB.out.cell (World.block_lt_of_cell? w _ hx304_3)).trans hx304_3
          replace p304 := eq_true p304
          replace q304 := eq_true q304
          go_wp2
          repeat (go_quiet (fail); try go_wp2)
          go_roundg k4
          case measure => have := HK1.out; have := HK2.out; have := HK3.out; have := HK4.out; omega
          case rel => exact ⟨(false), (wrap64 (x9_4 + 1)), (by first | rfl | (simp; done) | (simp [*]; done)), (by first | rfl | (simp; done) | (simp [*]; done)), H', ⟨by have := HK1.out; have := HK2.out; have := HK3.out; have := HK4.out; omega⟩, ⟨by exact Kq_ BK299⟩, ⟨Kz_ HB GE299⟩⟩
         rw [if_neg c13] at H
         have c13b0 : decide (x8_3 < x4_1) = false := decide_eq_false c13
         clear c13
         by_cases c20 : x9_4 < x5_2
         rotate_left
         ·rw [if_neg c20] at H
          have c20b0 : decide (x9_4 < x5_2) = false := decide_eq_false c20
          clear c20
          have H' := Aside0.mk H
          clear H
          have p300 : 0 ≤ (x8_3 : Int) := of_decide_eq_true (by first | (with_reducible assumption) | assumption)
          have q300 : x8_3 < (l0.length : Int) := of_decide_eq_true (by first | (with_reducible assumption) | assumption)
          obtain ⟨ad300, A300_5, c300_5, e300, hx300_0, hx300_1, hx300_2, hx300_3, hx300_4, hx300_5, hl300_5, hi300_5⟩ := at_T81 HR0.out x8_3 p300 q300
          obtain rfl : ad296 = ad300 := (by injection e300)
          replace hx300_0 := (HB.out.cell (World.block_lt_of_cell? w _ hx300_0)).trans hx300_0
          replace hx300_1 := (HB.out.cell (World.block_lt_of_cell? w _ hx300_1)).trans hx300_1
          replace hx300_2 := (HB.out.cell (World.block_lt_of_cell? w _ hx300_2)).trans hx300_2
          replace hx300_3 := (HB.out.cell (World.block_lt_of_cell? w _ hx300_3)).trans hx300_3
          replace hx300_4 := (HB.out.cell (World.block_lt_of_cell? w _ hx300_4)).trans hx300_4
          replace hx300_5 := (HB.out.cell (World.block_lt_of_cell? w _ hx300_5)).trans hx300_5
          have HR300_5 := Aside0.mk hi300_5
          have HC300_5 := Aside0.mk hl300_5
          clear hi300_5 hl300_5
          replace p300 := eq_true p300
          replace q300 := eq_true q300
          go_wp2
          repeat (go_quiet (fail); try go_wp2)
          go_roundg k4
          case measure => have := HK1.out; have := HK2.out; have := HK3.out; have := HK4.out; omega
          case rel => exact ⟨(x7_4), (wrap64 (x9_4 + 1)), (by first | rfl | (simp; done) | (simp [*]; done)), (by first | rfl | (simp; done) | (simp [*]; done)), H', ⟨by have := HK1.out; have := HK2.out; have := HK3.out; have := HK4.out; omega⟩, ⟨by exact Kq_ BK299⟩, ⟨Kz_ HB GE299⟩⟩
         rw [if_pos c20] at H
         have c20b0 : decide (x9_4 < x5_2) = true := decide_eq_true c20
         clear c20
         by_cases c21 : 0 ≤ x9_4
         rotate_left
         ·rw [if_neg c21] at H
          exact absurd H (by simp)
         rw [if_pos c21] at H
         have c21b0 : decide (0 ≤ x9_4) = true := decide_eq_true c21
         clear c21
         by_cases c22 : ((rd_T86 ((rd_T81 l0 x8_3).f1) x9_4).f0).toList = ((rd_T86 ((rd_T81 l0 x4_1).f1) x5_2).f0).toList
         rotate_left
         ·rw [if_neg c22] at H
          have c22b0 : (((rd_T86 ((rd_T81 l0 x8_3).f1) x9_4).f0).toList == ((rd_T86 ((rd_T81 l0 x4_1).f1) x5_2).f0).toList) = false := beq_eq_false_iff_ne.mpr c22
          have c22b1 : (((rd_T86 ((rd_T81 l0 x8_3).f1) x9_4).f0).toList != ((rd_T86 ((rd_T81 l0 x4_1).f1) x5_2).f0).toList) = true := bne_iff_ne.mpr c22
          have H' := Aside0.mk H
          clear H
          have p300 : 0 ≤ (x8_3 : Int) := of_decide_eq_true (by first | (with_reducible assumption) | assumption)
          have q300 : x8_3 < (l0.length : Int) := of_decide_eq_true (by first | (with_reducible assumption) | assumption)
          obtain ⟨ad300, A300_5, c300_5, e300, hx300_0, hx300_1, hx300_2, hx300_3, hx300_4, hx300_5, hl300_5, hi300_5⟩ := at_T81 HR0.out x8_3 p300 q300
          obtain rfl : ad296 = ad300 := (by injection e300)
          replace hx300_0 := (HB.out.cell (World.block_lt_of_cell? w _ hx300_0)).trans hx300_0
          replace hx300_1 := (HB.out.cell (World.block_lt_of_cell? w _ hx300_1)).trans hx300_1
          replace hx300_2 := (HB.out.cell (World.block_lt_of_cell? w _ hx300_2)).trans hx300_2
          replace hx300_3 := (HB.out.cell (World.block_lt_of_cell? w _ hx300_3)).trans hx300_3
          replace hx300_4 := (HB.out.cell (World.block_lt_of_cell? w _ hx300_4)).trans hx300_4
          replace hx300_5 := (HB.out.cell (World.block_lt_of_cell? w _ hx300_5)).trans hx300_5
          have HR300_5 := Aside0.mk hi300_5
          have HC300_5 := Aside0.mk hl300_5
          clear hi300_5 hl300_5
          replace p300 := eq_true p300
          replace q300 := eq_true q300
          have p305 : 0 ≤ (x8_3 : Int) := of_decide_eq_true (by first | (with_reducible assumption) | assumption)
          have q305 : x8_3 < (l0.length : Int) := of_decide_eq_true (by first | (with_reducible assumption) | assumption)
          obtain ⟨ad305, A305_5, c305_5, e305, hx305_0, hx305_1, hx305_2, hx305_3, hx305_4, hx305_5, hl305_5, hi305_5⟩ := at_T81 HR0.out x8_3 p305 q305
          obtain rfl : ad296 = ad305 := (by injection e305)
          replace hx305_0 := (HB.out.cell (World.block_lt_of_cell? w _ hx305_0)).trans hx305_0
          replace hx305_1 := (HB.out.cell (World.block_lt_of_cell? w _ hx305_1)).trans hx305_1
          replace hx305_2 := (HB.out.cell (World.block_lt_of_cell? w _ hx305_2)).trans hx305_2
          replace hx305_3 := (HB.out.cell (World.block_lt_of_cell? w _ hx305_3)).trans hx305_3
          replace hx305_4 := (HB.out.cell (World.block_lt_of_cell? w _ hx305_4)).trans hx305_4
          replace hx305_5 := (HB.out.cell (World.block_lt_of_cell? w _ hx305_5)).trans hx305_5
          have HR305_5 := Aside0.mk hi305_5
          have HC305_5 := Aside0.mk hl305_5
          clear hi305_5 hl305_5
          replace p305 := eq_true p305
          replace q305 := eq_true q305
          have ea_ := Option.some.inj (hx300_5.symm.trans hx305_5)
          injection ea_ with ea_ en_ ec_
          subst ea_
          subst ec_
          clear en_
          have p306 : 0 ≤ (x9_4 : Int) := of_decide_eq_true (by first | (with_reducible assumption) | assumption)
          have q306 : x9_4 < (((rd_T81 l0 x8_3).f1).length : Int) := of_decide_eq_true (by first | (with_reducible assumption) | assumption)
          obtain ⟨ad306, e306, hx306_0, hx306_1, hx306_2, hx306_3⟩ := at_T86 HR305_5.out x9_4 p306 q306
          cases e306
          replace hx306_0 := (HB.out.cell (World.block_lt_of_cell? w _ hx306_0)).trans hx306_0
          replace hx306_1 := (HB.out.cell (World.block_lt_of_cell? w _ hx306_1)).trans hx306_1
          replace hx306_2 := (HB.out.cell (World.block_lt_of_cell? w _ hx306_2)).trans hx306_2
          replace hx306_3 := (HB.out.cell (World.block_lt_of_cell? w _ hx306_3)).trans hx306_3
          replace p306 := eq_true p306
          replace q306 := eq_true q306
          obtain ⟨hcz26_0, hcz26_1, hcz26_2, hcz26_3, hfz26_0, hfz26_1, hfz26_2, hfz26_3⟩ := Ke4_ BK299.out
          go_wp2
          repeat (go_quiet (fail); try go_wp2)
          go_roundg k4
          case measure => have := HK1.out; have := HK2.out; have := HK3.out; have := HK4.out; omega
          case rel => exact ⟨(x7_4), (wrap64 (x9_4 + 1)), (by first | rfl | (simp; done) | (simp [*]; done)), (by first | rfl | (simp; done) | (simp [*]; done)), H', ⟨by have := HK1.out; have := HK2.out; have := HK3.out; have := HK4.out; omega⟩, ⟨by exact Kq_ BK299⟩, ⟨Kz_ HB GE299⟩⟩
         rw [if_pos c22] at H
         have c22b0 : (((rd_T86 ((rd_T81 l0 x8_3).f1) x9_4).f0).toList == ((rd_T86 ((rd_T81 l0 x4_1).f1) x5_2).f0).toList) = true := beq_iff_eq.mpr c22
         have c22b1 : (((rd_T86 ((rd_T81 l0 x8_3).f1) x9_4).f0).toList != ((rd_T86 ((rd_T81 l0 x4_1).f1) x5_2).f0).toList) = false := bne_eq_false_iff_eq.mpr c22
         clear c22
         by_cases c23 : ((rd_T86 ((rd_T81 l0 x8_3).f1) x9_4).f1).toList = ((rd_T86 ((rd_T81 l0 x4_1).f1) x5_2).f1).toList
         rotate_left
         ·rw [if_neg c23] at H
          have c23b0 : (((rd_T86 ((rd_T81 l0 x8_3).f1) x9_4).f1).toList == ((rd_T86 ((rd_T81 l0 x4_1).f1) x5_2).f1).toList) = false := beq_eq_false_iff_ne.mpr c23
          have c23b1 : (((rd_T86 ((rd_T81 l0 x8_3).f1) x9_4).f1).toList != ((rd_T86 ((rd_T81 l0 x4_1).f1) x5_2).f1).toList) = true := bne_iff_ne.mpr c23
          have H' := Aside0.mk H
          clear H
          have p300 : 0 ≤ (x8_3 : Int) := of_decide_eq_true (by first | (with_reducible assumption) | assumption)
          have q300 : x8_3 < (l0.length : Int) := of_decide_eq_true (by first | (with_reducible assumption) | assumption)
          obtain ⟨ad300, A300_5, c300_5, e300, hx300_0, hx300_1, hx300_2, hx300_3, hx300_4, hx300_5, hl300_5, hi300_5⟩ := at_T81 HR0.out x8_3 p300 q300
          obtain rfl : ad296 = ad300 := (by injection e300)
          replace hx300_0 := (HB.out.cell (World.block_lt_of_cell? w _ hx300_0)).trans hx300_0
          replace hx300_1 := (HB.out.cell (World.block_lt_of_cell? w _ hx300_1)).trans hx300_1
          replace hx300_2 := (HB.out.cell (World.block_lt_of_cell? w _ hx300_2)).trans hx300_2
          replace hx300_3 := (HB.out.cell (World.block_lt_of_cell? w _ hx300_3)).trans hx300_3
          replace hx300_4 := (HB.out.cell (World.block_lt_of_cell? w _ hx300_4)).trans hx300_4
          replace hx300_5 := (HB.out.cell (World.block_lt_of_cell? w _ hx300_5)).trans hx300_5
          have HR300_5 := Aside0.mk hi300_5
          have HC300_5 := Aside0.mk hl300_5
          clear hi300_5 hl300_5
          replace p300 := eq_true p300
          replace q300 := eq_true q300
          have p305 : 0 ≤ (x8_3 : Int) := of_decide_eq_true (by first | (with_reducible assumption) | assumption)
          have q305 : x8_3 < (l0.length : Int) := of_decide_eq_true (by first | (with_reducible assumption) | assumption)
          obtain ⟨ad305, A305_5, c305_5, e305, hx305_0, hx305_1, hx305_2, hx305_3, hx305_4, hx305_5, hl305_5, hi305_5⟩ := at_T81 HR0.out x8_3 p305 q305
          obtain rfl : ad296 = ad305 := (by injection e305)
          replace hx305_0 := (HB.out.cell (World.block_lt_of_cell? w _ hx305_0)).trans hx305_0
          replace hx305_1 := (HB.out.cell (World.block_lt_of_cell? w _ hx305_1)).trans hx305_1
          replace hx305_2 := (HB.out.cell (World.block_lt_of_cell? w _ hx305_2)).trans hx305_2
          replace hx305_3 := (HB.out.cell (World.block_lt_of_cell? w _ hx305_3)).trans hx305_3
          replace hx305_4 := (HB.out.cell (World.block_lt_of_cell? w _ hx305_4)).trans hx305_4
          replace hx305_5 := (HB.out.cell (World.block_lt_of_cell? w _ hx305_5)).trans hx305_5
          have HR305_5 := Aside0.mk hi305_5
          have HC305_5 := Aside0.mk hl305_5
          clear hi305_5 hl305_5
          replace p305 := eq_true p305
          replace q305 := eq_true q305
          have ea_ := Option.some.inj (hx300_5.symm.trans hx305_5)
          injection ea_ with ea_ en_ ec_
          subst ea_
          subst ec_
          clear en_
          have p306 : 0 ≤ (x9_4 : Int) := of_decide_eq_true (by first | (with_reducible assumption) | assumption)
          have q306 : x9_4 < (((rd_T81 l0 x8_3).f1).length : Int) := of_decide_eq_true (by first | (with_reducible assumption) | assumption)
          obtain ⟨ad306, e306, hx306_0, hx306_1, hx306_2, hx306_3⟩ := at_T86 HR305_5.out x9_4 p306 q306
          cases e306
          replace hx306_0 := (HB.out.cell (World.block_lt_of_cell? w _ hx306_0)).trans hx306_0
          replace hx306_1 := (HB.out.cell (World.block_lt_of_cell? w _ hx306_1)).trans hx306_1
          replace hx306_2 := (HB.out.cell (World.block_lt_of_cell? w _ hx306_2)).trans hx306_2
          replace hx306_3 := (HB.out.cell (World.block_lt_of_cell? w _ hx306_3)).trans hx306_3
          replace p306 := eq_true p306
          replace q306 := eq_true q306
          obtain ⟨hcz25_0, hcz25_1, hcz25_2, hcz25_3, hfz25_0, hfz25_1, hfz25_2, hfz25_3⟩ := Ke4_ BK299.out
          have p307 : 0 ≤ (x8_3 : Int) := of_decide_eq_true (by first | (with_reducible assumption) | assumption)
          have q307 : x8_3 < (l0.length : Int) := of_decide_eq_true (by first | (with_reducible assumption) | assumption)
          obtain ⟨ad307, A307_5, c307_5, e307, hx307_0, hx307_1, hx307_2, hx307_3, hx307_4, hx307_5, hl307_5, hi307_5⟩ := at_T81 HR0.out x8_3 p307 q307
          obtain rfl : ad296 = ad307 := (by injection e307)
          replace hx307_0 := (HB.out.cell (World.block_lt_of_cell? w _ hx307_0)).trans hx307_0
          replace hx307_1 := (HB.out.cell (World.block_lt_of_cell? w _ hx307_1)).trans hx307_1
          replace hx307_2 := (HB.out.cell (World.block_lt_of_cell? w _ hx307_2)).trans hx307_2
          replace hx307_3 := (HB.out.cell (World.block_lt_of_cell? w _ hx307_3)).trans hx307_3
          replace hx307_4 := (HB.out.cell (World.block_lt_of_cell? w _ hx307_4)).trans hx307_4
          replace hx307_5 := (HB.out.cell (World.block_lt_of_cell? w _ hx307_5)).trans hx307_5
          have HR307_5 := Aside0.mk hi307_5
          have HC307_5 := Aside0.mk hl307_5
          clear hi307_5 hl307_5
          replace p307 := eq_true p307
          replace q307 := eq_true q307
          have ea_ := Option.some.inj (hx300_5.symm.trans hx307_5)
          injection ea_ with ea_ en_ ec_
          subst ea_
          subst ec_
          clear en_
          have p308 : 0 ≤ (x9_4 : Int) := of_decide_eq_true (by first | (with_reducible assumption) | assumption)
          have q308 : x9_4 < (((rd_T81 l0 x8_3).f1).length : Int) := of_decide_eq_true (by first | (with_reducible assumption) | assumption)
          obtain ⟨ad308, e308, hx308_0, hx308_1, hx308_2, hx308_3⟩ := at_T86 HR307_5.out x9_4 p308 q308
          cases e308
          replace hx308_0 := (HB.out.cell (World.block_lt_of_cell? w _ hx308_0)).trans hx308_0
          replace hx308_1 := (HB.out.cell (World.block_lt_of_cell? w _ hx308_1)).trans hx308_1
          replace hx308_2 := (HB.out.cell (World.block_lt_of_cell? w _ hx308_2)).trans hx308_2
          replace hx308_3 := (HB.out.cell (World.block_lt_of_cell? w _ hx308_3)).trans hx308_3
          replace p308 := eq_true p308
          replace q308 := eq_true q308
          go_wp2
          repeat (go_quiet (fail); try go_wp2)
          go_roundg k4
          case measure => have := HK1.out; have := HK2.out; have := HK3.out; have := HK4.out; omega
          case rel => exact ⟨(x7_4), (wrap64 (x9_4 + 1)), (by first | rfl | (simp; done) | (simp [*]; done)), (by first | rfl | (simp; done) | (simp [*]; done)), H', ⟨by have := HK1.out; have := HK2.out; have := HK3.out; have := HK4.out; omega⟩, ⟨by exact Kq_ BK299⟩, ⟨Kz_ HB GE299⟩⟩
         rw [if_pos c23] at H
         have c23b0 : (((rd_T86 ((rd_T81 l0 x8_3).f1) x9_4).f1).toList == ((rd_T86 ((rd_T81 l0 x4_1).f1) x5_2).f1).toList) = true := beq_iff_eq.mpr c23
         have c23b1 : (((rd_T86 ((rd_T81 l0 x8_3).f1) x9_4).f1).toList != ((rd_T86 ((rd_T81 l0 x4_1).f1) x5_2).f1).toList) = false := bne_eq_false_iff_eq.mpr c23
         clear c23
         have H' := Aside0.mk H
         clear H
         have p300 : 0 ≤ (x8_3 : Int) := of_decide_eq_true (by first | (with_reducible assumption) | assumption)
         have q300 : x8_3 < (l0.length : Int) := of_decide_eq_true (by first | (with_reducible assumption) | assumption)
         obtain ⟨ad300, A300_5, c300_5, e300, hx300_0, hx300_1, hx300_2, hx300_3, hx300_4, hx300_5, hl300_5, hi300_5⟩ := at_T81 HR0.out x8_3 p300 q300
         obtain rfl : ad296 = ad300 := (by injection e300)
         replace hx300_0 := (HB.out.cell (World.block_lt_of_cell? w _ hx300_0)).trans hx300_0
         replace hx300_1 := (HB.out.cell (World.block_lt_of_cell? w _ hx300_1)).trans hx300_1
         replace hx300_2 := (HB.out.cell (World.block_lt_of_cell? w _ hx300_2)).trans hx300_2
         replace hx300_3 := (HB.out.cell (World.block_lt_of_cell? w _ hx300_3)).trans hx300_3
         replace hx300_4 := (HB.out.cell (World.block_lt_of_cell? w _ hx300_4)).trans hx300_4
         replace hx300_5 := (HB.out.cell (World.block_lt_of_cell? w _ hx300_5)).trans hx300_5
         have HR300_5 := Aside0.mk hi300_5
         have HC300_5 := Aside0.mk hl300_5
         clear hi300_5 hl300_5
         replace p300 := eq_true p300
         replace q300 := eq_true q300
         have p305 : 0 ≤ (x8_3 : Int) := of_decide_eq_true (by first | (with_reducible assumption) | assumption)
         have q305 : x8_3 < (l0.length : Int) := of_decide_eq_true (by first | (with_reducible assumption) | assumption)
         obtain ⟨ad305, A305_5, c305_5, e305, hx305_0, hx305_1, hx305_2, hx305_3, hx305_4, hx305_5, hl305_5, hi305_5⟩ := at_T81 HR0.out x8_3 p305 q305
         obtain rfl : ad296 = ad305 := (by injection e305)
         replace hx305_0 := (HB.out.cell (World.block_lt_of_cell? w _ hx305_0)).trans hx305_0
         replace hx305_1 := (HB.out.cell (World.block_lt_of_cell? w _ hx305_1)).trans hx305_1
         replace hx305_2 := (HB.out.cell (World.block_lt_of_cell? w _ hx305_2)).trans hx305_2
         replace hx305_3 := (HB.out.cell (World.block_lt_of_cell? w _ hx305_3)).trans hx305_3
         replace hx305_4 := (HB.out.cell (World.block_lt_of_cell? w _ hx305_4)).trans hx305_4
         replace hx305_5 := (HB.out.cell (World.block_lt_of_cell? w _ hx305_5)).trans hx305_5
         have HR305_5 := Aside0.mk hi305_5
         have HC305_5 := Aside0.mk hl305_5
         clear hi305_5 hl305_5
         replace p305 := eq_true p305
         replace q305 := eq_true q305
         have ea_ := Option.some.inj (hx300_5.symm.trans hx305_5)
         injection ea_ with ea_ en_ ec_
         subst ea_
         subst ec_
         clear en_
         have p306 : 0 ≤ (x9_4 : Int) := of_decide_eq_true (by first | (with_reducible assumption) | assumption)
         have q306 : x9_4 < (((rd_T81 l0 x8_3).f1).length : Int) := of_decide_eq_true (by first | (with_reducible assumption) | assumption)
         obtain ⟨ad306, e306, hx306_0, hx306_1, hx306_2, hx306_3⟩ := at_T86 HR305_5.out x9_4 p306 q306
         cases e306
         replace hx306_0 := (HB.out.cell (World.block_lt_of_cell? w _ hx306_0)).trans hx306_0
         replace hx306_1 := (HB.out.cell (World.block_lt_of_cell? w _ hx306_1)).trans hx306_1
         replace hx306_2 := (HB.out.cell (World.block_lt_of_cell? w _ hx306_2)).trans hx306_2
         replace hx306_3 := (HB.out.cell (World.block_lt_of_cell? w _ hx306_3)).trans hx306_3
         replace p306 := eq_true p306
         replace q306 := eq_true q306
         obtain ⟨hcz24_0, hcz24_1, hcz24_2, hcz24_3, hfz24_0, hfz24_1, hfz24_2, hfz24_3⟩ := Ke4_ BK299.out
         have p307 : 0 ≤ (x8_3 : Int) := of_decide_eq_true (by first | (with_reducible assumption) | assumption)
         have q307 : x8_3 < (l0.length : Int) := of_decide_eq_true (by first | (with_reducible assumption) | assumption)
         obtain ⟨ad307, A307_5, c307_5, e307, hx307_0, hx307_1, hx307_2, hx307_3, hx307_4, hx307_5, hl307_5, hi307_5⟩ := at_T81 HR0.out x8_3 p307 q307
         obtain rfl : ad296 = ad307 := (by injection e307)
         replace hx307_0 := (HB.out.cell (World.block_lt_of_cell? w _ hx307_0)).trans hx307_0
         replace hx307_1 := (HB.out.cell (World.block_lt_of_cell? w _ hx307_1)).trans hx307_1
         replace hx307_2 := (HB.out.cell (World.block_lt_of_cell? w _ hx307_2)).trans hx307_2
         replace hx307_3 := (HB.out.cell (World.block_lt_of_cell? w _ hx307_3)).trans hx307_3
         replace hx307_4 := (HB.out.cell (World.block_lt_of_cell? w _ hx307_4)).trans hx307_4
         replace hx307_5 := (HB.out.cell (World.block_lt_of_cell? w _ hx307_5)).trans hx307_5
         have HR307_5 := Aside0.mk hi307_5
         have HC307_5 := Aside0.mk hl307_5
         clear hi307_5 hl307_5
         replace p307 := eq_true p307
         replace q307 := eq_true q307
         have ea_ := Option.some.inj (hx300_5.symm.trans hx307_5)
         injection ea_ with ea_ en_ ec_
         subst ea_
         subst ec_
         clear en_
         have p308 : 0 ≤ (x9_4 : Int) := of_decide_eq_true (by first | (with_reducible assumption) | assumption)
         have q308 : x9_4 < (((rd_T81 l0 x8_3).f1).length : Int) := of_decide_eq_true (by first | (with_reducible assumption) | assumption)
         obtain ⟨ad308, e308, hx308_0, hx308_1, hx308_2, hx308_3⟩ := at_T86 HR307_5.out x9_4 p308 q308
         cases e308
         replace hx308_0 := (HB.out.cell (World.block_lt_of_cell? w _ hx308_0)).trans hx308_0
         replace hx308_1 := (HB.out.cell (World.block_lt_of_cell? w _ hx308_1)).trans hx308_1
         replace hx308_2 := (HB.out.cell (World.block_lt_of_cell? w _ hx308_2)).trans hx308_2
         replace hx308_3 := (HB.out.cell (World.block_lt_of_cell? w _ hx308_3)).trans hx308_3
         replace p308 := eq_true p308
         replace q308 := eq_true q308
         go_wp2
         repeat (go_quiet (fail); try go_wp2)
         go_roundg k4
         case measure => have := HK1.out; have := HK2.out; have := HK3.out; have := HK4.out; omega
         case rel => exact ⟨(false), (wrap64 (x9_4 + 1)), (by first | rfl | (simp; done) | (simp [*]; done)), (by first | rfl | (simp; done) | (simp [*]; done)), H', ⟨by have := HK1.out; have := HK2.out; have := HK3.out; have := HK4.out; omega⟩, ⟨by exact Kq_ BK299⟩, ⟨Kz_ HB GE299⟩⟩
end Go.Proofs.Ythjhkcebcgdeoaa.Q
