import Derived.Test.YthjhkcebcgdeoaaGJudgeTells2
import Derived.Test.YthjhkcebcgdeoaaGJudgeTells5
namespace Go.Proofs.Ythjhkcebcgdeoaa.Q
open Go.RowKit Go.Proofs.YthjhkcebcgdeoaaW.PrintWords Go.Proofs.YthjhkcebcgdeoaaW.PrintLast Go.Proofs.YthjhkcebcgdeoaaW.PrintMore
attribute [local go_sem] max2_int min2_int max_two min_two max_three min_three max_four min_four   -- for this text's walks alone
set_option linter.unusedVariables false
set_option linter.unusedSimpArgs false
theorem w64_0 : wrap64 0 = 0 := by first | rfl | decide | (unfold wrap64; omega)
theorem w64_1 : wrap64 1 = 1 := by first | rfl | decide | (unfold wrap64; omega)
theorem w64_2 : wrap64 2 = 2 := by first | rfl | decide | (unfold wrap64; omega)
theorem w64_3 : wrap64 3 = 3 := by first | rfl | decide | (unfold wrap64; omega)
attribute [local go_sem] w64_0 w64_1 w64_2 w64_3   -- for this text's walks alone
def tenementlaw22_Mark_mark.l0 : Nat → Int → Int → Int → Int → Int → Int → Bool → Int → Int → Int → Int → Int → Option (Int × Int × Int × Int × Int)
 | 0, _, _, _, _, _, _, _, _, _, _, _, _ => none
 | k + 1, x4, x110, x111, x112, x113, x114, x115, x100, x101, x102, x103, x105 => if x4 < 3 then (if x4 = 0 then (tenementlaw22_Mark_mark.l0 k (wrap64 (x4 + 1)) x110 x111 x112 x113 x114 x115 (Int.tmod x110 4) x101 x102 x103 x105) else (if x4 = 1 then (tenementlaw22_Mark_mark.l0 k (wrap64 (x4 + 1)) x110 x111 x112 x113 x114 x115 x100 (Int.tmod x111 4) x102 x103 x105) else (if x4 = 2 then (tenementlaw22_Mark_mark.l0 k (wrap64 (x4 + 1)) x110 x111 x112 x113 x114 x115 x100 x101 (Int.tmod x112 4) x103 x105) else (none)))) else (if x105 = 1 then (some (IntKind.u64.wrap (1 + x100), x101, x102, x103, x105)) else (if x105 = 2 then (some (x100, IntKind.u64.wrap (1 + x101), x102, x103, x105)) else (if x105 = 3 then (some (x100, x101, IntKind.u64.wrap (1 + x102), x103, x105)) else (if x105 = 4 then (some (x100, x101, x102, IntKind.u64.wrap (1 + x103), x105)) else (none)))))
def tenementlaw22_Mark_mark.f (k : Nat) (a0_0 : Int) (a0_1 : Int) (a0_2 : Int) (a0_3 : Int) (a0_4 : Int) (a0_5 : Bool) : Option (Int × Int × Int × Int × Int) := if a0_5 = true then (tenementlaw22_Mark_mark.l0 k 0 a0_0 a0_1 a0_2 a0_3 a0_4 a0_5 0 0 0 0 (wrap64 (1 + (wrap64 (Int.tmod (IntKind.u64.wrap (a0_4)) 3))))) else (some (a0_0, a0_1, a0_2, a0_3, a0_4))
theorem tenementlaw22_Mark_mark.mono_l : ∀ k, (∀ y0 y1 y2 y3 y4 y5 y6 y7 y8 y9 y10 y11, LeO (tenementlaw22_Mark_mark.l0 k y0 y1 y2 y3 y4 y5 y6 y7 y8 y9 y10 y11) (tenementlaw22_Mark_mark.l0 (k + 1) y0 y1 y2 y3 y4 y5 y6 y7 y8 y9 y10 y11))
 | 0 => fun _ _ _ _ _ _ _ _ _ _ _ _ r h => by simp [tenementlaw22_Mark_mark.l0] at h
 | k + 1 => by
  have ih0 := tenementlaw22_Mark_mark.mono_l k
  ·intro y0 y1 y2 y3 y4 y5 y6 y7 y8 y9 y10 y11
   unfold tenementlaw22_Mark_mark.l0
   repeat' first
   | (with_reducible exact ih0 _ _ _ _ _ _ _ _ _ _ _ _)
   | (with_reducible exact LeO.refl _)
   | (with_reducible exact LeO.none _)
   | (with_reducible refine LeO.ite ?_ ?_)
   | (with_reducible refine LeO.bind ?_ (fun _ => ?_))
   | exact ih0 _ _ _ _ _ _ _ _ _ _ _ _
   | exact LeO.none _
   | refine LeO.ite ?_ ?_
   | refine LeO.bind ?_ (fun _ => ?_)
theorem tenementlaw22_Mark_mark.mono : ∀ a0 a1 a2 a3 a4 a5 k, LeO (tenementlaw22_Mark_mark.f k a0 a1 a2 a3 a4 a5) (tenementlaw22_Mark_mark.f (k + 1) a0 a1 a2 a3 a4 a5) := by
 intro a0 a1 a2 a3 a4 a5 k
 have ih0 := tenementlaw22_Mark_mark.mono_l k
 unfold tenementlaw22_Mark_mark.f
 repeat' first
   | (with_reducible exact ih0 _ _ _ _ _ _ _ _ _ _ _ _)
   | (with_reducible exact LeO.refl _)
   | (with_reducible exact LeO.none _)
   | (with_reducible refine LeO.ite ?_ ?_)
   | (with_reducible refine LeO.bind ?_ (fun _ => ?_))
   | exact ih0 _ _ _ _ _ _ _ _ _ _ _ _
   | exact LeO.none _
   | refine LeO.ite ?_ ?_
   | refine LeO.bind ?_ (fun _ => ?_)
def tenementlaw22_Mark_mark.T8 : Bool × List (List Nat × List Nat) := (true, [([], []), ([0], [0]), ([1], [1]), ([], []), ([3], [3]), ([4], [4]), ([], []), ([6, 5], [5, 6]), ([7], [7]), ([8], [8]), ([], []), ([10, 2, 0, 1, 2, 3, 4, 5, 6, 7, 8, 9], [2, 10]), ([11, 9, 0, 1, 2, 3, 4, 5, 6, 7, 8, 9], [9, 11])])
def tenementlaw22_Mark_mark.B8 : List Nat := [0, 1, 3, 0, 8, 24, 0, 120, 248, 504, 0, 2047, 4095]
theorem tenementlaw22_Mark_mark.tab8 : rtab .any (opsOf Try.f51 8) = tenementlaw22_Mark_mark.T8 := by kernel_rfl
theorem tenementlaw22_Mark_mark.bits8 : waitsOk tenementlaw22_Mark_mark.T8.2 tenementlaw22_Mark_mark.B8 = true := by kernel_rfl
set_option maxHeartbeats 8000000 in
set_option maxRecDepth 100000 in
theorem tenementlaw22_Mark_mark.calls (k : Nat) (a0_0 : Int) (a0_1 : Int) (a0_2 : Int) (a0_3 : Int) (a0_4 : Int) (a0_5 : Bool) (r1 : Int) (r2 : Int) (r3 : Int) (r4 : Int) (r5 : Int) (w : World) (h : tenementlaw22_Mark_mark.f k a0_0 a0_1 a0_2 a0_3 a0_4 a0_5 = some (r1, r2, r3, r4, r5)) :
  Calls Try.prog 51 #[.agg #[.int .u64 a0_0, .int .u64 a0_1, .int .u64 a0_2, .int .u64 a0_3, .int .i64 a0_4, .bool a0_5]] w fun e w' => e = .returned (.agg #[.int .u64 r1, .int .u64 r2, .int .u64 r3, .int .u64 r4, .int .i64 r5]) ∧ Below w.heap.size w w' := by
 have hu58 := Try.underlying58
 have hu56 := Try.underlying56
 have HB := Aside0.mk (Below.refl w.heap.size w)
 have H : (if a0_5 = true then (tenementlaw22_Mark_mark.l0 k 0 a0_0 a0_1 a0_2 a0_3 a0_4 a0_5 0 0 0 0 (wrap64 (1 + (wrap64 (Int.tmod (IntKind.u64.wrap (a0_4)) 3))))) else (some (a0_0, a0_1, a0_2, a0_3, a0_4))) = some (r1, r2, r3, r4, r5) := h
 clear h
 by_cases c2 : a0_5 = true
 rotate_left
 ·replace c2 := Bool.eq_false_iff.mpr c2
  subst c2
  have H1 : (some (a0_0, a0_1, a0_2, a0_3, a0_4)) = some (r1, r2, r3, r4, r5) := by rw [if_neg (show ¬ (false = true) by decide)] at H; exact H
  clear H
  have H := H1
  clear H1
  simp only [Option.some.injEq, Prod.mk.injEq] at H
  obtain ⟨rfl, rfl, rfl, rfl, rfl⟩ := H
  go_enter Try.func51, Try.ntmps51
  go_wp2_with (first | ((with_reducible refine gate_dst (N := 1) rfl ?_); refine Ka_ 1 #[.int .u64 a0_0, .int .u64 a0_1, .int .u64 a0_2, .int .u64 a0_3, .int .i64 a0_4, .bool false] 58 ?_; intro gb119 hg w62 hbox hb; have BK119 := Aside0.mk (hbox); have GW119 := Kw_ HB hg; have GE119 := GW119; replace HB := Ks_ HB hb; clear hb hbox hg) | ((with_reducible refine gate_dst (N := 2) rfl ?_); refine Ka_ 2 #[.int .u64 0, .int .u64 0, .int .u64 0, .int .u64 0, .int .i64 0] 56 ?_; intro gb120 hg w63 hbox hb; have BK120 := Aside0.mk (hbox); have GW120 := Kw_ HB hg; have GE120 := GW120; have NB119_120 := Kl_ BK119 hg; have NB120_119 := Kr_ BK119 hg; replace BK119 := Kb_ BK119 hb; replace HB := Ks_ HB hb; clear hb hbox hg; have hnb64 := NB119_120.out; have hnc64 := NB120_119.out; obtain ⟨hcz65_0, hcz65_1, hcz65_2, hcz65_3, hcz65_4, hcz65_5, hfz65_0, hfz65_1, hfz65_2, hfz65_3, hfz65_4, hfz65_5⟩ := Ke6_ BK119.out; obtain ⟨hcz66_0, hcz66_1, hcz66_2, hcz66_3, hcz66_4, hfz66_0, hfz66_1, hfz66_2, hfz66_3, hfz66_4⟩ := Ke5_ BK120.out))
  refine bodyPost_ret (results_cell_row rfl _ _ gb120 56 #[.int .u64 a0_0, .int .u64 a0_1, .int .u64 a0_2, .int .u64 a0_3, .int .i64 a0_4] (0, 0) _ rfl (by refine Kv_ ?_; refine blk_put (cs := #[.int .u64 a0_0, .int .u64 a0_1, .int .u64 a0_2, .int .u64 a0_3, .int .i64 0]) ?_ 4 _ rfl; refine Kv_ ?_; refine blk_put (cs := #[.int .u64 a0_0, .int .u64 a0_1, .int .u64 a0_2, .int .u64 0, .int .i64 0]) ?_ 3 _ rfl; refine Kv_ ?_; refine blk_put (cs := #[.int .u64 a0_0, .int .u64 a0_1, .int .u64 0, .int .u64 0, .int .i64 0]) ?_ 2 _ rfl; refine Kv_ ?_; refine blk_put (cs := #[.int .u64 a0_0, .int .u64 0, .int .u64 0, .int .u64 0, .int .i64 0]) ?_ 1 _ rfl; refine Kv_ ?_; refine blk_put (cs := #[.int .u64 0, .int .u64 0, .int .u64 0, .int .u64 0, .int .i64 0]) ?_ 0 _ rfl; exact Kq_ BK120) Try.underlying56 rfl (by kernel_rfl)) rfl ?_
  exact ⟨Kh_, K2a_ HB GE119 GE120⟩
 subst c2
 have H1 : (tenementlaw22_Mark_mark.l0 k 0 a0_0 a0_1 a0_2 a0_3 a0_4 true 0 0 0 0 (wrap64 (1 + (wrap64 (Int.tmod (IntKind.u64.wrap (a0_4)) 3))))) = some (r1, r2, r3, r4, r5) := by rw [if_pos rfl] at H; exact H
 clear H
 have H := H1
 clear H1
 have H' := Aside0.mk H
 clear H
 go_enter Try.func51, Try.ntmps51
 go_wp2_with (first | ((with_reducible refine gate_dst (N := 1) rfl ?_); refine Ka_ 1 #[.int .u64 a0_0, .int .u64 a0_1, .int .u64 a0_2, .int .u64 a0_3, .int .i64 a0_4, .bool true] 58 ?_; intro gb119 hg w3 hbox hb; have BK119 := Aside0.mk (hbox); have GW119 := Kw_ HB hg; have GE119 := GW119; replace HB := Ks_ HB hb; clear hb hbox hg) | ((with_reducible refine gate_dst (N := 2) rfl ?_); refine Ka_ 2 #[.int .u64 0, .int .u64 0, .int .u64 0, .int .u64 0, .int .i64 0] 56 ?_; intro gb120 hg w4 hbox hb; have BK120 := Aside0.mk (hbox); have GW120 := Kw_ HB hg; have GE120 := GW120; have NB119_120 := Kl_ BK119 hg; have NB120_119 := Kr_ BK119 hg; replace BK119 := Kb_ BK119 hb; replace HB := Ks_ HB hb; clear hb hbox hg; have hnb5 := NB119_120.out; have hnc5 := NB120_119.out; obtain ⟨hcz6_0, hcz6_1, hcz6_2, hcz6_3, hcz6_4, hcz6_5, hfz6_0, hfz6_1, hfz6_2, hfz6_3, hfz6_4, hfz6_5⟩ := Ke6_ BK119.out) | ((with_reducible refine gate_dst (N := 3) rfl ?_); refine Ka_ 3 #[.int .u64 0, .int .u64 0, .int .u64 0, .int .u64 0, .int .i64 0] 56 ?_; intro gb121 hg w7 hbox hb; have BK121 := Aside0.mk (hbox); have GW121 := Kw_ HB hg; have GE121 := GW121; have NB119_121 := Kl_ BK119 hg; have NB121_119 := Kr_ BK119 hg; have NB120_121 := Kl_ BK120 hg; have NB121_120 := Kr_ BK120 hg; replace BK119 := Kb_ BK119 hb; replace BK120 := Kb_ BK120 hb; replace HB := Ks_ HB hb; clear hb hbox hg; have hnb8 := NB121_119.out; have hnc8 := NB119_121.out; have hnb9 := NB121_120.out; have hnc9 := NB120_121.out; obtain ⟨hcz10_0, hcz10_1, hcz10_2, hcz10_3, hcz10_4, hfz10_0, hfz10_1, hfz10_2, hfz10_3, hfz10_4⟩ := Ke5_ BK121.out))
 go_loopg [4] k (fun kq v4 w' => ∃ (x4_1 : Int) (x100_1 : Int) (x101_1 : Int) (x102_1 : Int) (x103_1 : Int), v4 = .int .i64 x4_1 ∧ Aside0 (tenementlaw22_Mark_mark.l0 kq x4_1 a0_0 a0_1 a0_2 a0_3 a0_4 true x100_1 x101_1 x102_1 x103_1 (wrap64 (1 + (wrap64 (Int.tmod (IntKind.u64.wrap (a0_4)) 3)))) = some (r1, r2, r3, r4, r5)) ∧ Aside0 (kq ≤ k) ∧ Aside0 (w'.heap[gb119]? = some (.cells #[.int .u64 a0_0, .int .u64 a0_1, .int .u64 a0_2, .int .u64 a0_3, .int .i64 a0_4, .bool true] 58 (0, 0))) ∧ Aside0 (w'.heap[gb120]? = some (.cells #[.int .u64 0, .int .u64 0, .int .u64 0, .int .u64 0, .int .i64 0] 56 (0, 0))) ∧ Aside0 (w'.heap[gb121]? = some (.cells #[.int .u64 x100_1, .int .u64 x101_1, .int .u64 x102_1, .int .u64 x103_1, .int .i64 (wrap64 (1 + (wrap64 (Int.tmod (IntKind.u64.wrap (a0_4)) 3))))] 56 (0, 0))) ∧ Aside0 (Below w.heap.size w w'))
 case atStart => exact ⟨(0), (0), (0), (0), (0), (by first | rfl | (simp; done) | (simp [*]; done)), H', ⟨Nat.le_refl _⟩, ⟨by exact K1b_ BK119 NB119_121⟩, ⟨by exact K1b_ BK120 NB120_121⟩, ⟨by refine Kv_ ?_; refine blk_put (cs := #[.int .u64 0, .int .u64 0, .int .u64 0, .int .u64 0, .int .i64 0]) ?_ 4 _ rfl; refine Kv_ ?_; refine blk_put (cs := #[.int .u64 0, .int .u64 0, .int .u64 0, .int .u64 0, .int .i64 0]) ?_ 3 _ rfl; refine Kv_ ?_; refine blk_put (cs := #[.int .u64 0, .int .u64 0, .int .u64 0, .int .u64 0, .int .i64 0]) ?_ 2 _ rfl; refine Kv_ ?_; refine blk_put (cs := #[.int .u64 0, .int .u64 0, .int .u64 0, .int .u64 0, .int .i64 0]) ?_ 1 _ rfl; refine Kv_ ?_; refine blk_put (cs := #[.int .u64 0, .int .u64 0, .int .u64 0, .int .u64 0, .int .i64 0]) ?_ 0 _ rfl; exact Kq_ BK121⟩, ⟨K3a_ HB GE119 GE120 GE121⟩⟩
 case round =>
  clear H'
  try clear c2
  try clear p2
  try clear c5
  try clear p6
  try clear c8
  try clear c9
  try clear hcz10_0
  try clear hcz10_1
  try clear hcz10_2
  try clear hcz10_3
  try clear hcz10_4
  try clear hcz6_0
  try clear hcz6_1
  try clear hcz6_2
  try clear hcz6_3
  try clear hcz6_4
  try clear hcz6_5
  try clear hfz10_0
  try clear hfz10_1
  try clear hfz10_2
  try clear hfz10_3
  try clear hfz10_4
  try clear hfz6_0
  try clear hfz6_1
  try clear hfz6_2
  try clear hfz6_3
  try clear hfz6_4
  try clear hfz6_5
  obtain ⟨x4_1, x100_1, x101_1, x102_1, x103_1, rfl, HA, HK1, BK119, BK120, BK121, HB⟩ := hrel
  cases gk with
  | zero => exact absurd HA.out (by simp [tenementlaw22_Mark_mark.l0])
  | succ k1 =>
   have H := HA.out
   clear HA
   simp only [tenementlaw22_Mark_mark.l0] at H
   by_cases c11 : x4_1 < 3
   ·rw [if_pos c11] at H
    have c11b0 : decide (x4_1 < 3) = true := decide_eq_true c11
    clear c11
    by_cases c12 : x4_1 = 0
    ·subst c12
     have H1 : (tenementlaw22_Mark_mark.l0 k1 1 a0_0 a0_1 a0_2 a0_3 a0_4 true (Int.tmod a0_0 4) x101_1 x102_1 x103_1 (wrap64 (1 + (wrap64 (Int.tmod (IntKind.u64.wrap (a0_4)) 3))))) = some (r1, r2, r3, r4, r5) := by rw [if_pos rfl] at H; (try simp only [show wrap64 ((0 : Int) + 1) = 1 from by first | rfl | decide | (unfold wrap64; omega), show wrap64 ((0 : Int) - 1) = -1 from by first | rfl | decide | (unfold wrap64; omega)] at H); exact H
     clear H
     have H := H1
     clear H1
     have H' := Aside0.mk H
     clear H
     have hnb13 := NB119_120.out
     have hnc13 := NB120_119.out
     have hnb14 := NB119_121.out
     have hnc14 := NB121_119.out
     obtain ⟨hcz15_0, hcz15_1, hcz15_2, hcz15_3, hcz15_4, hcz15_5, hfz15_0, hfz15_1, hfz15_2, hfz15_3, hfz15_4, hfz15_5⟩ := Ke6_ BK119.out
     have hnb16 := NB121_120.out
     have hnc16 := NB120_121.out
     obtain ⟨hcz17_0, hcz17_1, hcz17_2, hcz17_3, hcz17_4, hfz17_0, hfz17_1, hfz17_2, hfz17_3, hfz17_4⟩ := Ke5_ BK121.out
     go_wp2
     go_roundg k1
     case measure => have := HK1.out; omega
     case rel => exact ⟨(1), (Int.tmod a0_0 4), (x101_1), (x102_1), (x103_1), (by first | rfl | (simp; done) | (simp [*]; done)), H', ⟨by have := HK1.out; omega⟩, ⟨by exact K1b_ BK119 NB119_121⟩, ⟨by exact K1b_ BK120 NB120_121⟩, ⟨by refine Kv_ ?_; refine blk_put (cs := #[.int .u64 x100_1, .int .u64 x101_1, .int .u64 x102_1, .int .u64 x103_1, .int .i64 (wrap64 (1 + (wrap64 (Int.tmod (IntKind.u64.wrap (a0_4)) 3))))]) ?_ 0 _ rfl; exact Kq_ BK121⟩, ⟨K3a_ HB GE119 GE120 GE121⟩⟩
    rw [if_neg c12] at H
    by_cases c18 : x4_1 = 1
    ·subst c18
     have H1 : (tenementlaw22_Mark_mark.l0 k1 2 a0_0 a0_1 a0_2 a0_3 a0_4 true x100_1 (Int.tmod a0_1 4) x102_1 x103_1 (wrap64 (1 + (wrap64 (Int.tmod (IntKind.u64.wrap (a0_4)) 3))))) = some (r1, r2, r3, r4, r5) := by rw [if_pos rfl] at H; (try simp only [show wrap64 ((1 : Int) + 1) = 2 from by first | rfl | decide | (unfold wrap64; omega), show wrap64 ((1 : Int) - 1) = 0 from by first | rfl | decide | (unfold wrap64; omega)] at H); exact H
     clear H
     have H := H1
     clear H1
     have H' := Aside0.mk H
     clear H
     have hnb19 := NB119_120.out
     have hnc19 := NB120_119.out
     have hnb20 := NB119_121.out
     have hnc20 := NB121_119.out
     obtain ⟨hcz21_0, hcz21_1, hcz21_2, hcz21_3, hcz21_4, hcz21_5, hfz21_0, hfz21_1, hfz21_2, hfz21_3, hfz21_4, hfz21_5⟩ := Ke6_ BK119.out
     have hnb22 := NB121_120.out
     have hnc22 := NB120_121.out
     obtain ⟨hcz23_0, hcz23_1, hcz23_2, hcz23_3, hcz23_4, hfz23_0, hfz23_1, hfz23_2, hfz23_3, hfz23_4⟩ := Ke5_ BK121.out
     go_wp2
     go_roundg k1
     case measure => have := HK1.out; omega
     case rel => exact ⟨(2), (x100_1), (Int.tmod a0_1 4), (x102_1), (x103_1), (by first | rfl | (simp; done) | (simp [*]; done)), H', ⟨by have := HK1.out; omega⟩, ⟨by exact K1b_ BK119 NB119_121⟩, ⟨by exact K1b_ BK120 NB120_121⟩, ⟨by refine Kv_ ?_; refine blk_put (cs := #[.int .u64 x100_1, .int .u64 x101_1, .int .u64 x102_1, .int .u64 x103_1, .int .i64 (wrap64 (1 + (wrap64 (Int.tmod (IntKind.u64.wrap (a0_4)) 3))))]) ?_ 1 _ rfl; exact Kq_ BK121⟩, ⟨K3a_ HB GE119 GE120 GE121⟩⟩
    rw [if_neg c18] at H
    by_cases c24 : x4_1 = 2
    rotate_left
    ·rw [if_neg c24] at H
     exact absurd H (by simp)
    subst c24
    have H1 : (tenementlaw22_Mark_mark.l0 k1 3 a0_0 a0_1 a0_2 a0_3 a0_4 true x100_1 x101_1 (Int.tmod a0_2 4) x103_1 (wrap64 (1 + (wrap64 (Int.tmod (IntKind.u64.wrap (a0_4)) 3))))) = some (r1, r2, r3, r4, r5) := by rw [if_pos rfl] at H; (try simp only [show wrap64 ((2 : Int) + 1) = 3 from by first | rfl | decide | (unfold wrap64; omega), show wrap64 ((2 : Int) - 1) = 1 from by first | rfl | decide | (unfold wrap64; omega)] at H); exact H
    clear H
    have H := H1
    clear H1
    have H' := Aside0.mk H
    clear H
    have hnb25 := NB119_120.out
    have hnc25 := NB120_119.out
    have hnb26 := NB119_121.out
    have hnc26 := NB121_119.out
    obtain ⟨hcz27_0, hcz27_1, hcz27_2, hcz27_3, hcz27_4, hcz27_5, hfz27_0, hfz27_1, hfz27_2, hfz27_3, hfz27_4, hfz27_5⟩ := Ke6_ BK119.out
    have hnb28 := NB121_120.out
    have hnc28 := NB120_121.out
    obtain ⟨hcz29_0, hcz29_1, hcz29_2, hcz29_3, hcz29_4, hfz29_0, hfz29_1, hfz29_2, hfz29_3, hfz29_4⟩ := Ke5_ BK121.out
    go_wp2
    go_roundg k1
    case measure => have := HK1.out; omega
    case rel => exact ⟨(3), (x100_1), (x101_1), (Int.tmod a0_2 4), (x103_1), (by first | rfl | (simp; done) | (simp [*]; done)), H', ⟨by have := HK1.out; omega⟩, ⟨by exact K1b_ BK119 NB119_121⟩, ⟨by exact K1b_ BK120 NB120_121⟩, ⟨by refine Kv_ ?_; refine blk_put (cs := #[.int .u64 x100_1, .int .u64 x101_1, .int .u64 x102_1, .int .u64 x103_1, .int .i64 (wrap64 (1 + (wrap64 (Int.tmod (IntKind.u64.wrap (a0_4)) 3))))]) ?_ 2 _ rfl; exact Kq_ BK121⟩, ⟨K3a_ HB GE119 GE120 GE121⟩⟩
   rw [if_neg c11] at H
   have c11b0 : decide (x4_1 < 3) = false := decide_eq_false c11
   clear c11
   by_cases c30 : (wrap64 (1 + (wrap64 (Int.tmod (IntKind.u64.wrap (a0_4)) 3)))) = 1
   ·generalize (wrap64 (1 + (wrap64 (Int.tmod (IntKind.u64.wrap (a0_4)) 3)))) = xg_ at *
    subst c30
    have H1 : (some (IntKind.u64.wrap (1 + x100_1), x101_1, x102_1, x103_1, 1)) = some (r1, r2, r3, r4, r5) := by rw [if_pos rfl] at H; (try simp only [show wrap64 ((1 : Int) + 1) = 2 from by first | rfl | decide | (unfold wrap64; omega), show wrap64 ((1 : Int) - 1) = 0 from by first | rfl | decide | (unfold wrap64; omega)] at H); exact H
    clear H
    have H := H1
    clear H1
    simp only [Option.some.injEq, Prod.mk.injEq] at H
    obtain ⟨rfl, rfl, rfl, rfl, rfl⟩ := H
    try go_wp2
    replace BK119 := Kd_ BK119
    replace BK120 := Kd_ BK120
    replace BK121 := Kd_ BK121
    replace HB := Aside0.mk (below_drew1 HB.out)
    refine start_ (n := 13) (S := fun w' => w'.cell? ⟨gb121, 0, none⟩ = some (.int .u64 x100_1) ∧ w'.cell? ⟨gb121, 1, none⟩ = some (.int .u64 x101_1) ∧ w'.cell? ⟨gb121, 2, none⟩ = some (.int .u64 x102_1) ∧ w'.cell? ⟨gb121, 3, none⟩ = some (.int .u64 x103_1) ∧ w'.cell? ⟨gb121, 4, none⟩ = some (.int .i64 1)) (ds := [12]) (mB_ 13 0) (by kernel_rfl) rfl rfl (Kc5_ BK121.out) (fun hHeld => ?_); refine with_tabW tenementlaw22_Mark_mark.tab8 tenementlaw22_Mark_mark.bits8 (fun HT_ HW_ => ?_)
    generalize wr.drew = w31 at BK119 BK120 BK121 HB hHeld ⊢
    refine Kp_ 0 31 (mB_ 13 1) (any_of HT_.out (by kernel_rfl)) ?_
    refine Kp_ 3 34 (mB_ 13 9) (any_of HT_.out (by kernel_rfl)) ?_
    refine Kp_ 6 37 (mB_ 13 73) (any_of HT_.out (by kernel_rfl)) ?_
    refine Kp_ 10 41 (mB_ 13 1097) (any_of HT_.out (by kernel_rfl)) ?_
    refine Ko_ 1 32 (mB_ 13 1099) (take_ofW HT_.out HW_.out (by kernel_rfl)) hHeld ?_
    refine Kp_ 2 33 (mB_ 13 1103) (any_of HT_.out (by kernel_rfl)) ?_
    refine Ko_ 4 35 (mB_ 13 1119) (take_ofW HT_.out HW_.out (by kernel_rfl)) hHeld ?_
    refine Kp_ 5 36 (mB_ 13 1151) (any_of HT_.out (by kernel_rfl)) ?_
    refine Kp_ 7 38 (mB_ 13 1279) (any_of HT_.out (by kernel_rfl)) ?_
    refine Ko_ 8 39 (mB_ 13 1535) (take_ofW HT_.out HW_.out (by kernel_rfl)) hHeld ?_
    refine Kp_ 9 40 (mB_ 13 2047) (any_of HT_.out (by kernel_rfl)) ?_
    refine Kp_ 11 42 (mB_ 13 4095) (any_of HT_.out (by kernel_rfl)) ?_
    refine last_ (i := 12) (N := none) (mB_ 13 8191) rfl rfl (one_of HT_.out (by kernel_rfl)) (by decide) (fun K hK => ?_)
    have hs32 : w31.cell? ⟨gb121, 0, none⟩ = some (.int .u64 x100_1) := (blk_cell BK121.out 0).trans rfl
    have hfs32 := blk_frozen BK121.out 0
    have hns32_0 := NB119_121.out
    have hns32_1 := NB120_121.out
    have hms32_0 := NB121_119.out
    have hms32_1 := NB121_120.out
    refine skip_ (w1 := ?_) (by rfl) rfl ?_ ?_
    rotate_left
    ·go_simp
     rfl
    refine hK.out _ _ ?_
    clear hK K
    refine done_ (done_of HT_.out (by kernel_rfl)) ?_
    have hnb33 := NB121_119.out
    have hnc33 := NB119_121.out
    have hnb34 := NB121_120.out
    have hnc34 := NB120_121.out
    obtain ⟨hcz35_0, hcz35_1, hcz35_2, hcz35_3, hcz35_4, hfz35_0, hfz35_1, hfz35_2, hfz35_3, hfz35_4⟩ := Ke5_ BK121.out
    have hnb36 := NB120_119.out
    have hnc36 := NB119_120.out
    obtain ⟨hcz37_0, hcz37_1, hcz37_2, hcz37_3, hcz37_4, hfz37_0, hfz37_1, hfz37_2, hfz37_3, hfz37_4⟩ := Ke5_ BK120.out
    try go_wp2
    refine bodyPost_ret (results_cell_row rfl _ _ gb120 56 #[.int .u64 (IntKind.u64.wrap (1 + x100_1)), .int .u64 x101_1, .int .u64 x102_1, .int .u64 x103_1, .int .i64 1] (0, 0) _ rfl (by refine Kv_ ?_; refine blk_put (cs := #[.int .u64 (IntKind.u64.wrap (1 + x100_1)), .int .u64 x101_1, .int .u64 x102_1, .int .u64 x103_1, .int .i64 0]) ?_ 4 _ rfl; refine Kv_ ?_; refine blk_put (cs := #[.int .u64 (IntKind.u64.wrap (1 + x100_1)), .int .u64 x101_1, .int .u64 x102_1, .int .u64 0, .int .i64 0]) ?_ 3 _ rfl; refine Kv_ ?_; refine blk_put (cs := #[.int .u64 (IntKind.u64.wrap (1 + x100_1)), .int .u64 x101_1, .int .u64 0, .int .u64 0, .int .i64 0]) ?_ 2 _ rfl; refine Kv_ ?_; refine blk_put (cs := #[.int .u64 (IntKind.u64.wrap (1 + x100_1)), .int .u64 0, .int .u64 0, .int .u64 0, .int .i64 0]) ?_ 1 _ rfl; refine Kv_ ?_; refine blk_put (cs := #[.int .u64 0, .int .u64 0, .int .u64 0, .int .u64 0, .int .i64 0]) ?_ 0 _ rfl; exact K1b_ BK120 NB120_121) Try.underlying56 rfl (by kernel_rfl)) rfl ?_
    exact ⟨Kh_, K3a_ HB GE119 GE120 GE121⟩
   rw [if_neg c30] at H
   by_cases c38 : (wrap64 (1 + (wrap64 (Int.tmod (IntKind.u64.wrap (a0_4)) 3)))) = 2
   ·generalize (wrap64 (1 + (wrap64 (Int.tmod (IntKind.u64.wrap (a0_4)) 3)))) = xg_ at *
    subst c38
    have H1 : (some (x100_1, IntKind.u64.wrap (1 + x101_1), x102_1, x103_1, 2)) = some (r1, r2, r3, r4, r5) := by rw [if_pos rfl] at H; (try simp only [show wrap64 ((2 : Int) + 1) = 3 from by first | rfl | decide | (unfold wrap64; omega), show wrap64 ((2 : Int) - 1) = 1 from by first | rfl | decide | (unfold wrap64; omega)] at H); exact H
    clear H
    have H := H1
    clear H1
    simp only [Option.some.injEq, Prod.mk.injEq] at H
    obtain ⟨rfl, rfl, rfl, rfl, rfl⟩ := H
    try go_wp2
    replace BK119 := Kd_ BK119
    replace BK120 := Kd_ BK120
    replace BK121 := Kd_ BK121
    replace HB := Aside0.mk (below_drew1 HB.out)
    refine start_ (n := 13) (S := fun w' => w'.cell? ⟨gb121, 0, none⟩ = some (.int .u64 x100_1) ∧ w'.cell? ⟨gb121, 1, none⟩ = some (.int .u64 x101_1) ∧ w'.cell? ⟨gb121, 2, none⟩ = some (.int .u64 x102_1) ∧ w'.cell? ⟨gb121, 3, none⟩ = some (.int .u64 x103_1) ∧ w'.cell? ⟨gb121, 4, none⟩ = some (.int .i64 2)) (ds := [12]) (mB_ 13 0) (by kernel_rfl) rfl rfl (Kc5_ BK121.out) (fun hHeld => ?_); refine with_tabW tenementlaw22_Mark_mark.tab8 tenementlaw22_Mark_mark.bits8 (fun HT_ HW_ => ?_)
    generalize wr.drew = w39 at BK119 BK120 BK121 HB hHeld ⊢
    refine Kp_ 0 31 (mB_ 13 1) (any_of HT_.out (by kernel_rfl)) ?_
    refine Kp_ 3 34 (mB_ 13 9) (any_of HT_.out (by kernel_rfl)) ?_
    refine Kp_ 6 37 (mB_ 13 73) (any_of HT_.out (by kernel_rfl)) ?_
    refine Kp_ 10 41 (mB_ 13 1097) (any_of HT_.out (by kernel_rfl)) ?_
    refine Ko_ 1 32 (mB_ 13 1099) (take_ofW HT_.out HW_.out (by kernel_rfl)) hHeld ?_
    refine Kp_ 2 33 (mB_ 13 1103) (any_of HT_.out (by kernel_rfl)) ?_
    refine Ko_ 4 35 (mB_ 13 1119) (take_ofW HT_.out HW_.out (by kernel_rfl)) hHeld ?_
    refine Kp_ 5 36 (mB_ 13 1151) (any_of HT_.out (by kernel_rfl)) ?_
    refine Kp_ 7 38 (mB_ 13 1279) (any_of HT_.out (by kernel_rfl)) ?_
    refine Ko_ 8 39 (mB_ 13 1535) (take_ofW HT_.out HW_.out (by kernel_rfl)) hHeld ?_
    refine Kp_ 9 40 (mB_ 13 2047) (any_of HT_.out (by kernel_rfl)) ?_
    refine Kp_ 11 42 (mB_ 13 4095) (any_of HT_.out (by kernel_rfl)) ?_
    refine last_ (i := 12) (N := none) (mB_ 13 8191) rfl rfl (one_of HT_.out (by kernel_rfl)) (by decide) (fun K hK => ?_)
    have hs40 : w39.cell? ⟨gb121, 1, none⟩ = some (.int .u64 x101_1) := (blk_cell BK121.out 1).trans rfl
    have hfs40 := blk_frozen BK121.out 1
    have hns40_0 := NB119_121.out
    have hns40_1 := NB120_121.out
    have hms40_0 := NB121_119.out
    have hms40_1 := NB121_120.out
    refine skip_ (w1 := ?_) (by rfl) rfl ?_ ?_
    rotate_left
    ·go_simp
     rfl
    refine hK.out _ _ ?_
    clear hK K
    refine done_ (done_of HT_.out (by kernel_rfl)) ?_
    have hnb41 := NB121_119.out
    have hnc41 := NB119_121.out
    have hnb42 := NB121_120.out
    have hnc42 := NB120_121.out
    obtain ⟨hcz43_0, hcz43_1, hcz43_2, hcz43_3, hcz43_4, hfz43_0, hfz43_1, hfz43_2, hfz43_3, hfz43_4⟩ := Ke5_ BK121.out
    have hnb44 := NB120_119.out
    have hnc44 := NB119_120.out
    obtain ⟨hcz45_0, hcz45_1, hcz45_2, hcz45_3, hcz45_4, hfz45_0, hfz45_1, hfz45_2, hfz45_3, hfz45_4⟩ := Ke5_ BK120.out
    try go_wp2
    refine bodyPost_ret (results_cell_row rfl _ _ gb120 56 #[.int .u64 x100_1, .int .u64 (IntKind.u64.wrap (1 + x101_1)), .int .u64 x102_1, .int .u64 x103_1, .int .i64 2] (0, 0) _ rfl (by refine Kv_ ?_; refine blk_put (cs := #[.int .u64 x100_1, .int .u64 (IntKind.u64.wrap (1 + x101_1)), .int .u64 x102_1, .int .u64 x103_1, .int .i64 0]) ?_ 4 _ rfl; refine Kv_ ?_; refine blk_put (cs := #[.int .u64 x100_1, .int .u64 (IntKind.u64.wrap (1 + x101_1)), .int .u64 x102_1, .int .u64 0, .int .i64 0]) ?_ 3 _ rfl; refine Kv_ ?_; refine blk_put (cs := #[.int .u64 x100_1, .int .u64 (IntKind.u64.wrap (1 + x101_1)), .int .u64 0, .int .u64 0, .int .i64 0]) ?_ 2 _ rfl; refine Kv_ ?_; refine blk_put (cs := #[.int .u64 x100_1, .int .u64 0, .int .u64 0, .int .u64 0, .int .i64 0]) ?_ 1 _ rfl; refine Kv_ ?_; refine blk_put (cs := #[.int .u64 0, .int .u64 0, .int .u64 0, .int .u64 0, .int .i64 0]) ?_ 0 _ rfl; exact K1b_ BK120 NB120_121) Try.underlying56 rfl (by kernel_rfl)) rfl ?_
    exact ⟨Kh_, K3a_ HB GE119 GE120 GE121⟩
   rw [if_neg c38] at H
   by_cases c46 : (wrap64 (1 + (wrap64 (Int.tmod (IntKind.u64.wrap (a0_4)) 3)))) = 3
   ·generalize (wrap64 (1 + (wrap64 (Int.tmod (IntKind.u64.wrap (a0_4)) 3)))) = xg_ at *
    subst c46
    have H1 : (some (x100_1, x101_1, IntKind.u64.wrap (1 + x102_1), x103_1, 3)) = some (r1, r2, r3, r4, r5) := by rw [if_pos rfl] at H; (try simp only [show wrap64 ((3 : Int) + 1) = 4 from by first | rfl | decide | (unfold wrap64; omega), show wrap64 ((3 : Int) - 1) = 2 from by first | rfl | decide | (unfold wrap64; omega)] at H); exact H
    clear H
    have H := H1
    clear H1
    simp only [Option.some.injEq, Prod.mk.injEq] at H
    obtain ⟨rfl, rfl, rfl, rfl, rfl⟩ := H
    try go_wp2
    replace BK119 := Kd_ BK119
    replace BK120 := Kd_ BK120
    replace BK121 := Kd_ BK121
    replace HB := Aside0.mk (below_drew1 HB.out)
    refine start_ (n := 13) (S := fun w' => w'.cell? ⟨gb121, 0, none⟩ = some (.int .u64 x100_1) ∧ w'.cell? ⟨gb121, 1, none⟩ = some (.int .u64 x101_1) ∧ w'.cell? ⟨gb121, 2, none⟩ = some (.int .u64 x102_1) ∧ w'.cell? ⟨gb121, 3, none⟩ = some (.int .u64 x103_1) ∧ w'.cell? ⟨gb121, 4, none⟩ = some (.int .i64 3)) (ds := [12]) (mB_ 13 0) (by kernel_rfl) rfl rfl (Kc5_ BK121.out) (fun hHeld => ?_); refine with_tabW tenementlaw22_Mark_mark.tab8 tenementlaw22_Mark_mark.bits8 (fun HT_ HW_ => ?_)
    generalize wr.drew = w47 at BK119 BK120 BK121 HB hHeld ⊢
    refine Kp_ 0 31 (mB_ 13 1) (any_of HT_.out (by kernel_rfl)) ?_
    refine Kp_ 3 34 (mB_ 13 9) (any_of HT_.out (by kernel_rfl)) ?_
    refine Kp_ 6 37 (mB_ 13 73) (any_of HT_.out (by kernel_rfl)) ?_
    refine Kp_ 10 41 (mB_ 13 1097) (any_of HT_.out (by kernel_rfl)) ?_
    refine Ko_ 1 32 (mB_ 13 1099) (take_ofW HT_.out HW_.out (by kernel_rfl)) hHeld ?_
    refine Kp_ 2 33 (mB_ 13 1103) (any_of HT_.out (by kernel_rfl)) ?_
    refine Ko_ 4 35 (mB_ 13 1119) (take_ofW HT_.out HW_.out (by kernel_rfl)) hHeld ?_
    refine Kp_ 5 36 (mB_ 13 1151) (any_of HT_.out (by kernel_rfl)) ?_
    refine Kp_ 7 38 (mB_ 13 1279) (any_of HT_.out (by kernel_rfl)) ?_
    refine Ko_ 8 39 (mB_ 13 1535) (take_ofW HT_.out HW_.out (by kernel_rfl)) hHeld ?_
    refine Kp_ 9 40 (mB_ 13 2047) (any_of HT_.out (by kernel_rfl)) ?_
    refine Kp_ 11 42 (mB_ 13 4095) (any_of HT_.out (by kernel_rfl)) ?_
    refine last_ (i := 12) (N := none) (mB_ 13 8191) rfl rfl (one_of HT_.out (by kernel_rfl)) (by decide) (fun K hK => ?_)
    have hs48 : w47.cell? ⟨gb121, 2, none⟩ = some (.int .u64 x102_1) := (blk_cell BK121.out 2).trans rfl
    have hfs48 := blk_frozen BK121.out 2
    have hns48_0 := NB119_121.out
    have hns48_1 := NB120_121.out
    have hms48_0 := NB121_119.out
    have hms48_1 := NB121_120.out
    refine skip_ (w1 := ?_) (by rfl) rfl ?_ ?_
    rotate_left
    ·go_simp
     rfl
    refine hK.out _ _ ?_
    clear hK K
    refine done_ (done_of HT_.out (by kernel_rfl)) ?_
    have hnb49 := NB121_119.out
    have hnc49 := NB119_121.out
    have hnb50 := NB121_120.out
    have hnc50 := NB120_121.out
    obtain ⟨hcz51_0, hcz51_1, hcz51_2, hcz51_3, hcz51_4, hfz51_0, hfz51_1, hfz51_2, hfz51_3, hfz51_4⟩ := Ke5_ BK121.out
    have hnb52 := NB120_119.out
    have hnc52 := NB119_120.out
    obtain ⟨hcz53_0, hcz53_1, hcz53_2, hcz53_3, hcz53_4, hfz53_0, hfz53_1, hfz53_2, hfz53_3, hfz53_4⟩ := Ke5_ BK120.out
    try go_wp2
    refine bodyPost_ret (results_cell_row rfl _ _ gb120 56 #[.int .u64 x100_1, .int .u64 x101_1, .int .u64 (IntKind.u64.wrap (1 + x102_1)), .int .u64 x103_1, .int .i64 3] (0, 0) _ rfl (by refine Kv_ ?_; refine blk_put (cs := #[.int .u64 x100_1, .int .u64 x101_1, .int .u64 (IntKind.u64.wrap (1 + x102_1)), .int .u64 x103_1, .int .i64 0]) ?_ 4 _ rfl; refine Kv_ ?_; refine blk_put (cs := #[.int .u64 x100_1, .int .u64 x101_1, .int .u64 (IntKind.u64.wrap (1 + x102_1)), .int .u64 0, .int .i64 0]) ?_ 3 _ rfl; refine Kv_ ?_; refine blk_put (cs := #[.int .u64 x100_1, .int .u64 x101_1, .int .u64 0, .int .u64 0, .int .i64 0]) ?_ 2 _ rfl; refine Kv_ ?_; refine blk_put (cs := #[.int .u64 x100_1, .int .u64 0, .int .u64 0, .int .u64 0, .int .i64 0]) ?_ 1 _ rfl; refine Kv_ ?_; refine blk_put (cs := #[.int .u64 0, .int .u64 0, .int .u64 0, .int .u64 0, .int .i64 0]) ?_ 0 _ rfl; exact K1b_ BK120 NB120_121) Try.underlying56 rfl (by kernel_rfl)) rfl ?_
    exact ⟨Kh_, K3a_ HB GE119 GE120 GE121⟩
   rw [if_neg c46] at H
   by_cases c54 : (wrap64 (1 + (wrap64 (Int.tmod (IntKind.u64.wrap (a0_4)) 3)))) = 4
   rotate_left
   ·rw [if_neg c54] at H
    exact absurd H (by simp)
   generalize (wrap64 (1 + (wrap64 (Int.tmod (IntKind.u64.wrap (a0_4)) 3)))) = xg_ at *
   subst c54
   have H1 : (some (x100_1, x101_1, x102_1, IntKind.u64.wrap (1 + x103_1), 4)) = some (r1, r2, r3, r4, r5) := by rw [if_pos rfl] at H; (try simp only [show wrap64 ((4 : Int) + 1) = 5 from by first | rfl | decide | (unfold wrap64; omega), show wrap64 ((4 : Int) - 1) = 3 from by first | rfl | decide | (unfold wrap64; omega)] at H); exact H
   clear H
   have H := H1
   clear H1
   simp only [Option.some.injEq, Prod.mk.injEq] at H
   obtain ⟨rfl, rfl, rfl, rfl, rfl⟩ := H
   try go_wp2
   replace BK119 := Kd_ BK119
   replace BK120 := Kd_ BK120
   replace BK121 := Kd_ BK121
   replace HB := Aside0.mk (below_drew1 HB.out)
   refine start_ (n := 13) (S := fun w' => w'.cell? ⟨gb121, 0, none⟩ = some (.int .u64 x100_1) ∧ w'.cell? ⟨gb121, 1, none⟩ = some (.int .u64 x101_1) ∧ w'.cell? ⟨gb121, 2, none⟩ = some (.int .u64 x102_1) ∧ w'.cell? ⟨gb121, 3, none⟩ = some (.int .u64 x103_1) ∧ w'.cell? ⟨gb121, 4, none⟩ = some (.int .i64 4)) (ds := [12]) (mB_ 13 0) (by kernel_rfl) rfl rfl (Kc5_ BK121.out) (fun hHeld => ?_); refine with_tabW tenementlaw22_Mark_mark.tab8 tenementlaw22_Mark_mark.bits8 (fun HT_ HW_ => ?_)
   generalize wr.drew = w55 at BK119 BK120 BK121 HB hHeld ⊢
   refine Kp_ 0 31 (mB_ 13 1) (any_of HT_.out (by kernel_rfl)) ?_
   refine Kp_ 3 34 (mB_ 13 9) (any_of HT_.out (by kernel_rfl)) ?_
   refine Kp_ 6 37 (mB_ 13 73) (any_of HT_.out (by kernel_rfl)) ?_
   refine Kp_ 10 41 (mB_ 13 1097) (any_of HT_.out (by kernel_rfl)) ?_
   refine Ko_ 1 32 (mB_ 13 1099) (take_ofW HT_.out HW_.out (by kernel_rfl)) hHeld ?_
   refine Kp_ 2 33 (mB_ 13 1103) (any_of HT_.out (by kernel_rfl)) ?_
   refine Ko_ 4 35 (mB_ 13 1119) (take_ofW HT_.out HW_.out (by kernel_rfl)) hHeld ?_
   refine Kp_ 5 36 (mB_ 13 1151) (any_of HT_.out (by kernel_rfl)) ?_
   refine Kp_ 7 38 (mB_ 13 1279) (any_of HT_.out (by kernel_rfl)) ?_
   refine Ko_ 8 39 (mB_ 13 1535) (take_ofW HT_.out HW_.out (by kernel_rfl)) hHeld ?_
   refine Kp_ 9 40 (mB_ 13 2047) (any_of HT_.out (by kernel_rfl)) ?_
   refine Kp_ 11 42 (mB_ 13 4095) (any_of HT_.out (by kernel_rfl)) ?_
   refine last_ (i := 12) (N := none) (mB_ 13 8191) rfl rfl (one_of HT_.out (by kernel_rfl)) (by decide) (fun K hK => ?_)
   have hs56 : w55.cell? ⟨gb121, 3, none⟩ = some (.int .u64 x103_1) := (blk_cell BK121.out 3).trans rfl
   have hfs56 := blk_frozen BK121.out 3
   have hns56_0 := NB119_121.out
   have hns56_1 := NB120_121.out
   have hms56_0 := NB121_119.out
   have hms56_1 := NB121_120.out
   refine skip_ (w1 := ?_) (by rfl) rfl ?_ ?_
   rotate_left
   ·go_simp
    rfl
   refine hK.out _ _ ?_
   clear hK K
   refine done_ (done_of HT_.out (by kernel_rfl)) ?_
   have hnb57 := NB121_119.out
   have hnc57 := NB119_121.out
   have hnb58 := NB121_120.out
   have hnc58 := NB120_121.out
   obtain ⟨hcz59_0, hcz59_1, hcz59_2, hcz59_3, hcz59_4, hfz59_0, hfz59_1, hfz59_2, hfz59_3, hfz59_4⟩ := Ke5_ BK121.out
   have hnb60 := NB120_119.out
   have hnc60 := NB119_120.out
   obtain ⟨hcz61_0, hcz61_1, hcz61_2, hcz61_3, hcz61_4, hfz61_0, hfz61_1, hfz61_2, hfz61_3, hfz61_4⟩ := Ke5_ BK120.out
   try go_wp2
   refine bodyPost_ret (results_cell_row rfl _ _ gb120 56 #[.int .u64 x100_1, .int .u64 x101_1, .int .u64 x102_1, .int .u64 (IntKind.u64.wrap (1 + x103_1)), .int .i64 4] (0, 0) _ rfl (by refine Kv_ ?_; refine blk_put (cs := #[.int .u64 x100_1, .int .u64 x101_1, .int .u64 x102_1, .int .u64 (IntKind.u64.wrap (1 + x103_1)), .int .i64 0]) ?_ 4 _ rfl; refine Kv_ ?_; refine blk_put (cs := #[.int .u64 x100_1, .int .u64 x101_1, .int .u64 x102_1, .int .u64 0, .int .i64 0]) ?_ 3 _ rfl; refine Kv_ ?_; refine blk_put (cs := #[.int .u64 x100_1, .int .u64 x101_1, .int .u64 0, .int .u64 0, .int .i64 0]) ?_ 2 _ rfl; refine Kv_ ?_; refine blk_put (cs := #[.int .u64 x100_1, .int .u64 0, .int .u64 0, .int .u64 0, .int .i64 0]) ?_ 1 _ rfl; refine Kv_ ?_; refine blk_put (cs := #[.int .u64 0, .int .u64 0, .int .u64 0, .int .u64 0, .int .i64 0]) ?_ 0 _ rfl; exact K1b_ BK120 NB120_121) Try.underlying56 rfl (by kernel_rfl)) rfl ?_
   exact ⟨Kh_, K3a_ HB GE119 GE120 GE121⟩
mutual
def tenementlaw22_writes.l0 : Nat → List (S26) → Int → Bool → List (S24) → Int → Option ((List (S24)))
 | 0, _, _, _, _, _ => none
 | k + 1, x0, x1, x2, x7, x8 => if x8 < (x0.length : Int) then (tenementlaw22_writes.j1 k x0 x1 x2 x7 x8 (decide ((x7.length : Int) < x1))) else (tenementlaw22_writes.j1 k x0 x1 x2 x7 x8 false)
def tenementlaw22_writes.j1 : Nat → List (S26) → Int → Bool → List (S24) → Int → Bool → Option ((List (S24)))
 | 0, _, _, _, _, _, _ => none
 | k + 1, x0, x1, x2, x7, x8, x22 => if x22 = true then (if 0 ≤ x8 then (if x8 < (x0.length : Int) then (if x2 = true then (tenementlaw22_writes.j2 k x0 x1 x2 x7 x8 ((rd_T26 x0 x8).f0.f0) ((rd_T26 x0 x8).f0.f1) ((rd_T26 x0 x8).f0.f2) ((rd_T26 x0 x8).f0.f3) true ((rd_T26 x0 x8).f2)) else (tenementlaw22_writes.j2 k x0 x1 x2 x7 x8 ((rd_T26 x0 x8).f0.f0) ((rd_T26 x0 x8).f0.f1) ((rd_T26 x0 x8).f0.f2) ((rd_T26 x0 x8).f0.f3) ((rd_T26 x0 x8).f1) ((rd_T26 x0 x8).f2))) else (none)) else (none)) else (some x7)
def tenementlaw22_writes.j2 : Nat → List (S26) → Int → Bool → List (S24) → Int → ByteArray → ByteArray → ByteArray → Bool → Bool → Int → Option ((List (S24)))
 | 0, _, _, _, _, _, _, _, _, _, _, _ => none
 | k + 1, x0, x1, x2, x7, x8, x116, x117, x118, x137, x104, x138 => (tenementlaw22_Put_write.f x116 x117 x118 x137 x104 x138).bind fun bt124 => (tenementlaw22_writes.l1 k x0 x1 x2 x7 x8 false 0 bt124.1 bt124.2.1 bt124.2.2.1 bt124.2.2.2)
def tenementlaw22_writes.l1 : Nat → List (S26) → Int → Bool → List (S24) → Int → Bool → Int → ByteArray → ByteArray → ByteArray → Bool → Option ((List (S24)))
 | 0, _, _, _, _, _, _, _, _, _, _, _ => none
 | k + 1, x0, x1, x2, x7, x8, x11, x12, x106, x107, x108, x109 => if x12 < (x7.length : Int) then (if x11 = true then (tenementlaw22_writes.l1 k x0 x1 x2 x7 x8 true (wrap64 (x12 + 1)) x106 x107 x108 x109) else (if 0 ≤ x12 then (if ((rd_T24 x7 x12).f0).toList = x106.toList then (tenementlaw22_writes.l1 k x0 x1 x2 x7 x8 (((rd_T24 x7 x12).f1).toList == x107.toList) (wrap64 (x12 + 1)) x106 x107 x108 x109) else (tenementlaw22_writes.l1 k x0 x1 x2 x7 x8 false (wrap64 (x12 + 1)) x106 x107 x108 x109)) else (none))) else (if x2 = true then (if x11 = true then (tenementlaw22_writes.l0 k x0 x1 x2 x7 (wrap64 (x8 + 1))) else (if x7.length < 2513169434916 then (tenementlaw22_writes.l0 k x0 x1 x2 (x7 ++ [(⟨x106, x107, x108, x109⟩ : S24)]) (wrap64 (x8 + 1))) else (none))) else (if x7.length < 2513169434916 then (tenementlaw22_writes.l0 k x0 x1 x2 (x7 ++ [(⟨x106, x107, x108, x109⟩ : S24)]) (wrap64 (x8 + 1))) else (none)))
end
def tenementlaw22_writes.f (k : Nat) (l0 : List (S26)) (a1 : Int) (a2 : Bool) : Option ((List (S24))) := tenementlaw22_writes.l0 k l0 a1 a2 ([] : List (S24)) 0
theorem tenementlaw22_writes.mono_l : ∀ k, (∀ y0 y1 y2 y3 y4, LeO (tenementlaw22_writes.l0 k y0 y1 y2 y3 y4) (tenementlaw22_writes.l0 (k + 1) y0 y1 y2 y3 y4)) ∧ (∀ y0 y1 y2 y3 y4 y5, LeO (tenementlaw22_writes.j1 k y0 y1 y2 y3 y4 y5) (tenementlaw22_writes.j1 (k + 1) y0 y1 y2 y3 y4 y5)) ∧ (∀ y0 y1 y2 y3 y4 y5 y6 y7 y8 y9 y10, LeO (tenementlaw22_writes.j2 k y0 y1 y2 y3 y4 y5 y6 y7 y8 y9 y10) (tenementlaw22_writes.j2 (k + 1) y0 y1 y2 y3 y4 y5 y6 y7 y8 y9 y10)) ∧ (∀ y0 y1 y2 y3 y4 y5 y6 y7 y8 y9 y10, LeO (tenementlaw22_writes.l1 k y0 y1 y2 y3 y4 y5 y6 y7 y8 y9 y10) (tenementlaw22_writes.l1 (k + 1) y0 y1 y2 y3 y4 y5 y6 y7 y8 y9 y10))
 | 0 => ⟨fun _ _ _ _ _ r h => by simp [tenementlaw22_writes.l0] at h, fun _ _ _ _ _ _ r h => by simp [tenementlaw22_writes.j1] at h, fun _ _ _ _ _ _ _ _ _ _ _ r h => by simp [tenementlaw22_writes.j2] at h, fun _ _ _ _ _ _ _ _ _ _ _ r h => by simp [tenementlaw22_writes.l1] at h⟩
 | k + 1 => by
  obtain ⟨ih0, ih1, ih2, ih3⟩ := tenementlaw22_writes.mono_l k
  refine ⟨?_, ?_, ?_, ?_⟩
  ·intro y0 y1 y2 y3 y4
   unfold tenementlaw22_writes.l0
   repeat' first
   | (with_reducible exact ih0 _ _ _ _ _)
   | (with_reducible exact ih1 _ _ _ _ _ _)
   | (with_reducible exact ih2 _ _ _ _ _ _ _ _ _ _ _)
   | (with_reducible exact ih3 _ _ _ _ _ _ _ _ _ _ _)
   | (with_reducible exact LeO.refl _)
   | (with_reducible exact LeO.none _)
   | (with_reducible refine LeO.ite ?_ ?_)
   | (with_reducible refine LeO.bind ?_ (fun _ => ?_))
   | exact ih0 _ _ _ _ _
   | exact ih1 _ _ _ _ _ _
   | exact ih2 _ _ _ _ _ _ _ _ _ _ _
   | exact ih3 _ _ _ _ _ _ _ _ _ _ _
   | exact LeO.none _
   | refine LeO.ite ?_ ?_
   | refine LeO.bind ?_ (fun _ => ?_)
  ·intro y0 y1 y2 y3 y4 y5
   unfold tenementlaw22_writes.j1
   repeat' first
   | (with_reducible exact ih0 _ _ _ _ _)
   | (with_reducible exact ih1 _ _ _ _ _ _)
   | (with_reducible exact ih2 _ _ _ _ _ _ _ _ _ _ _)
   | (with_reducible exact ih3 _ _ _ _ _ _ _ _ _ _ _)
   | (with_reducible exact LeO.refl _)
   | (with_reducible exact LeO.none _)
   | (with_reducible refine LeO.ite ?_ ?_)
   | (with_reducible refine LeO.bind ?_ (fun _ => ?_))
   | exact ih0 _ _ _ _ _
   | exact ih1 _ _ _ _ _ _
   | exact ih2 _ _ _ _ _ _ _ _ _ _ _
   | exact ih3 _ _ _ _ _ _ _ _ _ _ _
   | exact LeO.none _
   | refine LeO.ite ?_ ?_
   | refine LeO.bind ?_ (fun _ => ?_)
  ·intro y0 y1 y2 y3 y4 y5 y6 y7 y8 y9 y10
   unfold tenementlaw22_writes.j2
   repeat' first
   | (with_reducible exact ih0 _ _ _ _ _)
   | (with_reducible exact ih1 _ _ _ _ _ _)
   | (with_reducible exact ih2 _ _ _ _ _ _ _ _ _ _ _)
   | (with_reducible exact ih3 _ _ _ _ _ _ _ _ _ _ _)
   | (with_reducible exact LeO.refl _)
   | (with_reducible exact LeO.none _)
   | (with_reducible refine LeO.ite ?_ ?_)
   | (with_reducible refine LeO.bind ?_ (fun _ => ?_))
   | exact ih0 _ _ _ _ _
   | exact ih1 _ _ _ _ _ _
   | exact ih2 _ _ _ _ _ _ _ _ _ _ _
   | exact ih3 _ _ _ _ _ _ _ _ _ _ _
   | exact LeO.none _
   | refine LeO.ite ?_ ?_
   | refine LeO.bind ?_ (fun _ => ?_)
  ·intro y0 y1 y2 y3 y4 y5 y6 y7 y8 y9 y10
   unfold tenementlaw22_writes.l1
   repeat' first
   | (with_reducible exact ih0 _ _ _ _ _)
   | (with_reducible exact ih1 _ _ _ _ _ _)
   | (with_reducible exact ih2 _ _ _ _ _ _ _ _ _ _ _)
   | (with_reducible exact ih3 _ _ _ _ _ _ _ _ _ _ _)
   | (with_reducible exact LeO.refl _)
   | (with_reducible exact LeO.none _)
   | (with_reducible refine LeO.ite ?_ ?_)
   | (with_reducible refine LeO.bind ?_ (fun _ => ?_))
   | exact ih0 _ _ _ _ _
   | exact ih1 _ _ _ _ _ _
   | exact ih2 _ _ _ _ _ _ _ _ _ _ _
   | exact ih3 _ _ _ _ _ _ _ _ _ _ _
   | exact LeO.none _
   | refine LeO.ite ?_ ?_
   | refine LeO.bind ?_ (fun _ => ?_)
theorem tenementlaw22_writes.mono : ∀ a0 a1 a2 k, LeO (tenementlaw22_writes.f k a0 a1 a2) (tenementlaw22_writes.f (k + 1) a0 a1 a2) := by
 intro a0 a1 a2 k
 obtain ⟨ih0, ih1, ih2, ih3⟩ := tenementlaw22_writes.mono_l k
 unfold tenementlaw22_writes.f
 repeat' first
   | (with_reducible exact ih0 _ _ _ _ _)
   | (with_reducible exact ih1 _ _ _ _ _ _)
   | (with_reducible exact ih2 _ _ _ _ _ _ _ _ _ _ _)
   | (with_reducible exact ih3 _ _ _ _ _ _ _ _ _ _ _)
   | (with_reducible exact LeO.refl _)
   | (with_reducible exact LeO.none _)
   | (with_reducible refine LeO.ite ?_ ?_)
   | (with_reducible refine LeO.bind ?_ (fun _ => ?_))
   | exact ih0 _ _ _ _ _
   | exact ih1 _ _ _ _ _ _
   | exact ih2 _ _ _ _ _ _ _ _ _ _ _
   | exact ih3 _ _ _ _ _ _ _ _ _ _ _
   | exact LeO.none _
   | refine LeO.ite ?_ ?_
   | refine LeO.bind ?_ (fun _ => ?_)
set_option maxHeartbeats 8000000 in
set_option maxRecDepth 100000 in
theorem tenementlaw22_writes.calls (k : Nat) (A0 : Option Addr) (c0 : Nat) (l0 : List (S26)) (a1 : Int) (a2 : Bool) (r : List (S24)) (w : World) (hr0 : Kd.C k26 w A0 l0.length l0) (hc0 : l0.length ≤ c0) (h : tenementlaw22_writes.f k l0 a1 a2 = some r) :
  Calls Try.prog 52 #[.slice A0 l0.length c0, .int .i64 a1, .bool a2] w fun e w' => ∃ v0_ : Value, e = .returned (v0_) ∧ Kd.R k24 24 w' w.heap.size (fun _ => True) v0_ r ∧ Below w.heap.size w w' := by
 have hu26 := Try.underlying26
 have hu24 := Try.underlying24
 have HR0 := Aside0.mk hr0
 have HC0 := Aside0.mk hc0
 clear hr0 hc0
 have HB := Aside0.mk (Below.refl w.heap.size w)
 have H : (tenementlaw22_writes.l0 k l0 a1 a2 ([] : List (S24)) 0) = some r := h
 clear h
 have H' := Aside0.mk H
 clear H
 go_enter Try.func52, Try.ntmps52
 go_wp2
 repeat (go_quiet (fail); try go_wp2)
 go_loopg [7, 8] k (fun kq v7 v8 w' => ∃ (x7_1 : List (S24)) (x8_1 : Int), v8 = .int .i64 x8_1 ∧ Aside0 (tenementlaw22_writes.l0 kq l0 a1 a2 x7_1 x8_1 = some r) ∧ Aside0 (kq ≤ k) ∧ Aside0 (Kd.R k24 24 w' w.heap.size (fun _ => True) v7 x7_1) ∧ Aside0 (Below w.heap.size w w'))
 case atStart => exact ⟨(([] : List (S24))), (0), (by first | rfl | (simp; done) | (simp [*]; done)), H', ⟨Nat.le_refl _⟩, ⟨by first | exact Kd.R_nil _ _ _ _ _ | exact Kd.N_nil _ _ _ _ _ | exact Kd.V_nil _ _ _ _ _ | exact Kd.Q_nil _ _ _ _ _ | exact Kd.S_nil _ _ _ _ _⟩, ⟨Ky_ HB⟩⟩
 case round =>
  clear H'
  try clear p2
  obtain ⟨x7_1, x8_1, rfl, HA, HK1, HO_7, HB⟩ := hrel
  cases gk with
  | zero => exact absurd HA.out (by simp [tenementlaw22_writes.l0])
  | succ k1 =>
   have H := HA.out
   clear HA
   simp only [tenementlaw22_writes.l0] at H
   have HC4 := Aside0.mk H
   clear H
   go_upto_region 3 with (fail)
   repeat (go_quiet (fail); go_upto_region 3 with (fail))
   go_cut [22] (fun v22 wc => ∃ (kq : Nat) (x22_3 : Bool), v22 = .bool x22_3 ∧ Aside0 (tenementlaw22_writes.j1 kq l0 a1 a2 x7_1 x8_1 x22_3 = some r) ∧ Aside0 (kq ≤ k1) ∧ Aside0 (Kd.R k24 24 wc w.heap.size (fun _ => True) u7 x7_1) ∧ Aside0 (Below w.heap.size w wc))
   case first =>
    have H := HC4.out
    clear HC4
    by_cases c5 : x8_1 < (l0.length : Int)
    rotate_left
    ·rw [if_neg c5] at H
     have c5b0 : decide (x8_1 < (l0.length : Int)) = false := decide_eq_false c5
     clear c5
     (first | rw [c5b0] | (simp only [i64_w, i32_w]; rw [c5b0]) | skip)
     have H' := Aside0.mk H
     clear H
     go_wp2
     repeat (go_quiet (fail); try go_wp2)
     go_meet
     case rel => exact ⟨_, (false), (by first | rfl | (simp; done) | (simp [*]; done)), H', ⟨by have := HK1.out; first | omega | exact Nat.le_refl _⟩, ⟨by (with_reducible repeat (first | apply Kd.R_alloc | apply Kd.R_drewN | apply Kd.R_drew)); exact HO_7.out⟩, ⟨Ky_ HB⟩⟩
    rw [if_pos c5] at H
    have c5b0 : decide (x8_1 < (l0.length : Int)) = true := decide_eq_true c5
    clear c5
    (first | rw [c5b0] | (simp only [i64_w, i32_w]; rw [c5b0]) | skip)
    have H' := Aside0.mk H
    clear H
    obtain ⟨Ao6, co6, eo6⟩ := Kd.R_slice HO_7.out
    subst eo6
    go_wp2
    repeat (go_quiet (fail); try go_wp2)
    go_meet
    case rel => exact ⟨_, (decide ((x7_1.length : Int) < a1)), (by first | rfl | (simp; done) | (simp [*]; done)), H', ⟨by have := HK1.out; first | omega | exact Nat.le_refl _⟩, ⟨by (with_reducible repeat (first | apply Kd.R_alloc | apply Kd.R_drewN | apply Kd.R_drew)); exact HO_7.out⟩, ⟨Ky_ HB⟩⟩
   case rest =>
    clear HC4
    try clear p2
    try clear c5
    try clear c5b0
    try clear p2
    obtain ⟨kq, x22_3, rfl, HA, HJ3, HO_7, HB⟩ := hcut
    cases kq with
    | zero => exact absurd HA.out (by simp [tenementlaw22_writes.j1])
    | succ kj3 =>
     have H := HA.out
     clear HA
     simp only [tenementlaw22_writes.j1] at H
     by_cases c7 : x22_3 = true
     rotate_left
     ·replace c7 := Bool.eq_false_iff.mpr c7
      subst c7
      have H1 : (some x7_1) = some r := by rw [if_neg (show ¬ (false = true) by decide)] at H; exact H
      clear H
      have H := H1
      clear H1
      obtain rfl := Option.some.inj H
      go_wp2
      repeat (go_quiet (fail); try go_wp2)
      go_ret
      exact ⟨_, by first | rfl | (simp [errW_none, errW_some] <;> rfl) | (simp [*, errW_none, errW_some] <;> rfl), by (with_reducible repeat (first | apply Kd.R_alloc | apply Kd.R_drewN | apply Kd.R_drew)); exact HO_7.out, Ky_ HB⟩
     subst c7
     have H1 : (if 0 ≤ x8_1 then (if x8_1 < (l0.length : Int) then (if a2 = true then (tenementlaw22_writes.j2 kj3 l0 a1 a2 x7_1 x8_1 ((rd_T26 l0 x8_1).f0.f0) ((rd_T26 l0 x8_1).f0.f1) ((rd_T26 l0 x8_1).f0.f2) ((rd_T26 l0 x8_1).f0.f3) true ((rd_T26 l0 x8_1).f2)) else (tenementlaw22_writes.j2 kj3 l0 a1 a2 x7_1 x8_1 ((rd_T26 l0 x8_1).f0.f0) ((rd_T26 l0 x8_1).f0.f1) ((rd_T26 l0 x8_1).f0.f2) ((rd_T26 l0 x8_1).f0.f3) ((rd_T26 l0 x8_1).f1) ((rd_T26 l0 x8_1).f2))) else (none)) else (none)) = some r := by rw [if_pos rfl] at H; exact H
     clear H
     have H := H1
     clear H1
     by_cases c8 : 0 ≤ x8_1
     rotate_left
     ·rw [if_neg c8] at H
      exact absurd H (by simp)
     rw [if_pos c8] at H
     have c8b0 : decide (0 ≤ x8_1) = true := decide_eq_true c8
     clear c8
     by_cases c9 : x8_1 < (l0.length : Int)
     rotate_left
     ·rw [if_neg c9] at H
      exact absurd H (by simp)
     rw [if_pos c9] at H
     have c9b0 : decide (x8_1 < (l0.length : Int)) = true := decide_eq_true c9
     clear c9
     have HC10 := Aside0.mk H
     clear H
     have p122 : 0 ≤ (x8_1 : Int) := of_decide_eq_true (by first | (with_reducible assumption) | assumption)
     have q122 : x8_1 < (l0.length : Int) := of_decide_eq_true (by first | (with_reducible assumption) | assumption)
     obtain ⟨ad122, e122, hx122_0, hx122_1, hx122_2, hx122_3, hx122_4, hx122_5⟩ := at_T26 HR0.out x8_1 p122 q122
     cases e122
     replace hx122_0 := (HB.out.cell (World.block_lt_of_cell? w _ hx122_0)).trans hx122_0
     replace hx122_1 := (HB.out.cell (World.block_lt_of_cell? w _ hx122_1)).trans hx122_1
     replace hx122_2 := (HB.out.cell (World.block_lt_of_cell? w _ hx122_2)).trans hx122_2
     replace hx122_3 := (HB.out.cell (World.block_lt_of_cell? w _ hx122_3)).trans hx122_3
     replace hx122_4 := (HB.out.cell (World.block_lt_of_cell? w _ hx122_4)).trans hx122_4
     replace hx122_5 := (HB.out.cell (World.block_lt_of_cell? w _ hx122_5)).trans hx122_5
     replace p122 := eq_true p122
     replace q122 := eq_true q122
     go_upto_if 29 with (first | ((with_reducible refine gate_dst (N := 9) rfl ?_); refine Ka_ 9 #[.string (⟨#[]⟩ : ByteArray), .string (⟨#[]⟩ : ByteArray), .string (⟨#[]⟩ : ByteArray), .bool false, .bool false, .int .u8 0] 26 ?_; intro gb123 hg w11 hbox hb; have BK123 := Aside0.mk (hbox); have GW123 := Kw_ HB hg; have GE123 := GW123; replace HO_7 := Aside0.mk (Kd.R_below (Ku_ HO_7) hb); replace HB := Ks_ HB hb; clear hb hbox hg; obtain ⟨hcz12_0, hcz12_1, hcz12_2, hcz12_3, hcz12_4, hcz12_5, hfz12_0, hfz12_1, hfz12_2, hfz12_3, hfz12_4, hfz12_5⟩ := Ke6_ BK123.out))
     repeat (go_quiet (first | ((with_reducible refine gate_dst (N := 9) rfl ?_); refine Ka_ 9 #[.string (⟨#[]⟩ : ByteArray), .string (⟨#[]⟩ : ByteArray), .string (⟨#[]⟩ : ByteArray), .bool false, .bool false, .int .u8 0] 26 ?_; intro gb123 hg w11 hbox hb; have BK123 := Aside0.mk (hbox); have GW123 := Kw_ HB hg; have GE123 := GW123; replace HO_7 := Aside0.mk (Kd.R_below (Ku_ HO_7) hb); replace HB := Ks_ HB hb; clear hb hbox hg; obtain ⟨hcz12_0, hcz12_1, hcz12_2, hcz12_3, hcz12_4, hcz12_5, hfz12_0, hfz12_1, hfz12_2, hfz12_3, hfz12_4, hfz12_5⟩ := Ke6_ BK123.out)); go_upto_if 29 with (first | ((with_reducible refine gate_dst (N := 9) rfl ?_); refine Ka_ 9 #[.string (⟨#[]⟩ : ByteArray), .string (⟨#[]⟩ : ByteArray), .string (⟨#[]⟩ : ByteArray), .bool false, .bool false, .int .u8 0] 26 ?_; intro gb123 hg w11 hbox hb; have BK123 := Aside0.mk (hbox); have GW123 := Kw_ HB hg; have GE123 := GW123; replace HO_7 := Aside0.mk (Kd.R_below (Ku_ HO_7) hb); replace HB := Ks_ HB hb; clear hb hbox hg; obtain ⟨hcz12_0, hcz12_1, hcz12_2, hcz12_3, hcz12_4, hcz12_5, hfz12_0, hfz12_1, hfz12_2, hfz12_3, hfz12_4, hfz12_5⟩ := Ke6_ BK123.out)))
     (try simp only [Act.put, List.setIfInBounds_toArray, List.set_cons_zero, List.set_cons_succ])
     go_cut [] (fun wc => ∃ (kq : Nat) (x104_9 : Bool), Aside0 (tenementlaw22_writes.j2 kq l0 a1 a2 x7_1 x8_1 ((rd_T26 l0 x8_1).f0.f0) ((rd_T26 l0 x8_1).f0.f1) ((rd_T26 l0 x8_1).f0.f2) ((rd_T26 l0 x8_1).f0.f3) x104_9 ((rd_T26 l0 x8_1).f2) = some r) ∧ Aside0 (kq ≤ kj3) ∧ Aside0 (Kd.R k24 24 wc w.heap.size (fun _ => True) u7 x7_1) ∧ Aside0 (wc.heap[gb123]? = some (.cells #[.string ((rd_T26 l0 x8_1).f0.f0), .string ((rd_T26 l0 x8_1).f0.f1), .string ((rd_T26 l0 x8_1).f0.f2), .bool ((rd_T26 l0 x8_1).f0.f3), .bool x104_9, .int .u8 ((rd_T26 l0 x8_1).f2)] 26 (0, 0))) ∧ Aside0 (Below w.heap.size w wc))
     case first =>
      have H := HC10.out
      clear HC10
      by_cases c13 : a2 = true
      rotate_left
      ·replace c13 := Bool.eq_false_iff.mpr c13
       subst c13
       have H1 : (tenementlaw22_writes.j2 kj3 l0 a1 false x7_1 x8_1 ((rd_T26 l0 x8_1).f0.f0) ((rd_T26 l0 x8_1).f0.f1) ((rd_T26 l0 x8_1).f0.f2) ((rd_T26 l0 x8_1).f0.f3) ((rd_T26 l0 x8_1).f1) ((rd_T26 l0 x8_1).f2)) = some r := by rw [if_neg (show ¬ (false = true) by decide)] at H; exact H
       clear H
       have H := H1
       clear H1
       have H' := Aside0.mk H
       clear H
       go_wp2
       repeat (go_quiet (fail); try go_wp2)
       go_meet
       case rel => exact ⟨_, ((rd_T26 l0 x8_1).f1), H', ⟨by have := HK1.out; have := HJ3.out; first | omega | exact Nat.le_refl _⟩, ⟨by (with_reducible repeat (first | apply Kd.R_alloc | apply Kd.R_drewN | apply Kd.R_drew)); exact Kd.R_mono (Kd.R_far (p := ⟨gb123, 5, none⟩) (Kd.R_far (p := ⟨gb123, 4, none⟩) (Kd.R_far (p := ⟨gb123, 3, none⟩) (Kd.R_far (p := ⟨gb123, 2, none⟩) (Kd.R_far (p := ⟨gb123, 1, none⟩) (Kd.R_far (p := ⟨gb123, 0, none⟩) (Kd.R_types HO_7.out BK123.out (by decide)) (fun _ hk => hk.2) (.string ((rd_T26 l0 x8_1).f0.f0))) (fun _ hk => hk.2) (.string ((rd_T26 l0 x8_1).f0.f1))) (fun _ hk => hk.2) (.string ((rd_T26 l0 x8_1).f0.f2))) (fun _ hk => hk.2) (.bool ((rd_T26 l0 x8_1).f0.f3))) (fun _ hk => hk.2) (.bool ((rd_T26 l0 x8_1).f1))) (fun _ hk => hk.2) (.int .u8 ((rd_T26 l0 x8_1).f2))) (fun _ hk => trivial)⟩, ⟨by refine Kv_ ?_; refine blk_put (cs := #[.string ((rd_T26 l0 x8_1).f0.f0), .string ((rd_T26 l0 x8_1).f0.f1), .string ((rd_T26 l0 x8_1).f0.f2), .bool ((rd_T26 l0 x8_1).f0.f3), .bool ((rd_T26 l0 x8_1).f1), .int .u8 0]) ?_ 5 _ rfl; refine Kv_ ?_; refine blk_put (cs := #[.string ((rd_T26 l0 x8_1).f0.f0), .string ((rd_T26 l0 x8_1).f0.f1), .string ((rd_T26 l0 x8_1).f0.f2), .bool ((rd_T26 l0 x8_1).f0.f3), .bool false, .int .u8 0]) ?_ 4 _ rfl; refine Kv_ ?_; refine blk_put (cs := #[.string ((rd_T26 l0 x8_1).f0.f0), .string ((rd_T26 l0 x8_1).f0.f1), .string ((rd_T26 l0 x8_1).f0.f2), .bool false, .bool false, .int .u8 0]) ?_ 3 _ rfl; refine Kv_ ?_; refine blk_put (cs := #[.string ((rd_T26 l0 x8_1).f0.f0), .string ((rd_T26 l0 x8_1).f0.f1), .string (⟨#[]⟩ : ByteArray), .bool false, .bool false, .int .u8 0]) ?_ 2 _ rfl; refine Kv_ ?_; refine blk_put (cs := #[.string ((rd_T26 l0 x8_1).f0.f0), .string (⟨#[]⟩ : ByteArray), .string (⟨#[]⟩ : ByteArray), .bool false, .bool false, .int .u8 0]) ?_ 1 _ rfl; refine Kv_ ?_; refine blk_put (cs := #[.string (⟨#[]⟩ : ByteArray), .string (⟨#[]⟩ : ByteArray), .string (⟨#[]⟩ : ByteArray), .bool false, .bool false, .int .u8 0]) ?_ 0 _ rfl; exact Kq_ BK123⟩, ⟨Kz_ HB GE123⟩⟩
      subst c13
      have H1 : (tenementlaw22_writes.j2 kj3 l0 a1 true x7_1 x8_1 ((rd_T26 l0 x8_1).f0.f0) ((rd_T26 l0 x8_1).f0.f1) ((rd_T26 l0 x8_1).f0.f2) ((rd_T26 l0 x8_1).f0.f3) true ((rd_T26 l0 x8_1).f2)) = some r := by rw [if_pos rfl] at H; exact H
      clear H
      have H := H1
      clear H1
      have H' := Aside0.mk H
      clear H
      obtain ⟨hcz14_0, hcz14_1, hcz14_2, hcz14_3, hcz14_4, hcz14_5, hfz14_0, hfz14_1, hfz14_2, hfz14_3, hfz14_4, hfz14_5⟩ := Ke6_ BK123.out
      go_wp2
      repeat (go_quiet (fail); try go_wp2)
      go_meet
      case rel => exact ⟨_, (true), H', ⟨by have := HK1.out; have := HJ3.out; first | omega | exact Nat.le_refl _⟩, ⟨by (with_reducible repeat (first | apply Kd.R_alloc | apply Kd.R_drewN | apply Kd.R_drew)); exact Kd.R_mono (Kd.R_far (p := ⟨gb123, 4, none⟩) (Kd.R_far (p := ⟨gb123, 5, none⟩) (Kd.R_far (p := ⟨gb123, 4, none⟩) (Kd.R_far (p := ⟨gb123, 3, none⟩) (Kd.R_far (p := ⟨gb123, 2, none⟩) (Kd.R_far (p := ⟨gb123, 1, none⟩) (Kd.R_far (p := ⟨gb123, 0, none⟩) (Kd.R_types HO_7.out BK123.out (by decide)) (fun _ hk => hk.2) (.string ((rd_T26 l0 x8_1).f0.f0))) (fun _ hk => hk.2) (.string ((rd_T26 l0 x8_1).f0.f1))) (fun _ hk => hk.2) (.string ((rd_T26 l0 x8_1).f0.f2))) (fun _ hk => hk.2) (.bool ((rd_T26 l0 x8_1).f0.f3))) (fun _ hk => hk.2) (.bool ((rd_T26 l0 x8_1).f1))) (fun _ hk => hk.2) (.int .u8 ((rd_T26 l0 x8_1).f2))) (fun _ hk => hk.2) (.bool true)) (fun _ hk => trivial)⟩, ⟨by refine Kv_ ?_; refine blk_put (cs := #[.string ((rd_T26 l0 x8_1).f0.f0), .string ((rd_T26 l0 x8_1).f0.f1), .string ((rd_T26 l0 x8_1).f0.f2), .bool ((rd_T26 l0 x8_1).f0.f3), .bool ((rd_T26 l0 x8_1).f1), .int .u8 ((rd_T26 l0 x8_1).f2)]) ?_ 4 _ rfl; refine Kv_ ?_; refine blk_put (cs := #[.string ((rd_T26 l0 x8_1).f0.f0), .string ((rd_T26 l0 x8_1).f0.f1), .string ((rd_T26 l0 x8_1).f0.f2), .bool ((rd_T26 l0 x8_1).f0.f3), .bool ((rd_T26 l0 x8_1).f1), .int .u8 0]) ?_ 5 _ rfl; refine Kv_ ?_; refine blk_put (cs := #[.string ((rd_T26 l0 x8_1).f0.f0), .string ((rd_T26 l0 x8_1).f0.f1), .string ((rd_T26 l0 x8_1).f0.f2), .bool ((rd_T26 l0 x8_1).f0.f3), .bool false, .int .u8 0]) ?_ 4 _ rfl; refine Kv_ ?_; refine blk_put (cs := #[.string ((rd_T26 l0 x8_1).f0.f0), .string ((rd_T26 l0 x8_1).f0.f1), .string ((rd_T26 l0 x8_1).f0.f2), .bool false, .bool false, .int .u8 0]) ?_ 3 _ rfl; refine Kv_ ?_; refine blk_put (cs := #[.string ((rd_T26 l0 x8_1).f0.f0), .string ((rd_T26 l0 x8_1).f0.f1), .string (⟨#[]⟩ : ByteArray), .bool false, .bool false, .int .u8 0]) ?_ 2 _ rfl; refine Kv_ ?_; refine blk_put (cs := #[.string ((rd_T26 l0 x8_1).f0.f0), .string (⟨#[]⟩ : ByteArray), .string (⟨#[]⟩ : ByteArray), .bool false, .bool false, .int .u8 0]) ?_ 1 _ rfl; refine Kv_ ?_; refine blk_put (cs := #[.string (⟨#[]⟩ : ByteArray), .string (⟨#[]⟩ : ByteArray), .string (⟨#[]⟩ : ByteArray), .bool false, .bool false, .int .u8 0]) ?_ 0 _ rfl; exact Kq_ BK123⟩, ⟨Kz_ HB GE123⟩⟩
     case rest =>
      clear HC10
      try clear c1
      try clear p1
      try clear q1
      try clear hx1
      try clear p2
      try clear c5
      try clear c5b0
      try clear c7
      try clear c8
      try clear c8b0
      try clear c9
      try clear c9b0
      try clear p12
      try clear q12
      try clear hx12
      try clear c13
      try clear hcz12_0
      try clear hcz12_1
      try clear hcz12_2
      try clear hcz12_3
      try clear hcz12_4
      try clear hcz12_5
      try clear hcz14_0
      try clear hcz14_1
      try clear hcz14_2
      try clear hcz14_3
      try clear hcz14_4
      try clear hcz14_5
      try clear hfz12_0
      try clear hfz12_1
      try clear hfz12_2
      try clear hfz12_3
      try clear hfz12_4
      try clear hfz12_5
      try clear hfz14_0
      try clear hfz14_1
      try clear hfz14_2
      try clear hfz14_3
      try clear hfz14_4
      try clear hfz14_5
      try clear hx122_0
      try clear hx122_1
      try clear hx122_2
      try clear hx122_3
      try clear hx122_4
      try clear hx122_5
      try clear p122
      try clear p2
      try clear q122
      obtain ⟨kq, x104_9, HA, HJ9, HO_7, BK123, HB⟩ := hcut
      cases kq with
      | zero => exact absurd HA.out (by simp [tenementlaw22_writes.j2])
      | succ kj9 =>
       have H := HA.out
       clear HA
       simp only [tenementlaw22_writes.j2] at H
       replace H := Option.bind_eq_some_iff.mp H
       obtain ⟨⟨t124, t125, t126, t127⟩, A150, H⟩ := H
       replace H : (tenementlaw22_writes.l1 kj9 l0 a1 a2 x7_1 x8_1 false 0 t124 t125 t126 t127) = some r := H
       have A15 := Aside0.mk A150
       clear A150
       have H' := Aside0.mk H
       clear H
       obtain ⟨hcz16_0, hcz16_1, hcz16_2, hcz16_3, hcz16_4, hcz16_5, hfz16_0, hfz16_1, hfz16_2, hfz16_3, hfz16_4, hfz16_5⟩ := Ke6_ BK123.out
       go_wp2_with (first | (go_at_call 12; (with_reducible refine (tenementlaw22_Put_write.calls ((rd_T26 l0 x8_1).f0.f0) ((rd_T26 l0 x8_1).f0.f1) ((rd_T26 l0 x8_1).f0.f2) ((rd_T26 l0 x8_1).f0.f3) x104_9 ((rd_T26 l0 x8_1).f2) t124 t125 t126 t127 _ A15.out).mono ?_); rintro e w17 ⟨rfl, hb⟩; replace HO_7 := Aside0.mk (Kd.R_below (Ku_ HO_7) hb); replace BK123 := Kb_ BK123 hb; replace HB := Ks_ HB hb; (try clear hb); (try clear hb2); (try clear hk); (try clear hi)) | ((with_reducible refine gate_dst (N := 10) rfl ?_); refine Ka_ 10 #[.string (⟨#[]⟩ : ByteArray), .string (⟨#[]⟩ : ByteArray), .string (⟨#[]⟩ : ByteArray), .bool false] 24 ?_; intro gb128 hg w18 hbox hb; have BK128 := Aside0.mk (hbox); have GW128 := Kw_ HB hg; have GE128 := GW128; have NB123_128 := Kl_ BK123 hg; have NB128_123 := Kr_ BK123 hg; replace HO_7 := Aside0.mk (Kd.R_below (Kd.R_elderB (Ku_ HO_7) gb128 (Nat.le_of_eq hg.symm)) hb); replace BK123 := Kb_ BK123 hb; replace HB := Ks_ HB hb; clear hb hbox hg; have hnb19 := NB128_123.out; have hnc19 := NB123_128.out; obtain ⟨hcz20_0, hcz20_1, hcz20_2, hcz20_3, hfz20_0, hfz20_1, hfz20_2, hfz20_3⟩ := Ke4_ BK128.out))
       repeat (go_quiet (first | (go_at_call 12; (with_reducible refine (tenementlaw22_Put_write.calls ((rd_T26 l0 x8_1).f0.f0) ((rd_T26 l0 x8_1).f0.f1) ((rd_T26 l0 x8_1).f0.f2) ((rd_T26 l0 x8_1).f0.f3) x104_9 ((rd_T26 l0 x8_1).f2) t124 t125 t126 t127 _ A15.out).mono ?_); rintro e w17 ⟨rfl, hb⟩; replace HO_7 := Aside0.mk (Kd.R_below (Ku_ HO_7) hb); replace BK123 := Kb_ BK123 hb; replace HB := Ks_ HB hb; (try clear hb); (try clear hb2); (try clear hk); (try clear hi)) | ((with_reducible refine gate_dst (N := 10) rfl ?_); refine Ka_ 10 #[.string (⟨#[]⟩ : ByteArray), .string (⟨#[]⟩ : ByteArray), .string (⟨#[]⟩ : ByteArray), .bool false] 24 ?_; intro gb128 hg w18 hbox hb; have BK128 := Aside0.mk (hbox); have GW128 := Kw_ HB hg; have GE128 := GW128; have NB123_128 := Kl_ BK123 hg; have NB128_123 := Kr_ BK123 hg; replace HO_7 := Aside0.mk (Kd.R_below (Kd.R_elderB (Ku_ HO_7) gb128 (Nat.le_of_eq hg.symm)) hb); replace BK123 := Kb_ BK123 hb; replace HB := Ks_ HB hb; clear hb hbox hg; have hnb19 := NB128_123.out; have hnc19 := NB123_128.out; obtain ⟨hcz20_0, hcz20_1, hcz20_2, hcz20_3, hfz20_0, hfz20_1, hfz20_2, hfz20_3⟩ := Ke4_ BK128.out)); try go_wp2_with (first | (go_at_call 12; (with_reducible refine (tenementlaw22_Put_write.calls ((rd_T26 l0 x8_1).f0.f0) ((rd_T26 l0 x8_1).f0.f1) ((rd_T26 l0 x8_1).f0.f2) ((rd_T26 l0 x8_1).f0.f3) x104_9 ((rd_T26 l0 x8_1).f2) t124 t125 t126 t127 _ A15.out).mono ?_); rintro e w17 ⟨rfl, hb⟩; replace HO_7 := Aside0.mk (Kd.R_below (Ku_ HO_7) hb); replace BK123 := Kb_ BK123 hb; replace HB := Ks_ HB hb; (try clear hb); (try clear hb2); (try clear hk); (try clear hi)) | ((with_reducible refine gate_dst (N := 10) rfl ?_); refine Ka_ 10 #[.string (⟨#[]⟩ : ByteArray), .string (⟨#[]⟩ : ByteArray), .string (⟨#[]⟩ : ByteArray), .bool false] 24 ?_; intro gb128 hg w18 hbox hb; have BK128 := Aside0.mk (hbox); have GW128 := Kw_ HB hg; have GE128 := GW128; have NB123_128 := Kl_ BK123 hg; have NB128_123 := Kr_ BK123 hg; replace HO_7 := Aside0.mk (Kd.R_below (Kd.R_elderB (Ku_ HO_7) gb128 (Nat.le_of_eq hg.symm)) hb); replace BK123 := Kb_ BK123 hb; replace HB := Ks_ HB hb; clear hb hbox hg; have hnb19 := NB128_123.out; have hnc19 := NB123_128.out; obtain ⟨hcz20_0, hcz20_1, hcz20_2, hcz20_3, hfz20_0, hfz20_1, hfz20_2, hfz20_3⟩ := Ke4_ BK128.out)))
       go_loopg [11, 12] kj9 (fun kq v11 v12 w' => ∃ (x11_4 : Bool) (x12_4 : Int), v11 = .bool x11_4 ∧ v12 = .int .i64 x12_4 ∧ Aside0 (tenementlaw22_writes.l1 kq l0 a1 a2 x7_1 x8_1 x11_4 x12_4 t124 t125 t126 t127 = some r) ∧ Aside0 (kq ≤ kj9) ∧ Aside0 (Kd.R k24 24 w' w.heap.size (fun k_ => k_ ≠ gb128) u7 x7_1) ∧ Aside0 (w'.heap[gb123]? = some (.cells #[.string ((rd_T26 l0 x8_1).f0.f0), .string ((rd_T26 l0 x8_1).f0.f1), .string ((rd_T26 l0 x8_1).f0.f2), .bool ((rd_T26 l0 x8_1).f0.f3), .bool x104_9, .int .u8 ((rd_T26 l0 x8_1).f2)] 26 (0, 0))) ∧ Aside0 (w'.heap[gb128]? = some (.cells #[.string t124, .string t125, .string t126, .bool t127] 24 (0, 0))) ∧ Aside0 (Below w.heap.size w w'))
       case atStart => exact ⟨(false), (0), (by first | rfl | (simp; done) | (simp [*]; done)), (by first | rfl | (simp; done) | (simp [*]; done)), H', ⟨Nat.le_refl _⟩, ⟨by (with_reducible repeat (first | apply Kd.R_alloc | apply Kd.R_drewN | apply Kd.R_drew)); exact Kd.R_mono (Kd.R_far (p := ⟨gb128, 3, none⟩) (Kd.R_far (p := ⟨gb128, 2, none⟩) (Kd.R_far (p := ⟨gb128, 1, none⟩) (Kd.R_far (p := ⟨gb128, 0, none⟩) (Kd.R_mono HO_7.out (fun k_ hk => (⟨hk, hk.2⟩ : _ ∧ k_ ≠ gb128))) (fun _ hk => hk.2) (.string t124)) (fun _ hk => hk.2) (.string t125)) (fun _ hk => hk.2) (.string t126)) (fun _ hk => hk.2) (.bool t127)) (fun _ hk => hk.1.2)⟩, ⟨by exact K1b_ BK123 NB123_128⟩, ⟨by refine Kv_ ?_; refine blk_put (cs := #[.string t124, .string t125, .string t126, .bool false]) ?_ 3 _ rfl; refine Kv_ ?_; refine blk_put (cs := #[.string t124, .string t125, .string (⟨#[]⟩ : ByteArray), .bool false]) ?_ 2 _ rfl; refine Kv_ ?_; refine blk_put (cs := #[.string t124, .string (⟨#[]⟩ : ByteArray), .string (⟨#[]⟩ : ByteArray), .bool false]) ?_ 1 _ rfl; refine Kv_ ?_; refine blk_put (cs := #[.string (⟨#[]⟩ : ByteArray), .string (⟨#[]⟩ : ByteArray), .string (⟨#[]⟩ : ByteArray), .bool false]) ?_ 0 _ rfl; exact Kq_ BK128⟩, ⟨K2a_ HB GE123 GE128⟩⟩
       case round =>
        clear H'
        try clear c1
        try clear p1
        try clear q1
        try clear hx1
        try clear p2
        try clear c5
        try clear c5b0
        try clear c7
        try clear c8
        try clear c8b0
        try clear c9
        try clear c9b0
        try clear p12
        try clear q12
        try clear hx12
        try clear c13
        try clear c19
        try clear hcz12_0
        try clear hcz12_1
        try clear hcz12_2
        try clear hcz12_3
        try clear hcz12_4
        try clear hcz12_5
        try clear hcz14_0
        try clear hcz14_1
        try clear hcz14_2
        try clear hcz14_3
        try clear hcz14_4
        try clear hcz14_5
        try clear hcz16_0
        try clear hcz16_1
        try clear hcz16_2
        try clear hcz16_3
        try clear hcz16_4
        try clear hcz16_5
        try clear hcz20_0
        try clear hcz20_1
        try clear hcz20_2
        try clear hcz20_3
        try clear hfz12_0
        try clear hfz12_1
        try clear hfz12_2
        try clear hfz12_3
        try clear hfz12_4
        try clear hfz12_5
        try clear hfz14_0
        try clear hfz14_1
        try clear hfz14_2
        try clear hfz14_3
        try clear hfz14_4
        try clear hfz14_5
        try clear hfz16_0
        try clear hfz16_1
        try clear hfz16_2
        try clear hfz16_3
        try clear hfz16_4
        try clear hfz16_5
        try clear hfz20_0
        try clear hfz20_1
        try clear hfz20_2
        try clear hfz20_3
        try clear hx122_0
        try clear hx122_1
        try clear hx122_2
        try clear hx122_3
        try clear hx122_4
        try clear hx122_5
        try clear p1
        try clear p12
        try clear p122
        try clear p2
        try clear q1
        try clear q12
        try clear q122
        obtain ⟨x11_4, x12_4, rfl, rfl, HA, HK4, HO_7, BK123, BK128, HB⟩ := hrel
        cases gk with
        | zero => exact absurd HA.out (by simp [tenementlaw22_writes.l1])
        | succ k4 =>
         have H := HA.out
         clear HA
         simp only [tenementlaw22_writes.l1] at H
         by_cases c21 : x12_4 < (x7_1.length : Int)
         ·rw [if_pos c21] at H
          have c21b0 : decide (x12_4 < (x7_1.length : Int)) = true := decide_eq_true c21
          clear c21
          by_cases c22 : x11_4 = true
          ·subst c22
           have H1 : (tenementlaw22_writes.l1 k4 l0 a1 a2 x7_1 x8_1 true (wrap64 (x12_4 + 1)) t124 t125 t126 t127) = some r := by rw [if_pos rfl] at H; exact H
           clear H
           have H := H1
           clear H1
           have H' := Aside0.mk H
           clear H
           obtain ⟨Ao23, co23, eo23⟩ := Kd.R_slice HO_7.out
           subst eo23
           go_wp2
           repeat (go_quiet (fail); try go_wp2)
           go_roundg k4
           case measure => have := HK1.out; have := HJ3.out; have := HJ9.out; have := HK4.out; omega
           case rel => exact ⟨(true), (wrap64 (x12_4 + 1)), (by first | rfl | (simp; done) | (simp [*]; done)), (by first | rfl | (simp; done) | (simp [*]; done)), H', ⟨by have := HK1.out; have := HJ3.out; have := HJ9.out; have := HK4.out; omega⟩, ⟨by (with_reducible repeat (first | apply Kd.R_alloc | apply Kd.R_drewN | apply Kd.R_drew)); exact HO_7.out⟩, ⟨by exact Kq_ BK123⟩, ⟨by exact Kq_ BK128⟩, ⟨K2a_ HB GE123 GE128⟩⟩
          replace c22 := Bool.eq_false_iff.mpr c22
          subst c22
          have H1 : (if 0 ≤ x12_4 then (if ((rd_T24 x7_1 x12_4).f0).toList = t124.toList then (tenementlaw22_writes.l1 k4 l0 a1 a2 x7_1 x8_1 (((rd_T24 x7_1 x12_4).f1).toList == t125.toList) (wrap64 (x12_4 + 1)) t124 t125 t126 t127) else (tenementlaw22_writes.l1 k4 l0 a1 a2 x7_1 x8_1 false (wrap64 (x12_4 + 1)) t124 t125 t126 t127)) else (none)) = some r := by rw [if_neg (show ¬ (false = true) by decide)] at H; exact H
          clear H
          have H := H1
          clear H1
          by_cases c24 : 0 ≤ x12_4
          rotate_left
          ·rw [if_neg c24] at H
           exact absurd H (by simp)
          rw [if_pos c24] at H
          have c24b0 : decide (0 ≤ x12_4) = true := decide_eq_true c24
          clear c24
          by_cases c25 : ((rd_T24 x7_1 x12_4).f0).toList = t124.toList
          rotate_left
          ·rw [if_neg c25] at H
           have c25b0 : (((rd_T24 x7_1 x12_4).f0).toList == t124.toList) = false := beq_eq_false_iff_ne.mpr c25
           have c25b1 : (((rd_T24 x7_1 x12_4).f0).toList != t124.toList) = true := bne_iff_ne.mpr c25
           have H' := Aside0.mk H
           clear H
           obtain ⟨Ao29, co29, eo29⟩ := Kd.R_slice HO_7.out
           subst eo29
           have p129 : 0 ≤ (x12_4 : Int) := of_decide_eq_true (by first | (with_reducible assumption) | assumption)
           have q129 : x12_4 < (x7_1.length : Int) := of_decide_eq_true (by first | (with_reducible assumption) | assumption)
           obtain ⟨ad129, e129, hx129_0, hx129_1, hx129_2, hx129_3⟩ := at_T24 (Kd.R_reads' HO_7.out).2.2 x12_4 p129 q129
           cases e129
           replace p129 := eq_true p129
           replace q129 := eq_true q129
           have hnb30 := NB128_123.out
           have hnc30 := NB123_128.out
           obtain ⟨hcz31_0, hcz31_1, hcz31_2, hcz31_3, hfz31_0, hfz31_1, hfz31_2, hfz31_3⟩ := Ke4_ BK128.out
           go_wp2
           repeat (go_quiet (fail); try go_wp2)
           go_roundg k4
           case measure => have := HK1.out; have := HJ3.out; have := HJ9.out; have := HK4.out; omega
           case rel => exact ⟨(false), (wrap64 (x12_4 + 1)), (by first | rfl | (simp; done) | (simp [*]; done)), (by first | rfl | (simp; done) | (simp [*]; done)), H', ⟨by have := HK1.out; have := HJ3.out; have := HJ9.out; have := HK4.out; omega⟩, ⟨by (with_reducible repeat (first | apply Kd.R_alloc | apply Kd.R_drewN | apply Kd.R_drew)); exact HO_7.out⟩, ⟨by exact Kq_ BK123⟩, ⟨by exact Kq_ BK128⟩, ⟨K2a_ HB GE123 GE128⟩⟩
          rw [if_pos c25] at H
          have c25b0 : (((rd_T24 x7_1 x12_4).f0).toList == t124.toList) = true := beq_iff_eq.mpr c25
          have c25b1 : (((rd_T24 x7_1 x12_4).f0).toList != t124.toList) = false := bne_eq_false_iff_eq.mpr c25
          clear c25
          have H' := Aside0.mk H
          clear H
          obtain ⟨Ao26, co26, eo26⟩ := Kd.R_slice HO_7.out
          subst eo26
          have p129 : 0 ≤ (x12_4 : Int) := of_decide_eq_true (by first | (with_reducible assumption) | assumption)
          have q129 : x12_4 < (x7_1.length : Int) := of_decide_eq_true (by first | (with_reducible assumption) | assumption)
          obtain ⟨ad129, e129, hx129_0, hx129_1, hx129_2, hx129_3⟩ := at_T24 (Kd.R_reads' HO_7.out).2.2 x12_4 p129 q129
          cases e129
          replace p129 := eq_true p129
          replace q129 := eq_true q129
          have hnb27 := NB128_123.out
          have hnc27 := NB123_128.out
          obtain ⟨hcz28_0, hcz28_1, hcz28_2, hcz28_3, hfz28_0, hfz28_1, hfz28_2, hfz28_3⟩ := Ke4_ BK128.out
          have p130 : 0 ≤ (x12_4 : Int) := of_decide_eq_true (by first | (with_reducible assumption) | assumption)
          have q130 : x12_4 < (x7_1.length : Int) := of_decide_eq_true (by first | (with_reducible assumption) | assumption)
          obtain ⟨ad130, e130, hx130_0, hx130_1, hx130_2, hx130_3⟩ := at_T24 (Kd.R_reads' HO_7.out).2.2 x12_4 p130 q130
          obtain rfl : ad129 = ad130 := (by injection e130)
          replace p130 := eq_true p130
          replace q130 := eq_true q130
          go_wp2
          repeat (go_quiet (fail); try go_wp2)
          go_roundg k4
          case measure => have := HK1.out; have := HJ3.out; have := HJ9.out; have := HK4.out; omega
          case rel => exact ⟨((((rd_T24 x7_1 x12_4).f1).toList == t125.toList)), (wrap64 (x12_4 + 1)), (by first | rfl | (simp; done) | (simp [*]; done)), (by first | rfl | (simp; done) | (simp [*]; done)), H', ⟨by have := HK1.out; have := HJ3.out; have := HJ9.out; have := HK4.out; omega⟩, ⟨by (with_reducible repeat (first | apply Kd.R_alloc | apply Kd.R_drewN | apply Kd.R_drew)); exact HO_7.out⟩, ⟨by exact Kq_ BK123⟩, ⟨by exact Kq_ BK128⟩, ⟨K2a_ HB GE123 GE128⟩⟩
         rw [if_neg c21] at H
         have c21b0 : decide (x12_4 < (x7_1.length : Int)) = false := decide_eq_false c21
         clear c21
         by_cases c32 : a2 = true
         rotate_left
         ·replace c32 := Bool.eq_false_iff.mpr c32
          subst c32
          have H1 : (if x7_1.length < 2513169434916 then (tenementlaw22_writes.l0 k4 l0 a1 false (x7_1 ++ [(⟨t124, t125, t126, t127⟩ : S24)]) (wrap64 (x8_1 + 1))) else (none)) = some r := by rw [if_neg (show ¬ (false = true) by decide)] at H; exact H
          clear H
          have H := H1
          clear H1
          by_cases c40 : x7_1.length < 2513169434916
          rotate_left
          ·rw [if_neg c40] at H
           exact absurd H (by simp)
          rw [if_pos c40] at H
          have LMc40 := Aside0.mk c40
          clear c40
          obtain ⟨y134, hy134⟩ : ∃ y_ : List (S24), y_ = (x7_1 ++ [(⟨t124, t125, t126, t127⟩ : S24)]) := ⟨_, rfl⟩
          replace H : (tenementlaw22_writes.l0 k4 l0 a1 false y134 (wrap64 (x8_1 + 1))) = some r := by first | (rw [hy134]; with_reducible exact H) | (have H2_ := (Option.bind_some _ _).symm.trans H; rw [hy134]; with_reducible exact H2_) | (have H2_ := (Option.bind_some _ _).symm.trans H; with_reducible exact H2_) | with_reducible exact H | (rw [hy134]; exact H) | exact H
          have Ny134 := Aside0.mk hy134
          clear hy134
          have H' := Aside0.mk H
          clear H
          obtain ⟨Ao41, co41, eo41⟩ := Kd.R_slice HO_7.out
          subst eo41
          have hnb42 := NB128_123.out
          have hnc42 := NB123_128.out
          obtain ⟨hcz43_0, hcz43_1, hcz43_2, hcz43_3, hfz43_0, hfz43_1, hfz43_2, hfz43_3⟩ := Ke4_ BK128.out
          go_wp2_with (first | ((with_reducible refine gate_builtin (b := .append) (xs := #[.tmp 66, .tmp 68]) rfl ?_); at_builtin; refine Kd.R_append k24 (w0 := w) w.heap.size rfl (.tmp 66) (.tmp 68) 62 24 (.agg #[(.string ⟨#[]⟩), (.string ⟨#[]⟩), (.string ⟨#[]⟩), (.bool false)]) 56 rfl Try.underlying62 info24 rfl (by decide) (by omega) (.slice Ao41 x7_1.length co41) x7_1 (⟨t124, t125, t126, t127⟩ : S24) [.string t124, .string t125, .string t126, .bool t127] (fun k_ => k_ ≠ gb128) (fun _ => False) rfl rfl ?aP (fun _ hk => hk.elim) ?aF ?aO ?aB ?aS ?aL ?_; (case aP => exact k24_mkM _ _ _ (⟨t124, t125, t126, t127⟩ : S24)); (case aB => exact (K2a_ HB GE123 GE128)); (case aF => exact (fun k_ hk => Kd.freshB (g := gb128) (o := .cells #[.string t124, .string t125, .string t126, .bool t127] 24 (0, 0)) (Kq_ BK128) k_ hk)); (case aO => exact (Ku_ HO_7)); (case aS => exact (below_size (K2a_ HB GE123 GE128))); (case aL => have := LMc40.out; omega); intro v135 w44 ho hb hg hat; rw [← Ny134.out] at ho; have HO136 := Aside0.mk (ho); replace BK123 := Aside0.mk (blk_grown (g := gb123) (o := .cells #[.string ((rd_T26 l0 x8_1).f0.f0), .string ((rd_T26 l0 x8_1).f0.f1), .string ((rd_T26 l0 x8_1).f0.f2), .bool ((rd_T26 l0 x8_1).f0.f3), .bool x104_9, .int .u8 ((rd_T26 l0 x8_1).f2)] 26 (0, 0)) (Kq_ BK123) hg (Kd.R_ne HO_7.out BK123.out (by decide))); replace BK128 := Aside0.mk (blk_grown (g := gb128) (o := .cells #[.string t124, .string t125, .string t126, .bool t127] 24 (0, 0)) (Kq_ BK128) hg (Kd.R_away HO_7.out (fun _ hk => hk))); replace HB := Aside0.mk (hb); clear HO_7; clear ho hb hg hat))
          repeat (go_quiet (first | ((with_reducible refine gate_builtin (b := .append) (xs := #[.tmp 66, .tmp 68]) rfl ?_); at_builtin; refine Kd.R_append k24 (w0 := w) w.heap.size rfl (.tmp 66) (.tmp 68) 62 24 (.agg #[(.string ⟨#[]⟩), (.string ⟨#[]⟩), (.string ⟨#[]⟩), (.bool false)]) 56 rfl Try.underlying62 info24 rfl (by decide) (by omega) (.slice Ao41 x7_1.length co41) x7_1 (⟨t124, t125, t126, t127⟩ : S24) [.string t124, .string t125, .string t126, .bool t127] (fun k_ => k_ ≠ gb128) (fun _ => False) rfl rfl ?aP (fun _ hk => hk.elim) ?aF ?aO ?aB ?aS ?aL ?_; (case aP => exact k24_mkM _ _ _ (⟨t124, t125, t126, t127⟩ : S24)); (case aB => exact (K2a_ HB GE123 GE128)); (case aF => exact (fun k_ hk => Kd.freshB (g := gb128) (o := .cells #[.string t124, .string t125, .string t126, .bool t127] 24 (0, 0)) (Kq_ BK128) k_ hk)); (case aO => exact (Ku_ HO_7)); (case aS => exact (below_size (K2a_ HB GE123 GE128))); (case aL => have := LMc40.out; omega); intro v135 w44 ho hb hg hat; rw [← Ny134.out] at ho; have HO136 := Aside0.mk (ho); replace BK123 := Aside0.mk (blk_grown (g := gb123) (o := .cells #[.string ((rd_T26 l0 x8_1).f0.f0), .string ((rd_T26 l0 x8_1).f0.f1), .string ((rd_T26 l0 x8_1).f0.f2), .bool ((rd_T26 l0 x8_1).f0.f3), .bool x104_9, .int .u8 ((rd_T26 l0 x8_1).f2)] 26 (0, 0)) (Kq_ BK123) hg (Kd.R_ne HO_7.out BK123.out (by decide))); replace BK128 := Aside0.mk (blk_grown (g := gb128) (o := .cells #[.string t124, .string t125, .string t126, .bool t127] 24 (0, 0)) (Kq_ BK128) hg (Kd.R_away HO_7.out (fun _ hk => hk))); replace HB := Aside0.mk (hb); clear HO_7; clear ho hb hg hat)); try go_wp2_with (first | ((with_reducible refine gate_builtin (b := .append) (xs := #[.tmp 66, .tmp 68]) rfl ?_); at_builtin; refine Kd.R_append k24 (w0 := w) w.heap.size rfl (.tmp 66) (.tmp 68) 62 24 (.agg #[(.string ⟨#[]⟩), (.string ⟨#[]⟩), (.string ⟨#[]⟩), (.bool false)]) 56 rfl Try.underlying62 info24 rfl (by decide) (by omega) (.slice Ao41 x7_1.length co41) x7_1 (⟨t124, t125, t126, t127⟩ : S24) [.string t124, .string t125, .string t126, .bool t127] (fun k_ => k_ ≠ gb128) (fun _ => False) rfl rfl ?aP (fun _ hk => hk.elim) ?aF ?aO ?aB ?aS ?aL ?_; (case aP => exact k24_mkM _ _ _ (⟨t124, t125, t126, t127⟩ : S24)); (case aB => exact (K2a_ HB GE123 GE128)); (case aF => exact (fun k_ hk => Kd.freshB (g := gb128) (o := .cells #[.string t124, .string t125, .string t126, .bool t127] 24 (0, 0)) (Kq_ BK128) k_ hk)); (case aO => exact (Ku_ HO_7)); (case aS => exact (below_size (K2a_ HB GE123 GE128))); (case aL => have := LMc40.out; omega); intro v135 w44 ho hb hg hat; rw [← Ny134.out] at ho; have HO136 := Aside0.mk (ho); replace BK123 := Aside0.mk (blk_grown (g := gb123) (o := .cells #[.string ((rd_T26 l0 x8_1).f0.f0), .string ((rd_T26 l0 x8_1).f0.f1), .string ((rd_T26 l0 x8_1).f0.f2), .bool ((rd_T26 l0 x8_1).f0.f3), .bool x104_9, .int .u8 ((rd_T26 l0 x8_1).f2)] 26 (0, 0)) (Kq_ BK123) hg (Kd.R_ne HO_7.out BK123.out (by decide))); replace BK128 := Aside0.mk (blk_grown (g := gb128) (o := .cells #[.string t124, .string t125, .string t126, .bool t127] 24 (0, 0)) (Kq_ BK128) hg (Kd.R_away HO_7.out (fun _ hk => hk))); replace HB := Aside0.mk (hb); clear HO_7; clear ho hb hg hat)))
          go_roundg k4
          case measure => have := HK1.out; have := HJ3.out; have := HJ9.out; have := HK4.out; omega
          case rel => exact ⟨(y134), (wrap64 (x8_1 + 1)), (by first | rfl | (simp; done) | (simp [*]; done)), H', ⟨by have := HK1.out; have := HJ3.out; have := HJ9.out; have := HK4.out; omega⟩, ⟨by (with_reducible repeat (first | apply Kd.R_alloc | apply Kd.R_drewN | apply Kd.R_drew)); exact Kd.R_mono HO136.out (fun _ hk => trivial)⟩, ⟨K2a_ HB GE123 GE128⟩⟩
         subst c32
         have H1 : (if x11_4 = true then (tenementlaw22_writes.l0 k4 l0 a1 true x7_1 (wrap64 (x8_1 + 1))) else (if x7_1.length < 2513169434916 then (tenementlaw22_writes.l0 k4 l0 a1 true (x7_1 ++ [(⟨t124, t125, t126, t127⟩ : S24)]) (wrap64 (x8_1 + 1))) else (none))) = some r := by rw [if_pos rfl] at H; exact H
         clear H
         have H := H1
         clear H1
         by_cases c33 : x11_4 = true
         ·subst c33
          have H1 : (tenementlaw22_writes.l0 k4 l0 a1 true x7_1 (wrap64 (x8_1 + 1))) = some r := by rw [if_pos rfl] at H; exact H
          clear H
          have H := H1
          clear H1
          have H' := Aside0.mk H
          clear H
          obtain ⟨Ao34, co34, eo34⟩ := Kd.R_slice HO_7.out
          subst eo34
          go_wp2
          repeat (go_quiet (fail); try go_wp2)
          go_roundg k4
          case measure => have := HK1.out; have := HJ3.out; have := HJ9.out; have := HK4.out; omega
          case rel => exact ⟨(x7_1), (wrap64 (x8_1 + 1)), (by first | rfl | (simp; done) | (simp [*]; done)), H', ⟨by have := HK1.out; have := HJ3.out; have := HJ9.out; have := HK4.out; omega⟩, ⟨by (with_reducible repeat (first | apply Kd.R_alloc | apply Kd.R_drewN | apply Kd.R_drew)); exact Kd.R_mono HO_7.out (fun _ hk => trivial)⟩, ⟨K2a_ HB GE123 GE128⟩⟩
         replace c33 := Bool.eq_false_iff.mpr c33
         subst c33
         have H1 : (if x7_1.length < 2513169434916 then (tenementlaw22_writes.l0 k4 l0 a1 true (x7_1 ++ [(⟨t124, t125, t126, t127⟩ : S24)]) (wrap64 (x8_1 + 1))) else (none)) = some r := by rw [if_neg (show ¬ (false = true) by decide)] at H; exact H
         clear H
         have H := H1
         clear H1
         by_cases c35 : x7_1.length < 2513169434916
         rotate_left
         ·rw [if_neg c35] at H
          exact absurd H (by simp)
         rw [if_pos c35] at H
         have LMc35 := Aside0.mk c35
         clear c35
         obtain ⟨y131, hy131⟩ : ∃ y_ : List (S24), y_ = (x7_1 ++ [(⟨t124, t125, t126, t127⟩ : S24)]) := ⟨_, rfl⟩
         replace H : (tenementlaw22_writes.l0 k4 l0 a1 true y131 (wrap64 (x8_1 + 1))) = some r := by first | (rw [hy131]; with_reducible exact H) | (have H2_ := (Option.bind_some _ _).symm.trans H; rw [hy131]; with_reducible exact H2_) | (have H2_ := (Option.bind_some _ _).symm.trans H; with_reducible exact H2_) | with_reducible exact H | (rw [hy131]; exact H) | exact H
         have Ny131 := Aside0.mk hy131
         clear hy131
         have H' := Aside0.mk H
         clear H
         obtain ⟨Ao36, co36, eo36⟩ := Kd.R_slice HO_7.out
         subst eo36
         have hnb37 := NB128_123.out
         have hnc37 := NB123_128.out
         obtain ⟨hcz38_0, hcz38_1, hcz38_2, hcz38_3, hfz38_0, hfz38_1, hfz38_2, hfz38_3⟩ := Ke4_ BK128.out
         go_wp2_with (first | ((with_reducible refine gate_builtin (b := .append) (xs := #[.tmp 66, .tmp 68]) rfl ?_); at_builtin; refine Kd.R_append k24 (w0 := w) w.heap.size rfl (.tmp 66) (.tmp 68) 62 24 (.agg #[(.string ⟨#[]⟩), (.string ⟨#[]⟩), (.string ⟨#[]⟩), (.bool false)]) 56 rfl Try.underlying62 info24 rfl (by decide) (by omega) (.slice Ao36 x7_1.length co36) x7_1 (⟨t124, t125, t126, t127⟩ : S24) [.string t124, .string t125, .string t126, .bool t127] (fun k_ => k_ ≠ gb128) (fun _ => False) rfl rfl ?aP (fun _ hk => hk.elim) ?aF ?aO ?aB ?aS ?aL ?_; (case aP => exact k24_mkM _ _ _ (⟨t124, t125, t126, t127⟩ : S24)); (case aB => exact (K2a_ HB GE123 GE128)); (case aF => exact (fun k_ hk => Kd.freshB (g := gb128) (o := .cells #[.string t124, .string t125, .string t126, .bool t127] 24 (0, 0)) (Kq_ BK128) k_ hk)); (case aO => exact (Ku_ HO_7)); (case aS => exact (below_size (K2a_ HB GE123 GE128))); (case aL => have := LMc35.out; omega); intro v132 w39 ho hb hg hat; rw [← Ny131.out] at ho; have HO133 := Aside0.mk (ho); replace BK123 := Aside0.mk (blk_grown (g := gb123) (o := .cells #[.string ((rd_T26 l0 x8_1).f0.f0), .string ((rd_T26 l0 x8_1).f0.f1), .string ((rd_T26 l0 x8_1).f0.f2), .bool ((rd_T26 l0 x8_1).f0.f3), .bool x104_9, .int .u8 ((rd_T26 l0 x8_1).f2)] 26 (0, 0)) (Kq_ BK123) hg (Kd.R_ne HO_7.out BK123.out (by decide))); replace BK128 := Aside0.mk (blk_grown (g := gb128) (o := .cells #[.string t124, .string t125, .string t126, .bool t127] 24 (0, 0)) (Kq_ BK128) hg (Kd.R_away HO_7.out (fun _ hk => hk))); replace HB := Aside0.mk (hb); clear HO_7; clear ho hb hg hat))
         repeat (go_quiet (first | ((with_reducible refine gate_builtin (b := .append) (xs := #[.tmp 66, .tmp 68]) rfl ?_); at_builtin; refine Kd.R_append k24 (w0 := w) w.heap.size rfl (.tmp 66) (.tmp 68) 62 24 (.agg #[(.string ⟨#[]⟩), (.string ⟨#[]⟩), (.string ⟨#[]⟩), (.bool false)]) 56 rfl Try.underlying62 info24 rfl (by decide) (by omega) (.slice Ao36 x7_1.length co36) x7_1 (⟨t124, t125, t126, t127⟩ : S24) [.string t124, .string t125, .string t126, .bool t127] (fun k_ => k_ ≠ gb128) (fun _ => False) rfl rfl ?aP (fun _ hk => hk.elim) ?aF ?aO ?aB ?aS ?aL ?_; (case aP => exact k24_mkM _ _ _ (⟨t124, t125, t126, t127⟩ : S24)); (case aB => exact (K2a_ HB GE123 GE128)); (case aF => exact (fun k_ hk => Kd.freshB (g := gb128) (o := .cells #[.string t124, .string t125, .string t126, .bool t127] 24 (0, 0)) (Kq_ BK128) k_ hk)); (case aO => exact (Ku_ HO_7)); (case aS => exact (below_size (K2a_ HB GE123 GE128))); (case aL => have := LMc35.out; omega); intro v132 w39 ho hb hg hat; rw [← Ny131.out] at ho; have HO133 := Aside0.mk (ho); replace BK123 := Aside0.mk (blk_grown (g := gb123) (o := .cells #[.string ((rd_T26 l0 x8_1).f0.f0), .string ((rd_T26 l0 x8_1).f0.f1), .string ((rd_T26 l0 x8_1).f0.f2), .bool ((rd_T26 l0 x8_1).f0.f3), .bool x104_9, .int .u8 ((rd_T26 l0 x8_1).f2)] 26 (0, 0)) (Kq_ BK123) hg (Kd.R_ne HO_7.out BK123.out (by decide))); replace BK128 := Aside0.mk (blk_grown (g := gb128) (o := .cells #[.string t124, .string t125, .string t126, .bool t127] 24 (0, 0)) (Kq_ BK128) hg (Kd.R_away HO_7.out (fun _ hk => hk))); replace HB := Aside0.mk (hb); clear HO_7; clear ho hb hg hat)); try go_wp2_with (first | ((with_reducible refine gate_builtin (b := .append) (xs := #[.tmp 66, .tmp 68]) rfl ?_); at_builtin; refine Kd.R_append k24 (w0 := w) w.heap.size rfl (.tmp 66) (.tmp 68) 62 24 (.agg #[(.string ⟨#[]⟩), (.string ⟨#[]⟩), (.string ⟨#[]⟩), (.bool false)]) 56 rfl Try.underlying62 info24 rfl (by decide) (by omega) (.slice Ao36 x7_1.length co36) x7_1 (⟨t124, t125, t126, t127⟩ : S24) [.string t124, .string t125, .string t126, .bool t127] (fun k_ => k_ ≠ gb128) (fun _ => False) rfl rfl ?aP (fun _ hk => hk.elim) ?aF ?aO ?aB ?aS ?aL ?_; (case aP => exact k24_mkM _ _ _ (⟨t124, t125, t126, t127⟩ : S24)); (case aB => exact (K2a_ HB GE123 GE128)); (case aF => exact (fun k_ hk => Kd.freshB (g := gb128) (o := .cells #[.string t124, .string t125, .string t126, .bool t127] 24 (0, 0)) (Kq_ BK128) k_ hk)); (case aO => exact (Ku_ HO_7)); (case aS => exact (below_size (K2a_ HB GE123 GE128))); (case aL => have := LMc35.out; omega); intro v132 w39 ho hb hg hat; rw [← Ny131.out] at ho; have HO133 := Aside0.mk (ho); replace BK123 := Aside0.mk (blk_grown (g := gb123) (o := .cells #[.string ((rd_T26 l0 x8_1).f0.f0), .string ((rd_T26 l0 x8_1).f0.f1), .string ((rd_T26 l0 x8_1).f0.f2), .bool ((rd_T26 l0 x8_1).f0.f3), .bool x104_9, .int .u8 ((rd_T26 l0 x8_1).f2)] 26 (0, 0)) (Kq_ BK123) hg (Kd.R_ne HO_7.out BK123.out (by decide))); replace BK128 := Aside0.mk (blk_grown (g := gb128) (o := .cells #[.string t124, .string t125, .string t126, .bool t127] 24 (0, 0)) (Kq_ BK128) hg (Kd.R_away HO_7.out (fun _ hk => hk))); replace HB := Aside0.mk (hb); clear HO_7; clear ho hb hg hat)))
         go_roundg k4
         case measure => have := HK1.out; have := HJ3.out; have := HJ9.out; have := HK4.out; omega
         case rel => exact ⟨(y131), (wrap64 (x8_1 + 1)), (by first | rfl | (simp; done) | (simp [*]; done)), H', ⟨by have := HK1.out; have := HJ3.out; have := HJ9.out; have := HK4.out; omega⟩, ⟨by (with_reducible repeat (first | apply Kd.R_alloc | apply Kd.R_drewN | apply Kd.R_drew)); exact Kd.R_mono HO133.out (fun _ hk => trivial)⟩, ⟨K2a_ HB GE123 GE128⟩⟩
def tenementlaw22_refStamp.f (a0_0 : Int) (a0_1 : Int) (a0_2 : Int) (a0_3 : Int) (a0_4 : Int) : Option (Int × Int × Int × Int × Int) := some (a0_0, a0_1, a0_2, a0_3, a0_4)
set_option maxHeartbeats 8000000 in
set_option maxRecDepth 100000 in
theorem tenementlaw22_refStamp.calls (a0_0 : Int) (a0_1 : Int) (a0_2 : Int) (a0_3 : Int) (a0_4 : Int) (r1 : Int) (r2 : Int) (r3 : Int) (r4 : Int) (r5 : Int) (w : World) (h : tenementlaw22_refStamp.f a0_0 a0_1 a0_2 a0_3 a0_4 = some (r1, r2, r3, r4, r5)) :
  Calls Try.prog 62 #[.agg #[.int .u64 a0_0, .int .u64 a0_1, .int .u64 a0_2, .int .u64 a0_3, .int .i64 a0_4]] w fun e w' => e = .returned (.agg #[.int .u64 r1, .int .u64 r2, .int .u64 r3, .int .u64 r4, .int .i64 r5]) ∧ Below w.heap.size w w' := by
 have hu56 := Try.underlying56
 have hu78 := Try.underlying78
 have hu29 := Try.underlying29
 have HB := Aside0.mk (Below.refl w.heap.size w)
 have H : (some (a0_0, a0_1, a0_2, a0_3, a0_4)) = some (r1, r2, r3, r4, r5) := h
 clear h
 simp only [Option.some.injEq, Prod.mk.injEq] at H
 obtain ⟨rfl, rfl, rfl, rfl, rfl⟩ := H
 go_enter Try.func62, Try.ntmps62
 go_wp2_with (first | ((with_reducible refine gate_dst (N := 1) rfl ?_); refine Ka_ 1 #[.int .u64 a0_0, .int .u64 a0_1, .int .u64 a0_2, .int .u64 a0_3, .int .i64 a0_4] 56 ?_; intro gb159 hg w2 hbox hb; have BK159 := Aside0.mk (hbox); have GW159 := Kw_ HB hg; have GE159 := GW159; replace HB := Ks_ HB hb; clear hb hbox hg) | ((with_reducible refine gate_dst (N := 2) rfl ?_); refine Ka_ 2 #[.int .u64 0, .int .u64 0, .int .u64 0, .int .u64 0, .int .i64 0] 78 ?_; intro gb160 hg w3 hbox hb; have BK160 := Aside0.mk (hbox); have GW160 := Kw_ HB hg; have GE160 := GW160; have NB159_160 := Kl_ BK159 hg; have NB160_159 := Kr_ BK159 hg; replace BK159 := Kb_ BK159 hb; replace HB := Ks_ HB hb; clear hb hbox hg; have hnb4 := NB159_160.out; have hnc4 := NB160_159.out; obtain ⟨hcz5_0, hcz5_1, hcz5_2, hcz5_3, hcz5_4, hfz5_0, hfz5_1, hfz5_2, hfz5_3, hfz5_4⟩ := Ke5_ BK159.out; obtain ⟨hcz6_0, hcz6_1, hcz6_2, hcz6_3, hcz6_4, hfz6_0, hfz6_1, hfz6_2, hfz6_3, hfz6_4⟩ := Ke5_ BK160.out))
 refine bodyPost_ret (results_cell_row rfl _ _ gb160 78 #[.int .u64 a0_0, .int .u64 a0_1, .int .u64 a0_2, .int .u64 a0_3, .int .i64 a0_4] (0, 0) _ rfl (by refine Kv_ ?_; refine blk_put (cs := #[.int .u64 a0_0, .int .u64 a0_1, .int .u64 a0_2, .int .u64 a0_3, .int .i64 0]) ?_ 4 _ rfl; refine Kv_ ?_; refine blk_put (cs := #[.int .u64 a0_0, .int .u64 a0_1, .int .u64 a0_2, .int .u64 0, .int .i64 0]) ?_ 3 _ rfl; refine Kv_ ?_; refine blk_put (cs := #[.int .u64 a0_0, .int .u64 a0_1, .int .u64 0, .int .u64 0, .int .i64 0]) ?_ 2 _ rfl; refine Kv_ ?_; refine blk_put (cs := #[.int .u64 a0_0, .int .u64 0, .int .u64 0, .int .u64 0, .int .i64 0]) ?_ 1 _ rfl; refine Kv_ ?_; refine blk_put (cs := #[.int .u64 0, .int .u64 0, .int .u64 0, .int .u64 0, .int .i64 0]) ?_ 0 _ rfl; exact Kq_ BK160) Try.underlying78 rfl (by kernel_rfl)) rfl ?_
 exact ⟨Kh_, K2a_ HB GE159 GE160⟩
def tenementlaw22_refWrites.l0 : Nat → List (S24) → List (S86) → Int → Option ((List (S86)))
 | 0, _, _, _ => none
 | k + 1, x0, x3, x4 => if x4 < (x0.length : Int) then (if 0 ≤ x4 then (if x3.length < 2513169434916 then (tenementlaw22_refWrites.l0 k x0 (x3 ++ [(⟨(rd_T24 x0 x4).f0, (rd_T24 x0 x4).f1, (rd_T24 x0 x4).f2, (rd_T24 x0 x4).f3⟩ : S86)]) (wrap64 (x4 + 1))) else (none)) else (none)) else (some x3)
def tenementlaw22_refWrites.f (k : Nat) (l0 : List (S24)) : Option ((List (S86))) := tenementlaw22_refWrites.l0 k l0 ([] : List (S86)) 0
theorem tenementlaw22_refWrites.mono_l : ∀ k, (∀ y0 y1 y2, LeO (tenementlaw22_refWrites.l0 k y0 y1 y2) (tenementlaw22_refWrites.l0 (k + 1) y0 y1 y2))
 | 0 => fun _ _ _ r h => by simp [tenementlaw22_refWrites.l0] at h
 | k + 1 => by
  have ih0 := tenementlaw22_refWrites.mono_l k
  ·intro y0 y1 y2
   unfold tenementlaw22_refWrites.l0
   repeat' first
   | (with_reducible exact ih0 _ _ _)
   | (with_reducible exact LeO.refl _)
   | (with_reducible exact LeO.none _)
   | (with_reducible refine LeO.ite ?_ ?_)
   | (with_reducible refine LeO.bind ?_ (fun _ => ?_))
   | exact ih0 _ _ _
   | exact LeO.none _
   | refine LeO.ite ?_ ?_
   | refine LeO.bind ?_ (fun _ => ?_)
theorem tenementlaw22_refWrites.mono : ∀ a0 k, LeO (tenementlaw22_refWrites.f k a0) (tenementlaw22_refWrites.f (k + 1) a0) := by
 intro a0 k
 have ih0 := tenementlaw22_refWrites.mono_l k
 unfold tenementlaw22_refWrites.f
 repeat' first
   | (with_reducible exact ih0 _ _ _)
   | (with_reducible exact LeO.refl _)
   | (with_reducible exact LeO.none _)
   | (with_reducible refine LeO.ite ?_ ?_)
   | (with_reducible refine LeO.bind ?_ (fun _ => ?_))
   | exact ih0 _ _ _
   | exact LeO.none _
   | refine LeO.ite ?_ ?_
   | refine LeO.bind ?_ (fun _ => ?_)
def tenementlaw22_refWrites.T5 : Bool × List (List Nat × List Nat) := (true, [([], []), ([], []), ([], []), ([1, 2], [1, 2]), ([3], [3]), ([4], [4]), ([], []), ([], []), ([6, 7], [6, 7]), ([8], [8]), ([9], [9]), ([], []), ([], []), ([11, 12], [11, 12]), ([13], [13]), ([14], [14]), ([], []), ([], []), ([16, 17], [16, 17]), ([18], [18]), ([19], [19]), ([5, 10, 15, 20], [5, 10, 15, 20]), ([21], [21]), ([0, 22], [0, 22]), ([23, 23, 0, 1, 2, 3, 4, 5, 6, 7, 8, 9, 10, 11, 12, 13, 14, 15, 16, 17, 18, 19, 20, 21, 22, 23], [0, 23])])
def tenementlaw22_refWrites.B5 : List Nat := [0, 0, 0, 6, 14, 30, 0, 0, 192, 448, 960, 0, 0, 6144, 14336, 30720, 0, 0, 196608, 458752, 983040, 2097150, 4194302, 8388607, 16777215]
theorem tenementlaw22_refWrites.tab5 : rtab .any (opsOf Try.f63 5) = tenementlaw22_refWrites.T5 := by kernel_rfl
theorem tenementlaw22_refWrites.bits5 : waitsOk tenementlaw22_refWrites.T5.2 tenementlaw22_refWrites.B5 = true := by kernel_rfl
set_option maxHeartbeats 8000000 in
set_option maxRecDepth 100000 in
theorem tenementlaw22_refWrites.calls (k : Nat) (A0 : Option Addr) (c0 : Nat) (l0 : List (S24)) (r : List (S86)) (w : World) (hr0 : Kd.C k24 w A0 l0.length l0) (hc0 : l0.length ≤ c0) (h : tenementlaw22_refWrites.f k l0 = some r) :
  Calls Try.prog 63 #[.slice A0 l0.length c0] w fun e w' => ∃ v0_ : Value, e = .returned (v0_) ∧ Kd.R k86 86 w' w.heap.size (fun _ => True) v0_ r ∧ Below w.heap.size w w' := by
 have hu86 := Try.underlying86
 have HR0 := Aside0.mk hr0
 have HC0 := Aside0.mk hc0
 clear hr0 hc0
 have HB := Aside0.mk (Below.refl w.heap.size w)
 have H : (tenementlaw22_refWrites.l0 k l0 ([] : List (S86)) 0) = some r := h
 clear h
 have H' := Aside0.mk H
 clear H
 go_enter Try.func63, Try.ntmps63
 go_wp2
 go_loopg [3, 4] k (fun kq v3 v4 w' => ∃ (x3_1 : List (S86)) (x4_1 : Int), v4 = .int .i64 x4_1 ∧ Aside0 (tenementlaw22_refWrites.l0 kq l0 x3_1 x4_1 = some r) ∧ Aside0 (kq ≤ k) ∧ Aside0 (Kd.R k86 86 w' w.heap.size (fun _ => True) v3 x3_1) ∧ Aside0 (Below w.heap.size w w'))
 case atStart => exact ⟨(([] : List (S86))), (0), (by first | rfl | (simp; done) | (simp [*]; done)), H', ⟨Nat.le_refl _⟩, ⟨by first | exact Kd.R_nil _ _ _ _ _ | exact Kd.N_nil _ _ _ _ _ | exact Kd.V_nil _ _ _ _ _ | exact Kd.Q_nil _ _ _ _ _ | exact Kd.S_nil _ _ _ _ _⟩, ⟨Ky_ HB⟩⟩
 case round =>
  clear H'
  obtain ⟨x3_1, x4_1, rfl, HA, HK1, HO_3, HB⟩ := hrel
  cases gk with
  | zero => exact absurd HA.out (by simp [tenementlaw22_refWrites.l0])
  | succ k1 =>
   have H := HA.out
   clear HA
   simp only [tenementlaw22_refWrites.l0] at H
   by_cases c2 : x4_1 < (l0.length : Int)
   rotate_left
   ·rw [if_neg c2] at H
    have c2b0 : decide (x4_1 < (l0.length : Int)) = false := decide_eq_false c2
    clear c2
    obtain rfl := Option.some.inj H
    go_wp2
    go_ret
    exact ⟨_, by first | rfl | (simp [errW_none, errW_some] <;> rfl) | (simp [*, errW_none, errW_some] <;> rfl), by (with_reducible repeat (first | apply Kd.R_alloc | apply Kd.R_drewN | apply Kd.R_drew)); exact HO_3.out, Ky_ HB⟩
   rw [if_pos c2] at H
   have c2b0 : decide (x4_1 < (l0.length : Int)) = true := decide_eq_true c2
   clear c2
   by_cases c3 : 0 ≤ x4_1
   rotate_left
   ·rw [if_neg c3] at H
    exact absurd H (by simp)
   rw [if_pos c3] at H
   have c3b0 : decide (0 ≤ x4_1) = true := decide_eq_true c3
   clear c3
   by_cases c4 : x3_1.length < 2513169434916
   rotate_left
   ·rw [if_neg c4] at H
    exact absurd H (by simp)
   rw [if_pos c4] at H
   have LMc4 := Aside0.mk c4
   clear c4
   obtain ⟨y165, hy165⟩ : ∃ y_ : List (S86), y_ = (x3_1 ++ [(⟨(rd_T24 l0 x4_1).f0, (rd_T24 l0 x4_1).f1, (rd_T24 l0 x4_1).f2, (rd_T24 l0 x4_1).f3⟩ : S86)]) := ⟨_, rfl⟩
   replace H : (tenementlaw22_refWrites.l0 k1 l0 y165 (wrap64 (x4_1 + 1))) = some r := by first | (rw [hy165]; with_reducible exact H) | (have H2_ := (Option.bind_some _ _).symm.trans H; rw [hy165]; with_reducible exact H2_) | (have H2_ := (Option.bind_some _ _).symm.trans H; with_reducible exact H2_) | with_reducible exact H | (rw [hy165]; exact H) | exact H
   have Ny165 := Aside0.mk hy165
   clear hy165
   have H' := Aside0.mk H
   clear H
   try go_wp2
   replace HO_3 := Aside0.mk (Kd.R_drew HO_3.out)
   replace HB := Aside0.mk (below_drew1 HB.out)
   have p161 : 0 ≤ (x4_1 : Int) := of_decide_eq_true (by first | (with_reducible assumption) | assumption)
   have q161 : x4_1 < (l0.length : Int) := of_decide_eq_true (by first | (with_reducible assumption) | assumption)
   obtain ⟨ad161, e161, hx161_0, hx161_1, hx161_2, hx161_3⟩ := at_T24 HR0.out x4_1 p161 q161
   have hw161_3 := hx161_3
   have hw161_2 := hx161_2
   have hw161_1 := hx161_1
   have hw161_0 := hx161_0
   cases e161
   replace hx161_0 := (HB.out.cell (World.block_lt_of_cell? w _ hx161_0)).trans hx161_0
   replace hx161_1 := (HB.out.cell (World.block_lt_of_cell? w _ hx161_1)).trans hx161_1
   replace hx161_2 := (HB.out.cell (World.block_lt_of_cell? w _ hx161_2)).trans hx161_2
   replace hx161_3 := (HB.out.cell (World.block_lt_of_cell? w _ hx161_3)).trans hx161_3
   replace p161 := eq_true p161
   replace q161 := eq_true q161
   have p162 : 0 ≤ (x4_1 : Int) := of_decide_eq_true (by first | (with_reducible assumption) | assumption)
   have q162 : x4_1 < (l0.length : Int) := of_decide_eq_true (by first | (with_reducible assumption) | assumption)
   obtain ⟨ad162, e162, hx162_0, hx162_1, hx162_2, hx162_3⟩ := at_T24 HR0.out x4_1 p162 q162
   have hw162_3 := hx162_3
   have hw162_2 := hx162_2
   have hw162_1 := hx162_1
   have hw162_0 := hx162_0
   obtain rfl : ad161 = ad162 := (by injection e162)
   replace hx162_0 := (HB.out.cell (World.block_lt_of_cell? w _ hx162_0)).trans hx162_0
   replace hx162_1 := (HB.out.cell (World.block_lt_of_cell? w _ hx162_1)).trans hx162_1
   replace hx162_2 := (HB.out.cell (World.block_lt_of_cell? w _ hx162_2)).trans hx162_2
   replace hx162_3 := (HB.out.cell (World.block_lt_of_cell? w _ hx162_3)).trans hx162_3
   replace p162 := eq_true p162
   replace q162 := eq_true q162
   have p163 : 0 ≤ (x4_1 : Int) := of_decide_eq_true (by first | (with_reducible assumption) | assumption)
   have q163 : x4_1 < (l0.length : Int) := of_decide_eq_true (by first | (with_reducible assumption) | assumption)
   obtain ⟨ad163, e163, hx163_0, hx163_1, hx163_2, hx163_3⟩ := at_T24 HR0.out x4_1 p163 q163
   have hw163_3 := hx163_3
   have hw163_2 := hx163_2
   have hw163_1 := hx163_1
   have hw163_0 := hx163_0
   obtain rfl : ad161 = ad163 := (by injection e163)
   replace hx163_0 := (HB.out.cell (World.block_lt_of_cell? w _ hx163_0)).trans hx163_0
   replace hx163_1 := (HB.out.cell (World.block_lt_of_cell? w _ hx163_1)).trans hx163_1
   replace hx163_2 := (HB.out.cell (World.block_lt_of_cell? w _ hx163_2)).trans hx163_2
   replace hx163_3 := (HB.out.cell (World.block_lt_of_cell? w _ hx163_3)).trans hx163_3
   replace p163 := eq_true p163
   replace q163 := eq_true q163
   have p164 : 0 ≤ (x4_1 : Int) := of_decide_eq_true (by first | (with_reducible assumption) | assumption)
   have q164 : x4_1 < (l0.length : Int) := of_decide_eq_true (by first | (with_reducible assumption) | assumption)
   obtain ⟨ad164, e164, hx164_0, hx164_1, hx164_2, hx164_3⟩ := at_T24 HR0.out x4_1 p164 q164
   have hw164_3 := hx164_3
   have hw164_2 := hx164_2
   have hw164_1 := hx164_1
   have hw164_0 := hx164_0
   obtain rfl : ad161 = ad164 := (by injection e164)
   replace hx164_0 := (HB.out.cell (World.block_lt_of_cell? w _ hx164_0)).trans hx164_0
   replace hx164_1 := (HB.out.cell (World.block_lt_of_cell? w _ hx164_1)).trans hx164_1
   replace hx164_2 := (HB.out.cell (World.block_lt_of_cell? w _ hx164_2)).trans hx164_2
   replace hx164_3 := (HB.out.cell (World.block_lt_of_cell? w _ hx164_3)).trans hx164_3
   replace p164 := eq_true p164
   replace q164 := eq_true q164
   refine start_ (n := 25) (S := fun w' => w'.cell? (ad161.add ((x4_1).toNat * 4)) = some (.string ((rd_T24 l0 x4_1).f0)) ∧ w'.cell? ⟨(ad161.add ((x4_1).toNat * 4)).block, (ad161.add ((x4_1).toNat * 4)).off + 1, none⟩ = some (.string ((rd_T24 l0 x4_1).f1)) ∧ w'.cell? ⟨(ad161.add ((x4_1).toNat * 4)).block, (ad161.add ((x4_1).toNat * 4)).off + 2, none⟩ = some (.string ((rd_T24 l0 x4_1).f2)) ∧ w'.cell? ⟨(ad161.add ((x4_1).toNat * 4)).block, (ad161.add ((x4_1).toNat * 4)).off + 3, none⟩ = some (.bool ((rd_T24 l0 x4_1).f3)) ∧ w'.cell? (ad161.add ((x4_1).toNat * 4)) = some (.string ((rd_T24 l0 x4_1).f0)) ∧ w'.cell? ⟨(ad161.add ((x4_1).toNat * 4)).block, (ad161.add ((x4_1).toNat * 4)).off + 1, none⟩ = some (.string ((rd_T24 l0 x4_1).f1)) ∧ w'.cell? ⟨(ad161.add ((x4_1).toNat * 4)).block, (ad161.add ((x4_1).toNat * 4)).off + 2, none⟩ = some (.string ((rd_T24 l0 x4_1).f2)) ∧ w'.cell? ⟨(ad161.add ((x4_1).toNat * 4)).block, (ad161.add ((x4_1).toNat * 4)).off + 3, none⟩ = some (.bool ((rd_T24 l0 x4_1).f3)) ∧ w'.cell? (ad161.add ((x4_1).toNat * 4)) = some (.string ((rd_T24 l0 x4_1).f0)) ∧ w'.cell? ⟨(ad161.add ((x4_1).toNat * 4)).block, (ad161.add ((x4_1).toNat * 4)).off + 1, none⟩ = some (.string ((rd_T24 l0 x4_1).f1)) ∧ w'.cell? ⟨(ad161.add ((x4_1).toNat * 4)).block, (ad161.add ((x4_1).toNat * 4)).off + 2, none⟩ = some (.string ((rd_T24 l0 x4_1).f2)) ∧ w'.cell? ⟨(ad161.add ((x4_1).toNat * 4)).block, (ad161.add ((x4_1).toNat * 4)).off + 3, none⟩ = some (.bool ((rd_T24 l0 x4_1).f3)) ∧ w'.cell? (ad161.add ((x4_1).toNat * 4)) = some (.string ((rd_T24 l0 x4_1).f0)) ∧ w'.cell? ⟨(ad161.add ((x4_1).toNat * 4)).block, (ad161.add ((x4_1).toNat * 4)).off + 1, none⟩ = some (.string ((rd_T24 l0 x4_1).f1)) ∧ w'.cell? ⟨(ad161.add ((x4_1).toNat * 4)).block, (ad161.add ((x4_1).toNat * 4)).off + 2, none⟩ = some (.string ((rd_T24 l0 x4_1).f2)) ∧ w'.cell? ⟨(ad161.add ((x4_1).toNat * 4)).block, (ad161.add ((x4_1).toNat * 4)).off + 3, none⟩ = some (.bool ((rd_T24 l0 x4_1).f3))) (ds := []) (mB_ 25 0) (by kernel_rfl) rfl rfl ⟨((HB.out.cell (World.block_lt_of_cell? w _ hw161_0)).trans hw161_0), ((HB.out.cell (World.block_lt_of_cell? w _ hw161_1)).trans hw161_1), ((HB.out.cell (World.block_lt_of_cell? w _ hw161_2)).trans hw161_2), ((HB.out.cell (World.block_lt_of_cell? w _ hw161_3)).trans hw161_3), ((HB.out.cell (World.block_lt_of_cell? w _ hw162_0)).trans hw162_0), ((HB.out.cell (World.block_lt_of_cell? w _ hw162_1)).trans hw162_1), ((HB.out.cell (World.block_lt_of_cell? w _ hw162_2)).trans hw162_2), ((HB.out.cell (World.block_lt_of_cell? w _ hw162_3)).trans hw162_3), ((HB.out.cell (World.block_lt_of_cell? w _ hw163_0)).trans hw163_0), ((HB.out.cell (World.block_lt_of_cell? w _ hw163_1)).trans hw163_1), ((HB.out.cell (World.block_lt_of_cell? w _ hw163_2)).trans hw163_2), ((HB.out.cell (World.block_lt_of_cell? w _ hw163_3)).trans hw163_3), ((HB.out.cell (World.block_lt_of_cell? w _ hw164_0)).trans hw164_0), ((HB.out.cell (World.block_lt_of_cell? w _ hw164_1)).trans hw164_1), ((HB.out.cell (World.block_lt_of_cell? w _ hw164_2)).trans hw164_2), ((HB.out.cell (World.block_lt_of_cell? w _ hw164_3)).trans hw164_3)⟩ (fun hHeld => ?_); refine with_tabW tenementlaw22_refWrites.tab5 tenementlaw22_refWrites.bits5 (fun HT_ HW_ => ?_)
   generalize wr.drew = w5 at HO_3 HB hx161_0 hx161_1 hx161_2 hx161_3 hx162_0 hx162_1 hx162_2 hx162_3 hx163_0 hx163_1 hx163_2 hx163_3 hx164_0 hx164_1 hx164_2 hx164_3 hHeld ⊢
   refine Kp_ 0 11 (Bz 25 1) (any_of HT_.out (by kernel_rfl)) ?_
   refine Kp_ 1 12 (Bz 25 3) (any_of HT_.out (by kernel_rfl)) ?_
   refine Kp_ 2 13 (Bz 25 7) (any_of HT_.out (by kernel_rfl)) ?_
   refine Kp_ 3 14 (Bz 25 15) (any_of HT_.out (by kernel_rfl)) ?_
   refine Kp_ 4 15 (Bz 25 31) (any_of HT_.out (by kernel_rfl)) ?_
   refine Kp_ 6 17 (Bz 25 95) (any_of HT_.out (by kernel_rfl)) ?_
   refine Kp_ 7 18 (Bz 25 223) (any_of HT_.out (by kernel_rfl)) ?_
   refine Kp_ 8 19 (Bz 25 479) (any_of HT_.out (by kernel_rfl)) ?_
   refine Kp_ 9 20 (Bz 25 991) (any_of HT_.out (by kernel_rfl)) ?_
   refine Kp_ 11 22 (Bz 25 3039) (any_of HT_.out (by kernel_rfl)) ?_
   refine Kp_ 12 23 (Bz 25 7135) (any_of HT_.out (by kernel_rfl)) ?_
   refine Kp_ 13 24 (Bz 25 15327) (any_of HT_.out (by kernel_rfl)) ?_
   refine Kp_ 14 25 (Bz 25 31711) (any_of HT_.out (by kernel_rfl)) ?_
   refine Kp_ 16 27 (Bz 25 97247) (any_of HT_.out (by kernel_rfl)) ?_
   refine Kp_ 17 28 (Bz 25 228319) (any_of HT_.out (by kernel_rfl)) ?_
   refine Kp_ 18 29 (Bz 25 490463) (any_of HT_.out (by kernel_rfl)) ?_
   refine Kp_ 19 30 (Bz 25 1014751) (any_of HT_.out (by kernel_rfl)) ?_
   refine Ko_ 5 16 (Bz 25 1014783) (take_ofW HT_.out HW_.out (by kernel_rfl)) hHeld ?_
   refine Ko_ 10 21 (Bz 25 1015807) (take_ofW HT_.out HW_.out (by kernel_rfl)) hHeld ?_
   refine Ko_ 15 26 (Bz 25 1048575) (take_ofW HT_.out HW_.out (by kernel_rfl)) hHeld ?_
   refine Ko_ 20 31 (Bz 25 2097151) (take_ofW HT_.out HW_.out (by kernel_rfl)) hHeld ?_
   refine Kp_ 21 32 (Bz 25 4194303) (any_of HT_.out (by kernel_rfl)) ?_
   refine one_ (i := 22) (N := some 33) (Bz 25 8388607) rfl rfl (one_of HT_.out (by kernel_rfl)) (by decide) (fun K hK => ?_)
   refine value_ (w1 := ?_) (v := ?_) (by rfl) rfl ?_ ?_
   rotate_left 2
   ·go_simp
    constructor
    ·rfl
    ·rfl
   refine hK.out _ _ ⟨(World.cell?_alloc_lt _ _ _ (World.block_lt_of_cell? _ _ (((HB.out.cell (World.block_lt_of_cell? w _ hw161_0)).trans hw161_0)))).trans (((HB.out.cell (World.block_lt_of_cell? w _ hw161_0)).trans hw161_0)), (World.cell?_alloc_lt _ _ _ (World.block_lt_of_cell? _ _ (((HB.out.cell (World.block_lt_of_cell? w _ hw161_1)).trans hw161_1)))).trans (((HB.out.cell (World.block_lt_of_cell? w _ hw161_1)).trans hw161_1)), (World.cell?_alloc_lt _ _ _ (World.block_lt_of_cell? _ _ (((HB.out.cell (World.block_lt_of_cell? w _ hw161_2)).trans hw161_2)))).trans (((HB.out.cell (World.block_lt_of_cell? w _ hw161_2)).trans hw161_2)), (World.cell?_alloc_lt _ _ _ (World.block_lt_of_cell? _ _ (((HB.out.cell (World.block_lt_of_cell? w _ hw161_3)).trans hw161_3)))).trans (((HB.out.cell (World.block_lt_of_cell? w _ hw161_3)).trans hw161_3)), (World.cell?_alloc_lt _ _ _ (World.block_lt_of_cell? _ _ (((HB.out.cell (World.block_lt_of_cell? w _ hw162_0)).trans hw162_0)))).trans (((HB.out.cell (World.block_lt_of_cell? w _ hw162_0)).trans hw162_0)), (World.cell?_alloc_lt _ _ _ (World.block_lt_of_cell? _ _ (((HB.out.cell (World.block_lt_of_cell? w _ hw162_1)).trans hw162_1)))).trans (((HB.out.cell (World.block_lt_of_cell? w _ hw162_1)).trans hw162_1)), (World.cell?_alloc_lt _ _ _ (World.block_lt_of_cell? _ _ (((HB.out.cell (World.block_lt_of_cell? w _ hw162_2)).trans hw162_2)))).trans (((HB.out.cell (World.block_lt_of_cell? w _ hw162_2)).trans hw162_2)), (World.cell?_alloc_lt _ _ _ (World.block_lt_of_cell? _ _ (((HB.out.cell (World.block_lt_of_cell? w _ hw162_3)).trans hw162_3)))).trans (((HB.out.cell (World.block_lt_of_cell? w _ hw162_3)).trans hw162_3)), (World.cell?_alloc_lt _ _ _ (World.block_lt_of_cell? _ _ (((HB.out.cell (World.block_lt_of_cell? w _ hw163_0)).trans hw163_0)))).trans (((HB.out.cell (World.block_lt_of_cell? w _ hw163_0)).trans hw163_0)), (World.cell?_alloc_lt _ _ _ (World.block_lt_of_cell? _ _ (((HB.out.cell (World.block_lt_of_cell? w _ hw163_1)).trans hw163_1)))).trans (((HB.out.cell (World.block_lt_of_cell? w _ hw163_1)).trans hw163_1)), (World.cell?_alloc_lt _ _ _ (World.block_lt_of_cell? _ _ (((HB.out.cell (World.block_lt_of_cell? w _ hw163_2)).trans hw163_2)))).trans (((HB.out.cell (World.block_lt_of_cell? w _ hw163_2)).trans hw163_2)), (World.cell?_alloc_lt _ _ _ (World.block_lt_of_cell? _ _ (((HB.out.cell (World.block_lt_of_cell? w _ hw163_3)).trans hw163_3)))).trans (((HB.out.cell (World.block_lt_of_cell? w _ hw163_3)).trans hw163_3)), (World.cell?_alloc_lt _ _ _ (World.block_lt_of_cell? _ _ (((HB.out.cell (World.block_lt_of_cell? w _ hw164_0)).trans hw164_0)))).trans (((HB.out.cell (World.block_lt_of_cell? w _ hw164_0)).trans hw164_0)), (World.cell?_alloc_lt _ _ _ (World.block_lt_of_cell? _ _ (((HB.out.cell (World.block_lt_of_cell? w _ hw164_1)).trans hw164_1)))).trans (((HB.out.cell (World.block_lt_of_cell? w _ hw164_1)).trans hw164_1)), (World.cell?_alloc_lt _ _ _ (World.block_lt_of_cell? _ _ (((HB.out.cell (World.block_lt_of_cell? w _ hw164_2)).trans hw164_2)))).trans (((HB.out.cell (World.block_lt_of_cell? w _ hw164_2)).trans hw164_2)), (World.cell?_alloc_lt _ _ _ (World.block_lt_of_cell? _ _ (((HB.out.cell (World.block_lt_of_cell? w _ hw164_3)).trans hw164_3)))).trans (((HB.out.cell (World.block_lt_of_cell? w _ hw164_3)).trans hw164_3))⟩ (fun hHeld => ?_)
   clear hK K
   refine Kn_ 33 ?_
   refine one_ (i := 23) (N := some 34) (Bz 25 16777215) rfl rfl (one_of HT_.out (by kernel_rfl)) (by decide) (fun K hK => ?_)
   refine Kd.R_append_step k86 (w0 := w) w.heap.size (by rfl) (.tmp 11) (.tmp 33) 79 86 (.agg #[(.string ⟨#[]⟩), (.string ⟨#[]⟩), (.string ⟨#[]⟩), (.bool false)]) 56 rfl Try.underlying79 info86 rfl (by decide) (by omega) u3 x3_1 (⟨(rd_T24 l0 x4_1).f0, (rd_T24 l0 x4_1).f1, (rd_T24 l0 x4_1).f2, (rd_T24 l0 x4_1).f3⟩ : S86) [.string ((rd_T24 l0 x4_1).f0), .string ((rd_T24 l0 x4_1).f1), .string ((rd_T24 l0 x4_1).f2), .bool ((rd_T24 l0 x4_1).f3)] (fun _ => True) (fun _ => False) rfl rfl ?aP (fun _ hk => hk.elim) ?aF ?aO ?aB ?aS ?aL ?_
   (case aP => exact k86_mkM _ _ _ (⟨(rd_T24 l0 x4_1).f0, (rd_T24 l0 x4_1).f1, (rd_T24 l0 x4_1).f2, (rd_T24 l0 x4_1).f3⟩ : S86))
   (case aB => exact (Ky_ HB))
   (case aF => exact (fun _ _ => trivial))
   (case aO => exact (Ku_ HO_3))
   (case aS => exact (below_size (Ky_ HB)))
   (case aL => have := LMc4.out; omega)
   intro v166 w6 ho hb hg hat
   rw [← Ny165.out] at ho
   have HO167 := Aside0.mk (ho)
   replace HB := Aside0.mk (hb)
   clear HO_3
   clear ho hb hg hat
   refine hK.out _ _ ⟨((HB.out.cell (World.block_lt_of_cell? w _ hw161_0)).trans hw161_0), ((HB.out.cell (World.block_lt_of_cell? w _ hw161_1)).trans hw161_1), ((HB.out.cell (World.block_lt_of_cell? w _ hw161_2)).trans hw161_2), ((HB.out.cell (World.block_lt_of_cell? w _ hw161_3)).trans hw161_3), ((HB.out.cell (World.block_lt_of_cell? w _ hw162_0)).trans hw162_0), ((HB.out.cell (World.block_lt_of_cell? w _ hw162_1)).trans hw162_1), ((HB.out.cell (World.block_lt_of_cell? w _ hw162_2)).trans hw162_2), ((HB.out.cell (World.block_lt_of_cell? w _ hw162_3)).trans hw162_3), ((HB.out.cell (World.block_lt_of_cell? w _ hw163_0)).trans hw163_0), ((HB.out.cell (World.block_lt_of_cell? w _ hw163_1)).trans hw163_1), ((HB.out.cell (World.block_lt_of_cell? w _ hw163_2)).trans hw163_2), ((HB.out.cell (World.block_lt_of_cell? w _ hw163_3)).trans hw163_3), ((HB.out.cell (World.block_lt_of_cell? w _ hw164_0)).trans hw164_0), ((HB.out.cell (World.block_lt_of_cell? w _ hw164_1)).trans hw164_1), ((HB.out.cell (World.block_lt_of_cell? w _ hw164_2)).trans hw164_2), ((HB.out.cell (World.block_lt_of_cell? w _ hw164_3)).trans hw164_3)⟩ (fun hHeld => ?_)
   clear hK K
   refine Kn_ 34 ?_
   refine Kp_ 24 3 (Bz 25 33554431) (any_of HT_.out (by kernel_rfl)) ?_
   refine done_ (done_of HT_.out (by kernel_rfl)) ?_
   try go_wp2
   go_roundg k1
   case measure => have := HK1.out; omega
   case rel => exact ⟨(y165), (wrap64 (x4_1 + 1)), (by first | rfl | (simp; done) | (simp [*]; done)), H', ⟨by have := HK1.out; omega⟩, ⟨by (with_reducible repeat (first | apply Kd.R_alloc | apply Kd.R_drewN | apply Kd.R_drew)); exact HO167.out⟩, ⟨Ky_ HB⟩⟩
end Go.Proofs.Ythjhkcebcgdeoaa.Q
