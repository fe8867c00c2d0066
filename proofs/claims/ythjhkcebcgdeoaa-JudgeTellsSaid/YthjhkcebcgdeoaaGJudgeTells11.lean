import Derived.Test.YthjhkcebcgdeoaaGJudgeTells2
import Derived.Test.YthjhkcebcgdeoaaGJudgeTells7
namespace Go.Proofs.Ythjhkcebcgdeoaa.Q
open Go.RowKit Go.Proofs.YthjhkcebcgdeoaaW.PrintWords Go.Proofs.YthjhkcebcgdeoaaW.PrintLast Go.Proofs.YthjhkcebcgdeoaaW.PrintMore
attribute [local go_sem] max2_int min2_int max_two min_two max_three min_three max_four min_four   -- for this text's walks alone
set_option linter.unusedVariables false
set_option linter.unusedSimpArgs false
mutual
def tenementref22_last.l0 : Nat → List (S81) → ByteArray → ByteArray → Bool → Bool → Int → Int → Int → Int → Int → Int → Int → Int → Int → Int → ByteArray → ByteArray → ByteArray → Bool → Option (ByteArray × ByteArray × ByteArray × Bool × Bool)
 | 0, _, _, _, _, _, _, _, _, _, _, _, _, _, _, _, _, _, _, _ => none
 | k + 1, x0, x1, x2, x4, x14, x15, x109, x110, x111, x112, x104, x103, x102, x101, x100, x105, x106, x107, x108 => if x15 < (x0.length : Int) then (if x4 = true then (if x14 = true then (if 0 ≤ x15 then ((tenementref07_Order.f k ((rd_T81 x0 x15).f0.f0.f0) ((rd_T81 x0 x15).f0.f0.f1) ((rd_T81 x0 x15).f0.f0.f2) ((rd_T81 x0 x15).f0.f0.f3) ((rd_T81 x0 x15).f0.f1) x104 x103 x102 x101 x100).bind fun t222 => (tenementref22_last.j1 k x0 x1 x2 x4 x14 x15 (decide (t222 ≤ 0)) x109 x110 x111 x112 x104 x103 x102 x101 x100 x105 x106 x107 x108)) else (none)) else (tenementref22_last.j1 k x0 x1 x2 x4 x14 x15 false x109 x110 x111 x112 x104 x103 x102 x101 x100 x105 x106 x107 x108)) else (if 0 ≤ x15 then ((tenementref07_Seen.f k ((rd_T81 x0 x15).f0.f0.f0) ((rd_T81 x0 x15).f0.f0.f1) ((rd_T81 x0 x15).f0.f0.f2) ((rd_T81 x0 x15).f0.f0.f3) ((rd_T81 x0 x15).f0.f1) x109 x110 x111 x112).bind fun t224 => (if t224 = true then (if x14 = true then ((tenementref07_Order.f k ((rd_T81 x0 x15).f0.f0.f0) ((rd_T81 x0 x15).f0.f0.f1) ((rd_T81 x0 x15).f0.f0.f2) ((rd_T81 x0 x15).f0.f0.f3) ((rd_T81 x0 x15).f0.f1) x104 x103 x102 x101 x100).bind fun t226 => (tenementref22_last.j1 k x0 x1 x2 x4 x14 x15 (decide (t226 ≤ 0)) x109 x110 x111 x112 x104 x103 x102 x101 x100 x105 x106 x107 x108)) else (tenementref22_last.j1 k x0 x1 x2 x4 x14 x15 false x109 x110 x111 x112 x104 x103 x102 x101 x100 x105 x106 x107 x108)) else (tenementref22_last.j1 k x0 x1 x2 x4 x14 x15 true x109 x110 x111 x112 x104 x103 x102 x101 x100 x105 x106 x107 x108))) else (none))) else (some (x105, x106, x107, x108, x14))
def tenementref22_last.j1 : Nat → List (S81) → ByteArray → ByteArray → Bool → Bool → Int → Bool → Int → Int → Int → Int → Int → Int → Int → Int → Int → ByteArray → ByteArray → ByteArray → Bool → Option (ByteArray × ByteArray × ByteArray × Bool × Bool)
 | 0, _, _, _, _, _, _, _, _, _, _, _, _, _, _, _, _, _, _, _, _ => none
 | k + 1, x0, x1, x2, x4, x14, x15, x49, x109, x110, x111, x112, x104, x103, x102, x101, x100, x105, x106, x107, x108 => if x49 = true then (tenementref22_last.l0 k x0 x1 x2 x4 x14 (wrap64 (x15 + 1)) x109 x110 x111 x112 x104 x103 x102 x101 x100 x105 x106 x107 x108) else (tenementref22_last.l1 k x0 x1 x2 x4 x14 x15 0 x109 x110 x111 x112 x104 x103 x102 x101 x100 x105 x106 x107 x108)
def tenementref22_last.l1 : Nat → List (S81) → ByteArray → ByteArray → Bool → Bool → Int → Int → Int → Int → Int → Int → Int → Int → Int → Int → Int → ByteArray → ByteArray → ByteArray → Bool → Option (ByteArray × ByteArray × ByteArray × Bool × Bool)
 | 0, _, _, _, _, _, _, _, _, _, _, _, _, _, _, _, _, _, _, _, _ => none
 | k + 1, x0, x1, x2, x4, x14, x15, x16, x109, x110, x111, x112, x104, x103, x102, x101, x100, x105, x106, x107, x108 => if 0 ≤ x15 then (if x15 < (x0.length : Int) then (if x16 < (((rd_T81 x0 x15).f1).length : Int) then (if 0 ≤ x16 then (if ((rd_T86 ((rd_T81 x0 x15).f1) x16).f0).toList = x1.toList then (if ((rd_T86 ((rd_T81 x0 x15).f1) x16).f1).toList = x2.toList then (tenementref22_last.l0 k x0 x1 x2 x4 true (wrap64 (x15 + 1)) x109 x110 x111 x112 ((rd_T81 x0 x15).f0.f0.f0) ((rd_T81 x0 x15).f0.f0.f1) ((rd_T81 x0 x15).f0.f0.f2) ((rd_T81 x0 x15).f0.f0.f3) ((rd_T81 x0 x15).f0.f1) ((rd_T86 ((rd_T81 x0 x15).f1) x16).f0) ((rd_T86 ((rd_T81 x0 x15).f1) x16).f1) ((rd_T86 ((rd_T81 x0 x15).f1) x16).f2) ((rd_T86 ((rd_T81 x0 x15).f1) x16).f3)) else (tenementref22_last.l1 k x0 x1 x2 x4 x14 x15 (wrap64 (x16 + 1)) x109 x110 x111 x112 x104 x103 x102 x101 x100 x105 x106 x107 x108)) else (tenementref22_last.l1 k x0 x1 x2 x4 x14 x15 (wrap64 (x16 + 1)) x109 x110 x111 x112 x104 x103 x102 x101 x100 x105 x106 x107 x108)) else (none)) else (tenementref22_last.l0 k x0 x1 x2 x4 x14 (wrap64 (x15 + 1)) x109 x110 x111 x112 x104 x103 x102 x101 x100 x105 x106 x107 x108)) else (none)) else (none)
end
def tenementref22_last.f (k : Nat) (l0 : List (S81)) (a1 : ByteArray) (a2 : ByteArray) (a3_0 : Int) (a3_1 : Int) (a3_2 : Int) (a3_3 : Int) (a4 : Bool) : Option (ByteArray × ByteArray × ByteArray × Bool × Bool) := tenementref22_last.l0 k l0 a1 a2 a4 false 0 a3_0 a3_1 a3_2 a3_3 0 0 0 0 0 (⟨#[]⟩ : ByteArray) (⟨#[]⟩ : ByteArray) (⟨#[]⟩ : ByteArray) false
def tenementref22_last.T7 : Bool × List (List Nat × List Nat) := (true, [([], []), ([0], [0]), ([1], [1]), ([2], [2]), ([2], [2]), ([3, 4, 2], [2, 3, 4]), ([5, 2], [2, 5]), ([6, 2], [2, 6]), ([2], [2]), ([7, 8, 2, 2], [2, 7, 8]), ([9, 2], [2, 9]), ([2, 10], [2, 10]), ([11, 9], [11]), ([12], [12]), ([13, 12, 12], [12, 13]), ([14], [14]), ([14], [14]), ([15, 16, 14], [14, 15, 16]), ([17, 14], [14, 17]), ([18, 14], [14, 18]), ([14], [14]), ([19, 20, 14, 14], [14, 19, 20]), ([21, 14], [14, 21]), ([14, 22, 12], [12, 14, 22]), ([12, 23], [12, 23])])
def tenementref22_last.B7 : List Nat := [0, 1, 3, 7, 7, 31, 63, 127, 7, 511, 1023, 2047, 4095, 8191, 16383, 32767, 32767, 131071, 262143, 524287, 32767, 2097151, 4194303, 8388607, 16777215]
theorem tenementref22_last.tab7 : rtab .any (opsOf Try.f35 7) = tenementref22_last.T7 := by kernel_rfl
theorem tenementref22_last.bits7 : waitsOk tenementref22_last.T7.2 tenementref22_last.B7 = true := by kernel_rfl
set_option maxHeartbeats 8000000 in
set_option maxRecDepth 100000 in
theorem tenementref22_last.calls (k : Nat) (A0 : Option Addr) (c0 : Nat) (l0 : List (S81)) (a1 : ByteArray) (a2 : ByteArray) (a3_0 : Int) (a3_1 : Int) (a3_2 : Int) (a3_3 : Int) (a4 : Bool) (r1 : ByteArray) (r2 : ByteArray) (r3 : ByteArray) (r4 : Bool) (r5 : Bool) (w : World) (hr0 : Kd.C k81 w A0 l0.length l0) (hc0 : l0.length ≤ c0) (h : tenementref22_last.f k l0 a1 a2 a3_0 a3_1 a3_2 a3_3 a4 = some (r1, r2, r3, r4, r5)) :
  Calls Try.prog 35 #[.slice A0 l0.length c0, .string a1, .string a2, .agg #[.int .u64 a3_0, .int .u64 a3_1, .int .u64 a3_2, .int .u64 a3_3], .bool a4] w fun e w' => e = .returned (.tuple #[.agg #[.string r1, .string r2, .string r3, .bool r4], .bool r5]) ∧ Below w.heap.size w w' := by
 have hu42 := Try.underlying42
 have hu86 := Try.underlying86
 have hu78 := Try.underlying78
 have HR0 := Aside0.mk hr0
 have HC0 := Aside0.mk hc0
 clear hr0 hc0
 have HB := Aside0.mk (Below.refl w.heap.size w)
 have H : (tenementref22_last.l0 k l0 a1 a2 a4 false 0 a3_0 a3_1 a3_2 a3_3 0 0 0 0 0 (⟨#[]⟩ : ByteArray) (⟨#[]⟩ : ByteArray) (⟨#[]⟩ : ByteArray) false) = some (r1, r2, r3, r4, r5) := h
 clear h
 have H' := Aside0.mk H
 clear H
 go_enter Try.func35, Try.ntmps35
 go_wp2_with (first | ((with_reducible refine gate_dst (N := 8) rfl ?_); refine Ka_ 8 #[.int .u64 a3_0, .int .u64 a3_1, .int .u64 a3_2, .int .u64 a3_3] 42 ?_; intro gb217 hg w6 hbox hb; have BK217 := Aside0.mk (hbox); have GW217 := Kw_ HB hg; have GE217 := GW217; replace HB := Ks_ HB hb; clear hb hbox hg) | ((with_reducible refine gate_dst (N := 10) rfl ?_); refine Ka_ 10 #[.string (⟨#[]⟩ : ByteArray), .string (⟨#[]⟩ : ByteArray), .string (⟨#[]⟩ : ByteArray), .bool false] 86 ?_; intro gb218 hg w7 hbox hb; have BK218 := Aside0.mk (hbox); have GW218 := Kw_ HB hg; have GE218 := GW218; have NB217_218 := Kl_ BK217 hg; have NB218_217 := Kr_ BK217 hg; replace BK217 := Kb_ BK217 hb; replace HB := Ks_ HB hb; clear hb hbox hg) | ((with_reducible refine gate_dst (N := 12) rfl ?_); refine Ka_ 12 #[.int .u64 0, .int .u64 0, .int .u64 0, .int .u64 0, .int .i64 0] 78 ?_; intro gb219 hg w8 hbox hb; have BK219 := Aside0.mk (hbox); have GW219 := Kw_ HB hg; have GE219 := GW219; have NB217_219 := Kl_ BK217 hg; have NB219_217 := Kr_ BK217 hg; have NB218_219 := Kl_ BK218 hg; have NB219_218 := Kr_ BK218 hg; replace BK217 := Kb_ BK217 hb; replace BK218 := Kb_ BK218 hb; replace HB := Ks_ HB hb; clear hb hbox hg; have hnb9 := NB219_217.out; have hnc9 := NB217_219.out; have hnb10 := NB219_218.out; have hnc10 := NB218_219.out; obtain ⟨hcz11_0, hcz11_1, hcz11_2, hcz11_3, hcz11_4, hfz11_0, hfz11_1, hfz11_2, hfz11_3, hfz11_4⟩ := Ke5_ BK219.out) | ((with_reducible refine gate_dst (N := 13) rfl ?_); refine Ka_ 13 #[.string (⟨#[]⟩ : ByteArray), .string (⟨#[]⟩ : ByteArray), .string (⟨#[]⟩ : ByteArray), .bool false] 86 ?_; intro gb220 hg w12 hbox hb; have BK220 := Aside0.mk (hbox); have GW220 := Kx_ HB GE219 hg; have GE220 := GW220; have NB217_220 := Aside0.mk ((by rw [hg]; exact Nat.ne_of_lt (blk_lt (g := gb217) (o := .cells #[.int .u64 a3_0, .int .u64 a3_1, .int .u64 a3_2, .int .u64 a3_3] 42 (0, 0)) (K1b_ BK217 NB217_219)) : gb217 ≠ gb220)); have NB220_217 := Aside0.mk ((by rw [hg]; exact Nat.ne_of_gt (blk_lt (g := gb217) (o := .cells #[.int .u64 a3_0, .int .u64 a3_1, .int .u64 a3_2, .int .u64 a3_3] 42 (0, 0)) (K1b_ BK217 NB217_219)) : gb220 ≠ gb217)); have NB218_220 := Aside0.mk ((by rw [hg]; exact Nat.ne_of_lt (blk_lt (g := gb218) (o := .cells #[.string (⟨#[]⟩ : ByteArray), .string (⟨#[]⟩ : ByteArray), .string (⟨#[]⟩ : ByteArray), .bool false] 86 (0, 0)) (K1b_ BK218 NB218_219)) : gb218 ≠ gb220)); have NB220_218 := Aside0.mk ((by rw [hg]; exact Nat.ne_of_gt (blk_lt (g := gb218) (o := .cells #[.string (⟨#[]⟩ : ByteArray), .string (⟨#[]⟩ : ByteArray), .string (⟨#[]⟩ : ByteArray), .bool false] 86 (0, 0)) (K1b_ BK218 NB218_219)) : gb220 ≠ gb218)); have NB219_220 := Aside0.mk ((by rw [hg]; exact Nat.ne_of_lt (blk_lt (g := gb219) (o := .cells #[.int .u64 0, .int .u64 0, .int .u64 0, .int .u64 0, .int .i64 0] 78 (0, 0)) (by refine Kv_ ?_; refine blk_put (cs := #[.int .u64 0, .int .u64 0, .int .u64 0, .int .u64 0, .int .i64 0]) ?_ 4 _ rfl; refine Kv_ ?_; refine blk_put (cs := #[.int .u64 0, .int .u64 0, .int .u64 0, .int .u64 0, .int .i64 0]) ?_ 3 _ rfl; refine Kv_ ?_; refine blk_put (cs := #[.int .u64 0, .int .u64 0, .int .u64 0, .int .u64 0, .int .i64 0]) ?_ 2 _ rfl; refine Kv_ ?_; refine blk_put (cs := #[.int .u64 0, .int .u64 0, .int .u64 0, .int .u64 0, .int .i64 0]) ?_ 1 _ rfl; refine Kv_ ?_; refine blk_put (cs := #[.int .u64 0, .int .u64 0, .int .u64 0, .int .u64 0, .int .i64 0]) ?_ 0 _ rfl; exact Kq_ BK219)) : gb219 ≠ gb220)); have NB220_219 := Aside0.mk ((by rw [hg]; exact Nat.ne_of_gt (blk_lt (g := gb219) (o := .cells #[.int .u64 0, .int .u64 0, .int .u64 0, .int .u64 0, .int .i64 0] 78 (0, 0)) (by refine Kv_ ?_; refine blk_put (cs := #[.int .u64 0, .int .u64 0, .int .u64 0, .int .u64 0, .int .i64 0]) ?_ 4 _ rfl; refine Kv_ ?_; refine blk_put (cs := #[.int .u64 0, .int .u64 0, .int .u64 0, .int .u64 0, .int .i64 0]) ?_ 3 _ rfl; refine Kv_ ?_; refine blk_put (cs := #[.int .u64 0, .int .u64 0, .int .u64 0, .int .u64 0, .int .i64 0]) ?_ 2 _ rfl; refine Kv_ ?_; refine blk_put (cs := #[.int .u64 0, .int .u64 0, .int .u64 0, .int .u64 0, .int .i64 0]) ?_ 1 _ rfl; refine Kv_ ?_; refine blk_put (cs := #[.int .u64 0, .int .u64 0, .int .u64 0, .int .u64 0, .int .i64 0]) ?_ 0 _ rfl; exact Kq_ BK219)) : gb220 ≠ gb219)); replace BK217 := Kf_ BK217 NB217_219 hb; replace BK218 := Kf_ BK218 NB218_219 hb; replace BK219 := Aside0.mk (blk_below (g := gb219) (o := .cells #[.int .u64 0, .int .u64 0, .int .u64 0, .int .u64 0, .int .i64 0] 78 (0, 0)) (by refine Kv_ ?_; refine blk_put (cs := #[.int .u64 0, .int .u64 0, .int .u64 0, .int .u64 0, .int .i64 0]) ?_ 4 _ rfl; refine Kv_ ?_; refine blk_put (cs := #[.int .u64 0, .int .u64 0, .int .u64 0, .int .u64 0, .int .i64 0]) ?_ 3 _ rfl; refine Kv_ ?_; refine blk_put (cs := #[.int .u64 0, .int .u64 0, .int .u64 0, .int .u64 0, .int .i64 0]) ?_ 2 _ rfl; refine Kv_ ?_; refine blk_put (cs := #[.int .u64 0, .int .u64 0, .int .u64 0, .int .u64 0, .int .i64 0]) ?_ 1 _ rfl; refine Kv_ ?_; refine blk_put (cs := #[.int .u64 0, .int .u64 0, .int .u64 0, .int .u64 0, .int .i64 0]) ?_ 0 _ rfl; exact Kq_ BK219) hb); replace HB := Kt_ HB GE219 hb; clear hb hbox hg; have hnb13 := NB220_217.out; have hnc13 := NB217_220.out; have hnb14 := NB220_218.out; have hnc14 := NB218_220.out; have hnb15 := NB220_219.out; have hnc15 := NB219_220.out; obtain ⟨hcz16_0, hcz16_1, hcz16_2, hcz16_3, hfz16_0, hfz16_1, hfz16_2, hfz16_3⟩ := Ke4_ BK220.out))
 go_loopg [14, 15] k (fun kq v14 v15 w' => ∃ (x14_1 : Bool) (x15_1 : Int) (x104_1 : Int) (x103_1 : Int) (x102_1 : Int) (x101_1 : Int) (x100_1 : Int) (x105_1 : ByteArray) (x106_1 : ByteArray) (x107_1 : ByteArray) (x108_1 : Bool), v14 = .bool x14_1 ∧ v15 = .int .i64 x15_1 ∧ Aside0 (tenementref22_last.l0 kq l0 a1 a2 a4 x14_1 x15_1 a3_0 a3_1 a3_2 a3_3 x104_1 x103_1 x102_1 x101_1 x100_1 x105_1 x106_1 x107_1 x108_1 = some (r1, r2, r3, r4, r5)) ∧ Aside0 (kq ≤ k) ∧ Aside0 (w'.heap[gb217]? = some (.cells #[.int .u64 a3_0, .int .u64 a3_1, .int .u64 a3_2, .int .u64 a3_3] 42 (0, 0))) ∧ Aside0 (w'.heap[gb218]? = some (.cells #[.string (⟨#[]⟩ : ByteArray), .string (⟨#[]⟩ : ByteArray), .string (⟨#[]⟩ : ByteArray), .bool false] 86 (0, 0))) ∧ Aside0 (w'.heap[gb219]? = some (.cells #[.int .u64 x104_1, .int .u64 x103_1, .int .u64 x102_1, .int .u64 x101_1, .int .i64 x100_1] 78 (0, 0))) ∧ Aside0 (w'.heap[gb220]? = some (.cells #[.string x105_1, .string x106_1, .string x107_1, .bool x108_1] 86 (0, 0))) ∧ Aside0 (Below w.heap.size w w'))
 case atStart => exact ⟨(false), (0), (0), (0), (0), (0), (0), ((⟨#[]⟩ : ByteArray)), ((⟨#[]⟩ : ByteArray)), ((⟨#[]⟩ : ByteArray)), (false), (by first | rfl | (simp; done) | (simp [*]; done)), (by first | rfl | (simp; done) | (simp [*]; done)), H', ⟨Nat.le_refl _⟩, ⟨by exact K1b_ BK217 NB217_220⟩, ⟨by exact K1b_ BK218 NB218_220⟩, ⟨by exact K1b_ BK219 NB219_220⟩, ⟨by refine Kv_ ?_; refine blk_put (cs := #[.string (⟨#[]⟩ : ByteArray), .string (⟨#[]⟩ : ByteArray), .string (⟨#[]⟩ : ByteArray), .bool false]) ?_ 3 _ rfl; refine Kv_ ?_; refine blk_put (cs := #[.string (⟨#[]⟩ : ByteArray), .string (⟨#[]⟩ : ByteArray), .string (⟨#[]⟩ : ByteArray), .bool false]) ?_ 2 _ rfl; refine Kv_ ?_; refine blk_put (cs := #[.string (⟨#[]⟩ : ByteArray), .string (⟨#[]⟩ : ByteArray), .string (⟨#[]⟩ : ByteArray), .bool false]) ?_ 1 _ rfl; refine Kv_ ?_; refine blk_put (cs := #[.string (⟨#[]⟩ : ByteArray), .string (⟨#[]⟩ : ByteArray), .string (⟨#[]⟩ : ByteArray), .bool false]) ?_ 0 _ rfl; exact Kq_ BK220⟩, ⟨K4a_ HB GE217 GE218 GE219 GE220⟩⟩
 case round =>
  clear H'
  try clear c1
  try clear p2
  try clear c3
  try clear c9
  try clear c10
  try clear c13
  try clear c14
  try clear c15
  try clear hcz11_0
  try clear hcz11_1
  try clear hcz11_2
  try clear hcz11_3
  try clear hcz11_4
  try clear hcz16_0
  try clear hcz16_1
  try clear hcz16_2
  try clear hcz16_3
  try clear hfz11_0
  try clear hfz11_1
  try clear hfz11_2
  try clear hfz11_3
  try clear hfz11_4
  try clear hfz16_0
  try clear hfz16_1
  try clear hfz16_2
  try clear hfz16_3
  obtain ⟨x14_1, x15_1, x104_1, x103_1, x102_1, x101_1, x100_1, x105_1, x106_1, x107_1, x108_1, rfl, rfl, HA, HK1, BK217, BK218, BK219, BK220, HB⟩ := hrel
  cases gk with
  | zero => exact absurd HA.out (by simp [tenementref22_last.l0])
  | succ k1 =>
   have H := HA.out
   clear HA
   simp only [tenementref22_last.l0] at H
   by_cases c17 : x15_1 < (l0.length : Int)
   rotate_left
   ·rw [if_neg c17] at H
    have c17b0 : decide (x15_1 < (l0.length : Int)) = false := decide_eq_false c17
    clear c17
    simp only [Option.some.injEq, Prod.mk.injEq] at H
    obtain ⟨rfl, rfl, rfl, rfl, rfl⟩ := H
    have hnb52 := NB220_217.out
    have hnc52 := NB217_220.out
    have hnb53 := NB220_218.out
    have hnc53 := NB218_220.out
    have hnb54 := NB220_219.out
    have hnc54 := NB219_220.out
    obtain ⟨hcz55_0, hcz55_1, hcz55_2, hcz55_3, hfz55_0, hfz55_1, hfz55_2, hfz55_3⟩ := Ke4_ BK220.out
    have hnb56 := NB218_217.out
    have hnc56 := NB217_218.out
    have hnb57 := NB218_219.out
    have hnc57 := NB219_218.out
    obtain ⟨hcz58_0, hcz58_1, hcz58_2, hcz58_3, hfz58_0, hfz58_1, hfz58_2, hfz58_3⟩ := Ke4_ BK218.out
    go_wp2
    refine bodyPost_ret (results_ct rfl _ _ gb218 86 #[.string x105_1, .string x106_1, .string x107_1, .bool x108_1] (0, 0) _ rfl (by refine Kv_ ?_; refine blk_put (cs := #[.string x105_1, .string x106_1, .string x107_1, .bool false]) ?_ 3 _ rfl; refine Kv_ ?_; refine blk_put (cs := #[.string x105_1, .string x106_1, .string (⟨#[]⟩ : ByteArray), .bool false]) ?_ 2 _ rfl; refine Kv_ ?_; refine blk_put (cs := #[.string x105_1, .string (⟨#[]⟩ : ByteArray), .string (⟨#[]⟩ : ByteArray), .bool false]) ?_ 1 _ rfl; refine Kv_ ?_; refine blk_put (cs := #[.string (⟨#[]⟩ : ByteArray), .string (⟨#[]⟩ : ByteArray), .string (⟨#[]⟩ : ByteArray), .bool false]) ?_ 0 _ rfl; exact Kq_ BK218) Try.underlying86 rfl (by kernel_rfl)) rfl ?_
    exact ⟨Kh_, K4a_ HB GE217 GE218 GE219 GE220⟩
   rw [if_pos c17] at H
   have c17b0 : decide (x15_1 < (l0.length : Int)) = true := decide_eq_true c17
   clear c17
   have HC18 := Aside0.mk H
   clear H
   go_upto_region 7 with (fail)
   go_cut [49] (fun v49 wc => ∃ (kq : Nat) (x49_17 : Bool), v49 = .bool x49_17 ∧ Aside0 (tenementref22_last.j1 kq l0 a1 a2 a4 x14_1 x15_1 x49_17 a3_0 a3_1 a3_2 a3_3 x104_1 x103_1 x102_1 x101_1 x100_1 x105_1 x106_1 x107_1 x108_1 = some (r1, r2, r3, r4, r5)) ∧ Aside0 (kq ≤ k1) ∧ Aside0 (wc.heap[gb217]? = some (.cells #[.int .u64 a3_0, .int .u64 a3_1, .int .u64 a3_2, .int .u64 a3_3] 42 (0, 0))) ∧ Aside0 (wc.heap[gb218]? = some (.cells #[.string (⟨#[]⟩ : ByteArray), .string (⟨#[]⟩ : ByteArray), .string (⟨#[]⟩ : ByteArray), .bool false] 86 (0, 0))) ∧ Aside0 (wc.heap[gb219]? = some (.cells #[.int .u64 x104_1, .int .u64 x103_1, .int .u64 x102_1, .int .u64 x101_1, .int .i64 x100_1] 78 (0, 0))) ∧ Aside0 (wc.heap[gb220]? = some (.cells #[.string x105_1, .string x106_1, .string x107_1, .bool x108_1] 86 (0, 0))) ∧ Aside0 (Below w.heap.size w wc))
   case first =>
    have H := HC18.out
    clear HC18
    by_cases c19 : a4 = true
    ·subst c19
     have H1 : (if x14_1 = true then (if 0 ≤ x15_1 then ((tenementref07_Order.f k1 ((rd_T81 l0 x15_1).f0.f0.f0) ((rd_T81 l0 x15_1).f0.f0.f1) ((rd_T81 l0 x15_1).f0.f0.f2) ((rd_T81 l0 x15_1).f0.f0.f3) ((rd_T81 l0 x15_1).f0.f1) x104_1 x103_1 x102_1 x101_1 x100_1).bind fun t222 => (tenementref22_last.j1 k1 l0 a1 a2 true x14_1 x15_1 (decide (t222 ≤ 0)) a3_0 a3_1 a3_2 a3_3 x104_1 x103_1 x102_1 x101_1 x100_1 x105_1 x106_1 x107_1 x108_1)) else (none)) else (tenementref22_last.j1 k1 l0 a1 a2 true x14_1 x15_1 false a3_0 a3_1 a3_2 a3_3 x104_1 x103_1 x102_1 x101_1 x100_1 x105_1 x106_1 x107_1 x108_1)) = some (r1, r2, r3, r4, r5) := by rw [if_pos rfl] at H; exact H
     clear H
     have H := H1
     clear H1
     by_cases c20 : x14_1 = true
     rotate_left
     ·replace c20 := Bool.eq_false_iff.mpr c20
      subst c20
      have H1 : (tenementref22_last.j1 k1 l0 a1 a2 true false x15_1 false a3_0 a3_1 a3_2 a3_3 x104_1 x103_1 x102_1 x101_1 x100_1 x105_1 x106_1 x107_1 x108_1) = some (r1, r2, r3, r4, r5) := by rw [if_neg (show ¬ (false = true) by decide)] at H; exact H
      clear H
      have H := H1
      clear H1
      have H' := Aside0.mk H
      clear H
      try go_wp2
      replace BK217 := Kd_ BK217
      replace BK218 := Kd_ BK218
      replace BK219 := Kd_ BK219
      replace BK220 := Kd_ BK220
      replace HB := Aside0.mk (below_drew1 HB.out)
      refine start_ (n := 25) (S := fun w' => True) (ds := []) (mB_ 25 0) (by kernel_rfl) rfl rfl trivial (fun hHeld => ?_); refine with_tabW tenementref22_last.tab7 tenementref22_last.bits7 (fun HT_ HW_ => ?_)
      generalize wr.drew = w25 at BK217 BK218 BK219 BK220 HB hHeld ⊢
      refine Kp_ 0 25 (Bz 25 1) (any_of HT_.out (by kernel_rfl)) ?_
      refine Kp_ 1 26 (Bz 25 3) (any_of HT_.out (by kernel_rfl)) ?_
      refine Kp_ 2 27 (Bz 25 7) (any_of HT_.out (by kernel_rfl)) ?_
      refine pure_ (i := 3) (N := some 28) (v := undef) (a' := ?_) (mB_ 25 15) rfl rfl (any_of HT_.out (by kernel_rfl)) (fun _ _ _ h => h) (Or.inr ⟨by rfl, rfl⟩) ?_ ?_
      rotate_left
      ·simp only [Act.put, List.setIfInBounds_toArray, List.set_cons_zero, List.set_cons_succ, i64_w, i32_w]
       rfl
      refine pure_ (i := 4) (N := some 29) (v := undef) (a' := ?_) (mB_ 25 31) rfl rfl (any_of HT_.out (by kernel_rfl)) (fun _ _ _ h => h) (Or.inr ⟨by rfl, rfl⟩) ?_ ?_
      rotate_left
      ·simp only [Act.put, List.setIfInBounds_toArray, List.set_cons_zero, List.set_cons_succ, i64_w, i32_w]
       rfl
      refine pure_ (i := 5) (N := some 30) (v := undef) (a' := ?_) (mB_ 25 63) rfl rfl (any_of HT_.out (by kernel_rfl)) (fun _ _ _ h => h) (Or.inr ⟨by rfl, rfl⟩) ?_ ?_
      rotate_left
      ·simp only [Act.put, List.setIfInBounds_toArray, List.set_cons_zero, List.set_cons_succ, i64_w, i32_w]
       rfl
      refine pure_ (i := 6) (N := some 31) (v := undef) (a' := ?_) (mB_ 25 127) rfl rfl (any_of HT_.out (by kernel_rfl)) (fun _ _ _ h => h) (Or.inr ⟨by rfl, rfl⟩) ?_ ?_
      rotate_left
      ·simp only [Act.put, List.setIfInBounds_toArray, List.set_cons_zero, List.set_cons_succ, i64_w, i32_w]
       rfl
      refine pure_ (i := 7) (N := some 32) (v := undef) (a' := ?_) (mB_ 25 255) rfl rfl (any_of HT_.out (by kernel_rfl)) (fun _ _ _ h => h) (Or.inr ⟨by rfl, rfl⟩) ?_ ?_
      rotate_left
      ·simp only [Act.put, List.setIfInBounds_toArray, List.set_cons_zero, List.set_cons_succ, i64_w, i32_w]
       rfl
      refine pure_ (i := 8) (N := some 33) (v := undef) (a' := ?_) (mB_ 25 511) rfl rfl (any_of HT_.out (by kernel_rfl)) (fun _ _ _ h => h) (Or.inr ⟨by rfl, rfl⟩) ?_ ?_
      rotate_left
      ·simp only [Act.put, List.setIfInBounds_toArray, List.set_cons_zero, List.set_cons_succ, i64_w, i32_w]
       rfl
      refine pure_ (i := 9) (N := some 34) (v := undef) (a' := ?_) (mB_ 25 1023) rfl rfl (any_of HT_.out (by kernel_rfl)) (fun _ _ _ h => h) (Or.inr ⟨by rfl, rfl⟩) ?_ ?_
      rotate_left
      ·simp only [Act.put, List.setIfInBounds_toArray, List.set_cons_zero, List.set_cons_succ, i64_w, i32_w]
       rfl
      refine pure_ (i := 10) (N := some 35) (v := undef) (a' := ?_) (mB_ 25 2047) rfl rfl (any_of HT_.out (by kernel_rfl)) (fun _ _ _ h => h) (Or.inr ⟨by rfl, rfl⟩) ?_ ?_
      rotate_left
      ·simp only [Act.put, List.setIfInBounds_toArray, List.set_cons_zero, List.set_cons_succ, i64_w, i32_w]
       rfl
      refine Kp_ 11 36 (Bz 25 4095) (any_of HT_.out (by kernel_rfl)) ?_
      refine Kp_ 12 37 (Bz 25 8191) (any_of HT_.out (by kernel_rfl)) ?_
      refine Kp_ 13 38 (Bz 25 16383) (any_of HT_.out (by kernel_rfl)) ?_
      refine Kp_ 14 39 (Bz 25 32767) (any_of HT_.out (by kernel_rfl)) ?_
      refine pure_ (i := 15) (N := some 40) (v := undef) (a' := ?_) (mB_ 25 65535) rfl rfl (any_of HT_.out (by kernel_rfl)) (fun _ _ _ h => h) (Or.inr ⟨by rfl, rfl⟩) ?_ ?_
      rotate_left
      ·simp only [Act.put, List.setIfInBounds_toArray, List.set_cons_zero, List.set_cons_succ, i64_w, i32_w]
       rfl
      refine pure_ (i := 16) (N := some 41) (v := undef) (a' := ?_) (mB_ 25 131071) rfl rfl (any_of HT_.out (by kernel_rfl)) (fun _ _ _ h => h) (Or.inr ⟨by rfl, rfl⟩) ?_ ?_
      rotate_left
      ·simp only [Act.put, List.setIfInBounds_toArray, List.set_cons_zero, List.set_cons_succ, i64_w, i32_w]
       rfl
      refine pure_ (i := 17) (N := some 42) (v := undef) (a' := ?_) (mB_ 25 262143) rfl rfl (any_of HT_.out (by kernel_rfl)) (fun _ _ _ h => h) (Or.inr ⟨by rfl, rfl⟩) ?_ ?_
      rotate_left
      ·simp only [Act.put, List.setIfInBounds_toArray, List.set_cons_zero, List.set_cons_succ, i64_w, i32_w]
       rfl
      refine pure_ (i := 18) (N := some 43) (v := undef) (a' := ?_) (mB_ 25 524287) rfl rfl (any_of HT_.out (by kernel_rfl)) (fun _ _ _ h => h) (Or.inr ⟨by rfl, rfl⟩) ?_ ?_
      rotate_left
      ·simp only [Act.put, List.setIfInBounds_toArray, List.set_cons_zero, List.set_cons_succ, i64_w, i32_w]
       rfl
      refine pure_ (i := 19) (N := some 44) (v := undef) (a' := ?_) (mB_ 25 1048575) rfl rfl (any_of HT_.out (by kernel_rfl)) (fun _ _ _ h => h) (Or.inr ⟨by rfl, rfl⟩) ?_ ?_
      rotate_left
      ·simp only [Act.put, List.setIfInBounds_toArray, List.set_cons_zero, List.set_cons_succ, i64_w, i32_w]
       rfl
      refine pure_ (i := 20) (N := some 45) (v := undef) (a' := ?_) (mB_ 25 2097151) rfl rfl (any_of HT_.out (by kernel_rfl)) (fun _ _ _ h => h) (Or.inr ⟨by rfl, rfl⟩) ?_ ?_
      rotate_left
      ·simp only [Act.put, List.setIfInBounds_toArray, List.set_cons_zero, List.set_cons_succ, i64_w, i32_w]
       rfl
      refine pure_ (i := 21) (N := some 46) (v := undef) (a' := ?_) (mB_ 25 4194303) rfl rfl (any_of HT_.out (by kernel_rfl)) (fun _ _ _ h => h) (Or.inr ⟨by rfl, rfl⟩) ?_ ?_
      rotate_left
      ·simp only [Act.put, List.setIfInBounds_toArray, List.set_cons_zero, List.set_cons_succ, i64_w, i32_w]
       rfl
      refine pure_ (i := 22) (N := some 47) (v := undef) (a' := ?_) (mB_ 25 8388607) rfl rfl (any_of HT_.out (by kernel_rfl)) (fun _ _ _ h => h) (Or.inr ⟨by rfl, rfl⟩) ?_ ?_
      rotate_left
      ·simp only [Act.put, List.setIfInBounds_toArray, List.set_cons_zero, List.set_cons_succ, i64_w, i32_w]
       rfl
      refine Kp_ 23 48 (Bz 25 16777215) (any_of HT_.out (by kernel_rfl)) ?_
      refine Kp_ 24 49 (Bz 25 33554431) (any_of HT_.out (by kernel_rfl)) ?_
      refine done_ (done_of HT_.out (by kernel_rfl)) ?_
      try go_wp2
      go_meet
      case rel => exact ⟨_, (false), (by first | rfl | (simp; done) | (simp [*]; done)), H', ⟨by have := HK1.out; first | omega | exact Nat.le_refl _⟩, ⟨by exact Kq_ BK217⟩, ⟨by exact Kq_ BK218⟩, ⟨by exact Kq_ BK219⟩, ⟨by exact Kq_ BK220⟩, ⟨K4a_ HB GE217 GE218 GE219 GE220⟩⟩
     subst c20
     have H1 : (if 0 ≤ x15_1 then ((tenementref07_Order.f k1 ((rd_T81 l0 x15_1).f0.f0.f0) ((rd_T81 l0 x15_1).f0.f0.f1) ((rd_T81 l0 x15_1).f0.f0.f2) ((rd_T81 l0 x15_1).f0.f0.f3) ((rd_T81 l0 x15_1).f0.f1) x104_1 x103_1 x102_1 x101_1 x100_1).bind fun t222 => (tenementref22_last.j1 k1 l0 a1 a2 true true x15_1 (decide (t222 ≤ 0)) a3_0 a3_1 a3_2 a3_3 x104_1 x103_1 x102_1 x101_1 x100_1 x105_1 x106_1 x107_1 x108_1)) else (none)) = some (r1, r2, r3, r4, r5) := by rw [if_pos rfl] at H; exact H
     clear H
     have H := H1
     clear H1
     by_cases c21 : 0 ≤ x15_1
     rotate_left
     ·rw [if_neg c21] at H
      exact absurd H (by simp)
     rw [if_pos c21] at H
     have c21b0 : decide (0 ≤ x15_1) = true := decide_eq_true c21
     clear c21
     (first | rw [c21b0] | (simp only [i64_w, i32_w]; rw [c21b0]) | skip)
     replace H := Option.bind_eq_some_iff.mp H
     obtain ⟨t222, A220, H⟩ := H
     replace H : (tenementref22_last.j1 k1 l0 a1 a2 true true x15_1 (decide (t222 ≤ 0)) a3_0 a3_1 a3_2 a3_3 x104_1 x103_1 x102_1 x101_1 x100_1 x105_1 x106_1 x107_1 x108_1) = some (r1, r2, r3, r4, r5) := H
     have A22 := Aside0.mk A220
     clear A220
     have H' := Aside0.mk H
     clear H
     try go_wp2
     replace BK217 := Kd_ BK217
     replace BK218 := Kd_ BK218
     replace BK219 := Kd_ BK219
     replace BK220 := Kd_ BK220
     replace HB := Aside0.mk (below_drew1 HB.out)
     have p221 : 0 ≤ (x15_1 : Int) := of_decide_eq_true (by first | (with_reducible assumption) | assumption)
     have q221 : x15_1 < (l0.length : Int) := of_decide_eq_true (by first | (with_reducible assumption) | assumption)
     obtain ⟨ad221, A221_5, c221_5, e221, hx221_0, hx221_1, hx221_2, hx221_3, hx221_4, hx221_5, hl221_5, hi221_5⟩ := at_T81 HR0.out x15_1 p221 q221
     have hw221_5 := hx221_5
     have hw221_4 := hx221_4
     have hw221_3 := hx221_3
     have hw221_2 := hx221_2
     have hw221_1 := hx221_1
     have hw221_0 := hx221_0
     cases e221
     replace hx221_0 := (HB.out.cell (World.block_lt_of_cell? w _ hx221_0)).trans hx221_0
     replace hx221_1 := (HB.out.cell (World.block_lt_of_cell? w _ hx221_1)).trans hx221_1
     replace hx221_2 := (HB.out.cell (World.block_lt_of_cell? w _ hx221_2)).trans hx221_2
     replace hx221_3 := (HB.out.cell (World.block_lt_of_cell? w _ hx221_3)).trans hx221_3
     replace hx221_4 := (HB.out.cell (World.block_lt_of_cell? w _ hx221_4)).trans hx221_4
     replace hx221_5 := (HB.out.cell (World.block_lt_of_cell? w _ hx221_5)).trans hx221_5
     have HR221_5 := Aside0.mk hi221_5
     have HC221_5 := Aside0.mk hl221_5
     clear hi221_5 hl221_5
     replace p221 := eq_true p221
     replace q221 := eq_true q221
     refine start_ (n := 25) (S := fun w' => w'.cell? ⟨gb219, 0, none⟩ = some (.int .u64 x104_1) ∧ w'.cell? ⟨gb219, 1, none⟩ = some (.int .u64 x103_1) ∧ w'.cell? ⟨gb219, 2, none⟩ = some (.int .u64 x102_1) ∧ w'.cell? ⟨gb219, 3, none⟩ = some (.int .u64 x101_1) ∧ w'.cell? ⟨gb219, 4, none⟩ = some (.int .i64 x100_1) ∧ w'.cell? (ad221.add ((x15_1).toNat * 6)) = some (.int .u64 ((rd_T81 l0 x15_1).f0.f0.f0)) ∧ w'.cell? ⟨(ad221.add ((x15_1).toNat * 6)).block, (ad221.add ((x15_1).toNat * 6)).off + 1, none⟩ = some (.int .u64 ((rd_T81 l0 x15_1).f0.f0.f1)) ∧ w'.cell? ⟨(ad221.add ((x15_1).toNat * 6)).block, (ad221.add ((x15_1).toNat * 6)).off + 2, none⟩ = some (.int .u64 ((rd_T81 l0 x15_1).f0.f0.f2)) ∧ w'.cell? ⟨(ad221.add ((x15_1).toNat * 6)).block, (ad221.add ((x15_1).toNat * 6)).off + 3, none⟩ = some (.int .u64 ((rd_T81 l0 x15_1).f0.f0.f3)) ∧ w'.cell? ⟨(ad221.add ((x15_1).toNat * 6)).block, (ad221.add ((x15_1).toNat * 6)).off + 4, none⟩ = some (.int .i64 ((rd_T81 l0 x15_1).f0.f1)) ∧ w'.cell? ⟨(ad221.add ((x15_1).toNat * 6)).block, (ad221.add ((x15_1).toNat * 6)).off + 5, none⟩ = some (.slice A221_5 ((rd_T81 l0 x15_1).f1).length c221_5)) (ds := []) (mB_ 25 0) (by kernel_rfl) rfl rfl ⟨Km_ BK219 0, Km_ BK219 1, Km_ BK219 2, Km_ BK219 3, Km_ BK219 4, ((HB.out.cell (World.block_lt_of_cell? w _ hw221_0)).trans hw221_0), ((HB.out.cell (World.block_lt_of_cell? w _ hw221_1)).trans hw221_1), ((HB.out.cell (World.block_lt_of_cell? w _ hw221_2)).trans hw221_2), ((HB.out.cell (World.block_lt_of_cell? w _ hw221_3)).trans hw221_3), ((HB.out.cell (World.block_lt_of_cell? w _ hw221_4)).trans hw221_4), ((HB.out.cell (World.block_lt_of_cell? w _ hw221_5)).trans hw221_5)⟩ (fun hHeld => ?_); refine with_tabW tenementref22_last.tab7 tenementref22_last.bits7 (fun HT_ HW_ => ?_)
     generalize wr.drew = w23 at BK217 BK218 BK219 BK220 HB HR221_5 hx221_0 hx221_1 hx221_2 hx221_3 hx221_4 hx221_5 hHeld ⊢
     refine Kp_ 0 25 (Bz 25 1) (any_of HT_.out (by kernel_rfl)) ?_
     refine Kp_ 1 26 (Bz 25 3) (any_of HT_.out (by kernel_rfl)) ?_
     refine Kp_ 2 27 (Bz 25 7) (any_of HT_.out (by kernel_rfl)) ?_
     refine pure_ (i := 3) (N := some 28) (v := undef) (a' := ?_) (mB_ 25 15) rfl rfl (any_of HT_.out (by kernel_rfl)) (fun _ _ _ h => h) (Or.inr ⟨by rfl, rfl⟩) ?_ ?_
     rotate_left
     ·simp only [Act.put, List.setIfInBounds_toArray, List.set_cons_zero, List.set_cons_succ, i64_w, i32_w]
      rfl
     refine pure_ (i := 4) (N := some 29) (v := undef) (a' := ?_) (mB_ 25 31) rfl rfl (any_of HT_.out (by kernel_rfl)) (fun _ _ _ h => h) (Or.inr ⟨by rfl, rfl⟩) ?_ ?_
     rotate_left
     ·simp only [Act.put, List.setIfInBounds_toArray, List.set_cons_zero, List.set_cons_succ, i64_w, i32_w]
      rfl
     refine pure_ (i := 5) (N := some 30) (v := undef) (a' := ?_) (mB_ 25 63) rfl rfl (any_of HT_.out (by kernel_rfl)) (fun _ _ _ h => h) (Or.inr ⟨by rfl, rfl⟩) ?_ ?_
     rotate_left
     ·simp only [Act.put, List.setIfInBounds_toArray, List.set_cons_zero, List.set_cons_succ, i64_w, i32_w]
      rfl
     refine pure_ (i := 6) (N := some 31) (v := undef) (a' := ?_) (mB_ 25 127) rfl rfl (any_of HT_.out (by kernel_rfl)) (fun _ _ _ h => h) (Or.inr ⟨by rfl, rfl⟩) ?_ ?_
     rotate_left
     ·simp only [Act.put, List.setIfInBounds_toArray, List.set_cons_zero, List.set_cons_succ, i64_w, i32_w]
      rfl
     refine pure_ (i := 7) (N := some 32) (v := undef) (a' := ?_) (mB_ 25 255) rfl rfl (any_of HT_.out (by kernel_rfl)) (fun _ _ _ h => h) (Or.inr ⟨by rfl, rfl⟩) ?_ ?_
     rotate_left
     ·simp only [Act.put, List.setIfInBounds_toArray, List.set_cons_zero, List.set_cons_succ, i64_w, i32_w]
      rfl
     refine pure_ (i := 8) (N := some 33) (v := undef) (a' := ?_) (mB_ 25 511) rfl rfl (any_of HT_.out (by kernel_rfl)) (fun _ _ _ h => h) (Or.inr ⟨by rfl, rfl⟩) ?_ ?_
     rotate_left
     ·simp only [Act.put, List.setIfInBounds_toArray, List.set_cons_zero, List.set_cons_succ, i64_w, i32_w]
      rfl
     refine pure_ (i := 9) (N := some 34) (v := undef) (a' := ?_) (mB_ 25 1023) rfl rfl (any_of HT_.out (by kernel_rfl)) (fun _ _ _ h => h) (Or.inr ⟨by rfl, rfl⟩) ?_ ?_
     rotate_left
     ·simp only [Act.put, List.setIfInBounds_toArray, List.set_cons_zero, List.set_cons_succ, i64_w, i32_w]
      rfl
     refine pure_ (i := 10) (N := some 35) (v := undef) (a' := ?_) (mB_ 25 2047) rfl rfl (any_of HT_.out (by kernel_rfl)) (fun _ _ _ h => h) (Or.inr ⟨by rfl, rfl⟩) ?_ ?_
     rotate_left
     ·simp only [Act.put, List.setIfInBounds_toArray, List.set_cons_zero, List.set_cons_succ, i64_w, i32_w]
      rfl
     refine Kp_ 11 36 (Bz 25 4095) (any_of HT_.out (by kernel_rfl)) ?_
     refine Kp_ 12 37 (Bz 25 8191) (any_of HT_.out (by kernel_rfl)) ?_
     refine Kp_ 13 38 (Bz 25 16383) (any_of HT_.out (by kernel_rfl)) ?_
     refine Kp_ 14 39 (Bz 25 32767) (any_of HT_.out (by kernel_rfl)) ?_
     refine Kp_ 15 40 (Bz 25 65535) (any_of HT_.out (by kernel_rfl)) ?_
     refine Kp_ 16 41 (Bz 25 131071) (any_of HT_.out (by kernel_rfl)) ?_
     refine Kp_ 17 42 (Bz 25 262143) (any_of HT_.out (by kernel_rfl)) ?_
     refine Kp_ 18 43 (Bz 25 524287) (any_of HT_.out (by kernel_rfl)) ?_
     refine Ko_ 19 44 (Bz 25 1048575) (take_ofW HT_.out HW_.out (by kernel_rfl)) hHeld ?_
     refine Ko_ 20 45 (Bz 25 2097151) (take_ofW HT_.out HW_.out (by kernel_rfl)) hHeld ?_
     refine one_ (i := 21) (N := some 46) (Bz 25 4194303) rfl rfl (one_of HT_.out (by kernel_rfl)) (by decide) (fun K hK => ?_)
     refine goes_ Try.func39 (by kernel_rfl) rfl #[.agg #[.int .u64 ((rd_T81 l0 x15_1).f0.f0.f0), .int .u64 ((rd_T81 l0 x15_1).f0.f0.f1), .int .u64 ((rd_T81 l0 x15_1).f0.f0.f2), .int .u64 ((rd_T81 l0 x15_1).f0.f0.f3), .int .i64 ((rd_T81 l0 x15_1).f0.f1)], .agg #[.int .u64 x104_1, .int .u64 x103_1, .int .u64 x102_1, .int .u64 x101_1, .int .i64 x100_1]] (by rfl) rfl rfl (by (try simp only [List.map_toArray, List.map_cons, List.map_nil]); first | done | rfl | (simp only [List.length_drop, List.length_take]; rfl)) ?_
     with_reducible refine (tenementref07_Order.calls k1 ((rd_T81 l0 x15_1).f0.f0.f0) ((rd_T81 l0 x15_1).f0.f0.f1) ((rd_T81 l0 x15_1).f0.f0.f2) ((rd_T81 l0 x15_1).f0.f0.f3) ((rd_T81 l0 x15_1).f0.f1) x104_1 x103_1 x102_1 x101_1 x100_1 t222 _ A22.out).mono ?_
     rintro e w24 ⟨rfl, hb⟩
     refine ⟨_, rfl, ?_⟩
     replace BK217 := Kb_ BK217 hb
     replace BK218 := Kb_ BK218 hb
     replace BK219 := Kb_ BK219 hb
     replace BK220 := Kb_ BK220 hb
     replace HB := Ks_ HB hb
     (try clear hb)
     (try clear hb2)
     (try clear hk)
     (try clear hi)
     refine hK.out _ _ ⟨Km_ BK219 0, Km_ BK219 1, Km_ BK219 2, Km_ BK219 3, Km_ BK219 4, ((HB.out.cell (World.block_lt_of_cell? w _ hw221_0)).trans hw221_0), ((HB.out.cell (World.block_lt_of_cell? w _ hw221_1)).trans hw221_1), ((HB.out.cell (World.block_lt_of_cell? w _ hw221_2)).trans hw221_2), ((HB.out.cell (World.block_lt_of_cell? w _ hw221_3)).trans hw221_3), ((HB.out.cell (World.block_lt_of_cell? w _ hw221_4)).trans hw221_4), ((HB.out.cell (World.block_lt_of_cell? w _ hw221_5)).trans hw221_5)⟩ (fun hHeld => ?_)
     clear hK K
     refine Kn_ 46 ?_
     refine Kp_ 22 47 (Bz 25 8388607) (any_of HT_.out (by kernel_rfl)) ?_
     refine Kp_ 23 48 (Bz 25 16777215) (any_of HT_.out (by kernel_rfl)) ?_
     refine Kp_ 24 49 (Bz 25 33554431) (any_of HT_.out (by kernel_rfl)) ?_
     refine done_ (done_of HT_.out (by kernel_rfl)) ?_
     try go_wp2
     go_meet
     case rel => exact ⟨_, (decide (t222 ≤ 0)), (by first | rfl | (simp; done) | (simp [*]; done)), H', ⟨by have := HK1.out; first | omega | exact Nat.le_refl _⟩, ⟨by exact Kq_ BK217⟩, ⟨by exact Kq_ BK218⟩, ⟨by exact Kq_ BK219⟩, ⟨by exact Kq_ BK220⟩, ⟨K4a_ HB GE217 GE218 GE219 GE220⟩⟩
    replace c19 := Bool.eq_false_iff.mpr c19
    subst c19
    have H1 : (if 0 ≤ x15_1 then ((tenementref07_Seen.f k1 ((rd_T81 l0 x15_1).f0.f0.f0) ((rd_T81 l0 x15_1).f0.f0.f1) ((rd_T81 l0 x15_1).f0.f0.f2) ((rd_T81 l0 x15_1).f0.f0.f3) ((rd_T81 l0 x15_1).f0.f1) a3_0 a3_1 a3_2 a3_3).bind fun t224 => (if t224 = true then (if x14_1 = true then ((tenementref07_Order.f k1 ((rd_T81 l0 x15_1).f0.f0.f0) ((rd_T81 l0 x15_1).f0.f0.f1) ((rd_T81 l0 x15_1).f0.f0.f2) ((rd_T81 l0 x15_1).f0.f0.f3) ((rd_T81 l0 x15_1).f0.f1) x104_1 x103_1 x102_1 x101_1 x100_1).bind fun t226 => (tenementref22_last.j1 k1 l0 a1 a2 false x14_1 x15_1 (decide (t226 ≤ 0)) a3_0 a3_1 a3_2 a3_3 x104_1 x103_1 x102_1 x101_1 x100_1 x105_1 x106_1 x107_1 x108_1)) else (tenementref22_last.j1 k1 l0 a1 a2 false x14_1 x15_1 false a3_0 a3_1 a3_2 a3_3 x104_1 x103_1 x102_1 x101_1 x100_1 x105_1 x106_1 x107_1 x108_1)) else (tenementref22_last.j1 k1 l0 a1 a2 false x14_1 x15_1 true a3_0 a3_1 a3_2 a3_3 x104_1 x103_1 x102_1 x101_1 x100_1 x105_1 x106_1 x107_1 x108_1))) else (none)) = some (r1, r2, r3, r4, r5) := by rw [if_neg (show ¬ (false = true) by decide)] at H; exact H
    clear H
    have H := H1
    clear H1
    by_cases c26 : 0 ≤ x15_1
    rotate_left
    ·rw [if_neg c26] at H
     exact absurd H (by simp)
    rw [if_pos c26] at H
    have c26b0 : decide (0 ≤ x15_1) = true := decide_eq_true c26
    clear c26
    replace H := Option.bind_eq_some_iff.mp H
    obtain ⟨t224, A270, H⟩ := H
    replace H : (if t224 = true then (if x14_1 = true then ((tenementref07_Order.f k1 ((rd_T81 l0 x15_1).f0.f0.f0) ((rd_T81 l0 x15_1).f0.f0.f1) ((rd_T81 l0 x15_1).f0.f0.f2) ((rd_T81 l0 x15_1).f0.f0.f3) ((rd_T81 l0 x15_1).f0.f1) x104_1 x103_1 x102_1 x101_1 x100_1).bind fun t226 => (tenementref22_last.j1 k1 l0 a1 a2 false x14_1 x15_1 (decide (t226 ≤ 0)) a3_0 a3_1 a3_2 a3_3 x104_1 x103_1 x102_1 x101_1 x100_1 x105_1 x106_1 x107_1 x108_1)) else (tenementref22_last.j1 k1 l0 a1 a2 false x14_1 x15_1 false a3_0 a3_1 a3_2 a3_3 x104_1 x103_1 x102_1 x101_1 x100_1 x105_1 x106_1 x107_1 x108_1)) else (tenementref22_last.j1 k1 l0 a1 a2 false x14_1 x15_1 true a3_0 a3_1 a3_2 a3_3 x104_1 x103_1 x102_1 x101_1 x100_1 x105_1 x106_1 x107_1 x108_1)) = some (r1, r2, r3, r4, r5) := H
    have A27 := Aside0.mk A270
    clear A270
    by_cases c28 : t224 = true
    rotate_left
    ·replace c28 := Bool.eq_false_iff.mpr c28
     subst c28
     have H1 : (tenementref22_last.j1 k1 l0 a1 a2 false x14_1 x15_1 true a3_0 a3_1 a3_2 a3_3 x104_1 x103_1 x102_1 x101_1 x100_1 x105_1 x106_1 x107_1 x108_1) = some (r1, r2, r3, r4, r5) := by rw [if_neg (show ¬ (false = true) by decide)] at H; exact H
     clear H
     have H := H1
     clear H1
     have H' := Aside0.mk H
     clear H
     try go_wp2
     replace BK217 := Kd_ BK217
     replace BK218 := Kd_ BK218
     replace BK219 := Kd_ BK219
     replace BK220 := Kd_ BK220
     replace HB := Aside0.mk (below_drew1 HB.out)
     have p223 : 0 ≤ (x15_1 : Int) := of_decide_eq_true (by first | (with_reducible assumption) | assumption)
     have q223 : x15_1 < (l0.length : Int) := of_decide_eq_true (by first | (with_reducible assumption) | assumption)
     obtain ⟨ad223, A223_5, c223_5, e223, hx223_0, hx223_1, hx223_2, hx223_3, hx223_4, hx223_5, hl223_5, hi223_5⟩ := at_T81 HR0.out x15_1 p223 q223
     have hw223_5 := hx223_5
     have hw223_4 := hx223_4
     have hw223_3 := hx223_3
     have hw223_2 := hx223_2
     have hw223_1 := hx223_1
     have hw223_0 := hx223_0
     cases e223
     replace hx223_0 := (HB.out.cell (World.block_lt_of_cell? w _ hx223_0)).trans hx223_0
     replace hx223_1 := (HB.out.cell (World.block_lt_of_cell? w _ hx223_1)).trans hx223_1
     replace hx223_2 := (HB.out.cell (World.block_lt_of_cell? w _ hx223_2)).trans hx223_2
     replace hx223_3 := (HB.out.cell (World.block_lt_of_cell? w _ hx223_3)).trans hx223_3
     replace hx223_4 := (HB.out.cell (World.block_lt_of_cell? w _ hx223_4)).trans hx223_4
     replace hx223_5 := (HB.out.cell (World.block_lt_of_cell? w _ hx223_5)).trans hx223_5
     have HR223_5 := Aside0.mk hi223_5
     have HC223_5 := Aside0.mk hl223_5
     clear hi223_5 hl223_5
     replace p223 := eq_true p223
     replace q223 := eq_true q223
     refine start_ (n := 25) (S := fun w' => w'.cell? ⟨gb217, 0, none⟩ = some (.int .u64 a3_0) ∧ w'.cell? ⟨gb217, 1, none⟩ = some (.int .u64 a3_1) ∧ w'.cell? ⟨gb217, 2, none⟩ = some (.int .u64 a3_2) ∧ w'.cell? ⟨gb217, 3, none⟩ = some (.int .u64 a3_3) ∧ w'.cell? (ad223.add ((x15_1).toNat * 6)) = some (.int .u64 ((rd_T81 l0 x15_1).f0.f0.f0)) ∧ w'.cell? ⟨(ad223.add ((x15_1).toNat * 6)).block, (ad223.add ((x15_1).toNat * 6)).off + 1, none⟩ = some (.int .u64 ((rd_T81 l0 x15_1).f0.f0.f1)) ∧ w'.cell? ⟨(ad223.add ((x15_1).toNat * 6)).block, (ad223.add ((x15_1).toNat * 6)).off + 2, none⟩ = some (.int .u64 ((rd_T81 l0 x15_1).f0.f0.f2)) ∧ w'.cell? ⟨(ad223.add ((x15_1).toNat * 6)).block, (ad223.add ((x15_1).toNat * 6)).off + 3, none⟩ = some (.int .u64 ((rd_T81 l0 x15_1).f0.f0.f3)) ∧ w'.cell? ⟨(ad223.add ((x15_1).toNat * 6)).block, (ad223.add ((x15_1).toNat * 6)).off + 4, none⟩ = some (.int .i64 ((rd_T81 l0 x15_1).f0.f1)) ∧ w'.cell? ⟨(ad223.add ((x15_1).toNat * 6)).block, (ad223.add ((x15_1).toNat * 6)).off + 5, none⟩ = some (.slice A223_5 ((rd_T81 l0 x15_1).f1).length c223_5)) (ds := []) (mB_ 25 0) (by kernel_rfl) rfl rfl ⟨Km_ BK217 0, Km_ BK217 1, Km_ BK217 2, Km_ BK217 3, ((HB.out.cell (World.block_lt_of_cell? w _ hw223_0)).trans hw223_0), ((HB.out.cell (World.block_lt_of_cell? w _ hw223_1)).trans hw223_1), ((HB.out.cell (World.block_lt_of_cell? w _ hw223_2)).trans hw223_2), ((HB.out.cell (World.block_lt_of_cell? w _ hw223_3)).trans hw223_3), ((HB.out.cell (World.block_lt_of_cell? w _ hw223_4)).trans hw223_4), ((HB.out.cell (World.block_lt_of_cell? w _ hw223_5)).trans hw223_5)⟩ (fun hHeld => ?_); refine with_tabW tenementref22_last.tab7 tenementref22_last.bits7 (fun HT_ HW_ => ?_)
     generalize wr.drew = w36 at BK217 BK218 BK219 BK220 HB HR223_5 hx223_0 hx223_1 hx223_2 hx223_3 hx223_4 hx223_5 hHeld ⊢
     refine Kp_ 0 25 (Bz 25 1) (any_of HT_.out (by kernel_rfl)) ?_
     refine Kp_ 1 26 (Bz 25 3) (any_of HT_.out (by kernel_rfl)) ?_
     refine Kp_ 2 27 (Bz 25 7) (any_of HT_.out (by kernel_rfl)) ?_
     refine Kp_ 3 28 (Bz 25 15) (any_of HT_.out (by kernel_rfl)) ?_
     refine Kp_ 4 29 (Bz 25 31) (any_of HT_.out (by kernel_rfl)) ?_
     refine Kp_ 5 30 (Bz 25 63) (any_of HT_.out (by kernel_rfl)) ?_
     refine Kp_ 6 31 (Bz 25 127) (any_of HT_.out (by kernel_rfl)) ?_
     refine Ko_ 7 32 (Bz 25 255) (take_ofW HT_.out HW_.out (by kernel_rfl)) hHeld ?_
     refine Ko_ 8 33 (Bz 25 511) (take_ofW HT_.out HW_.out (by kernel_rfl)) hHeld ?_
     refine one_ (i := 9) (N := some 34) (Bz 25 1023) rfl rfl (one_of HT_.out (by kernel_rfl)) (by decide) (fun K hK => ?_)
     refine goes_ Try.func44 (by kernel_rfl) rfl #[.agg #[.int .u64 ((rd_T81 l0 x15_1).f0.f0.f0), .int .u64 ((rd_T81 l0 x15_1).f0.f0.f1), .int .u64 ((rd_T81 l0 x15_1).f0.f0.f2), .int .u64 ((rd_T81 l0 x15_1).f0.f0.f3), .int .i64 ((rd_T81 l0 x15_1).f0.f1)], .agg #[.int .u64 a3_0, .int .u64 a3_1, .int .u64 a3_2, .int .u64 a3_3]] (by rfl) rfl rfl (by (try simp only [List.map_toArray, List.map_cons, List.map_nil]); first | done | rfl | (simp only [List.length_drop, List.length_take]; rfl)) ?_
     with_reducible refine (tenementref07_Seen.calls k1 ((rd_T81 l0 x15_1).f0.f0.f0) ((rd_T81 l0 x15_1).f0.f0.f1) ((rd_T81 l0 x15_1).f0.f0.f2) ((rd_T81 l0 x15_1).f0.f0.f3) ((rd_T81 l0 x15_1).f0.f1) a3_0 a3_1 a3_2 a3_3 false _ A27.out).mono ?_
     rintro e w37 ⟨rfl, hb⟩
     refine ⟨_, rfl, ?_⟩
     replace BK217 := Kb_ BK217 hb
     replace BK218 := Kb_ BK218 hb
     replace BK219 := Kb_ BK219 hb
     replace BK220 := Kb_ BK220 hb
     replace HB := Ks_ HB hb
     (try clear hb)
     (try clear hb2)
     (try clear hk)
     (try clear hi)
     refine hK.out _ _ ⟨Km_ BK217 0, Km_ BK217 1, Km_ BK217 2, Km_ BK217 3, ((HB.out.cell (World.block_lt_of_cell? w _ hw223_0)).trans hw223_0), ((HB.out.cell (World.block_lt_of_cell? w _ hw223_1)).trans hw223_1), ((HB.out.cell (World.block_lt_of_cell? w _ hw223_2)).trans hw223_2), ((HB.out.cell (World.block_lt_of_cell? w _ hw223_3)).trans hw223_3), ((HB.out.cell (World.block_lt_of_cell? w _ hw223_4)).trans hw223_4), ((HB.out.cell (World.block_lt_of_cell? w _ hw223_5)).trans hw223_5)⟩ (fun hHeld => ?_)
     clear hK K
     refine Kn_ 34 ?_
     refine Kp_ 10 35 (Bz 25 2047) (any_of HT_.out (by kernel_rfl)) ?_
     refine Kp_ 11 36 (Bz 25 4095) (any_of HT_.out (by kernel_rfl)) ?_
     refine Kp_ 12 37 (Bz 25 8191) (any_of HT_.out (by kernel_rfl)) ?_
     refine pure_ (i := 13) (N := some 38) (v := undef) (a' := ?_) (mB_ 25 16383) rfl rfl (any_of HT_.out (by kernel_rfl)) (fun _ _ _ h => h) (Or.inr ⟨by rfl, rfl⟩) ?_ ?_
     rotate_left
     ·simp only [Act.put, List.setIfInBounds_toArray, List.set_cons_zero, List.set_cons_succ, i64_w, i32_w]
      rfl
     refine pure_ (i := 14) (N := some 39) (v := undef) (a' := ?_) (mB_ 25 32767) rfl rfl (any_of HT_.out (by kernel_rfl)) (fun _ _ _ h => h) (Or.inr ⟨by rfl, rfl⟩) ?_ ?_
     rotate_left
     ·simp only [Act.put, List.setIfInBounds_toArray, List.set_cons_zero, List.set_cons_succ, i64_w, i32_w]
      rfl
     refine pure_ (i := 15) (N := some 40) (v := undef) (a' := ?_) (mB_ 25 65535) rfl rfl (any_of HT_.out (by kernel_rfl)) (fun _ _ _ h => h) (Or.inr ⟨by rfl, rfl⟩) ?_ ?_
     rotate_left
     ·simp only [Act.put, List.setIfInBounds_toArray, List.set_cons_zero, List.set_cons_succ, i64_w, i32_w]
      rfl
     refine pure_ (i := 16) (N := some 41) (v := undef) (a' := ?_) (mB_ 25 131071) rfl rfl (any_of HT_.out (by kernel_rfl)) (fun _ _ _ h => h) (Or.inr ⟨by rfl, rfl⟩) ?_ ?_
     rotate_left
     ·simp only [Act.put, List.setIfInBounds_toArray, List.set_cons_zero, List.set_cons_succ, i64_w, i32_w]
      rfl
     refine pure_ (i := 17) (N := some 42) (v := undef) (a' := ?_) (mB_ 25 262143) rfl rfl (any_of HT_.out (by kernel_rfl)) (fun _ _ _ h => h) (Or.inr ⟨by rfl, rfl⟩) ?_ ?_
     rotate_left
     ·simp only [Act.put, List.setIfInBounds_toArray, List.set_cons_zero, List.set_cons_succ, i64_w, i32_w]
      rfl
     refine pure_ (i := 18) (N := some 43) (v := undef) (a' := ?_) (mB_ 25 524287) rfl rfl (any_of HT_.out (by kernel_rfl)) (fun _ _ _ h => h) (Or.inr ⟨by rfl, rfl⟩) ?_ ?_
     rotate_left
     ·simp only [Act.put, List.setIfInBounds_toArray, List.set_cons_zero, List.set_cons_succ, i64_w, i32_w]
      rfl
     refine pure_ (i := 19) (N := some 44) (v := undef) (a' := ?_) (mB_ 25 1048575) rfl rfl (any_of HT_.out (by kernel_rfl)) (fun _ _ _ h => h) (Or.inr ⟨by rfl, rfl⟩) ?_ ?_
     rotate_left
     ·simp only [Act.put, List.setIfInBounds_toArray, List.set_cons_zero, List.set_cons_succ, i64_w, i32_w]
      rfl
     refine pure_ (i := 20) (N := some 45) (v := undef) (a' := ?_) (mB_ 25 2097151) rfl rfl (any_of HT_.out (by kernel_rfl)) (fun _ _ _ h => h) (Or.inr ⟨by rfl, rfl⟩) ?_ ?_
     rotate_left
     ·simp only [Act.put, List.setIfInBounds_toArray, List.set_cons_zero, List.set_cons_succ, i64_w, i32_w]
      rfl
     refine pure_ (i := 21) (N := some 46) (v := undef) (a' := ?_) (mB_ 25 4194303) rfl rfl (any_of HT_.out (by kernel_rfl)) (fun _ _ _ h => h) (Or.inr ⟨by rfl, rfl⟩) ?_ ?_
     rotate_left
     ·simp only [Act.put, List.setIfInBounds_toArray, List.set_cons_zero, List.set_cons_succ, i64_w, i32_w]
      rfl
     refine pure_ (i := 22) (N := some 47) (v := undef) (a' := ?_) (mB_ 25 8388607) rfl rfl (any_of HT_.out (by kernel_rfl)) (fun _ _ _ h => h) (Or.inr ⟨by rfl, rfl⟩) ?_ ?_
     rotate_left
     ·simp only [Act.put, List.setIfInBounds_toArray, List.set_cons_zero, List.set_cons_succ, i64_w, i32_w]
      rfl
     refine pure_ (i := 23) (N := some 48) (v := undef) (a' := ?_) (mB_ 25 16777215) rfl rfl (any_of HT_.out (by kernel_rfl)) (fun _ _ _ h => h) (Or.inr ⟨by rfl, rfl⟩) ?_ ?_
     rotate_left
     ·simp only [Act.put, List.setIfInBounds_toArray, List.set_cons_zero, List.set_cons_succ, i64_w, i32_w]
      rfl
     refine Kp_ 24 49 (Bz 25 33554431) (any_of HT_.out (by kernel_rfl)) ?_
     refine done_ (done_of HT_.out (by kernel_rfl)) ?_
     try go_wp2
     go_meet
     case rel => exact ⟨_, (true), (by first | rfl | (simp; done) | (simp [*]; done)), H', ⟨by have := HK1.out; first | omega | exact Nat.le_refl _⟩, ⟨by exact Kq_ BK217⟩, ⟨by exact Kq_ BK218⟩, ⟨by exact Kq_ BK219⟩, ⟨by exact Kq_ BK220⟩, ⟨K4a_ HB GE217 GE218 GE219 GE220⟩⟩
    subst c28
    have H1 : (if x14_1 = true then ((tenementref07_Order.f k1 ((rd_T81 l0 x15_1).f0.f0.f0) ((rd_T81 l0 x15_1).f0.f0.f1) ((rd_T81 l0 x15_1).f0.f0.f2) ((rd_T81 l0 x15_1).f0.f0.f3) ((rd_T81 l0 x15_1).f0.f1) x104_1 x103_1 x102_1 x101_1 x100_1).bind fun t226 => (tenementref22_last.j1 k1 l0 a1 a2 false x14_1 x15_1 (decide (t226 ≤ 0)) a3_0 a3_1 a3_2 a3_3 x104_1 x103_1 x102_1 x101_1 x100_1 x105_1 x106_1 x107_1 x108_1)) else (tenementref22_last.j1 k1 l0 a1 a2 false x14_1 x15_1 false a3_0 a3_1 a3_2 a3_3 x104_1 x103_1 x102_1 x101_1 x100_1 x105_1 x106_1 x107_1 x108_1)) = some (r1, r2, r3, r4, r5) := by rw [if_pos rfl] at H; exact H
    clear H
    have H := H1
    clear H1
    by_cases c29 : x14_1 = true
    rotate_left
    ·replace c29 := Bool.eq_false_iff.mpr c29
     subst c29
     have H1 : (tenementref22_last.j1 k1 l0 a1 a2 false false x15_1 false a3_0 a3_1 a3_2 a3_3 x104_1 x103_1 x102_1 x101_1 x100_1 x105_1 x106_1 x107_1 x108_1) = some (r1, r2, r3, r4, r5) := by rw [if_neg (show ¬ (false = true) by decide)] at H; exact H
     clear H
     have H := H1
     clear H1
     have H' := Aside0.mk H
     clear H
     try go_wp2
     replace BK217 := Kd_ BK217
     replace BK218 := Kd_ BK218
     replace BK219 := Kd_ BK219
     replace BK220 := Kd_ BK220
     replace HB := Aside0.mk (below_drew1 HB.out)
     have p223 : 0 ≤ (x15_1 : Int) := of_decide_eq_true (by first | (with_reducible assumption) | assumption)
     have q223 : x15_1 < (l0.length : Int) := of_decide_eq_true (by first | (with_reducible assumption) | assumption)
     obtain ⟨ad223, A223_5, c223_5, e223, hx223_0, hx223_1, hx223_2, hx223_3, hx223_4, hx223_5, hl223_5, hi223_5⟩ := at_T81 HR0.out x15_1 p223 q223
     have hw223_5 := hx223_5
     have hw223_4 := hx223_4
     have hw223_3 := hx223_3
     have hw223_2 := hx223_2
     have hw223_1 := hx223_1
     have hw223_0 := hx223_0
     cases e223
     replace hx223_0 := (HB.out.cell (World.block_lt_of_cell? w _ hx223_0)).trans hx223_0
     replace hx223_1 := (HB.out.cell (World.block_lt_of_cell? w _ hx223_1)).trans hx223_1
     replace hx223_2 := (HB.out.cell (World.block_lt_of_cell? w _ hx223_2)).trans hx223_2
     replace hx223_3 := (HB.out.cell (World.block_lt_of_cell? w _ hx223_3)).trans hx223_3
     replace hx223_4 := (HB.out.cell (World.block_lt_of_cell? w _ hx223_4)).trans hx223_4
     replace hx223_5 := (HB.out.cell (World.block_lt_of_cell? w _ hx223_5)).trans hx223_5
     have HR223_5 := Aside0.mk hi223_5
     have HC223_5 := Aside0.mk hl223_5
     clear hi223_5 hl223_5
     replace p223 := eq_true p223
     replace q223 := eq_true q223
     refine start_ (n := 25) (S := fun w' => w'.cell? ⟨gb217, 0, none⟩ = some (.int .u64 a3_0) ∧ w'.cell? ⟨gb217, 1, none⟩ = some (.int .u64 a3_1) ∧ w'.cell? ⟨gb217, 2, none⟩ = some (.int .u64 a3_2) ∧ w'.cell? ⟨gb217, 3, none⟩ = some (.int .u64 a3_3) ∧ w'.cell? (ad223.add ((x15_1).toNat * 6)) = some (.int .u64 ((rd_T81 l0 x15_1).f0.f0.f0)) ∧ w'.cell? ⟨(ad223.add ((x15_1).toNat * 6)).block, (ad223.add ((x15_1).toNat * 6)).off + 1, none⟩ = some (.int .u64 ((rd_T81 l0 x15_1).f0.f0.f1)) ∧ w'.cell? ⟨(ad223.add ((x15_1).toNat * 6)).block, (ad223.add ((x15_1).toNat * 6)).off + 2, none⟩ = some (.int .u64 ((rd_T81 l0 x15_1).f0.f0.f2)) ∧ w'.cell? ⟨(ad223.add ((x15_1).toNat * 6)).block, (ad223.add ((x15_1).toNat * 6)).off + 3, none⟩ = some (.int .u64 ((rd_T81 l0 x15_1).f0.f0.f3)) ∧ w'.cell? ⟨(ad223.add ((x15_1).toNat * 6)).block, (ad223.add ((x15_1).toNat * 6)).off + 4, none⟩ = some (.int .i64 ((rd_T81 l0 x15_1).f0.f1)) ∧ w'.cell? ⟨(ad223.add ((x15_1).toNat * 6)).block, (ad223.add ((x15_1).toNat * 6)).off + 5, none⟩ = some (.slice A223_5 ((rd_T81 l0 x15_1).f1).length c223_5)) (ds := []) (mB_ 25 0) (by kernel_rfl) rfl rfl ⟨Km_ BK217 0, Km_ BK217 1, Km_ BK217 2, Km_ BK217 3, ((HB.out.cell (World.block_lt_of_cell? w _ hw223_0)).trans hw223_0), ((HB.out.cell (World.block_lt_of_cell? w _ hw223_1)).trans hw223_1), ((HB.out.cell (World.block_lt_of_cell? w _ hw223_2)).trans hw223_2), ((HB.out.cell (World.block_lt_of_cell? w _ hw223_3)).trans hw223_3), ((HB.out.cell (World.block_lt_of_cell? w _ hw223_4)).trans hw223_4), ((HB.out.cell (World.block_lt_of_cell? w _ hw223_5)).trans hw223_5)⟩ (fun hHeld => ?_); refine with_tabW tenementref22_last.tab7 tenementref22_last.bits7 (fun HT_ HW_ => ?_)
     generalize wr.drew = w34 at BK217 BK218 BK219 BK220 HB HR223_5 hx223_0 hx223_1 hx223_2 hx223_3 hx223_4 hx223_5 hHeld ⊢
     refine Kp_ 0 25 (Bz 25 1) (any_of HT_.out (by kernel_rfl)) ?_
     refine Kp_ 1 26 (Bz 25 3) (any_of HT_.out (by kernel_rfl)) ?_
     refine Kp_ 2 27 (Bz 25 7) (any_of HT_.out (by kernel_rfl)) ?_
     refine Kp_ 3 28 (Bz 25 15) (any_of HT_.out (by kernel_rfl)) ?_
     refine Kp_ 4 29 (Bz 25 31) (any_of HT_.out (by kernel_rfl)) ?_
     refine Kp_ 5 30 (Bz 25 63) (any_of HT_.out (by kernel_rfl)) ?_
     refine Kp_ 6 31 (Bz 25 127) (any_of HT_.out (by kernel_rfl)) ?_
     refine Ko_ 7 32 (Bz 25 255) (take_ofW HT_.out HW_.out (by kernel_rfl)) hHeld ?_
     refine Ko_ 8 33 (Bz 25 511) (take_ofW HT_.out HW_.out (by kernel_rfl)) hHeld ?_
     refine one_ (i := 9) (N := some 34) (Bz 25 1023) rfl rfl (one_of HT_.out (by kernel_rfl)) (by decide) (fun K hK => ?_)
     refine goes_ Try.func44 (by kernel_rfl) rfl #[.agg #[.int .u64 ((rd_T81 l0 x15_1).f0.f0.f0), .int .u64 ((rd_T81 l0 x15_1).f0.f0.f1), .int .u64 ((rd_T81 l0 x15_1).f0.f0.f2), .int .u64 ((rd_T81 l0 x15_1).f0.f0.f3), .int .i64 ((rd_T81 l0 x15_1).f0.f1)], .agg #[.int .u64 a3_0, .int .u64 a3_1, .int .u64 a3_2, .int .u64 a3_3]] (by rfl) rfl rfl (by (try simp only [List.map_toArray, List.map_cons, List.map_nil]); first | done | rfl | (simp only [List.length_drop, List.length_take]; rfl)) ?_
     with_reducible refine (tenementref07_Seen.calls k1 ((rd_T81 l0 x15_1).f0.f0.f0) ((rd_T81 l0 x15_1).f0.f0.f1) ((rd_T81 l0 x15_1).f0.f0.f2) ((rd_T81 l0 x15_1).f0.f0.f3) ((rd_T81 l0 x15_1).f0.f1) a3_0 a3_1 a3_2 a3_3 true _ A27.out).mono ?_
     rintro e w35 ⟨rfl, hb⟩
     refine ⟨_, rfl, ?_⟩
     replace BK217 := Kb_ BK217 hb
     replace BK218 := Kb_ BK218 hb
     replace BK219 := Kb_ BK219 hb
     replace BK220 := Kb_ BK220 hb
     replace HB := Ks_ HB hb
     (try clear hb)
     (try clear hb2)
     (try clear hk)
     (try clear hi)
     refine hK.out _ _ ⟨Km_ BK217 0, Km_ BK217 1, Km_ BK217 2, Km_ BK217 3, ((HB.out.cell (World.block_lt_of_cell? w _ hw223_0)).trans hw223_0), ((HB.out.cell (World.block_lt_of_cell? w _ hw223_1)).trans hw223_1), ((HB.out.cell (World.block_lt_of_cell? w _ hw223_2)).trans hw223_2), ((HB.out.cell (World.block_lt_of_cell? w _ hw223_3)).trans hw223_3), ((HB.out.cell (World.block_lt_of_cell? w _ hw223_4)).trans hw223_4), ((HB.out.cell (World.block_lt_of_cell? w _ hw223_5)).trans hw223_5)⟩ (fun hHeld => ?_)
     clear hK K
     refine Kn_ 34 ?_
     refine Kp_ 10 35 (Bz 25 2047) (any_of HT_.out (by kernel_rfl)) ?_
     refine Kp_ 11 36 (Bz 25 4095) (any_of HT_.out (by kernel_rfl)) ?_
     refine Kp_ 12 37 (Bz 25 8191) (any_of HT_.out (by kernel_rfl)) ?_
     refine Kp_ 13 38 (Bz 25 16383) (any_of HT_.out (by kernel_rfl)) ?_
     refine Kp_ 14 39 (Bz 25 32767) (any_of HT_.out (by kernel_rfl)) ?_
     refine pure_ (i := 15) (N := some 40) (v := undef) (a' := ?_) (mB_ 25 65535) rfl rfl (any_of HT_.out (by kernel_rfl)) (fun _ _ _ h => h) (Or.inr ⟨by rfl, rfl⟩) ?_ ?_
     rotate_left
     ·simp only [Act.put, List.setIfInBounds_toArray, List.set_cons_zero, List.set_cons_succ, i64_w, i32_w]
      rfl
     refine pure_ (i := 16) (N := some 41) (v := undef) (a' := ?_) (mB_ 25 131071) rfl rfl (any_of HT_.out (by kernel_rfl)) (fun _ _ _ h => h) (Or.inr ⟨by rfl, rfl⟩) ?_ ?_
     rotate_left
     ·simp only [Act.put, List.setIfInBounds_toArray, List.set_cons_zero, List.set_cons_succ, i64_w, i32_w]
      rfl
     refine pure_ (i := 17) (N := some 42) (v := undef) (a' := ?_) (mB_ 25 262143) rfl rfl (any_of HT_.out (by kernel_rfl)) (fun _ _ _ h => h) (Or.inr ⟨by rfl, rfl⟩) ?_ ?_
     rotate_left
     ·simp only [Act.put, List.setIfInBounds_toArray, List.set_cons_zero, List.set_cons_succ, i64_w, i32_w]
      rfl
     refine pure_ (i := 18) (N := some 43) (v := undef) (a' := ?_) (mB_ 25 524287) rfl rfl (any_of HT_.out (by kernel_rfl)) (fun _ _ _ h => h) (Or.inr ⟨by rfl, rfl⟩) ?_ ?_
     rotate_left
     ·simp only [Act.put, List.setIfInBounds_toArray, List.set_cons_zero, List.set_cons_succ, i64_w, i32_w]
      rfl
     refine pure_ (i := 19) (N := some 44) (v := undef) (a' := ?_) (mB_ 25 1048575) rfl rfl (any_of HT_.out (by kernel_rfl)) (fun _ _ _ h => h) (Or.inr ⟨by rfl, rfl⟩) ?_ ?_
     rotate_left
     ·simp only [Act.put, List.setIfInBounds_toArray, List.set_cons_zero, List.set_cons_succ, i64_w, i32_w]
      rfl
     refine pure_ (i := 20) (N := some 45) (v := undef) (a' := ?_) (mB_ 25 2097151) rfl rfl (any_of HT_.out (by kernel_rfl)) (fun _ _ _ h => h) (Or.inr ⟨by rfl, rfl⟩) ?_ ?_
     rotate_left
     ·simp only [Act.put, List.setIfInBounds_toArray, List.set_cons_zero, List.set_cons_succ, i64_w, i32_w]
      rfl
     refine pure_ (i := 21) (N := some 46) (v := undef) (a' := ?_) (mB_ 25 4194303) rfl rfl (any_of HT_.out (by kernel_rfl)) (fun _ _ _ h => h) (Or.inr ⟨by rfl, rfl⟩) ?_ ?_
     rotate_left
     ·simp only [Act.put, List.setIfInBounds_toArray, List.set_cons_zero, List.set_cons_succ, i64_w, i32_w]
      rfl
     refine pure_ (i := 22) (N := some 47) (v := undef) (a' := ?_) (mB_ 25 8388607) rfl rfl (any_of HT_.out (by kernel_rfl)) (fun _ _ _ h => h) (Or.inr ⟨by rfl, rfl⟩) ?_ ?_
     rotate_left
     ·simp only [Act.put, List.setIfInBounds_toArray, List.set_cons_zero, List.set_cons_succ, i64_w, i32_w]
      rfl
     refine Kp_ 23 48 (Bz 25 16777215) (any_of HT_.out (by kernel_rfl)) ?_
     refine Kp_ 24 49 (Bz 25 33554431) (any_of HT_.out (by kernel_rfl)) ?_
     refine done_ (done_of HT_.out (by kernel_rfl)) ?_
     try go_wp2
     go_meet
     case rel => exact ⟨_, (false), (by first | rfl | (simp; done) | (simp [*]; done)), H', ⟨by have := HK1.out; first | omega | exact Nat.le_refl _⟩, ⟨by exact Kq_ BK217⟩, ⟨by exact Kq_ BK218⟩, ⟨by exact Kq_ BK219⟩, ⟨by exact Kq_ BK220⟩, ⟨K4a_ HB GE217 GE218 GE219 GE220⟩⟩
    subst c29
    have H1 : ((tenementref07_Order.f k1 ((rd_T81 l0 x15_1).f0.f0.f0) ((rd_T81 l0 x15_1).f0.f0.f1) ((rd_T81 l0 x15_1).f0.f0.f2) ((rd_T81 l0 x15_1).f0.f0.f3) ((rd_T81 l0 x15_1).f0.f1) x104_1 x103_1 x102_1 x101_1 x100_1).bind fun t226 => (tenementref22_last.j1 k1 l0 a1 a2 false true x15_1 (decide (t226 ≤ 0)) a3_0 a3_1 a3_2 a3_3 x104_1 x103_1 x102_1 x101_1 x100_1 x105_1 x106_1 x107_1 x108_1)) = some (r1, r2, r3, r4, r5) := by rw [if_pos rfl] at H; exact H
    clear H
    have H := H1
    clear H1
    replace H := Option.bind_eq_some_iff.mp H
    obtain ⟨t226, A300, H⟩ := H
    replace H : (tenementref22_last.j1 k1 l0 a1 a2 false true x15_1 (decide (t226 ≤ 0)) a3_0 a3_1 a3_2 a3_3 x104_1 x103_1 x102_1 x101_1 x100_1 x105_1 x106_1 x107_1 x108_1) = some (r1, r2, r3, r4, r5) := H
    have A30 := Aside0.mk A300
    clear A300
    have H' := Aside0.mk H
    clear H
    try go_wp2
    replace BK217 := Kd_ BK217
    replace BK218 := Kd_ BK218
    replace BK219 := Kd_ BK219
    replace BK220 := Kd_ BK220
    replace HB := Aside0.mk (below_drew1 HB.out)
    have p223 : 0 ≤ (x15_1 : Int) := of_decide_eq_true (by first | (with_reducible assumption) | assumption)
    have q223 : x15_1 < (l0.length : Int) := of_decide_eq_true (by first | (with_reducible assumption) | assumption)
    obtain ⟨ad223, A223_5, c223_5, e223, hx223_0, hx223_1, hx223_2, hx223_3, hx223_4, hx223_5, hl223_5, hi223_5⟩ := at_T81 HR0.out x15_1 p223 q223
    have hw223_5 := hx223_5
    have hw223_4 := hx223_4
    have hw223_3 := hx223_3
    have hw223_2 := hx223_2
    have hw223_1 := hx223_1
    have hw223_0 := hx223_0
    cases e223
    replace hx223_0 := (HB.out.cell (World.block_lt_of_cell? w _ hx223_0)).trans hx223_0
    replace hx223_1 := (HB.out.cell (World.block_lt_of_cell? w _ hx223_1)).trans hx223_1
    replace hx223_2 := (HB.out.cell (World.block_lt_of_cell? w _ hx223_2)).trans hx223_2
    replace hx223_3 := (HB.out.cell (World.block_lt_of_cell? w _ hx223_3)).trans hx223_3
    replace hx223_4 := (HB.out.cell (World.block_lt_of_cell? w _ hx223_4)).trans hx223_4
    replace hx223_5 := (HB.out.cell (World.block_lt_of_cell? w _ hx223_5)).trans hx223_5
    have HR223_5 := Aside0.mk hi223_5
    have HC223_5 := Aside0.mk hl223_5
    clear hi223_5 hl223_5
    replace p223 := eq_true p223
    replace q223 := eq_true q223
    have p225 : 0 ≤ (x15_1 : Int) := of_decide_eq_true (by first | (with_reducible assumption) | assumption)
    have q225 : x15_1 < (l0.length : Int) := of_decide_eq_true (by first | (with_reducible assumption) | assumption)
    obtain ⟨ad225, A225_5, c225_5, e225, hx225_0, hx225_1, hx225_2, hx225_3, hx225_4, hx225_5, hl225_5, hi225_5⟩ := at_T81 HR0.out x15_1 p225 q225
    have hw225_5 := hx225_5
    have hw225_4 := hx225_4
    have hw225_3 := hx225_3
    have hw225_2 := hx225_2
    have hw225_1 := hx225_1
    have hw225_0 := hx225_0
    obtain rfl : ad223 = ad225 := (by injection e225)
    replace hx225_0 := (HB.out.cell (World.block_lt_of_cell? w _ hx225_0)).trans hx225_0
    replace hx225_1 := (HB.out.cell (World.block_lt_of_cell? w _ hx225_1)).trans hx225_1
    replace hx225_2 := (HB.out.cell (World.block_lt_of_cell? w _ hx225_2)).trans hx225_2
    replace hx225_3 := (HB.out.cell (World.block_lt_of_cell? w _ hx225_3)).trans hx225_3
    replace hx225_4 := (HB.out.cell (World.block_lt_of_cell? w _ hx225_4)).trans hx225_4
    replace hx225_5 := (HB.out.cell (World.block_lt_of_cell? w _ hx225_5)).trans hx225_5
    have HR225_5 := Aside0.mk hi225_5
    have HC225_5 := Aside0.mk hl225_5
    clear hi225_5 hl225_5
    replace p225 := eq_true p225
    replace q225 := eq_true q225
    refine start_ (n := 25) (S := fun w' => w'.cell? ⟨gb217, 0, none⟩ = some (.int .u64 a3_0) ∧ w'.cell? ⟨gb217, 1, none⟩ = some (.int .u64 a3_1) ∧ w'.cell? ⟨gb217, 2, none⟩ = some (.int .u64 a3_2) ∧ w'.cell? ⟨gb217, 3, none⟩ = some (.int .u64 a3_3) ∧ w'.cell? ⟨gb219, 0, none⟩ = some (.int .u64 x104_1) ∧ w'.cell? ⟨gb219, 1, none⟩ = some (.int .u64 x103_1) ∧ w'.cell? ⟨gb219, 2, none⟩ = some (.int .u64 x102_1) ∧ w'.cell? ⟨gb219, 3, none⟩ = some (.int .u64 x101_1) ∧ w'.cell? ⟨gb219, 4, none⟩ = some (.int .i64 x100_1) ∧ w'.cell? (ad223.add ((x15_1).toNat * 6)) = some (.int .u64 ((rd_T81 l0 x15_1).f0.f0.f0)) ∧ w'.cell? ⟨(ad223.add ((x15_1).toNat * 6)).block, (ad223.add ((x15_1).toNat * 6)).off + 1, none⟩ = some (.int .u64 ((rd_T81 l0 x15_1).f0.f0.f1)) ∧ w'.cell? ⟨(ad223.add ((x15_1).toNat * 6)).block, (ad223.add ((x15_1).toNat * 6)).off + 2, none⟩ = some (.int .u64 ((rd_T81 l0 x15_1).f0.f0.f2)) ∧ w'.cell? ⟨(ad223.add ((x15_1).toNat * 6)).block, (ad223.add ((x15_1).toNat * 6)).off + 3, none⟩ = some (.int .u64 ((rd_T81 l0 x15_1).f0.f0.f3)) ∧ w'.cell? ⟨(ad223.add ((x15_1).toNat * 6)).block, (ad223.add ((x15_1).toNat * 6)).off + 4, none⟩ = some (.int .i64 ((rd_T81 l0 x15_1).f0.f1)) ∧ w'.cell? ⟨(ad223.add ((x15_1).toNat * 6)).block, (ad223.add ((x15_1).toNat * 6)).off + 5, none⟩ = some (.slice A223_5 ((rd_T81 l0 x15_1).f1).length c223_5) ∧ w'.cell? (ad223.add ((x15_1).toNat * 6)) = some (.int .u64 ((rd_T81 l0 x15_1).f0.f0.f0)) ∧ w'.cell? ⟨(ad223.add ((x15_1).toNat * 6)).block, (ad223.add ((x15_1).toNat * 6)).off + 1, none⟩ = some (.int .u64 ((rd_T81 l0 x15_1).f0.f0.f1)) ∧ w'.cell? ⟨(ad223.add ((x15_1).toNat * 6)).block, (ad223.add ((x15_1).toNat * 6)).off + 2, none⟩ = some (.int .u64 ((rd_T81 l0 x15_1).f0.f0.f2)) ∧ w'.cell? ⟨(ad223.add ((x15_1).toNat * 6)).block, (ad223.add ((x15_1).toNat * 6)).off + 3, none⟩ = some (.int .u64 ((rd_T81 l0 x15_1).f0.f0.f3)) ∧ w'.cell? ⟨(ad223.add ((x15_1).toNat * 6)).block, (ad223.add ((x15_1).toNat * 6)).off + 4, none⟩ = some (.int .i64 ((rd_T81 l0 x15_1).f0.f1)) ∧ w'.cell? ⟨(ad223.add ((x15_1).toNat * 6)).block, (ad223.add ((x15_1).toNat * 6)).off + 5, none⟩ = some (.slice A225_5 ((rd_T81 l0 x15_1).f1).length c225_5)) (ds := []) (mB_ 25 0) (by kernel_rfl) rfl rfl ⟨Km_ BK217 0, Km_ BK217 1, Km_ BK217 2, Km_ BK217 3, Km_ BK219 0, Km_ BK219 1, Km_ BK219 2, Km_ BK219 3, Km_ BK219 4, ((HB.out.cell (World.block_lt_of_cell? w _ hw223_0)).trans hw223_0), ((HB.out.cell (World.block_lt_of_cell? w _ hw223_1)).trans hw223_1), ((HB.out.cell (World.block_lt_of_cell? w _ hw223_2)).trans hw223_2), ((HB.out.cell (World.block_lt_of_cell? w _ hw223_3)).trans hw223_3), ((HB.out.cell (World.block_lt_of_cell? w _ hw223_4)).trans hw223_4), ((HB.out.cell (World.block_lt_of_cell? w _ hw223_5)).trans hw223_5), ((HB.out.cell (World.block_lt_of_cell? w _ hw225_0)).trans hw225_0), ((HB.out.cell (World.block_lt_of_cell? w _ hw225_1)).trans hw225_1), ((HB.out.cell (World.block_lt_of_cell? w _ hw225_2)).trans hw225_2), ((HB.out.cell (World.block_lt_of_cell? w _ hw225_3)).trans hw225_3), ((HB.out.cell (World.block_lt_of_cell? w _ hw225_4)).trans hw225_4), ((HB.out.cell (World.block_lt_of_cell? w _ hw225_5)).trans hw225_5)⟩ (fun hHeld => ?_); refine with_tabW tenementref22_last.tab7 tenementref22_last.bits7 (fun HT_ HW_ => ?_)
    generalize wr.drew = w31 at BK217 BK218 BK219 BK220 HB HR223_5 HR225_5 hx223_0 hx223_1 hx223_2 hx223_3 hx223_4 hx223_5 hx225_0 hx225_1 hx225_2 hx225_3 hx225_4 hx225_5 hHeld ⊢
    refine Kp_ 0 25 (Bz 25 1) (any_of HT_.out (by kernel_rfl)) ?_
    refine Kp_ 1 26 (Bz 25 3) (any_of HT_.out (by kernel_rfl)) ?_
    refine Kp_ 2 27 (Bz 25 7) (any_of HT_.out (by kernel_rfl)) ?_
    refine Kp_ 3 28 (Bz 25 15) (any_of HT_.out (by kernel_rfl)) ?_
    refine Kp_ 4 29 (Bz 25 31) (any_of HT_.out (by kernel_rfl)) ?_
    refine Kp_ 5 30 (Bz 25 63) (any_of HT_.out (by kernel_rfl)) ?_
    refine Kp_ 6 31 (Bz 25 127) (any_of HT_.out (by kernel_rfl)) ?_
    refine Ko_ 7 32 (Bz 25 255) (take_ofW HT_.out HW_.out (by kernel_rfl)) hHeld ?_
    refine Ko_ 8 33 (Bz 25 511) (take_ofW HT_.out HW_.out (by kernel_rfl)) hHeld ?_
    refine one_ (i := 9) (N := some 34) (Bz 25 1023) rfl rfl (one_of HT_.out (by kernel_rfl)) (by decide) (fun K hK => ?_)
    refine goes_ Try.func44 (by kernel_rfl) rfl #[.agg #[.int .u64 ((rd_T81 l0 x15_1).f0.f0.f0), .int .u64 ((rd_T81 l0 x15_1).f0.f0.f1), .int .u64 ((rd_T81 l0 x15_1).f0.f0.f2), .int .u64 ((rd_T81 l0 x15_1).f0.f0.f3), .int .i64 ((rd_T81 l0 x15_1).f0.f1)], .agg #[.int .u64 a3_0, .int .u64 a3_1, .int .u64 a3_2, .int .u64 a3_3]] (by rfl) rfl rfl (by (try simp only [List.map_toArray, List.map_cons, List.map_nil]); first | done | rfl | (simp only [List.length_drop, List.length_take]; rfl)) ?_
    with_reducible refine (tenementref07_Seen.calls k1 ((rd_T81 l0 x15_1).f0.f0.f0) ((rd_T81 l0 x15_1).f0.f0.f1) ((rd_T81 l0 x15_1).f0.f0.f2) ((rd_T81 l0 x15_1).f0.f0.f3) ((rd_T81 l0 x15_1).f0.f1) a3_0 a3_1 a3_2 a3_3 true _ A27.out).mono ?_
    rintro e w32 ⟨rfl, hb⟩
    refine ⟨_, rfl, ?_⟩
    replace BK217 := Kb_ BK217 hb
    replace BK218 := Kb_ BK218 hb
    replace BK219 := Kb_ BK219 hb
    replace BK220 := Kb_ BK220 hb
    replace HB := Ks_ HB hb
    (try clear hb)
    (try clear hb2)
    (try clear hk)
    (try clear hi)
    refine hK.out _ _ ⟨Km_ BK217 0, Km_ BK217 1, Km_ BK217 2, Km_ BK217 3, Km_ BK219 0, Km_ BK219 1, Km_ BK219 2, Km_ BK219 3, Km_ BK219 4, ((HB.out.cell (World.block_lt_of_cell? w _ hw223_0)).trans hw223_0), ((HB.out.cell (World.block_lt_of_cell? w _ hw223_1)).trans hw223_1), ((HB.out.cell (World.block_lt_of_cell? w _ hw223_2)).trans hw223_2), ((HB.out.cell (World.block_lt_of_cell? w _ hw223_3)).trans hw223_3), ((HB.out.cell (World.block_lt_of_cell? w _ hw223_4)).trans hw223_4), ((HB.out.cell (World.block_lt_of_cell? w _ hw223_5)).trans hw223_5), ((HB.out.cell (World.block_lt_of_cell? w _ hw225_0)).trans hw225_0), ((HB.out.cell (World.block_lt_of_cell? w _ hw225_1)).trans hw225_1), ((HB.out.cell (World.block_lt_of_cell? w _ hw225_2)).trans hw225_2), ((HB.out.cell (World.block_lt_of_cell? w _ hw225_3)).trans hw225_3), ((HB.out.cell (World.block_lt_of_cell? w _ hw225_4)).trans hw225_4), ((HB.out.cell (World.block_lt_of_cell? w _ hw225_5)).trans hw225_5)⟩ (fun hHeld => ?_)
    clear hK K
    refine Kn_ 34 ?_
    refine Kp_ 10 35 (Bz 25 2047) (any_of HT_.out (by kernel_rfl)) ?_
    refine Kp_ 11 36 (Bz 25 4095) (any_of HT_.out (by kernel_rfl)) ?_
    refine Kp_ 12 37 (Bz 25 8191) (any_of HT_.out (by kernel_rfl)) ?_
    refine Kp_ 13 38 (Bz 25 16383) (any_of HT_.out (by kernel_rfl)) ?_
    refine Kp_ 14 39 (Bz 25 32767) (any_of HT_.out (by kernel_rfl)) ?_
    refine Kp_ 15 40 (Bz 25 65535) (any_of HT_.out (by kernel_rfl)) ?_
    refine Kp_ 16 41 (Bz 25 131071) (any_of HT_.out (by kernel_rfl)) ?_
    refine Kp_ 17 42 (Bz 25 262143) (any_of HT_.out (by kernel_rfl)) ?_
    refine Kp_ 18 43 (Bz 25 524287) (any_of HT_.out (by kernel_rfl)) ?_
    refine Ko_ 19 44 (Bz 25 1048575) (take_ofW HT_.out HW_.out (by kernel_rfl)) hHeld ?_
    refine Ko_ 20 45 (Bz 25 2097151) (take_ofW HT_.out HW_.out (by kernel_rfl)) hHeld ?_
    refine one_ (i := 21) (N := some 46) (Bz 25 4194303) rfl rfl (one_of HT_.out (by kernel_rfl)) (by decide) (fun K hK => ?_)
    refine goes_ Try.func39 (by kernel_rfl) rfl #[.agg #[.int .u64 ((rd_T81 l0 x15_1).f0.f0.f0), .int .u64 ((rd_T81 l0 x15_1).f0.f0.f1), .int .u64 ((rd_T81 l0 x15_1).f0.f0.f2), .int .u64 ((rd_T81 l0 x15_1).f0.f0.f3), .int .i64 ((rd_T81 l0 x15_1).f0.f1)], .agg #[.int .u64 x104_1, .int .u64 x103_1, .int .u64 x102_1, .int .u64 x101_1, .int .i64 x100_1]] (by rfl) rfl rfl (by (try simp only [List.map_toArray, List.map_cons, List.map_nil]); first | done | rfl | (simp only [List.length_drop, List.length_take]; rfl)) ?_
    with_reducible refine (tenementref07_Order.calls k1 ((rd_T81 l0 x15_1).f0.f0.f0) ((rd_T81 l0 x15_1).f0.f0.f1) ((rd_T81 l0 x15_1).f0.f0.f2) ((rd_T81 l0 x15_1).f0.f0.f3) ((rd_T81 l0 x15_1).f0.f1) x104_1 x103_1 x102_1 x101_1 x100_1 t226 _ A30.out).mono ?_
    rintro e w33 ⟨rfl, hb⟩
    refine ⟨_, rfl, ?_⟩
    replace BK217 := Kb_ BK217 hb
    replace BK218 := Kb_ BK218 hb
    replace BK219 := Kb_ BK219 hb
    replace BK220 := Kb_ BK220 hb
    replace HB := Ks_ HB hb
    (try clear hb)
    (try clear hb2)
    (try clear hk)
    (try clear hi)
    refine hK.out _ _ ⟨Km_ BK217 0, Km_ BK217 1, Km_ BK217 2, Km_ BK217 3, Km_ BK219 0, Km_ BK219 1, Km_ BK219 2, Km_ BK219 3, Km_ BK219 4, ((HB.out.cell (World.block_lt_of_cell? w _ hw223_0)).trans hw223_0), ((HB.out.cell (World.block_lt_of_cell? w _ hw223_1)).trans hw223_1), ((HB.out.cell (World.block_lt_of_cell? w _ hw223_2)).trans hw223_2), ((HB.out.cell (World.block_lt_of_cell? w _ hw223_3)).trans hw223_3), ((HB.out.cell (World.block_lt_of_cell? w _ hw223_4)).trans hw223_4), ((HB.out.cell (World.block_lt_of_cell? w _ hw223_5)).trans hw223_5), ((HB.out.cell (World.block_lt_of_cell? w _ hw225_0)).trans hw225_0), ((HB.out.cell (World.block_lt_of_cell? w _ hw225_1)).trans hw225_1), ((HB.out.cell (World.block_lt_of_cell? w _ hw225_2)).trans hw225_2), ((HB.out.cell (World.block_lt_of_cell? w _ hw225_3)).trans hw225_3), ((HB.out.cell (World.block_lt_of_cell? w _ hw225_4)).trans hw225_4), ((HB.out.cell (World.block_lt_of_cell? w _ hw225_5)).trans hw225_5)⟩ (fun hHeld => ?_)
    clear hK K
    refine Kn_ 46 ?_
    refine Kp_ 22 47 (Bz 25 8388607) (any_of HT_.out (by kernel_rfl)) ?_
    refine Kp_ 23 48 (Bz 25 16777215) (any_of HT_.out (by kernel_rfl)) ?_
    refine Kp_ 24 49 (Bz 25 33554431) (any_of HT_.out (by kernel_rfl)) ?_
    refine done_ (done_of HT_.out (by kernel_rfl)) ?_
    try go_wp2
    go_meet
    case rel => exact ⟨_, (decide (t226 ≤ 0)), (by first | rfl | (simp; done) | (simp [*]; done)), H', ⟨by have := HK1.out; first | omega | exact Nat.le_refl _⟩, ⟨by exact Kq_ BK217⟩, ⟨by exact Kq_ BK218⟩, ⟨by exact Kq_ BK219⟩, ⟨by exact Kq_ BK220⟩, ⟨K4a_ HB GE217 GE218 GE219 GE220⟩⟩
   case rest =>
    clear HC18
    try clear c2
    try clear p2
    try clear q2
    try clear hx2
    try clear c3
    try clear c4
    try clear c22
    try clear p22
    try clear q22
    try clear hx22
    try clear c26
    try clear c28
    try clear c29
    try clear hx223_0
    try clear hx223_1
    try clear hx223_2
    try clear hx223_3
    try clear hx223_4
    try clear hx223_5
    try clear p223
    try clear q223
    obtain ⟨kq, x49_17, rfl, HA, HJ17, BK217, BK218, BK219, BK220, HB⟩ := hcut
    cases kq with
    | zero => exact absurd HA.out (by simp [tenementref22_last.j1])
    | succ kj17 =>
     have H := HA.out
     clear HA
     simp only [tenementref22_last.j1] at H
     by_cases c38 : x49_17 = true
     ·subst c38
      have H1 : (tenementref22_last.l0 kj17 l0 a1 a2 a4 x14_1 (wrap64 (x15_1 + 1)) a3_0 a3_1 a3_2 a3_3 x104_1 x103_1 x102_1 x101_1 x100_1 x105_1 x106_1 x107_1 x108_1) = some (r1, r2, r3, r4, r5) := by rw [if_pos rfl] at H; exact H
      clear H
      have H := H1
      clear H1
      have H' := Aside0.mk H
      clear H
      go_wp2
      go_roundg kj17
      case measure => have := HK1.out; have := HJ17.out; omega
      case rel => exact ⟨(x14_1), (wrap64 (x15_1 + 1)), (x104_1), (x103_1), (x102_1), (x101_1), (x100_1), (x105_1), (x106_1), (x107_1), (x108_1), (by first | rfl | (simp; done) | (simp [*]; done)), (by first | rfl | (simp; done) | (simp [*]; done)), H', ⟨by have := HK1.out; have := HJ17.out; omega⟩, ⟨by exact Kq_ BK217⟩, ⟨by exact Kq_ BK218⟩, ⟨by exact Kq_ BK219⟩, ⟨by exact Kq_ BK220⟩, ⟨K4a_ HB GE217 GE218 GE219 GE220⟩⟩
     replace c38 := Bool.eq_false_iff.mpr c38
     subst c38
     have H1 : (tenementref22_last.l1 kj17 l0 a1 a2 a4 x14_1 x15_1 0 a3_0 a3_1 a3_2 a3_3 x104_1 x103_1 x102_1 x101_1 x100_1 x105_1 x106_1 x107_1 x108_1) = some (r1, r2, r3, r4, r5) := by rw [if_neg (show ¬ (false = true) by decide)] at H; exact H
     clear H
     have H := H1
     clear H1
     have H' := Aside0.mk H
     clear H
     go_wp2
     go_loopg [14, 16] kj17 (fun kq v14 v16 w' => ∃ (x14_3 : Bool) (x16_3 : Int) (x104_3 : Int) (x103_3 : Int) (x102_3 : Int) (x101_3 : Int) (x100_3 : Int) (x105_3 : ByteArray) (x106_3 : ByteArray) (x107_3 : ByteArray) (x108_3 : Bool), v14 = .bool x14_3 ∧ v16 = .int .i64 x16_3 ∧ Aside0 (tenementref22_last.l1 kq l0 a1 a2 a4 x14_3 x15_1 x16_3 a3_0 a3_1 a3_2 a3_3 x104_3 x103_3 x102_3 x101_3 x100_3 x105_3 x106_3 x107_3 x108_3 = some (r1, r2, r3, r4, r5)) ∧ Aside0 (kq ≤ kj17) ∧ Aside0 (w'.heap[gb217]? = some (.cells #[.int .u64 a3_0, .int .u64 a3_1, .int .u64 a3_2, .int .u64 a3_3] 42 (0, 0))) ∧ Aside0 (w'.heap[gb218]? = some (.cells #[.string (⟨#[]⟩ : ByteArray), .string (⟨#[]⟩ : ByteArray), .string (⟨#[]⟩ : ByteArray), .bool false] 86 (0, 0))) ∧ Aside0 (w'.heap[gb219]? = some (.cells #[.int .u64 x104_3, .int .u64 x103_3, .int .u64 x102_3, .int .u64 x101_3, .int .i64 x100_3] 78 (0, 0))) ∧ Aside0 (w'.heap[gb220]? = some (.cells #[.string x105_3, .string x106_3, .string x107_3, .bool x108_3] 86 (0, 0))) ∧ Aside0 (Below w.heap.size w w'))
     case atStart => exact ⟨(x14_1), (0), (x104_1), (x103_1), (x102_1), (x101_1), (x100_1), (x105_1), (x106_1), (x107_1), (x108_1), (by first | rfl | (simp; done) | (simp [*]; done)), (by first | rfl | (simp; done) | (simp [*]; done)), H', ⟨Nat.le_refl _⟩, ⟨by exact Kq_ BK217⟩, ⟨by exact Kq_ BK218⟩, ⟨by exact Kq_ BK219⟩, ⟨by exact Kq_ BK220⟩, ⟨K4a_ HB GE217 GE218 GE219 GE220⟩⟩
     case round =>
      clear H'
      try clear c2
      try clear p2
      try clear q2
      try clear hx2
      try clear c3
      try clear c4
      try clear p6
      try clear c22
      try clear p22
      try clear q22
      try clear hx22
      try clear c26
      try clear c28
      try clear c29
      try clear c38
      try clear hx223_0
      try clear hx223_1
      try clear hx223_2
      try clear hx223_3
      try clear hx223_4
      try clear hx223_5
      try clear p2
      try clear p22
      try clear p223
      try clear q2
      try clear q22
      try clear q223
      obtain ⟨x14_3, x16_3, x104_3, x103_3, x102_3, x101_3, x100_3, x105_3, x106_3, x107_3, x108_3, rfl, rfl, HA, HK3, BK217, BK218, BK219, BK220, HB⟩ := hrel
      cases gk with
      | zero => exact absurd HA.out (by simp [tenementref22_last.l1])
      | succ k3 =>
       have H := HA.out
       clear HA
       simp only [tenementref22_last.l1] at H
       by_cases c39 : 0 ≤ x15_1
       rotate_left
       ·rw [if_neg c39] at H
        exact absurd H (by simp)
       rw [if_pos c39] at H
       have c39b0 : decide (0 ≤ x15_1) = true := decide_eq_true c39
       clear c39
       by_cases c40 : x15_1 < (l0.length : Int)
       rotate_left
       ·rw [if_neg c40] at H
        exact absurd H (by simp)
       rw [if_pos c40] at H
       have c40b0 : decide (x15_1 < (l0.length : Int)) = true := decide_eq_true c40
       clear c40
       by_cases c41 : x16_3 < (((rd_T81 l0 x15_1).f1).length : Int)
       rotate_left
       ·rw [if_neg c41] at H
        have c41b0 : decide (x16_3 < (((rd_T81 l0 x15_1).f1).length : Int)) = false := decide_eq_false c41
        clear c41
        have H' := Aside0.mk H
        clear H
        have p227 : 0 ≤ (x15_1 : Int) := of_decide_eq_true (by first | (with_reducible assumption) | assumption)
        have q227 : x15_1 < (l0.length : Int) := of_decide_eq_true (by first | (with_reducible assumption) | assumption)
        obtain ⟨ad227, A227_5, c227_5, e227, hx227_0, hx227_1, hx227_2, hx227_3, hx227_4, hx227_5, hl227_5, hi227_5⟩ := at_T81 HR0.out x15_1 p227 q227
        cases e227
        replace hx227_0 := (HB.out.cell (World.block_lt_of_cell? w _ hx227_0)).trans hx227_0
        replace hx227_1 := (HB.out.cell (World.block_lt_of_cell? w _ hx227_1)).trans hx227_1
        replace hx227_2 := (HB.out.cell (World.block_lt_of_cell? w _ hx227_2)).trans hx227_2
        replace hx227_3 := (HB.out.cell (World.block_lt_of_cell? w _ hx227_3)).trans hx227_3
        replace hx227_4 := (HB.out.cell (World.block_lt_of_cell? w _ hx227_4)).trans hx227_4
        replace hx227_5 := (HB.out.cell (World.block_lt_of_cell? w _ hx227_5)).trans hx227_5
        have HR227_5 := Aside0.mk hi227_5
        have HC227_5 := Aside0.mk hl227_5
        clear hi227_5 hl227_5
        replace p227 := eq_true p227
        replace q227 := eq_true q227
        go_wp2
        go_roundg k3
        case measure => have := HK1.out; have := HJ17.out; have := HK3.out; omega
        case rel => exact ⟨(x14_3), (wrap64 (x15_1 + 1)), (x104_3), (x103_3), (x102_3), (x101_3), (x100_3), (x105_3), (x106_3), (x107_3), (x108_3), (by first | rfl | (simp; done) | (simp [*]; done)), (by first | rfl | (simp; done) | (simp [*]; done)), H', ⟨by have := HK1.out; have := HJ17.out; have := HK3.out; omega⟩, ⟨by exact Kq_ BK217⟩, ⟨by exact Kq_ BK218⟩, ⟨by exact Kq_ BK219⟩, ⟨by exact Kq_ BK220⟩, ⟨K4a_ HB GE217 GE218 GE219 GE220⟩⟩
       rw [if_pos c41] at H
       have c41b0 : decide (x16_3 < (((rd_T81 l0 x15_1).f1).length : Int)) = true := decide_eq_true c41
       clear c41
       by_cases c42 : 0 ≤ x16_3
       rotate_left
       ·rw [if_neg c42] at H
        exact absurd H (by simp)
       rw [if_pos c42] at H
       have c42b0 : decide (0 ≤ x16_3) = true := decide_eq_true c42
       clear c42
       by_cases c43 : ((rd_T86 ((rd_T81 l0 x15_1).f1) x16_3).f0).toList = a1.toList
       rotate_left
       ·rw [if_neg c43] at H
        have c43b0 : (((rd_T86 ((rd_T81 l0 x15_1).f1) x16_3).f0).toList == a1.toList) = false := beq_eq_false_iff_ne.mpr c43
        have c43b1 : (((rd_T86 ((rd_T81 l0 x15_1).f1) x16_3).f0).toList != a1.toList) = true := bne_iff_ne.mpr c43
        have H' := Aside0.mk H
        clear H
        have p227 : 0 ≤ (x15_1 : Int) := of_decide_eq_true (by first | (with_reducible assumption) | assumption)
        have q227 : x15_1 < (l0.length : Int) := of_decide_eq_true (by first | (with_reducible assumption) | assumption)
        obtain ⟨ad227, A227_5, c227_5, e227, hx227_0, hx227_1, hx227_2, hx227_3, hx227_4, hx227_5, hl227_5, hi227_5⟩ := at_T81 HR0.out x15_1 p227 q227
        cases e227
        replace hx227_0 := (HB.out.cell (World.block_lt_of_cell? w _ hx227_0)).trans hx227_0
        replace hx227_1 := (HB.out.cell (World.block_lt_of_cell? w _ hx227_1)).trans hx227_1
        replace hx227_2 := (HB.out.cell (World.block_lt_of_cell? w _ hx227_2)).trans hx227_2
        replace hx227_3 := (HB.out.cell (World.block_lt_of_cell? w _ hx227_3)).trans hx227_3
        replace hx227_4 := (HB.out.cell (World.block_lt_of_cell? w _ hx227_4)).trans hx227_4
        replace hx227_5 := (HB.out.cell (World.block_lt_of_cell? w _ hx227_5)).trans hx227_5
        have HR227_5 := Aside0.mk hi227_5
        have HC227_5 := Aside0.mk hl227_5
        clear hi227_5 hl227_5
        replace p227 := eq_true p227
        replace q227 := eq_true q227
        have p228 : 0 ≤ (x15_1 : Int) := of_decide_eq_true (by first | (with_reducible assumption) | assumption)
        have q228 : x15_1 < (l0.length : Int) := of_decide_eq_true (by first | (with_reducible assumption) | assumption)
        obtain ⟨ad228, A228_5, c228_5, e228, hx228_0, hx228_1, hx228_2, hx228_3, hx228_4, hx228_5, hl228_5, hi228_5⟩ := at_T81 HR0.out x15_1 p228 q228
        obtain rfl : ad227 = ad228 := (by injection e228)
        replace hx228_0 := (HB.out.cell (World.block_lt_of_cell? w _ hx228_0)).trans hx228_0
        replace hx228_1 := (HB.out.cell (World.block_lt_of_cell? w _ hx228_1)).trans hx228_1
        replace hx228_2 := (HB.out.cell (World.block_lt_of_cell? w _ hx228_2)).trans hx228_2
        replace hx228_3 := (HB.out.cell (World.block_lt_of_cell? w _ hx228_3)).trans hx228_3
        replace hx228_4 := (HB.out.cell (World.block_lt_of_cell? w _ hx228_4)).trans hx228_4
        replace hx228_5 := (HB.out.cell (World.block_lt_of_cell? w _ hx228_5)).trans hx228_5
        have HR228_5 := Aside0.mk hi228_5
        have HC228_5 := Aside0.mk hl228_5
        clear hi228_5 hl228_5
        replace p228 := eq_true p228
        replace q228 := eq_true q228
        have ea_ := Option.some.inj (hx227_5.symm.trans hx228_5)
        injection ea_ with ea_ en_ ec_
        subst ea_
        subst ec_
        clear en_
        have p229 : 0 ≤ (x16_3 : Int) := of_decide_eq_true (by first | (with_reducible assumption) | assumption)
        have q229 : x16_3 < (((rd_T81 l0 x15_1).f1).length : Int) := of_decide_eq_true (by first | (with_reducible assumption) | assumption)
        obtain ⟨ad229, e229, hx229_0, hx229_1, hx229_2, hx229_3⟩ := at_T86 HR228_5.out x16_3 p229 q229
        cases e229
        replace hx229_0 := (HB.out.cell (World.block_lt_of_cell? w _ hx229_0)).trans hx229_0
        replace hx229_1 := (HB.out.cell (World.block_lt_of_cell? w _ hx229_1)).trans hx229_1
        replace hx229_2 := (HB.out.cell (World.block_lt_of_cell? w _ hx229_2)).trans hx229_2
        replace hx229_3 := (HB.out.cell (World.block_lt_of_cell? w _ hx229_3)).trans hx229_3
        replace p229 := eq_true p229
        replace q229 := eq_true q229
        go_wp2
        go_roundg k3
        case measure => have := HK1.out; have := HJ17.out; have := HK3.out; omega
        case rel => exact ⟨(x14_3), (wrap64 (x16_3 + 1)), (x104_3), (x103_3), (x102_3), (x101_3), (x100_3), (x105_3), (x106_3), (x107_3), (x108_3), (by first | rfl | (simp; done) | (simp [*]; done)), (by first | rfl | (simp; done) | (simp [*]; done)), H', ⟨by have := HK1.out; have := HJ17.out; have := HK3.out; omega⟩, ⟨by exact Kq_ BK217⟩, ⟨by exact Kq_ BK218⟩, ⟨by exact Kq_ BK219⟩, ⟨by exact Kq_ BK220⟩, ⟨K4a_ HB GE217 GE218 GE219 GE220⟩⟩
       rw [if_pos c43] at H
       have c43b0 : (((rd_T86 ((rd_T81 l0 x15_1).f1) x16_3).f0).toList == a1.toList) = true := beq_iff_eq.mpr c43
       have c43b1 : (((rd_T86 ((rd_T81 l0 x15_1).f1) x16_3).f0).toList != a1.toList) = false := bne_eq_false_iff_eq.mpr c43
       clear c43
       by_cases c44 : ((rd_T86 ((rd_T81 l0 x15_1).f1) x16_3).f1).toList = a2.toList
       rotate_left
       ·rw [if_neg c44] at H
        have c44b0 : (((rd_T86 ((rd_T81 l0 x15_1).f1) x16_3).f1).toList == a2.toList) = false := beq_eq_false_iff_ne.mpr c44
        have c44b1 : (((rd_T86 ((rd_T81 l0 x15_1).f1) x16_3).f1).toList != a2.toList) = true := bne_iff_ne.mpr c44
        have H' := Aside0.mk H
        clear H
        have p227 : 0 ≤ (x15_1 : Int) := of_decide_eq_true (by first | (with_reducible assumption) | assumption)
        have q227 : x15_1 < (l0.length : Int) := of_decide_eq_true (by first | (with_reducible assumption) | assumption)
        obtain ⟨ad227, A227_5, c227_5, e227, hx227_0, hx227_1, hx227_2, hx227_3, hx227_4, hx227_5, hl227_5, hi227_5⟩ := at_T81 HR0.out x15_1 p227 q227
        cases e227
        replace hx227_0 := (HB.out.cell (World.block_lt_of_cell? w _ hx227_0)).trans hx227_0
        replace hx227_1 := (HB.out.cell (World.block_lt_of_cell? w _ hx227_1)).trans hx227_1
        replace hx227_2 := (HB.out.cell (World.block_lt_of_cell? w _ hx227_2)).trans hx227_2
        replace hx227_3 := (HB.out.cell (World.block_lt_of_cell? w _ hx227_3)).trans hx227_3
        replace hx227_4 := (HB.out.cell (World.block_lt_of_cell? w _ hx227_4)).trans hx227_4
        replace hx227_5 := (HB.out.cell (World.block_lt_of_cell? w _ hx227_5)).trans hx227_5
        have HR227_5 := Aside0.mk hi227_5
        have HC227_5 := Aside0.mk hl227_5
        clear hi227_5 hl227_5
        replace p227 := eq_true p227
        replace q227 := eq_true q227
        have p228 : 0 ≤ (x15_1 : Int) := of_decide_eq_true (by first | (with_reducible assumption) | assumption)
        have q228 : x15_1 < (l0.length : Int) := of_decide_eq_true (by first | (with_reducible assumption) | assumption)
        obtain ⟨ad228, A228_5, c228_5, e228, hx228_0, hx228_1, hx228_2, hx228_3, hx228_4, hx228_5, hl228_5, hi228_5⟩ := at_T81 HR0.out x15_1 p228 q228
        obtain rfl : ad227 = ad228 := (by injection e228)
        replace hx228_0 := (HB.out.cell (World.block_lt_of_cell? w _ hx228_0)).trans hx228_0
        replace hx228_1 := (HB.out.cell (World.block_lt_of_cell? w _ hx228_1)).trans hx228_1
        replace hx228_2 := (HB.out.cell (World.block_lt_of_cell? w _ hx228_2)).trans hx228_2
        replace hx228_3 := (HB.out.cell (World.block_lt_of_cell? w _ hx228_3)).trans hx228_3
        replace hx228_4 := (HB.out.cell (World.block_lt_of_cell? w _ hx228_4)).trans hx228_4
        replace hx228_5 := (HB.out.cell (World.block_lt_of_cell? w _ hx228_5)).trans hx228_5
        have HR228_5 := Aside0.mk hi228_5
        have HC228_5 := Aside0.mk hl228_5
        clear hi228_5 hl228_5
        replace p228 := eq_true p228
        replace q228 := eq_true q228
        have ea_ := Option.some.inj (hx227_5.symm.trans hx228_5)
        injection ea_ with ea_ en_ ec_
        subst ea_
        subst ec_
        clear en_
        have p229 : 0 ≤ (x16_3 : Int) := of_decide_eq_true (by first | (with_reducible assumption) | assumption)
        have q229 : x16_3 < (((rd_T81 l0 x15_1).f1).length : Int) := of_decide_eq_true (by first | (with_reducible assumption) | assumption)
        obtain ⟨ad229, e229, hx229_0, hx229_1, hx229_2, hx229_3⟩ := at_T86 HR228_5.out x16_3 p229 q229
        cases e229
        replace hx229_0 := (HB.out.cell (World.block_lt_of_cell? w _ hx229_0)).trans hx229_0
        replace hx229_1 := (HB.out.cell (World.block_lt_of_cell? w _ hx229_1)).trans hx229_1
        replace hx229_2 := (HB.out.cell (World.block_lt_of_cell? w _ hx229_2)).trans hx229_2
        replace hx229_3 := (HB.out.cell (World.block_lt_of_cell? w _ hx229_3)).trans hx229_3
        replace p229 := eq_true p229
        replace q229 := eq_true q229
        have p230 : 0 ≤ (x15_1 : Int) := of_decide_eq_true (by first | (with_reducible assumption) | assumption)
        have q230 : x15_1 < (l0.length : Int) := of_decide_eq_true (by first | (with_reducible assumption) | assumption)
        obtain ⟨ad230, A230_5, c230_5, e230, hx230_0, hx230_1, hx230_2, hx230_3, hx230_4, hx230_5, hl230_5, hi230_5⟩ := at_T81 HR0.out x15_1 p230 q230
        obtain rfl : ad227 = ad230 := (by injection e230)
        replace hx230_0 := (HB.out.cell (World.block_lt_of_cell? w _ hx230_0)).trans hx230_0
        replace hx230_1 := (HB.out.cell (World.block_lt_of_cell? w _ hx230_1)).trans hx230_1
        replace hx230_2 := (HB.out.cell (World.block_lt_of_cell? w _ hx230_2)).trans hx230_2
        replace hx230_3 := (HB.out.cell (World.block_lt_of_cell? w _ hx230_3)).trans hx230_3
        replace hx230_4 := (HB.out.cell (World.block_lt_of_cell? w _ hx230_4)).trans hx230_4
        replace hx230_5 := (HB.out.cell (World.block_lt_of_cell? w _ hx230_5)).trans hx230_5
        have HR230_5 := Aside0.mk hi230_5
        have HC230_5 := Aside0.mk hl230_5
        clear hi230_5 hl230_5
        replace p230 := eq_true p230
        replace q230 := eq_true q230
        have ea_ := Option.some.inj (hx227_5.symm.trans hx230_5)
        injection ea_ with ea_ en_ ec_
        subst ea_
        subst ec_
        clear en_
        have p231 : 0 ≤ (x16_3 : Int) := of_decide_eq_true (by first | (with_reducible assumption) | assumption)
        have q231 : x16_3 < (((rd_T81 l0 x15_1).f1).length : Int) := of_decide_eq_true (by first | (with_reducible assumption) | assumption)
        obtain ⟨ad231, e231, hx231_0, hx231_1, hx231_2, hx231_3⟩ := at_T86 HR230_5.out x16_3 p231 q231
        cases e231
        replace hx231_0 := (HB.out.cell (World.block_lt_of_cell? w _ hx231_0)).trans hx231_0
        replace hx231_1 := (HB.out.cell (World.block_lt_of_cell? w _ hx231_1)).trans hx231_1
        replace hx231_2 := (HB.out.cell (World.block_lt_of_cell? w _ hx231_2)).trans hx231_2
        replace hx231_3 := (HB.out.cell (World.block_lt_of_cell? w _ hx231_3)).trans hx231_3
        replace p231 := eq_true p231
        replace q231 := eq_true q231
        go_wp2
        go_roundg k3
        case measure => have := HK1.out; have := HJ17.out; have := HK3.out; omega
        case rel => exact ⟨(x14_3), (wrap64 (x16_3 + 1)), (x104_3), (x103_3), (x102_3), (x101_3), (x100_3), (x105_3), (x106_3), (x107_3), (x108_3), (by first | rfl | (simp; done) | (simp [*]; done)), (by first | rfl | (simp; done) | (simp [*]; done)), H', ⟨by have := HK1.out; have := HJ17.out; have := HK3.out; omega⟩, ⟨by exact Kq_ BK217⟩, ⟨by exact Kq_ BK218⟩, ⟨by exact Kq_ BK219⟩, ⟨by exact Kq_ BK220⟩, ⟨K4a_ HB GE217 GE218 GE219 GE220⟩⟩
       rw [if_pos c44] at H
       have c44b0 : (((rd_T86 ((rd_T81 l0 x15_1).f1) x16_3).f1).toList == a2.toList) = true := beq_iff_eq.mpr c44
       have c44b1 : (((rd_T86 ((rd_T81 l0 x15_1).f1) x16_3).f1).toList != a2.toList) = false := bne_eq_false_iff_eq.mpr c44
       clear c44
       have H' := Aside0.mk H
       clear H
       have p227 : 0 ≤ (x15_1 : Int) := of_decide_eq_true (by first | (with_reducible assumption) | assumption)
       have q227 : x15_1 < (l0.length : Int) := of_decide_eq_true (by first | (with_reducible assumption) | assumption)
       obtain ⟨ad227, A227_5, c227_5, e227, hx227_0, hx227_1, hx227_2, hx227_3, hx227_4, hx227_5, hl227_5, hi227_5⟩ := at_T81 HR0.out x15_1 p227 q227
       cases e227
       replace hx227_0 := (HB.out.cell (World.block_lt_of_cell? w _ hx227_0)).trans hx227_0
       replace hx227_1 := (HB.out.cell (World.block_lt_of_cell? w _ hx227_1)).trans hx227_1
       replace hx227_2 := (HB.out.cell (World.block_lt_of_cell? w _ hx227_2)).trans hx227_2
       replace hx227_3 := (HB.out.cell (World.block_lt_of_cell? w _ hx227_3)).trans hx227_3
       replace hx227_4 := (HB.out.cell (World.block_lt_of_cell? w _ hx227_4)).trans hx227_4
       replace hx227_5 := (HB.out.cell (World.block_lt_of_cell? w _ hx227_5)).trans hx227_5
       have HR227_5 := Aside0.mk hi227_5
       have HC227_5 := Aside0.mk hl227_5
       clear hi227_5 hl227_5
       replace p227 := eq_true p227
       replace q227 := eq_true q227
       have p228 : 0 ≤ (x15_1 : Int) := of_decide_eq_true (by first | (with_reducible assumption) | assumption)
       have q228 : x15_1 < (l0.length : Int) := of_decide_eq_true (by first | (with_reducible assumption) | assumption)
       obtain ⟨ad228, A228_5, c228_5, e228, hx228_0, hx228_1, hx228_2, hx228_3, hx228_4, hx228_5, hl228_5, hi228_5⟩ := at_T81 HR0.out x15_1 p228 q228
       obtain rfl : ad227 = ad228 := (by injection e228)
       replace hx228_0 := (HB.out.cell (World.block_lt_of_cell? w _ hx228_0)).trans hx228_0
       replace hx228_1 := (HB.out.cell (World.block_lt_of_cell? w _ hx228_1)).trans hx228_1
       replace hx228_2 := (HB.out.cell (World.block_lt_of_cell? w _ hx228_2)).trans hx228_2
       replace hx228_3 := (HB.out.cell (World.block_lt_of_cell? w _ hx228_3)).trans hx228_3
       replace hx228_4 := (HB.out.cell (World.block_lt_of_cell? w _ hx228_4)).trans hx228_4
       replace hx228_5 := (HB.out.cell (World.block_lt_of_cell? w _ hx228_5)).trans hx228_5
       have HR228_5 := Aside0.mk hi228_5
       have HC228_5 := Aside0.mk hl228_5
       clear hi228_5 hl228_5
       replace p228 := eq_true p228
       replace q228 := eq_true q228
       have ea_ := Option.some.inj (hx227_5.symm.trans hx228_5)
       injection ea_ with ea_ en_ ec_
       subst ea_
       subst ec_
       clear en_
       have p229 : 0 ≤ (x16_3 : Int) := of_decide_eq_true (by first | (with_reducible assumption) | assumption)
       have q229 : x16_3 < (((rd_T81 l0 x15_1).f1).length : Int) := of_decide_eq_true (by first | (with_reducible assumption) | assumption)
       obtain ⟨ad229, e229, hx229_0, hx229_1, hx229_2, hx229_3⟩ := at_T86 HR228_5.out x16_3 p229 q229
       cases e229
       replace hx229_0 := (HB.out.cell (World.block_lt_of_cell? w _ hx229_0)).trans hx229_0
       replace hx229_1 := (HB.out.cell (World.block_lt_of_cell? w _ hx229_1)).trans hx229_1
       replace hx229_2 := (HB.out.cell (World.block_lt_of_cell? w _ hx229_2)).trans hx229_2
       replace hx229_3 := (HB.out.cell (World.block_lt_of_cell? w _ hx229_3)).trans hx229_3
       replace p229 := eq_true p229
       replace q229 := eq_true q229
       have p230 : 0 ≤ (x15_1 : Int) := of_decide_eq_true (by first | (with_reducible assumption) | assumption)
       have q230 : x15_1 < (l0.length : Int) := of_decide_eq_true (by first | (with_reducible assumption) | assumption)
       obtain ⟨ad230, A230_5, c230_5, e230, hx230_0, hx230_1, hx230_2, hx230_3, hx230_4, hx230_5, hl230_5, hi230_5⟩ := at_T81 HR0.out x15_1 p230 q230
       obtain rfl : ad227 = ad230 := (by injection e230)
       replace hx230_0 := (HB.out.cell (World.block_lt_of_cell? w _ hx230_0)).trans hx230_0
       replace hx230_1 := (HB.out.cell (World.block_lt_of_cell? w _ hx230_1)).trans hx230_1
       replace hx230_2 := (HB.out.cell (World.block_lt_of_cell? w _ hx230_2)).trans hx230_2
       replace hx230_3 := (HB.out.cell (World.block_lt_of_cell? w _ hx230_3)).trans hx230_3
       replace hx230_4 := (HB.out.cell (World.block_lt_of_cell? w _ hx230_4)).trans hx230_4
       replace hx230_5 := (HB.out.cell (World.block_lt_of_cell? w _ hx230_5)).trans hx230_5
       have HR230_5 := Aside0.mk hi230_5
       have HC230_5 := Aside0.mk hl230_5
       clear hi230_5 hl230_5
       replace p230 := eq_true p230
       replace q230 := eq_true q230
       have ea_ := Option.some.inj (hx227_5.symm.trans hx230_5)
       injection ea_ with ea_ en_ ec_
       subst ea_
       subst ec_
       clear en_
       have p231 : 0 ≤ (x16_3 : Int) := of_decide_eq_true (by first | (with_reducible assumption) | assumption)
       have q231 : x16_3 < (((rd_T81 l0 x15_1).f1).length : Int) := of_decide_eq_true (by first | (with_reducible assumption) | assumption)
       obtain ⟨ad231, e231, hx231_0, hx231_1, hx231_2, hx231_3⟩ := at_T86 HR230_5.out x16_3 p231 q231
       cases e231
       replace hx231_0 := (HB.out.cell (World.block_lt_of_cell? w _ hx231_0)).trans hx231_0
       replace hx231_1 := (HB.out.cell (World.block_lt_of_cell? w _ hx231_1)).trans hx231_1
       replace hx231_2 := (HB.out.cell (World.block_lt_of_cell? w _ hx231_2)).trans hx231_2
       replace hx231_3 := (HB.out.cell (World.block_lt_of_cell? w _ hx231_3)).trans hx231_3
       replace p231 := eq_true p231
       replace q231 := eq_true q231
       have p232 : 0 ≤ (x15_1 : Int) := of_decide_eq_true (by first | (with_reducible assumption) | assumption)
       have q232 : x15_1 < (l0.length : Int) := of_decide_eq_true (by first | (with_reducible assumption) | assumption)
       obtain ⟨ad232, A232_5, c232_5, e232, hx232_0, hx232_1, hx232_2, hx232_3, hx232_4, hx232_5, hl232_5, hi232_5⟩ := at_T81 HR0.out x15_1 p232 q232
       obtain rfl : ad227 = ad232 := (by injection e232)
       replace hx232_0 := (HB.out.cell (World.block_lt_of_cell? w _ hx232_0)).trans hx232_0
       replace hx232_1 := (HB.out.cell (World.block_lt_of_cell? w _ hx232_1)).trans hx232_1
       replace hx232_2 := (HB.out.cell (World.block_lt_of_cell? w _ hx232_2)).trans hx232_2
       replace hx232_3 := (HB.out.cell (World.block_lt_of_cell? w _ hx232_3)).trans hx232_3
       replace hx232_4 := (HB.out.cell (World.block_lt_of_cell? w _ hx232_4)).trans hx232_4
       replace hx232_5 := (HB.out.cell (World.block_lt_of_cell? w _ hx232_5)).trans hx232_5
       have HR232_5 := Aside0.mk hi232_5
       have HC232_5 := Aside0.mk hl232_5
       clear hi232_5 hl232_5
       replace p232 := eq_true p232
       replace q232 := eq_true q232
       have ea_ := Option.some.inj (hx227_5.symm.trans hx232_5)
       injection ea_ with ea_ en_ ec_
       subst ea_
       subst ec_
       clear en_
       have hnb45 := NB219_217.out
       have hnc45 := NB217_219.out
       have hnb46 := NB219_218.out
       have hnc46 := NB218_219.out
       have hnb47 := NB219_220.out
       have hnc47 := NB220_219.out
       obtain ⟨hcz48_0, hcz48_1, hcz48_2, hcz48_3, hcz48_4, hfz48_0, hfz48_1, hfz48_2, hfz48_3, hfz48_4⟩ := Ke5_ BK219.out
       have p233 : 0 ≤ (x15_1 : Int) := of_decide_eq_true (by first | (with_reducible assumption) | assumption)
       have q233 : x15_1 < (l0.length : Int) := of_decide_eq_true (by first | (with_reducible assumption) | assumption)
       obtain ⟨ad233, A233_5, c233_5, e233, hx233_0, hx233_1, hx233_2, hx233_3, hx233_4, hx233_5, hl233_5, hi233_5⟩ := at_T81 HR0.out x15_1 p233 q233
       obtain rfl : ad227 = ad233 := (by injection e233)
       have hn233_0 : ad227.block ≠ gb219 := Nat.ne_of_lt (Nat.lt_of_lt_of_le (by have := World.block_lt_of_cell? _ _ hx233_0; first | rwa [add_block] at this | exact this) GW219.out)
       have hn233_1 : ad227.block ≠ gb219 := Nat.ne_of_lt (Nat.lt_of_lt_of_le (by have := World.block_lt_of_cell? _ _ hx233_0; first | rwa [add_block] at this | exact this) GW219.out)
       have hn233_2 : ad227.block ≠ gb219 := Nat.ne_of_lt (Nat.lt_of_lt_of_le (by have := World.block_lt_of_cell? _ _ hx233_0; first | rwa [add_block] at this | exact this) GW219.out)
       have hn233_3 : ad227.block ≠ gb219 := Nat.ne_of_lt (Nat.lt_of_lt_of_le (by have := World.block_lt_of_cell? _ _ hx233_0; first | rwa [add_block] at this | exact this) GW219.out)
       have hn233_4 : ad227.block ≠ gb219 := Nat.ne_of_lt (Nat.lt_of_lt_of_le (by have := World.block_lt_of_cell? _ _ hx233_0; first | rwa [add_block] at this | exact this) GW219.out)
       replace hx233_0 := (HB.out.cell (World.block_lt_of_cell? w _ hx233_0)).trans hx233_0
       replace hx233_1 := (HB.out.cell (World.block_lt_of_cell? w _ hx233_1)).trans hx233_1
       replace hx233_2 := (HB.out.cell (World.block_lt_of_cell? w _ hx233_2)).trans hx233_2
       replace hx233_3 := (HB.out.cell (World.block_lt_of_cell? w _ hx233_3)).trans hx233_3
       replace hx233_4 := (HB.out.cell (World.block_lt_of_cell? w _ hx233_4)).trans hx233_4
       replace hx233_5 := (HB.out.cell (World.block_lt_of_cell? w _ hx233_5)).trans hx233_5
       have HR233_5 := Aside0.mk hi233_5
       have HC233_5 := Aside0.mk hl233_5
       clear hi233_5 hl233_5
       replace hx233_0 := (cell_far (p := ⟨gb219, 0, none⟩) (by first | (rw [add_block]; exact hn233_0) | (show (Addr.add _ _).block ≠ _; rw [add_block]; exact hn233_0) | exact hn233_0) (.int .u64 ((rd_T81 l0 x15_1).f0.f0.f0))).trans hx233_0
       replace hx233_1 := (cell_far (p := ⟨gb219, 0, none⟩) (by first | (rw [add_block]; exact hn233_0) | (show (Addr.add _ _).block ≠ _; rw [add_block]; exact hn233_0) | exact hn233_0) (.int .u64 ((rd_T81 l0 x15_1).f0.f0.f0))).trans hx233_1
       replace hx233_2 := (cell_far (p := ⟨gb219, 0, none⟩) (by first | (rw [add_block]; exact hn233_0) | (show (Addr.add _ _).block ≠ _; rw [add_block]; exact hn233_0) | exact hn233_0) (.int .u64 ((rd_T81 l0 x15_1).f0.f0.f0))).trans hx233_2
       replace hx233_3 := (cell_far (p := ⟨gb219, 0, none⟩) (by first | (rw [add_block]; exact hn233_0) | (show (Addr.add _ _).block ≠ _; rw [add_block]; exact hn233_0) | exact hn233_0) (.int .u64 ((rd_T81 l0 x15_1).f0.f0.f0))).trans hx233_3
       replace hx233_4 := (cell_far (p := ⟨gb219, 0, none⟩) (by first | (rw [add_block]; exact hn233_0) | (show (Addr.add _ _).block ≠ _; rw [add_block]; exact hn233_0) | exact hn233_0) (.int .u64 ((rd_T81 l0 x15_1).f0.f0.f0))).trans hx233_4
       replace hx233_5 := (cell_far (p := ⟨gb219, 0, none⟩) (by first | (rw [add_block]; exact hn233_0) | (show (Addr.add _ _).block ≠ _; rw [add_block]; exact hn233_0) | exact hn233_0) (.int .u64 ((rd_T81 l0 x15_1).f0.f0.f0))).trans hx233_5
       replace hx233_0 := (cell_far (p := ⟨gb219, 1, none⟩) (by first | (rw [add_block]; exact hn233_1) | (show (Addr.add _ _).block ≠ _; rw [add_block]; exact hn233_1) | exact hn233_1) (.int .u64 ((rd_T81 l0 x15_1).f0.f0.f1))).trans hx233_0
       replace hx233_1 := (cell_far (p := ⟨gb219, 1, none⟩) (by first | (rw [add_block]; exact hn233_1) | (show (Addr.add _ _).block ≠ _; rw [add_block]; exact hn233_1) | exact hn233_1) (.int .u64 ((rd_T81 l0 x15_1).f0.f0.f1))).trans hx233_1
       replace hx233_2 := (cell_far (p := ⟨gb219, 1, none⟩) (by first | (rw [add_block]; exact hn233_1) | (show (Addr.add _ _).block ≠ _; rw [add_block]; exact hn233_1) | exact hn233_1) (.int .u64 ((rd_T81 l0 x15_1).f0.f0.f1))).trans hx233_2
       replace hx233_3 := (cell_far (p := ⟨gb219, 1, none⟩) (by first | (rw [add_block]; exact hn233_1) | (show (Addr.add _ _).block ≠ _; rw [add_block]; exact hn233_1) | exact hn233_1) (.int .u64 ((rd_T81 l0 x15_1).f0.f0.f1))).trans hx233_3
       replace hx233_4 := (cell_far (p := ⟨gb219, 1, none⟩) (by first | (rw [add_block]; exact hn233_1) | (show (Addr.add _ _).block ≠ _; rw [add_block]; exact hn233_1) | exact hn233_1) (.int .u64 ((rd_T81 l0 x15_1).f0.f0.f1))).trans hx233_4
       replace hx233_5 := (cell_far (p := ⟨gb219, 1, none⟩) (by first | (rw [add_block]; exact hn233_1) | (show (Addr.add _ _).block ≠ _; rw [add_block]; exact hn233_1) | exact hn233_1) (.int .u64 ((rd_T81 l0 x15_1).f0.f0.f1))).trans hx233_5
       replace hx233_0 := (cell_far (p := ⟨gb219, 2, none⟩) (by first | (rw [add_block]; exact hn233_2) | (show (Addr.add _ _).block ≠ _; rw [add_block]; exact hn233_2) | exact hn233_2) (.int .u64 ((rd_T81 l0 x15_1).f0.f0.f2))).trans hx233_0
       replace hx233_1 := (cell_far (p := ⟨gb219, 2, none⟩) (by first | (rw [add_block]; exact hn233_2) | (show (Addr.add _ _).block ≠ _; rw [add_block]; exact hn233_2) | exact hn233_2) (.int .u64 ((rd_T81 l0 x15_1).f0.f0.f2))).trans hx233_1
       replace hx233_2 := (cell_far (p := ⟨gb219, 2, none⟩) (by first | (rw [add_block]; exact hn233_2) | (show (Addr.add _ _).block ≠ _; rw [add_block]; exact hn233_2) | exact hn233_2) (.int .u64 ((rd_T81 l0 x15_1).f0.f0.f2))).trans hx233_2
       replace hx233_3 := (cell_far (p := ⟨gb219, 2, none⟩) (by first | (rw [add_block]; exact hn233_2) | (show (Addr.add _ _).block ≠ _; rw [add_block]; exact hn233_2) | exact hn233_2) (.int .u64 ((rd_T81 l0 x15_1).f0.f0.f2))).trans hx233_3
       replace hx233_4 := (cell_far (p := ⟨gb219, 2, none⟩) (by first | (rw [add_block]; exact hn233_2) | (show (Addr.add _ _).block ≠ _; rw [add_block]; exact hn233_2) | exact hn233_2) (.int .u64 ((rd_T81 l0 x15_1).f0.f0.f2))).trans hx233_4
       replace hx233_5 := (cell_far (p := ⟨gb219, 2, none⟩) (by first | (rw [add_block]; exact hn233_2) | (show (Addr.add _ _).block ≠ _; rw [add_block]; exact hn233_2) | exact hn233_2) (.int .u64 ((rd_T81 l0 x15_1).f0.f0.f2))).trans hx233_5
       replace hx233_0 := (cell_far (p := ⟨gb219, 3, none⟩) (by first | (rw [add_block]; exact hn233_3) | (show (Addr.add _ _).block ≠ _; rw [add_block]; exact hn233_3) | exact hn233_3) (.int .u64 ((rd_T81 l0 x15_1).f0.f0.f3))).trans hx233_0
       replace hx233_1 := (cell_far (p := ⟨gb219, 3, none⟩) (by first | (rw [add_block]; exact hn233_3) | (show (Addr.add _ _).block ≠ _; rw [add_block]; exact hn233_3) | exact hn233_3) (.int .u64 ((rd_T81 l0 x15_1).f0.f0.f3))).trans hx233_1
       replace hx233_2 := (cell_far (p := ⟨gb219, 3, none⟩) (by first | (rw [add_block]; exact hn233_3) | (show (Addr.add _ _).block ≠ _; rw [add_block]; exact hn233_3) | exact hn233_3) (.int .u64 ((rd_T81 l0 x15_1).f0.f0.f3))).trans hx233_2
       replace hx233_3 := (cell_far (p := ⟨gb219, 3, none⟩) (by first | (rw [add_block]; exact hn233_3) | (show (Addr.add _ _).block ≠ _; rw [add_block]; exact hn233_3) | exact hn233_3) (.int .u64 ((rd_T81 l0 x15_1).f0.f0.f3))).trans hx233_3
       replace hx233_4 := (cell_far (p := ⟨gb219, 3, none⟩) (by first | (rw [add_block]; exact hn233_3) | (show (Addr.add _ _).block ≠ _; rw [add_block]; exact hn233_3) | exact hn233_3) (.int .u64 ((rd_T81 l0 x15_1).f0.f0.f3))).trans hx233_4
       replace hx233_5 := (cell_far (p := ⟨gb219, 3, none⟩) (by first | (rw [add_block]; exact hn233_3) | (show (Addr.add _ _).block ≠ _; rw [add_block]; exact hn233_3) | exact hn233_3) (.int .u64 ((rd_T81 l0 x15_1).f0.f0.f3))).trans hx233_5
       replace hx233_0 := (cell_far (p := ⟨gb219, 4, none⟩) (by first | (rw [add_block]; exact hn233_4) | (show (Addr.add _ _).block ≠ _; rw [add_block]; exact hn233_4) | exact hn233_4) (.int .i64 ((rd_T81 l0 x15_1).f0.f1))).trans hx233_0
       replace hx233_1 := (cell_far (p := ⟨gb219, 4, none⟩) (by first | (rw [add_block]; exact hn233_4) | (show (Addr.add _ _).block ≠ _; rw [add_block]; exact hn233_4) | exact hn233_4) (.int .i64 ((rd_T81 l0 x15_1).f0.f1))).trans hx233_1
       replace hx233_2 := (cell_far (p := ⟨gb219, 4, none⟩) (by first | (rw [add_block]; exact hn233_4) | (show (Addr.add _ _).block ≠ _; rw [add_block]; exact hn233_4) | exact hn233_4) (.int .i64 ((rd_T81 l0 x15_1).f0.f1))).trans hx233_2
       replace hx233_3 := (cell_far (p := ⟨gb219, 4, none⟩) (by first | (rw [add_block]; exact hn233_4) | (show (Addr.add _ _).block ≠ _; rw [add_block]; exact hn233_4) | exact hn233_4) (.int .i64 ((rd_T81 l0 x15_1).f0.f1))).trans hx233_3
       replace hx233_4 := (cell_far (p := ⟨gb219, 4, none⟩) (by first | (rw [add_block]; exact hn233_4) | (show (Addr.add _ _).block ≠ _; rw [add_block]; exact hn233_4) | exact hn233_4) (.int .i64 ((rd_T81 l0 x15_1).f0.f1))).trans hx233_4
       replace hx233_5 := (cell_far (p := ⟨gb219, 4, none⟩) (by first | (rw [add_block]; exact hn233_4) | (show (Addr.add _ _).block ≠ _; rw [add_block]; exact hn233_4) | exact hn233_4) (.int .i64 ((rd_T81 l0 x15_1).f0.f1))).trans hx233_5
       clear hn233_0
       clear hn233_1
       clear hn233_2
       clear hn233_3
       clear hn233_4
       replace p233 := eq_true p233
       replace q233 := eq_true q233
       have p234 : 0 ≤ (x16_3 : Int) := of_decide_eq_true (by first | (with_reducible assumption) | assumption)
       have q234 : x16_3 < (((rd_T81 l0 x15_1).f1).length : Int) := of_decide_eq_true (by first | (with_reducible assumption) | assumption)
       obtain ⟨ad234, e234, hx234_0, hx234_1, hx234_2, hx234_3⟩ := at_T86 HR233_5.out x16_3 p234 q234
       cases e234
       have hn234_0 : ad234.block ≠ gb219 := Nat.ne_of_lt (Nat.lt_of_lt_of_le (by have := World.block_lt_of_cell? _ _ hx234_0; first | rwa [add_block] at this | exact this) GW219.out)
       have hn234_1 : ad234.block ≠ gb219 := Nat.ne_of_lt (Nat.lt_of_lt_of_le (by have := World.block_lt_of_cell? _ _ hx234_0; first | rwa [add_block] at this | exact this) GW219.out)
       have hn234_2 : ad234.block ≠ gb219 := Nat.ne_of_lt (Nat.lt_of_lt_of_le (by have := World.block_lt_of_cell? _ _ hx234_0; first | rwa [add_block] at this | exact this) GW219.out)
       have hn234_3 : ad234.block ≠ gb219 := Nat.ne_of_lt (Nat.lt_of_lt_of_le (by have := World.block_lt_of_cell? _ _ hx234_0; first | rwa [add_block] at this | exact this) GW219.out)
       have hn234_4 : ad234.block ≠ gb219 := Nat.ne_of_lt (Nat.lt_of_lt_of_le (by have := World.block_lt_of_cell? _ _ hx234_0; first | rwa [add_block] at this | exact this) GW219.out)
       replace hx234_0 := (HB.out.cell (World.block_lt_of_cell? w _ hx234_0)).trans hx234_0
       replace hx234_1 := (HB.out.cell (World.block_lt_of_cell? w _ hx234_1)).trans hx234_1
       replace hx234_2 := (HB.out.cell (World.block_lt_of_cell? w _ hx234_2)).trans hx234_2
       replace hx234_3 := (HB.out.cell (World.block_lt_of_cell? w _ hx234_3)).trans hx234_3
       replace hx234_0 := (cell_far (p := ⟨gb219, 0, none⟩) (by first | (rw [add_block]; exact hn234_0) | (show (Addr.add _ _).block ≠ _; rw [add_block]; exact hn234_0) | exact hn234_0) (.int .u64 ((rd_T81 l0 x15_1).f0.f0.f0))).trans hx234_0
       replace hx234_1 := (cell_far (p := ⟨gb219, 0, none⟩) (by first | (rw [add_block]; exact hn234_0) | (show (Addr.add _ _).block ≠ _; rw [add_block]; exact hn234_0) | exact hn234_0) (.int .u64 ((rd_T81 l0 x15_1).f0.f0.f0))).trans hx234_1
       replace hx234_2 := (cell_far (p := ⟨gb219, 0, none⟩) (by first | (rw [add_block]; exact hn234_0) | (show (Addr.add _ _).block ≠ _; rw [add_block]; exact hn234_0) | exact hn234_0) (.int .u64 ((rd_T81 l0 x15_1).f0.f0.f0))).trans hx234_2
       replace hx234_3 := (cell_far (p := ⟨gb219, 0, none⟩) (by first | (rw [add_block]; exact hn234_0) | (show (Addr.add _ _).block ≠ _; rw [add_block]; exact hn234_0) | exact hn234_0) (.int .u64 ((rd_T81 l0 x15_1).f0.f0.f0))).trans hx234_3
       replace hx234_0 := (cell_far (p := ⟨gb219, 1, none⟩) (by first | (rw [add_block]; exact hn234_1) | (show (Addr.add _ _).block ≠ _; rw [add_block]; exact hn234_1) | exact hn234_1) (.int .u64 ((rd_T81 l0 x15_1).f0.f0.f1))).trans hx234_0
       replace hx234_1 := (cell_far (p := ⟨gb219, 1, none⟩) (by first | (rw [add_block]; exact hn234_1) | (show (Addr.add _ _).block ≠ _; rw [add_block]; exact hn234_1) | exact hn234_1) (.int .u64 ((rd_T81 l0 x15_1).f0.f0.f1))).trans hx234_1
       replace hx234_2 := (cell_far (p := ⟨gb219, 1, none⟩) (by first | (rw [add_block]; exact hn234_1) | (show (Addr.add _ _).block ≠ _; rw [add_block]; exact hn234_1) | exact hn234_1) (.int .u64 ((rd_T81 l0 x15_1).f0.f0.f1))).trans hx234_2
       replace hx234_3 := (cell_far (p := ⟨gb219, 1, none⟩) (by first | (rw [add_block]; exact hn234_1) | (show (Addr.add _ _).block ≠ _; rw [add_block]; exact hn234_1) | exact hn234_1) (.int .u64 ((rd_T81 l0 x15_1).f0.f0.f1))).trans hx234_3
       replace hx234_0 := (cell_far (p := ⟨gb219, 2, none⟩) (by first | (rw [add_block]; exact hn234_2) | (show (Addr.add _ _).block ≠ _; rw [add_block]; exact hn234_2) | exact hn234_2) (.int .u64 ((rd_T81 l0 x15_1).f0.f0.f2))).trans hx234_0
       replace hx234_1 := (cell_far (p := ⟨gb219, 2, none⟩) (by first | (rw [add_block]; exact hn234_2) | (show (Addr.add _ _).block ≠ _; rw [add_block]; exact hn234_2) | exact hn234_2) (.int .u64 ((rd_T81 l0 x15_1).f0.f0.f2))).trans hx234_1
       replace hx234_2 := (cell_far (p := ⟨gb219, 2, none⟩) (by first | (rw [add_block]; exact hn234_2) | (show (Addr.add _ _).block ≠ _; rw [add_block]; exact hn234_2) | exact hn234_2) (.int .u64 ((rd_T81 l0 x15_1).f0.f0.f2))).trans hx234_2
       replace hx234_3 := (cell_far (p := ⟨gb219, 2, none⟩) (by first | (rw [add_block]; exact hn234_2) | (show (Addr.add _ _).block ≠ _; rw [add_block]; exact hn234_2) | exact hn234_2) (.int .u64 ((rd_T81 l0 x15_1).f0.f0.f2))).trans hx234_3
       replace hx234_0 := (cell_far (p := ⟨gb219, 3, none⟩) (by first | (rw [add_block]; exact hn234_3) | (show (Addr.add _ _).block ≠ _; rw [add_block]; exact hn234_3) | exact hn234_3) (.int .u64 ((rd_T81 l0 x15_1).f0.f0.f3))).trans hx234_0
       replace hx234_1 := (cell_far (p := ⟨gb219, 3, none⟩) (by first | (rw [add_block]; exact hn234_3) | (show (Addr.add _ _).block ≠ _; rw [add_block]; exact hn234_3) | exact hn234_3) (.int .u64 ((rd_T81 l0 x15_1).f0.f0.f3))).trans hx234_1
       replace hx234_2 := (cell_far (p := ⟨gb219, 3, none⟩) (by first | (rw [add_block]; exact hn234_3) | (show (Addr.add _ _).block ≠ _; rw [add_block]; exact hn234_3) | exact hn234_3) (.int .u64 ((rd_T81 l0 x15_1).f0.f0.f3))).trans hx234_2
       replace hx234_3 := (cell_far (p := ⟨gb219, 3, none⟩) (by first | (rw [add_block]; exact hn234_3) | (show (Addr.add _ _).block ≠ _; rw [add_block]; exact hn234_3) | exact hn234_3) (.int .u64 ((rd_T81 l0 x15_1).f0.f0.f3))).trans hx234_3
       replace hx234_0 := (cell_far (p := ⟨gb219, 4, none⟩) (by first | (rw [add_block]; exact hn234_4) | (show (Addr.add _ _).block ≠ _; rw [add_block]; exact hn234_4) | exact hn234_4) (.int .i64 ((rd_T81 l0 x15_1).f0.f1))).trans hx234_0
       replace hx234_1 := (cell_far (p := ⟨gb219, 4, none⟩) (by first | (rw [add_block]; exact hn234_4) | (show (Addr.add _ _).block ≠ _; rw [add_block]; exact hn234_4) | exact hn234_4) (.int .i64 ((rd_T81 l0 x15_1).f0.f1))).trans hx234_1
       replace hx234_2 := (cell_far (p := ⟨gb219, 4, none⟩) (by first | (rw [add_block]; exact hn234_4) | (show (Addr.add _ _).block ≠ _; rw [add_block]; exact hn234_4) | exact hn234_4) (.int .i64 ((rd_T81 l0 x15_1).f0.f1))).trans hx234_2
       replace hx234_3 := (cell_far (p := ⟨gb219, 4, none⟩) (by first | (rw [add_block]; exact hn234_4) | (show (Addr.add _ _).block ≠ _; rw [add_block]; exact hn234_4) | exact hn234_4) (.int .i64 ((rd_T81 l0 x15_1).f0.f1))).trans hx234_3
       clear hn234_0
       clear hn234_1
       clear hn234_2
       clear hn234_3
       clear hn234_4
       replace p234 := eq_true p234
       replace q234 := eq_true q234
       have hnb49 := NB220_217.out
       have hnc49 := NB217_220.out
       have hnb50 := NB220_218.out
       have hnc50 := NB218_220.out
       obtain ⟨hcz51_0, hcz51_1, hcz51_2, hcz51_3, hfz51_0, hfz51_1, hfz51_2, hfz51_3⟩ := Ke4_ BK220.out
       go_wp2
       go_roundg k3
       case measure => have := HK1.out; have := HJ17.out; have := HK3.out; omega
       case rel => exact ⟨(true), (wrap64 (x15_1 + 1)), ((rd_T81 l0 x15_1).f0.f0.f0), ((rd_T81 l0 x15_1).f0.f0.f1), ((rd_T81 l0 x15_1).f0.f0.f2), ((rd_T81 l0 x15_1).f0.f0.f3), ((rd_T81 l0 x15_1).f0.f1), ((rd_T86 ((rd_T81 l0 x15_1).f1) x16_3).f0), ((rd_T86 ((rd_T81 l0 x15_1).f1) x16_3).f1), ((rd_T86 ((rd_T81 l0 x15_1).f1) x16_3).f2), ((rd_T86 ((rd_T81 l0 x15_1).f1) x16_3).f3), (by first | rfl | (simp; done) | (simp [*]; done)), (by first | rfl | (simp; done) | (simp [*]; done)), H', ⟨by have := HK1.out; have := HJ17.out; have := HK3.out; omega⟩, ⟨by exact K2b_ BK217 NB217_220 NB217_219⟩, ⟨by exact K2b_ BK218 NB218_220 NB218_219⟩, ⟨by (repeat (first | (with_reducible first | refine blk_drewN ?_ _ | refine blk_drew ?_ | refine blk_alloc ?_ _) | refine blk_far ?_ NB219_220.out _)); refine blk_put (cs := #[.int .u64 ((rd_T81 l0 x15_1).f0.f0.f0), .int .u64 ((rd_T81 l0 x15_1).f0.f0.f1), .int .u64 ((rd_T81 l0 x15_1).f0.f0.f2), .int .u64 ((rd_T81 l0 x15_1).f0.f0.f3), .int .i64 x100_3]) ?_ 4 _ rfl; refine Kv_ ?_; refine blk_put (cs := #[.int .u64 ((rd_T81 l0 x15_1).f0.f0.f0), .int .u64 ((rd_T81 l0 x15_1).f0.f0.f1), .int .u64 ((rd_T81 l0 x15_1).f0.f0.f2), .int .u64 x101_3, .int .i64 x100_3]) ?_ 3 _ rfl; refine Kv_ ?_; refine blk_put (cs := #[.int .u64 ((rd_T81 l0 x15_1).f0.f0.f0), .int .u64 ((rd_T81 l0 x15_1).f0.f0.f1), .int .u64 x102_3, .int .u64 x101_3, .int .i64 x100_3]) ?_ 2 _ rfl; refine Kv_ ?_; refine blk_put (cs := #[.int .u64 ((rd_T81 l0 x15_1).f0.f0.f0), .int .u64 x103_3, .int .u64 x102_3, .int .u64 x101_3, .int .i64 x100_3]) ?_ 1 _ rfl; refine Kv_ ?_; refine blk_put (cs := #[.int .u64 x104_3, .int .u64 x103_3, .int .u64 x102_3, .int .u64 x101_3, .int .i64 x100_3]) ?_ 0 _ rfl; exact Kq_ BK219⟩, ⟨by refine Kv_ ?_; refine blk_put (cs := #[.string ((rd_T86 ((rd_T81 l0 x15_1).f1) x16_3).f0), .string ((rd_T86 ((rd_T81 l0 x15_1).f1) x16_3).f1), .string ((rd_T86 ((rd_T81 l0 x15_1).f1) x16_3).f2), .bool x108_3]) ?_ 3 _ rfl; refine Kv_ ?_; refine blk_put (cs := #[.string ((rd_T86 ((rd_T81 l0 x15_1).f1) x16_3).f0), .string ((rd_T86 ((rd_T81 l0 x15_1).f1) x16_3).f1), .string x107_3, .bool x108_3]) ?_ 2 _ rfl; refine Kv_ ?_; refine blk_put (cs := #[.string ((rd_T86 ((rd_T81 l0 x15_1).f1) x16_3).f0), .string x106_3, .string x107_3, .bool x108_3]) ?_ 1 _ rfl; refine Kv_ ?_; refine blk_put (cs := #[.string x105_3, .string x106_3, .string x107_3, .bool x108_3]) ?_ 0 _ rfl; exact K1b_ BK220 NB220_219⟩, ⟨K4a_ HB GE217 GE218 GE219 GE220⟩⟩
end Go.Proofs.Ythjhkcebcgdeoaa.Q
