import Derived.Test.YtoogchgoiciggaaGItemWhole2
import Derived.Test.YtoogchgoiciggaaGItemWhole3
namespace Go.Proofs.Ytoogchgoiciggaa.Q
open Go.RowKit Go.Proofs.YtoogchgoiciggaaW.PrintWords Go.Proofs.YtoogchgoiciggaaW.PrintLast Go.Proofs.YtoogchgoiciggaaW.PrintMore
attribute [local go_sem] max2_int min2_int max_two min_two max_three min_three max_four min_four   -- for this text's walks alone
set_option linter.unusedVariables false
set_option linter.unusedSimpArgs false
def pack_bad.f  : Option (ByteArray × Bool) := some ((⟨#[]⟩ : ByteArray), true)
set_option maxHeartbeats 8000000 in
set_option maxRecDepth 100000 in
theorem pack_bad.calls  (r1 : ByteArray) (r2 : Bool) (w : World) (h : pack_bad.f  = some (r1, r2)) :
  Calls Try.prog 71 #[] w fun e w' => e = .returned (.agg #[.string r1, .bool r2]) ∧ Below w.heap.size w w' := by
 have hu97 := Try.underlying97
 have HB := Aside0.mk (Below.refl w.heap.size w)
 have H : (some ((⟨#[]⟩ : ByteArray), true)) = some (r1, r2) := h
 clear h
 simp only [Option.some.injEq, Prod.mk.injEq] at H
 obtain ⟨rfl, rfl⟩ := H
 go_enter Try.func71, Try.ntmps71
 go_wp2_with (first | ((with_reducible refine gate_dst (N := 0) rfl ?_); refine Ka_ 0 #[.string (⟨#[]⟩ : ByteArray), .bool false] 97 ?_; intro gb149 hg w1 hbox hb; have BK149 := Aside0.mk (hbox); have GW149 := Kw_ HB hg; have GE149 := GW149; replace HB := Ks_ HB hb; clear hb hbox hg; obtain ⟨hcz2_0, hcz2_1, hfz2_0, hfz2_1⟩ := Ke2_ BK149.out))
 refine bodyPost_ret (results_cell_row rfl _ _ gb149 97 #[.string (⟨#[]⟩ : ByteArray), .bool true] (0, 0) _ rfl (by refine Kv_ ?_; refine blk_put (cs := #[.string (⟨#[]⟩ : ByteArray), .bool false]) ?_ 1 _ rfl; refine Kv_ ?_; refine blk_put (cs := #[.string (⟨#[]⟩ : ByteArray), .bool false]) ?_ 0 _ rfl; exact Kq_ BK149) Try.underlying97 rfl (by kernel_rfl)) rfl ?_
 exact ⟨Kh_, Kz_ HB GE149⟩
def pack_Reader_Vary.l0 : Nat → Int → Int → Int → ByteArray → Bool → Option (Int × ByteArray × Bool)
 | 0, _, _, _, _, _ => none
 | k + 1, x4, x13, x14, x100, x103 => if x14 < x13 then (if 0 ≤ x14 then (if x14 < (x100.size : Int) then (if 0 ≤ (wrap64 (7 * x14)) then (if (bt x100 x14) ≥ 128 then (pack_Reader_Vary.l0 k (Go.bits .or .u64 x4 (shl .u64 (IntKind.u64.wrap (Go.bits .and .u8 (bt x100 x14) 127)) (wrap64 (7 * x14)))) x13 (wrap64 (x14 + 1)) x100 x103) else (if 0 ≤ (wrap64 (x14 + 1)) then (if (wrap64 (x14 + 1)) ≤ (x100.size : Int) then ((pack_Vary.f k (Go.bits .or .u64 x4 (shl .u64 (IntKind.u64.wrap (Go.bits .and .u8 (bt x100 x14) 127)) (wrap64 (7 * x14))))).bind fun t156 => (if (x100.extract 0 ((wrap64 (x14 + 1)) : Int).toNat).toList = t156.toList then (some (Go.bits .or .u64 x4 (shl .u64 (IntKind.u64.wrap (Go.bits .and .u8 (bt x100 x14) 127)) (wrap64 (7 * x14))), x100.extract ((wrap64 (x14 + 1)) : Int).toNat x100.size, false)) else ((pack_bad.f).bind fun bt157 => (some (0, bt157.1, bt157.2))))) else (none)) else (none))) else (none)) else (none)) else (none)) else ((pack_bad.f).bind fun bt154 => (some (0, bt154.1, bt154.2)))
def pack_Reader_Vary.f (k : Nat) (a0_0 : ByteArray) (a0_1 : Bool) : Option (Int × ByteArray × Bool) := if a0_1 = true then ((pack_bad.f).bind fun bt152 => (some (0, bt152.1, bt152.2))) else (pack_Reader_Vary.l0 k 0 (mn (a0_0.size : Int) 10) 0 a0_0 a0_1)
theorem pack_Reader_Vary.mono_l : ∀ k, (∀ y0 y1 y2 y3 y4, LeO (pack_Reader_Vary.l0 k y0 y1 y2 y3 y4) (pack_Reader_Vary.l0 (k + 1) y0 y1 y2 y3 y4))
 | 0 => fun _ _ _ _ _ r h => by simp [pack_Reader_Vary.l0] at h
 | k + 1 => by
  have ih0 := pack_Reader_Vary.mono_l k
  ·intro y0 y1 y2 y3 y4
   unfold pack_Reader_Vary.l0
   repeat' first
   | (with_reducible exact ih0 _ _ _ _ _)
   | (with_reducible exact pack_Vary.mono _ _)
   | (with_reducible exact LeO.refl _)
   | (with_reducible exact LeO.none _)
   | (with_reducible refine LeO.ite ?_ ?_)
   | (with_reducible refine LeO.bind ?_ (fun _ => ?_))
   | exact ih0 _ _ _ _ _
   | exact pack_Vary.mono _ _
   | exact LeO.none _
   | refine LeO.ite ?_ ?_
   | refine LeO.bind ?_ (fun _ => ?_)
theorem pack_Reader_Vary.mono : ∀ a0 a1 k, LeO (pack_Reader_Vary.f k a0 a1) (pack_Reader_Vary.f (k + 1) a0 a1) := by
 intro a0 a1 k
 have ih0 := pack_Reader_Vary.mono_l k
 unfold pack_Reader_Vary.f
 repeat' first
   | (with_reducible exact ih0 _ _ _ _ _)
   | (with_reducible exact pack_Vary.mono _ _)
   | (with_reducible exact LeO.refl _)
   | (with_reducible exact LeO.none _)
   | (with_reducible refine LeO.ite ?_ ?_)
   | (with_reducible refine LeO.bind ?_ (fun _ => ?_))
   | exact ih0 _ _ _ _ _
   | exact pack_Vary.mono _ _
   | exact LeO.none _
   | refine LeO.ite ?_ ?_
   | refine LeO.bind ?_ (fun _ => ?_)
def pack_Reader_Vary.T10 : Bool × List (List Nat × List Nat) := (true, [([], []), ([0], [0]), ([], []), ([2], [2]), ([1, 3], [1, 3]), ([], []), ([5], [5]), ([4, 6], [4, 6])])
def pack_Reader_Vary.B10 : List Nat := [0, 1, 0, 4, 15, 0, 32, 127]
theorem pack_Reader_Vary.tab10 : rtab .any (opsOf Try.f72 10) = pack_Reader_Vary.T10 := by kernel_rfl
theorem pack_Reader_Vary.bits10 : waitsOk pack_Reader_Vary.T10.2 pack_Reader_Vary.B10 = true := by kernel_rfl
def pack_Reader_Vary.T11 : Bool × List (List Nat × List Nat) := (true, [([], []), ([], []), ([1], [1]), ([], []), ([3], [3]), ([2, 4], [2, 4]), ([5], [5]), ([0, 0], [0]), ([6, 7, 0, 1, 2, 3, 4, 5, 6, 7], [6])])
def pack_Reader_Vary.B11 : List Nat := [0, 0, 2, 0, 8, 30, 62, 1, 255]
theorem pack_Reader_Vary.tab11 : rtab .any (opsOf Try.f72 11) = pack_Reader_Vary.T11 := by kernel_rfl
theorem pack_Reader_Vary.bits11 : waitsOk pack_Reader_Vary.T11.2 pack_Reader_Vary.B11 = true := by kernel_rfl
set_option maxHeartbeats 8000000 in
set_option maxRecDepth 100000 in
theorem pack_Reader_Vary.calls (k : Nat) (a0_0 : ByteArray) (a0_1 : Bool) (r1 : Int) (r2 : ByteArray) (r3 : Bool) (w : World) (h : pack_Reader_Vary.f k a0_0 a0_1 = some (r1, r2, r3)) :
  Calls Try.prog 72 #[.agg #[.string a0_0, .bool a0_1]] w fun e w' => e = .returned (.tuple #[.int .u64 r1, .agg #[.string r2, .bool r3]]) ∧ Below w.heap.size w w' := by
 have hu97 := Try.underlying97
 have HB := Aside0.mk (Below.refl w.heap.size w)
 have H : (if a0_1 = true then ((pack_bad.f).bind fun bt152 => (some (0, bt152.1, bt152.2))) else (pack_Reader_Vary.l0 k 0 (mn (a0_0.size : Int) 10) 0 a0_0 a0_1)) = some (r1, r2, r3) := h
 clear h
 by_cases c2 : a0_1 = true
 ·subst c2
  have H1 : ((pack_bad.f).bind fun bt152 => (some (0, bt152.1, bt152.2))) = some (r1, r2, r3) := by rw [if_pos rfl] at H; exact H
  clear H
  have H := H1
  clear H1
  replace H := Option.bind_eq_some_iff.mp H
  obtain ⟨⟨t152, t153⟩, A30, H⟩ := H
  replace H : (some (0, t152, t153)) = some (r1, r2, r3) := H
  have A3 := Aside0.mk A30
  clear A30
  simp only [Option.some.injEq, Prod.mk.injEq] at H
  obtain ⟨rfl, rfl, rfl⟩ := H
  go_enter Try.func72, Try.ntmps72
  go_wp2_with (first | ((with_reducible refine gate_dst (N := 1) rfl ?_); refine Ka_ 1 #[.string a0_0, .bool true] 97 ?_; intro gb150 hg w4 hbox hb; have BK150 := Aside0.mk (hbox); have GW150 := Kw_ HB hg; have GE150 := GW150; replace HB := Ks_ HB hb; clear hb hbox hg) | ((with_reducible refine gate_dst (N := 3) rfl ?_); refine Ka_ 3 #[.string (⟨#[]⟩ : ByteArray), .bool false] 97 ?_; intro gb151 hg w5 hbox hb; have BK151 := Aside0.mk (hbox); have GW151 := Kw_ HB hg; have GE151 := GW151; have NB150_151 := Kl_ BK150 hg; have NB151_150 := Kr_ BK150 hg; replace BK150 := Kb_ BK150 hb; replace HB := Ks_ HB hb; clear hb hbox hg; have hnb6 := NB150_151.out; have hnc6 := NB151_150.out; obtain ⟨hcz7_0, hcz7_1, hfz7_0, hfz7_1⟩ := Ke2_ BK150.out) | ((with_reducible refine gate_callee (f := 71) rfl ?_); refine Kg_ (some 9) rfl rfl Try.func71 (by kernel_rfl) rfl #[] rfl ?_; (with_reducible refine (pack_bad.calls  t152 t153 _ A3.out).mono ?_); rintro e w8 ⟨rfl, hb⟩; refine ⟨_, rfl, ?_⟩; replace BK150 := Kb_ BK150 hb; replace BK151 := Kb_ BK151 hb; replace HB := Ks_ HB hb; (try clear hb); (try clear hb2); (try clear hk); (try clear hi); obtain ⟨hcz9_0, hcz9_1, hfz9_0, hfz9_1⟩ := Ke2_ BK151.out))
  refine bodyPost_ret (results_tc rfl _ _ gb151 97 #[.string t152, .bool t153] (0, 0) _ rfl (by refine Kv_ ?_; refine blk_put (cs := #[.string t152, .bool false]) ?_ 1 _ rfl; refine Kv_ ?_; refine blk_put (cs := #[.string (⟨#[]⟩ : ByteArray), .bool false]) ?_ 0 _ rfl; exact Kq_ BK151) Try.underlying97 rfl (by kernel_rfl)) rfl ?_
  exact ⟨Kh_, K2a_ HB GE150 GE151⟩
 replace c2 := Bool.eq_false_iff.mpr c2
 subst c2
 have H1 : (pack_Reader_Vary.l0 k 0 (mn (a0_0.size : Int) 10) 0 a0_0 false) = some (r1, r2, r3) := by rw [if_neg (show ¬ (false = true) by decide)] at H; exact H
 clear H
 have H := H1
 clear H1
 obtain ⟨ji10, hji10⟩ : ∃ j_ : Int, (mn (a0_0.size : Int) 10) = j_ := ⟨_, rfl⟩
 replace H : (pack_Reader_Vary.l0 k 0 ji10 0 a0_0 false) = some (r1, r2, r3) := by first | (rw [hji10] at H; exact H) | (simp only [hji10] at H ⊢; exact H)
 (try (have hji10h : ji10 ≤ 10 := by (rw [← hji10]; unfold mn; (repeat' split) <;> omega)))
 (try (have hji10g : ji10 ≤ 64 := by omega))
 (try (have hji10l : 0 ≤ ji10 := by (rw [← hji10]; unfold mn; (repeat' split) <;> omega)))
 (try (have hji10m : 0 ≤ ji10 := by omega))
 have hji10_ : (if 10 < (a0_0.size : Int) then 10 else (a0_0.size : Int)) = ji10 := hji10
 have H' := Aside0.mk H
 clear H
 go_enter Try.func72, Try.ntmps72
 go_wp2_with (first | ((with_reducible refine gate_dst (N := 1) rfl ?_); refine Ka_ 1 #[.string a0_0, .bool false] 97 ?_; intro gb150 hg w11 hbox hb; have BK150 := Aside0.mk (hbox); have GW150 := Kw_ HB hg; have GE150 := GW150; replace HB := Ks_ HB hb; clear hb hbox hg) | ((with_reducible refine gate_dst (N := 3) rfl ?_); refine Ka_ 3 #[.string (⟨#[]⟩ : ByteArray), .bool false] 97 ?_; intro gb151 hg w12 hbox hb; have BK151 := Aside0.mk (hbox); have GW151 := Kw_ HB hg; have GE151 := GW151; have NB150_151 := Kl_ BK150 hg; have NB151_150 := Kr_ BK150 hg; replace BK150 := Kb_ BK150 hb; replace HB := Ks_ HB hb; clear hb hbox hg; have hnb13 := NB150_151.out; have hnc13 := NB151_150.out; obtain ⟨hcz14_0, hcz14_1, hfz14_0, hfz14_1⟩ := Ke2_ BK150.out))
 go_loopg [4, 14] k (fun kq v4 v14 w' => ∃ (x4_1 : Int) (x14_1 : Int) (x102_1 : ByteArray) (x101_1 : Bool), v4 = .int .u64 x4_1 ∧ v14 = .int .i64 x14_1 ∧ Aside0 (pack_Reader_Vary.l0 kq x4_1 ji10 x14_1 a0_0 false = some (r1, r2, r3)) ∧ Aside0 (kq ≤ k) ∧ Aside0 (w'.heap[gb150]? = some (.cells #[.string a0_0, .bool false] 97 (0, 0))) ∧ Aside0 (w'.heap[gb151]? = some (.cells #[.string x102_1, .bool x101_1] 97 (0, 0))) ∧ Aside0 (Below w.heap.size w w'))
 case atStart => exact ⟨(0), (0), ((⟨#[]⟩ : ByteArray)), (false), (by first | rfl | (simp; done) | (simp [*]; done)), (by first | rfl | (simp; done) | (simp [*]; done)), H', ⟨Nat.le_refl _⟩, ⟨by exact Kq_ BK150⟩, ⟨by exact Kq_ BK151⟩, ⟨K2a_ HB GE150 GE151⟩⟩
 case round =>
  clear H'
  try clear c1
  try clear c2
  try clear p2
  try clear c6
  try clear c7
  try clear c13
  try clear hcz14_0
  try clear hcz14_1
  try clear hcz7_0
  try clear hcz7_1
  try clear hcz9_0
  try clear hcz9_1
  try clear hfz14_0
  try clear hfz14_1
  try clear hfz7_0
  try clear hfz7_1
  try clear hfz9_0
  try clear hfz9_1
  obtain ⟨x4_1, x14_1, x102_1, x101_1, rfl, rfl, HA, HK1, BK150, BK151, HB⟩ := hrel
  cases gk with
  | zero => exact absurd HA.out (by simp [pack_Reader_Vary.l0])
  | succ k1 =>
   have H := HA.out
   clear HA
   simp only [pack_Reader_Vary.l0] at H
   by_cases c15 : x14_1 < ji10
   rotate_left
   ·rw [if_neg c15] at H
    have c15b0 : decide (x14_1 < ji10) = false := decide_eq_false c15
    clear c15
    replace H := Option.bind_eq_some_iff.mp H
    obtain ⟨⟨t154, t155⟩, A460, H⟩ := H
    replace H : (some (0, t154, t155)) = some (r1, r2, r3) := H
    have A46 := Aside0.mk A460
    clear A460
    simp only [Option.some.injEq, Prod.mk.injEq] at H
    obtain ⟨rfl, rfl, rfl⟩ := H
    go_wp2_with (first | ((with_reducible refine gate_callee (f := 71) rfl ?_); refine Kg_ (some 47) rfl rfl Try.func71 (by kernel_rfl) rfl #[] rfl ?_; (with_reducible refine (pack_bad.calls  t154 t155 _ A46.out).mono ?_); rintro e w47 ⟨rfl, hb⟩; refine ⟨_, rfl, ?_⟩; replace BK150 := Kb_ BK150 hb; replace BK151 := Kb_ BK151 hb; replace HB := Ks_ HB hb; (try clear hb); (try clear hb2); (try clear hk); (try clear hi); have hnb48 := NB151_150.out; have hnc48 := NB150_151.out; obtain ⟨hcz49_0, hcz49_1, hfz49_0, hfz49_1⟩ := Ke2_ BK151.out))
    refine bodyPost_ret (results_tc rfl _ _ gb151 97 #[.string t154, .bool t155] (0, 0) _ rfl (by refine Kv_ ?_; refine blk_put (cs := #[.string t154, .bool x101_1]) ?_ 1 _ rfl; refine Kv_ ?_; refine blk_put (cs := #[.string x102_1, .bool x101_1]) ?_ 0 _ rfl; exact Kq_ BK151) Try.underlying97 rfl (by kernel_rfl)) rfl ?_
    exact ⟨by first | rfl | (simp [errW_none, errW_some] <;> rfl) | (simp only [← hji10]; first | rfl | (simp [errW_none, errW_some] <;> rfl)) | (simp [*, errW_none, errW_some] <;> rfl), K2a_ HB GE150 GE151⟩
   rw [if_pos c15] at H
   have c15b0 : decide (x14_1 < ji10) = true := decide_eq_true c15
   clear c15
   by_cases c16 : 0 ≤ x14_1
   rotate_left
   ·rw [if_neg c16] at H
    exact absurd H (by simp)
   rw [if_pos c16] at H
   have c16b0 : decide (0 ≤ x14_1) = true := decide_eq_true c16
   clear c16
   by_cases c17 : x14_1 < (a0_0.size : Int)
   rotate_left
   ·rw [if_neg c17] at H
    exact absurd H (by simp)
   rw [if_pos c17] at H
   have c17b0 : decide (x14_1 < (a0_0.size : Int)) = true := decide_eq_true c17
   clear c17
   obtain ⟨ji19, hji19⟩ : ∃ j_ : Int, (wrap64 (7 * x14_1)) = j_ := ⟨_, rfl⟩
   replace H : (if 0 ≤ (ji19) then (if (bt a0_0 x14_1) ≥ 128 then (pack_Reader_Vary.l0 k1 (Go.bits .or .u64 x4_1 (shl .u64 (IntKind.u64.wrap (Go.bits .and .u8 (bt a0_0 x14_1) 127)) (ji19))) ji10 (wrap64 (x14_1 + 1)) a0_0 false) else (if 0 ≤ (wrap64 (x14_1 + 1)) then (if (wrap64 (x14_1 + 1)) ≤ (a0_0.size : Int) then ((pack_Vary.f k1 (Go.bits .or .u64 x4_1 (shl .u64 (IntKind.u64.wrap (Go.bits .and .u8 (bt a0_0 x14_1) 127)) (ji19)))).bind fun t156 => (if (a0_0.extract 0 ((wrap64 (x14_1 + 1)) : Int).toNat).toList = t156.toList then (some (Go.bits .or .u64 x4_1 (shl .u64 (IntKind.u64.wrap (Go.bits .and .u8 (bt a0_0 x14_1) 127)) (ji19)), a0_0.extract ((wrap64 (x14_1 + 1)) : Int).toNat a0_0.size, false)) else ((pack_bad.f).bind fun bt157 => (some (0, bt157.1, bt157.2))))) else (none)) else (none))) else (none)) = some (r1, r2, r3) := by first | (rw [hji19] at H; exact H) | (simp only [hji19] at H ⊢; exact H)
   have hji19w : (IntKind.i64.wrap (7 * x14_1)) = ji19 := (i64_w _).trans hji19
   by_cases c20 : 0 ≤ (ji19)
   rotate_left
   ·rw [if_neg c20] at H
    exact absurd H (by simp)
   rw [if_pos c20] at H
   have c20b0 := eq_true c20
   have c20b1 : decide (0 ≤ (ji19)) = true := decide_eq_true c20
   clear c20
   obtain ⟨ji21, hji21⟩ : ∃ j_ : Int, (shl .u64 (IntKind.u64.wrap (Go.bits .and .u8 (bt a0_0 x14_1) 127)) (ji19)) = j_ := ⟨_, rfl⟩
   replace H : (if (bt a0_0 x14_1) ≥ 128 then (pack_Reader_Vary.l0 k1 (Go.bits .or .u64 x4_1 (ji21)) ji10 (wrap64 (x14_1 + 1)) a0_0 false) else (if 0 ≤ (wrap64 (x14_1 + 1)) then (if (wrap64 (x14_1 + 1)) ≤ (a0_0.size : Int) then ((pack_Vary.f k1 (Go.bits .or .u64 x4_1 (ji21))).bind fun t156 => (if (a0_0.extract 0 ((wrap64 (x14_1 + 1)) : Int).toNat).toList = t156.toList then (some (Go.bits .or .u64 x4_1 (ji21), a0_0.extract ((wrap64 (x14_1 + 1)) : Int).toNat a0_0.size, false)) else ((pack_bad.f).bind fun bt157 => (some (0, bt157.1, bt157.2))))) else (none)) else (none))) = some (r1, r2, r3) := by first | (rw [hji21] at H; exact H) | (simp only [hji21] at H ⊢; exact H)
   have hji21_ : (IntKind.u64.wrap ((IntKind.u64.wrap (Go.bits .and .u8 (bt a0_0 x14_1) 127)) * 2 ^ min (ji19).toNat 64)) = ji21 := hji21
   have hji21z : (ji19) ≤ 64 → (IntKind.u64.wrap ((IntKind.u64.wrap (Go.bits .and .u8 (bt a0_0 x14_1) 127)) * 2 ^ (ji19).toNat)) = ji21 := shl_small hji21
   by_cases c22 : (bt a0_0 x14_1) ≥ 128
   ·rw [if_pos c22] at H
    have c22b0 : decide (128 ≤ (bt a0_0 x14_1)) = true := decide_eq_true c22
    clear c22
    have H' := Aside0.mk H
    clear H
    have hnb23 := NB150_151.out
    have hnc23 := NB151_150.out
    obtain ⟨hcz24_0, hcz24_1, hfz24_0, hfz24_1⟩ := Ke2_ BK150.out
    have p18 : 0 ≤ (x14_1 : Int) := of_decide_eq_true (by first | (with_reducible assumption) | assumption)
    have q18 : x14_1 < (a0_0.size : Int) := of_decide_eq_true (by first | (with_reducible assumption) | assumption)
    have hx18 := bt_at a0_0 x14_1
    replace p18 := eq_true p18
    replace q18 := eq_true q18
    go_wp2
    go_roundg k1
    case measure => have := HK1.out; omega
    case rel => exact ⟨(Go.bits .or .u64 x4_1 (ji21)), (wrap64 (x14_1 + 1)), (x102_1), (x101_1), (by first | rfl | (simp; done) | (simp only [← hji21] <;> (first | rfl | simp)) | (simp [*]; done)), (by first | rfl | (simp; done) | (simp [*]; done)), H', ⟨by have := HK1.out; omega⟩, ⟨by exact Kq_ BK150⟩, ⟨by exact Kq_ BK151⟩, ⟨K2a_ HB GE150 GE151⟩⟩
   rw [if_neg c22] at H
   have c22b0 : decide (128 ≤ (bt a0_0 x14_1)) = false := decide_eq_false c22
   clear c22
   obtain ⟨ji25, hji25⟩ : ∃ j_ : Int, (wrap64 (x14_1 + 1)) = j_ := ⟨_, rfl⟩
   replace H : (if 0 ≤ (ji25) then (if (ji25) ≤ (a0_0.size : Int) then ((pack_Vary.f k1 (Go.bits .or .u64 x4_1 (ji21))).bind fun t156 => (if (a0_0.extract 0 ((ji25) : Int).toNat).toList = t156.toList then (some (Go.bits .or .u64 x4_1 (ji21), a0_0.extract ((ji25) : Int).toNat a0_0.size, false)) else ((pack_bad.f).bind fun bt157 => (some (0, bt157.1, bt157.2))))) else (none)) else (none)) = some (r1, r2, r3) := by first | (rw [hji25] at H; exact H) | (simp only [hji25] at H ⊢; exact H)
   have hji25w : (IntKind.i64.wrap (x14_1 + 1)) = ji25 := (i64_w _).trans hji25
   by_cases c26 : 0 ≤ (ji25)
   rotate_left
   ·rw [if_neg c26] at H
    exact absurd H (by simp)
   rw [if_pos c26] at H
   have c26b0 := eq_true c26
   have c26b1 : decide (0 ≤ (ji25)) = true := decide_eq_true c26
   clear c26
   by_cases c27 : (ji25) ≤ (a0_0.size : Int)
   rotate_left
   ·rw [if_neg c27] at H
    exact absurd H (by simp)
   rw [if_pos c27] at H
   have c27b0 := eq_true c27
   have c27b1 : decide ((ji25) ≤ (a0_0.size : Int)) = true := decide_eq_true c27
   clear c27
   replace H := Option.bind_eq_some_iff.mp H
   obtain ⟨t156, A280, H⟩ := H
   replace H : (if (a0_0.extract 0 ((ji25) : Int).toNat).toList = t156.toList then (some (Go.bits .or .u64 x4_1 (ji21), a0_0.extract ((ji25) : Int).toNat a0_0.size, false)) else ((pack_bad.f).bind fun bt157 => (some (0, bt157.1, bt157.2)))) = some (r1, r2, r3) := H
   have A28 := Aside0.mk A280
   clear A280
   by_cases c29 : (a0_0.extract 0 ((ji25) : Int).toNat).toList = t156.toList
   rotate_left
   ·rw [if_neg c29] at H
    have c29b0 : ((a0_0.extract 0 ((ji25) : Int).toNat).toList == t156.toList) = false := beq_eq_false_iff_ne.mpr c29
    have c29b1 : ((a0_0.extract 0 ((ji25) : Int).toNat).toList != t156.toList) = true := bne_iff_ne.mpr c29
    replace H := Option.bind_eq_some_iff.mp H
    obtain ⟨⟨t157, t158⟩, A390, H⟩ := H
    replace H : (some (0, t157, t158)) = some (r1, r2, r3) := H
    have A39 := Aside0.mk A390
    clear A390
    simp only [Option.some.injEq, Prod.mk.injEq] at H
    obtain ⟨rfl, rfl, rfl⟩ := H
    have hnb40 := NB150_151.out
    have hnc40 := NB151_150.out
    obtain ⟨hcz41_0, hcz41_1, hfz41_0, hfz41_1⟩ := Ke2_ BK150.out
    have p18 : 0 ≤ (x14_1 : Int) := of_decide_eq_true (by first | (with_reducible assumption) | assumption)
    have q18 : x14_1 < (a0_0.size : Int) := of_decide_eq_true (by first | (with_reducible assumption) | assumption)
    have hx18 := bt_at a0_0 x14_1
    replace p18 := eq_true p18
    replace q18 := eq_true q18
    try go_wp2
    replace BK150 := Kd_ BK150
    replace BK151 := Kd_ BK151
    replace HB := Aside0.mk (below_drew1 HB.out)
    refine start_ (n := 8) (S := fun w' => w'.cell? ⟨gb150, 0, none⟩ = some (.string a0_0) ∧ w'.cell? ⟨gb150, 1, none⟩ = some (.bool false)) (ds := []) (mB_ 8 0) (by kernel_rfl) rfl rfl (Kc2_ BK150.out) (fun hHeld => ?_); refine with_tabW pack_Reader_Vary.tab10 pack_Reader_Vary.bits10 (fun HT_ HW_ => ?_)
    generalize wr.drew = w42 at BK150 BK151 HB hHeld ⊢
    refine Kp_ 0 31 (mB_ 8 1) (any_of HT_.out (by kernel_rfl)) ?_
    refine Kp_ 2 33 (mB_ 8 5) (any_of HT_.out (by kernel_rfl)) ?_
    refine Kp_ 3 34 (mB_ 8 13) (any_of HT_.out (by kernel_rfl)) ?_
    refine Kp_ 5 36 (mB_ 8 45) (any_of HT_.out (by kernel_rfl)) ?_
    refine Ko_ 1 32 (mB_ 8 47) (take_ofW HT_.out HW_.out (by kernel_rfl)) hHeld ?_
    refine Kp_ 4 35 (mB_ 8 63) (any_of HT_.out (by kernel_rfl)) ?_
    refine one_ (i := 6) (N := some 37) (mB_ 8 127) rfl rfl (one_of HT_.out (by kernel_rfl)) (by decide) (fun K hK => ?_)
    refine goes_ Try.func60 (by kernel_rfl) rfl #[.int .u64 (Go.bits .or .u64 x4_1 (ji21))] (by rfl) rfl rfl (by (try simp only [List.map_toArray, List.map_cons, List.map_nil]); first | done | (simp only [hji21]; rfl) | rfl | (simp only [List.length_drop, List.length_take]; rfl)) ?_
    with_reducible refine (pack_Vary.calls k1 (Go.bits .or .u64 x4_1 (ji21)) t156 _ A28.out).mono ?_
    rintro e w43 ⟨rfl, hb⟩
    refine ⟨_, rfl, ?_⟩
    replace BK150 := Kb_ BK150 hb
    replace BK151 := Kb_ BK151 hb
    replace HB := Ks_ HB hb
    (try clear hb)
    (try clear hb2)
    (try clear hk)
    (try clear hi)
    refine hK.out _ _ (Kc2_ BK150.out) (fun hHeld => ?_)
    clear hK K
    refine Kn_ 37 ?_
    refine Kp_ 7 38 (mB_ 8 255) (any_of HT_.out (by kernel_rfl)) ?_
    refine done_ (done_of HT_.out (by kernel_rfl)) ?_
    try go_wp2_with (first | ((with_reducible refine gate_callee (f := 71) rfl ?_); refine Kg_ (some 47) rfl rfl Try.func71 (by kernel_rfl) rfl #[] rfl ?_; (with_reducible refine (pack_bad.calls  t157 t158 _ A39.out).mono ?_); rintro e w44 ⟨rfl, hb⟩; refine ⟨_, rfl, ?_⟩; replace BK150 := Kb_ BK150 hb; replace BK151 := Kb_ BK151 hb; replace HB := Ks_ HB hb; (try clear hb); (try clear hb2); (try clear hk); (try clear hi); obtain ⟨hcz45_0, hcz45_1, hfz45_0, hfz45_1⟩ := Ke2_ BK151.out))
    refine bodyPost_ret (results_tc rfl _ _ gb151 97 #[.string t157, .bool t158] (0, 0) _ rfl (by refine Kv_ ?_; refine blk_put (cs := #[.string t157, .bool x101_1]) ?_ 1 _ rfl; refine Kv_ ?_; refine blk_put (cs := #[.string x102_1, .bool x101_1]) ?_ 0 _ rfl; exact Kq_ BK151) Try.underlying97 rfl (by kernel_rfl)) rfl ?_
    exact ⟨by first | rfl | (simp [errW_none, errW_some] <;> rfl) | (simp only [← hji10, ← hji19, ← hji21, ← hji25]; first | rfl | (simp [errW_none, errW_some] <;> rfl)) | (simp [*, errW_none, errW_some] <;> rfl), K2a_ HB GE150 GE151⟩
   rw [if_pos c29] at H
   have c29b0 : ((a0_0.extract 0 ((ji25) : Int).toNat).toList == t156.toList) = true := beq_iff_eq.mpr c29
   have c29b1 : ((a0_0.extract 0 ((ji25) : Int).toNat).toList != t156.toList) = false := bne_eq_false_iff_eq.mpr c29
   clear c29
   have c30b0 := eq_true (of_decide_eq_true (by first | (with_reducible assumption) | assumption) : 0 ≤ (ji25))
   have c31b0 := eq_true (of_decide_eq_true (by first | (with_reducible assumption) | assumption) : (ji25) ≤ (a0_0.size : Int))
   simp only [Option.some.injEq, Prod.mk.injEq] at H
   obtain ⟨rfl, rfl, rfl⟩ := H
   have hnb32 := NB150_151.out
   have hnc32 := NB151_150.out
   obtain ⟨hcz33_0, hcz33_1, hfz33_0, hfz33_1⟩ := Ke2_ BK150.out
   have p18 : 0 ≤ (x14_1 : Int) := of_decide_eq_true (by first | (with_reducible assumption) | assumption)
   have q18 : x14_1 < (a0_0.size : Int) := of_decide_eq_true (by first | (with_reducible assumption) | assumption)
   have hx18 := bt_at a0_0 x14_1
   replace p18 := eq_true p18
   replace q18 := eq_true q18
   try go_wp2
   replace BK150 := Kd_ BK150
   replace BK151 := Kd_ BK151
   replace HB := Aside0.mk (below_drew1 HB.out)
   refine start_ (n := 8) (S := fun w' => w'.cell? ⟨gb150, 0, none⟩ = some (.string a0_0) ∧ w'.cell? ⟨gb150, 1, none⟩ = some (.bool false)) (ds := []) (mB_ 8 0) (by kernel_rfl) rfl rfl (Kc2_ BK150.out) (fun hHeld => ?_); refine with_tabW pack_Reader_Vary.tab10 pack_Reader_Vary.bits10 (fun HT_ HW_ => ?_)
   generalize wr.drew = w34 at BK150 BK151 HB hHeld ⊢
   refine Kp_ 0 31 (mB_ 8 1) (any_of HT_.out (by kernel_rfl)) ?_
   refine Kp_ 2 33 (mB_ 8 5) (any_of HT_.out (by kernel_rfl)) ?_
   refine Kp_ 3 34 (mB_ 8 13) (any_of HT_.out (by kernel_rfl)) ?_
   refine Kp_ 5 36 (mB_ 8 45) (any_of HT_.out (by kernel_rfl)) ?_
   refine Ko_ 1 32 (mB_ 8 47) (take_ofW HT_.out HW_.out (by kernel_rfl)) hHeld ?_
   refine Kp_ 4 35 (mB_ 8 63) (any_of HT_.out (by kernel_rfl)) ?_
   refine one_ (i := 6) (N := some 37) (mB_ 8 127) rfl rfl (one_of HT_.out (by kernel_rfl)) (by decide) (fun K hK => ?_)
   refine goes_ Try.func60 (by kernel_rfl) rfl #[.int .u64 (Go.bits .or .u64 x4_1 (ji21))] (by rfl) rfl rfl (by (try simp only [List.map_toArray, List.map_cons, List.map_nil]); first | done | (simp only [hji21]; rfl) | rfl | (simp only [List.length_drop, List.length_take]; rfl)) ?_
   with_reducible refine (pack_Vary.calls k1 (Go.bits .or .u64 x4_1 (ji21)) t156 _ A28.out).mono ?_
   rintro e w35 ⟨rfl, hb⟩
   refine ⟨_, rfl, ?_⟩
   replace BK150 := Kb_ BK150 hb
   replace BK151 := Kb_ BK151 hb
   replace HB := Ks_ HB hb
   (try clear hb)
   (try clear hb2)
   (try clear hk)
   (try clear hi)
   refine hK.out _ _ (Kc2_ BK150.out) (fun hHeld => ?_)
   clear hK K
   refine Kn_ 37 ?_
   refine Kp_ 7 38 (mB_ 8 255) (any_of HT_.out (by kernel_rfl)) ?_
   refine done_ (done_of HT_.out (by kernel_rfl)) ?_
   try go_wp2
   replace BK150 := Kd_ BK150
   replace BK151 := Kd_ BK151
   replace HB := Aside0.mk (below_drew1 HB.out)
   refine start_ (n := 9) (S := fun w' => w'.cell? ⟨gb150, 0, none⟩ = some (.string a0_0) ∧ w'.cell? ⟨gb150, 1, none⟩ = some (.bool false)) (ds := []) (mB_ 9 0) (by kernel_rfl) rfl rfl (Kc2_ BK150.out) (fun hHeld => ?_); refine with_tabW pack_Reader_Vary.tab11 pack_Reader_Vary.bits11 (fun HT_ HW_ => ?_)
   generalize w35.drew = w36 at BK150 BK151 HB hHeld ⊢
   refine Kp_ 0 39 (mB_ 9 1) (any_of HT_.out (by kernel_rfl)) ?_
   refine Kp_ 1 40 (mB_ 9 3) (any_of HT_.out (by kernel_rfl)) ?_
   refine Kp_ 3 42 (mB_ 9 11) (any_of HT_.out (by kernel_rfl)) ?_
   refine Kp_ 4 43 (mB_ 9 27) (any_of HT_.out (by kernel_rfl)) ?_
   refine Kp_ 7 2 (mB_ 9 155) (any_of HT_.out (by kernel_rfl)) ?_
   refine Ko_ 2 41 (mB_ 9 159) (take_ofW HT_.out HW_.out (by kernel_rfl)) hHeld ?_
   refine Kp_ 5 44 (mB_ 9 191) (any_of HT_.out (by kernel_rfl)) ?_
   refine Kp_ 6 45 (mB_ 9 255) (any_of HT_.out (by kernel_rfl)) ?_
   refine one_ (i := 8) (N := none) (mB_ 9 511) rfl rfl (one_of HT_.out (by kernel_rfl)) (by decide) (fun K hK => ?_)
   have hs37 : w36.cell? ⟨gb151, 0, none⟩ = some (.string x102_1) := (blk_cell BK151.out 0).trans rfl
   have hfs37 := blk_frozen BK151.out 0
   have hns37_0 := NB150_151.out
   have hms37_0 := NB151_150.out
   have hs38 : w36.cell? ⟨gb151, 1, none⟩ = some (.bool x101_1) := (blk_cell BK151.out 1).trans rfl
   have hfs38 := blk_frozen BK151.out 1
   have hns38_0 := NB150_151.out
   have hms38_0 := NB151_150.out
   refine skip_ (w1 := ?_) (by rfl) rfl ?_ ?_
   rotate_left
   ·go_simp
    rfl
   refine hK.out _ _ ⟨(Kj_ NB150_151 ((Kj_ NB150_151 (hHeld.1)))), (Kj_ NB150_151 ((Kj_ NB150_151 (hHeld.2))))⟩ (fun hHeld => ?_)
   clear hK K
   refine done_ (done_of HT_.out (by kernel_rfl)) ?_
   try go_wp2
   refine bodyPost_ret (results_tc rfl _ _ gb151 97 #[.string (a0_0.extract ((ji25) : Int).toNat a0_0.size), .bool false] (0, 0) _ rfl (by refine Kv_ ?_; refine blk_put (cs := #[.string (a0_0.extract ((ji25) : Int).toNat a0_0.size), .bool x101_1]) ?_ 1 _ rfl; refine Kv_ ?_; refine blk_put (cs := #[.string x102_1, .bool x101_1]) ?_ 0 _ rfl; exact Kq_ BK151) Try.underlying97 rfl (by kernel_rfl)) rfl ?_
   exact ⟨by first | rfl | (simp [errW_none, errW_some] <;> rfl) | (simp only [← hji10, ← hji19, ← hji21, ← hji25]; first | rfl | (simp [errW_none, errW_some] <;> rfl)) | (simp [*, errW_none, errW_some] <;> rfl), K2a_ HB GE150 GE151⟩
def vec_Get.f (k : Nat) (a0_0 : ByteArray) (a0_1 : Bool) : Option (Int × Int × Int × Int × ByteArray × Bool) :=
 (pack_Reader_Vary.f k a0_0 a0_1).bind fun r0 => (pack_Reader_Vary.f k r0.2.1 r0.2.2).bind fun r1 => (pack_Reader_Vary.f k r1.2.1 r1.2.2).bind fun r2 => (pack_Reader_Vary.f k r2.2.1 r2.2.2).bind fun r3 =>
  if r3.2.2 = true then some (0, 0, 0, 0, (⟨#[]⟩ : ByteArray), true) else (vec_Right.f r0.1 r1.1 r2.1 r3.1).bind fun t => if t = true then some (r0.1, r1.1, r2.1, r3.1, r3.2.1, false) else some (0, 0, 0, 0, (⟨#[]⟩ : ByteArray), true)
theorem vec_Get.mono : ∀ a0 a1 k, LeO (vec_Get.f k a0 a1) (vec_Get.f (k + 1) a0 a1) := by
 intro a0 a1 k
 unfold vec_Get.f
 repeat' first
   | exact pack_Reader_Vary.mono _ _ _
   | exact LeO.refl _
   | exact LeO.none _
   | refine LeO.ite ?_ ?_
   | refine LeO.bind ?_ (fun _ => ?_)
theorem vec_Get.boxes3 (w : World) (xs ys zs : Array Value) (t1 t2 t3 : TypeId) (W : World) (h : ((w.alloc (.cells xs t1)).alloc (.cells ys t2)).alloc (.cells zs t3) = W) :
  W.heap[w.heap.size]? = some (.cells xs t1 (0,0)) ∧ W.heap[w.heap.size+1]? = some (.cells ys t2 (0,0)) ∧ W.heap[w.heap.size+1+1]? = some (.cells zs t3 (0,0)) ∧ Below w.heap.size w W := by
 subst h
 have s1 : (w.alloc (.cells xs t1)).heap.size = w.heap.size + 1 := by simp [World.alloc, -World.alloc_eq]
 have s2 : ((w.alloc (.cells xs t1)).alloc (.cells ys t2)).heap.size = w.heap.size + 1 + 1 := by simp [World.alloc, -World.alloc_eq]
 refine ⟨blk_alloc (blk_alloc (blk_new _ _) _) _, ?_, ?_, below_alloc (below_alloc (below_alloc (Below.refl _ _) _) _) _⟩
 ·rw [← s1]; exact blk_alloc (blk_new _ _) _
 ·rw [← s2]; exact blk_new _ _
set_option maxHeartbeats 8000000 in
set_option maxRecDepth 100000 in
theorem vec_Get.calls (k : Nat) (a0_0 : ByteArray) (a0_1 : Bool) (r1 r2 r3 r4 : Int) (r5 : ByteArray) (r6 : Bool) (w : World) (h : vec_Get.f k a0_0 a0_1 = some (r1, r2, r3, r4, r5, r6)) :
  Calls Try.prog 70 #[.agg #[.string a0_0, .bool a0_1]] w fun e w' => e = .returned (.tuple #[.agg #[.int .u64 r1, .int .u64 r2, .int .u64 r3, .int .u64 r4], .agg #[.string r5, .bool r6]]) ∧ Below w.heap.size w w' := by
 unfold vec_Get.f at h
 obtain ⟨⟨n0, s1, b1⟩, A0, h⟩ := Option.bind_eq_some_iff.1 h
 obtain ⟨⟨n1, s2, b2⟩, A1, h⟩ := Option.bind_eq_some_iff.1 h
 obtain ⟨⟨n2, s3, b3⟩, A2, h⟩ := Option.bind_eq_some_iff.1 h
 obtain ⟨⟨n3, s4, b4⟩, A3, h⟩ := Option.bind_eq_some_iff.1 h
 replace A0 := Aside0.mk A0
 replace A1 := Aside0.mk A1
 replace A2 := Aside0.mk A2
 replace A3 := Aside0.mk A3
 simp only at h
 have HH := Aside0.mk h
 clear h
 have hu := Try.underlying28
 have hu2 := Try.underlying26
 have hu3 := Try.underlying97
 go_enter Try.func70, Try.ntmps70
 go_wp2
 generalize hW : (((w.alloc (Obj.cells #[.string a0_0, .bool a0_1] 97)).alloc (Obj.cells _ 28)).alloc (Obj.cells _ 97)) = W0
 obtain ⟨hA, hB, hC, HB⟩ := vec_Get.boxes3 _ _ _ _ _ _ _ _ hW
 replace HB := Aside0.mk HB
 clear hW
 obtain ⟨B0, hB0⟩ : ∃ B0, B0 = w.heap.size := ⟨_, rfl⟩
 obtain ⟨B1, hB1⟩ : ∃ B1, B1 = w.heap.size + 1 := ⟨_, rfl⟩
 obtain ⟨B2, hB2⟩ : ∃ B2, B2 = w.heap.size + 1 + 1 := ⟨_, rfl⟩
 rw [← hB2, ← hB1, ← hB0]
 rw [← hB0] at hA
 rw [← hB1] at hB
 rw [← hB2] at hC
 have g01 : B0 ≠ B1 := by omega
 have g02 : B0 ≠ B2 := by omega
 have g12 : B1 ≠ B2 := by omega
 have GA := Aside0.mk (show w.heap.size ≤ B0 by omega)
 have GB := Aside0.mk (show w.heap.size ≤ B1 by omega)
 have GC := Aside0.mk (show w.heap.size ≤ B2 by omega)
 clear hB0 hB1 hB2
 replace hA := Aside0.mk hA
 replace hB := Aside0.mk hB
 replace hC := Aside0.mk hC
 refine wp_loop_rounds 5 ?_
 rw [rounds_succ]
 have ca0 := (blk_cell hA.out 0).trans rfl
 have ca1 := (blk_cell hA.out 1).trans rfl
 go_wp2_with (go_at_call 72; refine (pack_Reader_Vary.calls k a0_0 a0_1 n0 s1 b1 _ A0.out).mono ?_; rintro e w1 ⟨rfl, hb⟩; clear ca0 ca1; have hA1 := Aside0.mk (blk_below hA.out hb); have hB1 := Aside0.mk (blk_below hB.out hb); have hC1 := Aside0.mk (blk_below hC.out hb); have HB1 := Aside0.mk (below_step HB.out hb); clear hA hB hC HB; clear hb; have fa0 := blk_frozen hA1.out 0; have fa1 := blk_frozen hA1.out 1; have ca0 := (blk_cell hA1.out 0).trans rfl; have ca1 := (blk_cell hA1.out 1).trans rfl; have fb := blk_frozen hB1.out 0; have cb := (blk_cell hB1.out 0).trans rfl)
 clear ca0 ca1 cb fa0 fa1 fb
 have hA := Aside0.mk (blk_put (blk_put (blk_far hA1.out (p := ⟨B1, 0, none⟩) g01 (.int .u64 n0)) 0 (.string s1) rfl) 1 (.bool b1) (cs' := #[.string s1, .bool b1]) rfl)
 have hB := Aside0.mk (blk_far (blk_far (blk_put hB1.out 0 (.int .u64 n0) (cs' := #[.int .u64 n0, .int .u64 0, .int .u64 0, .int .u64 0]) rfl) (p := ⟨B0, 0, none⟩) (Ne.symm g01) (.string s1)) (p := ⟨B0, 1, none⟩) (Ne.symm g01) (.bool b1))
 have hC := Aside0.mk (blk_far (blk_far (blk_far hC1.out (p := ⟨B1, 0, none⟩) (Ne.symm g12) (.int .u64 n0)) (p := ⟨B0, 0, none⟩) (Ne.symm g02) (.string s1)) (p := ⟨B0, 1, none⟩) (Ne.symm g02) (.bool b1))
 have HB := Aside0.mk (below_set (j := 1) (v := .bool b1) (below_set (j := 0) (v := .string s1) (below_set (j := 0) (v := .int .u64 n0) HB1.out GB.out) GA.out) GA.out)
 clear hA1 hB1 hC1 HB1
 generalize ((w1.setCell ⟨B1, 0, none⟩ (.int .u64 n0)).setCell ⟨B0, 0, none⟩ (.string s1)).setCell ⟨B0, 1, none⟩ (.bool b1) = W1 at *
 clear w1 W0
 rw [rounds_succ]
 have ca0 := (blk_cell hA.out 0).trans rfl
 have ca1 := (blk_cell hA.out 1).trans rfl
 go_wp2_with (go_at_call 72; refine (pack_Reader_Vary.calls k s1 b1 n1 s2 b2 _ A1.out).mono ?_; rintro e w1 ⟨rfl, hb⟩; clear ca0 ca1; have hA1 := Aside0.mk (blk_below hA.out hb); have hB1 := Aside0.mk (blk_below hB.out hb); have hC1 := Aside0.mk (blk_below hC.out hb); have HB1 := Aside0.mk (below_step HB.out hb); clear hA hB hC HB; clear hb; have fa0 := blk_frozen hA1.out 0; have fa1 := blk_frozen hA1.out 1; have ca0 := (blk_cell hA1.out 0).trans rfl; have ca1 := (blk_cell hA1.out 1).trans rfl; have fb := blk_frozen hB1.out 1; have cb := (blk_cell hB1.out 1).trans rfl)
 clear ca0 ca1 cb fa0 fa1 fb
 have hA := Aside0.mk (blk_put (blk_put (blk_far hA1.out (p := ⟨B1, 1, none⟩) g01 (.int .u64 n1)) 0 (.string s2) rfl) 1 (.bool b2) (cs' := #[.string s2, .bool b2]) rfl)
 have hB := Aside0.mk (blk_far (blk_far (blk_put hB1.out 1 (.int .u64 n1) (cs' := #[.int .u64 n0, .int .u64 n1, .int .u64 0, .int .u64 0]) rfl) (p := ⟨B0, 0, none⟩) (Ne.symm g01) (.string s2)) (p := ⟨B0, 1, none⟩) (Ne.symm g01) (.bool b2))
 have hC := Aside0.mk (blk_far (blk_far (blk_far hC1.out (p := ⟨B1, 1, none⟩) (Ne.symm g12) (.int .u64 n1)) (p := ⟨B0, 0, none⟩) (Ne.symm g02) (.string s2)) (p := ⟨B0, 1, none⟩) (Ne.symm g02) (.bool b2))
 have HB := Aside0.mk (below_set (j := 1) (v := .bool b2) (below_set (j := 0) (v := .string s2) (below_set (j := 1) (v := .int .u64 n1) HB1.out GB.out) GA.out) GA.out)
 clear hA1 hB1 hC1 HB1
 generalize ((w1.setCell ⟨B1, 1, none⟩ (.int .u64 n1)).setCell ⟨B0, 0, none⟩ (.string s2)).setCell ⟨B0, 1, none⟩ (.bool b2) = W2 at *
 clear w1 W1
 rw [rounds_succ]
 have ca0 := (blk_cell hA.out 0).trans rfl
 have ca1 := (blk_cell hA.out 1).trans rfl
 go_wp2_with (go_at_call 72; refine (pack_Reader_Vary.calls k s2 b2 n2 s3 b3 _ A2.out).mono ?_; rintro e w1 ⟨rfl, hb⟩; clear ca0 ca1; have hA1 := Aside0.mk (blk_below hA.out hb); have hB1 := Aside0.mk (blk_below hB.out hb); have hC1 := Aside0.mk (blk_below hC.out hb); have HB1 := Aside0.mk (below_step HB.out hb); clear hA hB hC HB; clear hb; have fa0 := blk_frozen hA1.out 0; have fa1 := blk_frozen hA1.out 1; have ca0 := (blk_cell hA1.out 0).trans rfl; have ca1 := (blk_cell hA1.out 1).trans rfl; have fb := blk_frozen hB1.out 2; have cb := (blk_cell hB1.out 2).trans rfl)
 clear ca0 ca1 cb fa0 fa1 fb
 have hA := Aside0.mk (blk_put (blk_put (blk_far hA1.out (p := ⟨B1, 2, none⟩) g01 (.int .u64 n2)) 0 (.string s3) rfl) 1 (.bool b3) (cs' := #[.string s3, .bool b3]) rfl)
 have hB := Aside0.mk (blk_far (blk_far (blk_put hB1.out 2 (.int .u64 n2) (cs' := #[.int .u64 n0, .int .u64 n1, .int .u64 n2, .int .u64 0]) rfl) (p := ⟨B0, 0, none⟩) (Ne.symm g01) (.string s3)) (p := ⟨B0, 1, none⟩) (Ne.symm g01) (.bool b3))
 have hC := Aside0.mk (blk_far (blk_far (blk_far hC1.out (p := ⟨B1, 2, none⟩) (Ne.symm g12) (.int .u64 n2)) (p := ⟨B0, 0, none⟩) (Ne.symm g02) (.string s3)) (p := ⟨B0, 1, none⟩) (Ne.symm g02) (.bool b3))
 have HB := Aside0.mk (below_set (j := 1) (v := .bool b3) (below_set (j := 0) (v := .string s3) (below_set (j := 2) (v := .int .u64 n2) HB1.out GB.out) GA.out) GA.out)
 clear hA1 hB1 hC1 HB1
 generalize ((w1.setCell ⟨B1, 2, none⟩ (.int .u64 n2)).setCell ⟨B0, 0, none⟩ (.string s3)).setCell ⟨B0, 1, none⟩ (.bool b3) = W3 at *
 clear w1 W2
 rw [rounds_succ]
 have ca0 := (blk_cell hA.out 0).trans rfl
 have ca1 := (blk_cell hA.out 1).trans rfl
 go_wp2_with (go_at_call 72; refine (pack_Reader_Vary.calls k s3 b3 n3 s4 b4 _ A3.out).mono ?_; rintro e w1 ⟨rfl, hb⟩; clear ca0 ca1; have hA1 := Aside0.mk (blk_below hA.out hb); have hB1 := Aside0.mk (blk_below hB.out hb); have hC1 := Aside0.mk (blk_below hC.out hb); have HB1 := Aside0.mk (below_step HB.out hb); clear hA hB hC HB; clear hb; have fa0 := blk_frozen hA1.out 0; have fa1 := blk_frozen hA1.out 1; have ca0 := (blk_cell hA1.out 0).trans rfl; have ca1 := (blk_cell hA1.out 1).trans rfl; have fb := blk_frozen hB1.out 3; have cb := (blk_cell hB1.out 3).trans rfl)
 clear ca0 ca1 cb fa0 fa1 fb
 have hA := Aside0.mk (blk_put (blk_put (blk_far hA1.out (p := ⟨B1, 3, none⟩) g01 (.int .u64 n3)) 0 (.string s4) rfl) 1 (.bool b4) (cs' := #[.string s4, .bool b4]) rfl)
 have hB := Aside0.mk (blk_far (blk_far (blk_put hB1.out 3 (.int .u64 n3) (cs' := #[.int .u64 n0, .int .u64 n1, .int .u64 n2, .int .u64 n3]) rfl) (p := ⟨B0, 0, none⟩) (Ne.symm g01) (.string s4)) (p := ⟨B0, 1, none⟩) (Ne.symm g01) (.bool b4))
 have hC := Aside0.mk (blk_far (blk_far (blk_far hC1.out (p := ⟨B1, 3, none⟩) (Ne.symm g12) (.int .u64 n3)) (p := ⟨B0, 0, none⟩) (Ne.symm g02) (.string s4)) (p := ⟨B0, 1, none⟩) (Ne.symm g02) (.bool b4))
 have HB := Aside0.mk (below_set (j := 1) (v := .bool b4) (below_set (j := 0) (v := .string s4) (below_set (j := 3) (v := .int .u64 n3) HB1.out GB.out) GA.out) GA.out)
 clear hA1 hB1 hC1 HB1
 generalize ((w1.setCell ⟨B1, 3, none⟩ (.int .u64 n3)).setCell ⟨B0, 0, none⟩ (.string s4)).setCell ⟨B0, 1, none⟩ (.bool b4) = W4 at *
 clear w1 W3
 rw [rounds_succ]
 have fb0 := blk_frozen hB.out 0
 have fb1 := blk_frozen hB.out 1
 have fb2 := blk_frozen hB.out 2
 have fb3 := blk_frozen hB.out 3
 have cb0 := (blk_cell hB.out 0).trans rfl
 have cb1 := (blk_cell hB.out 1).trans rfl
 have cb2 := (blk_cell hB.out 2).trans rfl
 have cb3 := (blk_cell hB.out 3).trans rfl
 have fc0 := blk_frozen hC.out 0
 have fc1 := blk_frozen hC.out 1
 have cc0 := (blk_cell hC.out 0).trans rfl
 have cc1 := (blk_cell hC.out 1).trans rfl
 have ca0 := (blk_cell hA.out 0).trans rfl
 have ca1 := (blk_cell hA.out 1).trans rfl
 cases b4 with
 | true =>
  have h := HH.out
  rw [if_pos rfl] at h
  simp only [Option.some.injEq, Prod.mk.injEq] at h
  obtain ⟨rfl, rfl, rfl, rfl, rfl, rfl⟩ := h
  clear HH
  go_wp2
  clear fb0 fb1 fb2 fb3 cb0 cb1 cb2 cb3 fc0 fc1 cc0 cc1 ca0 ca1
  have hB1 := Aside0.mk (blk_far (blk_far (blk_put (blk_put (blk_put (blk_put hB.out 0 (.int .u64 0) rfl) 1 (.int .u64 0) rfl) 2 (.int .u64 0) rfl) 3 (.int .u64 0) (cs' := #[.int .u64 0, .int .u64 0, .int .u64 0, .int .u64 0]) rfl) (p := ⟨B2, 0, none⟩) g12 (.string (⟨#[]⟩ : ByteArray))) (p := ⟨B2, 1, none⟩) g12 (.bool true))
  have hC1 := Aside0.mk (blk_put (blk_put (blk_far (blk_far (blk_far (blk_far hC.out (p := ⟨B1, 0, none⟩) (Ne.symm g12) (.int .u64 0)) (p := ⟨B1, 1, none⟩) (Ne.symm g12) (.int .u64 0)) (p := ⟨B1, 2, none⟩) (Ne.symm g12) (.int .u64 0)) (p := ⟨B1, 3, none⟩) (Ne.symm g12) (.int .u64 0)) 0 (.string (⟨#[]⟩ : ByteArray)) rfl) 1 (.bool true) (cs' := #[.string (⟨#[]⟩ : ByteArray), .bool true]) rfl)
  have HB1 := Aside0.mk (below_set (j := 1) (v := .bool true) (below_set (j := 0) (v := .string (⟨#[]⟩ : ByteArray)) (below_set (j := 3) (v := .int .u64 0) (below_set (j := 2) (v := .int .u64 0) (below_set (j := 1) (v := .int .u64 0) (below_set (j := 0) (v := .int .u64 0) HB.out GB.out) GB.out) GB.out) GB.out) GC.out) GC.out)
  clear hA hB hC HB
  generalize ((((((W4.setCell ⟨B1, 0, none⟩ (.int .u64 0)).setCell ⟨B1, 1, none⟩ (.int .u64 0)).setCell ⟨B1, 2, none⟩ (.int .u64 0)).setCell ⟨B1, 3, none⟩ (.int .u64 0)).setCell ⟨B2, 0, none⟩ (.string (⟨#[]⟩ : ByteArray))).setCell ⟨B2, 1, none⟩ (.bool true)) = W9 at *
  have d0 := (blk_cell hB1.out 0).trans rfl
  have d1 := (blk_cell hB1.out 1).trans rfl
  have d2 := (blk_cell hB1.out 2).trans rfl
  have d3 := (blk_cell hB1.out 3).trans rfl
  have d4 := (blk_cell hC1.out 0).trans rfl
  have d5 := (blk_cell hC1.out 1).trans rfl
  refine bodyPost_ret (v := .tuple #[.agg #[.int .u64 0, .int .u64 0, .int .u64 0, .int .u64 0], .agg #[.string (⟨#[]⟩ : ByteArray), .bool true]]) (by simp [results, Try.results70, go_sem, hu, hu2, hu3, d0, d1, d2, d3, d4, d5]) rfl ⟨rfl, HB1.out⟩
 | false =>
  have h := HH.out
  rw [if_neg (by simp)] at h
  obtain ⟨t, A4, h⟩ := Option.bind_eq_some_iff.1 h
  replace A4 := Aside0.mk A4
  clear HH
  cases t with
  | false =>
   rw [if_neg (by simp)] at h
   simp only [Option.some.injEq, Prod.mk.injEq] at h
   obtain ⟨rfl, rfl, rfl, rfl, rfl, rfl⟩ := h
   go_wp2_with (go_at_call 63; refine (vec_Right.calls n0 n1 n2 n3 false _ A4.out).mono ?_; rintro e w1 ⟨rfl, hb⟩; clear fb0 fb1 fb2 fb3 cb0 cb1 cb2 cb3 fc0 fc1 cc0 cc1 ca0 ca1; have hA1 := Aside0.mk (blk_below hA.out hb); have hB1 := Aside0.mk (blk_below hB.out hb); have hC1 := Aside0.mk (blk_below hC.out hb); have HB1 := Aside0.mk (below_step HB.out hb); clear hA hB hC HB; clear hb; have hA := hA1; have hB := hB1; have hC := hC1; have HB := HB1; clear hA1 hB1 hC1 HB1; have fb0 := blk_frozen hB.out 0; have fb1 := blk_frozen hB.out 1; have fb2 := blk_frozen hB.out 2; have fb3 := blk_frozen hB.out 3; have cb0 := (blk_cell hB.out 0).trans rfl; have cb1 := (blk_cell hB.out 1).trans rfl; have cb2 := (blk_cell hB.out 2).trans rfl; have cb3 := (blk_cell hB.out 3).trans rfl; have fc0 := blk_frozen hC.out 0; have fc1 := blk_frozen hC.out 1; have cc0 := (blk_cell hC.out 0).trans rfl; have cc1 := (blk_cell hC.out 1).trans rfl; have ca0 := (blk_cell hA.out 0).trans rfl; have ca1 := (blk_cell hA.out 1).trans rfl)
   clear fb0 fb1 fb2 fb3 cb0 cb1 cb2 cb3 fc0 fc1 cc0 cc1 ca0 ca1
   have hB1 := Aside0.mk (blk_far (blk_far (blk_put (blk_put (blk_put (blk_put hB.out 0 (.int .u64 0) rfl) 1 (.int .u64 0) rfl) 2 (.int .u64 0) rfl) 3 (.int .u64 0) (cs' := #[.int .u64 0, .int .u64 0, .int .u64 0, .int .u64 0]) rfl) (p := ⟨B2, 0, none⟩) g12 (.string (⟨#[]⟩ : ByteArray))) (p := ⟨B2, 1, none⟩) g12 (.bool true))
   have hC1 := Aside0.mk (blk_put (blk_put (blk_far (blk_far (blk_far (blk_far hC.out (p := ⟨B1, 0, none⟩) (Ne.symm g12) (.int .u64 0)) (p := ⟨B1, 1, none⟩) (Ne.symm g12) (.int .u64 0)) (p := ⟨B1, 2, none⟩) (Ne.symm g12) (.int .u64 0)) (p := ⟨B1, 3, none⟩) (Ne.symm g12) (.int .u64 0)) 0 (.string (⟨#[]⟩ : ByteArray)) rfl) 1 (.bool true) (cs' := #[.string (⟨#[]⟩ : ByteArray), .bool true]) rfl)
   have HB1 := Aside0.mk (below_set (j := 1) (v := .bool true) (below_set (j := 0) (v := .string (⟨#[]⟩ : ByteArray)) (below_set (j := 3) (v := .int .u64 0) (below_set (j := 2) (v := .int .u64 0) (below_set (j := 1) (v := .int .u64 0) (below_set (j := 0) (v := .int .u64 0) HB.out GB.out) GB.out) GB.out) GB.out) GC.out) GC.out)
   clear hA hB hC HB
   generalize ((((((w1.setCell ⟨B1, 0, none⟩ (.int .u64 0)).setCell ⟨B1, 1, none⟩ (.int .u64 0)).setCell ⟨B1, 2, none⟩ (.int .u64 0)).setCell ⟨B1, 3, none⟩ (.int .u64 0)).setCell ⟨B2, 0, none⟩ (.string (⟨#[]⟩ : ByteArray))).setCell ⟨B2, 1, none⟩ (.bool true)) = W9 at *
   have d0 := (blk_cell hB1.out 0).trans rfl
   have d1 := (blk_cell hB1.out 1).trans rfl
   have d2 := (blk_cell hB1.out 2).trans rfl
   have d3 := (blk_cell hB1.out 3).trans rfl
   have d4 := (blk_cell hC1.out 0).trans rfl
   have d5 := (blk_cell hC1.out 1).trans rfl
   refine bodyPost_ret (v := .tuple #[.agg #[.int .u64 0, .int .u64 0, .int .u64 0, .int .u64 0], .agg #[.string (⟨#[]⟩ : ByteArray), .bool true]]) (by simp [results, Try.results70, go_sem, hu, hu2, hu3, d0, d1, d2, d3, d4, d5]) rfl ⟨rfl, HB1.out⟩
  | true =>
   rw [if_pos rfl] at h
   simp only [Option.some.injEq, Prod.mk.injEq] at h
   obtain ⟨rfl, rfl, rfl, rfl, rfl, rfl⟩ := h
   go_wp2_with (go_at_call 63; refine (vec_Right.calls n0 n1 n2 n3 true _ A4.out).mono ?_; rintro e w1 ⟨rfl, hb⟩; clear fb0 fb1 fb2 fb3 cb0 cb1 cb2 cb3 fc0 fc1 cc0 cc1 ca0 ca1; have hA1 := Aside0.mk (blk_below hA.out hb); have hB1 := Aside0.mk (blk_below hB.out hb); have hC1 := Aside0.mk (blk_below hC.out hb); have HB1 := Aside0.mk (below_step HB.out hb); clear hA hB hC HB; clear hb; have hA := hA1; have hB := hB1; have hC := hC1; have HB := HB1; clear hA1 hB1 hC1 HB1; have fb0 := blk_frozen hB.out 0; have fb1 := blk_frozen hB.out 1; have fb2 := blk_frozen hB.out 2; have fb3 := blk_frozen hB.out 3; have cb0 := (blk_cell hB.out 0).trans rfl; have cb1 := (blk_cell hB.out 1).trans rfl; have cb2 := (blk_cell hB.out 2).trans rfl; have cb3 := (blk_cell hB.out 3).trans rfl; have fc0 := blk_frozen hC.out 0; have fc1 := blk_frozen hC.out 1; have cc0 := (blk_cell hC.out 0).trans rfl; have cc1 := (blk_cell hC.out 1).trans rfl; have ca0 := (blk_cell hA.out 0).trans rfl; have ca1 := (blk_cell hA.out 1).trans rfl)
   go_region
   go_wp2
   clear fb0 fb1 fb2 fb3 cb0 cb1 cb2 cb3 fc0 fc1 cc0 cc1 ca0 ca1
   have hB1 := Aside0.mk (blk_drew (blk_far (blk_far (blk_put (blk_put (blk_put (blk_put hB.out 0 (.int .u64 n0) rfl) 1 (.int .u64 n1) rfl) 2 (.int .u64 n2) rfl) 3 (.int .u64 n3) (cs' := #[.int .u64 n0, .int .u64 n1, .int .u64 n2, .int .u64 n3]) rfl) (p := ⟨B2, 0, none⟩) g12 (.string s4)) (p := ⟨B2, 1, none⟩) g12 (.bool false)))
   have hC1 := Aside0.mk (blk_drew (blk_put (blk_put (blk_far (blk_far (blk_far (blk_far hC.out (p := ⟨B1, 0, none⟩) (Ne.symm g12) (.int .u64 n0)) (p := ⟨B1, 1, none⟩) (Ne.symm g12) (.int .u64 n1)) (p := ⟨B1, 2, none⟩) (Ne.symm g12) (.int .u64 n2)) (p := ⟨B1, 3, none⟩) (Ne.symm g12) (.int .u64 n3)) 0 (.string s4) rfl) 1 (.bool false) (cs' := #[.string s4, .bool false]) rfl))
   have HB1 := Aside0.mk (below_drew1 (below_set (j := 1) (v := .bool false) (below_set (j := 0) (v := .string s4) (below_set (j := 3) (v := .int .u64 n3) (below_set (j := 2) (v := .int .u64 n2) (below_set (j := 1) (v := .int .u64 n1) (below_set (j := 0) (v := .int .u64 n0) HB.out GB.out) GB.out) GB.out) GB.out) GC.out) GC.out))
   clear hA hB hC HB
   generalize ((((((w1.setCell ⟨B1, 0, none⟩ (.int .u64 n0)).setCell ⟨B1, 1, none⟩ (.int .u64 n1)).setCell ⟨B1, 2, none⟩ (.int .u64 n2)).setCell ⟨B1, 3, none⟩ (.int .u64 n3)).setCell ⟨B2, 0, none⟩ (.string s4)).setCell ⟨B2, 1, none⟩ (.bool false)).drew = W9 at *
   have d0 := (blk_cell hB1.out 0).trans rfl
   have d1 := (blk_cell hB1.out 1).trans rfl
   have d2 := (blk_cell hB1.out 2).trans rfl
   have d3 := (blk_cell hB1.out 3).trans rfl
   have d4 := (blk_cell hC1.out 0).trans rfl
   have d5 := (blk_cell hC1.out 1).trans rfl
   refine bodyPost_ret (v := .tuple #[.agg #[.int .u64 n0, .int .u64 n1, .int .u64 n2, .int .u64 n3], .agg #[.string s4, .bool false]]) (by simp [results, Try.results70, go_sem, hu, hu2, hu3, d0, d1, d2, d3, d4, d5]) rfl ⟨rfl, HB1.out⟩
def stamp_Get.f (k : Nat) (a0_0 : ByteArray) (a0_1 : Bool) : Option (Int × Int × Int × Int × Int × ByteArray × Bool) := (pack_Reader_Number.f a0_0 a0_1 1).bind fun bt162 => ((vec_Get.f k bt162.2.1 bt162.2.2).bind fun bt165 => (if bt165.2.2.2.2.2 = true then (some (0, 0, 0, 0, 0, (⟨#[]⟩ : ByteArray), true)) else ((stamp_Right.f bt165.1 bt165.2.1 bt165.2.2.1 bt165.2.2.2.1 (wrap64 (bt162.1))).bind fun t173 => (if t173 = true then (some (bt165.1, bt165.2.1, bt165.2.2.1, bt165.2.2.2.1, wrap64 (bt162.1), bt165.2.2.2.2.1, bt165.2.2.2.2.2)) else (some (0, 0, 0, 0, 0, (⟨#[]⟩ : ByteArray), true))))))
theorem stamp_Get.mono : ∀ a0 a1 k, LeO (stamp_Get.f k a0 a1) (stamp_Get.f (k + 1) a0 a1) := by
 intro a0 a1 k
 unfold stamp_Get.f
 repeat' first
   | (with_reducible exact vec_Get.mono _ _ _)
   | (with_reducible exact LeO.refl _)
   | (with_reducible exact LeO.none _)
   | (with_reducible refine LeO.ite ?_ ?_)
   | (with_reducible refine LeO.bind ?_ (fun _ => ?_))
   | exact vec_Get.mono _ _ _
   | exact LeO.none _
   | refine LeO.ite ?_ ?_
   | refine LeO.bind ?_ (fun _ => ?_)
set_option maxHeartbeats 8000000 in
set_option maxRecDepth 100000 in
theorem stamp_Get.calls (k : Nat) (a0_0 : ByteArray) (a0_1 : Bool) (r1 : Int) (r2 : Int) (r3 : Int) (r4 : Int) (r5 : Int) (r6 : ByteArray) (r7 : Bool) (w : World) (h : stamp_Get.f k a0_0 a0_1 = some (r1, r2, r3, r4, r5, r6, r7)) :
  Calls Try.prog 52 #[.agg #[.string a0_0, .bool a0_1]] w fun e w' => e = .returned (.tuple #[.agg #[.int .u64 r1, .int .u64 r2, .int .u64 r3, .int .u64 r4, .int .i64 r5], .agg #[.string r6, .bool r7]]) ∧ Below w.heap.size w w' := by
 have hu97 := Try.underlying97
 have hu30 := Try.underlying30
 have hu28 := Try.underlying28
 have HB := Aside0.mk (Below.refl w.heap.size w)
 have H : ((pack_Reader_Number.f a0_0 a0_1 1).bind fun bt162 => ((vec_Get.f k bt162.2.1 bt162.2.2).bind fun bt165 => (if bt165.2.2.2.2.2 = true then (some (0, 0, 0, 0, 0, (⟨#[]⟩ : ByteArray), true)) else ((stamp_Right.f bt165.1 bt165.2.1 bt165.2.2.1 bt165.2.2.2.1 (wrap64 (bt162.1))).bind fun t173 => (if t173 = true then (some (bt165.1, bt165.2.1, bt165.2.2.1, bt165.2.2.2.1, wrap64 (bt162.1), bt165.2.2.2.2.1, bt165.2.2.2.2.2)) else (some (0, 0, 0, 0, 0, (⟨#[]⟩ : ByteArray), true))))))) = some (r1, r2, r3, r4, r5, r6, r7) := h
 clear h
 replace H := Option.bind_eq_some_iff.mp H
 obtain ⟨⟨t162, t163, t164⟩, A20, H⟩ := H
 replace H : ((vec_Get.f k t163 t164).bind fun bt165 => (if bt165.2.2.2.2.2 = true then (some (0, 0, 0, 0, 0, (⟨#[]⟩ : ByteArray), true)) else ((stamp_Right.f bt165.1 bt165.2.1 bt165.2.2.1 bt165.2.2.2.1 (wrap64 (t162))).bind fun t173 => (if t173 = true then (some (bt165.1, bt165.2.1, bt165.2.2.1, bt165.2.2.2.1, wrap64 (t162), bt165.2.2.2.2.1, bt165.2.2.2.2.2)) else (some (0, 0, 0, 0, 0, (⟨#[]⟩ : ByteArray), true)))))) = some (r1, r2, r3, r4, r5, r6, r7) := H
 have A2 := Aside0.mk A20
 clear A20
 replace H := Option.bind_eq_some_iff.mp H
 obtain ⟨⟨t165, t166, t167, t168, t169, t170⟩, A30, H⟩ := H
 replace H : (if t170 = true then (some (0, 0, 0, 0, 0, (⟨#[]⟩ : ByteArray), true)) else ((stamp_Right.f t165 t166 t167 t168 (wrap64 (t162))).bind fun t173 => (if t173 = true then (some (t165, t166, t167, t168, wrap64 (t162), t169, t170)) else (some (0, 0, 0, 0, 0, (⟨#[]⟩ : ByteArray), true))))) = some (r1, r2, r3, r4, r5, r6, r7) := H
 have A3 := Aside0.mk A30
 clear A30
 by_cases c4 : t170 = true
 ·subst c4
  have H1 : (some (0, 0, 0, 0, 0, (⟨#[]⟩ : ByteArray), true)) = some (r1, r2, r3, r4, r5, r6, r7) := by rw [if_pos rfl] at H; exact H
  clear H
  have H := H1
  clear H1
  simp only [Option.some.injEq, Prod.mk.injEq] at H
  obtain ⟨rfl, rfl, rfl, rfl, rfl, rfl, rfl⟩ := H
  go_enter Try.func52, Try.ntmps52
  go_wp2_with (first | ((with_reducible refine gate_dst (N := 1) rfl ?_); refine Ka_ 1 #[.string a0_0, .bool a0_1] 97 ?_; intro gb159 hg w5 hbox hb; have BK159 := Aside0.mk (hbox); have GW159 := Kw_ HB hg; have GE159 := GW159; replace HB := Ks_ HB hb; clear hb hbox hg) | ((with_reducible refine gate_dst (N := 2) rfl ?_); refine Ka_ 2 #[.int .u64 0, .int .u64 0, .int .u64 0, .int .u64 0, .int .i64 0] 30 ?_; intro gb160 hg w6 hbox hb; have BK160 := Aside0.mk (hbox); have GW160 := Kw_ HB hg; have GE160 := GW160; have NB159_160 := Kl_ BK159 hg; have NB160_159 := Kr_ BK159 hg; replace BK159 := Kb_ BK159 hb; replace HB := Ks_ HB hb; clear hb hbox hg) | ((with_reducible refine gate_dst (N := 3) rfl ?_); refine Ka_ 3 #[.string (⟨#[]⟩ : ByteArray), .bool false] 97 ?_; intro gb161 hg w7 hbox hb; have BK161 := Aside0.mk (hbox); have GW161 := Kw_ HB hg; have GE161 := GW161; have NB159_161 := Kl_ BK159 hg; have NB161_159 := Kr_ BK159 hg; have NB160_161 := Kl_ BK160 hg; have NB161_160 := Kr_ BK160 hg; replace BK159 := Kb_ BK159 hb; replace BK160 := Kb_ BK160 hb; replace HB := Ks_ HB hb; clear hb hbox hg; have hnb8 := NB159_160.out; have hnc8 := NB160_159.out; have hnb9 := NB159_161.out; have hnc9 := NB161_159.out; obtain ⟨hcz10_0, hcz10_1, hfz10_0, hfz10_1⟩ := Ke2_ BK159.out) | ((with_reducible refine gate_callee (f := 53) rfl ?_); refine Kg_ (some 9) rfl rfl Try.func53 (by kernel_rfl) rfl #[.agg #[.string a0_0, .bool a0_1], .int .i64 1] rfl ?_; (with_reducible refine (pack_Reader_Number.calls a0_0 a0_1 1 t162 t163 t164 _ A2.out).mono ?_); rintro e w11 ⟨rfl, hb⟩; refine ⟨_, rfl, ?_⟩; replace BK159 := Kb_ BK159 hb; replace BK160 := Kb_ BK160 hb; replace BK161 := Kb_ BK161 hb; replace HB := Ks_ HB hb; (try clear hb); (try clear hb2); (try clear hk); (try clear hi); obtain ⟨hcz12_0, hcz12_1, hfz12_0, hfz12_1⟩ := Ke2_ BK159.out) | ((with_reducible refine gate_callee (f := 70) rfl ?_); refine Kg_ (some 14) rfl rfl Try.func70 (by kernel_rfl) rfl #[.agg #[.string t163, .bool t164]] rfl ?_; (with_reducible refine (vec_Get.calls k t163 t164 t165 t166 t167 t168 t169 true _ A3.out).mono ?_); rintro e w13 ⟨rfl, hb⟩; refine ⟨_, rfl, ?_⟩; replace BK159 := Aside0.mk (blk_below (g := gb159) (o := .cells #[.string t163, .bool t164] 97 (0, 0)) (by refine Kv_ ?_; refine blk_put (cs := #[.string t163, .bool a0_1]) ?_ 1 _ rfl; refine Kv_ ?_; refine blk_put (cs := #[.string a0_0, .bool a0_1]) ?_ 0 _ rfl; exact Kq_ BK159) hb); replace BK160 := Kf_ BK160 NB160_159 hb; replace BK161 := Kf_ BK161 NB161_159 hb; replace HB := Kt_ HB GE159 hb; (try clear hb); (try clear hb2); (try clear hk); (try clear hi)) | ((with_reducible refine gate_dst (N := 5) rfl ?_); refine Ka_ 5 #[.int .u64 0, .int .u64 0, .int .u64 0, .int .u64 0] 28 ?_; intro gb171 hg w14 hbox hb; have BK171 := Aside0.mk (hbox); have GW171 := Kw_ HB hg; have GE171 := GW171; have NB159_171 := Kl_ BK159 hg; have NB171_159 := Kr_ BK159 hg; have NB160_171 := Kl_ BK160 hg; have NB171_160 := Kr_ BK160 hg; have NB161_171 := Kl_ BK161 hg; have NB171_161 := Kr_ BK161 hg; replace BK159 := Kb_ BK159 hb; replace BK160 := Kb_ BK160 hb; replace BK161 := Kb_ BK161 hb; replace HB := Ks_ HB hb; clear hb hbox hg; have hnb15 := NB171_159.out; have hnc15 := NB159_171.out; have hnb16 := NB171_160.out; have hnc16 := NB160_171.out; have hnb17 := NB171_161.out; have hnc17 := NB161_171.out; obtain ⟨hcz18_0, hcz18_1, hcz18_2, hcz18_3, hfz18_0, hfz18_1, hfz18_2, hfz18_3⟩ := Ke4_ BK171.out; obtain ⟨hcz19_0, hcz19_1, hfz19_0, hfz19_1⟩ := Ke2_ BK159.out) | ((with_reducible refine gate_dst (N := 6) rfl ?_); refine Ka_ 6 #[.int .u64 0, .int .u64 0, .int .u64 0, .int .u64 0, .int .i64 0] 30 ?_; intro gb172 hg w20 hbox hb; have BK172 := Aside0.mk (hbox); have GW172 := Aside0.mk ((by rw [hg]; exact (below_size (K4a_ HB GE159 GE160 GE161 GE171)) : w.heap.size ≤ gb172)); have GE172 := GW172; have NB159_172 := Aside0.mk ((by rw [hg]; exact Nat.ne_of_lt (blk_lt (g := gb159) (o := .cells #[.string t169, .bool true] 97 (0, 0)) (by refine Kv_ ?_; refine blk_put (cs := #[.string t169, .bool t164]) ?_ 1 _ rfl; refine Kv_ ?_; refine blk_put (cs := #[.string t163, .bool t164]) ?_ 0 _ rfl; exact K1b_ BK159 NB159_171)) : gb159 ≠ gb172)); have NB172_159 := Aside0.mk ((by rw [hg]; exact Nat.ne_of_gt (blk_lt (g := gb159) (o := .cells #[.string t169, .bool true] 97 (0, 0)) (by refine Kv_ ?_; refine blk_put (cs := #[.string t169, .bool t164]) ?_ 1 _ rfl; refine Kv_ ?_; refine blk_put (cs := #[.string t163, .bool t164]) ?_ 0 _ rfl; exact K1b_ BK159 NB159_171)) : gb172 ≠ gb159)); have NB160_172 := Aside0.mk ((by rw [hg]; exact Nat.ne_of_lt (blk_lt (g := gb160) (o := .cells #[.int .u64 0, .int .u64 0, .int .u64 0, .int .u64 0, .int .i64 0] 30 (0, 0)) (K2b_ BK160 NB160_159 NB160_171)) : gb160 ≠ gb172)); have NB172_160 := Aside0.mk ((by rw [hg]; exact Nat.ne_of_gt (blk_lt (g := gb160) (o := .cells #[.int .u64 0, .int .u64 0, .int .u64 0, .int .u64 0, .int .i64 0] 30 (0, 0)) (K2b_ BK160 NB160_159 NB160_171)) : gb172 ≠ gb160)); have NB161_172 := Aside0.mk ((by rw [hg]; exact Nat.ne_of_lt (blk_lt (g := gb161) (o := .cells #[.string (⟨#[]⟩ : ByteArray), .bool false] 97 (0, 0)) (K2b_ BK161 NB161_159 NB161_171)) : gb161 ≠ gb172)); have NB172_161 := Aside0.mk ((by rw [hg]; exact Nat.ne_of_gt (blk_lt (g := gb161) (o := .cells #[.string (⟨#[]⟩ : ByteArray), .bool false] 97 (0, 0)) (K2b_ BK161 NB161_159 NB161_171)) : gb172 ≠ gb161)); have NB171_172 := Aside0.mk ((by rw [hg]; exact Nat.ne_of_lt (blk_lt (g := gb171) (o := .cells #[.int .u64 t165, .int .u64 t166, .int .u64 t167, .int .u64 t168] 28 (0, 0)) (by (repeat (first | (with_reducible first | refine blk_drewN ?_ _ | refine blk_drew ?_ | refine blk_alloc ?_ _) | refine blk_far ?_ NB171_159.out _)); refine blk_put (cs := #[.int .u64 t165, .int .u64 t166, .int .u64 t167, .int .u64 0]) ?_ 3 _ rfl; refine Kv_ ?_; refine blk_put (cs := #[.int .u64 t165, .int .u64 t166, .int .u64 0, .int .u64 0]) ?_ 2 _ rfl; refine Kv_ ?_; refine blk_put (cs := #[.int .u64 t165, .int .u64 0, .int .u64 0, .int .u64 0]) ?_ 1 _ rfl; refine Kv_ ?_; refine blk_put (cs := #[.int .u64 0, .int .u64 0, .int .u64 0, .int .u64 0]) ?_ 0 _ rfl; exact Kq_ BK171)) : gb171 ≠ gb172)); have NB172_171 := Aside0.mk ((by rw [hg]; exact Nat.ne_of_gt (blk_lt (g := gb171) (o := .cells #[.int .u64 t165, .int .u64 t166, .int .u64 t167, .int .u64 t168] 28 (0, 0)) (by (repeat (first | (with_reducible first | refine blk_drewN ?_ _ | refine blk_drew ?_ | refine blk_alloc ?_ _) | refine blk_far ?_ NB171_159.out _)); refine blk_put (cs := #[.int .u64 t165, .int .u64 t166, .int .u64 t167, .int .u64 0]) ?_ 3 _ rfl; refine Kv_ ?_; refine blk_put (cs := #[.int .u64 t165, .int .u64 t166, .int .u64 0, .int .u64 0]) ?_ 2 _ rfl; refine Kv_ ?_; refine blk_put (cs := #[.int .u64 t165, .int .u64 0, .int .u64 0, .int .u64 0]) ?_ 1 _ rfl; refine Kv_ ?_; refine blk_put (cs := #[.int .u64 0, .int .u64 0, .int .u64 0, .int .u64 0]) ?_ 0 _ rfl; exact Kq_ BK171)) : gb172 ≠ gb171)); replace BK159 := Aside0.mk (blk_below (g := gb159) (o := .cells #[.string t169, .bool true] 97 (0, 0)) (by refine Kv_ ?_; refine blk_put (cs := #[.string t169, .bool t164]) ?_ 1 _ rfl; refine Kv_ ?_; refine blk_put (cs := #[.string t163, .bool t164]) ?_ 0 _ rfl; exact K1b_ BK159 NB159_171) hb); replace BK160 := Aside0.mk (blk_below (g := gb160) (o := .cells #[.int .u64 0, .int .u64 0, .int .u64 0, .int .u64 0, .int .i64 0] 30 (0, 0)) (K2b_ BK160 NB160_159 NB160_171) hb); replace BK161 := Aside0.mk (blk_below (g := gb161) (o := .cells #[.string (⟨#[]⟩ : ByteArray), .bool false] 97 (0, 0)) (K2b_ BK161 NB161_159 NB161_171) hb); replace BK171 := Aside0.mk (blk_below (g := gb171) (o := .cells #[.int .u64 t165, .int .u64 t166, .int .u64 t167, .int .u64 t168] 28 (0, 0)) (by (repeat (first | (with_reducible first | refine blk_drewN ?_ _ | refine blk_drew ?_ | refine blk_alloc ?_ _) | refine blk_far ?_ NB171_159.out _)); refine blk_put (cs := #[.int .u64 t165, .int .u64 t166, .int .u64 t167, .int .u64 0]) ?_ 3 _ rfl; refine Kv_ ?_; refine blk_put (cs := #[.int .u64 t165, .int .u64 t166, .int .u64 0, .int .u64 0]) ?_ 2 _ rfl; refine Kv_ ?_; refine blk_put (cs := #[.int .u64 t165, .int .u64 0, .int .u64 0, .int .u64 0]) ?_ 1 _ rfl; refine Kv_ ?_; refine blk_put (cs := #[.int .u64 0, .int .u64 0, .int .u64 0, .int .u64 0]) ?_ 0 _ rfl; exact Kq_ BK171) hb); replace HB := Aside0.mk (below_step (K4a_ HB GE159 GE160 GE161 GE171) hb); clear hb hbox hg; have hnb21 := NB172_159.out; have hnc21 := NB159_172.out; have hnb22 := NB172_160.out; have hnc22 := NB160_172.out; have hnb23 := NB172_161.out; have hnc23 := NB161_172.out; have hnb24 := NB172_171.out; have hnc24 := NB171_172.out; obtain ⟨hcz25_0, hcz25_1, hcz25_2, hcz25_3, hcz25_4, hfz25_0, hfz25_1, hfz25_2, hfz25_3, hfz25_4⟩ := Ke5_ BK172.out; obtain ⟨hcz26_0, hcz26_1, hfz26_0, hfz26_1⟩ := Ke2_ BK159.out; have hnb27 := NB160_161.out; have hnc27 := NB161_160.out; obtain ⟨hcz28_0, hcz28_1, hcz28_2, hcz28_3, hcz28_4, hfz28_0, hfz28_1, hfz28_2, hfz28_3, hfz28_4⟩ := Ke5_ BK160.out; obtain ⟨hcz29_0, hcz29_1, hfz29_0, hfz29_1⟩ := Ke2_ BK161.out))
  refine bodyPost_ret (results_cc rfl _ _ gb160 gb161 30 97 #[.int .u64 0, .int .u64 0, .int .u64 0, .int .u64 0, .int .i64 0] #[.string (⟨#[]⟩ : ByteArray), .bool true] (0, 0) (0, 0) _ _ rfl (by (repeat (first | (with_reducible first | refine blk_drewN ?_ _ | refine blk_drew ?_ | refine blk_alloc ?_ _) | refine blk_far ?_ NB160_161.out _)); refine blk_put (cs := #[.int .u64 0, .int .u64 0, .int .u64 0, .int .u64 0, .int .i64 0]) ?_ 4 _ rfl; refine Kv_ ?_; refine blk_put (cs := #[.int .u64 0, .int .u64 0, .int .u64 0, .int .u64 0, .int .i64 0]) ?_ 3 _ rfl; refine Kv_ ?_; refine blk_put (cs := #[.int .u64 0, .int .u64 0, .int .u64 0, .int .u64 0, .int .i64 0]) ?_ 2 _ rfl; refine Kv_ ?_; refine blk_put (cs := #[.int .u64 0, .int .u64 0, .int .u64 0, .int .u64 0, .int .i64 0]) ?_ 1 _ rfl; refine Kv_ ?_; refine blk_put (cs := #[.int .u64 0, .int .u64 0, .int .u64 0, .int .u64 0, .int .i64 0]) ?_ 0 _ rfl; exact K1b_ BK160 NB160_172) Try.underlying30 rfl (by kernel_rfl) rfl (by refine Kv_ ?_; refine blk_put (cs := #[.string (⟨#[]⟩ : ByteArray), .bool false]) ?_ 1 _ rfl; refine Kv_ ?_; refine blk_put (cs := #[.string (⟨#[]⟩ : ByteArray), .bool false]) ?_ 0 _ rfl; exact K2b_ BK161 NB161_160 NB161_172) Try.underlying97 rfl (by kernel_rfl)) rfl ?_
  exact ⟨Kh_, by repeat (first | (with_reducible first | exact HB.out | apply below_alloc | apply pw_below_drewN | apply below_drew1 | refine below_set ?_ GE159.out | refine below_set ?_ GE160.out | refine below_set ?_ GE161.out | refine below_set ?_ GE171.out | refine below_set ?_ GE172.out) | exact HB.out)⟩
 replace c4 := Bool.eq_false_iff.mpr c4
 subst c4
 have H1 : ((stamp_Right.f t165 t166 t167 t168 (wrap64 (t162))).bind fun t173 => (if t173 = true then (some (t165, t166, t167, t168, wrap64 (t162), t169, false)) else (some (0, 0, 0, 0, 0, (⟨#[]⟩ : ByteArray), true)))) = some (r1, r2, r3, r4, r5, r6, r7) := by rw [if_neg (show ¬ (false = true) by decide)] at H; exact H
 clear H
 have H := H1
 clear H1
 replace H := Option.bind_eq_some_iff.mp H
 obtain ⟨t173, A300, H⟩ := H
 replace H : (if t173 = true then (some (t165, t166, t167, t168, wrap64 (t162), t169, false)) else (some (0, 0, 0, 0, 0, (⟨#[]⟩ : ByteArray), true))) = some (r1, r2, r3, r4, r5, r6, r7) := H
 have A30 := Aside0.mk A300
 clear A300
 by_cases c31 : t173 = true
 rotate_left
 ·replace c31 := Bool.eq_false_iff.mpr c31
  subst c31
  have H1 : (some (0, 0, 0, 0, 0, (⟨#[]⟩ : ByteArray), true)) = some (r1, r2, r3, r4, r5, r6, r7) := by rw [if_neg (show ¬ (false = true) by decide)] at H; exact H
  clear H
  have H := H1
  clear H1
  simp only [Option.some.injEq, Prod.mk.injEq] at H
  obtain ⟨rfl, rfl, rfl, rfl, rfl, rfl, rfl⟩ := H
  go_enter Try.func52, Try.ntmps52
  go_wp2_with (first | ((with_reducible refine gate_dst (N := 1) rfl ?_); refine Ka_ 1 #[.string a0_0, .bool a0_1] 97 ?_; intro gb159 hg w63 hbox hb; have BK159 := Aside0.mk (hbox); have GW159 := Kw_ HB hg; have GE159 := GW159; replace HB := Ks_ HB hb; clear hb hbox hg) | ((with_reducible refine gate_dst (N := 2) rfl ?_); refine Ka_ 2 #[.int .u64 0, .int .u64 0, .int .u64 0, .int .u64 0, .int .i64 0] 30 ?_; intro gb160 hg w64 hbox hb; have BK160 := Aside0.mk (hbox); have GW160 := Kw_ HB hg; have GE160 := GW160; have NB159_160 := Kl_ BK159 hg; have NB160_159 := Kr_ BK159 hg; replace BK159 := Kb_ BK159 hb; replace HB := Ks_ HB hb; clear hb hbox hg) | ((with_reducible refine gate_dst (N := 3) rfl ?_); refine Ka_ 3 #[.string (⟨#[]⟩ : ByteArray), .bool false] 97 ?_; intro gb161 hg w65 hbox hb; have BK161 := Aside0.mk (hbox); have GW161 := Kw_ HB hg; have GE161 := GW161; have NB159_161 := Kl_ BK159 hg; have NB161_159 := Kr_ BK159 hg; have NB160_161 := Kl_ BK160 hg; have NB161_160 := Kr_ BK160 hg; replace BK159 := Kb_ BK159 hb; replace BK160 := Kb_ BK160 hb; replace HB := Ks_ HB hb; clear hb hbox hg; have hnb66 := NB159_160.out; have hnc66 := NB160_159.out; have hnb67 := NB159_161.out; have hnc67 := NB161_159.out; obtain ⟨hcz68_0, hcz68_1, hfz68_0, hfz68_1⟩ := Ke2_ BK159.out) | ((with_reducible refine gate_callee (f := 53) rfl ?_); refine Kg_ (some 9) rfl rfl Try.func53 (by kernel_rfl) rfl #[.agg #[.string a0_0, .bool a0_1], .int .i64 1] rfl ?_; (with_reducible refine (pack_Reader_Number.calls a0_0 a0_1 1 t162 t163 t164 _ A2.out).mono ?_); rintro e w69 ⟨rfl, hb⟩; refine ⟨_, rfl, ?_⟩; replace BK159 := Kb_ BK159 hb; replace BK160 := Kb_ BK160 hb; replace BK161 := Kb_ BK161 hb; replace HB := Ks_ HB hb; (try clear hb); (try clear hb2); (try clear hk); (try clear hi); obtain ⟨hcz70_0, hcz70_1, hfz70_0, hfz70_1⟩ := Ke2_ BK159.out) | ((with_reducible refine gate_callee (f := 70) rfl ?_); refine Kg_ (some 14) rfl rfl Try.func70 (by kernel_rfl) rfl #[.agg #[.string t163, .bool t164]] rfl ?_; (with_reducible refine (vec_Get.calls k t163 t164 t165 t166 t167 t168 t169 false _ A3.out).mono ?_); rintro e w71 ⟨rfl, hb⟩; refine ⟨_, rfl, ?_⟩; replace BK159 := Aside0.mk (blk_below (g := gb159) (o := .cells #[.string t163, .bool t164] 97 (0, 0)) (by refine Kv_ ?_; refine blk_put (cs := #[.string t163, .bool a0_1]) ?_ 1 _ rfl; refine Kv_ ?_; refine blk_put (cs := #[.string a0_0, .bool a0_1]) ?_ 0 _ rfl; exact Kq_ BK159) hb); replace BK160 := Kf_ BK160 NB160_159 hb; replace BK161 := Kf_ BK161 NB161_159 hb; replace HB := Kt_ HB GE159 hb; (try clear hb); (try clear hb2); (try clear hk); (try clear hi)) | ((with_reducible refine gate_dst (N := 5) rfl ?_); refine Ka_ 5 #[.int .u64 0, .int .u64 0, .int .u64 0, .int .u64 0] 28 ?_; intro gb171 hg w72 hbox hb; have BK171 := Aside0.mk (hbox); have GW171 := Kw_ HB hg; have GE171 := GW171; have NB159_171 := Kl_ BK159 hg; have NB171_159 := Kr_ BK159 hg; have NB160_171 := Kl_ BK160 hg; have NB171_160 := Kr_ BK160 hg; have NB161_171 := Kl_ BK161 hg; have NB171_161 := Kr_ BK161 hg; replace BK159 := Kb_ BK159 hb; replace BK160 := Kb_ BK160 hb; replace BK161 := Kb_ BK161 hb; replace HB := Ks_ HB hb; clear hb hbox hg; have hnb73 := NB171_159.out; have hnc73 := NB159_171.out; have hnb74 := NB171_160.out; have hnc74 := NB160_171.out; have hnb75 := NB171_161.out; have hnc75 := NB161_171.out; obtain ⟨hcz76_0, hcz76_1, hcz76_2, hcz76_3, hfz76_0, hfz76_1, hfz76_2, hfz76_3⟩ := Ke4_ BK171.out; obtain ⟨hcz77_0, hcz77_1, hfz77_0, hfz77_1⟩ := Ke2_ BK159.out) | ((with_reducible refine gate_dst (N := 6) rfl ?_); refine Ka_ 6 #[.int .u64 0, .int .u64 0, .int .u64 0, .int .u64 0, .int .i64 0] 30 ?_; intro gb172 hg w78 hbox hb; have BK172 := Aside0.mk (hbox); have GW172 := Aside0.mk ((by rw [hg]; exact (below_size (K4a_ HB GE159 GE160 GE161 GE171)) : w.heap.size ≤ gb172)); have GE172 := GW172; have NB159_172 := Aside0.mk ((by rw [hg]; exact Nat.ne_of_lt (blk_lt (g := gb159) (o := .cells #[.string t169, .bool false] 97 (0, 0)) (by refine Kv_ ?_; refine blk_put (cs := #[.string t169, .bool t164]) ?_ 1 _ rfl; refine Kv_ ?_; refine blk_put (cs := #[.string t163, .bool t164]) ?_ 0 _ rfl; exact K1b_ BK159 NB159_171)) : gb159 ≠ gb172)); have NB172_159 := Aside0.mk ((by rw [hg]; exact Nat.ne_of_gt (blk_lt (g := gb159) (o := .cells #[.string t169, .bool false] 97 (0, 0)) (by refine Kv_ ?_; refine blk_put (cs := #[.string t169, .bool t164]) ?_ 1 _ rfl; refine Kv_ ?_; refine blk_put (cs := #[.string t163, .bool t164]) ?_ 0 _ rfl; exact K1b_ BK159 NB159_171)) : gb172 ≠ gb159)); have NB160_172 := Aside0.mk ((by rw [hg]; exact Nat.ne_of_lt (blk_lt (g := gb160) (o := .cells #[.int .u64 0, .int .u64 0, .int .u64 0, .int .u64 0, .int .i64 0] 30 (0, 0)) (K2b_ BK160 NB160_159 NB160_171)) : gb160 ≠ gb172)); have NB172_160 := Aside0.mk ((by rw [hg]; exact Nat.ne_of_gt (blk_lt (g := gb160) (o := .cells #[.int .u64 0, .int .u64 0, .int .u64 0, .int .u64 0, .int .i64 0] 30 (0, 0)) (K2b_ BK160 NB160_159 NB160_171)) : gb172 ≠ gb160)); have NB161_172 := Aside0.mk ((by rw [hg]; exact Nat.ne_of_lt (blk_lt (g := gb161) (o := .cells #[.string (⟨#[]⟩ : ByteArray), .bool false] 97 (0, 0)) (K2b_ BK161 NB161_159 NB161_171)) : gb161 ≠ gb172)); have NB172_161 := Aside0.mk ((by rw [hg]; exact Nat.ne_of_gt (blk_lt (g := gb161) (o := .cells #[.string (⟨#[]⟩ : ByteArray), .bool false] 97 (0, 0)) (K2b_ BK161 NB161_159 NB161_171)) : gb172 ≠ gb161)); have NB171_172 := Aside0.mk ((by rw [hg]; exact Nat.ne_of_lt (blk_lt (g := gb171) (o := .cells #[.int .u64 t165, .int .u64 t166, .int .u64 t167, .int .u64 t168] 28 (0, 0)) (by (repeat (first | (with_reducible first | refine blk_drewN ?_ _ | refine blk_drew ?_ | refine blk_alloc ?_ _) | refine blk_far ?_ NB171_159.out _)); refine blk_put (cs := #[.int .u64 t165, .int .u64 t166, .int .u64 t167, .int .u64 0]) ?_ 3 _ rfl; refine Kv_ ?_; refine blk_put (cs := #[.int .u64 t165, .int .u64 t166, .int .u64 0, .int .u64 0]) ?_ 2 _ rfl; refine Kv_ ?_; refine blk_put (cs := #[.int .u64 t165, .int .u64 0, .int .u64 0, .int .u64 0]) ?_ 1 _ rfl; refine Kv_ ?_; refine blk_put (cs := #[.int .u64 0, .int .u64 0, .int .u64 0, .int .u64 0]) ?_ 0 _ rfl; exact Kq_ BK171)) : gb171 ≠ gb172)); have NB172_171 := Aside0.mk ((by rw [hg]; exact Nat.ne_of_gt (blk_lt (g := gb171) (o := .cells #[.int .u64 t165, .int .u64 t166, .int .u64 t167, .int .u64 t168] 28 (0, 0)) (by (repeat (first | (with_reducible first | refine blk_drewN ?_ _ | refine blk_drew ?_ | refine blk_alloc ?_ _) | refine blk_far ?_ NB171_159.out _)); refine blk_put (cs := #[.int .u64 t165, .int .u64 t166, .int .u64 t167, .int .u64 0]) ?_ 3 _ rfl; refine Kv_ ?_; refine blk_put (cs := #[.int .u64 t165, .int .u64 t166, .int .u64 0, .int .u64 0]) ?_ 2 _ rfl; refine Kv_ ?_; refine blk_put (cs := #[.int .u64 t165, .int .u64 0, .int .u64 0, .int .u64 0]) ?_ 1 _ rfl; refine Kv_ ?_; refine blk_put (cs := #[.int .u64 0, .int .u64 0, .int .u64 0, .int .u64 0]) ?_ 0 _ rfl; exact Kq_ BK171)) : gb172 ≠ gb171)); replace BK159 := Aside0.mk (blk_below (g := gb159) (o := .cells #[.string t169, .bool false] 97 (0, 0)) (by refine Kv_ ?_; refine blk_put (cs := #[.string t169, .bool t164]) ?_ 1 _ rfl; refine Kv_ ?_; refine blk_put (cs := #[.string t163, .bool t164]) ?_ 0 _ rfl; exact K1b_ BK159 NB159_171) hb); replace BK160 := Aside0.mk (blk_below (g := gb160) (o := .cells #[.int .u64 0, .int .u64 0, .int .u64 0, .int .u64 0, .int .i64 0] 30 (0, 0)) (K2b_ BK160 NB160_159 NB160_171) hb); replace BK161 := Aside0.mk (blk_below (g := gb161) (o := .cells #[.string (⟨#[]⟩ : ByteArray), .bool false] 97 (0, 0)) (K2b_ BK161 NB161_159 NB161_171) hb); replace BK171 := Aside0.mk (blk_below (g := gb171) (o := .cells #[.int .u64 t165, .int .u64 t166, .int .u64 t167, .int .u64 t168] 28 (0, 0)) (by (repeat (first | (with_reducible first | refine blk_drewN ?_ _ | refine blk_drew ?_ | refine blk_alloc ?_ _) | refine blk_far ?_ NB171_159.out _)); refine blk_put (cs := #[.int .u64 t165, .int .u64 t166, .int .u64 t167, .int .u64 0]) ?_ 3 _ rfl; refine Kv_ ?_; refine blk_put (cs := #[.int .u64 t165, .int .u64 t166, .int .u64 0, .int .u64 0]) ?_ 2 _ rfl; refine Kv_ ?_; refine blk_put (cs := #[.int .u64 t165, .int .u64 0, .int .u64 0, .int .u64 0]) ?_ 1 _ rfl; refine Kv_ ?_; refine blk_put (cs := #[.int .u64 0, .int .u64 0, .int .u64 0, .int .u64 0]) ?_ 0 _ rfl; exact Kq_ BK171) hb); replace HB := Aside0.mk (below_step (K4a_ HB GE159 GE160 GE161 GE171) hb); clear hb hbox hg; have hnb79 := NB172_159.out; have hnc79 := NB159_172.out; have hnb80 := NB172_160.out; have hnc80 := NB160_172.out; have hnb81 := NB172_161.out; have hnc81 := NB161_172.out; have hnb82 := NB172_171.out; have hnc82 := NB171_172.out; obtain ⟨hcz83_0, hcz83_1, hcz83_2, hcz83_3, hcz83_4, hfz83_0, hfz83_1, hfz83_2, hfz83_3, hfz83_4⟩ := Ke5_ BK172.out; obtain ⟨hcz84_0, hcz84_1, hfz84_0, hfz84_1⟩ := Ke2_ BK159.out) | (go_at_call 44; (with_reducible refine (stamp_Right.calls t165 t166 t167 t168 (wrap64 (t162)) false _ A30.out).mono ?_); rintro e w85 ⟨rfl, hb⟩; replace BK159 := Kf_ BK159 NB159_172 hb; replace BK160 := Kf_ BK160 NB160_172 hb; replace BK161 := Kf_ BK161 NB161_172 hb; replace BK171 := Kf_ BK171 NB171_172 hb; replace BK172 := Aside0.mk (blk_below (g := gb172) (o := .cells #[.int .u64 t165, .int .u64 t166, .int .u64 t167, .int .u64 t168, .int .i64 (wrap64 (t162))] 30 (0, 0)) (by refine Kv_ ?_; refine blk_put (cs := #[.int .u64 t165, .int .u64 t166, .int .u64 t167, .int .u64 t168, .int .i64 0]) ?_ 4 _ rfl; refine Kv_ ?_; refine blk_put (cs := #[.int .u64 t165, .int .u64 t166, .int .u64 t167, .int .u64 0, .int .i64 0]) ?_ 3 _ rfl; refine Kv_ ?_; refine blk_put (cs := #[.int .u64 t165, .int .u64 t166, .int .u64 0, .int .u64 0, .int .i64 0]) ?_ 2 _ rfl; refine Kv_ ?_; refine blk_put (cs := #[.int .u64 t165, .int .u64 0, .int .u64 0, .int .u64 0, .int .i64 0]) ?_ 1 _ rfl; refine Kv_ ?_; refine blk_put (cs := #[.int .u64 0, .int .u64 0, .int .u64 0, .int .u64 0, .int .i64 0]) ?_ 0 _ rfl; exact Kq_ BK172) hb); replace HB := Kt_ HB GE172 hb; (try clear hb); (try clear hb2); (try clear hk); (try clear hi); have hnb86 := NB160_161.out; have hnc86 := NB161_160.out; obtain ⟨hcz87_0, hcz87_1, hcz87_2, hcz87_3, hcz87_4, hfz87_0, hfz87_1, hfz87_2, hfz87_3, hfz87_4⟩ := Ke5_ BK160.out; obtain ⟨hcz88_0, hcz88_1, hfz88_0, hfz88_1⟩ := Ke2_ BK161.out))
  refine bodyPost_ret (results_cc rfl _ _ gb160 gb161 30 97 #[.int .u64 0, .int .u64 0, .int .u64 0, .int .u64 0, .int .i64 0] #[.string (⟨#[]⟩ : ByteArray), .bool true] (0, 0) (0, 0) _ _ rfl (by (repeat (first | (with_reducible first | refine blk_drewN ?_ _ | refine blk_drew ?_ | refine blk_alloc ?_ _) | refine blk_far ?_ NB160_161.out _)); refine blk_put (cs := #[.int .u64 0, .int .u64 0, .int .u64 0, .int .u64 0, .int .i64 0]) ?_ 4 _ rfl; refine Kv_ ?_; refine blk_put (cs := #[.int .u64 0, .int .u64 0, .int .u64 0, .int .u64 0, .int .i64 0]) ?_ 3 _ rfl; refine Kv_ ?_; refine blk_put (cs := #[.int .u64 0, .int .u64 0, .int .u64 0, .int .u64 0, .int .i64 0]) ?_ 2 _ rfl; refine Kv_ ?_; refine blk_put (cs := #[.int .u64 0, .int .u64 0, .int .u64 0, .int .u64 0, .int .i64 0]) ?_ 1 _ rfl; refine Kv_ ?_; refine blk_put (cs := #[.int .u64 0, .int .u64 0, .int .u64 0, .int .u64 0, .int .i64 0]) ?_ 0 _ rfl; exact Kq_ BK160) Try.underlying30 rfl (by kernel_rfl) rfl (by refine Kv_ ?_; refine blk_put (cs := #[.string (⟨#[]⟩ : ByteArray), .bool false]) ?_ 1 _ rfl; refine Kv_ ?_; refine blk_put (cs := #[.string (⟨#[]⟩ : ByteArray), .bool false]) ?_ 0 _ rfl; exact K1b_ BK161 NB161_160) Try.underlying97 rfl (by kernel_rfl)) rfl ?_
  exact ⟨Kh_, by repeat (first | (with_reducible first | exact HB.out | apply below_alloc | apply pw_below_drewN | apply below_drew1 | refine below_set ?_ GE159.out | refine below_set ?_ GE160.out | refine below_set ?_ GE161.out | refine below_set ?_ GE171.out | refine below_set ?_ GE172.out) | exact HB.out)⟩
 subst c31
 have H1 : (some (t165, t166, t167, t168, wrap64 (t162), t169, false)) = some (r1, r2, r3, r4, r5, r6, r7) := by rw [if_pos rfl] at H; exact H
 clear H
 have H := H1
 clear H1
 simp only [Option.some.injEq, Prod.mk.injEq] at H
 obtain ⟨rfl, rfl, rfl, rfl, rfl, rfl, rfl⟩ := H
 go_enter Try.func52, Try.ntmps52
 try go_wp2_with (first | ((with_reducible refine gate_dst (N := 1) rfl ?_); refine Ka_ 1 #[.string a0_0, .bool a0_1] 97 ?_; intro gb159 hg w32 hbox hb; have BK159 := Aside0.mk (hbox); have GW159 := Kw_ HB hg; have GE159 := GW159; replace HB := Ks_ HB hb; clear hb hbox hg) | ((with_reducible refine gate_dst (N := 2) rfl ?_); refine Ka_ 2 #[.int .u64 0, .int .u64 0, .int .u64 0, .int .u64 0, .int .i64 0] 30 ?_; intro gb160 hg w33 hbox hb; have BK160 := Aside0.mk (hbox); have GW160 := Kw_ HB hg; have GE160 := GW160; have NB159_160 := Kl_ BK159 hg; have NB160_159 := Kr_ BK159 hg; replace BK159 := Kb_ BK159 hb; replace HB := Ks_ HB hb; clear hb hbox hg) | ((with_reducible refine gate_dst (N := 3) rfl ?_); refine Ka_ 3 #[.string (⟨#[]⟩ : ByteArray), .bool false] 97 ?_; intro gb161 hg w34 hbox hb; have BK161 := Aside0.mk (hbox); have GW161 := Kw_ HB hg; have GE161 := GW161; have NB159_161 := Kl_ BK159 hg; have NB161_159 := Kr_ BK159 hg; have NB160_161 := Kl_ BK160 hg; have NB161_160 := Kr_ BK160 hg; replace BK159 := Kb_ BK159 hb; replace BK160 := Kb_ BK160 hb; replace HB := Ks_ HB hb; clear hb hbox hg; have hnb35 := NB159_160.out; have hnc35 := NB160_159.out; have hnb36 := NB159_161.out; have hnc36 := NB161_159.out; obtain ⟨hcz37_0, hcz37_1, hfz37_0, hfz37_1⟩ := Ke2_ BK159.out) | ((with_reducible refine gate_callee (f := 53) rfl ?_); refine Kg_ (some 9) rfl rfl Try.func53 (by kernel_rfl) rfl #[.agg #[.string a0_0, .bool a0_1], .int .i64 1] rfl ?_; (with_reducible refine (pack_Reader_Number.calls a0_0 a0_1 1 t162 t163 t164 _ A2.out).mono ?_); rintro e w38 ⟨rfl, hb⟩; refine ⟨_, rfl, ?_⟩; replace BK159 := Kb_ BK159 hb; replace BK160 := Kb_ BK160 hb; replace BK161 := Kb_ BK161 hb; replace HB := Ks_ HB hb; (try clear hb); (try clear hb2); (try clear hk); (try clear hi); obtain ⟨hcz39_0, hcz39_1, hfz39_0, hfz39_1⟩ := Ke2_ BK159.out) | ((with_reducible refine gate_callee (f := 70) rfl ?_); refine Kg_ (some 14) rfl rfl Try.func70 (by kernel_rfl) rfl #[.agg #[.string t163, .bool t164]] rfl ?_; (with_reducible refine (vec_Get.calls k t163 t164 t165 t166 t167 t168 t169 false _ A3.out).mono ?_); rintro e w40 ⟨rfl, hb⟩; refine ⟨_, rfl, ?_⟩; replace BK159 := Aside0.mk (blk_below (g := gb159) (o := .cells #[.string t163, .bool t164] 97 (0, 0)) (by refine Kv_ ?_; refine blk_put (cs := #[.string t163, .bool a0_1]) ?_ 1 _ rfl; refine Kv_ ?_; refine blk_put (cs := #[.string a0_0, .bool a0_1]) ?_ 0 _ rfl; exact Kq_ BK159) hb); replace BK160 := Kf_ BK160 NB160_159 hb; replace BK161 := Kf_ BK161 NB161_159 hb; replace HB := Kt_ HB GE159 hb; (try clear hb); (try clear hb2); (try clear hk); (try clear hi)) | ((with_reducible refine gate_dst (N := 5) rfl ?_); refine Ka_ 5 #[.int .u64 0, .int .u64 0, .int .u64 0, .int .u64 0] 28 ?_; intro gb171 hg w41 hbox hb; have BK171 := Aside0.mk (hbox); have GW171 := Kw_ HB hg; have GE171 := GW171; have NB159_171 := Kl_ BK159 hg; have NB171_159 := Kr_ BK159 hg; have NB160_171 := Kl_ BK160 hg; have NB171_160 := Kr_ BK160 hg; have NB161_171 := Kl_ BK161 hg; have NB171_161 := Kr_ BK161 hg; replace BK159 := Kb_ BK159 hb; replace BK160 := Kb_ BK160 hb; replace BK161 := Kb_ BK161 hb; replace HB := Ks_ HB hb; clear hb hbox hg; have hnb42 := NB171_159.out; have hnc42 := NB159_171.out; have hnb43 := NB171_160.out; have hnc43 := NB160_171.out; have hnb44 := NB171_161.out; have hnc44 := NB161_171.out; obtain ⟨hcz45_0, hcz45_1, hcz45_2, hcz45_3, hfz45_0, hfz45_1, hfz45_2, hfz45_3⟩ := Ke4_ BK171.out; obtain ⟨hcz46_0, hcz46_1, hfz46_0, hfz46_1⟩ := Ke2_ BK159.out) | ((with_reducible refine gate_dst (N := 6) rfl ?_); refine Ka_ 6 #[.int .u64 0, .int .u64 0, .int .u64 0, .int .u64 0, .int .i64 0] 30 ?_; intro gb172 hg w47 hbox hb; have BK172 := Aside0.mk (hbox); have GW172 := Aside0.mk ((by rw [hg]; exact (below_size (K4a_ HB GE159 GE160 GE161 GE171)) : w.heap.size ≤ gb172)); have GE172 := GW172; have NB159_172 := Aside0.mk ((by rw [hg]; exact Nat.ne_of_lt (blk_lt (g := gb159) (o := .cells #[.string t169, .bool false] 97 (0, 0)) (by refine Kv_ ?_; refine blk_put (cs := #[.string t169, .bool t164]) ?_ 1 _ rfl; refine Kv_ ?_; refine blk_put (cs := #[.string t163, .bool t164]) ?_ 0 _ rfl; exact K1b_ BK159 NB159_171)) : gb159 ≠ gb172)); have NB172_159 := Aside0.mk ((by rw [hg]; exact Nat.ne_of_gt (blk_lt (g := gb159) (o := .cells #[.string t169, .bool false] 97 (0, 0)) (by refine Kv_ ?_; refine blk_put (cs := #[.string t169, .bool t164]) ?_ 1 _ rfl; refine Kv_ ?_; refine blk_put (cs := #[.string t163, .bool t164]) ?_ 0 _ rfl; exact K1b_ BK159 NB159_171)) : gb172 ≠ gb159)); have NB160_172 := Aside0.mk ((by rw [hg]; exact Nat.ne_of_lt (blk_lt (g := gb160) (o := .cells #[.int .u64 0, .int .u64 0, .int .u64 0, .int .u64 0, .int .i64 0] 30 (0, 0)) (K2b_ BK160 NB160_159 NB160_171)) : gb160 ≠ gb172)); have NB172_160 := Aside0.mk ((by rw [hg]; exact Nat.ne_of_gt (blk_lt (g := gb160) (o := .cells #[.int .u64 0, .int .u64 0, .int .u64 0, .int .u64 0, .int .i64 0] 30 (0, 0)) (K2b_ BK160 NB160_159 NB160_171)) : gb172 ≠ gb160)); have NB161_172 := Aside0.mk ((by rw [hg]; exact Nat.ne_of_lt (blk_lt (g := gb161) (o := .cells #[.string (⟨#[]⟩ : ByteArray), .bool false] 97 (0, 0)) (K2b_ BK161 NB161_159 NB161_171)) : gb161 ≠ gb172)); have NB172_161 := Aside0.mk ((by rw [hg]; exact Nat.ne_of_gt (blk_lt (g := gb161) (o := .cells #[.string (⟨#[]⟩ : ByteArray), .bool false] 97 (0, 0)) (K2b_ BK161 NB161_159 NB161_171)) : gb172 ≠ gb161)); have NB171_172 := Aside0.mk ((by rw [hg]; exact Nat.ne_of_lt (blk_lt (g := gb171) (o := .cells #[.int .u64 t165, .int .u64 t166, .int .u64 t167, .int .u64 t168] 28 (0, 0)) (by (repeat (first | (with_reducible first | refine blk_drewN ?_ _ | refine blk_drew ?_ | refine blk_alloc ?_ _) | refine blk_far ?_ NB171_159.out _)); refine blk_put (cs := #[.int .u64 t165, .int .u64 t166, .int .u64 t167, .int .u64 0]) ?_ 3 _ rfl; refine Kv_ ?_; refine blk_put (cs := #[.int .u64 t165, .int .u64 t166, .int .u64 0, .int .u64 0]) ?_ 2 _ rfl; refine Kv_ ?_; refine blk_put (cs := #[.int .u64 t165, .int .u64 0, .int .u64 0, .int .u64 0]) ?_ 1 _ rfl; refine Kv_ ?_; refine blk_put (cs := #[.int .u64 0, .int .u64 0, .int .u64 0, .int .u64 0]) ?_ 0 _ rfl; exact Kq_ BK171)) : gb171 ≠ gb172)); have NB172_171 := Aside0.mk ((by rw [hg]; exact Nat.ne_of_gt (blk_lt (g := gb171) (o := .cells #[.int .u64 t165, .int .u64 t166, .int .u64 t167, .int .u64 t168] 28 (0, 0)) (by (repeat (first | (with_reducible first | refine blk_drewN ?_ _ | refine blk_drew ?_ | refine blk_alloc ?_ _) | refine blk_far ?_ NB171_159.out _)); refine blk_put (cs := #[.int .u64 t165, .int .u64 t166, .int .u64 t167, .int .u64 0]) ?_ 3 _ rfl; refine Kv_ ?_; refine blk_put (cs := #[.int .u64 t165, .int .u64 t166, .int .u64 0, .int .u64 0]) ?_ 2 _ rfl; refine Kv_ ?_; refine blk_put (cs := #[.int .u64 t165, .int .u64 0, .int .u64 0, .int .u64 0]) ?_ 1 _ rfl; refine Kv_ ?_; refine blk_put (cs := #[.int .u64 0, .int .u64 0, .int .u64 0, .int .u64 0]) ?_ 0 _ rfl; exact Kq_ BK171)) : gb172 ≠ gb171)); replace BK159 := Aside0.mk (blk_below (g := gb159) (o := .cells #[.string t169, .bool false] 97 (0, 0)) (by refine Kv_ ?_; refine blk_put (cs := #[.string t169, .bool t164]) ?_ 1 _ rfl; refine Kv_ ?_; refine blk_put (cs := #[.string t163, .bool t164]) ?_ 0 _ rfl; exact K1b_ BK159 NB159_171) hb); replace BK160 := Aside0.mk (blk_below (g := gb160) (o := .cells #[.int .u64 0, .int .u64 0, .int .u64 0, .int .u64 0, .int .i64 0] 30 (0, 0)) (K2b_ BK160 NB160_159 NB160_171) hb); replace BK161 := Aside0.mk (blk_below (g := gb161) (o := .cells #[.string (⟨#[]⟩ : ByteArray), .bool false] 97 (0, 0)) (K2b_ BK161 NB161_159 NB161_171) hb); replace BK171 := Aside0.mk (blk_below (g := gb171) (o := .cells #[.int .u64 t165, .int .u64 t166, .int .u64 t167, .int .u64 t168] 28 (0, 0)) (by (repeat (first | (with_reducible first | refine blk_drewN ?_ _ | refine blk_drew ?_ | refine blk_alloc ?_ _) | refine blk_far ?_ NB171_159.out _)); refine blk_put (cs := #[.int .u64 t165, .int .u64 t166, .int .u64 t167, .int .u64 0]) ?_ 3 _ rfl; refine Kv_ ?_; refine blk_put (cs := #[.int .u64 t165, .int .u64 t166, .int .u64 0, .int .u64 0]) ?_ 2 _ rfl; refine Kv_ ?_; refine blk_put (cs := #[.int .u64 t165, .int .u64 0, .int .u64 0, .int .u64 0]) ?_ 1 _ rfl; refine Kv_ ?_; refine blk_put (cs := #[.int .u64 0, .int .u64 0, .int .u64 0, .int .u64 0]) ?_ 0 _ rfl; exact Kq_ BK171) hb); replace HB := Aside0.mk (below_step (K4a_ HB GE159 GE160 GE161 GE171) hb); clear hb hbox hg; have hnb48 := NB172_159.out; have hnc48 := NB159_172.out; have hnb49 := NB172_160.out; have hnc49 := NB160_172.out; have hnb50 := NB172_161.out; have hnc50 := NB161_172.out; have hnb51 := NB172_171.out; have hnc51 := NB171_172.out; obtain ⟨hcz52_0, hcz52_1, hcz52_2, hcz52_3, hcz52_4, hfz52_0, hfz52_1, hfz52_2, hfz52_3, hfz52_4⟩ := Ke5_ BK172.out; obtain ⟨hcz53_0, hcz53_1, hfz53_0, hfz53_1⟩ := Ke2_ BK159.out) | (go_at_call 44; (with_reducible refine (stamp_Right.calls t165 t166 t167 t168 (wrap64 (t162)) true _ A30.out).mono ?_); rintro e w54 ⟨rfl, hb⟩; replace BK159 := Kf_ BK159 NB159_172 hb; replace BK160 := Kf_ BK160 NB160_172 hb; replace BK161 := Kf_ BK161 NB161_172 hb; replace BK171 := Kf_ BK171 NB171_172 hb; replace BK172 := Aside0.mk (blk_below (g := gb172) (o := .cells #[.int .u64 t165, .int .u64 t166, .int .u64 t167, .int .u64 t168, .int .i64 (wrap64 (t162))] 30 (0, 0)) (by refine Kv_ ?_; refine blk_put (cs := #[.int .u64 t165, .int .u64 t166, .int .u64 t167, .int .u64 t168, .int .i64 0]) ?_ 4 _ rfl; refine Kv_ ?_; refine blk_put (cs := #[.int .u64 t165, .int .u64 t166, .int .u64 t167, .int .u64 0, .int .i64 0]) ?_ 3 _ rfl; refine Kv_ ?_; refine blk_put (cs := #[.int .u64 t165, .int .u64 t166, .int .u64 0, .int .u64 0, .int .i64 0]) ?_ 2 _ rfl; refine Kv_ ?_; refine blk_put (cs := #[.int .u64 t165, .int .u64 0, .int .u64 0, .int .u64 0, .int .i64 0]) ?_ 1 _ rfl; refine Kv_ ?_; refine blk_put (cs := #[.int .u64 0, .int .u64 0, .int .u64 0, .int .u64 0, .int .i64 0]) ?_ 0 _ rfl; exact Kq_ BK172) hb); replace HB := Kt_ HB GE172 hb; (try clear hb); (try clear hb2); (try clear hk); (try clear hi)))
 replace BK159 := Kd_ BK159
 replace BK160 := Kd_ BK160
 replace BK161 := Kd_ BK161
 replace BK171 := Kd_ BK171
 replace BK172 := Kd_ BK172
 replace HB := Aside0.mk (below_drew1 HB.out)
 refine start_ (n := 4) (S := fun w' => w'.cell? ⟨gb172, 0, none⟩ = some (.int .u64 t165) ∧ w'.cell? ⟨gb172, 1, none⟩ = some (.int .u64 t166) ∧ w'.cell? ⟨gb172, 2, none⟩ = some (.int .u64 t167) ∧ w'.cell? ⟨gb172, 3, none⟩ = some (.int .u64 t168) ∧ w'.cell? ⟨gb172, 4, none⟩ = some (.int .i64 (wrap64 (t162))) ∧ w'.cell? ⟨gb159, 0, none⟩ = some (.string t169) ∧ w'.cell? ⟨gb159, 1, none⟩ = some (.bool false)) (ds := []) (mB_ 4 0) (by kernel_rfl) rfl rfl ⟨Km_ BK172 0, Km_ BK172 1, Km_ BK172 2, Km_ BK172 3, Km_ BK172 4, Km_ BK159 0, Km_ BK159 1⟩ (fun hHeld => ?_)
 generalize w54.drew = w55 at BK159 BK160 BK161 BK171 BK172 HB hHeld ⊢
 refine Ko_ 0 28 (mB_ 4 1) (by kernel_rfl) hHeld ?_
 refine Ko_ 1 29 (mB_ 4 3) (by kernel_rfl) hHeld ?_
 refine one_ (i := 2) (N := none) (mB_ 4 7) rfl rfl (by kernel_rfl) (by decide) (fun K hK => ?_)
 have hs56 : w55.cell? ⟨gb160, 0, none⟩ = some (.int .u64 0) := (blk_cell BK160.out 0).trans rfl
 have hfs56 := blk_frozen BK160.out 0
 have hns56_0 := NB159_160.out
 have hns56_2 := NB161_160.out
 have hns56_3 := NB171_160.out
 have hns56_4 := NB172_160.out
 have hms56_0 := NB160_159.out
 have hms56_2 := NB160_161.out
 have hms56_3 := NB160_171.out
 have hms56_4 := NB160_172.out
 have hs57 : w55.cell? ⟨gb160, 1, none⟩ = some (.int .u64 0) := (blk_cell BK160.out 1).trans rfl
 have hfs57 := blk_frozen BK160.out 1
 have hns57_0 := NB159_160.out
 have hns57_2 := NB161_160.out
 have hns57_3 := NB171_160.out
 have hns57_4 := NB172_160.out
 have hms57_0 := NB160_159.out
 have hms57_2 := NB160_161.out
 have hms57_3 := NB160_171.out
 have hms57_4 := NB160_172.out
 have hs58 : w55.cell? ⟨gb160, 2, none⟩ = some (.int .u64 0) := (blk_cell BK160.out 2).trans rfl
 have hfs58 := blk_frozen BK160.out 2
 have hns58_0 := NB159_160.out
 have hns58_2 := NB161_160.out
 have hns58_3 := NB171_160.out
 have hns58_4 := NB172_160.out
 have hms58_0 := NB160_159.out
 have hms58_2 := NB160_161.out
 have hms58_3 := NB160_171.out
 have hms58_4 := NB160_172.out
 have hs59 : w55.cell? ⟨gb160, 3, none⟩ = some (.int .u64 0) := (blk_cell BK160.out 3).trans rfl
 have hfs59 := blk_frozen BK160.out 3
 have hns59_0 := NB159_160.out
 have hns59_2 := NB161_160.out
 have hns59_3 := NB171_160.out
 have hns59_4 := NB172_160.out
 have hms59_0 := NB160_159.out
 have hms59_2 := NB160_161.out
 have hms59_3 := NB160_171.out
 have hms59_4 := NB160_172.out
 have hs60 : w55.cell? ⟨gb160, 4, none⟩ = some (.int .i64 0) := (blk_cell BK160.out 4).trans rfl
 have hfs60 := blk_frozen BK160.out 4
 have hns60_0 := NB159_160.out
 have hns60_2 := NB161_160.out
 have hns60_3 := NB171_160.out
 have hns60_4 := NB172_160.out
 have hms60_0 := NB160_159.out
 have hms60_2 := NB160_161.out
 have hms60_3 := NB160_171.out
 have hms60_4 := NB160_172.out
 refine skip_ (w1 := ?_) (by rfl) rfl ?_ ?_
 rotate_left
 ·go_simp
  rfl
 refine hK.out _ _ ⟨(Kj_ NB172_160 ((Kj_ NB172_160 ((Kj_ NB172_160 ((Kj_ NB172_160 ((Kj_ NB172_160 (hHeld.1)))))))))), (Kj_ NB172_160 ((Kj_ NB172_160 ((Kj_ NB172_160 ((Kj_ NB172_160 ((Kj_ NB172_160 (hHeld.2.1)))))))))), (Kj_ NB172_160 ((Kj_ NB172_160 ((Kj_ NB172_160 ((Kj_ NB172_160 ((Kj_ NB172_160 (hHeld.2.2.1)))))))))), (Kj_ NB172_160 ((Kj_ NB172_160 ((Kj_ NB172_160 ((Kj_ NB172_160 ((Kj_ NB172_160 (hHeld.2.2.2.1)))))))))), (Kj_ NB172_160 ((Kj_ NB172_160 ((Kj_ NB172_160 ((Kj_ NB172_160 ((Kj_ NB172_160 (hHeld.2.2.2.2.1)))))))))), (Kj_ NB159_160 ((Kj_ NB159_160 ((Kj_ NB159_160 ((Kj_ NB159_160 ((Kj_ NB159_160 (hHeld.2.2.2.2.2.1)))))))))), (Kj_ NB159_160 ((Kj_ NB159_160 ((Kj_ NB159_160 ((Kj_ NB159_160 ((Kj_ NB159_160 (hHeld.2.2.2.2.2.2))))))))))⟩ (fun hHeld => ?_)
 clear hK K
 refine one_ (i := 3) (N := none) (mB_ 4 15) rfl rfl (by kernel_rfl) (by decide) (fun K hK => ?_)
 have hs61 : w55.cell? ⟨gb161, 0, none⟩ = some (.string (⟨#[]⟩ : ByteArray)) := (blk_cell BK161.out 0).trans rfl
 have hfs61 := blk_frozen BK161.out 0
 have hns61_0 := NB159_161.out
 have hns61_1 := NB160_161.out
 have hns61_3 := NB171_161.out
 have hns61_4 := NB172_161.out
 have hms61_0 := NB161_159.out
 have hms61_1 := NB161_160.out
 have hms61_3 := NB161_171.out
 have hms61_4 := NB161_172.out
 have hs62 : w55.cell? ⟨gb161, 1, none⟩ = some (.bool false) := (blk_cell BK161.out 1).trans rfl
 have hfs62 := blk_frozen BK161.out 1
 have hns62_0 := NB159_161.out
 have hns62_1 := NB160_161.out
 have hns62_3 := NB171_161.out
 have hns62_4 := NB172_161.out
 have hms62_0 := NB161_159.out
 have hms62_1 := NB161_160.out
 have hms62_3 := NB161_171.out
 have hms62_4 := NB161_172.out
 refine skip_ (w1 := ?_) (by rfl) rfl ?_ ?_
 rotate_left
 ·go_simp
  rfl
 refine hK.out _ _ ⟨(Kj_ NB172_161 ((Kj_ NB172_161 (hHeld.1)))), (Kj_ NB172_161 ((Kj_ NB172_161 (hHeld.2.1)))), (Kj_ NB172_161 ((Kj_ NB172_161 (hHeld.2.2.1)))), (Kj_ NB172_161 ((Kj_ NB172_161 (hHeld.2.2.2.1)))), (Kj_ NB172_161 ((Kj_ NB172_161 (hHeld.2.2.2.2.1)))), (Kj_ NB159_161 ((Kj_ NB159_161 (hHeld.2.2.2.2.2.1)))), (Kj_ NB159_161 ((Kj_ NB159_161 (hHeld.2.2.2.2.2.2))))⟩ (fun hHeld => ?_)
 clear hK K
 refine done_ (by kernel_rfl) ?_
 try go_wp2
 refine bodyPost_ret (results_cc rfl _ _ gb160 gb161 30 97 #[.int .u64 t165, .int .u64 t166, .int .u64 t167, .int .u64 t168, .int .i64 (wrap64 (t162))] #[.string t169, .bool false] (0, 0) (0, 0) _ _ rfl (by (repeat (first | (with_reducible first | refine blk_drewN ?_ _ | refine blk_drew ?_ | refine blk_alloc ?_ _) | refine blk_far ?_ NB160_161.out _)); refine blk_put (cs := #[.int .u64 t165, .int .u64 t166, .int .u64 t167, .int .u64 t168, .int .i64 0]) ?_ 4 _ rfl; refine Kv_ ?_; refine blk_put (cs := #[.int .u64 t165, .int .u64 t166, .int .u64 t167, .int .u64 0, .int .i64 0]) ?_ 3 _ rfl; refine Kv_ ?_; refine blk_put (cs := #[.int .u64 t165, .int .u64 t166, .int .u64 0, .int .u64 0, .int .i64 0]) ?_ 2 _ rfl; refine Kv_ ?_; refine blk_put (cs := #[.int .u64 t165, .int .u64 0, .int .u64 0, .int .u64 0, .int .i64 0]) ?_ 1 _ rfl; refine Kv_ ?_; refine blk_put (cs := #[.int .u64 0, .int .u64 0, .int .u64 0, .int .u64 0, .int .i64 0]) ?_ 0 _ rfl; exact Kq_ BK160) Try.underlying30 rfl (by kernel_rfl) rfl (by refine Kv_ ?_; refine blk_put (cs := #[.string t169, .bool false]) ?_ 1 _ rfl; refine Kv_ ?_; refine blk_put (cs := #[.string (⟨#[]⟩ : ByteArray), .bool false]) ?_ 0 _ rfl; exact K1b_ BK161 NB161_160) Try.underlying97 rfl (by kernel_rfl)) rfl ?_
 exact ⟨Kh_, by repeat (first | (with_reducible first | exact HB.out | apply below_alloc | apply pw_below_drewN | apply below_drew1 | refine below_set ?_ GE159.out | refine below_set ?_ GE160.out | refine below_set ?_ GE161.out | refine below_set ?_ GE171.out | refine below_set ?_ GE172.out) | exact HB.out)⟩
def pack_Reader_Text.f (k : Nat) (a0_0 : ByteArray) (a0_1 : Bool) (a1 : Int) : Option (ByteArray × ByteArray × Bool) := (pack_Reader_Vary.f k a0_0 a0_1).bind fun bt176 => (if bt176.2.2 = true then ((pack_bad.f).bind fun bt179 => (some ((⟨#[]⟩ : ByteArray), bt179.1, bt179.2))) else (if a1 < 0 then ((pack_bad.f).bind fun bt181 => (some ((⟨#[]⟩ : ByteArray), bt181.1, bt181.2))) else (if bt176.1 > (IntKind.u64.wrap (mn a1 (bt176.2.1.size : Int))) then ((pack_bad.f).bind fun bt183 => (some ((⟨#[]⟩ : ByteArray), bt183.1, bt183.2))) else (if 0 ≤ bt176.1 then (if bt176.1 ≤ (bt176.2.1.size : Int) then (some (bt176.2.1.extract 0 (bt176.1 : Int).toNat, bt176.2.1.extract (bt176.1 : Int).toNat bt176.2.1.size, false)) else (none)) else (none)))))
theorem pack_Reader_Text.mono : ∀ a0 a1 a2 k, LeO (pack_Reader_Text.f k a0 a1 a2) (pack_Reader_Text.f (k + 1) a0 a1 a2) := by
 intro a0 a1 a2 k
 unfold pack_Reader_Text.f
 repeat' first
   | (with_reducible exact pack_Reader_Vary.mono _ _ _)
   | (with_reducible exact LeO.refl _)
   | (with_reducible exact LeO.none _)
   | (with_reducible refine LeO.ite ?_ ?_)
   | (with_reducible refine LeO.bind ?_ (fun _ => ?_))
   | exact pack_Reader_Vary.mono _ _ _
   | exact LeO.none _
   | refine LeO.ite ?_ ?_
   | refine LeO.bind ?_ (fun _ => ?_)
def pack_Reader_Text.T4 : Bool × List (List Nat × List Nat) := (true, [([], []), ([0], [0]), ([], []), ([1, 2], [1, 2]), ([], []), ([4], [4]), ([], []), ([5, 6], [5, 6]), ([7], [7]), ([3, 0, 1, 2, 3], [3]), ([8, 9, 0, 1, 2, 3, 4, 5, 6, 7, 8, 9], [8])])
def pack_Reader_Text.B4 : List Nat := [0, 1, 0, 7, 0, 16, 0, 112, 240, 15, 1023]
theorem pack_Reader_Text.tab4 : rtab .any (opsOf Try.f54 4) = pack_Reader_Text.T4 := by kernel_rfl
theorem pack_Reader_Text.bits4 : waitsOk pack_Reader_Text.T4.2 pack_Reader_Text.B4 = true := by kernel_rfl
set_option maxHeartbeats 8000000 in
set_option maxRecDepth 100000 in
theorem pack_Reader_Text.calls (k : Nat) (a0_0 : ByteArray) (a0_1 : Bool) (a1 : Int) (r1 : ByteArray) (r2 : ByteArray) (r3 : Bool) (w : World) (h : pack_Reader_Text.f k a0_0 a0_1 a1 = some (r1, r2, r3)) :
  Calls Try.prog 54 #[.agg #[.string a0_0, .bool a0_1], .int .i64 a1] w fun e w' => e = .returned (.tuple #[.string r1, .agg #[.string r2, .bool r3]]) ∧ Below w.heap.size w w' := by
 have hu97 := Try.underlying97
 have HB := Aside0.mk (Below.refl w.heap.size w)
 have H : ((pack_Reader_Vary.f k a0_0 a0_1).bind fun bt176 => (if bt176.2.2 = true then ((pack_bad.f).bind fun bt179 => (some ((⟨#[]⟩ : ByteArray), bt179.1, bt179.2))) else (if a1 < 0 then ((pack_bad.f).bind fun bt181 => (some ((⟨#[]⟩ : ByteArray), bt181.1, bt181.2))) else (if bt176.1 > (IntKind.u64.wrap (mn a1 (bt176.2.1.size : Int))) then ((pack_bad.f).bind fun bt183 => (some ((⟨#[]⟩ : ByteArray), bt183.1, bt183.2))) else (if 0 ≤ bt176.1 then (if bt176.1 ≤ (bt176.2.1.size : Int) then (some (bt176.2.1.extract 0 (bt176.1 : Int).toNat, bt176.2.1.extract (bt176.1 : Int).toNat bt176.2.1.size, false)) else (none)) else (none)))))) = some (r1, r2, r3) := h
 clear h
 replace H := Option.bind_eq_some_iff.mp H
 obtain ⟨⟨t176, t177, t178⟩, A30, H⟩ := H
 replace H : (if t178 = true then ((pack_bad.f).bind fun bt179 => (some ((⟨#[]⟩ : ByteArray), bt179.1, bt179.2))) else (if a1 < 0 then ((pack_bad.f).bind fun bt181 => (some ((⟨#[]⟩ : ByteArray), bt181.1, bt181.2))) else (if t176 > (IntKind.u64.wrap (mn a1 (t177.size : Int))) then ((pack_bad.f).bind fun bt183 => (some ((⟨#[]⟩ : ByteArray), bt183.1, bt183.2))) else (if 0 ≤ t176 then (if t176 ≤ (t177.size : Int) then (some (t177.extract 0 (t176 : Int).toNat, t177.extract (t176 : Int).toNat t177.size, false)) else (none)) else (none))))) = some (r1, r2, r3) := H
 have A3 := Aside0.mk A30
 clear A30
 by_cases c4 : t178 = true
 ·subst c4
  have H1 : ((pack_bad.f).bind fun bt179 => (some ((⟨#[]⟩ : ByteArray), bt179.1, bt179.2))) = some (r1, r2, r3) := by rw [if_pos rfl] at H; exact H
  clear H
  have H := H1
  clear H1
  replace H := Option.bind_eq_some_iff.mp H
  obtain ⟨⟨t179, t180⟩, A50, H⟩ := H
  replace H : (some ((⟨#[]⟩ : ByteArray), t179, t180)) = some (r1, r2, r3) := H
  have A5 := Aside0.mk A50
  clear A50
  simp only [Option.some.injEq, Prod.mk.injEq] at H
  obtain ⟨rfl, rfl, rfl⟩ := H
  go_enter Try.func54, Try.ntmps54
  go_wp2_with (first | ((with_reducible refine gate_dst (N := 2) rfl ?_); refine Ka_ 2 #[.string a0_0, .bool a0_1] 97 ?_; intro gb174 hg w6 hbox hb; have BK174 := Aside0.mk (hbox); have GW174 := Kw_ HB hg; have GE174 := GW174; replace HB := Ks_ HB hb; clear hb hbox hg) | ((with_reducible refine gate_dst (N := 5) rfl ?_); refine Ka_ 5 #[.string (⟨#[]⟩ : ByteArray), .bool false] 97 ?_; intro gb175 hg w7 hbox hb; have BK175 := Aside0.mk (hbox); have GW175 := Kw_ HB hg; have GE175 := GW175; have NB174_175 := Kl_ BK174 hg; have NB175_174 := Kr_ BK174 hg; replace BK174 := Kb_ BK174 hb; replace HB := Ks_ HB hb; clear hb hbox hg; have hnb8 := NB174_175.out; have hnc8 := NB175_174.out; obtain ⟨hcz9_0, hcz9_1, hfz9_0, hfz9_1⟩ := Ke2_ BK174.out) | ((with_reducible refine gate_callee (f := 72) rfl ?_); refine Kg_ (some 9) rfl rfl Try.func72 (by kernel_rfl) rfl #[.agg #[.string a0_0, .bool a0_1]] rfl ?_; (with_reducible refine (pack_Reader_Vary.calls k a0_0 a0_1 t176 t177 true _ A3.out).mono ?_); rintro e w10 ⟨rfl, hb⟩; refine ⟨_, rfl, ?_⟩; replace BK174 := Kb_ BK174 hb; replace BK175 := Kb_ BK175 hb; replace HB := Ks_ HB hb; (try clear hb); (try clear hb2); (try clear hk); (try clear hi); obtain ⟨hcz11_0, hcz11_1, hfz11_0, hfz11_1⟩ := Ke2_ BK174.out) | ((with_reducible refine gate_callee (f := 71) rfl ?_); refine Kg_ (some 28) rfl rfl Try.func71 (by kernel_rfl) rfl #[] rfl ?_; (with_reducible refine (pack_bad.calls  t179 t180 _ A5.out).mono ?_); rintro e w12 ⟨rfl, hb⟩; refine ⟨_, rfl, ?_⟩; replace BK174 := Aside0.mk (blk_below (g := gb174) (o := .cells #[.string t177, .bool true] 97 (0, 0)) (by refine Kv_ ?_; refine blk_put (cs := #[.string t177, .bool a0_1]) ?_ 1 _ rfl; refine Kv_ ?_; refine blk_put (cs := #[.string a0_0, .bool a0_1]) ?_ 0 _ rfl; exact Kq_ BK174) hb); replace BK175 := Kf_ BK175 NB175_174 hb; replace HB := Kt_ HB GE174 hb; (try clear hb); (try clear hb2); (try clear hk); (try clear hi); obtain ⟨hcz13_0, hcz13_1, hfz13_0, hfz13_1⟩ := Ke2_ BK175.out))
  refine bodyPost_ret (results_tc rfl _ _ gb175 97 #[.string t179, .bool t180] (0, 0) _ rfl (by refine Kv_ ?_; refine blk_put (cs := #[.string t179, .bool false]) ?_ 1 _ rfl; refine Kv_ ?_; refine blk_put (cs := #[.string (⟨#[]⟩ : ByteArray), .bool false]) ?_ 0 _ rfl; exact Kq_ BK175) Try.underlying97 rfl (by kernel_rfl)) rfl ?_
  exact ⟨Kh_, K2a_ HB GE174 GE175⟩
 replace c4 := Bool.eq_false_iff.mpr c4
 subst c4
 have H1 : (if a1 < 0 then ((pack_bad.f).bind fun bt181 => (some ((⟨#[]⟩ : ByteArray), bt181.1, bt181.2))) else (if t176 > (IntKind.u64.wrap (mn a1 (t177.size : Int))) then ((pack_bad.f).bind fun bt183 => (some ((⟨#[]⟩ : ByteArray), bt183.1, bt183.2))) else (if 0 ≤ t176 then (if t176 ≤ (t177.size : Int) then (some (t177.extract 0 (t176 : Int).toNat, t177.extract (t176 : Int).toNat t177.size, false)) else (none)) else (none)))) = some (r1, r2, r3) := by rw [if_neg (show ¬ (false = true) by decide)] at H; exact H
 clear H
 have H := H1
 clear H1
 by_cases c14 : a1 < 0
 ·rw [if_pos c14] at H
  have c14b0 : decide (a1 < 0) = true := decide_eq_true c14
  clear c14
  replace H := Option.bind_eq_some_iff.mp H
  obtain ⟨⟨t181, t182⟩, A150, H⟩ := H
  replace H : (some ((⟨#[]⟩ : ByteArray), t181, t182)) = some (r1, r2, r3) := H
  have A15 := Aside0.mk A150
  clear A150
  simp only [Option.some.injEq, Prod.mk.injEq] at H
  obtain ⟨rfl, rfl, rfl⟩ := H
  go_enter Try.func54, Try.ntmps54
  go_wp2_with (first | ((with_reducible refine gate_dst (N := 2) rfl ?_); refine Ka_ 2 #[.string a0_0, .bool a0_1] 97 ?_; intro gb174 hg w16 hbox hb; have BK174 := Aside0.mk (hbox); have GW174 := Kw_ HB hg; have GE174 := GW174; replace HB := Ks_ HB hb; clear hb hbox hg) | ((with_reducible refine gate_dst (N := 5) rfl ?_); refine Ka_ 5 #[.string (⟨#[]⟩ : ByteArray), .bool false] 97 ?_; intro gb175 hg w17 hbox hb; have BK175 := Aside0.mk (hbox); have GW175 := Kw_ HB hg; have GE175 := GW175; have NB174_175 := Kl_ BK174 hg; have NB175_174 := Kr_ BK174 hg; replace BK174 := Kb_ BK174 hb; replace HB := Ks_ HB hb; clear hb hbox hg; have hnb18 := NB174_175.out; have hnc18 := NB175_174.out; obtain ⟨hcz19_0, hcz19_1, hfz19_0, hfz19_1⟩ := Ke2_ BK174.out) | ((with_reducible refine gate_callee (f := 72) rfl ?_); refine Kg_ (some 9) rfl rfl Try.func72 (by kernel_rfl) rfl #[.agg #[.string a0_0, .bool a0_1]] rfl ?_; (with_reducible refine (pack_Reader_Vary.calls k a0_0 a0_1 t176 t177 false _ A3.out).mono ?_); rintro e w20 ⟨rfl, hb⟩; refine ⟨_, rfl, ?_⟩; replace BK174 := Kb_ BK174 hb; replace BK175 := Kb_ BK175 hb; replace HB := Ks_ HB hb; (try clear hb); (try clear hb2); (try clear hk); (try clear hi); obtain ⟨hcz21_0, hcz21_1, hfz21_0, hfz21_1⟩ := Ke2_ BK174.out) | ((with_reducible refine gate_callee (f := 71) rfl ?_); refine Kg_ (some 28) rfl rfl Try.func71 (by kernel_rfl) rfl #[] rfl ?_; (with_reducible refine (pack_bad.calls  t181 t182 _ A15.out).mono ?_); rintro e w22 ⟨rfl, hb⟩; refine ⟨_, rfl, ?_⟩; replace BK174 := Aside0.mk (blk_below (g := gb174) (o := .cells #[.string t177, .bool false] 97 (0, 0)) (by refine Kv_ ?_; refine blk_put (cs := #[.string t177, .bool a0_1]) ?_ 1 _ rfl; refine Kv_ ?_; refine blk_put (cs := #[.string a0_0, .bool a0_1]) ?_ 0 _ rfl; exact Kq_ BK174) hb); replace BK175 := Kf_ BK175 NB175_174 hb; replace HB := Kt_ HB GE174 hb; (try clear hb); (try clear hb2); (try clear hk); (try clear hi); obtain ⟨hcz23_0, hcz23_1, hfz23_0, hfz23_1⟩ := Ke2_ BK175.out))
  refine bodyPost_ret (results_tc rfl _ _ gb175 97 #[.string t181, .bool t182] (0, 0) _ rfl (by refine Kv_ ?_; refine blk_put (cs := #[.string t181, .bool false]) ?_ 1 _ rfl; refine Kv_ ?_; refine blk_put (cs := #[.string (⟨#[]⟩ : ByteArray), .bool false]) ?_ 0 _ rfl; exact Kq_ BK175) Try.underlying97 rfl (by kernel_rfl)) rfl ?_
  exact ⟨Kh_, K2a_ HB GE174 GE175⟩
 rw [if_neg c14] at H
 have c14b0 : decide (a1 < 0) = false := decide_eq_false c14
 clear c14
 obtain ⟨ji24, hji24⟩ : ∃ j_ : Int, (mn a1 (t177.size : Int)) = j_ := ⟨_, rfl⟩
 replace H : (if t176 > (IntKind.u64.wrap (ji24)) then ((pack_bad.f).bind fun bt183 => (some ((⟨#[]⟩ : ByteArray), bt183.1, bt183.2))) else (if 0 ≤ t176 then (if t176 ≤ (t177.size : Int) then (some (t177.extract 0 (t176 : Int).toNat, t177.extract (t176 : Int).toNat t177.size, false)) else (none)) else (none))) = some (r1, r2, r3) := by first | (rw [hji24] at H; exact H) | (simp only [hji24] at H ⊢; exact H)
 (try rw [hji24] at A3)
 have hji24_ : (if (t177.size : Int) < a1 then (t177.size : Int) else a1) = ji24 := hji24
 by_cases c25 : t176 > (IntKind.u64.wrap (ji24))
 ·rw [if_pos c25] at H
  have c25b0 : decide ((IntKind.u64.wrap (ji24)) < t176) = true := decide_eq_true c25
  clear c25
  replace H := Option.bind_eq_some_iff.mp H
  obtain ⟨⟨t183, t184⟩, A260, H⟩ := H
  replace H : (some ((⟨#[]⟩ : ByteArray), t183, t184)) = some (r1, r2, r3) := H
  have A26 := Aside0.mk A260
  clear A260
  simp only [Option.some.injEq, Prod.mk.injEq] at H
  obtain ⟨rfl, rfl, rfl⟩ := H
  go_enter Try.func54, Try.ntmps54
  go_wp2_with (first | ((with_reducible refine gate_dst (N := 2) rfl ?_); refine Ka_ 2 #[.string a0_0, .bool a0_1] 97 ?_; intro gb174 hg w27 hbox hb; have BK174 := Aside0.mk (hbox); have GW174 := Kw_ HB hg; have GE174 := GW174; replace HB := Ks_ HB hb; clear hb hbox hg) | ((with_reducible refine gate_dst (N := 5) rfl ?_); refine Ka_ 5 #[.string (⟨#[]⟩ : ByteArray), .bool false] 97 ?_; intro gb175 hg w28 hbox hb; have BK175 := Aside0.mk (hbox); have GW175 := Kw_ HB hg; have GE175 := GW175; have NB174_175 := Kl_ BK174 hg; have NB175_174 := Kr_ BK174 hg; replace BK174 := Kb_ BK174 hb; replace HB := Ks_ HB hb; clear hb hbox hg; have hnb29 := NB174_175.out; have hnc29 := NB175_174.out; obtain ⟨hcz30_0, hcz30_1, hfz30_0, hfz30_1⟩ := Ke2_ BK174.out) | ((with_reducible refine gate_callee (f := 72) rfl ?_); refine Kg_ (some 9) rfl rfl Try.func72 (by kernel_rfl) rfl #[.agg #[.string a0_0, .bool a0_1]] rfl ?_; (with_reducible refine (pack_Reader_Vary.calls k a0_0 a0_1 t176 t177 false _ A3.out).mono ?_); rintro e w31 ⟨rfl, hb⟩; refine ⟨_, rfl, ?_⟩; replace BK174 := Kb_ BK174 hb; replace BK175 := Kb_ BK175 hb; replace HB := Ks_ HB hb; (try clear hb); (try clear hb2); (try clear hk); (try clear hi); obtain ⟨hcz32_0, hcz32_1, hfz32_0, hfz32_1⟩ := Ke2_ BK174.out) | ((with_reducible refine gate_callee (f := 71) rfl ?_); refine Kg_ (some 28) rfl rfl Try.func71 (by kernel_rfl) rfl #[] rfl ?_; (with_reducible refine (pack_bad.calls  t183 t184 _ A26.out).mono ?_); rintro e w33 ⟨rfl, hb⟩; refine ⟨_, rfl, ?_⟩; replace BK174 := Aside0.mk (blk_below (g := gb174) (o := .cells #[.string t177, .bool false] 97 (0, 0)) (by refine Kv_ ?_; refine blk_put (cs := #[.string t177, .bool a0_1]) ?_ 1 _ rfl; refine Kv_ ?_; refine blk_put (cs := #[.string a0_0, .bool a0_1]) ?_ 0 _ rfl; exact Kq_ BK174) hb); replace BK175 := Kf_ BK175 NB175_174 hb; replace HB := Kt_ HB GE174 hb; (try clear hb); (try clear hb2); (try clear hk); (try clear hi); obtain ⟨hcz34_0, hcz34_1, hfz34_0, hfz34_1⟩ := Ke2_ BK175.out))
  refine bodyPost_ret (results_tc rfl _ _ gb175 97 #[.string t183, .bool t184] (0, 0) _ rfl (by refine Kv_ ?_; refine blk_put (cs := #[.string t183, .bool false]) ?_ 1 _ rfl; refine Kv_ ?_; refine blk_put (cs := #[.string (⟨#[]⟩ : ByteArray), .bool false]) ?_ 0 _ rfl; exact Kq_ BK175) Try.underlying97 rfl (by kernel_rfl)) rfl ?_
  exact ⟨by first | rfl | (simp [errW_none, errW_some] <;> rfl) | (simp only [← hji24]; first | rfl | (simp [errW_none, errW_some] <;> rfl)) | (simp [*, errW_none, errW_some] <;> rfl), K2a_ HB GE174 GE175⟩
 rw [if_neg c25] at H
 have c25b0 : decide ((IntKind.u64.wrap (ji24)) < t176) = false := decide_eq_false c25
 clear c25
 by_cases c35 : 0 ≤ t176
 rotate_left
 ·rw [if_neg c35] at H
  exact absurd H (by simp)
 rw [if_pos c35] at H
 have c35b0 := eq_true c35
 have c35b1 : decide (0 ≤ t176) = true := decide_eq_true c35
 clear c35
 by_cases c36 : t176 ≤ (t177.size : Int)
 rotate_left
 ·rw [if_neg c36] at H
  exact absurd H (by simp)
 rw [if_pos c36] at H
 have c36b0 := eq_true c36
 have c36b1 : decide (t176 ≤ (t177.size : Int)) = true := decide_eq_true c36
 clear c36
 have c37b0 := eq_true (of_decide_eq_true (by first | (with_reducible assumption) | assumption) : 0 ≤ t176)
 have c38b0 := eq_true (of_decide_eq_true (by first | (with_reducible assumption) | assumption) : t176 ≤ (t177.size : Int))
 simp only [Option.some.injEq, Prod.mk.injEq] at H
 obtain ⟨rfl, rfl, rfl⟩ := H
 go_enter Try.func54, Try.ntmps54
 try go_wp2_with (first | ((with_reducible refine gate_dst (N := 2) rfl ?_); refine Ka_ 2 #[.string a0_0, .bool a0_1] 97 ?_; intro gb174 hg w39 hbox hb; have BK174 := Aside0.mk (hbox); have GW174 := Kw_ HB hg; have GE174 := GW174; replace HB := Ks_ HB hb; clear hb hbox hg) | ((with_reducible refine gate_dst (N := 5) rfl ?_); refine Ka_ 5 #[.string (⟨#[]⟩ : ByteArray), .bool false] 97 ?_; intro gb175 hg w40 hbox hb; have BK175 := Aside0.mk (hbox); have GW175 := Kw_ HB hg; have GE175 := GW175; have NB174_175 := Kl_ BK174 hg; have NB175_174 := Kr_ BK174 hg; replace BK174 := Kb_ BK174 hb; replace HB := Ks_ HB hb; clear hb hbox hg; have hnb41 := NB174_175.out; have hnc41 := NB175_174.out; obtain ⟨hcz42_0, hcz42_1, hfz42_0, hfz42_1⟩ := Ke2_ BK174.out) | ((with_reducible refine gate_callee (f := 72) rfl ?_); refine Kg_ (some 9) rfl rfl Try.func72 (by kernel_rfl) rfl #[.agg #[.string a0_0, .bool a0_1]] rfl ?_; (with_reducible refine (pack_Reader_Vary.calls k a0_0 a0_1 t176 t177 false _ A3.out).mono ?_); rintro e w43 ⟨rfl, hb⟩; refine ⟨_, rfl, ?_⟩; replace BK174 := Kb_ BK174 hb; replace BK175 := Kb_ BK175 hb; replace HB := Ks_ HB hb; (try clear hb); (try clear hb2); (try clear hk); (try clear hi); obtain ⟨hcz44_0, hcz44_1, hfz44_0, hfz44_1⟩ := Ke2_ BK174.out))
 have n0_ : Aside0 (((w43.setCell ⟨gb174, 0, none⟩ (.string t177)).setCell ⟨gb174, 1, none⟩ (.bool false)).heap[gb174]? = some (.cells #[.string t177, .bool false] 97 (0, 0))) := ⟨by refine Kv_ ?_; refine blk_put (cs := #[.string t177, .bool a0_1]) ?_ 1 _ rfl; refine Kv_ ?_; refine blk_put (cs := #[.string a0_0, .bool a0_1]) ?_ 0 _ rfl; exact Kq_ BK174⟩
 have n1_ : Aside0 (((w43.setCell ⟨gb174, 0, none⟩ (.string t177)).setCell ⟨gb174, 1, none⟩ (.bool false)).heap[gb175]? = some (.cells #[.string (⟨#[]⟩ : ByteArray), .bool false] 97 (0, 0))) := ⟨by exact K1b_ BK175 NB175_174⟩
 have n2_ : Aside0 (Below w.heap.size w ((w43.setCell ⟨gb174, 0, none⟩ (.string t177)).setCell ⟨gb174, 1, none⟩ (.bool false))) := ⟨K2a_ HB GE174 GE175⟩
 (try clear BK174)
 (try clear BK175)
 (try clear HB)
 generalize ((w43.setCell ⟨gb174, 0, none⟩ (.string t177)).setCell ⟨gb174, 1, none⟩ (.bool false)) = w45 at n0_ n1_ n2_ ⊢
 have BK174 := n0_
 have BK175 := n1_
 have HB := n2_
 clear n0_ n1_ n2_
 replace BK174 := Kd_ BK174
 replace BK175 := Kd_ BK175
 replace HB := Aside0.mk (below_drew1 HB.out)
 refine start_ (n := 11) (S := fun w' => w'.cell? ⟨gb174, 0, none⟩ = some (.string t177) ∧ w'.cell? ⟨gb174, 1, none⟩ = some (.bool false)) (ds := []) (mB_ 11 0) (by kernel_rfl) rfl rfl (Kc2_ BK174.out) (fun hHeld => ?_); refine with_tabW pack_Reader_Text.tab4 pack_Reader_Text.bits4 (fun HT_ HW_ => ?_)
 generalize w45.drew = w46 at BK174 BK175 HB hHeld ⊢
 refine Kp_ 0 29 (mB_ 11 1) (any_of HT_.out (by kernel_rfl)) ?_
 refine Kp_ 2 31 (mB_ 11 5) (any_of HT_.out (by kernel_rfl)) ?_
 refine Kp_ 4 33 (mB_ 11 21) (any_of HT_.out (by kernel_rfl)) ?_
 refine Kp_ 6 35 (mB_ 11 85) (any_of HT_.out (by kernel_rfl)) ?_
 refine Ko_ 1 30 (mB_ 11 87) (take_ofW HT_.out HW_.out (by kernel_rfl)) hHeld ?_
 refine Kp_ 3 32 (mB_ 11 95) (any_of HT_.out (by kernel_rfl)) ?_
 refine Kp_ 9 4 (mB_ 11 607) (any_of HT_.out (by kernel_rfl)) ?_
 refine Ko_ 5 34 (mB_ 11 639) (take_ofW HT_.out HW_.out (by kernel_rfl)) hHeld ?_
 refine Kp_ 7 36 (mB_ 11 767) (any_of HT_.out (by kernel_rfl)) ?_
 refine Kp_ 8 37 (mB_ 11 1023) (any_of HT_.out (by kernel_rfl)) ?_
 refine one_ (i := 10) (N := none) (mB_ 11 2047) rfl rfl (one_of HT_.out (by kernel_rfl)) (by decide) (fun K hK => ?_)
 have hs47 : w46.cell? ⟨gb175, 0, none⟩ = some (.string (⟨#[]⟩ : ByteArray)) := (blk_cell BK175.out 0).trans rfl
 have hfs47 := blk_frozen BK175.out 0
 have hns47_0 := NB174_175.out
 have hms47_0 := NB175_174.out
 have hs48 : w46.cell? ⟨gb175, 1, none⟩ = some (.bool false) := (blk_cell BK175.out 1).trans rfl
 have hfs48 := blk_frozen BK175.out 1
 have hns48_0 := NB174_175.out
 have hms48_0 := NB175_174.out
 refine skip_ (w1 := ?_) (by rfl) rfl ?_ ?_
 rotate_left
 ·go_simp
  rfl
 refine hK.out _ _ ⟨(Kj_ NB174_175 ((Kj_ NB174_175 (hHeld.1)))), (Kj_ NB174_175 ((Kj_ NB174_175 (hHeld.2))))⟩ (fun hHeld => ?_)
 clear hK K
 refine done_ (done_of HT_.out (by kernel_rfl)) ?_
 try go_wp2
 refine bodyPost_ret (results_tc rfl _ _ gb175 97 #[.string (t177.extract (t176 : Int).toNat t177.size), .bool false] (0, 0) _ rfl (by refine Kv_ ?_; refine blk_put (cs := #[.string (t177.extract (t176 : Int).toNat t177.size), .bool false]) ?_ 1 _ rfl; refine Kv_ ?_; refine blk_put (cs := #[.string (⟨#[]⟩ : ByteArray), .bool false]) ?_ 0 _ rfl; exact Kq_ BK175) Try.underlying97 rfl (by kernel_rfl)) rfl ?_
 exact ⟨by first | rfl | (simp [errW_none, errW_some] <;> rfl) | (simp only [← hji24]; first | rfl | (simp [errW_none, errW_some] <;> rfl)) | (simp [*, errW_none, errW_some] <;> rfl), K2a_ HB GE174 GE175⟩
end Go.Proofs.Ytoogchgoiciggaa.Q
