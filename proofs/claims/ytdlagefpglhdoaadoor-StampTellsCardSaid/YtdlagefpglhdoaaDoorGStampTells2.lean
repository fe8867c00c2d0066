import Derived.Test.YtdlagefpglhdoaaDoorQx0
import Derived.Test.YtdlagefpglhdoaaDoorGStampTells0
-- Written by this session's own driver (wip/hybrid.py) of the kit's printer; contracts marked FOREIGN are by hand.
namespace Go.Proofs.YtdlagefpglhdoaaDoor.Q
open Go.RowKit Go.Proofs.YtdlagefpglhdoaaDoorW.PrintWords Go.Proofs.YtdlagefpglhdoaaDoorW.PrintLast Go.Proofs.YtdlagefpglhdoaaDoorW.PrintMore
attribute [local go_sem] max2_int min2_int max_two min_two max_three min_three max_four min_four   -- for this text's walks alone
set_option linter.unusedVariables false
set_option linter.unusedSimpArgs false

/-! ### pack_bad: function 71 -/
def pack_bad.f  : Option (ByteArray × Bool) := some ((⟨#[]⟩ : ByteArray), true)
set_option maxHeartbeats 8000000 in
set_option maxRecDepth 100000 in
theorem pack_bad.calls  (r1 : ByteArray) (r2 : Bool) (w : World) (h : pack_bad.f  = some (r1, r2)) :
    Calls Tryd.prog 71 #[] w fun e w' => e = .returned (.agg #[.string r1, .bool r2]) ∧ Below w.heap.size w w' := by
  have hu55 := Tryd.underlying55
  have HB := Aside0.mk (Below.refl w.heap.size w)
  have H : (some ((⟨#[]⟩ : ByteArray), true)) = some (r1, r2) := h
  clear h
  simp only [Option.some.injEq, Prod.mk.injEq] at H
  obtain ⟨rfl, rfl⟩ := H
  go_enter Tryd.func71, Tryd.ntmps71
  go_wp2_with (first | ((with_reducible refine gate_dst (N := 0) rfl ?_); refine box_event ?hg (N := 0) ?hd (cs := #[.string (⟨#[]⟩ : ByteArray), .bool false]) (t := 55) ?hr ?_; (case hd => rfl); (case hg => rfl); (case hr => first | (go_simp; done) | (go_simp; rfl)); intro gb159 hg w1 hbox hb; have BK159 := Aside0.mk (hbox); have GW159 := Kw_ HB hg; have GE159 := GW159; replace HB := Ks_ HB hb; clear hb hbox hg; obtain ⟨hcz2_0, hcz2_1, hfz2_0, hfz2_1⟩ := Ke2_ BK159.out))
  refine bodyPost_ret (results_cell_row rfl _ _ gb159 55 #[.string (⟨#[]⟩ : ByteArray), .bool true] (0, 0) _ rfl (by (with_reducible repeat (first | refine blk_drewN ?_ _ | refine blk_drew ?_ | refine blk_alloc ?_ _)); refine blk_put (cs := #[.string (⟨#[]⟩ : ByteArray), .bool false]) ?_ 1 _ rfl; (with_reducible repeat (first | refine blk_drewN ?_ _ | refine blk_drew ?_ | refine blk_alloc ?_ _)); refine blk_put (cs := #[.string (⟨#[]⟩ : ByteArray), .bool false]) ?_ 0 _ rfl; (with_reducible repeat (first | refine blk_drewN ?_ _ | refine blk_drew ?_ | refine blk_alloc ?_ _)); exact BK159.out) Tryd.underlying55 rfl (by kernel_rfl)) rfl ?_
  exact ⟨by first | rfl | (simp [errW_none, errW_some] <;> rfl) | (simp [*, errW_none, errW_some] <;> rfl), Kz_ HB GE159⟩

end Go.Proofs.YtdlagefpglhdoaaDoor.Q

-- Written by this session's own driver (wip/hybrid.py) of the kit's printer; contracts marked FOREIGN are by hand.
namespace Go.Proofs.YtdlagefpglhdoaaDoor.Q
open Go.RowKit Go.Proofs.YtdlagefpglhdoaaDoorW.PrintWords Go.Proofs.YtdlagefpglhdoaaDoorW.PrintLast Go.Proofs.YtdlagefpglhdoaaDoorW.PrintMore
attribute [local go_sem] max2_int min2_int max_two min_two max_three min_three max_four min_four   -- for this text's walks alone
set_option linter.unusedVariables false
set_option linter.unusedSimpArgs false

/-! ### pack_Reader_Vary: function 72 -/
def pack_Reader_Vary.l0 : Nat → Int → Int → Int → ByteArray → Bool → Option (Int × ByteArray × Bool)
  | 0, _, _, _, _, _ => none
  | k + 1, x4, x13, x14, x161000, x161001 => if x14 < x13 then (if 0 ≤ x14 then (if x14 < (x161000.size : Int) then (if 0 ≤ (wrap64 (7 * x14)) then (if (bt x161000 x14) ≥ 128 then (pack_Reader_Vary.l0 k (Go.bits .or .u64 x4 (shl .u64 (IntKind.u64.wrap (Go.bits .and .u8 (bt x161000 x14) 127)) (wrap64 (7 * x14)))) x13 (wrap64 (x14 + 1)) x161000 x161001) else (if 0 ≤ (wrap64 (x14 + 1)) then (if (wrap64 (x14 + 1)) ≤ (x161000.size : Int) then ((pack_Vary.f k (Go.bits .or .u64 x4 (shl .u64 (IntKind.u64.wrap (Go.bits .and .u8 (bt x161000 x14) 127)) (wrap64 (7 * x14))))).bind fun t166 => (if (x161000.extract 0 ((wrap64 (x14 + 1)) : Int).toNat).toList = t166.toList then (some (Go.bits .or .u64 x4 (shl .u64 (IntKind.u64.wrap (Go.bits .and .u8 (bt x161000 x14) 127)) (wrap64 (7 * x14))), x161000.extract ((wrap64 (x14 + 1)) : Int).toNat x161000.size, false)) else ((pack_bad.f).bind fun bt167 => (some (0, bt167.1, bt167.2))))) else (none)) else (none))) else (none)) else (none)) else (none)) else ((pack_bad.f).bind fun bt164 => (some (0, bt164.1, bt164.2)))
def pack_Reader_Vary.f (k : Nat) (a0_0 : ByteArray) (a0_1 : Bool) : Option (Int × ByteArray × Bool) := if a0_1 = true then ((pack_bad.f).bind fun bt162 => (some (0, bt162.1, bt162.2))) else (pack_Reader_Vary.l0 k 0 (mn (a0_0.size : Int) 10) 0 a0_0 a0_1)
theorem pack_Reader_Vary.mono_l : ∀ k, (∀ y0 y1 y2 y3 y4, LeO (pack_Reader_Vary.l0 k y0 y1 y2 y3 y4) (pack_Reader_Vary.l0 (k + 1) y0 y1 y2 y3 y4))
  | 0 => fun _ _ _ _ _ r h => by simp [pack_Reader_Vary.l0] at h
  | k + 1 => by
    have ih0 := pack_Reader_Vary.mono_l k
    · intro y0 y1 y2 y3 y4
      unfold pack_Reader_Vary.l0
      repeat' first
      | (with_reducible exact ih0 _ _ _ _ _)
      | (with_reducible exact pack_Vary.mono _ _)
      | (with_reducible exact LeO.refl _)
      | (with_reducible exact LeO.none _)
      | (with_reducible refine LeO.ite ?_ ?_)
      | (with_reducible refine LeO.bind ?_ (fun _ => ?_))
      | exact ih0 _ _ _ _ _
      | exact pack_Vary.mono _ _
      | exact LeO.none _
      | refine LeO.ite ?_ ?_
      | refine LeO.bind ?_ (fun _ => ?_)
theorem pack_Reader_Vary.mono : ∀ a0 a1 k, LeO (pack_Reader_Vary.f k a0 a1) (pack_Reader_Vary.f (k + 1) a0 a1) := by
  intro a0 a1 k
  have ih0 := pack_Reader_Vary.mono_l k
  unfold pack_Reader_Vary.f
  repeat' first
      | (with_reducible exact ih0 _ _ _ _ _)
      | (with_reducible exact pack_Vary.mono _ _)
      | (with_reducible exact LeO.refl _)
      | (with_reducible exact LeO.none _)
      | (with_reducible refine LeO.ite ?_ ?_)
      | (with_reducible refine LeO.bind ?_ (fun _ => ?_))
      | exact ih0 _ _ _ _ _
      | exact pack_Vary.mono _ _
      | exact LeO.none _
      | refine LeO.ite ?_ ?_
      | refine LeO.bind ?_ (fun _ => ?_)
def pack_Reader_Vary.T10 : Bool × List (List Nat × List Nat) := (true, [([], []), ([0], [0]), ([], []), ([2], [2]), ([1, 3], [1, 3]), ([], []), ([5], [5]), ([4, 6], [4, 6])])
def pack_Reader_Vary.B10 : List Nat := [0, 1, 0, 4, 15, 0, 32, 127]
theorem pack_Reader_Vary.tab10 : rtab .any (opsOf Tryd.f72 10) = pack_Reader_Vary.T10 := by kernel_rfl
theorem pack_Reader_Vary.bits10 : waitsOk pack_Reader_Vary.T10.2 pack_Reader_Vary.B10 = true := by kernel_rfl
def pack_Reader_Vary.T11 : Bool × List (List Nat × List Nat) := (true, [([], []), ([], []), ([1], [1]), ([], []), ([3], [3]), ([2, 4], [2, 4]), ([5], [5]), ([0, 0], [0]), ([6, 7, 0, 1, 2, 3, 4, 5, 6, 7], [6])])
def pack_Reader_Vary.B11 : List Nat := [0, 0, 2, 0, 8, 30, 62, 1, 255]
theorem pack_Reader_Vary.tab11 : rtab .any (opsOf Tryd.f72 11) = pack_Reader_Vary.T11 := by kernel_rfl
theorem pack_Reader_Vary.bits11 : waitsOk pack_Reader_Vary.T11.2 pack_Reader_Vary.B11 = true := by kernel_rfl
set_option maxHeartbeats 8000000 in
set_option maxRecDepth 100000 in
theorem pack_Reader_Vary.calls (k : Nat) (a0_0 : ByteArray) (a0_1 : Bool) (r1 : Int) (r2 : ByteArray) (r3 : Bool) (w : World) (h : pack_Reader_Vary.f k a0_0 a0_1 = some (r1, r2, r3)) :
    Calls Tryd.prog 72 #[.agg #[.string a0_0, .bool a0_1]] w fun e w' => e = .returned (.tuple #[.int .u64 r1, .agg #[.string r2, .bool r3]]) ∧ Below w.heap.size w w' := by
  have hu55 := Tryd.underlying55
  have HB := Aside0.mk (Below.refl w.heap.size w)
  have H : (if a0_1 = true then ((pack_bad.f).bind fun bt162 => (some (0, bt162.1, bt162.2))) else (pack_Reader_Vary.l0 k 0 (mn (a0_0.size : Int) 10) 0 a0_0 a0_1)) = some (r1, r2, r3) := h
  clear h
  by_cases c2 : a0_1 = true
  · subst c2
    have H1 : ((pack_bad.f).bind fun bt162 => (some (0, bt162.1, bt162.2))) = some (r1, r2, r3) := by rw [if_pos rfl] at H; exact H
    clear H
    have H := H1
    clear H1
    replace H := Option.bind_eq_some_iff.mp H
    obtain ⟨⟨t162, t163⟩, A30, H⟩ := H
    replace H : (some (0, t162, t163)) = some (r1, r2, r3) := H
    have A3 := Aside0.mk A30
    clear A30
    simp only [Option.some.injEq, Prod.mk.injEq] at H
    obtain ⟨rfl, rfl, rfl⟩ := H
    go_enter Tryd.func72, Tryd.ntmps72
    go_wp2_with (first | ((with_reducible refine gate_dst (N := 1) rfl ?_); refine box_event ?hg (N := 1) ?hd (cs := #[.string a0_0, .bool true]) (t := 55) ?hr ?_; (case hd => rfl); (case hg => rfl); (case hr => first | (go_simp; done) | (go_simp; rfl)); intro gb160 hg w4 hbox hb; have BK160 := Aside0.mk (hbox); have GW160 := Kw_ HB hg; have GE160 := GW160; replace HB := Ks_ HB hb; clear hb hbox hg) | ((with_reducible refine gate_dst (N := 3) rfl ?_); refine box_event ?hg (N := 3) ?hd (cs := #[.string (⟨#[]⟩ : ByteArray), .bool false]) (t := 55) ?hr ?_; (case hd => rfl); (case hg => rfl); (case hr => first | (go_simp; done) | (go_simp; rfl)); intro gb161 hg w5 hbox hb; have BK161 := Aside0.mk (hbox); have GW161 := Kw_ HB hg; have GE161 := GW161; have NB160_161 := Kl_ BK160 hg; have NB161_160 := Kr_ BK160 hg; replace BK160 := Kb_ BK160 hb; replace HB := Ks_ HB hb; clear hb hbox hg; have hnb6 := NB160_161.out; have hnc6 := NB161_160.out; obtain ⟨hcz7_0, hcz7_1, hfz7_0, hfz7_1⟩ := Ke2_ BK160.out) | ((with_reducible refine gate_callee (f := 71) rfl ?_); refine goesL_ (some 9) rfl rfl Tryd.func71 (by kernel_rfl) rfl #[] rfl (by (try simp only [List.map_toArray, List.map_cons, List.map_nil]); first | done | rfl | (simp only [List.length_drop, List.length_take]; rfl)) ?_; (with_reducible refine (pack_bad.calls  t162 t163 _ A3.out).mono ?_); rintro e w8 ⟨rfl, hb⟩; refine ⟨_, rfl, ?_⟩; replace BK160 := Kb_ BK160 hb; replace BK161 := Kb_ BK161 hb; replace HB := Ks_ HB hb; (try clear hb); (try clear hb2); (try clear hk); (try clear hi); obtain ⟨hcz9_0, hcz9_1, hfz9_0, hfz9_1⟩ := Ke2_ BK161.out))
    refine bodyPost_ret (results_tc rfl _ _ gb161 55 #[.string t162, .bool t163] (0, 0) _ rfl (by (with_reducible repeat (first | refine blk_drewN ?_ _ | refine blk_drew ?_ | refine blk_alloc ?_ _)); refine blk_put (cs := #[.string t162, .bool false]) ?_ 1 _ rfl; (with_reducible repeat (first | refine blk_drewN ?_ _ | refine blk_drew ?_ | refine blk_alloc ?_ _)); refine blk_put (cs := #[.string (⟨#[]⟩ : ByteArray), .bool false]) ?_ 0 _ rfl; (with_reducible repeat (first | refine blk_drewN ?_ _ | refine blk_drew ?_ | refine blk_alloc ?_ _)); exact BK161.out) Tryd.underlying55 rfl (by kernel_rfl)) rfl ?_
    exact ⟨by first | rfl | (simp [errW_none, errW_some] <;> rfl) | (simp [*, errW_none, errW_some] <;> rfl), by repeat (first | (with_reducible first | exact HB.out | apply below_alloc | apply pw_below_drewN | apply below_drew1 | refine below_set ?_ GE160.out | refine below_set ?_ GE161.out) | exact HB.out)⟩
  replace c2 := Bool.eq_false_iff.mpr c2
  subst c2
  have H1 : (pack_Reader_Vary.l0 k 0 (mn (a0_0.size : Int) 10) 0 a0_0 false) = some (r1, r2, r3) := by rw [if_neg (show ¬ (false = true) by decide)] at H; exact H
  clear H
  have H := H1
  clear H1
  obtain ⟨ji10, hji10⟩ : ∃ j_ : Int, (mn (a0_0.size : Int) 10) = j_ := ⟨_, rfl⟩
  replace H : (pack_Reader_Vary.l0 k 0 ji10 0 a0_0 false) = some (r1, r2, r3) := by first | (rw [hji10] at H; exact H) | (simp only [hji10] at H ⊢; exact H)
  (try (have hji10h : ji10 ≤ 10 := by (rw [← hji10]; unfold mn; (repeat' split) <;> omega)))
  (try (have hji10g : ji10 ≤ 64 := by omega))
  (try (have hji10l : 0 ≤ ji10 := by (rw [← hji10]; unfold mn; (repeat' split) <;> omega)))
  (try (have hji10m : 0 ≤ ji10 := by omega))
  have hji10_ : (if 10 < (a0_0.size : Int) then 10 else (a0_0.size : Int)) = ji10 := hji10
  have H' := Aside0.mk H
  clear H
  go_enter Tryd.func72, Tryd.ntmps72
  go_wp2_with (first | ((with_reducible refine gate_dst (N := 1) rfl ?_); refine box_event ?hg (N := 1) ?hd (cs := #[.string a0_0, .bool false]) (t := 55) ?hr ?_; (case hd => rfl); (case hg => rfl); (case hr => first | (go_simp; done) | (go_simp; rfl)); intro gb160 hg w11 hbox hb; have BK160 := Aside0.mk (hbox); have GW160 := Kw_ HB hg; have GE160 := GW160; replace HB := Ks_ HB hb; clear hb hbox hg) | ((with_reducible refine gate_dst (N := 3) rfl ?_); refine box_event ?hg (N := 3) ?hd (cs := #[.string (⟨#[]⟩ : ByteArray), .bool false]) (t := 55) ?hr ?_; (case hd => rfl); (case hg => rfl); (case hr => first | (go_simp; done) | (go_simp; rfl)); intro gb161 hg w12 hbox hb; have BK161 := Aside0.mk (hbox); have GW161 := Kw_ HB hg; have GE161 := GW161; have NB160_161 := Kl_ BK160 hg; have NB161_160 := Kr_ BK160 hg; replace BK160 := Kb_ BK160 hb; replace HB := Ks_ HB hb; clear hb hbox hg; have hnb13 := NB160_161.out; have hnc13 := NB161_160.out; obtain ⟨hcz14_0, hcz14_1, hfz14_0, hfz14_1⟩ := Ke2_ BK160.out))
  go_loopg [4, 14] k (fun kq v4 v14 w' => ∃ (x4_1 : Int) (x14_1 : Int) (x162000_1 : ByteArray) (x162001_1 : Bool), v4 = .int .u64 x4_1 ∧ v14 = .int .i64 x14_1 ∧ Aside0 (pack_Reader_Vary.l0 kq x4_1 ji10 x14_1 a0_0 false = some (r1, r2, r3)) ∧ Aside0 (kq ≤ k) ∧ Aside0 (w'.heap[gb160]? = some (.cells #[.string a0_0, .bool false] 55 (0, 0))) ∧ Aside0 (w'.heap[gb161]? = some (.cells #[.string x162000_1, .bool x162001_1] 55 (0, 0))) ∧ Aside0 (Below w.heap.size w w'))
  case atStart => exact ⟨(0), (0), ((⟨#[]⟩ : ByteArray)), (false), (by first | rfl | (simp; done) | (simp [*]; done)), (by first | rfl | (simp; done) | (simp [*]; done)), H', ⟨Nat.le_refl _⟩, ⟨by (with_reducible repeat (first | refine blk_drewN ?_ _ | refine blk_drew ?_ | refine blk_alloc ?_ _)); exact BK160.out⟩, ⟨by (with_reducible repeat (first | refine blk_drewN ?_ _ | refine blk_drew ?_ | refine blk_alloc ?_ _)); exact BK161.out⟩, ⟨by repeat (first | (with_reducible first | exact HB.out | apply below_alloc | apply pw_below_drewN | apply below_drew1 | refine below_set ?_ GE160.out | refine below_set ?_ GE161.out) | exact HB.out)⟩⟩
  case round =>
    clear H'
    try clear c1
    try clear c2
    try clear p2
    try clear c6
    try clear c7
    try clear c13
    try clear hcz14_0
    try clear hcz14_1
    try clear hcz7_0
    try clear hcz7_1
    try clear hcz9_0
    try clear hcz9_1
    try clear hfz14_0
    try clear hfz14_1
    try clear hfz7_0
    try clear hfz7_1
    try clear hfz9_0
    try clear hfz9_1
    obtain ⟨x4_1, x14_1, x162000_1, x162001_1, rfl, rfl, HA, HK1, BK160, BK161, HB⟩ := hrel
    cases gk with
    | zero => exact absurd HA.out (by simp [pack_Reader_Vary.l0])
    | succ k1 =>
      have H := HA.out
      clear HA
      simp only [pack_Reader_Vary.l0] at H
      by_cases c15 : x14_1 < ji10
      rotate_left
      · rw [if_neg c15] at H
        have c15b0 : decide (x14_1 < ji10) = false := decide_eq_false c15
        clear c15
        replace H := Option.bind_eq_some_iff.mp H
        obtain ⟨⟨t164, t165⟩, A460, H⟩ := H
        replace H : (some (0, t164, t165)) = some (r1, r2, r3) := H
        have A46 := Aside0.mk A460
        clear A460
        simp only [Option.some.injEq, Prod.mk.injEq] at H
        obtain ⟨rfl, rfl, rfl⟩ := H
        go_wp2_with (first | ((with_reducible refine gate_callee (f := 71) rfl ?_); refine goesL_ (some 47) rfl rfl Tryd.func71 (by kernel_rfl) rfl #[] rfl (by (try simp only [List.map_toArray, List.map_cons, List.map_nil]); first | done | rfl | (simp only [List.length_drop, List.length_take]; rfl)) ?_; (with_reducible refine (pack_bad.calls  t164 t165 _ A46.out).mono ?_); rintro e w47 ⟨rfl, hb⟩; refine ⟨_, rfl, ?_⟩; replace BK160 := Kb_ BK160 hb; replace BK161 := Kb_ BK161 hb; replace HB := Ks_ HB hb; (try clear hb); (try clear hb2); (try clear hk); (try clear hi); have hnb48 := NB161_160.out; have hnc48 := NB160_161.out; obtain ⟨hcz49_0, hcz49_1, hfz49_0, hfz49_1⟩ := Ke2_ BK161.out))
        refine bodyPost_ret (results_tc rfl _ _ gb161 55 #[.string t164, .bool t165] (0, 0) _ rfl (by (with_reducible repeat (first | refine blk_drewN ?_ _ | refine blk_drew ?_ | refine blk_alloc ?_ _)); refine blk_put (cs := #[.string t164, .bool x162001_1]) ?_ 1 _ rfl; (with_reducible repeat (first | refine blk_drewN ?_ _ | refine blk_drew ?_ | refine blk_alloc ?_ _)); refine blk_put (cs := #[.string x162000_1, .bool x162001_1]) ?_ 0 _ rfl; (with_reducible repeat (first | refine blk_drewN ?_ _ | refine blk_drew ?_ | refine blk_alloc ?_ _)); exact BK161.out) Tryd.underlying55 rfl (by kernel_rfl)) rfl ?_
        exact ⟨by first | rfl | (simp [errW_none, errW_some] <;> rfl) | (simp only [← hji10]; first | rfl | (simp [errW_none, errW_some] <;> rfl)) | (simp [*, errW_none, errW_some] <;> rfl), by repeat (first | (with_reducible first | exact HB.out | apply below_alloc | apply pw_below_drewN | apply below_drew1 | refine below_set ?_ GE160.out | refine below_set ?_ GE161.out) | exact HB.out)⟩
      rw [if_pos c15] at H
      have c15b0 : decide (x14_1 < ji10) = true := decide_eq_true c15
      clear c15
      by_cases c16 : 0 ≤ x14_1
      rotate_left
      · rw [if_neg c16] at H
        exact absurd H (by simp)
      rw [if_pos c16] at H
      have c16b0 : decide (0 ≤ x14_1) = true := decide_eq_true c16
      clear c16
      by_cases c17 : x14_1 < (a0_0.size : Int)
      rotate_left
      · rw [if_neg c17] at H
        exact absurd H (by simp)
      rw [if_pos c17] at H
      have c17b0 : decide (x14_1 < (a0_0.size : Int)) = true := decide_eq_true c17
      clear c17
      obtain ⟨ji19, hji19⟩ : ∃ j_ : Int, (wrap64 (7 * x14_1)) = j_ := ⟨_, rfl⟩
      replace H : (if 0 ≤ (ji19) then (if (bt a0_0 x14_1) ≥ 128 then (pack_Reader_Vary.l0 k1 (Go.bits .or .u64 x4_1 (shl .u64 (IntKind.u64.wrap (Go.bits .and .u8 (bt a0_0 x14_1) 127)) (ji19))) ji10 (wrap64 (x14_1 + 1)) a0_0 false) else (if 0 ≤ (wrap64 (x14_1 + 1)) then (if (wrap64 (x14_1 + 1)) ≤ (a0_0.size : Int) then ((pack_Vary.f k1 (Go.bits .or .u64 x4_1 (shl .u64 (IntKind.u64.wrap (Go.bits .and .u8 (bt a0_0 x14_1) 127)) (ji19)))).bind fun t166 => (if (a0_0.extract 0 ((wrap64 (x14_1 + 1)) : Int).toNat).toList = t166.toList then (some (Go.bits .or .u64 x4_1 (shl .u64 (IntKind.u64.wrap (Go.bits .and .u8 (bt a0_0 x14_1) 127)) (ji19)), a0_0.extract ((wrap64 (x14_1 + 1)) : Int).toNat a0_0.size, false)) else ((pack_bad.f).bind fun bt167 => (some (0, bt167.1, bt167.2))))) else (none)) else (none))) else (none)) = some (r1, r2, r3) := by first | (rw [hji19] at H; exact H) | (simp only [hji19] at H ⊢; exact H)
      have hji19w : (IntKind.i64.wrap (7 * x14_1)) = ji19 := (i64_w _).trans hji19
      by_cases c20 : 0 ≤ (ji19)
      rotate_left
      · rw [if_neg c20] at H
        exact absurd H (by simp)
      rw [if_pos c20] at H
      have c20b0 := eq_true c20
      have c20b1 : decide (0 ≤ (ji19)) = true := decide_eq_true c20
      clear c20
      obtain ⟨ji21, hji21⟩ : ∃ j_ : Int, (shl .u64 (IntKind.u64.wrap (Go.bits .and .u8 (bt a0_0 x14_1) 127)) (ji19)) = j_ := ⟨_, rfl⟩
      replace H : (if (bt a0_0 x14_1) ≥ 128 then (pack_Reader_Vary.l0 k1 (Go.bits .or .u64 x4_1 (ji21)) ji10 (wrap64 (x14_1 + 1)) a0_0 false) else (if 0 ≤ (wrap64 (x14_1 + 1)) then (if (wrap64 (x14_1 + 1)) ≤ (a0_0.size : Int) then ((pack_Vary.f k1 (Go.bits .or .u64 x4_1 (ji21))).bind fun t166 => (if (a0_0.extract 0 ((wrap64 (x14_1 + 1)) : Int).toNat).toList = t166.toList then (some (Go.bits .or .u64 x4_1 (ji21), a0_0.extract ((wrap64 (x14_1 + 1)) : Int).toNat a0_0.size, false)) else ((pack_bad.f).bind fun bt167 => (some (0, bt167.1, bt167.2))))) else (none)) else (none))) = some (r1, r2, r3) := by first | (rw [hji21] at H; exact H) | (simp only [hji21] at H ⊢; exact H)
      have hji21_ : (IntKind.u64.wrap ((IntKind.u64.wrap (Go.bits .and .u8 (bt a0_0 x14_1) 127)) * 2 ^ min (ji19).toNat 64)) = ji21 := hji21
      have hji21z : (ji19) ≤ 64 → (IntKind.u64.wrap ((IntKind.u64.wrap (Go.bits .and .u8 (bt a0_0 x14_1) 127)) * 2 ^ (ji19).toNat)) = ji21 := shl_small hji21
      by_cases c22 : (bt a0_0 x14_1) ≥ 128
      · rw [if_pos c22] at H
        have c22b0 : decide (128 ≤ (bt a0_0 x14_1)) = true := decide_eq_true c22
        clear c22
        have H' := Aside0.mk H
        clear H
        have hnb23 := NB160_161.out
        have hnc23 := NB161_160.out
        have hcz24_0 : wr.cell? ⟨gb160, 0, none⟩ = some (.string a0_0) := (blk_cell BK160.out 0).trans rfl
        have hcz24_1 : wr.cell? ⟨gb160, 1, none⟩ = some (.bool false) := (blk_cell BK160.out 1).trans rfl
        have hfz24_0 := blk_frozen BK160.out 0
        have hfz24_1 := blk_frozen BK160.out 1
        have p18 : 0 ≤ (x14_1 : Int) := of_decide_eq_true (by first | (with_reducible assumption) | assumption)
        have q18 : x14_1 < (a0_0.size : Int) := of_decide_eq_true (by first | (with_reducible assumption) | assumption)
        have hx18 := bt_at a0_0 x14_1
        replace p18 := eq_true p18
        replace q18 := eq_true q18
        go_wp2
        go_roundg k1
        case measure => have := HK1.out; omega
        case rel => exact ⟨(Go.bits .or .u64 x4_1 (ji21)), (wrap64 (x14_1 + 1)), (x162000_1), (x162001_1), (by first | rfl | (simp; done) | (simp only [← hji21] <;> (first | rfl | simp)) | (simp [*]; done)), (by first | rfl | (simp; done) | (simp [*]; done)), H', ⟨by have := HK1.out; omega⟩, ⟨by (with_reducible repeat (first | refine blk_drewN ?_ _ | refine blk_drew ?_ | refine blk_alloc ?_ _)); exact BK160.out⟩, ⟨by (with_reducible repeat (first | refine blk_drewN ?_ _ | refine blk_drew ?_ | refine blk_alloc ?_ _)); exact BK161.out⟩, ⟨by repeat (first | (with_reducible first | exact HB.out | apply below_alloc | apply pw_below_drewN | apply below_drew1 | refine below_set ?_ GE160.out | refine below_set ?_ GE161.out) | exact HB.out)⟩⟩
      rw [if_neg c22] at H
      have c22b0 : decide (128 ≤ (bt a0_0 x14_1)) = false := decide_eq_false c22
      clear c22
      obtain ⟨ji25, hji25⟩ : ∃ j_ : Int, (wrap64 (x14_1 + 1)) = j_ := ⟨_, rfl⟩
      replace H : (if 0 ≤ (ji25) then (if (ji25) ≤ (a0_0.size : Int) then ((pack_Vary.f k1 (Go.bits .or .u64 x4_1 (ji21))).bind fun t166 => (if (a0_0.extract 0 ((ji25) : Int).toNat).toList = t166.toList then (some (Go.bits .or .u64 x4_1 (ji21), a0_0.extract ((ji25) : Int).toNat a0_0.size, false)) else ((pack_bad.f).bind fun bt167 => (some (0, bt167.1, bt167.2))))) else (none)) else (none)) = some (r1, r2, r3) := by first | (rw [hji25] at H; exact H) | (simp only [hji25] at H ⊢; exact H)
      have hji25w : (IntKind.i64.wrap (x14_1 + 1)) = ji25 := (i64_w _).trans hji25
      by_cases c26 : 0 ≤ (ji25)
      rotate_left
      · rw [if_neg c26] at H
        exact absurd H (by simp)
      rw [if_pos c26] at H
      have c26b0 := eq_true c26
      have c26b1 : decide (0 ≤ (ji25)) = true := decide_eq_true c26
      clear c26
      by_cases c27 : (ji25) ≤ (a0_0.size : Int)
      rotate_left
      · rw [if_neg c27] at H
        exact absurd H (by simp)
      rw [if_pos c27] at H
      have c27b0 := eq_true c27
      have c27b1 : decide ((ji25) ≤ (a0_0.size : Int)) = true := decide_eq_true c27
      clear c27
      replace H := Option.bind_eq_some_iff.mp H
      obtain ⟨t166, A280, H⟩ := H
      replace H : (if (a0_0.extract 0 ((ji25) : Int).toNat).toList = t166.toList then (some (Go.bits .or .u64 x4_1 (ji21), a0_0.extract ((ji25) : Int).toNat a0_0.size, false)) else ((pack_bad.f).bind fun bt167 => (some (0, bt167.1, bt167.2)))) = some (r1, r2, r3) := H
      have A28 := Aside0.mk A280
      clear A280
      by_cases c29 : (a0_0.extract 0 ((ji25) : Int).toNat).toList = t166.toList
      rotate_left
      · rw [if_neg c29] at H
        have c29b0 : ((a0_0.extract 0 ((ji25) : Int).toNat).toList == t166.toList) = false := beq_eq_false_iff_ne.mpr c29
        have c29b1 : ((a0_0.extract 0 ((ji25) : Int).toNat).toList != t166.toList) = true := bne_iff_ne.mpr c29
        replace H := Option.bind_eq_some_iff.mp H
        obtain ⟨⟨t167, t168⟩, A390, H⟩ := H
        replace H : (some (0, t167, t168)) = some (r1, r2, r3) := H
        have A39 := Aside0.mk A390
        clear A390
        simp only [Option.some.injEq, Prod.mk.injEq] at H
        obtain ⟨rfl, rfl, rfl⟩ := H
        have hnb40 := NB160_161.out
        have hnc40 := NB161_160.out
        have hcz41_0 : wr.cell? ⟨gb160, 0, none⟩ = some (.string a0_0) := (blk_cell BK160.out 0).trans rfl
        have hcz41_1 : wr.cell? ⟨gb160, 1, none⟩ = some (.bool false) := (blk_cell BK160.out 1).trans rfl
        have hfz41_0 := blk_frozen BK160.out 0
        have hfz41_1 := blk_frozen BK160.out 1
        have p18 : 0 ≤ (x14_1 : Int) := of_decide_eq_true (by first | (with_reducible assumption) | assumption)
        have q18 : x14_1 < (a0_0.size : Int) := of_decide_eq_true (by first | (with_reducible assumption) | assumption)
        have hx18 := bt_at a0_0 x14_1
        replace p18 := eq_true p18
        replace q18 := eq_true q18
        try go_wp2
        replace BK160 := Kd_ BK160
        replace BK161 := Kd_ BK161
        replace HB := Aside0.mk (below_drew1 HB.out)
        refine start_ (n := 8) (S := fun w' => w'.cell? ⟨gb160, 0, none⟩ = some (.string a0_0) ∧ w'.cell? ⟨gb160, 1, none⟩ = some (.bool false)) (ds := []) #[false, false, false, false, false, false, false, false] (by kernel_rfl) rfl rfl (Kc2_ BK160.out) (fun hHeld => ?_); refine with_tabW pack_Reader_Vary.tab10 pack_Reader_Vary.bits10 (fun HT_ HW_ => ?_)
        generalize wr.drew = w42 at BK160 BK161 HB hHeld ⊢
        refine pure_ (i := 0) (N := some 31) (v := ?_) (a' := ?_) #[true, false, false, false, false, false, false, false] rfl rfl (any_of HT_.out (by kernel_rfl)) (fun _ _ _ h => h) (Or.inl ⟨by rfl, ?_⟩) ?_ ?_
        rotate_left
        · intro w'
          go_simp
          with_reducible rfl
        rotate_left
        · simp only [Act.put, List.setIfInBounds_toArray, List.set_cons_zero, List.set_cons_succ, i64_w, i32_w]
          rfl
        refine pure_ (i := 2) (N := some 33) (v := ?_) (a' := ?_) #[true, false, true, false, false, false, false, false] rfl rfl (any_of HT_.out (by kernel_rfl)) (fun _ _ _ h => h) (Or.inl ⟨by rfl, ?_⟩) ?_ ?_
        rotate_left
        · intro w'
          go_simp
          with_reducible rfl
        rotate_left
        · simp only [Act.put, List.setIfInBounds_toArray, List.set_cons_zero, List.set_cons_succ, i64_w, i32_w]
          rfl
        refine pure_ (i := 3) (N := some 34) (v := ?_) (a' := ?_) #[true, false, true, true, false, false, false, false] rfl rfl (any_of HT_.out (by kernel_rfl)) (fun _ _ _ h => h) (Or.inl ⟨by rfl, ?_⟩) ?_ ?_
        rotate_left
        · intro w'
          go_simp
          with_reducible rfl
        rotate_left
        · simp only [Act.put, List.setIfInBounds_toArray, List.set_cons_zero, List.set_cons_succ, i64_w, i32_w]
          rfl
        refine pure_ (i := 5) (N := some 36) (v := ?_) (a' := ?_) #[true, false, true, true, false, true, false, false] rfl rfl (any_of HT_.out (by kernel_rfl)) (fun _ _ _ h => h) (Or.inl ⟨by rfl, ?_⟩) ?_ ?_
        rotate_left
        · intro w'
          go_simp
          with_reducible rfl
        rotate_left
        · simp only [Act.put, List.setIfInBounds_toArray, List.set_cons_zero, List.set_cons_succ, i64_w, i32_w]
          rfl
        refine take_ (i := 1) (N := some 32) (v := ?_) (a' := ?_) #[true, true, true, true, false, true, false, false] rfl rfl (take_ofW HT_.out HW_.out (by kernel_rfl)) (fun _ _ _ h => h) (Or.inl ⟨by rfl, ?_⟩) hHeld ?_ ?_
        rotate_left
        · rintro w' ⟨s0, s1⟩
          go_simp
          with_reducible rfl
        rotate_left
        · simp only [Act.put, List.setIfInBounds_toArray, List.set_cons_zero, List.set_cons_succ, i64_w, i32_w]
          rfl
        refine pure_ (i := 4) (N := some 35) (v := ?_) (a' := ?_) #[true, true, true, true, true, true, false, false] rfl rfl (any_of HT_.out (by kernel_rfl)) (fun _ _ _ h => h) (Or.inl ⟨by rfl, ?_⟩) ?_ ?_
        rotate_left
        · intro w'
          go_simp
          with_reducible rfl
        rotate_left
        · simp only [Act.put, List.setIfInBounds_toArray, List.set_cons_zero, List.set_cons_succ, i64_w, i32_w]
          rfl
        refine one_ (i := 6) (N := some 37) #[true, true, true, true, true, true, true, false] rfl rfl (one_of HT_.out (by kernel_rfl)) (by decide) (fun K hK => ?_)
        refine goes_ Tryd.func63 (by kernel_rfl) rfl #[.int .u64 (Go.bits .or .u64 x4_1 (ji21))] (by rfl) rfl rfl (by (try simp only [List.map_toArray, List.map_cons, List.map_nil]); first | done | (simp only [hji21]; rfl) | rfl | (simp only [List.length_drop, List.length_take]; rfl)) ?_
        with_reducible refine (pack_Vary.calls k1 (Go.bits .or .u64 x4_1 (ji21)) t166 _ A28.out).mono ?_
        rintro e w43 ⟨rfl, hb⟩
        refine ⟨_, rfl, ?_⟩
        replace BK160 := Kb_ BK160 hb
        replace BK161 := Kb_ BK161 hb
        replace HB := Ks_ HB hb
        (try clear hb)
        (try clear hb2)
        (try clear hk)
        (try clear hi)
        refine hK.out _ _ (Kc2_ BK160.out) (fun hHeld => ?_)
        clear hK K
        refine norm_ (a' := ?_) ?_ ?_
        rotate_left
        · show Act.put _ (some 37) _ = _
          simp only [Act.put, List.setIfInBounds_toArray, List.set_cons_zero, List.set_cons_succ, i64_w, i32_w]
          rfl
        refine pure_ (i := 7) (N := some 38) (v := ?_) (a' := ?_) #[true, true, true, true, true, true, true, true] rfl rfl (any_of HT_.out (by kernel_rfl)) (fun _ _ _ h => h) (Or.inl ⟨by rfl, ?_⟩) ?_ ?_
        rotate_left
        · intro w'
          go_simp
          with_reducible rfl
        rotate_left
        · simp only [Act.put, List.setIfInBounds_toArray, List.set_cons_zero, List.set_cons_succ, i64_w, i32_w]
          rfl
        refine done_ (done_of HT_.out (by kernel_rfl)) ?_
        try go_wp2_with (first | ((with_reducible refine gate_callee (f := 71) rfl ?_); refine goesL_ (some 47) rfl rfl Tryd.func71 (by kernel_rfl) rfl #[] rfl (by (try simp only [List.map_toArray, List.map_cons, List.map_nil]); first | done | rfl | (simp only [List.length_drop, List.length_take]; rfl)) ?_; (with_reducible refine (pack_bad.calls  t167 t168 _ A39.out).mono ?_); rintro e w44 ⟨rfl, hb⟩; refine ⟨_, rfl, ?_⟩; replace BK160 := Kb_ BK160 hb; replace BK161 := Kb_ BK161 hb; replace HB := Ks_ HB hb; (try clear hb); (try clear hb2); (try clear hk); (try clear hi); obtain ⟨hcz45_0, hcz45_1, hfz45_0, hfz45_1⟩ := Ke2_ BK161.out))
        refine bodyPost_ret (results_tc rfl _ _ gb161 55 #[.string t167, .bool t168] (0, 0) _ rfl (by (with_reducible repeat (first | refine blk_drewN ?_ _ | refine blk_drew ?_ | refine blk_alloc ?_ _)); refine blk_put (cs := #[.string t167, .bool x162001_1]) ?_ 1 _ rfl; (with_reducible repeat (first | refine blk_drewN ?_ _ | refine blk_drew ?_ | refine blk_alloc ?_ _)); refine blk_put (cs := #[.string x162000_1, .bool x162001_1]) ?_ 0 _ rfl; (with_reducible repeat (first | refine blk_drewN ?_ _ | refine blk_drew ?_ | refine blk_alloc ?_ _)); exact BK161.out) Tryd.underlying55 rfl (by kernel_rfl)) rfl ?_
        exact ⟨by first | rfl | (simp [errW_none, errW_some] <;> rfl) | (simp only [← hji10, ← hji19, ← hji21, ← hji25]; first | rfl | (simp [errW_none, errW_some] <;> rfl)) | (simp [*, errW_none, errW_some] <;> rfl), by repeat (first | (with_reducible first | exact HB.out | apply below_alloc | apply pw_below_drewN | apply below_drew1 | refine below_set ?_ GE160.out | refine below_set ?_ GE161.out) | exact HB.out)⟩
      rw [if_pos c29] at H
      have c29b0 : ((a0_0.extract 0 ((ji25) : Int).toNat).toList == t166.toList) = true := beq_iff_eq.mpr c29
      have c29b1 : ((a0_0.extract 0 ((ji25) : Int).toNat).toList != t166.toList) = false := bne_eq_false_iff_eq.mpr c29
      clear c29
      have c30b0 := eq_true (of_decide_eq_true (by first | (with_reducible assumption) | assumption) : 0 ≤ (ji25))
      have c31b0 := eq_true (of_decide_eq_true (by first | (with_reducible assumption) | assumption) : (ji25) ≤ (a0_0.size : Int))
      simp only [Option.some.injEq, Prod.mk.injEq] at H
      obtain ⟨rfl, rfl, rfl⟩ := H
      have hnb32 := NB160_161.out
      have hnc32 := NB161_160.out
      have hcz33_0 : wr.cell? ⟨gb160, 0, none⟩ = some (.string a0_0) := (blk_cell BK160.out 0).trans rfl
      have hcz33_1 : wr.cell? ⟨gb160, 1, none⟩ = some (.bool false) := (blk_cell BK160.out 1).trans rfl
      have hfz33_0 := blk_frozen BK160.out 0
      have hfz33_1 := blk_frozen BK160.out 1
      have p18 : 0 ≤ (x14_1 : Int) := of_decide_eq_true (by first | (with_reducible assumption) | assumption)
      have q18 : x14_1 < (a0_0.size : Int) := of_decide_eq_true (by first | (with_reducible assumption) | assumption)
      have hx18 := bt_at a0_0 x14_1
      replace p18 := eq_true p18
      replace q18 := eq_true q18
      try go_wp2
      replace BK160 := Kd_ BK160
      replace BK161 := Kd_ BK161
      replace HB := Aside0.mk (below_drew1 HB.out)
      refine start_ (n := 8) (S := fun w' => w'.cell? ⟨gb160, 0, none⟩ = some (.string a0_0) ∧ w'.cell? ⟨gb160, 1, none⟩ = some (.bool false)) (ds := []) #[false, false, false, false, false, false, false, false] (by kernel_rfl) rfl rfl (Kc2_ BK160.out) (fun hHeld => ?_); refine with_tabW pack_Reader_Vary.tab10 pack_Reader_Vary.bits10 (fun HT_ HW_ => ?_)
      generalize wr.drew = w34 at BK160 BK161 HB hHeld ⊢
      refine pure_ (i := 0) (N := some 31) (v := ?_) (a' := ?_) #[true, false, false, false, false, false, false, false] rfl rfl (any_of HT_.out (by kernel_rfl)) (fun _ _ _ h => h) (Or.inl ⟨by rfl, ?_⟩) ?_ ?_
      rotate_left
      · intro w'
        go_simp
        with_reducible rfl
      rotate_left
      · simp only [Act.put, List.setIfInBounds_toArray, List.set_cons_zero, List.set_cons_succ, i64_w, i32_w]
        rfl
      refine pure_ (i := 2) (N := some 33) (v := ?_) (a' := ?_) #[true, false, true, false, false, false, false, false] rfl rfl (any_of HT_.out (by kernel_rfl)) (fun _ _ _ h => h) (Or.inl ⟨by rfl, ?_⟩) ?_ ?_
      rotate_left
      · intro w'
        go_simp
        with_reducible rfl
      rotate_left
      · simp only [Act.put, List.setIfInBounds_toArray, List.set_cons_zero, List.set_cons_succ, i64_w, i32_w]
        rfl
      refine pure_ (i := 3) (N := some 34) (v := ?_) (a' := ?_) #[true, false, true, true, false, false, false, false] rfl rfl (any_of HT_.out (by kernel_rfl)) (fun _ _ _ h => h) (Or.inl ⟨by rfl, ?_⟩) ?_ ?_
      rotate_left
      · intro w'
        go_simp
        with_reducible rfl
      rotate_left
      · simp only [Act.put, List.setIfInBounds_toArray, List.set_cons_zero, List.set_cons_succ, i64_w, i32_w]
        rfl
      refine pure_ (i := 5) (N := some 36) (v := ?_) (a' := ?_) #[true, false, true, true, false, true, false, false] rfl rfl (any_of HT_.out (by kernel_rfl)) (fun _ _ _ h => h) (Or.inl ⟨by rfl, ?_⟩) ?_ ?_
      rotate_left
      · intro w'
        go_simp
        with_reducible rfl
      rotate_left
      · simp only [Act.put, List.setIfInBounds_toArray, List.set_cons_zero, List.set_cons_succ, i64_w, i32_w]
        rfl
      refine take_ (i := 1) (N := some 32) (v := ?_) (a' := ?_) #[true, true, true, true, false, true, false, false] rfl rfl (take_ofW HT_.out HW_.out (by kernel_rfl)) (fun _ _ _ h => h) (Or.inl ⟨by rfl, ?_⟩) hHeld ?_ ?_
      rotate_left
      · rintro w' ⟨s0, s1⟩
        go_simp
        with_reducible rfl
      rotate_left
      · simp only [Act.put, List.setIfInBounds_toArray, List.set_cons_zero, List.set_cons_succ, i64_w, i32_w]
        rfl
      refine pure_ (i := 4) (N := some 35) (v := ?_) (a' := ?_) #[true, true, true, true, true, true, false, false] rfl rfl (any_of HT_.out (by kernel_rfl)) (fun _ _ _ h => h) (Or.inl ⟨by rfl, ?_⟩) ?_ ?_
      rotate_left
      · intro w'
        go_simp
        with_reducible rfl
      rotate_left
      · simp only [Act.put, List.setIfInBounds_toArray, List.set_cons_zero, List.set_cons_succ, i64_w, i32_w]
        rfl
      refine one_ (i := 6) (N := some 37) #[true, true, true, true, true, true, true, false] rfl rfl (one_of HT_.out (by kernel_rfl)) (by decide) (fun K hK => ?_)
      refine goes_ Tryd.func63 (by kernel_rfl) rfl #[.int .u64 (Go.bits .or .u64 x4_1 (ji21))] (by rfl) rfl rfl (by (try simp only [List.map_toArray, List.map_cons, List.map_nil]); first | done | (simp only [hji21]; rfl) | rfl | (simp only [List.length_drop, List.length_take]; rfl)) ?_
      with_reducible refine (pack_Vary.calls k1 (Go.bits .or .u64 x4_1 (ji21)) t166 _ A28.out).mono ?_
      rintro e w35 ⟨rfl, hb⟩
      refine ⟨_, rfl, ?_⟩
      replace BK160 := Kb_ BK160 hb
      replace BK161 := Kb_ BK161 hb
      replace HB := Ks_ HB hb
      (try clear hb)
      (try clear hb2)
      (try clear hk)
      (try clear hi)
      refine hK.out _ _ (Kc2_ BK160.out) (fun hHeld => ?_)
      clear hK K
      refine norm_ (a' := ?_) ?_ ?_
      rotate_left
      · show Act.put _ (some 37) _ = _
        simp only [Act.put, List.setIfInBounds_toArray, List.set_cons_zero, List.set_cons_succ, i64_w, i32_w]
        rfl
      refine pure_ (i := 7) (N := some 38) (v := ?_) (a' := ?_) #[true, true, true, true, true, true, true, true] rfl rfl (any_of HT_.out (by kernel_rfl)) (fun _ _ _ h => h) (Or.inl ⟨by rfl, ?_⟩) ?_ ?_
      rotate_left
      · intro w'
        go_simp
        with_reducible rfl
      rotate_left
      · simp only [Act.put, List.setIfInBounds_toArray, List.set_cons_zero, List.set_cons_succ, i64_w, i32_w]
        rfl
      refine done_ (done_of HT_.out (by kernel_rfl)) ?_
      try go_wp2
      replace BK160 := Kd_ BK160
      replace BK161 := Kd_ BK161
      replace HB := Aside0.mk (below_drew1 HB.out)
      refine start_ (n := 9) (S := fun w' => w'.cell? ⟨gb160, 0, none⟩ = some (.string a0_0) ∧ w'.cell? ⟨gb160, 1, none⟩ = some (.bool false)) (ds := []) #[false, false, false, false, false, false, false, false, false] (by kernel_rfl) rfl rfl (Kc2_ BK160.out) (fun hHeld => ?_); refine with_tabW pack_Reader_Vary.tab11 pack_Reader_Vary.bits11 (fun HT_ HW_ => ?_)
      generalize w35.drew = w36 at BK160 BK161 HB hHeld ⊢
      refine pure_ (i := 0) (N := some 39) (v := ?_) (a' := ?_) #[true, false, false, false, false, false, false, false, false] rfl rfl (any_of HT_.out (by kernel_rfl)) (fun _ _ _ h => h) (Or.inl ⟨by rfl, ?_⟩) ?_ ?_
      rotate_left
      · intro w'
        go_simp
        with_reducible rfl
      rotate_left
      · simp only [Act.put, List.setIfInBounds_toArray, List.set_cons_zero, List.set_cons_succ, i64_w, i32_w]
        rfl
      refine pure_ (i := 1) (N := some 40) (v := ?_) (a' := ?_) #[true, true, false, false, false, false, false, false, false] rfl rfl (any_of HT_.out (by kernel_rfl)) (fun _ _ _ h => h) (Or.inl ⟨by rfl, ?_⟩) ?_ ?_
      rotate_left
      · intro w'
        go_simp
        with_reducible rfl
      rotate_left
      · simp only [Act.put, List.setIfInBounds_toArray, List.set_cons_zero, List.set_cons_succ, i64_w, i32_w]
        rfl
      refine pure_ (i := 3) (N := some 42) (v := ?_) (a' := ?_) #[true, true, false, true, false, false, false, false, false] rfl rfl (any_of HT_.out (by kernel_rfl)) (fun _ _ _ h => h) (Or.inl ⟨by rfl, ?_⟩) ?_ ?_
      rotate_left
      · intro w'
        go_simp
        with_reducible rfl
      rotate_left
      · simp only [Act.put, List.setIfInBounds_toArray, List.set_cons_zero, List.set_cons_succ, i64_w, i32_w]
        rfl
      refine pure_ (i := 4) (N := some 43) (v := ?_) (a' := ?_) #[true, true, false, true, true, false, false, false, false] rfl rfl (any_of HT_.out (by kernel_rfl)) (fun _ _ _ h => h) (Or.inl ⟨by rfl, ?_⟩) ?_ ?_
      rotate_left
      · intro w'
        go_simp
        with_reducible rfl
      rotate_left
      · simp only [Act.put, List.setIfInBounds_toArray, List.set_cons_zero, List.set_cons_succ, i64_w, i32_w]
        rfl
      refine pure_ (i := 7) (N := some 2) (v := ?_) (a' := ?_) #[true, true, false, true, true, false, false, true, false] rfl rfl (any_of HT_.out (by kernel_rfl)) (fun _ _ _ h => h) (Or.inl ⟨by rfl, ?_⟩) ?_ ?_
      rotate_left
      · intro w'
        go_simp
        with_reducible rfl
      rotate_left
      · simp only [Act.put, List.setIfInBounds_toArray, List.set_cons_zero, List.set_cons_succ, i64_w, i32_w]
        rfl
      refine take_ (i := 2) (N := some 41) (v := ?_) (a' := ?_) #[true, true, true, true, true, false, false, true, false] rfl rfl (take_ofW HT_.out HW_.out (by kernel_rfl)) (fun _ _ _ h => h) (Or.inl ⟨by rfl, ?_⟩) hHeld ?_ ?_
      rotate_left
      · rintro w' ⟨s0, s1⟩
        go_simp
        with_reducible rfl
      rotate_left
      · simp only [Act.put, List.setIfInBounds_toArray, List.set_cons_zero, List.set_cons_succ, i64_w, i32_w]
        rfl
      refine pure_ (i := 5) (N := some 44) (v := ?_) (a' := ?_) #[true, true, true, true, true, true, false, true, false] rfl rfl (any_of HT_.out (by kernel_rfl)) (fun _ _ _ h => h) (Or.inl ⟨by rfl, ?_⟩) ?_ ?_
      rotate_left
      · intro w'
        go_simp
        with_reducible rfl
      rotate_left
      · simp only [Act.put, List.setIfInBounds_toArray, List.set_cons_zero, List.set_cons_succ, i64_w, i32_w]
        rfl
      refine pure_ (i := 6) (N := some 45) (v := ?_) (a' := ?_) #[true, true, true, true, true, true, true, true, false] rfl rfl (any_of HT_.out (by kernel_rfl)) (fun _ _ _ h => h) (Or.inl ⟨by rfl, ?_⟩) ?_ ?_
      rotate_left
      · intro w'
        go_simp
        with_reducible rfl
      rotate_left
      · simp only [Act.put, List.setIfInBounds_toArray, List.set_cons_zero, List.set_cons_succ, i64_w, i32_w]
        rfl
      refine one_ (i := 8) (N := none) #[true, true, true, true, true, true, true, true, true] rfl rfl (one_of HT_.out (by kernel_rfl)) (by decide) (fun K hK => ?_)
      have hs37 : w36.cell? ⟨gb161, 0, none⟩ = some (.string x162000_1) := (blk_cell BK161.out 0).trans rfl
      have hfs37 := blk_frozen BK161.out 0
      have hns37_0 := NB160_161.out
      have hms37_0 := NB161_160.out
      have hs38 : w36.cell? ⟨gb161, 1, none⟩ = some (.bool x162001_1) := (blk_cell BK161.out 1).trans rfl
      have hfs38 := blk_frozen BK161.out 1
      have hns38_0 := NB160_161.out
      have hms38_0 := NB161_160.out
      refine skip_ (w1 := ?_) (by rfl) rfl ?_ ?_
      rotate_left
      · go_simp
        rfl
      refine hK.out _ _ ⟨((cell_far (p := ⟨gb161, _, none⟩) NB160_161.out _).trans (((cell_far (p := ⟨gb161, _, none⟩) NB160_161.out _).trans (hHeld.1)))), ((cell_far (p := ⟨gb161, _, none⟩) NB160_161.out _).trans (((cell_far (p := ⟨gb161, _, none⟩) NB160_161.out _).trans (hHeld.2))))⟩ (fun hHeld => ?_)
      clear hK K
      refine done_ (done_of HT_.out (by kernel_rfl)) ?_
      try go_wp2
      refine bodyPost_ret (results_tc rfl _ _ gb161 55 #[.string (a0_0.extract ((ji25) : Int).toNat a0_0.size), .bool false] (0, 0) _ rfl (by (with_reducible repeat (first | refine blk_drewN ?_ _ | refine blk_drew ?_ | refine blk_alloc ?_ _)); refine blk_put (cs := #[.string (a0_0.extract ((ji25) : Int).toNat a0_0.size), .bool x162001_1]) ?_ 1 _ rfl; (with_reducible repeat (first | refine blk_drewN ?_ _ | refine blk_drew ?_ | refine blk_alloc ?_ _)); refine blk_put (cs := #[.string x162000_1, .bool x162001_1]) ?_ 0 _ rfl; (with_reducible repeat (first | refine blk_drewN ?_ _ | refine blk_drew ?_ | refine blk_alloc ?_ _)); exact BK161.out) Tryd.underlying55 rfl (by kernel_rfl)) rfl ?_
      exact ⟨by first | rfl | (simp [errW_none, errW_some] <;> rfl) | (simp only [← hji10, ← hji19, ← hji21, ← hji25]; first | rfl | (simp [errW_none, errW_some] <;> rfl)) | (simp [*, errW_none, errW_some] <;> rfl), by repeat (first | (with_reducible first | exact HB.out | apply below_alloc | apply pw_below_drewN | apply below_drew1 | refine below_set ?_ GE160.out | refine below_set ?_ GE161.out) | exact HB.out)⟩

end Go.Proofs.YtdlagefpglhdoaaDoor.Q

-- Written by this session's own driver (wip/hybrid.py) of the kit's printer; contracts marked FOREIGN are by hand.
namespace Go.Proofs.YtdlagefpglhdoaaDoor.Q
open Go.RowKit Go.Proofs.YtdlagefpglhdoaaDoorW.PrintWords Go.Proofs.YtdlagefpglhdoaaDoorW.PrintLast Go.Proofs.YtdlagefpglhdoaaDoorW.PrintMore
attribute [local go_sem] max2_int min2_int max_two min_two max_three min_three max_four min_four   -- for this text's walks alone
set_option linter.unusedVariables false
set_option linter.unusedSimpArgs false

/-! ### vec_Get: function 56 -/
-- FOREIGN: an array filled place by place by a reader that is turned
def vec_Get.f (k : Nat) (a0_0 : ByteArray) (a0_1 : Bool) : Option (Int × Int × Int × Int × ByteArray × Bool) :=
  (pack_Reader_Vary.f k a0_0 a0_1).bind fun r0 => (pack_Reader_Vary.f k r0.2.1 r0.2.2).bind fun r1 => (pack_Reader_Vary.f k r1.2.1 r1.2.2).bind fun r2 => (pack_Reader_Vary.f k r2.2.1 r2.2.2).bind fun r3 =>
    if r3.2.2 = true then some (0, 0, 0, 0, (⟨#[]⟩ : ByteArray), true) else (vec_Right.f r0.1 r1.1 r2.1 r3.1).bind fun t => if t = true then some (r0.1, r1.1, r2.1, r3.1, r3.2.1, false) else some (0, 0, 0, 0, (⟨#[]⟩ : ByteArray), true)
theorem vec_Get.mono : ∀ a0 a1 k, LeO (vec_Get.f k a0 a1) (vec_Get.f (k + 1) a0 a1) := by
  intro a0 a1 k
  unfold vec_Get.f
  repeat' first
      | exact pack_Reader_Vary.mono _ _ _
      | exact LeO.refl _
      | exact LeO.none _
      | refine LeO.ite ?_ ?_
      | refine LeO.bind ?_ (fun _ => ?_)
theorem vec_Get.boxes3 (w : World) (xs ys zs : Array Value) (t1 t2 t3 : TypeId) (W : World) (h : ((w.alloc (.cells xs t1)).alloc (.cells ys t2)).alloc (.cells zs t3) = W) :
    W.heap[w.heap.size]? = some (.cells xs t1 (0,0)) ∧ W.heap[w.heap.size+1]? = some (.cells ys t2 (0,0)) ∧ W.heap[w.heap.size+1+1]? = some (.cells zs t3 (0,0)) ∧ Below w.heap.size w W := by
  subst h
  have s1 : (w.alloc (.cells xs t1)).heap.size = w.heap.size + 1 := by simp [World.alloc, -World.alloc_eq]
  have s2 : ((w.alloc (.cells xs t1)).alloc (.cells ys t2)).heap.size = w.heap.size + 1 + 1 := by simp [World.alloc, -World.alloc_eq]
  refine ⟨blk_alloc (blk_alloc (blk_new _ _) _) _, ?_, ?_, below_alloc (below_alloc (below_alloc (Below.refl _ _) _) _) _⟩
  · rw [← s1]; exact blk_alloc (blk_new _ _) _
  · rw [← s2]; exact blk_new _ _
set_option maxHeartbeats 8000000 in
set_option maxRecDepth 100000 in
theorem vec_Get.calls (k : Nat) (a0_0 : ByteArray) (a0_1 : Bool) (r1 r2 r3 r4 : Int) (r5 : ByteArray) (r6 : Bool) (w : World) (h : vec_Get.f k a0_0 a0_1 = some (r1, r2, r3, r4, r5, r6)) :
    Calls Tryd.prog 56 #[.agg #[.string a0_0, .bool a0_1]] w fun e w' => e = .returned (.tuple #[.agg #[.int .u64 r1, .int .u64 r2, .int .u64 r3, .int .u64 r4], .agg #[.string r5, .bool r6]]) ∧ Below w.heap.size w w' := by
  unfold vec_Get.f at h
  obtain ⟨⟨n0, s1, b1⟩, A0, h⟩ := Option.bind_eq_some_iff.1 h
  obtain ⟨⟨n1, s2, b2⟩, A1, h⟩ := Option.bind_eq_some_iff.1 h
  obtain ⟨⟨n2, s3, b3⟩, A2, h⟩ := Option.bind_eq_some_iff.1 h
  obtain ⟨⟨n3, s4, b4⟩, A3, h⟩ := Option.bind_eq_some_iff.1 h
  replace A0 := Aside0.mk A0
  replace A1 := Aside0.mk A1
  replace A2 := Aside0.mk A2
  replace A3 := Aside0.mk A3
  simp only at h
  have HH := Aside0.mk h
  clear h
  have hu := Tryd.underlying24
  have hu2 := Tryd.underlying22
  have hu3 := Tryd.underlying55
  go_enter Tryd.func56, Tryd.ntmps56
  go_wp2
  generalize hW : (((w.alloc (Obj.cells #[.string a0_0, .bool a0_1] 55)).alloc (Obj.cells _ 24)).alloc (Obj.cells _ 55)) = W0
  obtain ⟨hA, hB, hC, HB⟩ := vec_Get.boxes3 _ _ _ _ _ _ _ _ hW
  replace HB := Aside0.mk HB
  clear hW
  obtain ⟨B0, hB0⟩ : ∃ B0, B0 = w.heap.size := ⟨_, rfl⟩
  obtain ⟨B1, hB1⟩ : ∃ B1, B1 = w.heap.size + 1 := ⟨_, rfl⟩
  obtain ⟨B2, hB2⟩ : ∃ B2, B2 = w.heap.size + 1 + 1 := ⟨_, rfl⟩
  rw [← hB2, ← hB1, ← hB0]
  rw [← hB0] at hA
  rw [← hB1] at hB
  rw [← hB2] at hC
  have g01 : B0 ≠ B1 := by omega
  have g02 : B0 ≠ B2 := by omega
  have g12 : B1 ≠ B2 := by omega
  have GA := Aside0.mk (show w.heap.size ≤ B0 by omega)
  have GB := Aside0.mk (show w.heap.size ≤ B1 by omega)
  have GC := Aside0.mk (show w.heap.size ≤ B2 by omega)
  clear hB0 hB1 hB2
  replace hA := Aside0.mk hA
  replace hB := Aside0.mk hB
  replace hC := Aside0.mk hC
  refine wp_loop_rounds 5 ?_
  rw [rounds_succ]
  have ca0 := (blk_cell hA.out 0).trans rfl
  have ca1 := (blk_cell hA.out 1).trans rfl
  go_wp2_with (go_at_call 72; refine (pack_Reader_Vary.calls k a0_0 a0_1 n0 s1 b1 _ A0.out).mono ?_; rintro e w1 ⟨rfl, hb⟩; clear ca0 ca1; have hA1 := Aside0.mk (blk_below hA.out hb); have hB1 := Aside0.mk (blk_below hB.out hb); have hC1 := Aside0.mk (blk_below hC.out hb); have HB1 := Aside0.mk (below_step HB.out hb); clear hA hB hC HB; clear hb; have fa0 := blk_frozen hA1.out 0; have fa1 := blk_frozen hA1.out 1; have ca0 := (blk_cell hA1.out 0).trans rfl; have ca1 := (blk_cell hA1.out 1).trans rfl; have fb := blk_frozen hB1.out 0; have cb := (blk_cell hB1.out 0).trans rfl)
  clear ca0 ca1 cb fa0 fa1 fb
  have hA := Aside0.mk (blk_put (blk_put (blk_far hA1.out (p := ⟨B1, 0, none⟩) g01 (.int .u64 n0)) 0 (.string s1) rfl) 1 (.bool b1) (cs' := #[.string s1, .bool b1]) rfl)
  have hB := Aside0.mk (blk_far (blk_far (blk_put hB1.out 0 (.int .u64 n0) (cs' := #[.int .u64 n0, .int .u64 0, .int .u64 0, .int .u64 0]) rfl) (p := ⟨B0, 0, none⟩) (Ne.symm g01) (.string s1)) (p := ⟨B0, 1, none⟩) (Ne.symm g01) (.bool b1))
  have hC := Aside0.mk (blk_far (blk_far (blk_far hC1.out (p := ⟨B1, 0, none⟩) (Ne.symm g12) (.int .u64 n0)) (p := ⟨B0, 0, none⟩) (Ne.symm g02) (.string s1)) (p := ⟨B0, 1, none⟩) (Ne.symm g02) (.bool b1))
  have HB := Aside0.mk (below_set (j := 1) (v := .bool b1) (below_set (j := 0) (v := .string s1) (below_set (j := 0) (v := .int .u64 n0) HB1.out GB.out) GA.out) GA.out)
  clear hA1 hB1 hC1 HB1
  generalize ((w1.setCell ⟨B1, 0, none⟩ (.int .u64 n0)).setCell ⟨B0, 0, none⟩ (.string s1)).setCell ⟨B0, 1, none⟩ (.bool b1) = W1 at *
  clear w1 W0
  rw [rounds_succ]
  have ca0 := (blk_cell hA.out 0).trans rfl
  have ca1 := (blk_cell hA.out 1).trans rfl
  go_wp2_with (go_at_call 72; refine (pack_Reader_Vary.calls k s1 b1 n1 s2 b2 _ A1.out).mono ?_; rintro e w1 ⟨rfl, hb⟩; clear ca0 ca1; have hA1 := Aside0.mk (blk_below hA.out hb); have hB1 := Aside0.mk (blk_below hB.out hb); have hC1 := Aside0.mk (blk_below hC.out hb); have HB1 := Aside0.mk (below_step HB.out hb); clear hA hB hC HB; clear hb; have fa0 := blk_frozen hA1.out 0; have fa1 := blk_frozen hA1.out 1; have ca0 := (blk_cell hA1.out 0).trans rfl; have ca1 := (blk_cell hA1.out 1).trans rfl; have fb := blk_frozen hB1.out 1; have cb := (blk_cell hB1.out 1).trans rfl)
  clear ca0 ca1 cb fa0 fa1 fb
  have hA := Aside0.mk (blk_put (blk_put (blk_far hA1.out (p := ⟨B1, 1, none⟩) g01 (.int .u64 n1)) 0 (.string s2) rfl) 1 (.bool b2) (cs' := #[.string s2, .bool b2]) rfl)
  have hB := Aside0.mk (blk_far (blk_far (blk_put hB1.out 1 (.int .u64 n1) (cs' := #[.int .u64 n0, .int .u64 n1, .int .u64 0, .int .u64 0]) rfl) (p := ⟨B0, 0, none⟩) (Ne.symm g01) (.string s2)) (p := ⟨B0, 1, none⟩) (Ne.symm g01) (.bool b2))
  have hC := Aside0.mk (blk_far (blk_far (blk_far hC1.out (p := ⟨B1, 1, none⟩) (Ne.symm g12) (.int .u64 n1)) (p := ⟨B0, 0, none⟩) (Ne.symm g02) (.string s2)) (p := ⟨B0, 1, none⟩) (Ne.symm g02) (.bool b2))
  have HB := Aside0.mk (below_set (j := 1) (v := .bool b2) (below_set (j := 0) (v := .string s2) (below_set (j := 1) (v := .int .u64 n1) HB1.out GB.out) GA.out) GA.out)
  clear hA1 hB1 hC1 HB1
  generalize ((w1.setCell ⟨B1, 1, none⟩ (.int .u64 n1)).setCell ⟨B0, 0, none⟩ (.string s2)).setCell ⟨B0, 1, none⟩ (.bool b2) = W2 at *
  clear w1 W1
  rw [rounds_succ]
  have ca0 := (blk_cell hA.out 0).trans rfl
  have ca1 := (blk_cell hA.out 1).trans rfl
  go_wp2_with (go_at_call 72; refine (pack_Reader_Vary.calls k s2 b2 n2 s3 b3 _ A2.out).mono ?_; rintro e w1 ⟨rfl, hb⟩; clear ca0 ca1; have hA1 := Aside0.mk (blk_below hA.out hb); have hB1 := Aside0.mk (blk_below hB.out hb); have hC1 := Aside0.mk (blk_below hC.out hb); have HB1 := Aside0.mk (below_step HB.out hb); clear hA hB hC HB; clear hb; have fa0 := blk_frozen hA1.out 0; have fa1 := blk_frozen hA1.out 1; have ca0 := (blk_cell hA1.out 0).trans rfl; have ca1 := (blk_cell hA1.out 1).trans rfl; have fb := blk_frozen hB1.out 2; have cb := (blk_cell hB1.out 2).trans rfl)
  clear ca0 ca1 cb fa0 fa1 fb
  have hA := Aside0.mk (blk_put (blk_put (blk_far hA1.out (p := ⟨B1, 2, none⟩) g01 (.int .u64 n2)) 0 (.string s3) rfl) 1 (.bool b3) (cs' := #[.string s3, .bool b3]) rfl)
  have hB := Aside0.mk (blk_far (blk_far (blk_put hB1.out 2 (.int .u64 n2) (cs' := #[.int .u64 n0, .int .u64 n1, .int .u64 n2, .int .u64 0]) rfl) (p := ⟨B0, 0, none⟩) (Ne.symm g01) (.string s3)) (p := ⟨B0, 1, none⟩) (Ne.symm g01) (.bool b3))
  have hC := Aside0.mk (blk_far (blk_far (blk_far hC1.out (p := ⟨B1, 2, none⟩) (Ne.symm g12) (.int .u64 n2)) (p := ⟨B0, 0, none⟩) (Ne.symm g02) (.string s3)) (p := ⟨B0, 1, none⟩) (Ne.symm g02) (.bool b3))
  have HB := Aside0.mk (below_set (j := 1) (v := .bool b3) (below_set (j := 0) (v := .string s3) (below_set (j := 2) (v := .int .u64 n2) HB1.out GB.out) GA.out) GA.out)
  clear hA1 hB1 hC1 HB1
  generalize ((w1.setCell ⟨B1, 2, none⟩ (.int .u64 n2)).setCell ⟨B0, 0, none⟩ (.string s3)).setCell ⟨B0, 1, none⟩ (.bool b3) = W3 at *
  clear w1 W2
  rw [rounds_succ]
  have ca0 := (blk_cell hA.out 0).trans rfl
  have ca1 := (blk_cell hA.out 1).trans rfl
  go_wp2_with (go_at_call 72; refine (pack_Reader_Vary.calls k s3 b3 n3 s4 b4 _ A3.out).mono ?_; rintro e w1 ⟨rfl, hb⟩; clear ca0 ca1; have hA1 := Aside0.mk (blk_below hA.out hb); have hB1 := Aside0.mk (blk_below hB.out hb); have hC1 := Aside0.mk (blk_below hC.out hb); have HB1 := Aside0.mk (below_step HB.out hb); clear hA hB hC HB; clear hb; have fa0 := blk_frozen hA1.out 0; have fa1 := blk_frozen hA1.out 1; have ca0 := (blk_cell hA1.out 0).trans rfl; have ca1 := (blk_cell hA1.out 1).trans rfl; have fb := blk_frozen hB1.out 3; have cb := (blk_cell hB1.out 3).trans rfl)
  clear ca0 ca1 cb fa0 fa1 fb
  have hA := Aside0.mk (blk_put (blk_put (blk_far hA1.out (p := ⟨B1, 3, none⟩) g01 (.int .u64 n3)) 0 (.string s4) rfl) 1 (.bool b4) (cs' := #[.string s4, .bool b4]) rfl)
  have hB := Aside0.mk (blk_far (blk_far (blk_put hB1.out 3 (.int .u64 n3) (cs' := #[.int .u64 n0, .int .u64 n1, .int .u64 n2, .int .u64 n3]) rfl) (p := ⟨B0, 0, none⟩) (Ne.symm g01) (.string s4)) (p := ⟨B0, 1, none⟩) (Ne.symm g01) (.bool b4))
  have hC := Aside0.mk (blk_far (blk_far (blk_far hC1.out (p := ⟨B1, 3, none⟩) (Ne.symm g12) (.int .u64 n3)) (p := ⟨B0, 0, none⟩) (Ne.symm g02) (.string s4)) (p := ⟨B0, 1, none⟩) (Ne.symm g02) (.bool b4))
  have HB := Aside0.mk (below_set (j := 1) (v := .bool b4) (below_set (j := 0) (v := .string s4) (below_set (j := 3) (v := .int .u64 n3) HB1.out GB.out) GA.out) GA.out)
  clear hA1 hB1 hC1 HB1
  generalize ((w1.setCell ⟨B1, 3, none⟩ (.int .u64 n3)).setCell ⟨B0, 0, none⟩ (.string s4)).setCell ⟨B0, 1, none⟩ (.bool b4) = W4 at *
  clear w1 W3
  rw [rounds_succ]
  have fb0 := blk_frozen hB.out 0
  have fb1 := blk_frozen hB.out 1
  have fb2 := blk_frozen hB.out 2
  have fb3 := blk_frozen hB.out 3
  have cb0 := (blk_cell hB.out 0).trans rfl
  have cb1 := (blk_cell hB.out 1).trans rfl
  have cb2 := (blk_cell hB.out 2).trans rfl
  have cb3 := (blk_cell hB.out 3).trans rfl
  have fc0 := blk_frozen hC.out 0
  have fc1 := blk_frozen hC.out 1
  have cc0 := (blk_cell hC.out 0).trans rfl
  have cc1 := (blk_cell hC.out 1).trans rfl
  have ca0 := (blk_cell hA.out 0).trans rfl
  have ca1 := (blk_cell hA.out 1).trans rfl
  cases b4 with
  | true =>
    have h := HH.out
    rw [if_pos rfl] at h
    simp only [Option.some.injEq, Prod.mk.injEq] at h
    obtain ⟨rfl, rfl, rfl, rfl, rfl, rfl⟩ := h
    clear HH
    go_wp2
    clear fb0 fb1 fb2 fb3 cb0 cb1 cb2 cb3 fc0 fc1 cc0 cc1 ca0 ca1
    have hB1 := Aside0.mk (blk_far (blk_far (blk_put (blk_put (blk_put (blk_put hB.out 0 (.int .u64 0) rfl) 1 (.int .u64 0) rfl) 2 (.int .u64 0) rfl) 3 (.int .u64 0) (cs' := #[.int .u64 0, .int .u64 0, .int .u64 0, .int .u64 0]) rfl) (p := ⟨B2, 0, none⟩) g12 (.string (⟨#[]⟩ : ByteArray))) (p := ⟨B2, 1, none⟩) g12 (.bool true))
    have hC1 := Aside0.mk (blk_put (blk_put (blk_far (blk_far (blk_far (blk_far hC.out (p := ⟨B1, 0, none⟩) (Ne.symm g12) (.int .u64 0)) (p := ⟨B1, 1, none⟩) (Ne.symm g12) (.int .u64 0)) (p := ⟨B1, 2, none⟩) (Ne.symm g12) (.int .u64 0)) (p := ⟨B1, 3, none⟩) (Ne.symm g12) (.int .u64 0)) 0 (.string (⟨#[]⟩ : ByteArray)) rfl) 1 (.bool true) (cs' := #[.string (⟨#[]⟩ : ByteArray), .bool true]) rfl)
    have HB1 := Aside0.mk (below_set (j := 1) (v := .bool true) (below_set (j := 0) (v := .string (⟨#[]⟩ : ByteArray)) (below_set (j := 3) (v := .int .u64 0) (below_set (j := 2) (v := .int .u64 0) (below_set (j := 1) (v := .int .u64 0) (below_set (j := 0) (v := .int .u64 0) HB.out GB.out) GB.out) GB.out) GB.out) GC.out) GC.out)
    clear hA hB hC HB
    generalize ((((((W4.setCell ⟨B1, 0, none⟩ (.int .u64 0)).setCell ⟨B1, 1, none⟩ (.int .u64 0)).setCell ⟨B1, 2, none⟩ (.int .u64 0)).setCell ⟨B1, 3, none⟩ (.int .u64 0)).setCell ⟨B2, 0, none⟩ (.string (⟨#[]⟩ : ByteArray))).setCell ⟨B2, 1, none⟩ (.bool true)) = W9 at *
    have d0 := (blk_cell hB1.out 0).trans rfl
    have d1 := (blk_cell hB1.out 1).trans rfl
    have d2 := (blk_cell hB1.out 2).trans rfl
    have d3 := (blk_cell hB1.out 3).trans rfl
    have d4 := (blk_cell hC1.out 0).trans rfl
    have d5 := (blk_cell hC1.out 1).trans rfl
    refine bodyPost_ret (v := .tuple #[.agg #[.int .u64 0, .int .u64 0, .int .u64 0, .int .u64 0], .agg #[.string (⟨#[]⟩ : ByteArray), .bool true]]) (by simp [results, Tryd.results56, go_sem, hu, hu2, hu3, d0, d1, d2, d3, d4, d5]) rfl ⟨rfl, HB1.out⟩
  | false =>
    have h := HH.out
    rw [if_neg (by simp)] at h
    obtain ⟨t, A4, h⟩ := Option.bind_eq_some_iff.1 h
    replace A4 := Aside0.mk A4
    clear HH
    cases t with
    | false =>
      rw [if_neg (by simp)] at h
      simp only [Option.some.injEq, Prod.mk.injEq] at h
      obtain ⟨rfl, rfl, rfl, rfl, rfl, rfl⟩ := h
      go_wp2_with (go_at_call 31; refine (vec_Right.calls n0 n1 n2 n3 false _ A4.out).mono ?_; rintro e w1 ⟨rfl, hb⟩; clear fb0 fb1 fb2 fb3 cb0 cb1 cb2 cb3 fc0 fc1 cc0 cc1 ca0 ca1; have hA1 := Aside0.mk (blk_below hA.out hb); have hB1 := Aside0.mk (blk_below hB.out hb); have hC1 := Aside0.mk (blk_below hC.out hb); have HB1 := Aside0.mk (below_step HB.out hb); clear hA hB hC HB; clear hb; have hA := hA1; have hB := hB1; have hC := hC1; have HB := HB1; clear hA1 hB1 hC1 HB1; have fb0 := blk_frozen hB.out 0; have fb1 := blk_frozen hB.out 1; have fb2 := blk_frozen hB.out 2; have fb3 := blk_frozen hB.out 3; have cb0 := (blk_cell hB.out 0).trans rfl; have cb1 := (blk_cell hB.out 1).trans rfl; have cb2 := (blk_cell hB.out 2).trans rfl; have cb3 := (blk_cell hB.out 3).trans rfl; have fc0 := blk_frozen hC.out 0; have fc1 := blk_frozen hC.out 1; have cc0 := (blk_cell hC.out 0).trans rfl; have cc1 := (blk_cell hC.out 1).trans rfl; have ca0 := (blk_cell hA.out 0).trans rfl; have ca1 := (blk_cell hA.out 1).trans rfl)
      clear fb0 fb1 fb2 fb3 cb0 cb1 cb2 cb3 fc0 fc1 cc0 cc1 ca0 ca1
      have hB1 := Aside0.mk (blk_far (blk_far (blk_put (blk_put (blk_put (blk_put hB.out 0 (.int .u64 0) rfl) 1 (.int .u64 0) rfl) 2 (.int .u64 0) rfl) 3 (.int .u64 0) (cs' := #[.int .u64 0, .int .u64 0, .int .u64 0, .int .u64 0]) rfl) (p := ⟨B2, 0, none⟩) g12 (.string (⟨#[]⟩ : ByteArray))) (p := ⟨B2, 1, none⟩) g12 (.bool true))
      have hC1 := Aside0.mk (blk_put (blk_put (blk_far (blk_far (blk_far (blk_far hC.out (p := ⟨B1, 0, none⟩) (Ne.symm g12) (.int .u64 0)) (p := ⟨B1, 1, none⟩) (Ne.symm g12) (.int .u64 0)) (p := ⟨B1, 2, none⟩) (Ne.symm g12) (.int .u64 0)) (p := ⟨B1, 3, none⟩) (Ne.symm g12) (.int .u64 0)) 0 (.string (⟨#[]⟩ : ByteArray)) rfl) 1 (.bool true) (cs' := #[.string (⟨#[]⟩ : ByteArray), .bool true]) rfl)
      have HB1 := Aside0.mk (below_set (j := 1) (v := .bool true) (below_set (j := 0) (v := .string (⟨#[]⟩ : ByteArray)) (below_set (j := 3) (v := .int .u64 0) (below_set (j := 2) (v := .int .u64 0) (below_set (j := 1) (v := .int .u64 0) (below_set (j := 0) (v := .int .u64 0) HB.out GB.out) GB.out) GB.out) GB.out) GC.out) GC.out)
      clear hA hB hC HB
      generalize ((((((w1.setCell ⟨B1, 0, none⟩ (.int .u64 0)).setCell ⟨B1, 1, none⟩ (.int .u64 0)).setCell ⟨B1, 2, none⟩ (.int .u64 0)).setCell ⟨B1, 3, none⟩ (.int .u64 0)).setCell ⟨B2, 0, none⟩ (.string (⟨#[]⟩ : ByteArray))).setCell ⟨B2, 1, none⟩ (.bool true)) = W9 at *
      have d0 := (blk_cell hB1.out 0).trans rfl
      have d1 := (blk_cell hB1.out 1).trans rfl
      have d2 := (blk_cell hB1.out 2).trans rfl
      have d3 := (blk_cell hB1.out 3).trans rfl
      have d4 := (blk_cell hC1.out 0).trans rfl
      have d5 := (blk_cell hC1.out 1).trans rfl
      refine bodyPost_ret (v := .tuple #[.agg #[.int .u64 0, .int .u64 0, .int .u64 0, .int .u64 0], .agg #[.string (⟨#[]⟩ : ByteArray), .bool true]]) (by simp [results, Tryd.results56, go_sem, hu, hu2, hu3, d0, d1, d2, d3, d4, d5]) rfl ⟨rfl, HB1.out⟩
    | true =>
      rw [if_pos rfl] at h
      simp only [Option.some.injEq, Prod.mk.injEq] at h
      obtain ⟨rfl, rfl, rfl, rfl, rfl, rfl⟩ := h
      go_wp2_with (go_at_call 31; refine (vec_Right.calls n0 n1 n2 n3 true _ A4.out).mono ?_; rintro e w1 ⟨rfl, hb⟩; clear fb0 fb1 fb2 fb3 cb0 cb1 cb2 cb3 fc0 fc1 cc0 cc1 ca0 ca1; have hA1 := Aside0.mk (blk_below hA.out hb); have hB1 := Aside0.mk (blk_below hB.out hb); have hC1 := Aside0.mk (blk_below hC.out hb); have HB1 := Aside0.mk (below_step HB.out hb); clear hA hB hC HB; clear hb; have hA := hA1; have hB := hB1; have hC := hC1; have HB := HB1; clear hA1 hB1 hC1 HB1; have fb0 := blk_frozen hB.out 0; have fb1 := blk_frozen hB.out 1; have fb2 := blk_frozen hB.out 2; have fb3 := blk_frozen hB.out 3; have cb0 := (blk_cell hB.out 0).trans rfl; have cb1 := (blk_cell hB.out 1).trans rfl; have cb2 := (blk_cell hB.out 2).trans rfl; have cb3 := (blk_cell hB.out 3).trans rfl; have fc0 := blk_frozen hC.out 0; have fc1 := blk_frozen hC.out 1; have cc0 := (blk_cell hC.out 0).trans rfl; have cc1 := (blk_cell hC.out 1).trans rfl; have ca0 := (blk_cell hA.out 0).trans rfl; have ca1 := (blk_cell hA.out 1).trans rfl)
      go_region
      go_wp2
      clear fb0 fb1 fb2 fb3 cb0 cb1 cb2 cb3 fc0 fc1 cc0 cc1 ca0 ca1
      have hB1 := Aside0.mk (blk_drew (blk_far (blk_far (blk_put (blk_put (blk_put (blk_put hB.out 0 (.int .u64 n0) rfl) 1 (.int .u64 n1) rfl) 2 (.int .u64 n2) rfl) 3 (.int .u64 n3) (cs' := #[.int .u64 n0, .int .u64 n1, .int .u64 n2, .int .u64 n3]) rfl) (p := ⟨B2, 0, none⟩) g12 (.string s4)) (p := ⟨B2, 1, none⟩) g12 (.bool false)))
      have hC1 := Aside0.mk (blk_drew (blk_put (blk_put (blk_far (blk_far (blk_far (blk_far hC.out (p := ⟨B1, 0, none⟩) (Ne.symm g12) (.int .u64 n0)) (p := ⟨B1, 1, none⟩) (Ne.symm g12) (.int .u64 n1)) (p := ⟨B1, 2, none⟩) (Ne.symm g12) (.int .u64 n2)) (p := ⟨B1, 3, none⟩) (Ne.symm g12) (.int .u64 n3)) 0 (.string s4) rfl) 1 (.bool false) (cs' := #[.string s4, .bool false]) rfl))
      have HB1 := Aside0.mk (below_drew1 (below_set (j := 1) (v := .bool false) (below_set (j := 0) (v := .string s4) (below_set (j := 3) (v := .int .u64 n3) (below_set (j := 2) (v := .int .u64 n2) (below_set (j := 1) (v := .int .u64 n1) (below_set (j := 0) (v := .int .u64 n0) HB.out GB.out) GB.out) GB.out) GB.out) GC.out) GC.out))
      clear hA hB hC HB
      generalize ((((((w1.setCell ⟨B1, 0, none⟩ (.int .u64 n0)).setCell ⟨B1, 1, none⟩ (.int .u64 n1)).setCell ⟨B1, 2, none⟩ (.int .u64 n2)).setCell ⟨B1, 3, none⟩ (.int .u64 n3)).setCell ⟨B2, 0, none⟩ (.string s4)).setCell ⟨B2, 1, none⟩ (.bool false)).drew = W9 at *
      have d0 := (blk_cell hB1.out 0).trans rfl
      have d1 := (blk_cell hB1.out 1).trans rfl
      have d2 := (blk_cell hB1.out 2).trans rfl
      have d3 := (blk_cell hB1.out 3).trans rfl
      have d4 := (blk_cell hC1.out 0).trans rfl
      have d5 := (blk_cell hC1.out 1).trans rfl
      refine bodyPost_ret (v := .tuple #[.agg #[.int .u64 n0, .int .u64 n1, .int .u64 n2, .int .u64 n3], .agg #[.string s4, .bool false]]) (by simp [results, Tryd.results56, go_sem, hu, hu2, hu3, d0, d1, d2, d3, d4, d5]) rfl ⟨rfl, HB1.out⟩


end Go.Proofs.YtdlagefpglhdoaaDoor.Q

-- Written by this session's own driver (wip/hybrid.py) of the kit's printer; contracts marked FOREIGN are by hand.
namespace Go.Proofs.YtdlagefpglhdoaaDoor.Q
open Go.RowKit Go.Proofs.YtdlagefpglhdoaaDoorW.PrintWords Go.Proofs.YtdlagefpglhdoaaDoorW.PrintLast Go.Proofs.YtdlagefpglhdoaaDoorW.PrintMore
attribute [local go_sem] max2_int min2_int max_two min_two max_three min_three max_four min_four   -- for this text's walks alone
set_option linter.unusedVariables false
set_option linter.unusedSimpArgs false

/-! ### tenementlaw07_Vector_vector: function 11 -/
def tenementlaw07_Vector_vector.l0 : Nat → Int → Int → Int → Int → Int → Bool → Option (Int × Int × Int × Int)
  | 0, _, _, _, _, _, _ => none
  | k + 1, x3, x214000, x214001, x214002, x214003, x214004 => if x3 < 4 then (if x3 = 0 then (tenementlaw07_Vector_vector.l0 k (wrap64 (x3 + 1)) (Int.tmod x214000 4) x214001 x214002 x214003 x214004) else (if x3 = 1 then (tenementlaw07_Vector_vector.l0 k (wrap64 (x3 + 1)) x214000 (Int.tmod x214001 4) x214002 x214003 x214004) else (if x3 = 2 then (tenementlaw07_Vector_vector.l0 k (wrap64 (x3 + 1)) x214000 x214001 (Int.tmod x214002 4) x214003 x214004) else (if x3 = 3 then (tenementlaw07_Vector_vector.l0 k (wrap64 (x3 + 1)) x214000 x214001 x214002 (Int.tmod x214003 4) x214004) else (none))))) else (some (x214000, x214001, x214002, x214003))
def tenementlaw07_Vector_vector.f (k : Nat) (a0_0 : Int) (a0_1 : Int) (a0_2 : Int) (a0_3 : Int) (a0_4 : Bool) : Option (Int × Int × Int × Int) := if a0_4 = true then (tenementlaw07_Vector_vector.l0 k 0 a0_0 a0_1 a0_2 a0_3 a0_4) else (some (a0_0, a0_1, a0_2, a0_3))
theorem tenementlaw07_Vector_vector.mono_l : ∀ k, (∀ y0 y1 y2 y3 y4 y5, LeO (tenementlaw07_Vector_vector.l0 k y0 y1 y2 y3 y4 y5) (tenementlaw07_Vector_vector.l0 (k + 1) y0 y1 y2 y3 y4 y5))
  | 0 => fun _ _ _ _ _ _ r h => by simp [tenementlaw07_Vector_vector.l0] at h
  | k + 1 => by
    have ih0 := tenementlaw07_Vector_vector.mono_l k
    · intro y0 y1 y2 y3 y4 y5
      unfold tenementlaw07_Vector_vector.l0
      repeat' first
      | (with_reducible exact ih0 _ _ _ _ _ _)
      | (with_reducible exact LeO.refl _)
      | (with_reducible exact LeO.none _)
      | (with_reducible refine LeO.ite ?_ ?_)
      | (with_reducible refine LeO.bind ?_ (fun _ => ?_))
      | exact ih0 _ _ _ _ _ _
      | exact LeO.none _
      | refine LeO.ite ?_ ?_
      | refine LeO.bind ?_ (fun _ => ?_)
theorem tenementlaw07_Vector_vector.mono : ∀ a0 a1 a2 a3 a4 k, LeO (tenementlaw07_Vector_vector.f k a0 a1 a2 a3 a4) (tenementlaw07_Vector_vector.f (k + 1) a0 a1 a2 a3 a4) := by
  intro a0 a1 a2 a3 a4 k
  have ih0 := tenementlaw07_Vector_vector.mono_l k
  unfold tenementlaw07_Vector_vector.f
  repeat' first
      | (with_reducible exact ih0 _ _ _ _ _ _)
      | (with_reducible exact LeO.refl _)
      | (with_reducible exact LeO.none _)
      | (with_reducible refine LeO.ite ?_ ?_)
      | (with_reducible refine LeO.bind ?_ (fun _ => ?_))
      | exact ih0 _ _ _ _ _ _
      | exact LeO.none _
      | refine LeO.ite ?_ ?_
      | refine LeO.bind ?_ (fun _ => ?_)
set_option maxHeartbeats 8000000 in
set_option maxRecDepth 100000 in
theorem tenementlaw07_Vector_vector.calls (k : Nat) (a0_0 : Int) (a0_1 : Int) (a0_2 : Int) (a0_3 : Int) (a0_4 : Bool) (r1 : Int) (r2 : Int) (r3 : Int) (r4 : Int) (w : World) (h : tenementlaw07_Vector_vector.f k a0_0 a0_1 a0_2 a0_3 a0_4 = some (r1, r2, r3, r4)) :
    Calls Tryd.prog 11 #[.agg #[.int .u64 a0_0, .int .u64 a0_1, .int .u64 a0_2, .int .u64 a0_3, .bool a0_4]] w fun e w' => e = .returned (.agg #[.int .u64 r1, .int .u64 r2, .int .u64 r3, .int .u64 r4]) ∧ Below w.heap.size w w' := by
  have hu30 := Tryd.underlying30
  have hu24 := Tryd.underlying24
  have HB := Aside0.mk (Below.refl w.heap.size w)
  have H : (if a0_4 = true then (tenementlaw07_Vector_vector.l0 k 0 a0_0 a0_1 a0_2 a0_3 a0_4) else (some (a0_0, a0_1, a0_2, a0_3))) = some (r1, r2, r3, r4) := h
  clear h
  by_cases c2 : a0_4 = true
  rotate_left
  · replace c2 := Bool.eq_false_iff.mpr c2
    subst c2
    have H1 : (some (a0_0, a0_1, a0_2, a0_3)) = some (r1, r2, r3, r4) := by rw [if_neg (show ¬ (false = true) by decide)] at H; exact H
    clear H
    have H := H1
    clear H1
    simp only [Option.some.injEq, Prod.mk.injEq] at H
    obtain ⟨rfl, rfl, rfl, rfl⟩ := H
    go_enter Tryd.func11, Tryd.ntmps11
    go_wp2_with (first | ((with_reducible refine gate_dst (N := 1) rfl ?_); refine box_event ?hg (N := 1) ?hd (cs := #[.int .u64 a0_0, .int .u64 a0_1, .int .u64 a0_2, .int .u64 a0_3, .bool false]) (t := 30) ?hr ?_; (case hd => rfl); (case hg => rfl); (case hr => first | (go_simp; done) | (go_simp; rfl)); intro gb213 hg w23 hbox hb; have BK213 := Aside0.mk (hbox); have GW213 := Kw_ HB hg; have GE213 := GW213; replace HB := Ks_ HB hb; clear hb hbox hg) | ((with_reducible refine gate_dst (N := 2) rfl ?_); refine box_event ?hg (N := 2) ?hd (cs := #[.int .u64 0, .int .u64 0, .int .u64 0, .int .u64 0]) (t := 24) ?hr ?_; (case hd => rfl); (case hg => rfl); (case hr => first | (go_simp; done) | (go_simp; rfl)); intro gb214 hg w24 hbox hb; have BK214 := Aside0.mk (hbox); have GW214 := Kw_ HB hg; have GE214 := GW214; have NB213_214 := Kl_ BK213 hg; have NB214_213 := Kr_ BK213 hg; replace BK213 := Kb_ BK213 hb; replace HB := Ks_ HB hb; clear hb hbox hg; have hnb25 := NB213_214.out; have hnc25 := NB214_213.out; obtain ⟨hcz26_0, hcz26_1, hcz26_2, hcz26_3, hcz26_4, hfz26_0, hfz26_1, hfz26_2, hfz26_3, hfz26_4⟩ := Ke5_ BK213.out; obtain ⟨hcz27_0, hcz27_1, hcz27_2, hcz27_3, hfz27_0, hfz27_1, hfz27_2, hfz27_3⟩ := Ke4_ BK214.out))
    refine bodyPost_ret (results_cell_row rfl _ _ gb214 24 #[.int .u64 a0_0, .int .u64 a0_1, .int .u64 a0_2, .int .u64 a0_3] (0, 0) _ rfl (by (with_reducible repeat (first | refine blk_drewN ?_ _ | refine blk_drew ?_ | refine blk_alloc ?_ _)); refine blk_put (cs := #[.int .u64 a0_0, .int .u64 a0_1, .int .u64 a0_2, .int .u64 0]) ?_ 3 _ rfl; (with_reducible repeat (first | refine blk_drewN ?_ _ | refine blk_drew ?_ | refine blk_alloc ?_ _)); refine blk_put (cs := #[.int .u64 a0_0, .int .u64 a0_1, .int .u64 0, .int .u64 0]) ?_ 2 _ rfl; (with_reducible repeat (first | refine blk_drewN ?_ _ | refine blk_drew ?_ | refine blk_alloc ?_ _)); refine blk_put (cs := #[.int .u64 a0_0, .int .u64 0, .int .u64 0, .int .u64 0]) ?_ 1 _ rfl; (with_reducible repeat (first | refine blk_drewN ?_ _ | refine blk_drew ?_ | refine blk_alloc ?_ _)); refine blk_put (cs := #[.int .u64 0, .int .u64 0, .int .u64 0, .int .u64 0]) ?_ 0 _ rfl; (with_reducible repeat (first | refine blk_drewN ?_ _ | refine blk_drew ?_ | refine blk_alloc ?_ _)); exact BK214.out) Tryd.underlying24 rfl (by kernel_rfl)) rfl ?_
    exact ⟨by first | rfl | (simp [errW_none, errW_some] <;> rfl) | (simp [*, errW_none, errW_some] <;> rfl), by repeat (first | (with_reducible first | exact HB.out | apply below_alloc | apply pw_below_drewN | apply below_drew1 | refine below_set ?_ GE213.out | refine below_set ?_ GE214.out) | exact HB.out)⟩
  subst c2
  have H1 : (tenementlaw07_Vector_vector.l0 k 0 a0_0 a0_1 a0_2 a0_3 true) = some (r1, r2, r3, r4) := by rw [if_pos rfl] at H; exact H
  clear H
  have H := H1
  clear H1
  have H' := Aside0.mk H
  clear H
  go_enter Tryd.func11, Tryd.ntmps11
  go_wp2_with (first | ((with_reducible refine gate_dst (N := 1) rfl ?_); refine box_event ?hg (N := 1) ?hd (cs := #[.int .u64 a0_0, .int .u64 a0_1, .int .u64 a0_2, .int .u64 a0_3, .bool true]) (t := 30) ?hr ?_; (case hd => rfl); (case hg => rfl); (case hr => first | (go_simp; done) | (go_simp; rfl)); intro gb213 hg w3 hbox hb; have BK213 := Aside0.mk (hbox); have GW213 := Kw_ HB hg; have GE213 := GW213; replace HB := Ks_ HB hb; clear hb hbox hg) | ((with_reducible refine gate_dst (N := 2) rfl ?_); refine box_event ?hg (N := 2) ?hd (cs := #[.int .u64 0, .int .u64 0, .int .u64 0, .int .u64 0]) (t := 24) ?hr ?_; (case hd => rfl); (case hg => rfl); (case hr => first | (go_simp; done) | (go_simp; rfl)); intro gb214 hg w4 hbox hb; have BK214 := Aside0.mk (hbox); have GW214 := Kw_ HB hg; have GE214 := GW214; have NB213_214 := Kl_ BK213 hg; have NB214_213 := Kr_ BK213 hg; replace BK213 := Kb_ BK213 hb; replace HB := Ks_ HB hb; clear hb hbox hg; have hnb5 := NB213_214.out; have hnc5 := NB214_213.out; obtain ⟨hcz6_0, hcz6_1, hcz6_2, hcz6_3, hcz6_4, hfz6_0, hfz6_1, hfz6_2, hfz6_3, hfz6_4⟩ := Ke5_ BK213.out))
  go_loopg [3] k (fun kq v3 w' => ∃ (x3_1 : Int) (x214000_1 : Int) (x214001_1 : Int) (x214002_1 : Int) (x214003_1 : Int), v3 = .int .i64 x3_1 ∧ Aside0 (tenementlaw07_Vector_vector.l0 kq x3_1 x214000_1 x214001_1 x214002_1 x214003_1 true = some (r1, r2, r3, r4)) ∧ Aside0 (kq ≤ k) ∧ Aside0 (w'.heap[gb213]? = some (.cells #[.int .u64 x214000_1, .int .u64 x214001_1, .int .u64 x214002_1, .int .u64 x214003_1, .bool true] 30 (0, 0))) ∧ Aside0 (w'.heap[gb214]? = some (.cells #[.int .u64 0, .int .u64 0, .int .u64 0, .int .u64 0] 24 (0, 0))) ∧ Aside0 (Below w.heap.size w w'))
  case atStart => exact ⟨(0), (a0_0), (a0_1), (a0_2), (a0_3), (by first | rfl | (simp; done) | (simp [*]; done)), H', ⟨Nat.le_refl _⟩, ⟨by (with_reducible repeat (first | refine blk_drewN ?_ _ | refine blk_drew ?_ | refine blk_alloc ?_ _)); exact BK213.out⟩, ⟨by (with_reducible repeat (first | refine blk_drewN ?_ _ | refine blk_drew ?_ | refine blk_alloc ?_ _)); exact BK214.out⟩, ⟨by repeat (first | (with_reducible first | exact HB.out | apply below_alloc | apply pw_below_drewN | apply below_drew1 | refine below_set ?_ GE213.out | refine below_set ?_ GE214.out) | exact HB.out)⟩⟩
  case round =>
    clear H'
    try clear c1
    try clear c2
    try clear p2
    try clear c5
    try clear hcz6_0
    try clear hcz6_1
    try clear hcz6_2
    try clear hcz6_3
    try clear hcz6_4
    try clear hfz6_0
    try clear hfz6_1
    try clear hfz6_2
    try clear hfz6_3
    try clear hfz6_4
    obtain ⟨x3_1, x214000_1, x214001_1, x214002_1, x214003_1, rfl, HA, HK1, BK213, BK214, HB⟩ := hrel
    cases gk with
    | zero => exact absurd HA.out (by simp [tenementlaw07_Vector_vector.l0])
    | succ k1 =>
      have H := HA.out
      clear HA
      simp only [tenementlaw07_Vector_vector.l0] at H
      by_cases c7 : x3_1 < 4
      rotate_left
      · rw [if_neg c7] at H
        have c7b0 : decide (x3_1 < 4) = false := decide_eq_false c7
        clear c7
        simp only [Option.some.injEq, Prod.mk.injEq] at H
        obtain ⟨rfl, rfl, rfl, rfl⟩ := H
        have hnb20 := NB213_214.out
        have hnc20 := NB214_213.out
        have hcz21_0 : wr.cell? ⟨gb213, 0, none⟩ = some (.int .u64 x214000_1) := (blk_cell BK213.out 0).trans rfl
        have hcz21_1 : wr.cell? ⟨gb213, 1, none⟩ = some (.int .u64 x214001_1) := (blk_cell BK213.out 1).trans rfl
        have hcz21_2 : wr.cell? ⟨gb213, 2, none⟩ = some (.int .u64 x214002_1) := (blk_cell BK213.out 2).trans rfl
        have hcz21_3 : wr.cell? ⟨gb213, 3, none⟩ = some (.int .u64 x214003_1) := (blk_cell BK213.out 3).trans rfl
        have hcz21_4 : wr.cell? ⟨gb213, 4, none⟩ = some (.bool true) := (blk_cell BK213.out 4).trans rfl
        have hfz21_0 := blk_frozen BK213.out 0
        have hfz21_1 := blk_frozen BK213.out 1
        have hfz21_2 := blk_frozen BK213.out 2
        have hfz21_3 := blk_frozen BK213.out 3
        have hfz21_4 := blk_frozen BK213.out 4
        have hcz22_0 : wr.cell? ⟨gb214, 0, none⟩ = some (.int .u64 0) := (blk_cell BK214.out 0).trans rfl
        have hcz22_1 : wr.cell? ⟨gb214, 1, none⟩ = some (.int .u64 0) := (blk_cell BK214.out 1).trans rfl
        have hcz22_2 : wr.cell? ⟨gb214, 2, none⟩ = some (.int .u64 0) := (blk_cell BK214.out 2).trans rfl
        have hcz22_3 : wr.cell? ⟨gb214, 3, none⟩ = some (.int .u64 0) := (blk_cell BK214.out 3).trans rfl
        have hfz22_0 := blk_frozen BK214.out 0
        have hfz22_1 := blk_frozen BK214.out 1
        have hfz22_2 := blk_frozen BK214.out 2
        have hfz22_3 := blk_frozen BK214.out 3
        go_wp2
        refine bodyPost_ret (results_cell_row rfl _ _ gb214 24 #[.int .u64 x214000_1, .int .u64 x214001_1, .int .u64 x214002_1, .int .u64 x214003_1] (0, 0) _ rfl (by (with_reducible repeat (first | refine blk_drewN ?_ _ | refine blk_drew ?_ | refine blk_alloc ?_ _)); refine blk_put (cs := #[.int .u64 x214000_1, .int .u64 x214001_1, .int .u64 x214002_1, .int .u64 0]) ?_ 3 _ rfl; (with_reducible repeat (first | refine blk_drewN ?_ _ | refine blk_drew ?_ | refine blk_alloc ?_ _)); refine blk_put (cs := #[.int .u64 x214000_1, .int .u64 x214001_1, .int .u64 0, .int .u64 0]) ?_ 2 _ rfl; (with_reducible repeat (first | refine blk_drewN ?_ _ | refine blk_drew ?_ | refine blk_alloc ?_ _)); refine blk_put (cs := #[.int .u64 x214000_1, .int .u64 0, .int .u64 0, .int .u64 0]) ?_ 1 _ rfl; (with_reducible repeat (first | refine blk_drewN ?_ _ | refine blk_drew ?_ | refine blk_alloc ?_ _)); refine blk_put (cs := #[.int .u64 0, .int .u64 0, .int .u64 0, .int .u64 0]) ?_ 0 _ rfl; (with_reducible repeat (first | refine blk_drewN ?_ _ | refine blk_drew ?_ | refine blk_alloc ?_ _)); exact BK214.out) Tryd.underlying24 rfl (by kernel_rfl)) rfl ?_
        exact ⟨by first | rfl | (simp [errW_none, errW_some] <;> rfl) | (simp [*, errW_none, errW_some] <;> rfl), by repeat (first | (with_reducible first | exact HB.out | apply below_alloc | apply pw_below_drewN | apply below_drew1 | refine below_set ?_ GE213.out | refine below_set ?_ GE214.out) | exact HB.out)⟩
      rw [if_pos c7] at H
      have c7b0 : decide (x3_1 < 4) = true := decide_eq_true c7
      clear c7
      by_cases c8 : x3_1 = 0
      · subst c8
        have H1 : (tenementlaw07_Vector_vector.l0 k1 1 (Int.tmod x214000_1 4) x214001_1 x214002_1 x214003_1 true) = some (r1, r2, r3, r4) := by rw [if_pos rfl] at H; (try simp only [show wrap64 ((0 : Int) + 1) = 1 from by first | rfl | decide | (unfold wrap64; omega), show wrap64 ((0 : Int) - 1) = -1 from by first | rfl | decide | (unfold wrap64; omega)] at H); exact H
        clear H
        have H := H1
        clear H1
        have H' := Aside0.mk H
        clear H
        have hnb9 := NB213_214.out
        have hnc9 := NB214_213.out
        have hcz10_0 : wr.cell? ⟨gb213, 0, none⟩ = some (.int .u64 x214000_1) := (blk_cell BK213.out 0).trans rfl
        have hcz10_1 : wr.cell? ⟨gb213, 1, none⟩ = some (.int .u64 x214001_1) := (blk_cell BK213.out 1).trans rfl
        have hcz10_2 : wr.cell? ⟨gb213, 2, none⟩ = some (.int .u64 x214002_1) := (blk_cell BK213.out 2).trans rfl
        have hcz10_3 : wr.cell? ⟨gb213, 3, none⟩ = some (.int .u64 x214003_1) := (blk_cell BK213.out 3).trans rfl
        have hcz10_4 : wr.cell? ⟨gb213, 4, none⟩ = some (.bool true) := (blk_cell BK213.out 4).trans rfl
        have hfz10_0 := blk_frozen BK213.out 0
        have hfz10_1 := blk_frozen BK213.out 1
        have hfz10_2 := blk_frozen BK213.out 2
        have hfz10_3 := blk_frozen BK213.out 3
        have hfz10_4 := blk_frozen BK213.out 4
        go_wp2
        go_roundg k1
        case measure => have := HK1.out; omega
        case rel => exact ⟨(1), (Int.tmod x214000_1 4), (x214001_1), (x214002_1), (x214003_1), (by first | rfl | (simp; done) | (simp [*]; done)), H', ⟨by have := HK1.out; omega⟩, ⟨by (with_reducible repeat (first | refine blk_drewN ?_ _ | refine blk_drew ?_ | refine blk_alloc ?_ _)); refine blk_put (cs := #[.int .u64 x214000_1, .int .u64 x214001_1, .int .u64 x214002_1, .int .u64 x214003_1, .bool true]) ?_ 0 _ rfl; (with_reducible repeat (first | refine blk_drewN ?_ _ | refine blk_drew ?_ | refine blk_alloc ?_ _)); exact BK213.out⟩, ⟨by (repeat (first | (with_reducible first | refine blk_drewN ?_ _ | refine blk_drew ?_ | refine blk_alloc ?_ _) | refine blk_far ?_ NB214_213.out _)); exact BK214.out⟩, ⟨by repeat (first | (with_reducible first | exact HB.out | apply below_alloc | apply pw_below_drewN | apply below_drew1 | refine below_set ?_ GE213.out | refine below_set ?_ GE214.out) | exact HB.out)⟩⟩
      rw [if_neg c8] at H
      by_cases c11 : x3_1 = 1
      · subst c11
        have H1 : (tenementlaw07_Vector_vector.l0 k1 2 x214000_1 (Int.tmod x214001_1 4) x214002_1 x214003_1 true) = some (r1, r2, r3, r4) := by rw [if_pos rfl] at H; (try simp only [show wrap64 ((1 : Int) + 1) = 2 from by first | rfl | decide | (unfold wrap64; omega), show wrap64 ((1 : Int) - 1) = 0 from by first | rfl | decide | (unfold wrap64; omega)] at H); exact H
        clear H
        have H := H1
        clear H1
        have H' := Aside0.mk H
        clear H
        have hnb12 := NB213_214.out
        have hnc12 := NB214_213.out
        have hcz13_0 : wr.cell? ⟨gb213, 0, none⟩ = some (.int .u64 x214000_1) := (blk_cell BK213.out 0).trans rfl
        have hcz13_1 : wr.cell? ⟨gb213, 1, none⟩ = some (.int .u64 x214001_1) := (blk_cell BK213.out 1).trans rfl
        have hcz13_2 : wr.cell? ⟨gb213, 2, none⟩ = some (.int .u64 x214002_1) := (blk_cell BK213.out 2).trans rfl
        have hcz13_3 : wr.cell? ⟨gb213, 3, none⟩ = some (.int .u64 x214003_1) := (blk_cell BK213.out 3).trans rfl
        have hcz13_4 : wr.cell? ⟨gb213, 4, none⟩ = some (.bool true) := (blk_cell BK213.out 4).trans rfl
        have hfz13_0 := blk_frozen BK213.out 0
        have hfz13_1 := blk_frozen BK213.out 1
        have hfz13_2 := blk_frozen BK213.out 2
        have hfz13_3 := blk_frozen BK213.out 3
        have hfz13_4 := blk_frozen BK213.out 4
        go_wp2
        go_roundg k1
        case measure => have := HK1.out; omega
        case rel => exact ⟨(2), (x214000_1), (Int.tmod x214001_1 4), (x214002_1), (x214003_1), (by first | rfl | (simp; done) | (simp [*]; done)), H', ⟨by have := HK1.out; omega⟩, ⟨by (with_reducible repeat (first | refine blk_drewN ?_ _ | refine blk_drew ?_ | refine blk_alloc ?_ _)); refine blk_put (cs := #[.int .u64 x214000_1, .int .u64 x214001_1, .int .u64 x214002_1, .int .u64 x214003_1, .bool true]) ?_ 1 _ rfl; (with_reducible repeat (first | refine blk_drewN ?_ _ | refine blk_drew ?_ | refine blk_alloc ?_ _)); exact BK213.out⟩, ⟨by (repeat (first | (with_reducible first | refine blk_drewN ?_ _ | refine blk_drew ?_ | refine blk_alloc ?_ _) | refine blk_far ?_ NB214_213.out _)); exact BK214.out⟩, ⟨by repeat (first | (with_reducible first | exact HB.out | apply below_alloc | apply pw_below_drewN | apply below_drew1 | refine below_set ?_ GE213.out | refine below_set ?_ GE214.out) | exact HB.out)⟩⟩
      rw [if_neg c11] at H
      by_cases c14 : x3_1 = 2
      · subst c14
        have H1 : (tenementlaw07_Vector_vector.l0 k1 3 x214000_1 x214001_1 (Int.tmod x214002_1 4) x214003_1 true) = some (r1, r2, r3, r4) := by rw [if_pos rfl] at H; (try simp only [show wrap64 ((2 : Int) + 1) = 3 from by first | rfl | decide | (unfold wrap64; omega), show wrap64 ((2 : Int) - 1) = 1 from by first | rfl | decide | (unfold wrap64; omega)] at H); exact H
        clear H
        have H := H1
        clear H1
        have H' := Aside0.mk H
        clear H
        have hnb15 := NB213_214.out
        have hnc15 := NB214_213.out
        have hcz16_0 : wr.cell? ⟨gb213, 0, none⟩ = some (.int .u64 x214000_1) := (blk_cell BK213.out 0).trans rfl
        have hcz16_1 : wr.cell? ⟨gb213, 1, none⟩ = some (.int .u64 x214001_1) := (blk_cell BK213.out 1).trans rfl
        have hcz16_2 : wr.cell? ⟨gb213, 2, none⟩ = some (.int .u64 x214002_1) := (blk_cell BK213.out 2).trans rfl
        have hcz16_3 : wr.cell? ⟨gb213, 3, none⟩ = some (.int .u64 x214003_1) := (blk_cell BK213.out 3).trans rfl
        have hcz16_4 : wr.cell? ⟨gb213, 4, none⟩ = some (.bool true) := (blk_cell BK213.out 4).trans rfl
        have hfz16_0 := blk_frozen BK213.out 0
        have hfz16_1 := blk_frozen BK213.out 1
        have hfz16_2 := blk_frozen BK213.out 2
        have hfz16_3 := blk_frozen BK213.out 3
        have hfz16_4 := blk_frozen BK213.out 4
        go_wp2
        go_roundg k1
        case measure => have := HK1.out; omega
        case rel => exact ⟨(3), (x214000_1), (x214001_1), (Int.tmod x214002_1 4), (x214003_1), (by first | rfl | (simp; done) | (simp [*]; done)), H', ⟨by have := HK1.out; omega⟩, ⟨by (with_reducible repeat (first | refine blk_drewN ?_ _ | refine blk_drew ?_ | refine blk_alloc ?_ _)); refine blk_put (cs := #[.int .u64 x214000_1, .int .u64 x214001_1, .int .u64 x214002_1, .int .u64 x214003_1, .bool true]) ?_ 2 _ rfl; (with_reducible repeat (first | refine blk_drewN ?_ _ | refine blk_drew ?_ | refine blk_alloc ?_ _)); exact BK213.out⟩, ⟨by (repeat (first | (with_reducible first | refine blk_drewN ?_ _ | refine blk_drew ?_ | refine blk_alloc ?_ _) | refine blk_far ?_ NB214_213.out _)); exact BK214.out⟩, ⟨by repeat (first | (with_reducible first | exact HB.out | apply below_alloc | apply pw_below_drewN | apply below_drew1 | refine below_set ?_ GE213.out | refine below_set ?_ GE214.out) | exact HB.out)⟩⟩
      rw [if_neg c14] at H
      by_cases c17 : x3_1 = 3
      rotate_left
      · rw [if_neg c17] at H
        exact absurd H (by simp)
      subst c17
      have H1 : (tenementlaw07_Vector_vector.l0 k1 4 x214000_1 x214001_1 x214002_1 (Int.tmod x214003_1 4) true) = some (r1, r2, r3, r4) := by rw [if_pos rfl] at H; (try simp only [show wrap64 ((3 : Int) + 1) = 4 from by first | rfl | decide | (unfold wrap64; omega), show wrap64 ((3 : Int) - 1) = 2 from by first | rfl | decide | (unfold wrap64; omega)] at H); exact H
      clear H
      have H := H1
      clear H1
      have H' := Aside0.mk H
      clear H
      have hnb18 := NB213_214.out
      have hnc18 := NB214_213.out
      have hcz19_0 : wr.cell? ⟨gb213, 0, none⟩ = some (.int .u64 x214000_1) := (blk_cell BK213.out 0).trans rfl
      have hcz19_1 : wr.cell? ⟨gb213, 1, none⟩ = some (.int .u64 x214001_1) := (blk_cell BK213.out 1).trans rfl
      have hcz19_2 : wr.cell? ⟨gb213, 2, none⟩ = some (.int .u64 x214002_1) := (blk_cell BK213.out 2).trans rfl
      have hcz19_3 : wr.cell? ⟨gb213, 3, none⟩ = some (.int .u64 x214003_1) := (blk_cell BK213.out 3).trans rfl
      have hcz19_4 : wr.cell? ⟨gb213, 4, none⟩ = some (.bool true) := (blk_cell BK213.out 4).trans rfl
      have hfz19_0 := blk_frozen BK213.out 0
      have hfz19_1 := blk_frozen BK213.out 1
      have hfz19_2 := blk_frozen BK213.out 2
      have hfz19_3 := blk_frozen BK213.out 3
      have hfz19_4 := blk_frozen BK213.out 4
      go_wp2
      go_roundg k1
      case measure => have := HK1.out; omega
      case rel => exact ⟨(4), (x214000_1), (x214001_1), (x214002_1), (Int.tmod x214003_1 4), (by first | rfl | (simp; done) | (simp [*]; done)), H', ⟨by have := HK1.out; omega⟩, ⟨by (with_reducible repeat (first | refine blk_drewN ?_ _ | refine blk_drew ?_ | refine blk_alloc ?_ _)); refine blk_put (cs := #[.int .u64 x214000_1, .int .u64 x214001_1, .int .u64 x214002_1, .int .u64 x214003_1, .bool true]) ?_ 3 _ rfl; (with_reducible repeat (first | refine blk_drewN ?_ _ | refine blk_drew ?_ | refine blk_alloc ?_ _)); exact BK213.out⟩, ⟨by (repeat (first | (with_reducible first | refine blk_drewN ?_ _ | refine blk_drew ?_ | refine blk_alloc ?_ _) | refine blk_far ?_ NB214_213.out _)); exact BK214.out⟩, ⟨by repeat (first | (with_reducible first | exact HB.out | apply below_alloc | apply pw_below_drewN | apply below_drew1 | refine below_set ?_ GE213.out | refine below_set ?_ GE214.out) | exact HB.out)⟩⟩

end Go.Proofs.YtdlagefpglhdoaaDoor.Q

-- Written by this session's own driver (wip/hybrid.py) of the kit's printer; contracts marked FOREIGN are by hand.
namespace Go.Proofs.YtdlagefpglhdoaaDoor.Q
open Go.RowKit Go.Proofs.YtdlagefpglhdoaaDoorW.PrintWords Go.Proofs.YtdlagefpglhdoaaDoorW.PrintLast Go.Proofs.YtdlagefpglhdoaaDoorW.PrintMore
attribute [local go_sem] max2_int min2_int max_two min_two max_three min_three max_four min_four   -- for this text's walks alone
set_option linter.unusedVariables false
set_option linter.unusedSimpArgs false

/-! ### tenementref06_At: function 41 -/
-- FOREIGN: an index into an array that is reckoned
def tenementref06_At.f (a0_0 a0_1 a0_2 a0_3 n : Int) : Option Int := some (if n = 1 then a0_0 else if n = 2 then a0_1 else if n = 3 then a0_2 else if n = 4 then a0_3 else 0)
set_option maxHeartbeats 8000000 in
set_option maxRecDepth 100000 in
theorem tenementref06_At.calls (a0_0 a0_1 a0_2 a0_3 n : Int) (r : Int) (w : World) (h : tenementref06_At.f a0_0 a0_1 a0_2 a0_3 n = some r) :
    Calls Tryd.prog 41 #[.agg #[.int .u64 a0_0, .int .u64 a0_1, .int .u64 a0_2, .int .u64 a0_3], .int .i64 n] w fun e w' => e = .returned (.int .u64 r) ∧ Below w.heap.size w w' := by
  unfold tenementref06_At.f at h
  obtain rfl := Option.some.inj h
  clear h
  have hu := Tryd.underlying37
  by_cases c0 : n = 1
  · subst c0
    go_enter Tryd.func41, Tryd.ntmps41
    go_wp2
    go_ret
    exact ⟨by first | rfl | simp, by first | exact below_alloc (Below.refl _ _) _ | (repeat (first | exact Below.refl _ _ | apply below_alloc | apply pw_below_drewN | apply below_drew1))⟩
  by_cases c1 : n = 2
  · subst c1
    go_enter Tryd.func41, Tryd.ntmps41
    go_wp2
    go_ret
    exact ⟨by first | rfl | simp, by first | exact below_alloc (Below.refl _ _) _ | (repeat (first | exact Below.refl _ _ | apply below_alloc | apply pw_below_drewN | apply below_drew1))⟩
  by_cases c2 : n = 3
  · subst c2
    go_enter Tryd.func41, Tryd.ntmps41
    go_wp2
    go_ret
    exact ⟨by first | rfl | simp, by first | exact below_alloc (Below.refl _ _) _ | (repeat (first | exact Below.refl _ _ | apply below_alloc | apply pw_below_drewN | apply below_drew1))⟩
  by_cases c3 : n = 4
  · subst c3
    go_enter Tryd.func41, Tryd.ntmps41
    go_wp2
    go_ret
    exact ⟨by first | rfl | simp, by first | exact below_alloc (Below.refl _ _) _ | (repeat (first | exact Below.refl _ _ | apply below_alloc | apply pw_below_drewN | apply below_drew1))⟩
  rw [if_neg c0, if_neg c1, if_neg c2, if_neg c3]
  have b1 : (decide (1 ≤ n) = false ∧ decide (n < 1) = true) ∨ (decide (1 ≤ n) = true ∧ decide (n < 1) = false ∧ decide (n ≤ 4) = false ∧ decide (4 < n) = true) := by
    by_cases h : 1 ≤ n
    · exact Or.inr ⟨decide_eq_true h, decide_eq_false (by omega), decide_eq_false (by omega), decide_eq_true (by omega)⟩
    · exact Or.inl ⟨decide_eq_false h, decide_eq_true (by omega)⟩
  clear c0 c1 c2 c3
  rcases b1 with ⟨b1, b2⟩ | ⟨b1, b2, b3, b4⟩
  · go_enter Tryd.func41, Tryd.ntmps41
    go_wp2
    go_ret
    exact ⟨by first | rfl | simp, by first | exact below_alloc (Below.refl _ _) _ | (repeat (first | exact Below.refl _ _ | apply below_alloc | apply pw_below_drewN | apply below_drew1))⟩
  · go_enter Tryd.func41, Tryd.ntmps41
    go_wp2
    go_ret
    exact ⟨by first | rfl | simp, by first | exact below_alloc (Below.refl _ _) _ | (repeat (first | exact Below.refl _ _ | apply below_alloc | apply pw_below_drewN | apply below_drew1))⟩


end Go.Proofs.YtdlagefpglhdoaaDoor.Q

-- Written by this session's own driver (wip/hybrid.py) of the kit's printer; contracts marked FOREIGN are by hand.
namespace Go.Proofs.YtdlagefpglhdoaaDoor.Q
open Go.RowKit Go.Proofs.YtdlagefpglhdoaaDoorW.PrintWords Go.Proofs.YtdlagefpglhdoaaDoorW.PrintLast Go.Proofs.YtdlagefpglhdoaaDoorW.PrintMore
attribute [local go_sem] max2_int min2_int max_two min_two max_three min_three max_four min_four   -- for this text's walks alone
set_option linter.unusedVariables false
set_option linter.unusedSimpArgs false

/-! ### tenementref07_Stamp_N: function 20 -/
def tenementref07_Stamp_N.f (a0_0 : Int) (a0_1 : Int) (a0_2 : Int) (a0_3 : Int) (a0_4 : Int) : Option (Int) := (tenementref06_At.f a0_0 a0_1 a0_2 a0_3 a0_4).bind fun t216 => (some t216)
set_option maxHeartbeats 8000000 in
set_option maxRecDepth 100000 in
theorem tenementref07_Stamp_N.calls (a0_0 : Int) (a0_1 : Int) (a0_2 : Int) (a0_3 : Int) (a0_4 : Int) (r : Int) (w : World) (h : tenementref07_Stamp_N.f a0_0 a0_1 a0_2 a0_3 a0_4 = some r) :
    Calls Tryd.prog 20 #[.agg #[.int .u64 a0_0, .int .u64 a0_1, .int .u64 a0_2, .int .u64 a0_3, .int .i64 a0_4]] w fun e w' => e = .returned (.int .u64 r) ∧ Below w.heap.size w w' := by
  have hu39 := Tryd.underlying39
  have hu37 := Tryd.underlying37
  have HB := Aside0.mk (Below.refl w.heap.size w)
  have H : ((tenementref06_At.f a0_0 a0_1 a0_2 a0_3 a0_4).bind fun t216 => (some t216)) = some r := h
  clear h
  replace H := Option.bind_eq_some_iff.mp H
  obtain ⟨t216, A20, H⟩ := H
  replace H : (some t216) = some r := H
  have A2 := Aside0.mk A20
  clear A20
  obtain rfl := Option.some.inj H
  go_enter Tryd.func20, Tryd.ntmps20
  go_wp2_with (first | ((with_reducible refine gate_dst (N := 1) rfl ?_); refine box_event ?hg (N := 1) ?hd (cs := #[.int .u64 a0_0, .int .u64 a0_1, .int .u64 a0_2, .int .u64 a0_3, .int .i64 a0_4]) (t := 39) ?hr ?_; (case hd => rfl); (case hg => rfl); (case hr => first | (go_simp; done) | (go_simp; rfl)); intro gb215 hg w3 hbox hb; have BK215 := Aside0.mk (hbox); have GW215 := Kw_ HB hg; have GE215 := GW215; replace HB := Ks_ HB hb; clear hb hbox hg; obtain ⟨hcz4_0, hcz4_1, hcz4_2, hcz4_3, hcz4_4, hfz4_0, hfz4_1, hfz4_2, hfz4_3, hfz4_4⟩ := Ke5_ BK215.out) | ((with_reducible refine gate_callee (f := 41) rfl ?_); refine goesL_ (some 7) rfl rfl Tryd.func41 (by kernel_rfl) rfl #[.agg #[.int .u64 a0_0, .int .u64 a0_1, .int .u64 a0_2, .int .u64 a0_3], .int .i64 a0_4] rfl (by (try simp only [List.map_toArray, List.map_cons, List.map_nil]); first | done | rfl | (simp only [List.length_drop, List.length_take]; rfl)) ?_; (with_reducible refine (tenementref06_At.calls a0_0 a0_1 a0_2 a0_3 a0_4 t216 _ A2.out).mono ?_); rintro e w5 ⟨rfl, hb⟩; refine ⟨_, rfl, ?_⟩; replace BK215 := Kb_ BK215 hb; replace HB := Ks_ HB hb; (try clear hb); (try clear hb2); (try clear hk); (try clear hi)))
  go_ret
  exact ⟨by first | rfl | (simp [errW_none, errW_some] <;> rfl) | (simp [*, errW_none, errW_some] <;> rfl), Kz_ HB GE215⟩

end Go.Proofs.YtdlagefpglhdoaaDoor.Q

-- Written by this session's own driver (wip/hybrid.py) of the kit's printer; contracts marked FOREIGN are by hand.
namespace Go.Proofs.YtdlagefpglhdoaaDoor.Q
open Go.RowKit Go.Proofs.YtdlagefpglhdoaaDoorW.PrintWords Go.Proofs.YtdlagefpglhdoaaDoorW.PrintLast Go.Proofs.YtdlagefpglhdoaaDoorW.PrintMore
attribute [local go_sem] max2_int min2_int max_two min_two max_three min_three max_four min_four   -- for this text's walks alone
set_option linter.unusedVariables false
set_option linter.unusedSimpArgs false

/-! ### tenementref06_Right: function 40 -/
def tenementref06_Right.l0 : Nat → Int → Int → Int → Int → Int → Option (Bool)
  | 0, _, _, _, _, _ => none
  | k + 1, x3, x218000, x218001, x218002, x218003 => if x3 < 4 then (if x3 = 0 then (if x218000 > 1152921504606846976 then (some false) else (tenementref06_Right.l0 k (wrap64 (x3 + 1)) x218000 x218001 x218002 x218003)) else (if x3 = 1 then (if x218001 > 1152921504606846976 then (some false) else (tenementref06_Right.l0 k (wrap64 (x3 + 1)) x218000 x218001 x218002 x218003)) else (if x3 = 2 then (if x218002 > 1152921504606846976 then (some false) else (tenementref06_Right.l0 k (wrap64 (x3 + 1)) x218000 x218001 x218002 x218003)) else (if x3 = 3 then (if x218003 > 1152921504606846976 then (some false) else (tenementref06_Right.l0 k (wrap64 (x3 + 1)) x218000 x218001 x218002 x218003)) else (none))))) else (some true)
def tenementref06_Right.f (k : Nat) (a0_0 : Int) (a0_1 : Int) (a0_2 : Int) (a0_3 : Int) : Option (Bool) := tenementref06_Right.l0 k 0 a0_0 a0_1 a0_2 a0_3
theorem tenementref06_Right.mono_l : ∀ k, (∀ y0 y1 y2 y3 y4, LeO (tenementref06_Right.l0 k y0 y1 y2 y3 y4) (tenementref06_Right.l0 (k + 1) y0 y1 y2 y3 y4))
  | 0 => fun _ _ _ _ _ r h => by simp [tenementref06_Right.l0] at h
  | k + 1 => by
    have ih0 := tenementref06_Right.mono_l k
    · intro y0 y1 y2 y3 y4
      unfold tenementref06_Right.l0
      repeat' first
      | (with_reducible exact ih0 _ _ _ _ _)
      | (with_reducible exact LeO.refl _)
      | (with_reducible exact LeO.none _)
      | (with_reducible refine LeO.ite ?_ ?_)
      | (with_reducible refine LeO.bind ?_ (fun _ => ?_))
      | exact ih0 _ _ _ _ _
      | exact LeO.none _
      | refine LeO.ite ?_ ?_
      | refine LeO.bind ?_ (fun _ => ?_)
theorem tenementref06_Right.mono : ∀ a0 a1 a2 a3 k, LeO (tenementref06_Right.f k a0 a1 a2 a3) (tenementref06_Right.f (k + 1) a0 a1 a2 a3) := by
  intro a0 a1 a2 a3 k
  have ih0 := tenementref06_Right.mono_l k
  unfold tenementref06_Right.f
  repeat' first
      | (with_reducible exact ih0 _ _ _ _ _)
      | (with_reducible exact LeO.refl _)
      | (with_reducible exact LeO.none _)
      | (with_reducible refine LeO.ite ?_ ?_)
      | (with_reducible refine LeO.bind ?_ (fun _ => ?_))
      | exact ih0 _ _ _ _ _
      | exact LeO.none _
      | refine LeO.ite ?_ ?_
      | refine LeO.bind ?_ (fun _ => ?_)
set_option maxHeartbeats 8000000 in
set_option maxRecDepth 100000 in
theorem tenementref06_Right.calls (k : Nat) (a0_0 : Int) (a0_1 : Int) (a0_2 : Int) (a0_3 : Int) (r : Bool) (w : World) (h : tenementref06_Right.f k a0_0 a0_1 a0_2 a0_3 = some r) :
    Calls Tryd.prog 40 #[.agg #[.int .u64 a0_0, .int .u64 a0_1, .int .u64 a0_2, .int .u64 a0_3]] w fun e w' => e = .returned (.bool r) ∧ Below w.heap.size w w' := by
  have hu37 := Tryd.underlying37
  have HB := Aside0.mk (Below.refl w.heap.size w)
  have H : (tenementref06_Right.l0 k 0 a0_0 a0_1 a0_2 a0_3) = some r := h
  clear h
  have H' := Aside0.mk H
  clear H
  go_enter Tryd.func40, Tryd.ntmps40
  go_wp2_with (first | ((with_reducible refine gate_dst (N := 1) rfl ?_); refine box_event ?hg (N := 1) ?hd (cs := #[.int .u64 a0_0, .int .u64 a0_1, .int .u64 a0_2, .int .u64 a0_3]) (t := 37) ?hr ?_; (case hd => rfl); (case hg => rfl); (case hr => first | (go_simp; done) | (go_simp; rfl)); intro gb217 hg w2 hbox hb; have BK217 := Aside0.mk (hbox); have GW217 := Kw_ HB hg; have GE217 := GW217; replace HB := Ks_ HB hb; clear hb hbox hg))
  go_loopg [3] k (fun kq v3 w' => ∃ (x3_1 : Int), v3 = .int .i64 x3_1 ∧ Aside0 (tenementref06_Right.l0 kq x3_1 a0_0 a0_1 a0_2 a0_3 = some r) ∧ Aside0 (kq ≤ k) ∧ Aside0 (w'.heap[gb217]? = some (.cells #[.int .u64 a0_0, .int .u64 a0_1, .int .u64 a0_2, .int .u64 a0_3] 37 (0, 0))) ∧ Aside0 (Below w.heap.size w w'))
  case atStart => exact ⟨(0), (by first | rfl | (simp; done) | (simp [*]; done)), H', ⟨Nat.le_refl _⟩, ⟨by (with_reducible repeat (first | refine blk_drewN ?_ _ | refine blk_drew ?_ | refine blk_alloc ?_ _)); exact BK217.out⟩, ⟨Kz_ HB GE217⟩⟩
  case round =>
    clear H'
    try clear p2
    obtain ⟨x3_1, rfl, HA, HK1, BK217, HB⟩ := hrel
    cases gk with
    | zero => exact absurd HA.out (by simp [tenementref06_Right.l0])
    | succ k1 =>
      have H := HA.out
      clear HA
      simp only [tenementref06_Right.l0] at H
      by_cases c3 : x3_1 < 4
      rotate_left
      · rw [if_neg c3] at H
        have c3b0 : decide (x3_1 < 4) = false := decide_eq_false c3
        clear c3
        obtain rfl := Option.some.inj H
        go_wp2
        go_ret
        exact ⟨by first | rfl | (simp [errW_none, errW_some] <;> rfl) | (simp [*, errW_none, errW_some] <;> rfl), Kz_ HB GE217⟩
      rw [if_pos c3] at H
      have c3b0 : decide (x3_1 < 4) = true := decide_eq_true c3
      clear c3
      by_cases c4 : x3_1 = 0
      · subst c4
        have H1 : (if a0_0 > 1152921504606846976 then (some false) else (tenementref06_Right.l0 k1 1 a0_0 a0_1 a0_2 a0_3)) = some r := by rw [if_pos rfl] at H; (try simp only [show wrap64 ((0 : Int) + 1) = 1 from by first | rfl | decide | (unfold wrap64; omega), show wrap64 ((0 : Int) - 1) = -1 from by first | rfl | decide | (unfold wrap64; omega)] at H); exact H
        clear H
        have H := H1
        clear H1
        by_cases c5 : a0_0 > 1152921504606846976
        · rw [if_pos c5] at H
          have c5b0 : decide (1152921504606846976 < a0_0) = true := decide_eq_true c5
          clear c5
          obtain rfl := Option.some.inj H
          have hcz6_0 : wr.cell? ⟨gb217, 0, none⟩ = some (.int .u64 a0_0) := (blk_cell BK217.out 0).trans rfl
          have hcz6_1 : wr.cell? ⟨gb217, 1, none⟩ = some (.int .u64 a0_1) := (blk_cell BK217.out 1).trans rfl
          have hcz6_2 : wr.cell? ⟨gb217, 2, none⟩ = some (.int .u64 a0_2) := (blk_cell BK217.out 2).trans rfl
          have hcz6_3 : wr.cell? ⟨gb217, 3, none⟩ = some (.int .u64 a0_3) := (blk_cell BK217.out 3).trans rfl
          have hfz6_0 := blk_frozen BK217.out 0
          have hfz6_1 := blk_frozen BK217.out 1
          have hfz6_2 := blk_frozen BK217.out 2
          have hfz6_3 := blk_frozen BK217.out 3
          go_wp2
          go_ret
          exact ⟨by first | rfl | (simp [errW_none, errW_some] <;> rfl) | (simp [*, errW_none, errW_some] <;> rfl), Kz_ HB GE217⟩
        rw [if_neg c5] at H
        have c5b0 : decide (1152921504606846976 < a0_0) = false := decide_eq_false c5
        clear c5
        have H' := Aside0.mk H
        clear H
        have hcz7_0 : wr.cell? ⟨gb217, 0, none⟩ = some (.int .u64 a0_0) := (blk_cell BK217.out 0).trans rfl
        have hcz7_1 : wr.cell? ⟨gb217, 1, none⟩ = some (.int .u64 a0_1) := (blk_cell BK217.out 1).trans rfl
        have hcz7_2 : wr.cell? ⟨gb217, 2, none⟩ = some (.int .u64 a0_2) := (blk_cell BK217.out 2).trans rfl
        have hcz7_3 : wr.cell? ⟨gb217, 3, none⟩ = some (.int .u64 a0_3) := (blk_cell BK217.out 3).trans rfl
        have hfz7_0 := blk_frozen BK217.out 0
        have hfz7_1 := blk_frozen BK217.out 1
        have hfz7_2 := blk_frozen BK217.out 2
        have hfz7_3 := blk_frozen BK217.out 3
        go_wp2
        go_roundg k1
        case measure => have := HK1.out; omega
        case rel => exact ⟨(1), (by first | rfl | (simp; done) | (simp [*]; done)), H', ⟨by have := HK1.out; omega⟩, ⟨by (with_reducible repeat (first | refine blk_drewN ?_ _ | refine blk_drew ?_ | refine blk_alloc ?_ _)); exact BK217.out⟩, ⟨Kz_ HB GE217⟩⟩
      rw [if_neg c4] at H
      by_cases c8 : x3_1 = 1
      · subst c8
        have H1 : (if a0_1 > 1152921504606846976 then (some false) else (tenementref06_Right.l0 k1 2 a0_0 a0_1 a0_2 a0_3)) = some r := by rw [if_pos rfl] at H; (try simp only [show wrap64 ((1 : Int) + 1) = 2 from by first | rfl | decide | (unfold wrap64; omega), show wrap64 ((1 : Int) - 1) = 0 from by first | rfl | decide | (unfold wrap64; omega)] at H); exact H
        clear H
        have H := H1
        clear H1
        by_cases c9 : a0_1 > 1152921504606846976
        · rw [if_pos c9] at H
          have c9b0 : decide (1152921504606846976 < a0_1) = true := decide_eq_true c9
          clear c9
          obtain rfl := Option.some.inj H
          have hcz10_0 : wr.cell? ⟨gb217, 0, none⟩ = some (.int .u64 a0_0) := (blk_cell BK217.out 0).trans rfl
          have hcz10_1 : wr.cell? ⟨gb217, 1, none⟩ = some (.int .u64 a0_1) := (blk_cell BK217.out 1).trans rfl
          have hcz10_2 : wr.cell? ⟨gb217, 2, none⟩ = some (.int .u64 a0_2) := (blk_cell BK217.out 2).trans rfl
          have hcz10_3 : wr.cell? ⟨gb217, 3, none⟩ = some (.int .u64 a0_3) := (blk_cell BK217.out 3).trans rfl
          have hfz10_0 := blk_frozen BK217.out 0
          have hfz10_1 := blk_frozen BK217.out 1
          have hfz10_2 := blk_frozen BK217.out 2
          have hfz10_3 := blk_frozen BK217.out 3
          go_wp2
          go_ret
          exact ⟨by first | rfl | (simp [errW_none, errW_some] <;> rfl) | (simp [*, errW_none, errW_some] <;> rfl), Kz_ HB GE217⟩
        rw [if_neg c9] at H
        have c9b0 : decide (1152921504606846976 < a0_1) = false := decide_eq_false c9
        clear c9
        have H' := Aside0.mk H
        clear H
        have hcz11_0 : wr.cell? ⟨gb217, 0, none⟩ = some (.int .u64 a0_0) := (blk_cell BK217.out 0).trans rfl
        have hcz11_1 : wr.cell? ⟨gb217, 1, none⟩ = some (.int .u64 a0_1) := (blk_cell BK217.out 1).trans rfl
        have hcz11_2 : wr.cell? ⟨gb217, 2, none⟩ = some (.int .u64 a0_2) := (blk_cell BK217.out 2).trans rfl
        have hcz11_3 : wr.cell? ⟨gb217, 3, none⟩ = some (.int .u64 a0_3) := (blk_cell BK217.out 3).trans rfl
        have hfz11_0 := blk_frozen BK217.out 0
        have hfz11_1 := blk_frozen BK217.out 1
        have hfz11_2 := blk_frozen BK217.out 2
        have hfz11_3 := blk_frozen BK217.out 3
        go_wp2
        go_roundg k1
        case measure => have := HK1.out; omega
        case rel => exact ⟨(2), (by first | rfl | (simp; done) | (simp [*]; done)), H', ⟨by have := HK1.out; omega⟩, ⟨by (with_reducible repeat (first | refine blk_drewN ?_ _ | refine blk_drew ?_ | refine blk_alloc ?_ _)); exact BK217.out⟩, ⟨Kz_ HB GE217⟩⟩
      rw [if_neg c8] at H
      by_cases c12 : x3_1 = 2
      · subst c12
        have H1 : (if a0_2 > 1152921504606846976 then (some false) else (tenementref06_Right.l0 k1 3 a0_0 a0_1 a0_2 a0_3)) = some r := by rw [if_pos rfl] at H; (try simp only [show wrap64 ((2 : Int) + 1) = 3 from by first | rfl | decide | (unfold wrap64; omega), show wrap64 ((2 : Int) - 1) = 1 from by first | rfl | decide | (unfold wrap64; omega)] at H); exact H
        clear H
        have H := H1
        clear H1
        by_cases c13 : a0_2 > 1152921504606846976
        · rw [if_pos c13] at H
          have c13b0 : decide (1152921504606846976 < a0_2) = true := decide_eq_true c13
          clear c13
          obtain rfl := Option.some.inj H
          have hcz14_0 : wr.cell? ⟨gb217, 0, none⟩ = some (.int .u64 a0_0) := (blk_cell BK217.out 0).trans rfl
          have hcz14_1 : wr.cell? ⟨gb217, 1, none⟩ = some (.int .u64 a0_1) := (blk_cell BK217.out 1).trans rfl
          have hcz14_2 : wr.cell? ⟨gb217, 2, none⟩ = some (.int .u64 a0_2) := (blk_cell BK217.out 2).trans rfl
          have hcz14_3 : wr.cell? ⟨gb217, 3, none⟩ = some (.int .u64 a0_3) := (blk_cell BK217.out 3).trans rfl
          have hfz14_0 := blk_frozen BK217.out 0
          have hfz14_1 := blk_frozen BK217.out 1
          have hfz14_2 := blk_frozen BK217.out 2
          have hfz14_3 := blk_frozen BK217.out 3
          go_wp2
          go_ret
          exact ⟨by first | rfl | (simp [errW_none, errW_some] <;> rfl) | (simp [*, errW_none, errW_some] <;> rfl), Kz_ HB GE217⟩
        rw [if_neg c13] at H
        have c13b0 : decide (1152921504606846976 < a0_2) = false := decide_eq_false c13
        clear c13
        have H' := Aside0.mk H
        clear H
        have hcz15_0 : wr.cell? ⟨gb217, 0, none⟩ = some (.int .u64 a0_0) := (blk_cell BK217.out 0).trans rfl
        have hcz15_1 : wr.cell? ⟨gb217, 1, none⟩ = some (.int .u64 a0_1) := (blk_cell BK217.out 1).trans rfl
        have hcz15_2 : wr.cell? ⟨gb217, 2, none⟩ = some (.int .u64 a0_2) := (blk_cell BK217.out 2).trans rfl
        have hcz15_3 : wr.cell? ⟨gb217, 3, none⟩ = some (.int .u64 a0_3) := (blk_cell BK217.out 3).trans rfl
        have hfz15_0 := blk_frozen BK217.out 0
        have hfz15_1 := blk_frozen BK217.out 1
        have hfz15_2 := blk_frozen BK217.out 2
        have hfz15_3 := blk_frozen BK217.out 3
        go_wp2
        go_roundg k1
        case measure => have := HK1.out; omega
        case rel => exact ⟨(3), (by first | rfl | (simp; done) | (simp [*]; done)), H', ⟨by have := HK1.out; omega⟩, ⟨by (with_reducible repeat (first | refine blk_drewN ?_ _ | refine blk_drew ?_ | refine blk_alloc ?_ _)); exact BK217.out⟩, ⟨Kz_ HB GE217⟩⟩
      rw [if_neg c12] at H
      by_cases c16 : x3_1 = 3
      rotate_left
      · rw [if_neg c16] at H
        exact absurd H (by simp)
      subst c16
      have H1 : (if a0_3 > 1152921504606846976 then (some false) else (tenementref06_Right.l0 k1 4 a0_0 a0_1 a0_2 a0_3)) = some r := by rw [if_pos rfl] at H; (try simp only [show wrap64 ((3 : Int) + 1) = 4 from by first | rfl | decide | (unfold wrap64; omega), show wrap64 ((3 : Int) - 1) = 2 from by first | rfl | decide | (unfold wrap64; omega)] at H); exact H
      clear H
      have H := H1
      clear H1
      by_cases c17 : a0_3 > 1152921504606846976
      · rw [if_pos c17] at H
        have c17b0 : decide (1152921504606846976 < a0_3) = true := decide_eq_true c17
        clear c17
        obtain rfl := Option.some.inj H
        have hcz18_0 : wr.cell? ⟨gb217, 0, none⟩ = some (.int .u64 a0_0) := (blk_cell BK217.out 0).trans rfl
        have hcz18_1 : wr.cell? ⟨gb217, 1, none⟩ = some (.int .u64 a0_1) := (blk_cell BK217.out 1).trans rfl
        have hcz18_2 : wr.cell? ⟨gb217, 2, none⟩ = some (.int .u64 a0_2) := (blk_cell BK217.out 2).trans rfl
        have hcz18_3 : wr.cell? ⟨gb217, 3, none⟩ = some (.int .u64 a0_3) := (blk_cell BK217.out 3).trans rfl
        have hfz18_0 := blk_frozen BK217.out 0
        have hfz18_1 := blk_frozen BK217.out 1
        have hfz18_2 := blk_frozen BK217.out 2
        have hfz18_3 := blk_frozen BK217.out 3
        go_wp2
        go_ret
        exact ⟨by first | rfl | (simp [errW_none, errW_some] <;> rfl) | (simp [*, errW_none, errW_some] <;> rfl), Kz_ HB GE217⟩
      rw [if_neg c17] at H
      have c17b0 : decide (1152921504606846976 < a0_3) = false := decide_eq_false c17
      clear c17
      have H' := Aside0.mk H
      clear H
      have hcz19_0 : wr.cell? ⟨gb217, 0, none⟩ = some (.int .u64 a0_0) := (blk_cell BK217.out 0).trans rfl
      have hcz19_1 : wr.cell? ⟨gb217, 1, none⟩ = some (.int .u64 a0_1) := (blk_cell BK217.out 1).trans rfl
      have hcz19_2 : wr.cell? ⟨gb217, 2, none⟩ = some (.int .u64 a0_2) := (blk_cell BK217.out 2).trans rfl
      have hcz19_3 : wr.cell? ⟨gb217, 3, none⟩ = some (.int .u64 a0_3) := (blk_cell BK217.out 3).trans rfl
      have hfz19_0 := blk_frozen BK217.out 0
      have hfz19_1 := blk_frozen BK217.out 1
      have hfz19_2 := blk_frozen BK217.out 2
      have hfz19_3 := blk_frozen BK217.out 3
      go_wp2
      go_roundg k1
      case measure => have := HK1.out; omega
      case rel => exact ⟨(4), (by first | rfl | (simp; done) | (simp [*]; done)), H', ⟨by have := HK1.out; omega⟩, ⟨by (with_reducible repeat (first | refine blk_drewN ?_ _ | refine blk_drew ?_ | refine blk_alloc ?_ _)); exact BK217.out⟩, ⟨Kz_ HB GE217⟩⟩

end Go.Proofs.YtdlagefpglhdoaaDoor.Q
