import Derived.Test.YtdlagefpglhdoaaDoorQx0
import Derived.Test.YtdlagefpglhdoaaDoorGStampTells3
import Derived.Test.YtdlagefpglhdoaaDoorWAMore
import Derived.Deep.Slices
import Derived.OpenShut
import Derived.SizedLaws
import Derived.ChangeArms
import Derived.WideShapes
import Derived.ChangeShapes
import Derived.KernelRfl
-- Written by this session's own driver (wip/hybrid.py) of the kit's printer; contracts marked FOREIGN are by hand.
namespace Go.Proofs.YtdlagefpglhdoaaDoor.Q
open Go.RowKit Go.Proofs.YtdlagefpglhdoaaDoorW.PrintWords Go.Proofs.YtdlagefpglhdoaaDoorW.PrintLast Go.Proofs.YtdlagefpglhdoaaDoorW.PrintMore
attribute [local go_sem] max2_int min2_int max_two min_two max_three min_three max_four min_four   -- for this text's walks alone
set_option linter.unusedVariables false
set_option linter.unusedSimpArgs false

/-! ### tenementref07_Later: function 16 -/
def tenementref07_Later.f (k : Nat) (a0_0 : Int) (a0_1 : Int) (a0_2 : Int) (a0_3 : Int) (a0_4 : Int) (a1_0 : Int) (a1_1 : Int) (a1_2 : Int) (a1_3 : Int) (a1_4 : Int) : Option (Int × Int × Int × Int × Int) := (tenementref07_Order.f k a0_0 a0_1 a0_2 a0_3 a0_4 a1_0 a1_1 a1_2 a1_3 a1_4).bind fun t252 => (if t252 > 0 then (some (a0_0, a0_1, a0_2, a0_3, a0_4)) else (some (a1_0, a1_1, a1_2, a1_3, a1_4)))
theorem tenementref07_Later.mono : ∀ a0 a1 a2 a3 a4 a5 a6 a7 a8 a9 k, LeO (tenementref07_Later.f k a0 a1 a2 a3 a4 a5 a6 a7 a8 a9) (tenementref07_Later.f (k + 1) a0 a1 a2 a3 a4 a5 a6 a7 a8 a9) := by
  intro a0 a1 a2 a3 a4 a5 a6 a7 a8 a9 k
  unfold tenementref07_Later.f
  repeat' first
      | (with_reducible exact tenementref07_Order.mono _ _ _ _ _ _ _ _ _ _ _)
      | (with_reducible exact LeO.refl _)
      | (with_reducible exact LeO.none _)
      | (with_reducible refine LeO.ite ?_ ?_)
      | (with_reducible refine LeO.bind ?_ (fun _ => ?_))
      | exact tenementref07_Order.mono _ _ _ _ _ _ _ _ _ _ _
      | exact LeO.none _
      | refine LeO.ite ?_ ?_
      | refine LeO.bind ?_ (fun _ => ?_)
set_option maxHeartbeats 8000000 in
set_option maxRecDepth 100000 in
theorem tenementref07_Later.calls (k : Nat) (a0_0 : Int) (a0_1 : Int) (a0_2 : Int) (a0_3 : Int) (a0_4 : Int) (a1_0 : Int) (a1_1 : Int) (a1_2 : Int) (a1_3 : Int) (a1_4 : Int) (r1 : Int) (r2 : Int) (r3 : Int) (r4 : Int) (r5 : Int) (w : World) (h : tenementref07_Later.f k a0_0 a0_1 a0_2 a0_3 a0_4 a1_0 a1_1 a1_2 a1_3 a1_4 = some (r1, r2, r3, r4, r5)) :
    Calls Tryd.prog 16 #[.agg #[.int .u64 a0_0, .int .u64 a0_1, .int .u64 a0_2, .int .u64 a0_3, .int .i64 a0_4], .agg #[.int .u64 a1_0, .int .u64 a1_1, .int .u64 a1_2, .int .u64 a1_3, .int .i64 a1_4]] w fun e w' => e = .returned (.agg #[.int .u64 r1, .int .u64 r2, .int .u64 r3, .int .u64 r4, .int .i64 r5]) ∧ Below w.heap.size w w' := by
  have hu39 := Tryd.underlying39
  have HB := Aside0.mk (Below.refl w.heap.size w)
  have H : ((tenementref07_Order.f k a0_0 a0_1 a0_2 a0_3 a0_4 a1_0 a1_1 a1_2 a1_3 a1_4).bind fun t252 => (if t252 > 0 then (some (a0_0, a0_1, a0_2, a0_3, a0_4)) else (some (a1_0, a1_1, a1_2, a1_3, a1_4)))) = some (r1, r2, r3, r4, r5) := h
  clear h
  replace H := Option.bind_eq_some_iff.mp H
  obtain ⟨t252, A30, H⟩ := H
  replace H : (if t252 > 0 then (some (a0_0, a0_1, a0_2, a0_3, a0_4)) else (some (a1_0, a1_1, a1_2, a1_3, a1_4))) = some (r1, r2, r3, r4, r5) := H
  have A3 := Aside0.mk A30
  clear A30
  by_cases c4 : t252 > 0
  · rw [if_pos c4] at H
    have c4b0 : decide (0 < t252) = true := decide_eq_true c4
    clear c4
    simp only [Option.some.injEq, Prod.mk.injEq] at H
    obtain ⟨rfl, rfl, rfl, rfl, rfl⟩ := H
    go_enter Tryd.func16, Tryd.ntmps16
    go_wp2_with (first | ((with_reducible refine gate_dst (N := 2) rfl ?_); refine box_event ?hg (N := 2) ?hd (cs := #[.int .u64 a0_0, .int .u64 a0_1, .int .u64 a0_2, .int .u64 a0_3, .int .i64 a0_4]) (t := 39) ?hr ?_; (case hd => rfl); (case hg => rfl); (case hr => first | (go_simp; done) | (go_simp; rfl)); intro gb249 hg w5 hbox hb; have BK249 := Aside0.mk (hbox); have GW249 := Kw_ HB hg; have GE249 := GW249; replace HB := Ks_ HB hb; clear hb hbox hg) | ((with_reducible refine gate_dst (N := 3) rfl ?_); refine box_event ?hg (N := 3) ?hd (cs := #[.int .u64 a1_0, .int .u64 a1_1, .int .u64 a1_2, .int .u64 a1_3, .int .i64 a1_4]) (t := 39) ?hr ?_; (case hd => rfl); (case hg => rfl); (case hr => first | (go_simp; done) | (go_simp; rfl)); intro gb250 hg w6 hbox hb; have BK250 := Aside0.mk (hbox); have GW250 := Kw_ HB hg; have GE250 := GW250; have NB249_250 := Kl_ BK249 hg; have NB250_249 := Kr_ BK249 hg; replace BK249 := Kb_ BK249 hb; replace HB := Ks_ HB hb; clear hb hbox hg) | ((with_reducible refine gate_dst (N := 4) rfl ?_); refine box_event ?hg (N := 4) ?hd (cs := #[.int .u64 0, .int .u64 0, .int .u64 0, .int .u64 0, .int .i64 0]) (t := 39) ?hr ?_; (case hd => rfl); (case hg => rfl); (case hr => first | (go_simp; done) | (go_simp; rfl)); intro gb251 hg w7 hbox hb; have BK251 := Aside0.mk (hbox); have GW251 := Kw_ HB hg; have GE251 := GW251; have NB249_251 := Kl_ BK249 hg; have NB251_249 := Kr_ BK249 hg; have NB250_251 := Kl_ BK250 hg; have NB251_250 := Kr_ BK250 hg; replace BK249 := Kb_ BK249 hb; replace BK250 := Kb_ BK250 hb; replace HB := Ks_ HB hb; clear hb hbox hg; have hnb8 := NB249_250.out; have hnc8 := NB250_249.out; have hnb9 := NB249_251.out; have hnc9 := NB251_249.out; obtain ⟨hcz10_0, hcz10_1, hcz10_2, hcz10_3, hcz10_4, hfz10_0, hfz10_1, hfz10_2, hfz10_3, hfz10_4⟩ := Ke5_ BK249.out; have hnb11 := NB250_251.out; have hnc11 := NB251_250.out; obtain ⟨hcz12_0, hcz12_1, hcz12_2, hcz12_3, hcz12_4, hfz12_0, hfz12_1, hfz12_2, hfz12_3, hfz12_4⟩ := Ke5_ BK250.out) | ((with_reducible refine gate_callee (f := 22) rfl ?_); refine goesL_ (some 7) rfl rfl Tryd.func22 (by kernel_rfl) rfl #[.agg #[.int .u64 a0_0, .int .u64 a0_1, .int .u64 a0_2, .int .u64 a0_3, .int .i64 a0_4], .agg #[.int .u64 a1_0, .int .u64 a1_1, .int .u64 a1_2, .int .u64 a1_3, .int .i64 a1_4]] rfl (by (try simp only [List.map_toArray, List.map_cons, List.map_nil]); first | done | rfl | (simp only [List.length_drop, List.length_take]; rfl)) ?_; (with_reducible refine (tenementref07_Order.calls k a0_0 a0_1 a0_2 a0_3 a0_4 a1_0 a1_1 a1_2 a1_3 a1_4 t252 _ A3.out).mono ?_); rintro e w13 ⟨rfl, hb⟩; refine ⟨_, rfl, ?_⟩; replace BK249 := Kb_ BK249 hb; replace BK250 := Kb_ BK250 hb; replace BK251 := Kb_ BK251 hb; replace HB := Ks_ HB hb; (try clear hb); (try clear hb2); (try clear hk); (try clear hi); obtain ⟨hcz14_0, hcz14_1, hcz14_2, hcz14_3, hcz14_4, hfz14_0, hfz14_1, hfz14_2, hfz14_3, hfz14_4⟩ := Ke5_ BK249.out; obtain ⟨hcz15_0, hcz15_1, hcz15_2, hcz15_3, hcz15_4, hfz15_0, hfz15_1, hfz15_2, hfz15_3, hfz15_4⟩ := Ke5_ BK251.out))
    refine bodyPost_ret (results_cell_row rfl _ _ gb251 39 #[.int .u64 a0_0, .int .u64 a0_1, .int .u64 a0_2, .int .u64 a0_3, .int .i64 a0_4] (0, 0) _ rfl (by (with_reducible repeat (first | refine blk_drewN ?_ _ | refine blk_drew ?_ | refine blk_alloc ?_ _)); refine blk_put (cs := #[.int .u64 a0_0, .int .u64 a0_1, .int .u64 a0_2, .int .u64 a0_3, .int .i64 0]) ?_ 4 _ rfl; (with_reducible repeat (first | refine blk_drewN ?_ _ | refine blk_drew ?_ | refine blk_alloc ?_ _)); refine blk_put (cs := #[.int .u64 a0_0, .int .u64 a0_1, .int .u64 a0_2, .int .u64 0, .int .i64 0]) ?_ 3 _ rfl; (with_reducible repeat (first | refine blk_drewN ?_ _ | refine blk_drew ?_ | refine blk_alloc ?_ _)); refine blk_put (cs := #[.int .u64 a0_0, .int .u64 a0_1, .int .u64 0, .int .u64 0, .int .i64 0]) ?_ 2 _ rfl; (with_reducible repeat (first | refine blk_drewN ?_ _ | refine blk_drew ?_ | refine blk_alloc ?_ _)); refine blk_put (cs := #[.int .u64 a0_0, .int .u64 0, .int .u64 0, .int .u64 0, .int .i64 0]) ?_ 1 _ rfl; (with_reducible repeat (first | refine blk_drewN ?_ _ | refine blk_drew ?_ | refine blk_alloc ?_ _)); refine blk_put (cs := #[.int .u64 0, .int .u64 0, .int .u64 0, .int .u64 0, .int .i64 0]) ?_ 0 _ rfl; (with_reducible repeat (first | refine blk_drewN ?_ _ | refine blk_drew ?_ | refine blk_alloc ?_ _)); exact BK251.out) Tryd.underlying39 rfl (by kernel_rfl)) rfl ?_
    exact ⟨by first | rfl | (simp [errW_none, errW_some] <;> rfl) | (simp [*, errW_none, errW_some] <;> rfl), by repeat (first | (with_reducible first | exact HB.out | apply below_alloc | apply pw_below_drewN | apply below_drew1 | refine below_set ?_ GE249.out | refine below_set ?_ GE250.out | refine below_set ?_ GE251.out) | exact HB.out)⟩
  rw [if_neg c4] at H
  have c4b0 : decide (0 < t252) = false := decide_eq_false c4
  clear c4
  simp only [Option.some.injEq, Prod.mk.injEq] at H
  obtain ⟨rfl, rfl, rfl, rfl, rfl⟩ := H
  go_enter Tryd.func16, Tryd.ntmps16
  go_wp2_with (first | ((with_reducible refine gate_dst (N := 2) rfl ?_); refine box_event ?hg (N := 2) ?hd (cs := #[.int .u64 a0_0, .int .u64 a0_1, .int .u64 a0_2, .int .u64 a0_3, .int .i64 a0_4]) (t := 39) ?hr ?_; (case hd => rfl); (case hg => rfl); (case hr => first | (go_simp; done) | (go_simp; rfl)); intro gb249 hg w16 hbox hb; have BK249 := Aside0.mk (hbox); have GW249 := Kw_ HB hg; have GE249 := GW249; replace HB := Ks_ HB hb; clear hb hbox hg) | ((with_reducible refine gate_dst (N := 3) rfl ?_); refine box_event ?hg (N := 3) ?hd (cs := #[.int .u64 a1_0, .int .u64 a1_1, .int .u64 a1_2, .int .u64 a1_3, .int .i64 a1_4]) (t := 39) ?hr ?_; (case hd => rfl); (case hg => rfl); (case hr => first | (go_simp; done) | (go_simp; rfl)); intro gb250 hg w17 hbox hb; have BK250 := Aside0.mk (hbox); have GW250 := Kw_ HB hg; have GE250 := GW250; have NB249_250 := Kl_ BK249 hg; have NB250_249 := Kr_ BK249 hg; replace BK249 := Kb_ BK249 hb; replace HB := Ks_ HB hb; clear hb hbox hg) | ((with_reducible refine gate_dst (N := 4) rfl ?_); refine box_event ?hg (N := 4) ?hd (cs := #[.int .u64 0, .int .u64 0, .int .u64 0, .int .u64 0, .int .i64 0]) (t := 39) ?hr ?_; (case hd => rfl); (case hg => rfl); (case hr => first | (go_simp; done) | (go_simp; rfl)); intro gb251 hg w18 hbox hb; have BK251 := Aside0.mk (hbox); have GW251 := Kw_ HB hg; have GE251 := GW251; have NB249_251 := Kl_ BK249 hg; have NB251_249 := Kr_ BK249 hg; have NB250_251 := Kl_ BK250 hg; have NB251_250 := Kr_ BK250 hg; replace BK249 := Kb_ BK249 hb; replace BK250 := Kb_ BK250 hb; replace HB := Ks_ HB hb; clear hb hbox hg; have hnb19 := NB249_250.out; have hnc19 := NB250_249.out; have hnb20 := NB249_251.out; have hnc20 := NB251_249.out; obtain ⟨hcz21_0, hcz21_1, hcz21_2, hcz21_3, hcz21_4, hfz21_0, hfz21_1, hfz21_2, hfz21_3, hfz21_4⟩ := Ke5_ BK249.out; have hnb22 := NB250_251.out; have hnc22 := NB251_250.out; obtain ⟨hcz23_0, hcz23_1, hcz23_2, hcz23_3, hcz23_4, hfz23_0, hfz23_1, hfz23_2, hfz23_3, hfz23_4⟩ := Ke5_ BK250.out) | ((with_reducible refine gate_callee (f := 22) rfl ?_); refine goesL_ (some 7) rfl rfl Tryd.func22 (by kernel_rfl) rfl #[.agg #[.int .u64 a0_0, .int .u64 a0_1, .int .u64 a0_2, .int .u64 a0_3, .int .i64 a0_4], .agg #[.int .u64 a1_0, .int .u64 a1_1, .int .u64 a1_2, .int .u64 a1_3, .int .i64 a1_4]] rfl (by (try simp only [List.map_toArray, List.map_cons, List.map_nil]); first | done | rfl | (simp only [List.length_drop, List.length_take]; rfl)) ?_; (with_reducible refine (tenementref07_Order.calls k a0_0 a0_1 a0_2 a0_3 a0_4 a1_0 a1_1 a1_2 a1_3 a1_4 t252 _ A3.out).mono ?_); rintro e w24 ⟨rfl, hb⟩; refine ⟨_, rfl, ?_⟩; replace BK249 := Kb_ BK249 hb; replace BK250 := Kb_ BK250 hb; replace BK251 := Kb_ BK251 hb; replace HB := Ks_ HB hb; (try clear hb); (try clear hb2); (try clear hk); (try clear hi); obtain ⟨hcz25_0, hcz25_1, hcz25_2, hcz25_3, hcz25_4, hfz25_0, hfz25_1, hfz25_2, hfz25_3, hfz25_4⟩ := Ke5_ BK250.out; obtain ⟨hcz26_0, hcz26_1, hcz26_2, hcz26_3, hcz26_4, hfz26_0, hfz26_1, hfz26_2, hfz26_3, hfz26_4⟩ := Ke5_ BK251.out))
  refine bodyPost_ret (results_cell_row rfl _ _ gb251 39 #[.int .u64 a1_0, .int .u64 a1_1, .int .u64 a1_2, .int .u64 a1_3, .int .i64 a1_4] (0, 0) _ rfl (by (with_reducible repeat (first | refine blk_drewN ?_ _ | refine blk_drew ?_ | refine blk_alloc ?_ _)); refine blk_put (cs := #[.int .u64 a1_0, .int .u64 a1_1, .int .u64 a1_2, .int .u64 a1_3, .int .i64 0]) ?_ 4 _ rfl; (with_reducible repeat (first | refine blk_drewN ?_ _ | refine blk_drew ?_ | refine blk_alloc ?_ _)); refine blk_put (cs := #[.int .u64 a1_0, .int .u64 a1_1, .int .u64 a1_2, .int .u64 0, .int .i64 0]) ?_ 3 _ rfl; (with_reducible repeat (first | refine blk_drewN ?_ _ | refine blk_drew ?_ | refine blk_alloc ?_ _)); refine blk_put (cs := #[.int .u64 a1_0, .int .u64 a1_1, .int .u64 0, .int .u64 0, .int .i64 0]) ?_ 2 _ rfl; (with_reducible repeat (first | refine blk_drewN ?_ _ | refine blk_drew ?_ | refine blk_alloc ?_ _)); refine blk_put (cs := #[.int .u64 a1_0, .int .u64 0, .int .u64 0, .int .u64 0, .int .i64 0]) ?_ 1 _ rfl; (with_reducible repeat (first | refine blk_drewN ?_ _ | refine blk_drew ?_ | refine blk_alloc ?_ _)); refine blk_put (cs := #[.int .u64 0, .int .u64 0, .int .u64 0, .int .u64 0, .int .i64 0]) ?_ 0 _ rfl; (with_reducible repeat (first | refine blk_drewN ?_ _ | refine blk_drew ?_ | refine blk_alloc ?_ _)); exact BK251.out) Tryd.underlying39 rfl (by kernel_rfl)) rfl ?_
  exact ⟨by first | rfl | (simp [errW_none, errW_some] <;> rfl) | (simp [*, errW_none, errW_some] <;> rfl), by repeat (first | (with_reducible first | exact HB.out | apply below_alloc | apply pw_below_drewN | apply below_drew1 | refine below_set ?_ GE249.out | refine below_set ?_ GE250.out | refine below_set ?_ GE251.out) | exact HB.out)⟩

end Go.Proofs.YtdlagefpglhdoaaDoor.Q

-- Written by this session's own driver (wip/hybrid.py) of the kit's printer; contracts marked FOREIGN are by hand.
namespace Go.Proofs.YtdlagefpglhdoaaDoor.Q
open Go.RowKit Go.Proofs.YtdlagefpglhdoaaDoorW.PrintWords Go.Proofs.YtdlagefpglhdoaaDoorW.PrintLast Go.Proofs.YtdlagefpglhdoaaDoorW.PrintMore
attribute [local go_sem] max2_int min2_int max_two min_two max_three min_three max_four min_four   -- for this text's walks alone
set_option linter.unusedVariables false
set_option linter.unusedSimpArgs false

/-! ### tenementref06_Leq: function 50 -/
def tenementref06_Leq.l0 : Nat → Int → Int → Int → Int → Int → Int → Int → Int → Int → Option (Bool)
  | 0, _, _, _, _, _, _, _, _, _ => none
  | k + 1, x5, x254000, x254001, x254002, x254003, x255000, x255001, x255002, x255003 => if x5 < 4 then (if x5 = 0 then (if x254000 > x255000 then (some false) else (tenementref06_Leq.l0 k (wrap64 (x5 + 1)) x254000 x254001 x254002 x254003 x255000 x255001 x255002 x255003)) else (if x5 = 1 then (if x254001 > x255001 then (some false) else (tenementref06_Leq.l0 k (wrap64 (x5 + 1)) x254000 x254001 x254002 x254003 x255000 x255001 x255002 x255003)) else (if x5 = 2 then (if x254002 > x255002 then (some false) else (tenementref06_Leq.l0 k (wrap64 (x5 + 1)) x254000 x254001 x254002 x254003 x255000 x255001 x255002 x255003)) else (if x5 = 3 then (if x254003 > x255003 then (some false) else (tenementref06_Leq.l0 k (wrap64 (x5 + 1)) x254000 x254001 x254002 x254003 x255000 x255001 x255002 x255003)) else (none))))) else (some true)
def tenementref06_Leq.f (k : Nat) (a0_0 : Int) (a0_1 : Int) (a0_2 : Int) (a0_3 : Int) (a1_0 : Int) (a1_1 : Int) (a1_2 : Int) (a1_3 : Int) : Option (Bool) := tenementref06_Leq.l0 k 0 a0_0 a0_1 a0_2 a0_3 a1_0 a1_1 a1_2 a1_3
theorem tenementref06_Leq.mono_l : ∀ k, (∀ y0 y1 y2 y3 y4 y5 y6 y7 y8, LeO (tenementref06_Leq.l0 k y0 y1 y2 y3 y4 y5 y6 y7 y8) (tenementref06_Leq.l0 (k + 1) y0 y1 y2 y3 y4 y5 y6 y7 y8))
  | 0 => fun _ _ _ _ _ _ _ _ _ r h => by simp [tenementref06_Leq.l0] at h
  | k + 1 => by
    have ih0 := tenementref06_Leq.mono_l k
    · intro y0 y1 y2 y3 y4 y5 y6 y7 y8
      unfold tenementref06_Leq.l0
      repeat' first
      | (with_reducible exact ih0 _ _ _ _ _ _ _ _ _)
      | (with_reducible exact LeO.refl _)
      | (with_reducible exact LeO.none _)
      | (with_reducible refine LeO.ite ?_ ?_)
      | (with_reducible refine LeO.bind ?_ (fun _ => ?_))
      | exact ih0 _ _ _ _ _ _ _ _ _
      | exact LeO.none _
      | refine LeO.ite ?_ ?_
      | refine LeO.bind ?_ (fun _ => ?_)
theorem tenementref06_Leq.mono : ∀ a0 a1 a2 a3 a4 a5 a6 a7 k, LeO (tenementref06_Leq.f k a0 a1 a2 a3 a4 a5 a6 a7) (tenementref06_Leq.f (k + 1) a0 a1 a2 a3 a4 a5 a6 a7) := by
  intro a0 a1 a2 a3 a4 a5 a6 a7 k
  have ih0 := tenementref06_Leq.mono_l k
  unfold tenementref06_Leq.f
  repeat' first
      | (with_reducible exact ih0 _ _ _ _ _ _ _ _ _)
      | (with_reducible exact LeO.refl _)
      | (with_reducible exact LeO.none _)
      | (with_reducible refine LeO.ite ?_ ?_)
      | (with_reducible refine LeO.bind ?_ (fun _ => ?_))
      | exact ih0 _ _ _ _ _ _ _ _ _
      | exact LeO.none _
      | refine LeO.ite ?_ ?_
      | refine LeO.bind ?_ (fun _ => ?_)
set_option maxHeartbeats 8000000 in
set_option maxRecDepth 100000 in
theorem tenementref06_Leq.calls (k : Nat) (a0_0 : Int) (a0_1 : Int) (a0_2 : Int) (a0_3 : Int) (a1_0 : Int) (a1_1 : Int) (a1_2 : Int) (a1_3 : Int) (r : Bool) (w : World) (h : tenementref06_Leq.f k a0_0 a0_1 a0_2 a0_3 a1_0 a1_1 a1_2 a1_3 = some r) :
    Calls Tryd.prog 50 #[.agg #[.int .u64 a0_0, .int .u64 a0_1, .int .u64 a0_2, .int .u64 a0_3], .agg #[.int .u64 a1_0, .int .u64 a1_1, .int .u64 a1_2, .int .u64 a1_3]] w fun e w' => e = .returned (.bool r) ∧ Below w.heap.size w w' := by
  have hu37 := Tryd.underlying37
  have HB := Aside0.mk (Below.refl w.heap.size w)
  have H : (tenementref06_Leq.l0 k 0 a0_0 a0_1 a0_2 a0_3 a1_0 a1_1 a1_2 a1_3) = some r := h
  clear h
  have H' := Aside0.mk H
  clear H
  go_enter Tryd.func50, Tryd.ntmps50
  go_wp2_with (first | ((with_reducible refine gate_dst (N := 2) rfl ?_); refine box_event ?hg (N := 2) ?hd (cs := #[.int .u64 a0_0, .int .u64 a0_1, .int .u64 a0_2, .int .u64 a0_3]) (t := 37) ?hr ?_; (case hd => rfl); (case hg => rfl); (case hr => first | (go_simp; done) | (go_simp; rfl)); intro gb253 hg w3 hbox hb; have BK253 := Aside0.mk (hbox); have GW253 := Kw_ HB hg; have GE253 := GW253; replace HB := Ks_ HB hb; clear hb hbox hg) | ((with_reducible refine gate_dst (N := 3) rfl ?_); refine box_event ?hg (N := 3) ?hd (cs := #[.int .u64 a1_0, .int .u64 a1_1, .int .u64 a1_2, .int .u64 a1_3]) (t := 37) ?hr ?_; (case hd => rfl); (case hg => rfl); (case hr => first | (go_simp; done) | (go_simp; rfl)); intro gb254 hg w4 hbox hb; have BK254 := Aside0.mk (hbox); have GW254 := Kw_ HB hg; have GE254 := GW254; have NB253_254 := Kl_ BK253 hg; have NB254_253 := Kr_ BK253 hg; replace BK253 := Kb_ BK253 hb; replace HB := Ks_ HB hb; clear hb hbox hg))
  repeat (go_quiet (first | ((with_reducible refine gate_dst (N := 2) rfl ?_); refine box_event ?hg (N := 2) ?hd (cs := #[.int .u64 a0_0, .int .u64 a0_1, .int .u64 a0_2, .int .u64 a0_3]) (t := 37) ?hr ?_; (case hd => rfl); (case hg => rfl); (case hr => first | (go_simp; done) | (go_simp; rfl)); intro gb253 hg w3 hbox hb; have BK253 := Aside0.mk (hbox); have GW253 := Kw_ HB hg; have GE253 := GW253; replace HB := Ks_ HB hb; clear hb hbox hg) | ((with_reducible refine gate_dst (N := 3) rfl ?_); refine box_event ?hg (N := 3) ?hd (cs := #[.int .u64 a1_0, .int .u64 a1_1, .int .u64 a1_2, .int .u64 a1_3]) (t := 37) ?hr ?_; (case hd => rfl); (case hg => rfl); (case hr => first | (go_simp; done) | (go_simp; rfl)); intro gb254 hg w4 hbox hb; have BK254 := Aside0.mk (hbox); have GW254 := Kw_ HB hg; have GE254 := GW254; have NB253_254 := Kl_ BK253 hg; have NB254_253 := Kr_ BK253 hg; replace BK253 := Kb_ BK253 hb; replace HB := Ks_ HB hb; clear hb hbox hg)); try go_wp2_with (first | ((with_reducible refine gate_dst (N := 2) rfl ?_); refine box_event ?hg (N := 2) ?hd (cs := #[.int .u64 a0_0, .int .u64 a0_1, .int .u64 a0_2, .int .u64 a0_3]) (t := 37) ?hr ?_; (case hd => rfl); (case hg => rfl); (case hr => first | (go_simp; done) | (go_simp; rfl)); intro gb253 hg w3 hbox hb; have BK253 := Aside0.mk (hbox); have GW253 := Kw_ HB hg; have GE253 := GW253; replace HB := Ks_ HB hb; clear hb hbox hg) | ((with_reducible refine gate_dst (N := 3) rfl ?_); refine box_event ?hg (N := 3) ?hd (cs := #[.int .u64 a1_0, .int .u64 a1_1, .int .u64 a1_2, .int .u64 a1_3]) (t := 37) ?hr ?_; (case hd => rfl); (case hg => rfl); (case hr => first | (go_simp; done) | (go_simp; rfl)); intro gb254 hg w4 hbox hb; have BK254 := Aside0.mk (hbox); have GW254 := Kw_ HB hg; have GE254 := GW254; have NB253_254 := Kl_ BK253 hg; have NB254_253 := Kr_ BK253 hg; replace BK253 := Kb_ BK253 hb; replace HB := Ks_ HB hb; clear hb hbox hg)))
  go_loopg [5] k (fun kq v5 w' => ∃ (x5_1 : Int), v5 = .int .i64 x5_1 ∧ Aside0 (tenementref06_Leq.l0 kq x5_1 a0_0 a0_1 a0_2 a0_3 a1_0 a1_1 a1_2 a1_3 = some r) ∧ Aside0 (kq ≤ k) ∧ Aside0 (w'.heap[gb253]? = some (.cells #[.int .u64 a0_0, .int .u64 a0_1, .int .u64 a0_2, .int .u64 a0_3] 37 (0, 0))) ∧ Aside0 (w'.heap[gb254]? = some (.cells #[.int .u64 a1_0, .int .u64 a1_1, .int .u64 a1_2, .int .u64 a1_3] 37 (0, 0))) ∧ Aside0 (Below w.heap.size w w'))
  case atStart => exact ⟨(0), (by first | rfl | (simp; done) | (simp [*]; done)), H', ⟨Nat.le_refl _⟩, ⟨by (with_reducible repeat (first | refine blk_drewN ?_ _ | refine blk_drew ?_ | refine blk_alloc ?_ _)); exact BK253.out⟩, ⟨by (with_reducible repeat (first | refine blk_drewN ?_ _ | refine blk_drew ?_ | refine blk_alloc ?_ _)); exact BK254.out⟩, ⟨by repeat (first | (with_reducible first | exact HB.out | apply below_alloc | apply pw_below_drewN | apply below_drew1 | refine below_set ?_ GE253.out | refine below_set ?_ GE254.out) | exact HB.out)⟩⟩
  case round =>
    clear H'
    try clear p2
    obtain ⟨x5_1, rfl, HA, HK1, BK253, BK254, HB⟩ := hrel
    cases gk with
    | zero => exact absurd HA.out (by simp [tenementref06_Leq.l0])
    | succ k1 =>
      have H := HA.out
      clear HA
      simp only [tenementref06_Leq.l0] at H
      by_cases c5 : x5_1 < 4
      rotate_left
      · rw [if_neg c5] at H
        have c5b0 : decide (x5_1 < 4) = false := decide_eq_false c5
        clear c5
        obtain rfl := Option.some.inj H
        go_wp2
        repeat (go_quiet (fail); try go_wp2)
        go_ret
        exact ⟨by first | rfl | (simp [errW_none, errW_some] <;> rfl) | (simp [*, errW_none, errW_some] <;> rfl), by repeat (first | (with_reducible first | exact HB.out | apply below_alloc | apply pw_below_drewN | apply below_drew1 | refine below_set ?_ GE253.out | refine below_set ?_ GE254.out) | exact HB.out)⟩
      rw [if_pos c5] at H
      have c5b0 : decide (x5_1 < 4) = true := decide_eq_true c5
      clear c5
      by_cases c6 : x5_1 = 0
      · subst c6
        have H1 : (if a0_0 > a1_0 then (some false) else (tenementref06_Leq.l0 k1 1 a0_0 a0_1 a0_2 a0_3 a1_0 a1_1 a1_2 a1_3)) = some r := by rw [if_pos rfl] at H; (try simp only [show wrap64 ((0 : Int) + 1) = 1 from by first | rfl | decide | (unfold wrap64; omega), show wrap64 ((0 : Int) - 1) = -1 from by first | rfl | decide | (unfold wrap64; omega)] at H); exact H
        clear H
        have H := H1
        clear H1
        by_cases c7 : a0_0 > a1_0
        · rw [if_pos c7] at H
          have c7b0 : decide (a1_0 < a0_0) = true := decide_eq_true c7
          clear c7
          obtain rfl := Option.some.inj H
          have hnb8 := NB253_254.out
          have hnc8 := NB254_253.out
          have hcz9_0 : wr.cell? ⟨gb253, 0, none⟩ = some (.int .u64 a0_0) := (blk_cell BK253.out 0).trans rfl
          have hcz9_1 : wr.cell? ⟨gb253, 1, none⟩ = some (.int .u64 a0_1) := (blk_cell BK253.out 1).trans rfl
          have hcz9_2 : wr.cell? ⟨gb253, 2, none⟩ = some (.int .u64 a0_2) := (blk_cell BK253.out 2).trans rfl
          have hcz9_3 : wr.cell? ⟨gb253, 3, none⟩ = some (.int .u64 a0_3) := (blk_cell BK253.out 3).trans rfl
          have hfz9_0 := blk_frozen BK253.out 0
          have hfz9_1 := blk_frozen BK253.out 1
          have hfz9_2 := blk_frozen BK253.out 2
          have hfz9_3 := blk_frozen BK253.out 3
          have hcz10_0 : wr.cell? ⟨gb254, 0, none⟩ = some (.int .u64 a1_0) := (blk_cell BK254.out 0).trans rfl
          have hcz10_1 : wr.cell? ⟨gb254, 1, none⟩ = some (.int .u64 a1_1) := (blk_cell BK254.out 1).trans rfl
          have hcz10_2 : wr.cell? ⟨gb254, 2, none⟩ = some (.int .u64 a1_2) := (blk_cell BK254.out 2).trans rfl
          have hcz10_3 : wr.cell? ⟨gb254, 3, none⟩ = some (.int .u64 a1_3) := (blk_cell BK254.out 3).trans rfl
          have hfz10_0 := blk_frozen BK254.out 0
          have hfz10_1 := blk_frozen BK254.out 1
          have hfz10_2 := blk_frozen BK254.out 2
          have hfz10_3 := blk_frozen BK254.out 3
          go_wp2
          repeat (go_quiet (fail); try go_wp2)
          go_ret
          exact ⟨by first | rfl | (simp [errW_none, errW_some] <;> rfl) | (simp [*, errW_none, errW_some] <;> rfl), by repeat (first | (with_reducible first | exact HB.out | apply below_alloc | apply pw_below_drewN | apply below_drew1 | refine below_set ?_ GE253.out | refine below_set ?_ GE254.out) | exact HB.out)⟩
        rw [if_neg c7] at H
        have c7b0 : decide (a1_0 < a0_0) = false := decide_eq_false c7
        clear c7
        have H' := Aside0.mk H
        clear H
        have hnb11 := NB253_254.out
        have hnc11 := NB254_253.out
        have hcz12_0 : wr.cell? ⟨gb253, 0, none⟩ = some (.int .u64 a0_0) := (blk_cell BK253.out 0).trans rfl
        have hcz12_1 : wr.cell? ⟨gb253, 1, none⟩ = some (.int .u64 a0_1) := (blk_cell BK253.out 1).trans rfl
        have hcz12_2 : wr.cell? ⟨gb253, 2, none⟩ = some (.int .u64 a0_2) := (blk_cell BK253.out 2).trans rfl
        have hcz12_3 : wr.cell? ⟨gb253, 3, none⟩ = some (.int .u64 a0_3) := (blk_cell BK253.out 3).trans rfl
        have hfz12_0 := blk_frozen BK253.out 0
        have hfz12_1 := blk_frozen BK253.out 1
        have hfz12_2 := blk_frozen BK253.out 2
        have hfz12_3 := blk_frozen BK253.out 3
        have hcz13_0 : wr.cell? ⟨gb254, 0, none⟩ = some (.int .u64 a1_0) := (blk_cell BK254.out 0).trans rfl
        have hcz13_1 : wr.cell? ⟨gb254, 1, none⟩ = some (.int .u64 a1_1) := (blk_cell BK254.out 1).trans rfl
        have hcz13_2 : wr.cell? ⟨gb254, 2, none⟩ = some (.int .u64 a1_2) := (blk_cell BK254.out 2).trans rfl
        have hcz13_3 : wr.cell? ⟨gb254, 3, none⟩ = some (.int .u64 a1_3) := (blk_cell BK254.out 3).trans rfl
        have hfz13_0 := blk_frozen BK254.out 0
        have hfz13_1 := blk_frozen BK254.out 1
        have hfz13_2 := blk_frozen BK254.out 2
        have hfz13_3 := blk_frozen BK254.out 3
        go_wp2
        repeat (go_quiet (fail); try go_wp2)
        go_roundg k1
        case measure => have := HK1.out; omega
        case rel => exact ⟨(1), (by first | rfl | (simp; done) | (simp [*]; done)), H', ⟨by have := HK1.out; omega⟩, ⟨by (with_reducible repeat (first | refine blk_drewN ?_ _ | refine blk_drew ?_ | refine blk_alloc ?_ _)); exact BK253.out⟩, ⟨by (with_reducible repeat (first | refine blk_drewN ?_ _ | refine blk_drew ?_ | refine blk_alloc ?_ _)); exact BK254.out⟩, ⟨by repeat (first | (with_reducible first | exact HB.out | apply below_alloc | apply pw_below_drewN | apply below_drew1 | refine below_set ?_ GE253.out | refine below_set ?_ GE254.out) | exact HB.out)⟩⟩
      rw [if_neg c6] at H
      by_cases c14 : x5_1 = 1
      · subst c14
        have H1 : (if a0_1 > a1_1 then (some false) else (tenementref06_Leq.l0 k1 2 a0_0 a0_1 a0_2 a0_3 a1_0 a1_1 a1_2 a1_3)) = some r := by rw [if_pos rfl] at H; (try simp only [show wrap64 ((1 : Int) + 1) = 2 from by first | rfl | decide | (unfold wrap64; omega), show wrap64 ((1 : Int) - 1) = 0 from by first | rfl | decide | (unfold wrap64; omega)] at H); exact H
        clear H
        have H := H1
        clear H1
        by_cases c15 : a0_1 > a1_1
        · rw [if_pos c15] at H
          have c15b0 : decide (a1_1 < a0_1) = true := decide_eq_true c15
          clear c15
          obtain rfl := Option.some.inj H
          have hnb16 := NB253_254.out
          have hnc16 := NB254_253.out
          have hcz17_0 : wr.cell? ⟨gb253, 0, none⟩ = some (.int .u64 a0_0) := (blk_cell BK253.out 0).trans rfl
          have hcz17_1 : wr.cell? ⟨gb253, 1, none⟩ = some (.int .u64 a0_1) := (blk_cell BK253.out 1).trans rfl
          have hcz17_2 : wr.cell? ⟨gb253, 2, none⟩ = some (.int .u64 a0_2) := (blk_cell BK253.out 2).trans rfl
          have hcz17_3 : wr.cell? ⟨gb253, 3, none⟩ = some (.int .u64 a0_3) := (blk_cell BK253.out 3).trans rfl
          have hfz17_0 := blk_frozen BK253.out 0
          have hfz17_1 := blk_frozen BK253.out 1
          have hfz17_2 := blk_frozen BK253.out 2
          have hfz17_3 := blk_frozen BK253.out 3
          have hcz18_0 : wr.cell? ⟨gb254, 0, none⟩ = some (.int .u64 a1_0) := (blk_cell BK254.out 0).trans rfl
          have hcz18_1 : wr.cell? ⟨gb254, 1, none⟩ = some (.int .u64 a1_1) := (blk_cell BK254.out 1).trans rfl
          have hcz18_2 : wr.cell? ⟨gb254, 2, none⟩ = some (.int .u64 a1_2) := (blk_cell BK254.out 2).trans rfl
          have hcz18_3 : wr.cell? ⟨gb254, 3, none⟩ = some (.int .u64 a1_3) := (blk_cell BK254.out 3).trans rfl
          have hfz18_0 := blk_frozen BK254.out 0
          have hfz18_1 := blk_frozen BK254.out 1
          have hfz18_2 := blk_frozen BK254.out 2
          have hfz18_3 := blk_frozen BK254.out 3
          go_wp2
          repeat (go_quiet (fail); try go_wp2)
          go_ret
          exact ⟨by first | rfl | (simp [errW_none, errW_some] <;> rfl) | (simp [*, errW_none, errW_some] <;> rfl), by repeat (first | (with_reducible first | exact HB.out | apply below_alloc | apply pw_below_drewN | apply below_drew1 | refine below_set ?_ GE253.out | refine below_set ?_ GE254.out) | exact HB.out)⟩
        rw [if_neg c15] at H
        have c15b0 : decide (a1_1 < a0_1) = false := decide_eq_false c15
        clear c15
        have H' := Aside0.mk H
        clear H
        have hnb19 := NB253_254.out
        have hnc19 := NB254_253.out
        have hcz20_0 : wr.cell? ⟨gb253, 0, none⟩ = some (.int .u64 a0_0) := (blk_cell BK253.out 0).trans rfl
        have hcz20_1 : wr.cell? ⟨gb253, 1, none⟩ = some (.int .u64 a0_1) := (blk_cell BK253.out 1).trans rfl
        have hcz20_2 : wr.cell? ⟨gb253, 2, none⟩ = some (.int .u64 a0_2) := (blk_cell BK253.out 2).trans rfl
        have hcz20_3 : wr.cell? ⟨gb253, 3, none⟩ = some (.int .u64 a0_3) := (blk_cell BK253.out 3).trans rfl
        have hfz20_0 := blk_frozen BK253.out 0
        have hfz20_1 := blk_frozen BK253.out 1
        have hfz20_2 := blk_frozen BK253.out 2
        have hfz20_3 := blk_frozen BK253.out 3
        have hcz21_0 : wr.cell? ⟨gb254, 0, none⟩ = some (.int .u64 a1_0) := (blk_cell BK254.out 0).trans rfl
        have hcz21_1 : wr.cell? ⟨gb254, 1, none⟩ = some (.int .u64 a1_1) := (blk_cell BK254.out 1).trans rfl
        have hcz21_2 : wr.cell? ⟨gb254, 2, none⟩ = some (.int .u64 a1_2) := (blk_cell BK254.out 2).trans rfl
        have hcz21_3 : wr.cell? ⟨gb254, 3, none⟩ = some (.int .u64 a1_3) := (blk_cell BK254.out 3).trans rfl
        have hfz21_0 := blk_frozen BK254.out 0
        have hfz21_1 := blk_frozen BK254.out 1
        have hfz21_2 := blk_frozen BK254.out 2
        have hfz21_3 := blk_frozen BK254.out 3
        go_wp2
        repeat (go_quiet (fail); try go_wp2)
        go_roundg k1
        case measure => have := HK1.out; omega
        case rel => exact ⟨(2), (by first | rfl | (simp; done) | (simp [*]; done)), H', ⟨by have := HK1.out; omega⟩, ⟨by (with_reducible repeat (first | refine blk_drewN ?_ _ | refine blk_drew ?_ | refine blk_alloc ?_ _)); exact BK253.out⟩, ⟨by (with_reducible repeat (first | refine blk_drewN ?_ _ | refine blk_drew ?_ | refine blk_alloc ?_ _)); exact BK254.out⟩, ⟨by repeat (first | (with_reducible first | exact HB.out | apply below_alloc | apply pw_below_drewN | apply below_drew1 | refine below_set ?_ GE253.out | refine below_set ?_ GE254.out) | exact HB.out)⟩⟩
      rw [if_neg c14] at H
      by_cases c22 : x5_1 = 2
      · subst c22
        have H1 : (if a0_2 > a1_2 then (some false) else (tenementref06_Leq.l0 k1 3 a0_0 a0_1 a0_2 a0_3 a1_0 a1_1 a1_2 a1_3)) = some r := by rw [if_pos rfl] at H; (try simp only [show wrap64 ((2 : Int) + 1) = 3 from by first | rfl | decide | (unfold wrap64; omega), show wrap64 ((2 : Int) - 1) = 1 from by first | rfl | decide | (unfold wrap64; omega)] at H); exact H
        clear H
        have H := H1
        clear H1
        by_cases c23 : a0_2 > a1_2
        · rw [if_pos c23] at H
          have c23b0 : decide (a1_2 < a0_2) = true := decide_eq_true c23
          clear c23
          obtain rfl := Option.some.inj H
          have hnb24 := NB253_254.out
          have hnc24 := NB254_253.out
          have hcz25_0 : wr.cell? ⟨gb253, 0, none⟩ = some (.int .u64 a0_0) := (blk_cell BK253.out 0).trans rfl
          have hcz25_1 : wr.cell? ⟨gb253, 1, none⟩ = some (.int .u64 a0_1) := (blk_cell BK253.out 1).trans rfl
          have hcz25_2 : wr.cell? ⟨gb253, 2, none⟩ = some (.int .u64 a0_2) := (blk_cell BK253.out 2).trans rfl
          have hcz25_3 : wr.cell? ⟨gb253, 3, none⟩ = some (.int .u64 a0_3) := (blk_cell BK253.out 3).trans rfl
          have hfz25_0 := blk_frozen BK253.out 0
          have hfz25_1 := blk_frozen BK253.out 1
          have hfz25_2 := blk_frozen BK253.out 2
          have hfz25_3 := blk_frozen BK253.out 3
          have hcz26_0 : wr.cell? ⟨gb254, 0, none⟩ = some (.int .u64 a1_0) := (blk_cell BK254.out 0).trans rfl
          have hcz26_1 : wr.cell? ⟨gb254, 1, none⟩ = some (.int .u64 a1_1) := (blk_cell BK254.out 1).trans rfl
          have hcz26_2 : wr.cell? ⟨gb254, 2, none⟩ = some (.int .u64 a1_2) := (blk_cell BK254.out 2).trans rfl
          have hcz26_3 : wr.cell? ⟨gb254, 3, none⟩ = some (.int .u64 a1_3) := (blk_cell BK254.out 3).trans rfl
          have hfz26_0 := blk_frozen BK254.out 0
          have hfz26_1 := blk_frozen BK254.out 1
          have hfz26_2 := blk_frozen BK254.out 2
          have hfz26_3 := blk_frozen BK254.out 3
          go_wp2
          repeat (go_quiet (fail); try go_wp2)
          go_ret
          exact ⟨by first | rfl | (simp [errW_none, errW_some] <;> rfl) | (simp [*, errW_none, errW_some] <;> rfl), by repeat (first | (with_reducible first | exact HB.out | apply below_alloc | apply pw_below_drewN | apply below_drew1 | refine below_set ?_ GE253.out | refine below_set ?_ GE254.out) | exact HB.out)⟩
        rw [if_neg c23] at H
        have c23b0 : decide (a1_2 < a0_2) = false := decide_eq_false c23
        clear c23
        have H' := Aside0.mk H
        clear H
        have hnb27 := NB253_254.out
        have hnc27 := NB254_253.out
        have hcz28_0 : wr.cell? ⟨gb253, 0, none⟩ = some (.int .u64 a0_0) := (blk_cell BK253.out 0).trans rfl
        have hcz28_1 : wr.cell? ⟨gb253, 1, none⟩ = some (.int .u64 a0_1) := (blk_cell BK253.out 1).trans rfl
        have hcz28_2 : wr.cell? ⟨gb253, 2, none⟩ = some (.int .u64 a0_2) := (blk_cell BK253.out 2).trans rfl
        have hcz28_3 : wr.cell? ⟨gb253, 3, none⟩ = some (.int .u64 a0_3) := (blk_cell BK253.out 3).trans rfl
        have hfz28_0 := blk_frozen BK253.out 0
        have hfz28_1 := blk_frozen BK253.out 1
        have hfz28_2 := blk_frozen BK253.out 2
        have hfz28_3 := blk_frozen BK253.out 3
        have hcz29_0 : wr.cell? ⟨gb254, 0, none⟩ = some (.int .u64 a1_0) := (blk_cell BK254.out 0).trans rfl
        have hcz29_1 : wr.cell? ⟨gb254, 1, none⟩ = some (.int .u64 a1_1) := (blk_cell BK254.out 1).trans rfl
        have hcz29_2 : wr.cell? ⟨gb254, 2, none⟩ = some (.int .u64 a1_2) := (blk_cell BK254.out 2).trans rfl
        have hcz29_3 : wr.cell? ⟨gb254, 3, none⟩ = some (.int .u64 a1_3) := (blk_cell BK254.out 3).trans rfl
        have hfz29_0 := blk_frozen BK254.out 0
        have hfz29_1 := blk_frozen BK254.out 1
        have hfz29_2 := blk_frozen BK254.out 2
        have hfz29_3 := blk_frozen BK254.out 3
        go_wp2
        repeat (go_quiet (fail); try go_wp2)
        go_roundg k1
        case measure => have := HK1.out; omega
        case rel => exact ⟨(3), (by first | rfl | (simp; done) | (simp [*]; done)), H', ⟨by have := HK1.out; omega⟩, ⟨by (with_reducible repeat (first | refine blk_drewN ?_ _ | refine blk_drew ?_ | refine blk_alloc ?_ _)); exact BK253.out⟩, ⟨by (with_reducible repeat (first | refine blk_drewN ?_ _ | refine blk_drew ?_ | refine blk_alloc ?_ _)); exact BK254.out⟩, ⟨by repeat (first | (with_reducible first | exact HB.out | apply below_alloc | apply pw_below_drewN | apply below_drew1 | refine below_set ?_ GE253.out | refine below_set ?_ GE254.out) | exact HB.out)⟩⟩
      rw [if_neg c22] at H
      by_cases c30 : x5_1 = 3
      rotate_left
      · rw [if_neg c30] at H
        exact absurd H (by simp)
      subst c30
      have H1 : (if a0_3 > a1_3 then (some false) else (tenementref06_Leq.l0 k1 4 a0_0 a0_1 a0_2 a0_3 a1_0 a1_1 a1_2 a1_3)) = some r := by rw [if_pos rfl] at H; (try simp only [show wrap64 ((3 : Int) + 1) = 4 from by first | rfl | decide | (unfold wrap64; omega), show wrap64 ((3 : Int) - 1) = 2 from by first | rfl | decide | (unfold wrap64; omega)] at H); exact H
      clear H
      have H := H1
      clear H1
      by_cases c31 : a0_3 > a1_3
      · rw [if_pos c31] at H
        have c31b0 : decide (a1_3 < a0_3) = true := decide_eq_true c31
        clear c31
        obtain rfl := Option.some.inj H
        have hnb32 := NB253_254.out
        have hnc32 := NB254_253.out
        have hcz33_0 : wr.cell? ⟨gb253, 0, none⟩ = some (.int .u64 a0_0) := (blk_cell BK253.out 0).trans rfl
        have hcz33_1 : wr.cell? ⟨gb253, 1, none⟩ = some (.int .u64 a0_1) := (blk_cell BK253.out 1).trans rfl
        have hcz33_2 : wr.cell? ⟨gb253, 2, none⟩ = some (.int .u64 a0_2) := (blk_cell BK253.out 2).trans rfl
        have hcz33_3 : wr.cell? ⟨gb253, 3, none⟩ = some (.int .u64 a0_3) := (blk_cell BK253.out 3).trans rfl
        have hfz33_0 := blk_frozen BK253.out 0
        have hfz33_1 := blk_frozen BK253.out 1
        have hfz33_2 := blk_frozen BK253.out 2
        have hfz33_3 := blk_frozen BK253.out 3
        have hcz34_0 : wr.cell? ⟨gb254, 0, none⟩ = some (.int .u64 a1_0) := (blk_cell BK254.out 0).trans rfl
        have hcz34_1 : wr.cell? ⟨gb254, 1, none⟩ = some (.int .u64 a1_1) := (blk_cell BK254.out 1).trans rfl
        have hcz34_2 : wr.cell? ⟨gb254, 2, none⟩ = some (.int .u64 a1_2) := (blk_cell BK254.out 2).trans rfl
        have hcz34_3 : wr.cell? ⟨gb254, 3, none⟩ = some (.int .u64 a1_3) := (blk_cell BK254.out 3).trans rfl
        have hfz34_0 := blk_frozen BK254.out 0
        have hfz34_1 := blk_frozen BK254.out 1
        have hfz34_2 := blk_frozen BK254.out 2
        have hfz34_3 := blk_frozen BK254.out 3
        go_wp2
        repeat (go_quiet (fail); try go_wp2)
        go_ret
        exact ⟨by first | rfl | (simp [errW_none, errW_some] <;> rfl) | (simp [*, errW_none, errW_some] <;> rfl), by repeat (first | (with_reducible first | exact HB.out | apply below_alloc | apply pw_below_drewN | apply below_drew1 | refine below_set ?_ GE253.out | refine below_set ?_ GE254.out) | exact HB.out)⟩
      rw [if_neg c31] at H
      have c31b0 : decide (a1_3 < a0_3) = false := decide_eq_false c31
      clear c31
      have H' := Aside0.mk H
      clear H
      have hnb35 := NB253_254.out
      have hnc35 := NB254_253.out
      have hcz36_0 : wr.cell? ⟨gb253, 0, none⟩ = some (.int .u64 a0_0) := (blk_cell BK253.out 0).trans rfl
      have hcz36_1 : wr.cell? ⟨gb253, 1, none⟩ = some (.int .u64 a0_1) := (blk_cell BK253.out 1).trans rfl
      have hcz36_2 : wr.cell? ⟨gb253, 2, none⟩ = some (.int .u64 a0_2) := (blk_cell BK253.out 2).trans rfl
      have hcz36_3 : wr.cell? ⟨gb253, 3, none⟩ = some (.int .u64 a0_3) := (blk_cell BK253.out 3).trans rfl
      have hfz36_0 := blk_frozen BK253.out 0
      have hfz36_1 := blk_frozen BK253.out 1
      have hfz36_2 := blk_frozen BK253.out 2
      have hfz36_3 := blk_frozen BK253.out 3
      have hcz37_0 : wr.cell? ⟨gb254, 0, none⟩ = some (.int .u64 a1_0) := (blk_cell BK254.out 0).trans rfl
      have hcz37_1 : wr.cell? ⟨gb254, 1, none⟩ = some (.int .u64 a1_1) := (blk_cell BK254.out 1).trans rfl
      have hcz37_2 : wr.cell? ⟨gb254, 2, none⟩ = some (.int .u64 a1_2) := (blk_cell BK254.out 2).trans rfl
      have hcz37_3 : wr.cell? ⟨gb254, 3, none⟩ = some (.int .u64 a1_3) := (blk_cell BK254.out 3).trans rfl
      have hfz37_0 := blk_frozen BK254.out 0
      have hfz37_1 := blk_frozen BK254.out 1
      have hfz37_2 := blk_frozen BK254.out 2
      have hfz37_3 := blk_frozen BK254.out 3
      go_wp2
      repeat (go_quiet (fail); try go_wp2)
      go_roundg k1
      case measure => have := HK1.out; omega
      case rel => exact ⟨(4), (by first | rfl | (simp; done) | (simp [*]; done)), H', ⟨by have := HK1.out; omega⟩, ⟨by (with_reducible repeat (first | refine blk_drewN ?_ _ | refine blk_drew ?_ | refine blk_alloc ?_ _)); exact BK253.out⟩, ⟨by (with_reducible repeat (first | refine blk_drewN ?_ _ | refine blk_drew ?_ | refine blk_alloc ?_ _)); exact BK254.out⟩, ⟨by repeat (first | (with_reducible first | exact HB.out | apply below_alloc | apply pw_below_drewN | apply below_drew1 | refine below_set ?_ GE253.out | refine below_set ?_ GE254.out) | exact HB.out)⟩⟩

end Go.Proofs.YtdlagefpglhdoaaDoor.Q

-- Written by this session's own driver (wip/hybrid.py) of the kit's printer; contracts marked FOREIGN are by hand.
namespace Go.Proofs.YtdlagefpglhdoaaDoor.Q
open Go.RowKit Go.Proofs.YtdlagefpglhdoaaDoorW.PrintWords Go.Proofs.YtdlagefpglhdoaaDoorW.PrintLast Go.Proofs.YtdlagefpglhdoaaDoorW.PrintMore
attribute [local go_sem] max2_int min2_int max_two min_two max_three min_three max_four min_four   -- for this text's walks alone
set_option linter.unusedVariables false
set_option linter.unusedSimpArgs false

/-! ### tenementref07_Seen: function 24 -/
def tenementref07_Seen.f (k : Nat) (a0_0 : Int) (a0_1 : Int) (a0_2 : Int) (a0_3 : Int) (a0_4 : Int) (a1_0 : Int) (a1_1 : Int) (a1_2 : Int) (a1_3 : Int) : Option (Bool) := (tenementref06_Leq.f k a0_0 a0_1 a0_2 a0_3 a1_0 a1_1 a1_2 a1_3).bind fun t257 => (some t257)
theorem tenementref07_Seen.mono : ∀ a0 a1 a2 a3 a4 a5 a6 a7 a8 k, LeO (tenementref07_Seen.f k a0 a1 a2 a3 a4 a5 a6 a7 a8) (tenementref07_Seen.f (k + 1) a0 a1 a2 a3 a4 a5 a6 a7 a8) := by
  intro a0 a1 a2 a3 a4 a5 a6 a7 a8 k
  unfold tenementref07_Seen.f
  repeat' first
      | (with_reducible exact tenementref06_Leq.mono _ _ _ _ _ _ _ _ _)
      | (with_reducible exact LeO.refl _)
      | (with_reducible exact LeO.none _)
      | (with_reducible refine LeO.ite ?_ ?_)
      | (with_reducible refine LeO.bind ?_ (fun _ => ?_))
      | exact tenementref06_Leq.mono _ _ _ _ _ _ _ _ _
      | exact LeO.none _
      | refine LeO.ite ?_ ?_
      | refine LeO.bind ?_ (fun _ => ?_)
set_option maxHeartbeats 8000000 in
set_option maxRecDepth 100000 in
theorem tenementref07_Seen.calls (k : Nat) (a0_0 : Int) (a0_1 : Int) (a0_2 : Int) (a0_3 : Int) (a0_4 : Int) (a1_0 : Int) (a1_1 : Int) (a1_2 : Int) (a1_3 : Int) (r : Bool) (w : World) (h : tenementref07_Seen.f k a0_0 a0_1 a0_2 a0_3 a0_4 a1_0 a1_1 a1_2 a1_3 = some r) :
    Calls Tryd.prog 24 #[.agg #[.int .u64 a0_0, .int .u64 a0_1, .int .u64 a0_2, .int .u64 a0_3, .int .i64 a0_4], .agg #[.int .u64 a1_0, .int .u64 a1_1, .int .u64 a1_2, .int .u64 a1_3]] w fun e w' => e = .returned (.bool r) ∧ Below w.heap.size w w' := by
  have hu39 := Tryd.underlying39
  have hu37 := Tryd.underlying37
  have HB := Aside0.mk (Below.refl w.heap.size w)
  have H : ((tenementref06_Leq.f k a0_0 a0_1 a0_2 a0_3 a1_0 a1_1 a1_2 a1_3).bind fun t257 => (some t257)) = some r := h
  clear h
  replace H := Option.bind_eq_some_iff.mp H
  obtain ⟨t257, A30, H⟩ := H
  replace H : (some t257) = some r := H
  have A3 := Aside0.mk A30
  clear A30
  obtain rfl := Option.some.inj H
  go_enter Tryd.func24, Tryd.ntmps24
  go_wp2_with (first | ((with_reducible refine gate_dst (N := 2) rfl ?_); refine box_event ?hg (N := 2) ?hd (cs := #[.int .u64 a0_0, .int .u64 a0_1, .int .u64 a0_2, .int .u64 a0_3, .int .i64 a0_4]) (t := 39) ?hr ?_; (case hd => rfl); (case hg => rfl); (case hr => first | (go_simp; done) | (go_simp; rfl)); intro gb255 hg w4 hbox hb; have BK255 := Aside0.mk (hbox); have GW255 := Kw_ HB hg; have GE255 := GW255; replace HB := Ks_ HB hb; clear hb hbox hg) | ((with_reducible refine gate_dst (N := 3) rfl ?_); refine box_event ?hg (N := 3) ?hd (cs := #[.int .u64 a1_0, .int .u64 a1_1, .int .u64 a1_2, .int .u64 a1_3]) (t := 37) ?hr ?_; (case hd => rfl); (case hg => rfl); (case hr => first | (go_simp; done) | (go_simp; rfl)); intro gb256 hg w5 hbox hb; have BK256 := Aside0.mk (hbox); have GW256 := Kw_ HB hg; have GE256 := GW256; have NB255_256 := Kl_ BK255 hg; have NB256_255 := Kr_ BK255 hg; replace BK255 := Kb_ BK255 hb; replace HB := Ks_ HB hb; clear hb hbox hg; have hnb6 := NB255_256.out; have hnc6 := NB256_255.out; obtain ⟨hcz7_0, hcz7_1, hcz7_2, hcz7_3, hcz7_4, hfz7_0, hfz7_1, hfz7_2, hfz7_3, hfz7_4⟩ := Ke5_ BK255.out; obtain ⟨hcz8_0, hcz8_1, hcz8_2, hcz8_3, hfz8_0, hfz8_1, hfz8_2, hfz8_3⟩ := Ke4_ BK256.out) | ((with_reducible refine gate_callee (f := 50) rfl ?_); refine goesL_ (some 8) rfl rfl Tryd.func50 (by kernel_rfl) rfl #[.agg #[.int .u64 a0_0, .int .u64 a0_1, .int .u64 a0_2, .int .u64 a0_3], .agg #[.int .u64 a1_0, .int .u64 a1_1, .int .u64 a1_2, .int .u64 a1_3]] rfl (by (try simp only [List.map_toArray, List.map_cons, List.map_nil]); first | done | rfl | (simp only [List.length_drop, List.length_take]; rfl)) ?_; (with_reducible refine (tenementref06_Leq.calls k a0_0 a0_1 a0_2 a0_3 a1_0 a1_1 a1_2 a1_3 t257 _ A3.out).mono ?_); rintro e w9 ⟨rfl, hb⟩; refine ⟨_, rfl, ?_⟩; replace BK255 := Kb_ BK255 hb; replace BK256 := Kb_ BK256 hb; replace HB := Ks_ HB hb; (try clear hb); (try clear hb2); (try clear hk); (try clear hi)))
  go_ret
  exact ⟨by first | rfl | (simp [errW_none, errW_some] <;> rfl) | (simp [*, errW_none, errW_some] <;> rfl), by repeat (first | (with_reducible first | exact HB.out | apply below_alloc | apply pw_below_drewN | apply below_drew1 | refine below_set ?_ GE255.out | refine below_set ?_ GE256.out) | exact HB.out)⟩

end Go.Proofs.YtdlagefpglhdoaaDoor.Q

-- Written by this session's own driver (wip/hybrid.py) of the kit's printer; contracts marked FOREIGN are by hand.
namespace Go.Proofs.YtdlagefpglhdoaaDoor.Q
open Go.RowKit Go.Proofs.YtdlagefpglhdoaaDoorW.PrintWords Go.Proofs.YtdlagefpglhdoaaDoorW.PrintLast Go.Proofs.YtdlagefpglhdoaaDoorW.PrintMore
attribute [local go_sem] max2_int min2_int max_two min_two max_three min_three max_four min_four   -- for this text's walks alone
set_option linter.unusedVariables false
set_option linter.unusedSimpArgs false

/-! ### tenementref06_Digits: function 70 -/
def tenementref06_Digits.l0 : Nat → Int → ByteArray → Option (ByteArray)
  | 0, _, _ => none
  | k + 1, x0, x3 => if x0 > 9 then ((some (([(IntKind.u64.wrap (48 + (Int.tmod (IntKind.u64.wrap (Int.tdiv x0 10)) 10))) % 256] : List Int) : List Int)).bind fun y261 => (if (strOfNums y261).size + x3.size ≤ 9223372036854775807 then (tenementref06_Digits.l0 k (IntKind.u64.wrap (Int.tdiv x0 10)) ((strOfNums y261) ++ x3)) else (none))) else (some x3)
def tenementref06_Digits.f (k : Nat) (a0 : Int) : Option (ByteArray) := tenementref06_Digits.l0 k a0 (strOfNums (([(IntKind.u64.wrap (48 + (Int.tmod a0 10))) % 256] : List Int)))
theorem tenementref06_Digits.mono_l : ∀ k, (∀ y0 y1, LeO (tenementref06_Digits.l0 k y0 y1) (tenementref06_Digits.l0 (k + 1) y0 y1))
  | 0 => fun _ _ r h => by simp [tenementref06_Digits.l0] at h
  | k + 1 => by
    have ih0 := tenementref06_Digits.mono_l k
    · intro y0 y1
      unfold tenementref06_Digits.l0
      repeat' first
      | (with_reducible exact ih0 _ _)
      | (with_reducible exact LeO.refl _)
      | (with_reducible exact LeO.none _)
      | (with_reducible refine LeO.ite ?_ ?_)
      | (with_reducible refine LeO.bind ?_ (fun _ => ?_))
      | exact ih0 _ _
      | exact LeO.none _
      | refine LeO.ite ?_ ?_
      | refine LeO.bind ?_ (fun _ => ?_)
theorem tenementref06_Digits.mono : ∀ a0 k, LeO (tenementref06_Digits.f k a0) (tenementref06_Digits.f (k + 1) a0) := by
  intro a0 k
  have ih0 := tenementref06_Digits.mono_l k
  unfold tenementref06_Digits.f
  repeat' first
      | (with_reducible exact ih0 _ _)
      | (with_reducible exact LeO.refl _)
      | (with_reducible exact LeO.none _)
      | (with_reducible refine LeO.ite ?_ ?_)
      | (with_reducible refine LeO.bind ?_ (fun _ => ?_))
      | exact ih0 _ _
      | exact LeO.none _
      | refine LeO.ite ?_ ?_
      | refine LeO.bind ?_ (fun _ => ?_)
set_option maxHeartbeats 8000000 in
set_option maxRecDepth 100000 in
theorem tenementref06_Digits.calls (k : Nat) (a0 : Int) (r : ByteArray) (w : World) (h : tenementref06_Digits.f k a0 = some r) :
    Calls Tryd.prog 70 #[.int .u64 a0] w fun e w' => e = .returned (.string r) ∧ Below w.heap.size w w' := by
  have HB := Aside0.mk (Below.refl w.heap.size w)
  have H : (tenementref06_Digits.l0 k a0 (strOfNums (([(IntKind.u64.wrap (48 + (Int.tmod a0 10))) % 256] : List Int)))) = some r := h
  clear h
  obtain ⟨y258, hy258⟩ : ∃ y_ : List Int, y_ = (([(IntKind.u64.wrap (48 + (Int.tmod a0 10))) % 256] : List Int)) := ⟨_, rfl⟩
  replace H : (tenementref06_Digits.l0 k a0 (strOfNums y258)) = some r := by first | (rw [hy258]; with_reducible exact H) | (have H2_ := (Option.bind_some _ _).symm.trans H; rw [hy258]; with_reducible exact H2_) | (have H2_ := (Option.bind_some _ _).symm.trans H; with_reducible exact H2_) | with_reducible exact H | (rw [hy258]; exact H) | exact H
  have Ny258 := Aside0.mk hy258
  clear hy258
  have H' := Aside0.mk H
  clear H
  go_enter Tryd.func70, Tryd.ntmps70
  go_wp2_with (first | ((with_reducible refine gate_dst (N := 8) rfl ?_); refine Kd.R_lit (Kd.int .u8) _ 5 ?hg (N := 8) ?hd (xs := ([(IntKind.u64.wrap (48 + (Int.tmod a0 10))) % 256] : List Int)) (inner := [.int .u8 ((IntKind.u64.wrap (48 + (Int.tmod a0 10))) % 256)]) (ok := fun _ => True) (okp := fun _ => True) ?hr ?hp (fun _ hk => hk) trivial (Below.refl _ _) (Nat.le_refl _) (by simp) ?_; (case hd => rfl); (case hg => rfl); (case hr => first | (go_simp; done) | (go_simp; rfl)); (case hp => exact (Reps.one (show Kd.M (Kd.int .u8) _ _ _ ((IntKind.u64.wrap (48 + (Int.tmod a0 10))) % 256) [.int .u8 ((IntKind.u64.wrap (48 + (Int.tmod a0 10))) % 256)] from rfl) (Reps.none _ _))); intro v259 w2 ho3 hb hg_ hnew_; clear hg_ hnew_; (first | rw [← Ny258.out] at ho3 | (simp only [Int.reduceToNat] at ho3; rw [← Ny258.out] at ho3)); have HO260 := Aside0.mk (Kd.R_lower ho3 (below_size (Ky_ HB))); replace HB := Ks_ HB hb; clear hb ho3; have hcv4 := own_string (P := Tryd.prog) Tryd.underlying88 Tryd.underlying5 Tryd.underlying9 (Kd.own_of_R HO260.out)))
  go_loopg [0, 3] k (fun kq v0 v3 w' => ∃ (x0_1 : Int) (x3_1 : ByteArray), v0 = .int .u64 x0_1 ∧ v3 = .string x3_1 ∧ Aside0 (tenementref06_Digits.l0 kq x0_1 x3_1 = some r) ∧ Aside0 (kq ≤ k) ∧ Aside0 (Below w.heap.size w w'))
  case atStart => exact ⟨(a0), (strOfNums y258), (by first | rfl | (simp; done) | (simp [*]; done)), (by first | rfl | (simp; done) | (simp [*]; done)), H', ⟨Nat.le_refl _⟩, ⟨Ky_ HB⟩⟩
  case round =>
    clear H'
    try clear p2
    try clear hcv4
    obtain ⟨x0_1, x3_1, rfl, rfl, HA, HK1, HB⟩ := hrel
    cases gk with
    | zero => exact absurd HA.out (by simp [tenementref06_Digits.l0])
    | succ k1 =>
      have H := HA.out
      clear HA
      simp only [tenementref06_Digits.l0] at H
      by_cases c5 : x0_1 > 9
      rotate_left
      · rw [if_neg c5] at H
        have c5b0 : decide (9 < x0_1) = false := decide_eq_false c5
        clear c5
        obtain rfl := Option.some.inj H
        go_wp2
        go_ret
        exact ⟨by first | rfl | (simp [errW_none, errW_some] <;> rfl) | (simp [*, errW_none, errW_some] <;> rfl), Ky_ HB⟩
      rw [if_pos c5] at H
      have c5b0 : decide (9 < x0_1) = true := decide_eq_true c5
      clear c5
      obtain ⟨y261, hy261⟩ : ∃ y_ : List Int, y_ = (([(IntKind.u64.wrap (48 + (Int.tmod (IntKind.u64.wrap (Int.tdiv x0_1 10)) 10))) % 256] : List Int)) := ⟨_, rfl⟩
      replace H : (if (strOfNums y261).size + x3_1.size ≤ 9223372036854775807 then (tenementref06_Digits.l0 k1 (IntKind.u64.wrap (Int.tdiv x0_1 10)) ((strOfNums y261) ++ x3_1)) else (none)) = some r := by first | (rw [hy261]; with_reducible exact H) | (have H2_ := (Option.bind_some _ _).symm.trans H; rw [hy261]; with_reducible exact H2_) | (have H2_ := (Option.bind_some _ _).symm.trans H; with_reducible exact H2_) | with_reducible exact H | (rw [hy261]; exact H) | exact H
      have Ny261 := Aside0.mk hy261
      clear hy261
      by_cases c6 : (strOfNums y261).size + x3_1.size ≤ 9223372036854775807
      rotate_left
      · rw [if_neg c6] at H
        exact absurd H (by simp)
      rw [if_pos c6] at H
      have c6b0 := eq_true c6
      have c6b1 : decide ((strOfNums y261).size + x3_1.size ≤ 9223372036854775807) = true := decide_eq_true c6
      try have c6b2 : (9223372036854775807 < (strOfNums y261).size + x3_1.size) = False := eq_false (Nat.not_lt.2 c6)
      have H' := Aside0.mk H
      clear H
      go_wp2_with (first | ((with_reducible refine gate_dst (N := 18) rfl ?_); refine Kd.R_lit (Kd.int .u8) _ 5 ?hg (N := 18) ?hd (xs := ([(IntKind.u64.wrap (48 + (Int.tmod (IntKind.u64.wrap (Int.tdiv x0_1 10)) 10))) % 256] : List Int)) (inner := [.int .u8 ((IntKind.u64.wrap (48 + (Int.tmod (IntKind.u64.wrap (Int.tdiv x0_1 10)) 10))) % 256)]) (ok := fun _ => True) (okp := fun _ => True) ?hr ?hp (fun _ hk => hk) trivial (Below.refl _ _) (Nat.le_refl _) (by simp) ?_; (case hd => rfl); (case hg => rfl); (case hr => first | (go_simp; done) | (go_simp; rfl)); (case hp => exact (Reps.one (show Kd.M (Kd.int .u8) _ _ _ ((IntKind.u64.wrap (48 + (Int.tmod (IntKind.u64.wrap (Int.tdiv x0_1 10)) 10))) % 256) [.int .u8 ((IntKind.u64.wrap (48 + (Int.tmod (IntKind.u64.wrap (Int.tdiv x0_1 10)) 10))) % 256)] from rfl) (Reps.none _ _))); intro v262 w7 ho8 hb hg_ hnew_; clear hg_ hnew_; (first | rw [← Ny261.out] at ho8 | (simp only [Int.reduceToNat] at ho8; rw [← Ny261.out] at ho8)); have HO263 := Aside0.mk (Kd.R_lower ho8 (below_size (Ky_ HB))); replace HB := Ks_ HB hb; clear hb ho8; have hcv9 := own_string (P := Tryd.prog) Tryd.underlying88 Tryd.underlying5 Tryd.underlying9 (Kd.own_of_R HO263.out)))
      go_roundg k1
      case measure => have := HK1.out; omega
      case rel => exact ⟨(IntKind.u64.wrap (Int.tdiv x0_1 10)), ((strOfNums y261) ++ x3_1), (by first | rfl | (simp; done) | (simp [*]; done)), (by first | rfl | (simp; done) | (simp [*]; done)), H', ⟨by have := HK1.out; omega⟩, ⟨Ky_ HB⟩⟩

end Go.Proofs.YtdlagefpglhdoaaDoor.Q

-- Written by this session's own driver (wip/hybrid.py) of the kit's printer; contracts marked FOREIGN are by hand.
namespace Go.Proofs.YtdlagefpglhdoaaDoor.Q
open Go.RowKit Go.Proofs.YtdlagefpglhdoaaDoorW.PrintWords Go.Proofs.YtdlagefpglhdoaaDoorW.PrintLast Go.Proofs.YtdlagefpglhdoaaDoorW.PrintMore
attribute [local go_sem] max2_int min2_int max_two min_two max_three min_three max_four min_four   -- for this text's walks alone
set_option linter.unusedVariables false
set_option linter.unusedSimpArgs false

/-! ### tenementref07_Signed: function 53 -/
def tenementref07_Signed.f (k : Nat) (a0 : Int) : Option (ByteArray) := if a0 < 0 then ((tenementref06_Digits.f k (IntKind.u64.wrap (-(IntKind.u64.wrap (a0))))).bind fun t264 => (if 1 + t264.size ≤ 9223372036854775807 then (some ((⟨#[45]⟩ : ByteArray) ++ t264)) else (none))) else ((tenementref06_Digits.f k (IntKind.u64.wrap (a0))).bind fun t265 => (some t265))
theorem tenementref07_Signed.mono : ∀ a0 k, LeO (tenementref07_Signed.f k a0) (tenementref07_Signed.f (k + 1) a0) := by
  intro a0 k
  unfold tenementref07_Signed.f
  repeat' first
      | (with_reducible exact tenementref06_Digits.mono _ _)
      | (with_reducible exact LeO.refl _)
      | (with_reducible exact LeO.none _)
      | (with_reducible refine LeO.ite ?_ ?_)
      | (with_reducible refine LeO.bind ?_ (fun _ => ?_))
      | exact tenementref06_Digits.mono _ _
      | exact LeO.none _
      | refine LeO.ite ?_ ?_
      | refine LeO.bind ?_ (fun _ => ?_)
set_option maxHeartbeats 8000000 in
set_option maxRecDepth 100000 in
theorem tenementref07_Signed.calls (k : Nat) (a0 : Int) (r : ByteArray) (w : World) (h : tenementref07_Signed.f k a0 = some r) :
    Calls Tryd.prog 53 #[.int .i64 a0] w fun e w' => e = .returned (.string r) ∧ Below w.heap.size w w' := by
  have HB := Aside0.mk (Below.refl w.heap.size w)
  have H : (if a0 < 0 then ((tenementref06_Digits.f k (IntKind.u64.wrap (-(IntKind.u64.wrap (a0))))).bind fun t264 => (if 1 + t264.size ≤ 9223372036854775807 then (some ((⟨#[45]⟩ : ByteArray) ++ t264)) else (none))) else ((tenementref06_Digits.f k (IntKind.u64.wrap (a0))).bind fun t265 => (some t265))) = some r := h
  (try (have Hs_ := H; simp only [ByteArray.size_append, Int.natCast_add] at Hs_))
  clear h
  by_cases c2 : a0 < 0
  rotate_left
  · rw [if_neg c2] at H
    have c2b0 : decide (a0 < 0) = false := decide_eq_false c2
    clear c2
    replace H := Option.bind_eq_some_iff.mp H
    obtain ⟨t265, A60, H⟩ := H
    replace H : (some t265) = some r := H
    have A6 := Aside0.mk A60
    clear A60
    obtain rfl := Option.some.inj H
    go_enter Tryd.func53, Tryd.ntmps53
    go_wp2_with (first | ((with_reducible refine gate_callee (f := 70) rfl ?_); refine goesL_ (some 12) rfl rfl Tryd.func70 (by kernel_rfl) rfl #[.int .u64 (IntKind.u64.wrap (a0))] rfl (by (try simp only [List.map_toArray, List.map_cons, List.map_nil]); first | done | rfl | (simp only [List.length_drop, List.length_take]; rfl)) ?_; (with_reducible refine (tenementref06_Digits.calls k (IntKind.u64.wrap (a0)) t265 _ A6.out).mono ?_); rintro e w7 ⟨rfl, hb⟩; refine ⟨_, rfl, ?_⟩; replace HB := Ks_ HB hb; (try clear hb); (try clear hb2); (try clear hk); (try clear hi)))
    go_ret
    exact ⟨by first | rfl | (simp [errW_none, errW_some] <;> rfl) | (simp [*, errW_none, errW_some] <;> rfl), Ky_ HB⟩
  rw [if_pos c2] at H
  have c2b0 : decide (a0 < 0) = true := decide_eq_true c2
  clear c2
  replace H := Option.bind_eq_some_iff.mp H
  obtain ⟨t264, A30, H⟩ := H
  replace H : (if 1 + t264.size ≤ 9223372036854775807 then (some ((⟨#[45]⟩ : ByteArray) ++ t264)) else (none)) = some r := H
  have A3 := Aside0.mk A30
  clear A30
  by_cases c4 : 1 + t264.size ≤ 9223372036854775807
  rotate_left
  · rw [if_neg c4] at H
    exact absurd H (by simp)
  rw [if_pos c4] at H
  have c4b0 := eq_true c4
  have c4b1 : decide (1 + t264.size ≤ 9223372036854775807) = true := decide_eq_true c4
  try have c4b2 : (9223372036854775807 < 1 + t264.size) = False := eq_false (Nat.not_lt.2 c4)
  obtain rfl := Option.some.inj H
  go_enter Tryd.func53, Tryd.ntmps53
  go_wp2_with (first | ((with_reducible refine gate_callee (f := 70) rfl ?_); refine goesL_ (some 8) rfl rfl Tryd.func70 (by kernel_rfl) rfl #[.int .u64 (IntKind.u64.wrap (-(IntKind.u64.wrap (a0))))] rfl (by (try simp only [List.map_toArray, List.map_cons, List.map_nil]); first | done | rfl | (simp only [List.length_drop, List.length_take]; rfl)) ?_; (with_reducible refine (tenementref06_Digits.calls k (IntKind.u64.wrap (-(IntKind.u64.wrap (a0)))) t264 _ A3.out).mono ?_); rintro e w5 ⟨rfl, hb⟩; refine ⟨_, rfl, ?_⟩; replace HB := Ks_ HB hb; (try clear hb); (try clear hb2); (try clear hk); (try clear hi)))
  go_ret
  exact ⟨by first | rfl | (simp [errW_none, errW_some] <;> rfl) | (simp [*, errW_none, errW_some] <;> rfl), Ky_ HB⟩

end Go.Proofs.YtdlagefpglhdoaaDoor.Q

-- Written by this session's own driver (wip/hybrid.py) of the kit's printer; contracts marked FOREIGN are by hand.
namespace Go.Proofs.YtdlagefpglhdoaaDoor.Q
open Go.RowKit Go.Proofs.YtdlagefpglhdoaaDoorW.PrintWords Go.Proofs.YtdlagefpglhdoaaDoorW.PrintLast Go.Proofs.YtdlagefpglhdoaaDoorW.PrintMore
attribute [local go_sem] max2_int min2_int max_two min_two max_three min_three max_four min_four   -- for this text's walks alone
set_option linter.unusedVariables false
set_option linter.unusedSimpArgs false

/-! ### tenementref06_Text: function 54 -/
def tenementref06_Text.f (k : Nat) (a0_0 : Int) (a0_1 : Int) (a0_2 : Int) (a0_3 : Int) : Option (ByteArray) := (tenementref06_Digits.f k a0_0).bind fun t267 => (if t267.size + 1 ≤ 9223372036854775807 then ((tenementref06_Digits.f k a0_1).bind fun t268 => (if (t267 ++ (⟨#[44]⟩ : ByteArray)).size + t268.size ≤ 9223372036854775807 then (if ((t267 ++ (⟨#[44]⟩ : ByteArray)) ++ t268).size + 1 ≤ 9223372036854775807 then ((tenementref06_Digits.f k a0_2).bind fun t269 => (if (((t267 ++ (⟨#[44]⟩ : ByteArray)) ++ t268) ++ (⟨#[44]⟩ : ByteArray)).size + t269.size ≤ 9223372036854775807 then (if ((((t267 ++ (⟨#[44]⟩ : ByteArray)) ++ t268) ++ (⟨#[44]⟩ : ByteArray)) ++ t269).size + 1 ≤ 9223372036854775807 then ((tenementref06_Digits.f k a0_3).bind fun t270 => (if (((((t267 ++ (⟨#[44]⟩ : ByteArray)) ++ t268) ++ (⟨#[44]⟩ : ByteArray)) ++ t269) ++ (⟨#[44]⟩ : ByteArray)).size + t270.size ≤ 9223372036854775807 then (some ((((((t267 ++ (⟨#[44]⟩ : ByteArray)) ++ t268) ++ (⟨#[44]⟩ : ByteArray)) ++ t269) ++ (⟨#[44]⟩ : ByteArray)) ++ t270)) else (none))) else (none)) else (none))) else (none)) else (none))) else (none))
theorem tenementref06_Text.mono : ∀ a0 a1 a2 a3 k, LeO (tenementref06_Text.f k a0 a1 a2 a3) (tenementref06_Text.f (k + 1) a0 a1 a2 a3) := by
  intro a0 a1 a2 a3 k
  unfold tenementref06_Text.f
  repeat' first
      | (with_reducible exact tenementref06_Digits.mono _ _)
      | (with_reducible exact LeO.refl _)
      | (with_reducible exact LeO.none _)
      | (with_reducible refine LeO.ite ?_ ?_)
      | (with_reducible refine LeO.bind ?_ (fun _ => ?_))
      | exact tenementref06_Digits.mono _ _
      | exact LeO.none _
      | refine LeO.ite ?_ ?_
      | refine LeO.bind ?_ (fun _ => ?_)
def tenementref06_Text.T1 : Bool × List (List Nat × List Nat) := (true, [([], []), ([0], [0]), ([1], [1]), ([2], [2]), ([], []), ([4], [4]), ([5, 2], [5]), ([3, 6], [3, 6]), ([7], [7]), ([], []), ([9], [9]), ([10, 6], [10]), ([8, 11], [8, 11]), ([12], [12]), ([], []), ([14], [14]), ([15, 11], [15]), ([13, 16], [13, 16]), ([17, 16, 0, 1, 2, 3, 4, 5, 6, 7, 8, 9, 10, 11, 12, 13, 14, 15, 16, 17], [17])])
def tenementref06_Text.B1 : List Nat := [0, 1, 3, 7, 0, 16, 55, 127, 255, 0, 512, 1655, 4095, 8191, 0, 16384, 52855, 131071, 262143]
theorem tenementref06_Text.tab1 : rtab .any (opsOf Tryd.f54 1) = tenementref06_Text.T1 := by kernel_rfl
theorem tenementref06_Text.bits1 : waitsOk tenementref06_Text.T1.2 tenementref06_Text.B1 = true := by kernel_rfl
set_option maxHeartbeats 8000000 in
set_option maxRecDepth 100000 in
theorem tenementref06_Text.calls (k : Nat) (a0_0 : Int) (a0_1 : Int) (a0_2 : Int) (a0_3 : Int) (r : ByteArray) (w : World) (h : tenementref06_Text.f k a0_0 a0_1 a0_2 a0_3 = some r) :
    Calls Tryd.prog 54 #[.agg #[.int .u64 a0_0, .int .u64 a0_1, .int .u64 a0_2, .int .u64 a0_3]] w fun e w' => e = .returned (.string r) ∧ Below w.heap.size w w' := by
  have hu37 := Tryd.underlying37
  have HB := Aside0.mk (Below.refl w.heap.size w)
  have H : ((tenementref06_Digits.f k a0_0).bind fun t267 => (if t267.size + 1 ≤ 9223372036854775807 then ((tenementref06_Digits.f k a0_1).bind fun t268 => (if (t267 ++ (⟨#[44]⟩ : ByteArray)).size + t268.size ≤ 9223372036854775807 then (if ((t267 ++ (⟨#[44]⟩ : ByteArray)) ++ t268).size + 1 ≤ 9223372036854775807 then ((tenementref06_Digits.f k a0_2).bind fun t269 => (if (((t267 ++ (⟨#[44]⟩ : ByteArray)) ++ t268) ++ (⟨#[44]⟩ : ByteArray)).size + t269.size ≤ 9223372036854775807 then (if ((((t267 ++ (⟨#[44]⟩ : ByteArray)) ++ t268) ++ (⟨#[44]⟩ : ByteArray)) ++ t269).size + 1 ≤ 9223372036854775807 then ((tenementref06_Digits.f k a0_3).bind fun t270 => (if (((((t267 ++ (⟨#[44]⟩ : ByteArray)) ++ t268) ++ (⟨#[44]⟩ : ByteArray)) ++ t269) ++ (⟨#[44]⟩ : ByteArray)).size + t270.size ≤ 9223372036854775807 then (some ((((((t267 ++ (⟨#[44]⟩ : ByteArray)) ++ t268) ++ (⟨#[44]⟩ : ByteArray)) ++ t269) ++ (⟨#[44]⟩ : ByteArray)) ++ t270)) else (none))) else (none)) else (none))) else (none)) else (none))) else (none))) = some r := h
  (try (have Hs_ := H; simp only [ByteArray.size_append, Int.natCast_add] at Hs_))
  clear h
  replace H := Option.bind_eq_some_iff.mp H
  obtain ⟨t267, A20, H⟩ := H
  replace H : (if t267.size + 1 ≤ 9223372036854775807 then ((tenementref06_Digits.f k a0_1).bind fun t268 => (if (t267 ++ (⟨#[44]⟩ : ByteArray)).size + t268.size ≤ 9223372036854775807 then (if ((t267 ++ (⟨#[44]⟩ : ByteArray)) ++ t268).size + 1 ≤ 9223372036854775807 then ((tenementref06_Digits.f k a0_2).bind fun t269 => (if (((t267 ++ (⟨#[44]⟩ : ByteArray)) ++ t268) ++ (⟨#[44]⟩ : ByteArray)).size + t269.size ≤ 9223372036854775807 then (if ((((t267 ++ (⟨#[44]⟩ : ByteArray)) ++ t268) ++ (⟨#[44]⟩ : ByteArray)) ++ t269).size + 1 ≤ 9223372036854775807 then ((tenementref06_Digits.f k a0_3).bind fun t270 => (if (((((t267 ++ (⟨#[44]⟩ : ByteArray)) ++ t268) ++ (⟨#[44]⟩ : ByteArray)) ++ t269) ++ (⟨#[44]⟩ : ByteArray)).size + t270.size ≤ 9223372036854775807 then (some ((((((t267 ++ (⟨#[44]⟩ : ByteArray)) ++ t268) ++ (⟨#[44]⟩ : ByteArray)) ++ t269) ++ (⟨#[44]⟩ : ByteArray)) ++ t270)) else (none))) else (none)) else (none))) else (none)) else (none))) else (none)) = some r := H
  have A2 := Aside0.mk A20
  clear A20
  by_cases c3 : t267.size + 1 ≤ 9223372036854775807
  rotate_left
  · rw [if_neg c3] at H
    exact absurd H (by simp)
  rw [if_pos c3] at H
  have c3b0 := eq_true c3
  have c3b1 : decide (t267.size + 1 ≤ 9223372036854775807) = true := decide_eq_true c3
  try have c3b2 : (9223372036854775807 < t267.size + 1) = False := eq_false (Nat.not_lt.2 c3)
  replace H := Option.bind_eq_some_iff.mp H
  obtain ⟨t268, A40, H⟩ := H
  replace H : (if (t267 ++ (⟨#[44]⟩ : ByteArray)).size + t268.size ≤ 9223372036854775807 then (if ((t267 ++ (⟨#[44]⟩ : ByteArray)) ++ t268).size + 1 ≤ 9223372036854775807 then ((tenementref06_Digits.f k a0_2).bind fun t269 => (if (((t267 ++ (⟨#[44]⟩ : ByteArray)) ++ t268) ++ (⟨#[44]⟩ : ByteArray)).size + t269.size ≤ 9223372036854775807 then (if ((((t267 ++ (⟨#[44]⟩ : ByteArray)) ++ t268) ++ (⟨#[44]⟩ : ByteArray)) ++ t269).size + 1 ≤ 9223372036854775807 then ((tenementref06_Digits.f k a0_3).bind fun t270 => (if (((((t267 ++ (⟨#[44]⟩ : ByteArray)) ++ t268) ++ (⟨#[44]⟩ : ByteArray)) ++ t269) ++ (⟨#[44]⟩ : ByteArray)).size + t270.size ≤ 9223372036854775807 then (some ((((((t267 ++ (⟨#[44]⟩ : ByteArray)) ++ t268) ++ (⟨#[44]⟩ : ByteArray)) ++ t269) ++ (⟨#[44]⟩ : ByteArray)) ++ t270)) else (none))) else (none)) else (none))) else (none)) else (none)) = some r := H
  have A4 := Aside0.mk A40
  clear A40
  by_cases c5 : (t267 ++ (⟨#[44]⟩ : ByteArray)).size + t268.size ≤ 9223372036854775807
  rotate_left
  · rw [if_neg c5] at H
    exact absurd H (by simp)
  rw [if_pos c5] at H
  have c5b0 := eq_true c5
  (try (have c5b0s_ := c5b0; simp only [ByteArray.size_append, Int.natCast_add, show (⟨#[44]⟩ : ByteArray).size = 1 from rfl] at c5b0s_))
  have c5b1 : decide ((t267 ++ (⟨#[44]⟩ : ByteArray)).size + t268.size ≤ 9223372036854775807) = true := decide_eq_true c5
  (try (have c5b1s_ := c5b1; simp only [ByteArray.size_append, Int.natCast_add, show (⟨#[44]⟩ : ByteArray).size = 1 from rfl] at c5b1s_))
  try have c5b2 : (9223372036854775807 < (t267 ++ (⟨#[44]⟩ : ByteArray)).size + t268.size) = False := eq_false (Nat.not_lt.2 c5)
  (try (have c5b2s_ := c5b2; simp only [ByteArray.size_append, Int.natCast_add, show (⟨#[44]⟩ : ByteArray).size = 1 from rfl] at c5b2s_))
  by_cases c6 : ((t267 ++ (⟨#[44]⟩ : ByteArray)) ++ t268).size + 1 ≤ 9223372036854775807
  rotate_left
  · rw [if_neg c6] at H
    exact absurd H (by simp)
  rw [if_pos c6] at H
  have c6b0 := eq_true c6
  (try (have c6b0s_ := c6b0; simp only [ByteArray.size_append, Int.natCast_add, show (⟨#[44]⟩ : ByteArray).size = 1 from rfl] at c6b0s_))
  have c6b1 : decide (((t267 ++ (⟨#[44]⟩ : ByteArray)) ++ t268).size + 1 ≤ 9223372036854775807) = true := decide_eq_true c6
  (try (have c6b1s_ := c6b1; simp only [ByteArray.size_append, Int.natCast_add, show (⟨#[44]⟩ : ByteArray).size = 1 from rfl] at c6b1s_))
  try have c6b2 : (9223372036854775807 < ((t267 ++ (⟨#[44]⟩ : ByteArray)) ++ t268).size + 1) = False := eq_false (Nat.not_lt.2 c6)
  (try (have c6b2s_ := c6b2; simp only [ByteArray.size_append, Int.natCast_add, show (⟨#[44]⟩ : ByteArray).size = 1 from rfl] at c6b2s_))
  replace H := Option.bind_eq_some_iff.mp H
  obtain ⟨t269, A70, H⟩ := H
  replace H : (if (((t267 ++ (⟨#[44]⟩ : ByteArray)) ++ t268) ++ (⟨#[44]⟩ : ByteArray)).size + t269.size ≤ 9223372036854775807 then (if ((((t267 ++ (⟨#[44]⟩ : ByteArray)) ++ t268) ++ (⟨#[44]⟩ : ByteArray)) ++ t269).size + 1 ≤ 9223372036854775807 then ((tenementref06_Digits.f k a0_3).bind fun t270 => (if (((((t267 ++ (⟨#[44]⟩ : ByteArray)) ++ t268) ++ (⟨#[44]⟩ : ByteArray)) ++ t269) ++ (⟨#[44]⟩ : ByteArray)).size + t270.size ≤ 9223372036854775807 then (some ((((((t267 ++ (⟨#[44]⟩ : ByteArray)) ++ t268) ++ (⟨#[44]⟩ : ByteArray)) ++ t269) ++ (⟨#[44]⟩ : ByteArray)) ++ t270)) else (none))) else (none)) else (none)) = some r := H
  have A7 := Aside0.mk A70
  clear A70
  by_cases c8 : (((t267 ++ (⟨#[44]⟩ : ByteArray)) ++ t268) ++ (⟨#[44]⟩ : ByteArray)).size + t269.size ≤ 9223372036854775807
  rotate_left
  · rw [if_neg c8] at H
    exact absurd H (by simp)
  rw [if_pos c8] at H
  have c8b0 := eq_true c8
  (try (have c8b0s_ := c8b0; simp only [ByteArray.size_append, Int.natCast_add, show (⟨#[44]⟩ : ByteArray).size = 1 from rfl] at c8b0s_))
  have c8b1 : decide ((((t267 ++ (⟨#[44]⟩ : ByteArray)) ++ t268) ++ (⟨#[44]⟩ : ByteArray)).size + t269.size ≤ 9223372036854775807) = true := decide_eq_true c8
  (try (have c8b1s_ := c8b1; simp only [ByteArray.size_append, Int.natCast_add, show (⟨#[44]⟩ : ByteArray).size = 1 from rfl] at c8b1s_))
  try have c8b2 : (9223372036854775807 < (((t267 ++ (⟨#[44]⟩ : ByteArray)) ++ t268) ++ (⟨#[44]⟩ : ByteArray)).size + t269.size) = False := eq_false (Nat.not_lt.2 c8)
  (try (have c8b2s_ := c8b2; simp only [ByteArray.size_append, Int.natCast_add, show (⟨#[44]⟩ : ByteArray).size = 1 from rfl] at c8b2s_))
  by_cases c9 : ((((t267 ++ (⟨#[44]⟩ : ByteArray)) ++ t268) ++ (⟨#[44]⟩ : ByteArray)) ++ t269).size + 1 ≤ 9223372036854775807
  rotate_left
  · rw [if_neg c9] at H
    exact absurd H (by simp)
  rw [if_pos c9] at H
  have c9b0 := eq_true c9
  (try (have c9b0s_ := c9b0; simp only [ByteArray.size_append, Int.natCast_add, show (⟨#[44]⟩ : ByteArray).size = 1 from rfl] at c9b0s_))
  have c9b1 : decide (((((t267 ++ (⟨#[44]⟩ : ByteArray)) ++ t268) ++ (⟨#[44]⟩ : ByteArray)) ++ t269).size + 1 ≤ 9223372036854775807) = true := decide_eq_true c9
  (try (have c9b1s_ := c9b1; simp only [ByteArray.size_append, Int.natCast_add, show (⟨#[44]⟩ : ByteArray).size = 1 from rfl] at c9b1s_))
  try have c9b2 : (9223372036854775807 < ((((t267 ++ (⟨#[44]⟩ : ByteArray)) ++ t268) ++ (⟨#[44]⟩ : ByteArray)) ++ t269).size + 1) = False := eq_false (Nat.not_lt.2 c9)
  (try (have c9b2s_ := c9b2; simp only [ByteArray.size_append, Int.natCast_add, show (⟨#[44]⟩ : ByteArray).size = 1 from rfl] at c9b2s_))
  replace H := Option.bind_eq_some_iff.mp H
  obtain ⟨t270, A100, H⟩ := H
  replace H : (if (((((t267 ++ (⟨#[44]⟩ : ByteArray)) ++ t268) ++ (⟨#[44]⟩ : ByteArray)) ++ t269) ++ (⟨#[44]⟩ : ByteArray)).size + t270.size ≤ 9223372036854775807 then (some ((((((t267 ++ (⟨#[44]⟩ : ByteArray)) ++ t268) ++ (⟨#[44]⟩ : ByteArray)) ++ t269) ++ (⟨#[44]⟩ : ByteArray)) ++ t270)) else (none)) = some r := H
  have A10 := Aside0.mk A100
  clear A100
  by_cases c11 : (((((t267 ++ (⟨#[44]⟩ : ByteArray)) ++ t268) ++ (⟨#[44]⟩ : ByteArray)) ++ t269) ++ (⟨#[44]⟩ : ByteArray)).size + t270.size ≤ 9223372036854775807
  rotate_left
  · rw [if_neg c11] at H
    exact absurd H (by simp)
  rw [if_pos c11] at H
  have c11b0 := eq_true c11
  (try (have c11b0s_ := c11b0; simp only [ByteArray.size_append, Int.natCast_add, show (⟨#[44]⟩ : ByteArray).size = 1 from rfl] at c11b0s_))
  have c11b1 : decide ((((((t267 ++ (⟨#[44]⟩ : ByteArray)) ++ t268) ++ (⟨#[44]⟩ : ByteArray)) ++ t269) ++ (⟨#[44]⟩ : ByteArray)).size + t270.size ≤ 9223372036854775807) = true := decide_eq_true c11
  (try (have c11b1s_ := c11b1; simp only [ByteArray.size_append, Int.natCast_add, show (⟨#[44]⟩ : ByteArray).size = 1 from rfl] at c11b1s_))
  try have c11b2 : (9223372036854775807 < (((((t267 ++ (⟨#[44]⟩ : ByteArray)) ++ t268) ++ (⟨#[44]⟩ : ByteArray)) ++ t269) ++ (⟨#[44]⟩ : ByteArray)).size + t270.size) = False := eq_false (Nat.not_lt.2 c11)
  (try (have c11b2s_ := c11b2; simp only [ByteArray.size_append, Int.natCast_add, show (⟨#[44]⟩ : ByteArray).size = 1 from rfl] at c11b2s_))
  obtain rfl := Option.some.inj H
  go_enter Tryd.func54, Tryd.ntmps54
  try go_wp2_with (first | ((with_reducible refine gate_dst (N := 1) rfl ?_); refine box_event ?hg (N := 1) ?hd (cs := #[.int .u64 a0_0, .int .u64 a0_1, .int .u64 a0_2, .int .u64 a0_3]) (t := 37) ?hr ?_; (case hd => rfl); (case hg => rfl); (case hr => first | (go_simp; done) | (go_simp; rfl)); intro gb266 hg w12 hbox hb; have BK266 := Aside0.mk (hbox); have GW266 := Kw_ HB hg; have GE266 := GW266; replace HB := Ks_ HB hb; clear hb hbox hg))
  replace BK266 := Kd_ BK266
  replace HB := Aside0.mk (below_drew1 HB.out)
  refine start_ (n := 19) (S := fun w' => w'.cell? ⟨gb266, 0, none⟩ = some (.int .u64 a0_0) ∧ w'.cell? ⟨gb266, 1, none⟩ = some (.int .u64 a0_1) ∧ w'.cell? ⟨gb266, 2, none⟩ = some (.int .u64 a0_2) ∧ w'.cell? ⟨gb266, 3, none⟩ = some (.int .u64 a0_3)) (ds := []) #[false, false, false, false, false, false, false, false, false, false, false, false, false, false, false, false, false, false, false] (by kernel_rfl) rfl rfl (Kc4_ BK266.out) (fun hHeld => ?_); refine with_tabW tenementref06_Text.tab1 tenementref06_Text.bits1 (fun HT_ HW_ => ?_)
  generalize w12.drew = w13 at BK266 HB hHeld ⊢
  refine pure_ (i := 0) (N := some 3) (v := ?_) (a' := ?_) #[true, false, false, false, false, false, false, false, false, false, false, false, false, false, false, false, false, false, false] rfl rfl (any_of HT_.out (by kernel_rfl)) (fun _ _ _ h => h) (Or.inl ⟨by rfl, ?_⟩) ?_ ?_
  rotate_left
  · intro w'
    go_simp
    with_reducible rfl
  rotate_left
  · simp only [Act.put, List.setIfInBounds_toArray, List.set_cons_zero, List.set_cons_succ, i64_w, i32_w]
    rfl
  refine pure_ (i := 4) (N := some 7) (v := ?_) (a' := ?_) #[true, false, false, false, true, false, false, false, false, false, false, false, false, false, false, false, false, false, false] rfl rfl (any_of HT_.out (by kernel_rfl)) (fun _ _ _ h => h) (Or.inl ⟨by rfl, ?_⟩) ?_ ?_
  rotate_left
  · intro w'
    go_simp
    with_reducible rfl
  rotate_left
  · simp only [Act.put, List.setIfInBounds_toArray, List.set_cons_zero, List.set_cons_succ, i64_w, i32_w]
    rfl
  refine pure_ (i := 9) (N := some 12) (v := ?_) (a' := ?_) #[true, false, false, false, true, false, false, false, false, true, false, false, false, false, false, false, false, false, false] rfl rfl (any_of HT_.out (by kernel_rfl)) (fun _ _ _ h => h) (Or.inl ⟨by rfl, ?_⟩) ?_ ?_
  rotate_left
  · intro w'
    go_simp
    with_reducible rfl
  rotate_left
  · simp only [Act.put, List.setIfInBounds_toArray, List.set_cons_zero, List.set_cons_succ, i64_w, i32_w]
    rfl
  refine pure_ (i := 14) (N := some 17) (v := ?_) (a' := ?_) #[true, false, false, false, true, false, false, false, false, true, false, false, false, false, true, false, false, false, false] rfl rfl (any_of HT_.out (by kernel_rfl)) (fun _ _ _ h => h) (Or.inl ⟨by rfl, ?_⟩) ?_ ?_
  rotate_left
  · intro w'
    go_simp
    with_reducible rfl
  rotate_left
  · simp only [Act.put, List.setIfInBounds_toArray, List.set_cons_zero, List.set_cons_succ, i64_w, i32_w]
    rfl
  refine take_ (i := 1) (N := some 4) (v := ?_) (a' := ?_) #[true, true, false, false, true, false, false, false, false, true, false, false, false, false, true, false, false, false, false] rfl rfl (take_ofW HT_.out HW_.out (by kernel_rfl)) (fun _ _ _ h => h) (Or.inl ⟨by rfl, ?_⟩) hHeld ?_ ?_
  rotate_left
  · rintro w' ⟨s0, s1, s2, s3⟩
    go_simp
    with_reducible rfl
  rotate_left
  · simp only [Act.put, List.setIfInBounds_toArray, List.set_cons_zero, List.set_cons_succ, i64_w, i32_w]
    rfl
  refine take_ (i := 5) (N := some 8) (v := ?_) (a' := ?_) #[true, true, false, false, true, true, false, false, false, true, false, false, false, false, true, false, false, false, false] rfl rfl (take_ofW HT_.out HW_.out (by kernel_rfl)) (fun _ _ _ h => h) (Or.inl ⟨by rfl, ?_⟩) hHeld ?_ ?_
  rotate_left
  · rintro w' ⟨s0, s1, s2, s3⟩
    go_simp
    with_reducible rfl
  rotate_left
  · simp only [Act.put, List.setIfInBounds_toArray, List.set_cons_zero, List.set_cons_succ, i64_w, i32_w]
    rfl
  refine take_ (i := 10) (N := some 13) (v := ?_) (a' := ?_) #[true, true, false, false, true, true, false, false, false, true, true, false, false, false, true, false, false, false, false] rfl rfl (take_ofW HT_.out HW_.out (by kernel_rfl)) (fun _ _ _ h => h) (Or.inl ⟨by rfl, ?_⟩) hHeld ?_ ?_
  rotate_left
  · rintro w' ⟨s0, s1, s2, s3⟩
    go_simp
    with_reducible rfl
  rotate_left
  · simp only [Act.put, List.setIfInBounds_toArray, List.set_cons_zero, List.set_cons_succ, i64_w, i32_w]
    rfl
  refine take_ (i := 15) (N := some 18) (v := ?_) (a' := ?_) #[true, true, false, false, true, true, false, false, false, true, true, false, false, false, true, true, false, false, false] rfl rfl (take_ofW HT_.out HW_.out (by kernel_rfl)) (fun _ _ _ h => h) (Or.inl ⟨by rfl, ?_⟩) hHeld ?_ ?_
  rotate_left
  · rintro w' ⟨s0, s1, s2, s3⟩
    go_simp
    with_reducible rfl
  rotate_left
  · simp only [Act.put, List.setIfInBounds_toArray, List.set_cons_zero, List.set_cons_succ, i64_w, i32_w]
    rfl
  refine one_ (i := 2) (N := some 5) #[true, true, true, false, true, true, false, false, false, true, true, false, false, false, true, true, false, false, false] rfl rfl (one_of HT_.out (by kernel_rfl)) (by decide) (fun K hK => ?_)
  refine goes_ Tryd.func70 (by kernel_rfl) rfl #[.int .u64 a0_0] (by rfl) rfl rfl (by (try simp only [List.map_toArray, List.map_cons, List.map_nil]); first | done | rfl | (simp only [List.length_drop, List.length_take]; rfl)) ?_
  with_reducible refine (tenementref06_Digits.calls k a0_0 t267 _ A2.out).mono ?_
  rintro e w14 ⟨rfl, hb⟩
  refine ⟨_, rfl, ?_⟩
  replace BK266 := Kb_ BK266 hb
  replace HB := Ks_ HB hb
  (try clear hb)
  (try clear hb2)
  (try clear hk)
  (try clear hi)
  refine hK.out _ _ (Kc4_ BK266.out) (fun hHeld => ?_)
  clear hK K
  refine norm_ (a' := ?_) ?_ ?_
  rotate_left
  · show Act.put _ (some 5) _ = _
    simp only [Act.put, List.setIfInBounds_toArray, List.set_cons_zero, List.set_cons_succ, i64_w, i32_w]
    rfl
  refine pure_ (i := 3) (N := some 6) (v := ?_) (a' := ?_) #[true, true, true, true, true, true, false, false, false, true, true, false, false, false, true, true, false, false, false] rfl rfl (any_of HT_.out (by kernel_rfl)) (fun _ _ _ h => h) (Or.inl ⟨by rfl, ?_⟩) ?_ ?_
  rotate_left
  · intro w'
    go_simp
    with_reducible rfl
  rotate_left
  · simp only [Act.put, List.setIfInBounds_toArray, List.set_cons_zero, List.set_cons_succ, i64_w, i32_w]
    rfl
  refine one_ (i := 6) (N := some 9) #[true, true, true, true, true, true, true, false, false, true, true, false, false, false, true, true, false, false, false] rfl rfl (one_of HT_.out (by kernel_rfl)) (by decide) (fun K hK => ?_)
  refine goes_ Tryd.func70 (by kernel_rfl) rfl #[.int .u64 a0_1] (by rfl) rfl rfl (by (try simp only [List.map_toArray, List.map_cons, List.map_nil]); first | done | rfl | (simp only [List.length_drop, List.length_take]; rfl)) ?_
  with_reducible refine (tenementref06_Digits.calls k a0_1 t268 _ A4.out).mono ?_
  rintro e w15 ⟨rfl, hb⟩
  refine ⟨_, rfl, ?_⟩
  replace BK266 := Kb_ BK266 hb
  replace HB := Ks_ HB hb
  (try clear hb)
  (try clear hb2)
  (try clear hk)
  (try clear hi)
  refine hK.out _ _ (Kc4_ BK266.out) (fun hHeld => ?_)
  clear hK K
  refine norm_ (a' := ?_) ?_ ?_
  rotate_left
  · show Act.put _ (some 9) _ = _
    simp only [Act.put, List.setIfInBounds_toArray, List.set_cons_zero, List.set_cons_succ, i64_w, i32_w]
    rfl
  refine pure_ (i := 7) (N := some 10) (v := ?_) (a' := ?_) #[true, true, true, true, true, true, true, true, false, true, true, false, false, false, true, true, false, false, false] rfl rfl (any_of HT_.out (by kernel_rfl)) (fun _ _ _ h => h) (Or.inl ⟨by rfl, ?_⟩) ?_ ?_
  rotate_left
  · intro w'
    go_simp
    with_reducible rfl
  rotate_left
  · simp only [Act.put, List.setIfInBounds_toArray, List.set_cons_zero, List.set_cons_succ, i64_w, i32_w]
    rfl
  refine pure_ (i := 8) (N := some 11) (v := ?_) (a' := ?_) #[true, true, true, true, true, true, true, true, true, true, true, false, false, false, true, true, false, false, false] rfl rfl (any_of HT_.out (by kernel_rfl)) (fun _ _ _ h => h) (Or.inl ⟨by rfl, ?_⟩) ?_ ?_
  rotate_left
  · intro w'
    go_simp
    with_reducible rfl
  rotate_left
  · simp only [Act.put, List.setIfInBounds_toArray, List.set_cons_zero, List.set_cons_succ, i64_w, i32_w]
    rfl
  refine one_ (i := 11) (N := some 14) #[true, true, true, true, true, true, true, true, true, true, true, true, false, false, true, true, false, false, false] rfl rfl (one_of HT_.out (by kernel_rfl)) (by decide) (fun K hK => ?_)
  refine goes_ Tryd.func70 (by kernel_rfl) rfl #[.int .u64 a0_2] (by rfl) rfl rfl (by (try simp only [List.map_toArray, List.map_cons, List.map_nil]); first | done | rfl | (simp only [List.length_drop, List.length_take]; rfl)) ?_
  with_reducible refine (tenementref06_Digits.calls k a0_2 t269 _ A7.out).mono ?_
  rintro e w16 ⟨rfl, hb⟩
  refine ⟨_, rfl, ?_⟩
  replace BK266 := Kb_ BK266 hb
  replace HB := Ks_ HB hb
  (try clear hb)
  (try clear hb2)
  (try clear hk)
  (try clear hi)
  refine hK.out _ _ (Kc4_ BK266.out) (fun hHeld => ?_)
  clear hK K
  refine norm_ (a' := ?_) ?_ ?_
  rotate_left
  · show Act.put _ (some 14) _ = _
    simp only [Act.put, List.setIfInBounds_toArray, List.set_cons_zero, List.set_cons_succ, i64_w, i32_w]
    rfl
  refine pure_ (i := 12) (N := some 15) (v := ?_) (a' := ?_) #[true, true, true, true, true, true, true, true, true, true, true, true, true, false, true, true, false, false, false] rfl rfl (any_of HT_.out (by kernel_rfl)) (fun _ _ _ h => h) (Or.inl ⟨by rfl, ?_⟩) ?_ ?_
  rotate_left
  · intro w'
    go_simp
    with_reducible rfl
  rotate_left
  · simp only [Act.put, List.setIfInBounds_toArray, List.set_cons_zero, List.set_cons_succ, i64_w, i32_w]
    rfl
  refine pure_ (i := 13) (N := some 16) (v := ?_) (a' := ?_) #[true, true, true, true, true, true, true, true, true, true, true, true, true, true, true, true, false, false, false] rfl rfl (any_of HT_.out (by kernel_rfl)) (fun _ _ _ h => h) (Or.inl ⟨by rfl, ?_⟩) ?_ ?_
  rotate_left
  · intro w'
    go_simp
    with_reducible rfl
  rotate_left
  · simp only [Act.put, List.setIfInBounds_toArray, List.set_cons_zero, List.set_cons_succ, i64_w, i32_w]
    rfl
  refine one_ (i := 16) (N := some 19) #[true, true, true, true, true, true, true, true, true, true, true, true, true, true, true, true, true, false, false] rfl rfl (one_of HT_.out (by kernel_rfl)) (by decide) (fun K hK => ?_)
  refine goes_ Tryd.func70 (by kernel_rfl) rfl #[.int .u64 a0_3] (by rfl) rfl rfl (by (try simp only [List.map_toArray, List.map_cons, List.map_nil]); first | done | rfl | (simp only [List.length_drop, List.length_take]; rfl)) ?_
  with_reducible refine (tenementref06_Digits.calls k a0_3 t270 _ A10.out).mono ?_
  rintro e w17 ⟨rfl, hb⟩
  refine ⟨_, rfl, ?_⟩
  replace BK266 := Kb_ BK266 hb
  replace HB := Ks_ HB hb
  (try clear hb)
  (try clear hb2)
  (try clear hk)
  (try clear hi)
  refine hK.out _ _ (Kc4_ BK266.out) (fun hHeld => ?_)
  clear hK K
  refine norm_ (a' := ?_) ?_ ?_
  rotate_left
  · show Act.put _ (some 19) _ = _
    simp only [Act.put, List.setIfInBounds_toArray, List.set_cons_zero, List.set_cons_succ, i64_w, i32_w]
    rfl
  refine pure_ (i := 17) (N := some 20) (v := ?_) (a' := ?_) #[true, true, true, true, true, true, true, true, true, true, true, true, true, true, true, true, true, true, false] rfl rfl (any_of HT_.out (by kernel_rfl)) (fun _ _ _ h => h) (Or.inl ⟨by rfl, ?_⟩) ?_ ?_
  rotate_left
  · intro w'
    go_simp
    with_reducible rfl
  rotate_left
  · simp only [Act.put, List.setIfInBounds_toArray, List.set_cons_zero, List.set_cons_succ, i64_w, i32_w]
    rfl
  refine pure_ (i := 18) (N := some 2) (v := ?_) (a' := ?_) #[true, true, true, true, true, true, true, true, true, true, true, true, true, true, true, true, true, true, true] rfl rfl (any_of HT_.out (by kernel_rfl)) (fun _ _ _ h => h) (Or.inl ⟨by rfl, ?_⟩) ?_ ?_
  rotate_left
  · intro w'
    go_simp
    with_reducible rfl
  rotate_left
  · simp only [Act.put, List.setIfInBounds_toArray, List.set_cons_zero, List.set_cons_succ, i64_w, i32_w]
    rfl
  refine done_ (done_of HT_.out (by kernel_rfl)) ?_
  try go_wp2
  go_ret
  exact ⟨by first | rfl | (simp [errW_none, errW_some] <;> rfl) | (simp [*, errW_none, errW_some] <;> rfl), Kz_ HB GE266⟩

end Go.Proofs.YtdlagefpglhdoaaDoor.Q

-- Written by this session's own driver (wip/hybrid.py) of the kit's printer; contracts marked FOREIGN are by hand.
namespace Go.Proofs.YtdlagefpglhdoaaDoor.Q
open Go.RowKit Go.Proofs.YtdlagefpglhdoaaDoorW.PrintWords Go.Proofs.YtdlagefpglhdoaaDoorW.PrintLast Go.Proofs.YtdlagefpglhdoaaDoorW.PrintMore
attribute [local go_sem] max2_int min2_int max_two min_two max_three min_three max_four min_four   -- for this text's walks alone
set_option linter.unusedVariables false
set_option linter.unusedSimpArgs false

/-! ### tenementref07_Text: function 26 -/
def tenementref07_Text.f (k : Nat) (a0_0 : Int) (a0_1 : Int) (a0_2 : Int) (a0_3 : Int) (a0_4 : Int) : Option (ByteArray) := (tenementref07_Signed.f k a0_4).bind fun t272 => (if t272.size + 1 ≤ 9223372036854775807 then ((tenementref06_Text.f k a0_0 a0_1 a0_2 a0_3).bind fun t273 => (if (t272 ++ (⟨#[64]⟩ : ByteArray)).size + t273.size ≤ 9223372036854775807 then (some ((t272 ++ (⟨#[64]⟩ : ByteArray)) ++ t273)) else (none))) else (none))
theorem tenementref07_Text.mono : ∀ a0 a1 a2 a3 a4 k, LeO (tenementref07_Text.f k a0 a1 a2 a3 a4) (tenementref07_Text.f (k + 1) a0 a1 a2 a3 a4) := by
  intro a0 a1 a2 a3 a4 k
  unfold tenementref07_Text.f
  repeat' first
      | (with_reducible exact tenementref06_Text.mono _ _ _ _ _)
      | (with_reducible exact tenementref07_Signed.mono _ _)
      | (with_reducible exact LeO.refl _)
      | (with_reducible exact LeO.none _)
      | (with_reducible refine LeO.ite ?_ ?_)
      | (with_reducible refine LeO.bind ?_ (fun _ => ?_))
      | exact tenementref06_Text.mono _ _ _ _ _
      | exact tenementref07_Signed.mono _ _
      | exact LeO.none _
      | refine LeO.ite ?_ ?_
      | refine LeO.bind ?_ (fun _ => ?_)
def tenementref07_Text.T1 : Bool × List (List Nat × List Nat) := (true, [([], []), ([0], [0]), ([1], [1]), ([2], [2]), ([], []), ([4], [4]), ([5, 2], [5]), ([3, 6], [3, 6]), ([7, 6, 0, 1, 2, 3, 4, 5, 6, 7], [7])])
def tenementref07_Text.B1 : List Nat := [0, 1, 3, 7, 0, 16, 55, 127, 255]
theorem tenementref07_Text.tab1 : rtab .any (opsOf Tryd.f26 1) = tenementref07_Text.T1 := by kernel_rfl
theorem tenementref07_Text.bits1 : waitsOk tenementref07_Text.T1.2 tenementref07_Text.B1 = true := by kernel_rfl
set_option maxHeartbeats 8000000 in
set_option maxRecDepth 100000 in
theorem tenementref07_Text.calls (k : Nat) (a0_0 : Int) (a0_1 : Int) (a0_2 : Int) (a0_3 : Int) (a0_4 : Int) (r : ByteArray) (w : World) (h : tenementref07_Text.f k a0_0 a0_1 a0_2 a0_3 a0_4 = some r) :
    Calls Tryd.prog 26 #[.agg #[.int .u64 a0_0, .int .u64 a0_1, .int .u64 a0_2, .int .u64 a0_3, .int .i64 a0_4]] w fun e w' => e = .returned (.string r) ∧ Below w.heap.size w w' := by
  have hu39 := Tryd.underlying39
  have hu37 := Tryd.underlying37
  have HB := Aside0.mk (Below.refl w.heap.size w)
  have H : ((tenementref07_Signed.f k a0_4).bind fun t272 => (if t272.size + 1 ≤ 9223372036854775807 then ((tenementref06_Text.f k a0_0 a0_1 a0_2 a0_3).bind fun t273 => (if (t272 ++ (⟨#[64]⟩ : ByteArray)).size + t273.size ≤ 9223372036854775807 then (some ((t272 ++ (⟨#[64]⟩ : ByteArray)) ++ t273)) else (none))) else (none))) = some r := h
  (try (have Hs_ := H; simp only [ByteArray.size_append, Int.natCast_add] at Hs_))
  clear h
  replace H := Option.bind_eq_some_iff.mp H
  obtain ⟨t272, A20, H⟩ := H
  replace H : (if t272.size + 1 ≤ 9223372036854775807 then ((tenementref06_Text.f k a0_0 a0_1 a0_2 a0_3).bind fun t273 => (if (t272 ++ (⟨#[64]⟩ : ByteArray)).size + t273.size ≤ 9223372036854775807 then (some ((t272 ++ (⟨#[64]⟩ : ByteArray)) ++ t273)) else (none))) else (none)) = some r := H
  have A2 := Aside0.mk A20
  clear A20
  by_cases c3 : t272.size + 1 ≤ 9223372036854775807
  rotate_left
  · rw [if_neg c3] at H
    exact absurd H (by simp)
  rw [if_pos c3] at H
  have c3b0 := eq_true c3
  have c3b1 : decide (t272.size + 1 ≤ 9223372036854775807) = true := decide_eq_true c3
  try have c3b2 : (9223372036854775807 < t272.size + 1) = False := eq_false (Nat.not_lt.2 c3)
  replace H := Option.bind_eq_some_iff.mp H
  obtain ⟨t273, A40, H⟩ := H
  replace H : (if (t272 ++ (⟨#[64]⟩ : ByteArray)).size + t273.size ≤ 9223372036854775807 then (some ((t272 ++ (⟨#[64]⟩ : ByteArray)) ++ t273)) else (none)) = some r := H
  have A4 := Aside0.mk A40
  clear A40
  by_cases c5 : (t272 ++ (⟨#[64]⟩ : ByteArray)).size + t273.size ≤ 9223372036854775807
  rotate_left
  · rw [if_neg c5] at H
    exact absurd H (by simp)
  rw [if_pos c5] at H
  have c5b0 := eq_true c5
  (try (have c5b0s_ := c5b0; simp only [ByteArray.size_append, Int.natCast_add, show (⟨#[64]⟩ : ByteArray).size = 1 from rfl] at c5b0s_))
  have c5b1 : decide ((t272 ++ (⟨#[64]⟩ : ByteArray)).size + t273.size ≤ 9223372036854775807) = true := decide_eq_true c5
  (try (have c5b1s_ := c5b1; simp only [ByteArray.size_append, Int.natCast_add, show (⟨#[64]⟩ : ByteArray).size = 1 from rfl] at c5b1s_))
  try have c5b2 : (9223372036854775807 < (t272 ++ (⟨#[64]⟩ : ByteArray)).size + t273.size) = False := eq_false (Nat.not_lt.2 c5)
  (try (have c5b2s_ := c5b2; simp only [ByteArray.size_append, Int.natCast_add, show (⟨#[64]⟩ : ByteArray).size = 1 from rfl] at c5b2s_))
  obtain rfl := Option.some.inj H
  go_enter Tryd.func26, Tryd.ntmps26
  try go_wp2_with (first | ((with_reducible refine gate_dst (N := 1) rfl ?_); refine box_event ?hg (N := 1) ?hd (cs := #[.int .u64 a0_0, .int .u64 a0_1, .int .u64 a0_2, .int .u64 a0_3, .int .i64 a0_4]) (t := 39) ?hr ?_; (case hd => rfl); (case hg => rfl); (case hr => first | (go_simp; done) | (go_simp; rfl)); intro gb271 hg w6 hbox hb; have BK271 := Aside0.mk (hbox); have GW271 := Kw_ HB hg; have GE271 := GW271; replace HB := Ks_ HB hb; clear hb hbox hg))
  replace BK271 := Kd_ BK271
  replace HB := Aside0.mk (below_drew1 HB.out)
  refine start_ (n := 9) (S := fun w' => w'.cell? ⟨gb271, 0, none⟩ = some (.int .u64 a0_0) ∧ w'.cell? ⟨gb271, 1, none⟩ = some (.int .u64 a0_1) ∧ w'.cell? ⟨gb271, 2, none⟩ = some (.int .u64 a0_2) ∧ w'.cell? ⟨gb271, 3, none⟩ = some (.int .u64 a0_3) ∧ w'.cell? ⟨gb271, 4, none⟩ = some (.int .i64 a0_4)) (ds := []) #[false, false, false, false, false, false, false, false, false] (by kernel_rfl) rfl rfl (Kc5_ BK271.out) (fun hHeld => ?_); refine with_tabW tenementref07_Text.tab1 tenementref07_Text.bits1 (fun HT_ HW_ => ?_)
  generalize w6.drew = w7 at BK271 HB hHeld ⊢
  refine pure_ (i := 0) (N := some 3) (v := ?_) (a' := ?_) #[true, false, false, false, false, false, false, false, false] rfl rfl (any_of HT_.out (by kernel_rfl)) (fun _ _ _ h => h) (Or.inl ⟨by rfl, ?_⟩) ?_ ?_
  rotate_left
  · intro w'
    go_simp
    with_reducible rfl
  rotate_left
  · simp only [Act.put, List.setIfInBounds_toArray, List.set_cons_zero, List.set_cons_succ, i64_w, i32_w]
    rfl
  refine pure_ (i := 4) (N := some 7) (v := ?_) (a' := ?_) #[true, false, false, false, true, false, false, false, false] rfl rfl (any_of HT_.out (by kernel_rfl)) (fun _ _ _ h => h) (Or.inl ⟨by rfl, ?_⟩) ?_ ?_
  rotate_left
  · intro w'
    go_simp
    with_reducible rfl
  rotate_left
  · simp only [Act.put, List.setIfInBounds_toArray, List.set_cons_zero, List.set_cons_succ, i64_w, i32_w]
    rfl
  refine take_ (i := 1) (N := some 4) (v := ?_) (a' := ?_) #[true, true, false, false, true, false, false, false, false] rfl rfl (take_ofW HT_.out HW_.out (by kernel_rfl)) (fun _ _ _ h => h) (Or.inl ⟨by rfl, ?_⟩) hHeld ?_ ?_
  rotate_left
  · rintro w' ⟨s0, s1, s2, s3, s4⟩
    go_simp
    with_reducible rfl
  rotate_left
  · simp only [Act.put, List.setIfInBounds_toArray, List.set_cons_zero, List.set_cons_succ, i64_w, i32_w]
    rfl
  refine take_ (i := 5) (N := some 8) (v := ?_) (a' := ?_) #[true, true, false, false, true, true, false, false, false] rfl rfl (take_ofW HT_.out HW_.out (by kernel_rfl)) (fun _ _ _ h => h) (Or.inl ⟨by rfl, ?_⟩) hHeld ?_ ?_
  rotate_left
  · rintro w' ⟨s0, s1, s2, s3, s4⟩
    go_simp
    with_reducible rfl
  rotate_left
  · simp only [Act.put, List.setIfInBounds_toArray, List.set_cons_zero, List.set_cons_succ, i64_w, i32_w]
    rfl
  refine one_ (i := 2) (N := some 5) #[true, true, true, false, true, true, false, false, false] rfl rfl (one_of HT_.out (by kernel_rfl)) (by decide) (fun K hK => ?_)
  refine goes_ Tryd.func53 (by kernel_rfl) rfl #[.int .i64 a0_4] (by rfl) rfl rfl (by (try simp only [List.map_toArray, List.map_cons, List.map_nil]); first | done | rfl | (simp only [List.length_drop, List.length_take]; rfl)) ?_
  with_reducible refine (tenementref07_Signed.calls k a0_4 t272 _ A2.out).mono ?_
  rintro e w8 ⟨rfl, hb⟩
  refine ⟨_, rfl, ?_⟩
  replace BK271 := Kb_ BK271 hb
  replace HB := Ks_ HB hb
  (try clear hb)
  (try clear hb2)
  (try clear hk)
  (try clear hi)
  refine hK.out _ _ (Kc5_ BK271.out) (fun hHeld => ?_)
  clear hK K
  refine norm_ (a' := ?_) ?_ ?_
  rotate_left
  · show Act.put _ (some 5) _ = _
    simp only [Act.put, List.setIfInBounds_toArray, List.set_cons_zero, List.set_cons_succ, i64_w, i32_w]
    rfl
  refine pure_ (i := 3) (N := some 6) (v := ?_) (a' := ?_) #[true, true, true, true, true, true, false, false, false] rfl rfl (any_of HT_.out (by kernel_rfl)) (fun _ _ _ h => h) (Or.inl ⟨by rfl, ?_⟩) ?_ ?_
  rotate_left
  · intro w'
    go_simp
    with_reducible rfl
  rotate_left
  · simp only [Act.put, List.setIfInBounds_toArray, List.set_cons_zero, List.set_cons_succ, i64_w, i32_w]
    rfl
  refine one_ (i := 6) (N := some 9) #[true, true, true, true, true, true, true, false, false] rfl rfl (one_of HT_.out (by kernel_rfl)) (by decide) (fun K hK => ?_)
  refine goes_ Tryd.func54 (by kernel_rfl) rfl #[.agg #[.int .u64 a0_0, .int .u64 a0_1, .int .u64 a0_2, .int .u64 a0_3]] (by rfl) rfl rfl (by (try simp only [List.map_toArray, List.map_cons, List.map_nil]); first | done | rfl | (simp only [List.length_drop, List.length_take]; rfl)) ?_
  with_reducible refine (tenementref06_Text.calls k a0_0 a0_1 a0_2 a0_3 t273 _ A4.out).mono ?_
  rintro e w9 ⟨rfl, hb⟩
  refine ⟨_, rfl, ?_⟩
  replace BK271 := Kb_ BK271 hb
  replace HB := Ks_ HB hb
  (try clear hb)
  (try clear hb2)
  (try clear hk)
  (try clear hi)
  refine hK.out _ _ (Kc5_ BK271.out) (fun hHeld => ?_)
  clear hK K
  refine norm_ (a' := ?_) ?_ ?_
  rotate_left
  · show Act.put _ (some 9) _ = _
    simp only [Act.put, List.setIfInBounds_toArray, List.set_cons_zero, List.set_cons_succ, i64_w, i32_w]
    rfl
  refine pure_ (i := 7) (N := some 10) (v := ?_) (a' := ?_) #[true, true, true, true, true, true, true, true, false] rfl rfl (any_of HT_.out (by kernel_rfl)) (fun _ _ _ h => h) (Or.inl ⟨by rfl, ?_⟩) ?_ ?_
  rotate_left
  · intro w'
    go_simp
    with_reducible rfl
  rotate_left
  · simp only [Act.put, List.setIfInBounds_toArray, List.set_cons_zero, List.set_cons_succ, i64_w, i32_w]
    rfl
  refine pure_ (i := 8) (N := some 2) (v := ?_) (a' := ?_) #[true, true, true, true, true, true, true, true, true] rfl rfl (any_of HT_.out (by kernel_rfl)) (fun _ _ _ h => h) (Or.inl ⟨by rfl, ?_⟩) ?_ ?_
  rotate_left
  · intro w'
    go_simp
    with_reducible rfl
  rotate_left
  · simp only [Act.put, List.setIfInBounds_toArray, List.set_cons_zero, List.set_cons_succ, i64_w, i32_w]
    rfl
  refine done_ (done_of HT_.out (by kernel_rfl)) ?_
  try go_wp2
  go_ret
  exact ⟨by first | rfl | (simp [errW_none, errW_some] <;> rfl) | (simp [*, errW_none, errW_some] <;> rfl), Kz_ HB GE271⟩

end Go.Proofs.YtdlagefpglhdoaaDoor.Q

/- What an argument of a law reads as: the kinds of the printed words, opened out of the form's reading, whatever the type: numbers, bools, texts, slices, structs, arrays. No program here. -/
set_option linter.unusedVariables false
set_option linter.unusedSimpArgs false
namespace Go.Proofs.YtdlagefpglhdoaaDoor.Open
open Go Go.RowKit Go.Deep Go.WideShapes Go.ChangeShapes Go.Proofs.YtdlagefpglhdoaaDoorW.PrintWords Go.Proofs.YtdlagefpglhdoaaDoorW.PrintLast Go.Proofs.YtdlagefpglhdoaaDoorW.PrintMore

structure To (P : Program) (t : TypeId) {α : Type} (K : Kd α) (wf : α → Prop) : Prop where
  sz : P.cellsOf t = K.sz
  go : ∀ {H : Type} (enc : TypeId × Value → H) (w : World) (fuel : Nat) (cs : List Value) (d : DataW H) (ps : List MemPlace),
    DataW.trod enc P w 0 (fun _ => true) true fuel t cs = some (d, ps) → (DataW.weights P t d).all (· ≤ reachBytes) = true → ∃ x : α, K.K w x cs ∧ wf x

theorem int {P : Program} {t : TypeId} {k : IntKind} (ht : P.underlying t = some (.int k)) (hs : P.cellsOf t = 1) : To P t (Kd.int k) (fun n => (Lit.int k n).wf = true) := by
  refine ⟨hs, fun enc w fuel cs d ps h _ => ?_⟩
  obtain ⟨n, rfl, _, hw⟩ := DataW.trod_int ht h
  exact ⟨n, rfl, hw⟩
theorem bool {P : Program} {t : TypeId} (ht : P.underlying t = some .bool) (hs : P.cellsOf t = 1) : To P t Kd.bool (fun _ => True) := by
  refine ⟨hs, fun enc w fuel cs d ps h _ => ?_⟩
  obtain ⟨b, rfl, _⟩ := DataW.trod_bool ht h
  exact ⟨b, rfl, trivial⟩
theorem string {P : Program} {t : TypeId} (ht : P.underlying t = some .string) (hs : P.cellsOf t = 1) : To P t Kd.string (fun s => s.size ≤ 140737488351232) := by
  refine ⟨hs, fun enc w fuel cs d ps h hw => ?_⟩
  obtain ⟨s, rfl, hx, _⟩ := DataW.trod_string ht h
  obtain ⟨rfl, _⟩ := Prod.mk.inj hx
  refine ⟨s, rfl, ?_⟩
  simp only [DataW.weights, List.all_cons, List.all_nil, Bool.and_true, reachBytes, Array.length_toList] at hw
  exact of_decide_eq_true hw
theorem weightsAll_mem {H : Type} {P : Program} {e : TypeId} : ∀ {l : List (DataW H)} {d : DataW H}, d ∈ l → (DataW.weightsAll P e l).all (· ≤ reachBytes) = true → (DataW.weights P e d).all (· ≤ reachBytes) = true
  | [], _, h, _ => by cases h
  | a :: l, d, h, hw => by
    simp only [DataW.weightsAll, List.all_append, Bool.and_eq_true] at hw
    rcases List.mem_cons.1 h with rfl | h
    · exact hw.1
    · exact weightsAll_mem h hw.2
theorem add_add (a : Addr) (i j : Nat) : (a.add i).add j = a.add (i + j) := by
  unfold Addr.add
  by_cases h1 : i = 0 <;> by_cases h2 : j = 0 <;> simp [h1, h2, Nat.add_assoc]
theorem slice {P : Program} {t e : TypeId} {α : Type} {K : Kd α} {wf : α → Prop} {B : Nat} (ht : P.underlying t = some (.slice e)) (hs : P.cellsOf t = 1) (hB : P.bytesOf e = B) (he : To P e K wf) :
    To P t (Kd.slice e K) (fun l => (∀ x ∈ l, wf x) ∧ l.length * B ≤ 140737488351232) := by
  refine ⟨hs, fun {H} enc w fuel cs d ps h hw => ?_⟩
  rcases open_slice ht h with ⟨rfl, _⟩ | ⟨a, len, cap, m, n, D, Pl, rfl, _, hl, hm, hmc, hx, hel⟩
  · exact ⟨[], ⟨none, 0, rfl, Nat.le_refl _, rfl, by simp, fun h => absurd h (by simp)⟩, by simp, by simp⟩
  · obtain ⟨rfl, _⟩ := Prod.mk.inj hx
    simp only [if_true] at hmc
    subst hmc
    have hw1 := hw
    simp only [DataW.weights, ht, List.all_cons, List.all_append, Bool.and_eq_true, decide_eq_true_eq, List.length_map, List.length_range, hB, reachBytes] at hw1
    have hchoose : ∀ i, i < len → ∃ x : α, (∃ cs', w.cells? 0 (a.add (i * P.cellsOf e)) (P.cellsOf e) = some cs' ∧ K.K w x cs') ∧ wf x := by
      intro i hi
      obtain ⟨cs', h1, h2⟩ := hel i (by omega)
      obtain ⟨x, hx1, hx2⟩ := he.go enc w n cs' (D i) (Pl i) h2 (weightsAll_mem (List.mem_map.2 ⟨i, by simpa using hi, rfl⟩) hw1.2.1)
      exact ⟨x, ⟨cs', h1, hx1⟩, hx2⟩
    have hall : ∀ k, k ≤ len → ∃ l : List α, l.length = k ∧ ∀ i x, l[i]? = some x → (∃ cs', w.cells? 0 (a.add (i * P.cellsOf e)) (P.cellsOf e) = some cs' ∧ K.K w x cs') ∧ wf x := by
      intro k
      induction k with
      | zero => intro _; exact ⟨[], rfl, fun i x h => by simp at h⟩
      | succ k ih =>
        intro hk
        obtain ⟨l, h1, h2⟩ := ih (by omega)
        obtain ⟨x, hx⟩ := hchoose k (by omega)
        refine ⟨l ++ [x], by simp [h1], fun i y hy => ?_⟩
        by_cases hi : i < l.length
        · exact h2 i y (by rwa [List.getElem?_append_left hi] at hy)
        · rw [List.getElem?_append_right (by omega)] at hy
          have : i = l.length := by
            have := (List.getElem?_eq_some_iff.1 hy).1
            simp at this; omega
          subst this
          simp at hy
          subst hy
          rw [h1]; exact hx
    obtain ⟨l, h1, h2⟩ := hall len (Nat.le_refl _)
    refine ⟨l, ⟨some a, m, by rw [h1], by omega, rfl, by unfold maxLen at hm; omega, fun _ => ⟨a, rfl, fun j p hj => ?_⟩⟩, ?_, ?_⟩
    · obtain ⟨⟨cs', g1, g2⟩, _⟩ := h2 j p hj
      obtain ⟨_, g3, g4⟩ := World.cells?_some g1
      refine ⟨cs', by rw [g3, he.sz], g2, fun i u hu => ?_⟩
      have hi : i < P.cellsOf e := by
        have := (List.getElem?_eq_some_iff.1 hu).1
        omega
      rw [← hu, ← g4 i hi, add_add, he.sz]
    · intro x hx
      obtain ⟨i, hi, rfl⟩ := List.getElem_of_mem hx
      exact (h2 i _ (List.getElem?_eq_getElem hi)).2
    · rw [h1]
      refine Nat.le_trans (Nat.mul_le_mul_right _ ?_) (of_decide_eq_true hw1.1)
      omega

/-! ### structs, arrays -/
structure Fs (P : Program) (o : Nat) (fs : List (TypeId × Nat)) {α : Type} (K : Kd α) (wf : α → Prop) : Prop where
  go : ∀ {H : Type} (enc : TypeId × Value → H) (w : World) (n : Nat) (cs : List Value) (xs : List (DataW H × List MemPlace)), cs.length = o + K.sz → xs.length = fs.length →
    (∀ (i : Nat) (f : TypeId × Nat), fs[i]? = some f → DataW.trod enc P w 0 (fun _ => true) true n f.1 ((cs.drop f.2).take (P.cellsOf f.1)) = xs[i]?) →
    (DataW.weightsEach P (fs.map (·.1)) (xs.map (·.1))).all (· ≤ reachBytes) = true → ∃ x : α, K.K w x (cs.drop o) ∧ wf x
theorem one {P : Program} {o : Nat} {t : TypeId} {α : Type} {K : Kd α} {wf : α → Prop} (h : To P t K wf) : Fs P o [(t, o)] K wf := by
  refine ⟨fun enc w n cs xs hl hx hr hw => ?_⟩
  match xs, hx with
  | [x], _ =>
    have h0 := hr 0 _ rfl
    simp only [List.getElem?_cons_zero] at h0
    rw [h.sz, List.take_of_length_le (by simp; omega)] at h0
    simp only [List.map_cons, List.map_nil, DataW.weightsEach, List.append_nil] at hw
    exact h.go enc w n _ x.1 x.2 h0 hw
theorem cons {P : Program} {o : Nat} {t : TypeId} {fs : List (TypeId × Nat)} {α β : Type} {K : Kd α} {wf : α → Prop} {L : Kd β} {wg : β → Prop} (h : To P t K wf) (hs : Fs P (o + K.sz) fs L wg) :
    Fs P o ((t, o) :: fs) (Kd.pair K L) (fun x => wf x.1 ∧ wg x.2) := by
  refine ⟨fun {H} enc w n cs xs hl hx hr hw => ?_⟩
  have hsz : (Kd.pair K L).sz = K.sz + L.sz := rfl
  match xs, hx with
  | x :: xs, hx =>
    have h0 := hr 0 _ rfl
    simp only [List.getElem?_cons_zero] at h0
    rw [h.sz] at h0
    simp only [List.map_cons, DataW.weightsEach, List.all_append, Bool.and_eq_true] at hw
    obtain ⟨a, ha, hwa⟩ := h.go enc w n _ x.1 x.2 h0 hw.1
    obtain ⟨b, hb, hwb⟩ := hs.go enc w n cs xs (by omega) (by simpa using hx) (fun i f hf => by have := hr (i + 1) f (by simpa using hf); simpa using this) hw.2
    refine ⟨(a, b), ⟨_, _, ?_, ha, hb⟩, hwa, hwb⟩
    rw [← List.drop_drop, List.take_append_drop]
theorem struct {P : Program} {t : TypeId} {fs : Array Field} {gs : List (TypeId × Nat)} {α : Type} {K : Kd α} {wf : α → Prop} (ht : P.underlying t = some (.struct fs)) (hg : fs.toList.map (fun f => (f.type, f.offset)) = gs) (hs : P.cellsOf t = K.sz) (h : Fs P 0 gs K wf) : To P t K wf := by
  refine ⟨hs, fun {H} enc w fuel cs d ps hr hw => ?_⟩
  obtain ⟨xs, n, _, hx, hl, hxl, hel⟩ := DataW.trod_struct ht hr
  obtain ⟨rfl, _⟩ := Prod.mk.inj hx
  have := h.go enc w n cs xs (by omega) (by rw [← hg]; simpa using hxl) (fun i f hf => ?_) ?_
  · simpa using this
  · rw [← hg] at hf
    simp only [List.getElem?_map, Option.map_eq_some_iff] at hf
    obtain ⟨g, hg1, rfl⟩ := hf
    exact hel i g (by simpa using hg1)
  · rw [← hg]
    simp only [DataW.weights, ht] at hw
    simpa [List.map_map, Function.comp_def] using hw
theorem weightsAll_each {H : Type} (P : Program) (e : TypeId) : ∀ (l : List (DataW H)) (ts : List TypeId), ts.length = l.length → (∀ t ∈ ts, t = e) → DataW.weightsEach P ts l = DataW.weightsAll P e l
  | [], [], _, _ => rfl
  | [], _ :: _, h, _ => by simp at h
  | _ :: _, [], h, _ => by simp at h
  | d :: l, t :: ts, h, ht => by
    simp only [DataW.weightsEach, DataW.weightsAll]
    rw [ht t (by simp), weightsAll_each P e l ts (by simpa using h) (fun x hx => ht x (by simp [hx]))]
theorem array {P : Program} {t e : TypeId} {n s : Nat} {α : Type} {K : Kd α} {wf : α → Prop} (ht : P.underlying t = some (.array n e)) (he : P.cellsOf e = s) (hs : P.cellsOf t = K.sz) (h : Fs P 0 ((List.range n).map fun i => (e, i * s)) K wf) : To P t K wf := by
  refine ⟨hs, fun {H} enc w fuel cs d ps hr hw => ?_⟩
  obtain ⟨xs, m, _, hx, hl, hxl, hel⟩ := DataW.trod_array ht hr
  obtain ⟨rfl, _⟩ := Prod.mk.inj hx
  have := h.go enc w m cs xs (by omega) (by simpa using hxl) (fun i f hf => ?_) ?_
  · simpa using this
  · simp only [List.getElem?_map, Option.map_eq_some_iff] at hf
    obtain ⟨g, hg1, rfl⟩ := hf
    have hi : i < n := by have := (List.getElem?_eq_some_iff.1 hg1).1; simpa using this
    have hgi : g = i := by
      have := (List.getElem?_eq_some_iff.1 hg1).2
      simpa using this.symm
    subst hgi
    have := hel g hi
    rw [he] at this ⊢
    exact this
  · simp only [DataW.weights, ht] at hw
    rw [weightsAll_each P e _ _ (by simp [hxl]) (by simp)]
    exact hw
theorem iso {P : Program} {t : TypeId} {α β : Type} {K : Kd α} {wf : α → Prop} (f : β → α) (g : α → β) (hfg : ∀ a, f (g a) = a) (h : To P t K wf) : To P t (Kd.iso K f) (fun b => wf (f b)) := by
  refine ⟨h.sz, fun {H} enc w fuel cs d ps hr hw => ?_⟩
  obtain ⟨x, h1, h2⟩ := h.go enc w fuel cs d ps hr hw
  refine ⟨g x, ?_, ?_⟩
  · show K.K w (f (g x)) cs
    rw [hfg]; exact h1
  · rw [hfg]; exact h2
theorem imp {P : Program} {t : TypeId} {α : Type} {K : Kd α} {wf wf' : α → Prop} (h : To P t K wf) (hi : ∀ x, wf x → wf' x) : To P t K wf' :=
  ⟨h.sz, fun enc w fuel cs d ps hr hw => by
    obtain ⟨x, h1, h2⟩ := h.go enc w fuel cs d ps hr hw
    exact ⟨x, h1, hi x h2⟩⟩
/-- At a parameter. -/
theorem at_param {P : Program} {t : TypeId} {α : Type} {K : Kd α} {wf : α → Prop} (h : To P t K wf) {H : Type} {enc : TypeId × Value → H} {w : World} {v : Value} {d : DataW H} {ps : List MemPlace} {ts : List TypeId} {ds : List (DataW H)} {j : Nat}
    (hsz : (DataW.weightsEach P ts ds).all (· ≤ reachBytes) = true) (ht : ts[j]? = some t) (hd : ds[j]? = some d) (hr : DataW.Trod enc P w 0 (fun _ => true) true t v d ps) : ∃ x : α, K.K w x v.cells.toList ∧ wf x := by
  obtain ⟨fuel, hf⟩ := hr
  refine h.go enc w fuel _ d ps hf ?_
  rw [List.all_eq_true]
  intro x hx
  exact List.all_eq_true.1 hsz x (DataW.weights_mem_each ht hd x hx)
theorem okWide_array {P : Program} {w : World} {r : Reach} {base : Nat} {t : TypeId} {v : Value} {n : Nat} {e : TypeId} (ht : P.underlying t = some (.array n e)) (h : Value.okWide P w r base t v) : ∃ cs, v = .agg cs := by
  simp only [Value.okWide, ht] at h
  obtain ⟨cs, h1, _⟩ := h
  exact ⟨cs, h1⟩
end Go.Proofs.YtdlagefpglhdoaaDoor.Open

-- Written by this session's own driver (wip/hybrid.py) of the kit's printer; contracts marked FOREIGN are by hand.
set_option linter.unusedVariables false
namespace Go.Proofs.YtdlagefpglhdoaaDoor.Q
open Go.RowKit Go.Proofs.YtdlagefpglhdoaaDoor.Q Go.Proofs.YtdlagefpglhdoaaDoorW.PrintWords Go.Proofs.YtdlagefpglhdoaaDoorW.PrintLast Go.Proofs.YtdlagefpglhdoaaDoorW.PrintMore
open Go.Proofs.YtdlagefpglhdoaaDoor
def wf24 (x : S24) : Prop := ((Lit.int .u64 x.f0).wf = true) ∧ ((Lit.int .u64 x.f1).wf = true) ∧ ((Lit.int .u64 x.f2).wf = true) ∧ ((Lit.int .u64 x.f3).wf = true)
theorem to24 : Open.To Tryd.prog 24 k24 wf24 := Open.imp (Open.iso (fun x : S24 => (x.f0, (x.f1, (x.f2, x.f3)))) (fun y => (⟨y.1, y.2.1, y.2.2.1, y.2.2.2⟩ : S24)) (fun _ => rfl) (Open.array (n := 4) (e := 22) (s := 1) Tryd.underlying24 (by kernel_rfl) (by kernel_rfl) (show Open.Fs Tryd.prog 0 [(22, 0), (22, 1), (22, 2), (22, 3)] _ _ from (Open.cons (Open.int Tryd.underlying22 (by kernel_rfl)) (Open.cons (Open.int Tryd.underlying22 (by kernel_rfl)) (Open.cons (Open.int Tryd.underlying22 (by kernel_rfl)) (Open.one (Open.int Tryd.underlying22 (by kernel_rfl))))))))) (fun _ h => h)
def wf26 (x : S26) : Prop := (wf24 x.f0) ∧ ((Lit.int .i64 x.f1).wf = true)
theorem to26 : Open.To Tryd.prog 26 k26 wf26 := Open.imp (Open.iso (fun x : S26 => (x.f0, x.f1)) (fun y => (⟨y.1, y.2⟩ : S26)) (fun _ => rfl) (Open.struct Tryd.underlying26 (by rfl) (by kernel_rfl) (show Open.Fs Tryd.prog 0 [(24, 0), (3, 4)] _ _ from (Open.cons to24 (Open.one (Open.int Tryd.underlying3 (by kernel_rfl))))))) (fun _ h => h)
def wf28 (x : S28) : Prop := (wf26 x.f0) ∧ (True)
theorem to28 : Open.To Tryd.prog 28 k28 wf28 := Open.imp (Open.iso (fun x : S28 => (x.f0, x.f1)) (fun y => (⟨y.1, y.2⟩ : S28)) (fun _ => rfl) (Open.struct Tryd.underlying28 (by rfl) (by kernel_rfl) (show Open.Fs Tryd.prog 0 [(26, 0), (4, 5)] _ _ from (Open.cons to26 (Open.one (Open.bool Tryd.underlying4 (by kernel_rfl))))))) (fun _ h => h)
def wf30 (x : S30) : Prop := (wf24 x.f0) ∧ (True)
theorem to30 : Open.To Tryd.prog 30 k30 wf30 := Open.imp (Open.iso (fun x : S30 => (x.f0, x.f1)) (fun y => (⟨y.1, y.2⟩ : S30)) (fun _ => rfl) (Open.struct Tryd.underlying30 (by rfl) (by kernel_rfl) (show Open.Fs Tryd.prog 0 [(24, 0), (4, 4)] _ _ from (Open.cons to24 (Open.one (Open.bool Tryd.underlying4 (by kernel_rfl))))))) (fun _ h => h)
end Go.Proofs.YtdlagefpglhdoaaDoor.Q
