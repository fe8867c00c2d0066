import Derived.Test.YtoogchgoiciggaaQx0
import Derived.Test.YtoogchgoiciggaaGItemShards0
import Derived.Test.YtoogchgoiciggaaGItemShards7
import Derived.Test.YtoogchgoiciggaaGItemShards2
import Derived.Test.YtoogchgoiciggaaGItemShards11
import Derived.Test.YtoogchgoiciggaaGItemShards3
import Derived.Test.YtoogchgoiciggaaWBMore
-- Written by this session's own driver (wip/hybrid.py) of the kit's printer; contracts marked FOREIGN are by hand.
namespace Go.Proofs.Ytoogchgoiciggaa.Q
open Go.RowKit Go.Proofs.YtoogchgoiciggaaW.PrintWords Go.Proofs.YtoogchgoiciggaaW.PrintLast Go.Proofs.YtoogchgoiciggaaW.PrintMore
attribute [local go_sem] max2_int min2_int max_two min_two max_three min_three max_four min_four   -- for this text's walks alone
set_option linter.unusedVariables false
set_option linter.unusedSimpArgs false

attribute [local go_sem high] eqA38
/-! ### tenementlaw08_ItemShards: function 4 -/
mutual
def tenementlaw08_ItemShards.j0 : Nat → ByteArray → ByteArray → Int → Int → Bool → Int → Int → Int → Int → Int → Bool → List (S25) → Bool → Option (Bool)
  | 0, _, _, _, _, _, _, _, _, _, _, _, _, _ => none
  | k + 1, x0, x1, x3, x4, x13, x450000, x450001, x450002, x450003, x450004, x450005, x450006, x450007 => (tenementlaw08_Deal_deal.f k x450000 x450001 x450002 x450003 x450004 x450005 x450006 x450007).bind fun bt451 => ((item_Of.f k bt451.1 bt451.2.1 bt451.2.2.1 bt451.2.2.2.1 bt451.2.2.2.2.1 bt451.2.2.2.2.2 x3 x4).bind fun t460 => ((tenementlaw08_refWrites.f k t460).bind fun t463 => ((tenementlaw08_refTxn.f k bt451.1 bt451.2.1 bt451.2.2.1 bt451.2.2.2.1 bt451.2.2.2.2.1 bt451.2.2.2.2.2).bind fun bt466 => ((tenementref08_Of.f k bt466.1 bt466.2.1 bt466.2.2.1 bt466.2.2.2.1 bt466.2.2.2.2.1 bt466.2.2.2.2.2 x3 x4).bind fun t474 => (if (t463.length : Int) = (t474.length : Int) then (tenementlaw08_ItemShards.l0 k x0 x1 x4 x13 t463 t474 0) else (none))))))
def tenementlaw08_ItemShards.l0 : Nat → ByteArray → ByteArray → Int → Bool → List (S38) → List (S38) → Int → Option (Bool)
  | 0, _, _, _, _, _, _, _ => none
  | k + 1, x0, x1, x4, x13, x15, x16, x17 => if x17 < (x15.length : Int) then (if 0 ≤ x17 then (if x17 < (x16.length : Int) then (if (!((((rd_T38 x15 x17).f0).toList) == (((rd_T38 x16 x17).f0).toList)) || (!((((rd_T38 x15 x17).f1).toList) == (((rd_T38 x16 x17).f1).toList)) || (!((((rd_T38 x15 x17).f2).toList) == (((rd_T38 x16 x17).f2).toList)) || (!(((rd_T38 x15 x17).f3) == ((rd_T38 x16 x17).f3)))))) = true then (none) else (tenementlaw08_ItemShards.l0 k x0 x1 x4 x13 x15 x16 (wrap64 (x17 + 1)))) else (none)) else (none)) else (if x13 = true then ((item_Shard.f k x0 x1 x4).bind fun t479 => ((tenementref08_Shard.f k x0 x1 x4).bind fun t480 => (if t479 = t480 then (some true) else (none)))) else (none))
end
def tenementlaw08_ItemShards.f (k : Nat) (a0 : ByteArray) (a1 : ByteArray) (a2_0 : Int) (a2_1 : Int) (a2_2 : Int) (a2_3 : Int) (a2_4 : Int) (a2_5 : Bool) (l2_6 : List (S25)) (a2_7 : Bool) (a3 : Int) (a4 : Int) (a5 : Bool) : Option (Bool) := (tenementlaw08_examples.f k).bind fun t450 => (if t450 = true then (if a5 = true then (tenementlaw08_ItemShards.j0 k a0 a1 (Int.tmod a3 6) (Int.tmod a4 6) t450 a2_0 a2_1 a2_2 a2_3 a2_4 a2_5 l2_6 a2_7) else (tenementlaw08_ItemShards.j0 k a0 a1 a3 a4 t450 a2_0 a2_1 a2_2 a2_3 a2_4 a2_5 l2_6 a2_7)) else (none))
theorem tenementlaw08_ItemShards.mono_l : ∀ k, (∀ y0 y1 y2 y3 y4 y5 y6 y7 y8 y9 y10 y11 y12, LeO (tenementlaw08_ItemShards.j0 k y0 y1 y2 y3 y4 y5 y6 y7 y8 y9 y10 y11 y12) (tenementlaw08_ItemShards.j0 (k + 1) y0 y1 y2 y3 y4 y5 y6 y7 y8 y9 y10 y11 y12)) ∧ (∀ y0 y1 y2 y3 y4 y5 y6, LeO (tenementlaw08_ItemShards.l0 k y0 y1 y2 y3 y4 y5 y6) (tenementlaw08_ItemShards.l0 (k + 1) y0 y1 y2 y3 y4 y5 y6))
  | 0 => ⟨fun _ _ _ _ _ _ _ _ _ _ _ _ _ r h => by simp [tenementlaw08_ItemShards.j0] at h, fun _ _ _ _ _ _ _ r h => by simp [tenementlaw08_ItemShards.l0] at h⟩
  | k + 1 => by
    obtain ⟨ih0, ih1⟩ := tenementlaw08_ItemShards.mono_l k
    refine ⟨?_, ?_⟩
    · intro y0 y1 y2 y3 y4 y5 y6 y7 y8 y9 y10 y11 y12
      unfold tenementlaw08_ItemShards.j0
      repeat' first
      | (with_reducible exact ih0 _ _ _ _ _ _ _ _ _ _ _ _ _)
      | (with_reducible exact ih1 _ _ _ _ _ _ _)
      | (with_reducible exact item_Of.mono _ _ _ _ _ _ _ _ _)
      | (with_reducible exact item_Shard.mono _ _ _ _)
      | (with_reducible exact tenementlaw08_Deal_deal.mono _ _ _ _ _ _ _ _ _)
      | (with_reducible exact tenementlaw08_examples.mono _)
      | (with_reducible exact tenementlaw08_refTxn.mono _ _ _ _ _ _ _)
      | (with_reducible exact tenementlaw08_refWrites.mono _ _)
      | (with_reducible exact tenementref08_Of.mono _ _ _ _ _ _ _ _ _)
      | (with_reducible exact tenementref08_Shard.mono _ _ _ _)
      | (with_reducible exact LeO.refl _)
      | (with_reducible exact LeO.none _)
      | (with_reducible refine LeO.ite ?_ ?_)
      | (with_reducible refine LeO.bind ?_ (fun _ => ?_))
      | exact ih0 _ _ _ _ _ _ _ _ _ _ _ _ _
      | exact ih1 _ _ _ _ _ _ _
      | exact item_Of.mono _ _ _ _ _ _ _ _ _
      | exact item_Shard.mono _ _ _ _
      | exact tenementlaw08_Deal_deal.mono _ _ _ _ _ _ _ _ _
      | exact tenementlaw08_examples.mono _
      | exact tenementlaw08_refTxn.mono _ _ _ _ _ _ _
      | exact tenementlaw08_refWrites.mono _ _
      | exact tenementref08_Of.mono _ _ _ _ _ _ _ _ _
      | exact tenementref08_Shard.mono _ _ _ _
      | exact LeO.none _
      | refine LeO.ite ?_ ?_
      | refine LeO.bind ?_ (fun _ => ?_)
    · intro y0 y1 y2 y3 y4 y5 y6
      unfold tenementlaw08_ItemShards.l0
      repeat' first
      | (with_reducible exact ih0 _ _ _ _ _ _ _ _ _ _ _ _ _)
      | (with_reducible exact ih1 _ _ _ _ _ _ _)
      | (with_reducible exact item_Of.mono _ _ _ _ _ _ _ _ _)
      | (with_reducible exact item_Shard.mono _ _ _ _)
      | (with_reducible exact tenementlaw08_Deal_deal.mono _ _ _ _ _ _ _ _ _)
      | (with_reducible exact tenementlaw08_examples.mono _)
      | (with_reducible exact tenementlaw08_refTxn.mono _ _ _ _ _ _ _)
      | (with_reducible exact tenementlaw08_refWrites.mono _ _)
      | (with_reducible exact tenementref08_Of.mono _ _ _ _ _ _ _ _ _)
      | (with_reducible exact tenementref08_Shard.mono _ _ _ _)
      | (with_reducible exact LeO.refl _)
      | (with_reducible exact LeO.none _)
      | (with_reducible refine LeO.ite ?_ ?_)
      | (with_reducible refine LeO.bind ?_ (fun _ => ?_))
      | exact ih0 _ _ _ _ _ _ _ _ _ _ _ _ _
      | exact ih1 _ _ _ _ _ _ _
      | exact item_Of.mono _ _ _ _ _ _ _ _ _
      | exact item_Shard.mono _ _ _ _
      | exact tenementlaw08_Deal_deal.mono _ _ _ _ _ _ _ _ _
      | exact tenementlaw08_examples.mono _
      | exact tenementlaw08_refTxn.mono _ _ _ _ _ _ _
      | exact tenementlaw08_refWrites.mono _ _
      | exact tenementref08_Of.mono _ _ _ _ _ _ _ _ _
      | exact tenementref08_Shard.mono _ _ _ _
      | exact LeO.none _
      | refine LeO.ite ?_ ?_
      | refine LeO.bind ?_ (fun _ => ?_)
theorem tenementlaw08_ItemShards.mono : ∀ a0 a1 a2 a3 a4 a5 a6 a7 a8 a9 a10 a11 a12 k, LeO (tenementlaw08_ItemShards.f k a0 a1 a2 a3 a4 a5 a6 a7 a8 a9 a10 a11 a12) (tenementlaw08_ItemShards.f (k + 1) a0 a1 a2 a3 a4 a5 a6 a7 a8 a9 a10 a11 a12) := by
  intro a0 a1 a2 a3 a4 a5 a6 a7 a8 a9 a10 a11 a12 k
  obtain ⟨ih0, ih1⟩ := tenementlaw08_ItemShards.mono_l k
  unfold tenementlaw08_ItemShards.f
  repeat' first
      | (with_reducible exact ih0 _ _ _ _ _ _ _ _ _ _ _ _ _)
      | (with_reducible exact ih1 _ _ _ _ _ _ _)
      | (with_reducible exact item_Of.mono _ _ _ _ _ _ _ _ _)
      | (with_reducible exact item_Shard.mono _ _ _ _)
      | (with_reducible exact tenementlaw08_Deal_deal.mono _ _ _ _ _ _ _ _ _)
      | (with_reducible exact tenementlaw08_examples.mono _)
      | (with_reducible exact tenementlaw08_refTxn.mono _ _ _ _ _ _ _)
      | (with_reducible exact tenementlaw08_refWrites.mono _ _)
      | (with_reducible exact tenementref08_Of.mono _ _ _ _ _ _ _ _ _)
      | (with_reducible exact tenementref08_Shard.mono _ _ _ _)
      | (with_reducible exact LeO.refl _)
      | (with_reducible exact LeO.none _)
      | (with_reducible refine LeO.ite ?_ ?_)
      | (with_reducible refine LeO.bind ?_ (fun _ => ?_))
      | exact ih0 _ _ _ _ _ _ _ _ _ _ _ _ _
      | exact ih1 _ _ _ _ _ _ _
      | exact item_Of.mono _ _ _ _ _ _ _ _ _
      | exact item_Shard.mono _ _ _ _
      | exact tenementlaw08_Deal_deal.mono _ _ _ _ _ _ _ _ _
      | exact tenementlaw08_examples.mono _
      | exact tenementlaw08_refTxn.mono _ _ _ _ _ _ _
      | exact tenementlaw08_refWrites.mono _ _
      | exact tenementref08_Of.mono _ _ _ _ _ _ _ _ _
      | exact tenementref08_Shard.mono _ _ _ _
      | exact LeO.none _
      | refine LeO.ite ?_ ?_
      | refine LeO.bind ?_ (fun _ => ?_)
set_option maxHeartbeats 8000000 in
set_option maxRecDepth 100000 in
theorem tenementlaw08_ItemShards.calls (k : Nat) (a0 : ByteArray) (a1 : ByteArray) (a2_0 : Int) (a2_1 : Int) (a2_2 : Int) (a2_3 : Int) (a2_4 : Int) (a2_5 : Bool) (A2_6 : Option Addr) (c2_6 : Nat) (l2_6 : List (S25)) (a2_7 : Bool) (a3 : Int) (a4 : Int) (a5 : Bool) (r : Bool) (w : World) (hr2_6 : Kd.C k25 w A2_6 l2_6.length l2_6) (hc2_6 : l2_6.length ≤ c2_6) (h : tenementlaw08_ItemShards.f k a0 a1 a2_0 a2_1 a2_2 a2_3 a2_4 a2_5 l2_6 a2_7 a3 a4 a5 = some r) :
    Calls Try.prog 4 #[.string a0, .string a1, .agg #[.int .u64 a2_0, .int .u64 a2_1, .int .u64 a2_2, .int .u64 a2_3, .int .i64 a2_4, .bool a2_5, .slice A2_6 l2_6.length c2_6, .bool a2_7], .int .i64 a3, .int .i64 a4, .bool a5] w fun e w' => e = .returned (.bool r) ∧ Below w.heap.size w w' := by
  have hu35 := Try.underlying35
  have hu43 := Try.underlying43
  have hu38 := Try.underlying38
  have HR2_6 := Aside0.mk hr2_6
  have HC2_6 := Aside0.mk hc2_6
  clear hr2_6 hc2_6
  have HB := Aside0.mk (Below.refl w.heap.size w)
  have H : ((tenementlaw08_examples.f k).bind fun t450 => (if t450 = true then (if a5 = true then (tenementlaw08_ItemShards.j0 k a0 a1 (Int.tmod a3 6) (Int.tmod a4 6) t450 a2_0 a2_1 a2_2 a2_3 a2_4 a2_5 l2_6 a2_7) else (tenementlaw08_ItemShards.j0 k a0 a1 a3 a4 t450 a2_0 a2_1 a2_2 a2_3 a2_4 a2_5 l2_6 a2_7)) else (none))) = some r := h
  clear h
  replace H := Option.bind_eq_some_iff.mp H
  obtain ⟨t450, A70, H⟩ := H
  replace H : (if t450 = true then (if a5 = true then (tenementlaw08_ItemShards.j0 k a0 a1 (Int.tmod a3 6) (Int.tmod a4 6) t450 a2_0 a2_1 a2_2 a2_3 a2_4 a2_5 l2_6 a2_7) else (tenementlaw08_ItemShards.j0 k a0 a1 a3 a4 t450 a2_0 a2_1 a2_2 a2_3 a2_4 a2_5 l2_6 a2_7)) else (none)) = some r := H
  have A7 := Aside0.mk A70
  clear A70
  by_cases c8 : t450 = true
  rotate_left
  · replace c8 := Bool.eq_false_iff.mpr c8
    subst c8
    have H1 : (none) = some r := by rw [if_neg (show ¬ (false = true) by decide)] at H; exact H
    clear H
    have H := H1
    clear H1
    exact absurd H (by simp)
  subst c8
  have H1 : (if a5 = true then (tenementlaw08_ItemShards.j0 k a0 a1 (Int.tmod a3 6) (Int.tmod a4 6) true a2_0 a2_1 a2_2 a2_3 a2_4 a2_5 l2_6 a2_7) else (tenementlaw08_ItemShards.j0 k a0 a1 a3 a4 true a2_0 a2_1 a2_2 a2_3 a2_4 a2_5 l2_6 a2_7)) = some r := by rw [if_pos rfl] at H; exact H
  clear H
  have H := H1
  clear H1
  have HC9 := Aside0.mk H
  clear H
  go_enter Try.func4, Try.ntmps4
  go_upto_if 21 with (first | ((with_reducible refine gate_dst (N := 8) rfl ?_); refine box_event ?hg (N := 8) ?hd (cs := #[.int .u64 a2_0, .int .u64 a2_1, .int .u64 a2_2, .int .u64 a2_3, .int .i64 a2_4, .bool a2_5, .slice A2_6 l2_6.length c2_6, .bool a2_7]) (t := 35) ?hr ?_; (case hd => rfl); (case hg => rfl); (case hr => first | (go_simp; done) | (go_simp; rfl)); intro gb449 hg w10 hbox hb; have BK449 := Aside0.mk (hbox); have GW449 := Kw_ HB hg; have GE449 := GW449; replace HB := Ks_ HB hb; clear hb hbox hg) | (go_at_call 11; (with_reducible refine (tenementlaw08_examples.calls k  true _ A7.out).mono ?_); rintro e w11 ⟨rfl, hb⟩; replace BK449 := Kb_ BK449 hb; replace HB := Ks_ HB hb; (try clear hb); (try clear hb2); (try clear hk); (try clear hi)))
  repeat (go_quiet (first | ((with_reducible refine gate_dst (N := 8) rfl ?_); refine box_event ?hg (N := 8) ?hd (cs := #[.int .u64 a2_0, .int .u64 a2_1, .int .u64 a2_2, .int .u64 a2_3, .int .i64 a2_4, .bool a2_5, .slice A2_6 l2_6.length c2_6, .bool a2_7]) (t := 35) ?hr ?_; (case hd => rfl); (case hg => rfl); (case hr => first | (go_simp; done) | (go_simp; rfl)); intro gb449 hg w10 hbox hb; have BK449 := Aside0.mk (hbox); have GW449 := Kw_ HB hg; have GE449 := GW449; replace HB := Ks_ HB hb; clear hb hbox hg) | (go_at_call 11; (with_reducible refine (tenementlaw08_examples.calls k  true _ A7.out).mono ?_); rintro e w11 ⟨rfl, hb⟩; replace BK449 := Kb_ BK449 hb; replace HB := Ks_ HB hb; (try clear hb); (try clear hb2); (try clear hk); (try clear hi))); go_upto_if 21 with (first | ((with_reducible refine gate_dst (N := 8) rfl ?_); refine box_event ?hg (N := 8) ?hd (cs := #[.int .u64 a2_0, .int .u64 a2_1, .int .u64 a2_2, .int .u64 a2_3, .int .i64 a2_4, .bool a2_5, .slice A2_6 l2_6.length c2_6, .bool a2_7]) (t := 35) ?hr ?_; (case hd => rfl); (case hg => rfl); (case hr => first | (go_simp; done) | (go_simp; rfl)); intro gb449 hg w10 hbox hb; have BK449 := Aside0.mk (hbox); have GW449 := Kw_ HB hg; have GE449 := GW449; replace HB := Ks_ HB hb; clear hb hbox hg) | (go_at_call 11; (with_reducible refine (tenementlaw08_examples.calls k  true _ A7.out).mono ?_); rintro e w11 ⟨rfl, hb⟩; replace BK449 := Kb_ BK449 hb; replace HB := Ks_ HB hb; (try clear hb); (try clear hb2); (try clear hk); (try clear hi))))
  (try simp only [Act.put, List.setIfInBounds_toArray, List.set_cons_zero, List.set_cons_succ])
  go_cut [3, 4] (fun v3 v4 wc => ∃ (kq : Nat) (x3_8 : Int) (x4_8 : Int), v3 = .int .i64 x3_8 ∧ v4 = .int .i64 x4_8 ∧ Aside0 (tenementlaw08_ItemShards.j0 kq a0 a1 x3_8 x4_8 true a2_0 a2_1 a2_2 a2_3 a2_4 a2_5 l2_6 a2_7 = some r) ∧ Aside0 (kq ≤ k) ∧ Aside0 (wc.heap[gb449]? = some (.cells #[.int .u64 a2_0, .int .u64 a2_1, .int .u64 a2_2, .int .u64 a2_3, .int .i64 a2_4, .bool a2_5, (.slice A2_6 l2_6.length c2_6), .bool a2_7] 35 (0, 0))) ∧ Aside0 (Below w.heap.size w wc))
  case first =>
    have H := HC9.out
    clear HC9
    by_cases c12 : a5 = true
    · subst c12
      have H1 : (tenementlaw08_ItemShards.j0 k a0 a1 (Int.tmod a3 6) (Int.tmod a4 6) true a2_0 a2_1 a2_2 a2_3 a2_4 a2_5 l2_6 a2_7) = some r := by rw [if_pos rfl] at H; exact H
      clear H
      have H := H1
      clear H1
      have H' := Aside0.mk H
      clear H
      go_wp2
      repeat (go_quiet (fail); try go_wp2)
      go_meet
      case rel => exact ⟨_, (Int.tmod a3 6), (Int.tmod a4 6), (by first | rfl | (simp; done) | (simp [*]; done)), (by first | rfl | (simp; done) | (simp [*]; done)), H', ⟨by first | omega | exact Nat.le_refl _⟩, ⟨by (with_reducible repeat (first | refine blk_drewN ?_ _ | refine blk_drew ?_ | refine blk_alloc ?_ _)); exact BK449.out⟩, ⟨Kz_ HB GE449⟩⟩
    replace c12 := Bool.eq_false_iff.mpr c12
    subst c12
    have H1 : (tenementlaw08_ItemShards.j0 k a0 a1 a3 a4 true a2_0 a2_1 a2_2 a2_3 a2_4 a2_5 l2_6 a2_7) = some r := by rw [if_neg (show ¬ (false = true) by decide)] at H; exact H
    clear H
    have H := H1
    clear H1
    have H' := Aside0.mk H
    clear H
    go_wp2
    repeat (go_quiet (fail); try go_wp2)
    go_meet
    case rel => exact ⟨_, (a3), (a4), (by first | rfl | (simp; done) | (simp [*]; done)), (by first | rfl | (simp; done) | (simp [*]; done)), H', ⟨by first | omega | exact Nat.le_refl _⟩, ⟨by (with_reducible repeat (first | refine blk_drewN ?_ _ | refine blk_drew ?_ | refine blk_alloc ?_ _)); exact BK449.out⟩, ⟨Kz_ HB GE449⟩⟩
  case rest =>
    clear HC9
    try clear c1
    try clear c2
    try clear p2
    try clear c4
    try clear c8
    try clear c12
    obtain ⟨kq, x3_8, x4_8, rfl, rfl, HA, HJ8, BK449, HB⟩ := hcut
    cases kq with
    | zero => exact absurd HA.out (by simp [tenementlaw08_ItemShards.j0])
    | succ kj8 =>
      have H := HA.out
      clear HA
      simp only [tenementlaw08_ItemShards.j0] at H
      replace H := Option.bind_eq_some_iff.mp H
      obtain ⟨⟨t451, t452, t453, t454, t455, t456⟩, A130, H⟩ := H
      replace H : ((item_Of.f kj8 t451 t452 t453 t454 t455 t456 x3_8 x4_8).bind fun t460 => ((tenementlaw08_refWrites.f kj8 t460).bind fun t463 => ((tenementlaw08_refTxn.f kj8 t451 t452 t453 t454 t455 t456).bind fun bt466 => ((tenementref08_Of.f kj8 bt466.1 bt466.2.1 bt466.2.2.1 bt466.2.2.2.1 bt466.2.2.2.2.1 bt466.2.2.2.2.2 x3_8 x4_8).bind fun t474 => (if (t463.length : Int) = (t474.length : Int) then (tenementlaw08_ItemShards.l0 kj8 a0 a1 x4_8 true t463 t474 0) else (none)))))) = some r := H
      have A13 := Aside0.mk A130
      clear A130
      replace H := Option.bind_eq_some_iff.mp H
      obtain ⟨t460, A140, H⟩ := H
      replace H : ((tenementlaw08_refWrites.f kj8 t460).bind fun t463 => ((tenementlaw08_refTxn.f kj8 t451 t452 t453 t454 t455 t456).bind fun bt466 => ((tenementref08_Of.f kj8 bt466.1 bt466.2.1 bt466.2.2.1 bt466.2.2.2.1 bt466.2.2.2.2.1 bt466.2.2.2.2.2 x3_8 x4_8).bind fun t474 => (if (t463.length : Int) = (t474.length : Int) then (tenementlaw08_ItemShards.l0 kj8 a0 a1 x4_8 true t463 t474 0) else (none))))) = some r := H
      have A14 := Aside0.mk A140
      clear A140
      replace H := Option.bind_eq_some_iff.mp H
      obtain ⟨t463, A150, H⟩ := H
      replace H : ((tenementlaw08_refTxn.f kj8 t451 t452 t453 t454 t455 t456).bind fun bt466 => ((tenementref08_Of.f kj8 bt466.1 bt466.2.1 bt466.2.2.1 bt466.2.2.2.1 bt466.2.2.2.2.1 bt466.2.2.2.2.2 x3_8 x4_8).bind fun t474 => (if (t463.length : Int) = (t474.length : Int) then (tenementlaw08_ItemShards.l0 kj8 a0 a1 x4_8 true t463 t474 0) else (none)))) = some r := H
      have A15 := Aside0.mk A150
      clear A150
      replace H := Option.bind_eq_some_iff.mp H
      obtain ⟨⟨t466, t467, t468, t469, t470, t471⟩, A160, H⟩ := H
      replace H : ((tenementref08_Of.f kj8 t466 t467 t468 t469 t470 t471 x3_8 x4_8).bind fun t474 => (if (t463.length : Int) = (t474.length : Int) then (tenementlaw08_ItemShards.l0 kj8 a0 a1 x4_8 true t463 t474 0) else (none))) = some r := H
      have A16 := Aside0.mk A160
      clear A160
      replace H := Option.bind_eq_some_iff.mp H
      obtain ⟨t474, A170, H⟩ := H
      replace H : (if (t463.length : Int) = (t474.length : Int) then (tenementlaw08_ItemShards.l0 kj8 a0 a1 x4_8 true t463 t474 0) else (none)) = some r := H
      have A17 := Aside0.mk A170
      clear A170
      by_cases c18 : (t463.length : Int) = (t474.length : Int)
      rotate_left
      · rw [if_neg c18] at H
        exact absurd H (by simp)
      rw [if_pos c18] at H
      have c18b0 : ((t463.length : Int) == (t474.length : Int)) = true := beq_iff_eq.mpr c18
      have c18b1 : ((t463.length : Int) != (t474.length : Int)) = false := bne_eq_false_iff_eq.mpr c18
      have c18b2 : (t463.length == t474.length) = true := by first | simpa using c18 | (simp at c18 ⊢; omega)
      clear c18
      have H' := Aside0.mk H
      clear H
      have hcz19_0 : wc.cell? ⟨gb449, 0, none⟩ = some (.int .u64 a2_0) := (blk_cell BK449.out 0).trans rfl
      have hcz19_1 : wc.cell? ⟨gb449, 1, none⟩ = some (.int .u64 a2_1) := (blk_cell BK449.out 1).trans rfl
      have hcz19_2 : wc.cell? ⟨gb449, 2, none⟩ = some (.int .u64 a2_2) := (blk_cell BK449.out 2).trans rfl
      have hcz19_3 : wc.cell? ⟨gb449, 3, none⟩ = some (.int .u64 a2_3) := (blk_cell BK449.out 3).trans rfl
      have hcz19_4 : wc.cell? ⟨gb449, 4, none⟩ = some (.int .i64 a2_4) := (blk_cell BK449.out 4).trans rfl
      have hcz19_5 : wc.cell? ⟨gb449, 5, none⟩ = some (.bool a2_5) := (blk_cell BK449.out 5).trans rfl
      have hcz19_6 : wc.cell? ⟨gb449, 6, none⟩ = some (.slice A2_6 l2_6.length c2_6) := (blk_cell BK449.out 6).trans rfl
      have hcz19_7 : wc.cell? ⟨gb449, 7, none⟩ = some (.bool a2_7) := (blk_cell BK449.out 7).trans rfl
      have hfz19_0 := blk_frozen BK449.out 0
      have hfz19_1 := blk_frozen BK449.out 1
      have hfz19_2 := blk_frozen BK449.out 2
      have hfz19_3 := blk_frozen BK449.out 3
      have hfz19_4 := blk_frozen BK449.out 4
      have hfz19_5 := blk_frozen BK449.out 5
      have hfz19_6 := blk_frozen BK449.out 6
      have hfz19_7 := blk_frozen BK449.out 7
      go_wp2_with (first | (go_at_call 14; (with_reducible refine (tenementlaw08_Deal_deal.calls kj8 a2_0 a2_1 a2_2 a2_3 a2_4 a2_5 _ _ l2_6 a2_7 t451 t452 t453 t454 t455 t456 _ ?side1 ?side2 A13.out).mono ?_); (case side1 => repeat (first | exact (Kd.C_below HR2_6.out HB.out) | (with_reducible refine Kd.C_alloc ?_ _) | (with_reducible refine Kd.C_drewN ?_ _) | (with_reducible refine Kd.C_drew ?_))); (case side2 => exact HC2_6.out); rintro e w20 ⟨v457, rfl, ho0, hb⟩; have HO458 := Aside0.mk (Kd.R_lower ho0 (below_size (Kz_ HB GE449))); replace BK449 := Kb_ BK449 hb; replace HB := Ks_ HB hb; (try clear hb); (try clear hb2); (try clear hk); (try clear hi); (try clear ho0)) | ((with_reducible refine gate_dst (N := 14) rfl ?_); refine box_event ?hg (N := 14) ?hd (cs := #[.int .u64 0, .int .u64 0, .int .u64 0, .int .u64 0, .int .i64 0, .slice none 0 0]) (t := 43) ?hr ?_; (case hd => rfl); (case hg => rfl); (case hr => first | (go_simp; done) | (go_simp; rfl)); intro gb459 hg w21 hbox hb; have BK459 := Aside0.mk (hbox); have GW459 := Kw_ HB hg; have GE459 := GW459; have NB449_459 := Kl_ BK449 hg; have NB459_449 := Kr_ BK449 hg; replace HO458 := Aside0.mk (Kd.R_below (by (with_reducible repeat (first | apply Kd.R_alloc | apply Kd.R_drewN | apply Kd.R_drew)); exact HO458.out) hb); replace BK449 := Kb_ BK449 hb; replace HB := Ks_ HB hb; clear hb hbox hg; have hnb22 := NB459_449.out; have hnc22 := NB449_459.out; obtain ⟨hcz23_0, hcz23_1, hcz23_2, hcz23_3, hcz23_4, hcz23_5, hfz23_0, hfz23_1, hfz23_2, hfz23_3, hfz23_4, hfz23_5⟩ := Ke6_ BK459.out; obtain ⟨Ao24, co24, eo24⟩ := Kd.R_slice HO458.out; subst eo24) | (go_at_call 26; (with_reducible refine (item_Of.calls kj8 t451 t452 t453 t454 t455 _ _ t456 x3_8 x4_8 t460 _ ?side1 ?side2 A14.out).mono ?_); (case side1 => refine (Kd.R_reads' (e := 23) (base := w.heap.size) (ok := fun k_ => True) (n := t456.length) (c := co24) ?_).2.2; exact (by (with_reducible repeat (first | apply Kd.R_alloc | apply Kd.R_drewN | apply Kd.R_drew)); exact (Kd.R_mono (Kd.R_far (p := ⟨gb459, 5, none⟩) (Kd.R_far (p := ⟨gb459, 4, none⟩) (Kd.R_far (p := ⟨gb459, 3, none⟩) (Kd.R_far (p := ⟨gb459, 2, none⟩) (Kd.R_far (p := ⟨gb459, 1, none⟩) (Kd.R_far (p := ⟨gb459, 0, none⟩) (Kd.R_types HO458.out BK459.out (by decide)) (fun _ hk => hk.2) (.int .u64 t451)) (fun _ hk => hk.2) (.int .u64 t452)) (fun _ hk => hk.2) (.int .u64 t453)) (fun _ hk => hk.2) (.int .u64 t454)) (fun _ hk => hk.2) (.int .i64 t455)) (fun _ hk => hk.2) (.slice Ao24 t456.length co24)) (fun _ h_ => h_.1)))); (case side2 => exact (Kd.R_reads' HO458.out).2.1); rintro e w25 ⟨v461, rfl, ho0, hb⟩; have HO462 := Aside0.mk (Kd.R_lower (Kd.R_new' ho0 (Kd.R_lt (by (with_reducible repeat (first | apply Kd.R_alloc | apply Kd.R_drewN | apply Kd.R_drew)); exact (Kd.R_mono (Kd.R_far (p := ⟨gb459, 5, none⟩) (Kd.R_far (p := ⟨gb459, 4, none⟩) (Kd.R_far (p := ⟨gb459, 3, none⟩) (Kd.R_far (p := ⟨gb459, 2, none⟩) (Kd.R_far (p := ⟨gb459, 1, none⟩) (Kd.R_far (p := ⟨gb459, 0, none⟩) (Kd.R_types HO458.out BK459.out (by decide)) (fun _ hk => hk.2) (.int .u64 t451)) (fun _ hk => hk.2) (.int .u64 t452)) (fun _ hk => hk.2) (.int .u64 t453)) (fun _ hk => hk.2) (.int .u64 t454)) (fun _ hk => hk.2) (.int .i64 t455)) (fun _ hk => hk.2) (.slice Ao24 t456.length co24)) (fun _ h_ => h_.1))))) (below_size (by repeat (first | (with_reducible first | exact HB.out | apply below_alloc | apply pw_below_drewN | apply below_drew1 | refine below_set ?_ GE449.out | refine below_set ?_ GE459.out) | exact HB.out)))); replace HO458 := Aside0.mk (Kd.R_elder' (by (with_reducible repeat (first | apply Kd.R_alloc | apply Kd.R_drewN | apply Kd.R_drew)); exact (Kd.R_mono (Kd.R_far (p := ⟨gb459, 5, none⟩) (Kd.R_far (p := ⟨gb459, 4, none⟩) (Kd.R_far (p := ⟨gb459, 3, none⟩) (Kd.R_far (p := ⟨gb459, 2, none⟩) (Kd.R_far (p := ⟨gb459, 1, none⟩) (Kd.R_far (p := ⟨gb459, 0, none⟩) (Kd.R_types HO458.out BK459.out (by decide)) (fun _ hk => hk.2) (.int .u64 t451)) (fun _ hk => hk.2) (.int .u64 t452)) (fun _ hk => hk.2) (.int .u64 t453)) (fun _ hk => hk.2) (.int .u64 t454)) (fun _ hk => hk.2) (.int .i64 t455)) (fun _ hk => hk.2) (.slice Ao24 t456.length co24)) (fun _ h_ => h_.1))) (Kd.R_base ho0) hb); replace BK449 := Kf_ BK449 NB449_459 hb; replace BK459 := Aside0.mk (blk_below (g := gb459) (o := .cells #[.int .u64 t451, .int .u64 t452, .int .u64 t453, .int .u64 t454, .int .i64 t455, .slice Ao24 t456.length co24] 43 (0, 0)) (by (with_reducible repeat (first | refine blk_drewN ?_ _ | refine blk_drew ?_ | refine blk_alloc ?_ _)); refine blk_put (cs := #[.int .u64 t451, .int .u64 t452, .int .u64 t453, .int .u64 t454, .int .i64 t455, .slice none 0 0]) ?_ 5 _ rfl; (with_reducible repeat (first | refine blk_drewN ?_ _ | refine blk_drew ?_ | refine blk_alloc ?_ _)); refine blk_put (cs := #[.int .u64 t451, .int .u64 t452, .int .u64 t453, .int .u64 t454, .int .i64 0, .slice none 0 0]) ?_ 4 _ rfl; (with_reducible repeat (first | refine blk_drewN ?_ _ | refine blk_drew ?_ | refine blk_alloc ?_ _)); refine blk_put (cs := #[.int .u64 t451, .int .u64 t452, .int .u64 t453, .int .u64 0, .int .i64 0, .slice none 0 0]) ?_ 3 _ rfl; (with_reducible repeat (first | refine blk_drewN ?_ _ | refine blk_drew ?_ | refine blk_alloc ?_ _)); refine blk_put (cs := #[.int .u64 t451, .int .u64 t452, .int .u64 0, .int .u64 0, .int .i64 0, .slice none 0 0]) ?_ 2 _ rfl; (with_reducible repeat (first | refine blk_drewN ?_ _ | refine blk_drew ?_ | refine blk_alloc ?_ _)); refine blk_put (cs := #[.int .u64 t451, .int .u64 0, .int .u64 0, .int .u64 0, .int .i64 0, .slice none 0 0]) ?_ 1 _ rfl; (with_reducible repeat (first | refine blk_drewN ?_ _ | refine blk_drew ?_ | refine blk_alloc ?_ _)); refine blk_put (cs := #[.int .u64 0, .int .u64 0, .int .u64 0, .int .u64 0, .int .i64 0, .slice none 0 0]) ?_ 0 _ rfl; (with_reducible repeat (first | refine blk_drewN ?_ _ | refine blk_drew ?_ | refine blk_alloc ?_ _)); exact BK459.out) hb); replace HB := Kt_ HB GE459 hb; (try clear hb); (try clear hb2); (try clear hk); (try clear hi); (try clear ho0); obtain ⟨Ao26, co26, eo26⟩ := Kd.R_slice HO462.out; subst eo26) | (go_at_call 13; (with_reducible refine (tenementlaw08_refWrites.calls kj8 _ _ t460 t463 _ ?side1 ?side2 A15.out).mono ?_); (case side1 => repeat (first | exact (Kd.R_reads' HO462.out).2.2 | (with_reducible refine Kd.C_alloc ?_ _) | (with_reducible refine Kd.C_drewN ?_ _) | (with_reducible refine Kd.C_drew ?_))); (case side2 => exact (Kd.R_reads' HO462.out).2.1); rintro e w27 ⟨v464, rfl, ho0, hb⟩; have HO465 := Aside0.mk (Kd.R_lower ho0 (below_size (by repeat (first | (with_reducible first | exact HB.out | apply below_alloc | apply pw_below_drewN | apply below_drew1 | refine below_set ?_ GE449.out | refine below_set ?_ GE459.out) | exact HB.out)))); replace HO458 := Aside0.mk (Kd.R_below (by (with_reducible repeat (first | apply Kd.R_alloc | apply Kd.R_drewN | apply Kd.R_drew)); exact HO458.out) hb); replace HO462 := Aside0.mk (Kd.R_below (by (with_reducible repeat (first | apply Kd.R_alloc | apply Kd.R_drewN | apply Kd.R_drew)); exact HO462.out) hb); replace BK449 := Kb_ BK449 hb; replace BK459 := Kb_ BK459 hb; replace HB := Ks_ HB hb; (try clear hb); (try clear hb2); (try clear hk); (try clear hi); (try clear ho0); obtain ⟨hcz28_0, hcz28_1, hcz28_2, hcz28_3, hcz28_4, hcz28_5, hfz28_0, hfz28_1, hfz28_2, hfz28_3, hfz28_4, hfz28_5⟩ := Ke6_ BK459.out) | (go_at_call 17; (with_reducible refine (tenementlaw08_refTxn.calls kj8 t451 t452 t453 t454 t455 _ _ t456 t466 t467 t468 t469 t470 t471 _ ?side1 ?side2 A16.out).mono ?_); (case side1 => repeat (first | exact (Kd.R_reads' HO458.out).2.2 | (with_reducible refine Kd.C_alloc ?_ _) | (with_reducible refine Kd.C_drewN ?_ _) | (with_reducible refine Kd.C_drew ?_))); (case side2 => exact (Kd.R_reads' HO458.out).2.1); rintro e w29 ⟨v472, rfl, ho0, hb⟩; have HO473 := Aside0.mk (Kd.R_lower (Kd.R_new' ho0 (Kd.R_lt (by (with_reducible repeat (first | apply Kd.R_alloc | apply Kd.R_drewN | apply Kd.R_drew)); exact HO465.out))) (below_size (by repeat (first | (with_reducible first | exact HB.out | apply below_alloc | apply pw_below_drewN | apply below_drew1 | refine below_set ?_ GE449.out | refine below_set ?_ GE459.out) | exact HB.out)))); replace HO458 := Aside0.mk (Kd.R_below (by (with_reducible repeat (first | apply Kd.R_alloc | apply Kd.R_drewN | apply Kd.R_drew)); exact HO458.out) hb); replace HO462 := Aside0.mk (Kd.R_below (by (with_reducible repeat (first | apply Kd.R_alloc | apply Kd.R_drewN | apply Kd.R_drew)); exact HO462.out) hb); replace HO465 := Aside0.mk (Kd.R_elder' (by (with_reducible repeat (first | apply Kd.R_alloc | apply Kd.R_drewN | apply Kd.R_drew)); exact HO465.out) (Kd.R_base ho0) hb); replace BK449 := Kb_ BK449 hb; replace BK459 := Kb_ BK459 hb; replace HB := Ks_ HB hb; (try clear hb); (try clear hb2); (try clear hk); (try clear hi); (try clear ho0); obtain ⟨Ao30, co30, eo30⟩ := Kd.R_slice HO473.out; subst eo30) | (go_at_call 27; (with_reducible refine (tenementref08_Of.calls kj8 t466 t467 t468 t469 t470 _ _ t471 x3_8 x4_8 t474 _ ?side1 ?side2 A17.out).mono ?_); (case side1 => repeat (first | exact (Kd.R_reads' HO473.out).2.2 | (with_reducible refine Kd.C_alloc ?_ _) | (with_reducible refine Kd.C_drewN ?_ _) | (with_reducible refine Kd.C_drew ?_))); (case side2 => exact (Kd.R_reads' HO473.out).2.1); rintro e w31 ⟨v475, rfl, ho0, hb⟩; have HO476 := Aside0.mk (Kd.R_lower (Kd.R_new' (Kd.R_new' ho0 (Kd.R_lt (by (with_reducible repeat (first | apply Kd.R_alloc | apply Kd.R_drewN | apply Kd.R_drew)); exact HO465.out))) (Kd.R_lt (by (with_reducible repeat (first | apply Kd.R_alloc | apply Kd.R_drewN | apply Kd.R_drew)); exact HO473.out))) (below_size (by repeat (first | (with_reducible first | exact HB.out | apply below_alloc | apply pw_below_drewN | apply below_drew1 | refine below_set ?_ GE449.out | refine below_set ?_ GE459.out) | exact HB.out)))); replace HO458 := Aside0.mk (Kd.R_below (by (with_reducible repeat (first | apply Kd.R_alloc | apply Kd.R_drewN | apply Kd.R_drew)); exact HO458.out) hb); replace HO462 := Aside0.mk (Kd.R_below (by (with_reducible repeat (first | apply Kd.R_alloc | apply Kd.R_drewN | apply Kd.R_drew)); exact HO462.out) hb); replace HO465 := Aside0.mk (Kd.R_elder' (by (with_reducible repeat (first | apply Kd.R_alloc | apply Kd.R_drewN | apply Kd.R_drew)); exact HO465.out) (Kd.R_base ho0) hb); replace HO473 := Aside0.mk (Kd.R_elder' (by (with_reducible repeat (first | apply Kd.R_alloc | apply Kd.R_drewN | apply Kd.R_drew)); exact HO473.out) (Kd.R_base ho0) hb); replace BK449 := Kb_ BK449 hb; replace BK459 := Kb_ BK459 hb; replace HB := Ks_ HB hb; (try clear hb); (try clear hb2); (try clear hk); (try clear hi); (try clear ho0); obtain ⟨Ao32, co32, eo32⟩ := Kd.R_slice HO465.out; subst eo32; obtain ⟨Ao33, co33, eo33⟩ := Kd.R_slice HO476.out; subst eo33))
      repeat (go_quiet (first | (go_at_call 14; (with_reducible refine (tenementlaw08_Deal_deal.calls kj8 a2_0 a2_1 a2_2 a2_3 a2_4 a2_5 _ _ l2_6 a2_7 t451 t452 t453 t454 t455 t456 _ ?side1 ?side2 A13.out).mono ?_); (case side1 => repeat (first | exact (Kd.C_below HR2_6.out HB.out) | (with_reducible refine Kd.C_alloc ?_ _) | (with_reducible refine Kd.C_drewN ?_ _) | (with_reducible refine Kd.C_drew ?_))); (case side2 => exact HC2_6.out); rintro e w20 ⟨v457, rfl, ho0, hb⟩; have HO458 := Aside0.mk (Kd.R_lower ho0 (below_size (Kz_ HB GE449))); replace BK449 := Kb_ BK449 hb; replace HB := Ks_ HB hb; (try clear hb); (try clear hb2); (try clear hk); (try clear hi); (try clear ho0)) | ((with_reducible refine gate_dst (N := 14) rfl ?_); refine box_event ?hg (N := 14) ?hd (cs := #[.int .u64 0, .int .u64 0, .int .u64 0, .int .u64 0, .int .i64 0, .slice none 0 0]) (t := 43) ?hr ?_; (case hd => rfl); (case hg => rfl); (case hr => first | (go_simp; done) | (go_simp; rfl)); intro gb459 hg w21 hbox hb; have BK459 := Aside0.mk (hbox); have GW459 := Kw_ HB hg; have GE459 := GW459; have NB449_459 := Kl_ BK449 hg; have NB459_449 := Kr_ BK449 hg; replace HO458 := Aside0.mk (Kd.R_below (by (with_reducible repeat (first | apply Kd.R_alloc | apply Kd.R_drewN | apply Kd.R_drew)); exact HO458.out) hb); replace BK449 := Kb_ BK449 hb; replace HB := Ks_ HB hb; clear hb hbox hg; have hnb22 := NB459_449.out; have hnc22 := NB449_459.out; obtain ⟨hcz23_0, hcz23_1, hcz23_2, hcz23_3, hcz23_4, hcz23_5, hfz23_0, hfz23_1, hfz23_2, hfz23_3, hfz23_4, hfz23_5⟩ := Ke6_ BK459.out; obtain ⟨Ao24, co24, eo24⟩ := Kd.R_slice HO458.out; subst eo24) | (go_at_call 26; (with_reducible refine (item_Of.calls kj8 t451 t452 t453 t454 t455 _ _ t456 x3_8 x4_8 t460 _ ?side1 ?side2 A14.out).mono ?_); (case side1 => refine (Kd.R_reads' (e := 23) (base := w.heap.size) (ok := fun k_ => True) (n := t456.length) (c := co24) ?_).2.2; exact (by (with_reducible repeat (first | apply Kd.R_alloc | apply Kd.R_drewN | apply Kd.R_drew)); exact (Kd.R_mono (Kd.R_far (p := ⟨gb459, 5, none⟩) (Kd.R_far (p := ⟨gb459, 4, none⟩) (Kd.R_far (p := ⟨gb459, 3, none⟩) (Kd.R_far (p := ⟨gb459, 2, none⟩) (Kd.R_far (p := ⟨gb459, 1, none⟩) (Kd.R_far (p := ⟨gb459, 0, none⟩) (Kd.R_types HO458.out BK459.out (by decide)) (fun _ hk => hk.2) (.int .u64 t451)) (fun _ hk => hk.2) (.int .u64 t452)) (fun _ hk => hk.2) (.int .u64 t453)) (fun _ hk => hk.2) (.int .u64 t454)) (fun _ hk => hk.2) (.int .i64 t455)) (fun _ hk => hk.2) (.slice Ao24 t456.length co24)) (fun _ h_ => h_.1)))); (case side2 => exact (Kd.R_reads' HO458.out).2.1); rintro e w25 ⟨v461, rfl, ho0, hb⟩; have HO462 := Aside0.mk (Kd.R_lower (Kd.R_new' ho0 (Kd.R_lt (by (with_reducible repeat (first | apply Kd.R_alloc | apply Kd.R_drewN | apply Kd.R_drew)); exact (Kd.R_mono (Kd.R_far (p := ⟨gb459, 5, none⟩) (Kd.R_far (p := ⟨gb459, 4, none⟩) (Kd.R_far (p := ⟨gb459, 3, none⟩) (Kd.R_far (p := ⟨gb459, 2, none⟩) (Kd.R_far (p := ⟨gb459, 1, none⟩) (Kd.R_far (p := ⟨gb459, 0, none⟩) (Kd.R_types HO458.out BK459.out (by decide)) (fun _ hk => hk.2) (.int .u64 t451)) (fun _ hk => hk.2) (.int .u64 t452)) (fun _ hk => hk.2) (.int .u64 t453)) (fun _ hk => hk.2) (.int .u64 t454)) (fun _ hk => hk.2) (.int .i64 t455)) (fun _ hk => hk.2) (.slice Ao24 t456.length co24)) (fun _ h_ => h_.1))))) (below_size (by repeat (first | (with_reducible first | exact HB.out | apply below_alloc | apply pw_below_drewN | apply below_drew1 | refine below_set ?_ GE449.out | refine below_set ?_ GE459.out) | exact HB.out)))); replace HO458 := Aside0.mk (Kd.R_elder' (by (with_reducible repeat (first | apply Kd.R_alloc | apply Kd.R_drewN | apply Kd.R_drew)); exact (Kd.R_mono (Kd.R_far (p := ⟨gb459, 5, none⟩) (Kd.R_far (p := ⟨gb459, 4, none⟩) (Kd.R_far (p := ⟨gb459, 3, none⟩) (Kd.R_far (p := ⟨gb459, 2, none⟩) (Kd.R_far (p := ⟨gb459, 1, none⟩) (Kd.R_far (p := ⟨gb459, 0, none⟩) (Kd.R_types HO458.out BK459.out (by decide)) (fun _ hk => hk.2) (.int .u64 t451)) (fun _ hk => hk.2) (.int .u64 t452)) (fun _ hk => hk.2) (.int .u64 t453)) (fun _ hk => hk.2) (.int .u64 t454)) (fun _ hk => hk.2) (.int .i64 t455)) (fun _ hk => hk.2) (.slice Ao24 t456.length co24)) (fun _ h_ => h_.1))) (Kd.R_base ho0) hb); replace BK449 := Kf_ BK449 NB449_459 hb; replace BK459 := Aside0.mk (blk_below (g := gb459) (o := .cells #[.int .u64 t451, .int .u64 t452, .int .u64 t453, .int .u64 t454, .int .i64 t455, .slice Ao24 t456.length co24] 43 (0, 0)) (by (with_reducible repeat (first | refine blk_drewN ?_ _ | refine blk_drew ?_ | refine blk_alloc ?_ _)); refine blk_put (cs := #[.int .u64 t451, .int .u64 t452, .int .u64 t453, .int .u64 t454, .int .i64 t455, .slice none 0 0]) ?_ 5 _ rfl; (with_reducible repeat (first | refine blk_drewN ?_ _ | refine blk_drew ?_ | refine blk_alloc ?_ _)); refine blk_put (cs := #[.int .u64 t451, .int .u64 t452, .int .u64 t453, .int .u64 t454, .int .i64 0, .slice none 0 0]) ?_ 4 _ rfl; (with_reducible repeat (first | refine blk_drewN ?_ _ | refine blk_drew ?_ | refine blk_alloc ?_ _)); refine blk_put (cs := #[.int .u64 t451, .int .u64 t452, .int .u64 t453, .int .u64 0, .int .i64 0, .slice none 0 0]) ?_ 3 _ rfl; (with_reducible repeat (first | refine blk_drewN ?_ _ | refine blk_drew ?_ | refine blk_alloc ?_ _)); refine blk_put (cs := #[.int .u64 t451, .int .u64 t452, .int .u64 0, .int .u64 0, .int .i64 0, .slice none 0 0]) ?_ 2 _ rfl; (with_reducible repeat (first | refine blk_drewN ?_ _ | refine blk_drew ?_ | refine blk_alloc ?_ _)); refine blk_put (cs := #[.int .u64 t451, .int .u64 0, .int .u64 0, .int .u64 0, .int .i64 0, .slice none 0 0]) ?_ 1 _ rfl; (with_reducible repeat (first | refine blk_drewN ?_ _ | refine blk_drew ?_ | refine blk_alloc ?_ _)); refine blk_put (cs := #[.int .u64 0, .int .u64 0, .int .u64 0, .int .u64 0, .int .i64 0, .slice none 0 0]) ?_ 0 _ rfl; (with_reducible repeat (first | refine blk_drewN ?_ _ | refine blk_drew ?_ | refine blk_alloc ?_ _)); exact BK459.out) hb); replace HB := Kt_ HB GE459 hb; (try clear hb); (try clear hb2); (try clear hk); (try clear hi); (try clear ho0); obtain ⟨Ao26, co26, eo26⟩ := Kd.R_slice HO462.out; subst eo26) | (go_at_call 13; (with_reducible refine (tenementlaw08_refWrites.calls kj8 _ _ t460 t463 _ ?side1 ?side2 A15.out).mono ?_); (case side1 => repeat (first | exact (Kd.R_reads' HO462.out).2.2 | (with_reducible refine Kd.C_alloc ?_ _) | (with_reducible refine Kd.C_drewN ?_ _) | (with_reducible refine Kd.C_drew ?_))); (case side2 => exact (Kd.R_reads' HO462.out).2.1); rintro e w27 ⟨v464, rfl, ho0, hb⟩; have HO465 := Aside0.mk (Kd.R_lower ho0 (below_size (by repeat (first | (with_reducible first | exact HB.out | apply below_alloc | apply pw_below_drewN | apply below_drew1 | refine below_set ?_ GE449.out | refine below_set ?_ GE459.out) | exact HB.out)))); replace HO458 := Aside0.mk (Kd.R_below (by (with_reducible repeat (first | apply Kd.R_alloc | apply Kd.R_drewN | apply Kd.R_drew)); exact HO458.out) hb); replace HO462 := Aside0.mk (Kd.R_below (by (with_reducible repeat (first | apply Kd.R_alloc | apply Kd.R_drewN | apply Kd.R_drew)); exact HO462.out) hb); replace BK449 := Kb_ BK449 hb; replace BK459 := Kb_ BK459 hb; replace HB := Ks_ HB hb; (try clear hb); (try clear hb2); (try clear hk); (try clear hi); (try clear ho0); obtain ⟨hcz28_0, hcz28_1, hcz28_2, hcz28_3, hcz28_4, hcz28_5, hfz28_0, hfz28_1, hfz28_2, hfz28_3, hfz28_4, hfz28_5⟩ := Ke6_ BK459.out) | (go_at_call 17; (with_reducible refine (tenementlaw08_refTxn.calls kj8 t451 t452 t453 t454 t455 _ _ t456 t466 t467 t468 t469 t470 t471 _ ?side1 ?side2 A16.out).mono ?_); (case side1 => repeat (first | exact (Kd.R_reads' HO458.out).2.2 | (with_reducible refine Kd.C_alloc ?_ _) | (with_reducible refine Kd.C_drewN ?_ _) | (with_reducible refine Kd.C_drew ?_))); (case side2 => exact (Kd.R_reads' HO458.out).2.1); rintro e w29 ⟨v472, rfl, ho0, hb⟩; have HO473 := Aside0.mk (Kd.R_lower (Kd.R_new' ho0 (Kd.R_lt (by (with_reducible repeat (first | apply Kd.R_alloc | apply Kd.R_drewN | apply Kd.R_drew)); exact HO465.out))) (below_size (by repeat (first | (with_reducible first | exact HB.out | apply below_alloc | apply pw_below_drewN | apply below_drew1 | refine below_set ?_ GE449.out | refine below_set ?_ GE459.out) | exact HB.out)))); replace HO458 := Aside0.mk (Kd.R_below (by (with_reducible repeat (first | apply Kd.R_alloc | apply Kd.R_drewN | apply Kd.R_drew)); exact HO458.out) hb); replace HO462 := Aside0.mk (Kd.R_below (by (with_reducible repeat (first | apply Kd.R_alloc | apply Kd.R_drewN | apply Kd.R_drew)); exact HO462.out) hb); replace HO465 := Aside0.mk (Kd.R_elder' (by (with_reducible repeat (first | apply Kd.R_alloc | apply Kd.R_drewN | apply Kd.R_drew)); exact HO465.out) (Kd.R_base ho0) hb); replace BK449 := Kb_ BK449 hb; replace BK459 := Kb_ BK459 hb; replace HB := Ks_ HB hb; (try clear hb); (try clear hb2); (try clear hk); (try clear hi); (try clear ho0); obtain ⟨Ao30, co30, eo30⟩ := Kd.R_slice HO473.out; subst eo30) | (go_at_call 27; (with_reducible refine (tenementref08_Of.calls kj8 t466 t467 t468 t469 t470 _ _ t471 x3_8 x4_8 t474 _ ?side1 ?side2 A17.out).mono ?_); (case side1 => repeat (first | exact (Kd.R_reads' HO473.out).2.2 | (with_reducible refine Kd.C_alloc ?_ _) | (with_reducible refine Kd.C_drewN ?_ _) | (with_reducible refine Kd.C_drew ?_))); (case side2 => exact (Kd.R_reads' HO473.out).2.1); rintro e w31 ⟨v475, rfl, ho0, hb⟩; have HO476 := Aside0.mk (Kd.R_lower (Kd.R_new' (Kd.R_new' ho0 (Kd.R_lt (by (with_reducible repeat (first | apply Kd.R_alloc | apply Kd.R_drewN | apply Kd.R_drew)); exact HO465.out))) (Kd.R_lt (by (with_reducible repeat (first | apply Kd.R_alloc | apply Kd.R_drewN | apply Kd.R_drew)); exact HO473.out))) (below_size (by repeat (first | (with_reducible first | exact HB.out | apply below_alloc | apply pw_below_drewN | apply below_drew1 | refine below_set ?_ GE449.out | refine below_set ?_ GE459.out) | exact HB.out)))); replace HO458 := Aside0.mk (Kd.R_below (by (with_reducible repeat (first | apply Kd.R_alloc | apply Kd.R_drewN | apply Kd.R_drew)); exact HO458.out) hb); replace HO462 := Aside0.mk (Kd.R_below (by (with_reducible repeat (first | apply Kd.R_alloc | apply Kd.R_drewN | apply Kd.R_drew)); exact HO462.out) hb); replace HO465 := Aside0.mk (Kd.R_elder' (by (with_reducible repeat (first | apply Kd.R_alloc | apply Kd.R_drewN | apply Kd.R_drew)); exact HO465.out) (Kd.R_base ho0) hb); replace HO473 := Aside0.mk (Kd.R_elder' (by (with_reducible repeat (first | apply Kd.R_alloc | apply Kd.R_drewN | apply Kd.R_drew)); exact HO473.out) (Kd.R_base ho0) hb); replace BK449 := Kb_ BK449 hb; replace BK459 := Kb_ BK459 hb; replace HB := Ks_ HB hb; (try clear hb); (try clear hb2); (try clear hk); (try clear hi); (try clear ho0); obtain ⟨Ao32, co32, eo32⟩ := Kd.R_slice HO465.out; subst eo32; obtain ⟨Ao33, co33, eo33⟩ := Kd.R_slice HO476.out; subst eo33)); try go_wp2_with (first | (go_at_call 14; (with_reducible refine (tenementlaw08_Deal_deal.calls kj8 a2_0 a2_1 a2_2 a2_3 a2_4 a2_5 _ _ l2_6 a2_7 t451 t452 t453 t454 t455 t456 _ ?side1 ?side2 A13.out).mono ?_); (case side1 => repeat (first | exact (Kd.C_below HR2_6.out HB.out) | (with_reducible refine Kd.C_alloc ?_ _) | (with_reducible refine Kd.C_drewN ?_ _) | (with_reducible refine Kd.C_drew ?_))); (case side2 => exact HC2_6.out); rintro e w20 ⟨v457, rfl, ho0, hb⟩; have HO458 := Aside0.mk (Kd.R_lower ho0 (below_size (Kz_ HB GE449))); replace BK449 := Kb_ BK449 hb; replace HB := Ks_ HB hb; (try clear hb); (try clear hb2); (try clear hk); (try clear hi); (try clear ho0)) | ((with_reducible refine gate_dst (N := 14) rfl ?_); refine box_event ?hg (N := 14) ?hd (cs := #[.int .u64 0, .int .u64 0, .int .u64 0, .int .u64 0, .int .i64 0, .slice none 0 0]) (t := 43) ?hr ?_; (case hd => rfl); (case hg => rfl); (case hr => first | (go_simp; done) | (go_simp; rfl)); intro gb459 hg w21 hbox hb; have BK459 := Aside0.mk (hbox); have GW459 := Kw_ HB hg; have GE459 := GW459; have NB449_459 := Kl_ BK449 hg; have NB459_449 := Kr_ BK449 hg; replace HO458 := Aside0.mk (Kd.R_below (by (with_reducible repeat (first | apply Kd.R_alloc | apply Kd.R_drewN | apply Kd.R_drew)); exact HO458.out) hb); replace BK449 := Kb_ BK449 hb; replace HB := Ks_ HB hb; clear hb hbox hg; have hnb22 := NB459_449.out; have hnc22 := NB449_459.out; obtain ⟨hcz23_0, hcz23_1, hcz23_2, hcz23_3, hcz23_4, hcz23_5, hfz23_0, hfz23_1, hfz23_2, hfz23_3, hfz23_4, hfz23_5⟩ := Ke6_ BK459.out; obtain ⟨Ao24, co24, eo24⟩ := Kd.R_slice HO458.out; subst eo24) | (go_at_call 26; (with_reducible refine (item_Of.calls kj8 t451 t452 t453 t454 t455 _ _ t456 x3_8 x4_8 t460 _ ?side1 ?side2 A14.out).mono ?_); (case side1 => refine (Kd.R_reads' (e := 23) (base := w.heap.size) (ok := fun k_ => True) (n := t456.length) (c := co24) ?_).2.2; exact (by (with_reducible repeat (first | apply Kd.R_alloc | apply Kd.R_drewN | apply Kd.R_drew)); exact (Kd.R_mono (Kd.R_far (p := ⟨gb459, 5, none⟩) (Kd.R_far (p := ⟨gb459, 4, none⟩) (Kd.R_far (p := ⟨gb459, 3, none⟩) (Kd.R_far (p := ⟨gb459, 2, none⟩) (Kd.R_far (p := ⟨gb459, 1, none⟩) (Kd.R_far (p := ⟨gb459, 0, none⟩) (Kd.R_types HO458.out BK459.out (by decide)) (fun _ hk => hk.2) (.int .u64 t451)) (fun _ hk => hk.2) (.int .u64 t452)) (fun _ hk => hk.2) (.int .u64 t453)) (fun _ hk => hk.2) (.int .u64 t454)) (fun _ hk => hk.2) (.int .i64 t455)) (fun _ hk => hk.2) (.slice Ao24 t456.length co24)) (fun _ h_ => h_.1)))); (case side2 => exact (Kd.R_reads' HO458.out).2.1); rintro e w25 ⟨v461, rfl, ho0, hb⟩; have HO462 := Aside0.mk (Kd.R_lower (Kd.R_new' ho0 (Kd.R_lt (by (with_reducible repeat (first | apply Kd.R_alloc | apply Kd.R_drewN | apply Kd.R_drew)); exact (Kd.R_mono (Kd.R_far (p := ⟨gb459, 5, none⟩) (Kd.R_far (p := ⟨gb459, 4, none⟩) (Kd.R_far (p := ⟨gb459, 3, none⟩) (Kd.R_far (p := ⟨gb459, 2, none⟩) (Kd.R_far (p := ⟨gb459, 1, none⟩) (Kd.R_far (p := ⟨gb459, 0, none⟩) (Kd.R_types HO458.out BK459.out (by decide)) (fun _ hk => hk.2) (.int .u64 t451)) (fun _ hk => hk.2) (.int .u64 t452)) (fun _ hk => hk.2) (.int .u64 t453)) (fun _ hk => hk.2) (.int .u64 t454)) (fun _ hk => hk.2) (.int .i64 t455)) (fun _ hk => hk.2) (.slice Ao24 t456.length co24)) (fun _ h_ => h_.1))))) (below_size (by repeat (first | (with_reducible first | exact HB.out | apply below_alloc | apply pw_below_drewN | apply below_drew1 | refine below_set ?_ GE449.out | refine below_set ?_ GE459.out) | exact HB.out)))); replace HO458 := Aside0.mk (Kd.R_elder' (by (with_reducible repeat (first | apply Kd.R_alloc | apply Kd.R_drewN | apply Kd.R_drew)); exact (Kd.R_mono (Kd.R_far (p := ⟨gb459, 5, none⟩) (Kd.R_far (p := ⟨gb459, 4, none⟩) (Kd.R_far (p := ⟨gb459, 3, none⟩) (Kd.R_far (p := ⟨gb459, 2, none⟩) (Kd.R_far (p := ⟨gb459, 1, none⟩) (Kd.R_far (p := ⟨gb459, 0, none⟩) (Kd.R_types HO458.out BK459.out (by decide)) (fun _ hk => hk.2) (.int .u64 t451)) (fun _ hk => hk.2) (.int .u64 t452)) (fun _ hk => hk.2) (.int .u64 t453)) (fun _ hk => hk.2) (.int .u64 t454)) (fun _ hk => hk.2) (.int .i64 t455)) (fun _ hk => hk.2) (.slice Ao24 t456.length co24)) (fun _ h_ => h_.1))) (Kd.R_base ho0) hb); replace BK449 := Kf_ BK449 NB449_459 hb; replace BK459 := Aside0.mk (blk_below (g := gb459) (o := .cells #[.int .u64 t451, .int .u64 t452, .int .u64 t453, .int .u64 t454, .int .i64 t455, .slice Ao24 t456.length co24] 43 (0, 0)) (by (with_reducible repeat (first | refine blk_drewN ?_ _ | refine blk_drew ?_ | refine blk_alloc ?_ _)); refine blk_put (cs := #[.int .u64 t451, .int .u64 t452, .int .u64 t453, .int .u64 t454, .int .i64 t455, .slice none 0 0]) ?_ 5 _ rfl; (with_reducible repeat (first | refine blk_drewN ?_ _ | refine blk_drew ?_ | refine blk_alloc ?_ _)); refine blk_put (cs := #[.int .u64 t451, .int .u64 t452, .int .u64 t453, .int .u64 t454, .int .i64 0, .slice none 0 0]) ?_ 4 _ rfl; (with_reducible repeat (first | refine blk_drewN ?_ _ | refine blk_drew ?_ | refine blk_alloc ?_ _)); refine blk_put (cs := #[.int .u64 t451, .int .u64 t452, .int .u64 t453, .int .u64 0, .int .i64 0, .slice none 0 0]) ?_ 3 _ rfl; (with_reducible repeat (first | refine blk_drewN ?_ _ | refine blk_drew ?_ | refine blk_alloc ?_ _)); refine blk_put (cs := #[.int .u64 t451, .int .u64 t452, .int .u64 0, .int .u64 0, .int .i64 0, .slice none 0 0]) ?_ 2 _ rfl; (with_reducible repeat (first | refine blk_drewN ?_ _ | refine blk_drew ?_ | refine blk_alloc ?_ _)); refine blk_put (cs := #[.int .u64 t451, .int .u64 0, .int .u64 0, .int .u64 0, .int .i64 0, .slice none 0 0]) ?_ 1 _ rfl; (with_reducible repeat (first | refine blk_drewN ?_ _ | refine blk_drew ?_ | refine blk_alloc ?_ _)); refine blk_put (cs := #[.int .u64 0, .int .u64 0, .int .u64 0, .int .u64 0, .int .i64 0, .slice none 0 0]) ?_ 0 _ rfl; (with_reducible repeat (first | refine blk_drewN ?_ _ | refine blk_drew ?_ | refine blk_alloc ?_ _)); exact BK459.out) hb); replace HB := Kt_ HB GE459 hb; (try clear hb); (try clear hb2); (try clear hk); (try clear hi); (try clear ho0); obtain ⟨Ao26, co26, eo26⟩ := Kd.R_slice HO462.out; subst eo26) | (go_at_call 13; (with_reducible refine (tenementlaw08_refWrites.calls kj8 _ _ t460 t463 _ ?side1 ?side2 A15.out).mono ?_); (case side1 => repeat (first | exact (Kd.R_reads' HO462.out).2.2 | (with_reducible refine Kd.C_alloc ?_ _) | (with_reducible refine Kd.C_drewN ?_ _) | (with_reducible refine Kd.C_drew ?_))); (case side2 => exact (Kd.R_reads' HO462.out).2.1); rintro e w27 ⟨v464, rfl, ho0, hb⟩; have HO465 := Aside0.mk (Kd.R_lower ho0 (below_size (by repeat (first | (with_reducible first | exact HB.out | apply below_alloc | apply pw_below_drewN | apply below_drew1 | refine below_set ?_ GE449.out | refine below_set ?_ GE459.out) | exact HB.out)))); replace HO458 := Aside0.mk (Kd.R_below (by (with_reducible repeat (first | apply Kd.R_alloc | apply Kd.R_drewN | apply Kd.R_drew)); exact HO458.out) hb); replace HO462 := Aside0.mk (Kd.R_below (by (with_reducible repeat (first | apply Kd.R_alloc | apply Kd.R_drewN | apply Kd.R_drew)); exact HO462.out) hb); replace BK449 := Kb_ BK449 hb; replace BK459 := Kb_ BK459 hb; replace HB := Ks_ HB hb; (try clear hb); (try clear hb2); (try clear hk); (try clear hi); (try clear ho0); obtain ⟨hcz28_0, hcz28_1, hcz28_2, hcz28_3, hcz28_4, hcz28_5, hfz28_0, hfz28_1, hfz28_2, hfz28_3, hfz28_4, hfz28_5⟩ := Ke6_ BK459.out) | (go_at_call 17; (with_reducible refine (tenementlaw08_refTxn.calls kj8 t451 t452 t453 t454 t455 _ _ t456 t466 t467 t468 t469 t470 t471 _ ?side1 ?side2 A16.out).mono ?_); (case side1 => repeat (first | exact (Kd.R_reads' HO458.out).2.2 | (with_reducible refine Kd.C_alloc ?_ _) | (with_reducible refine Kd.C_drewN ?_ _) | (with_reducible refine Kd.C_drew ?_))); (case side2 => exact (Kd.R_reads' HO458.out).2.1); rintro e w29 ⟨v472, rfl, ho0, hb⟩; have HO473 := Aside0.mk (Kd.R_lower (Kd.R_new' ho0 (Kd.R_lt (by (with_reducible repeat (first | apply Kd.R_alloc | apply Kd.R_drewN | apply Kd.R_drew)); exact HO465.out))) (below_size (by repeat (first | (with_reducible first | exact HB.out | apply below_alloc | apply pw_below_drewN | apply below_drew1 | refine below_set ?_ GE449.out | refine below_set ?_ GE459.out) | exact HB.out)))); replace HO458 := Aside0.mk (Kd.R_below (by (with_reducible repeat (first | apply Kd.R_alloc | apply Kd.R_drewN | apply Kd.R_drew)); exact HO458.out) hb); replace HO462 := Aside0.mk (Kd.R_below (by (with_reducible repeat (first | apply Kd.R_alloc | apply Kd.R_drewN | apply Kd.R_drew)); exact HO462.out) hb); replace HO465 := Aside0.mk (Kd.R_elder' (by (with_reducible repeat (first | apply Kd.R_alloc | apply Kd.R_drewN | apply Kd.R_drew)); exact HO465.out) (Kd.R_base ho0) hb); replace BK449 := Kb_ BK449 hb; replace BK459 := Kb_ BK459 hb; replace HB := Ks_ HB hb; (try clear hb); (try clear hb2); (try clear hk); (try clear hi); (try clear ho0); obtain ⟨Ao30, co30, eo30⟩ := Kd.R_slice HO473.out; subst eo30) | (go_at_call 27; (with_reducible refine (tenementref08_Of.calls kj8 t466 t467 t468 t469 t470 _ _ t471 x3_8 x4_8 t474 _ ?side1 ?side2 A17.out).mono ?_); (case side1 => repeat (first | exact (Kd.R_reads' HO473.out).2.2 | (with_reducible refine Kd.C_alloc ?_ _) | (with_reducible refine Kd.C_drewN ?_ _) | (with_reducible refine Kd.C_drew ?_))); (case side2 => exact (Kd.R_reads' HO473.out).2.1); rintro e w31 ⟨v475, rfl, ho0, hb⟩; have HO476 := Aside0.mk (Kd.R_lower (Kd.R_new' (Kd.R_new' ho0 (Kd.R_lt (by (with_reducible repeat (first | apply Kd.R_alloc | apply Kd.R_drewN | apply Kd.R_drew)); exact HO465.out))) (Kd.R_lt (by (with_reducible repeat (first | apply Kd.R_alloc | apply Kd.R_drewN | apply Kd.R_drew)); exact HO473.out))) (below_size (by repeat (first | (with_reducible first | exact HB.out | apply below_alloc | apply pw_below_drewN | apply below_drew1 | refine below_set ?_ GE449.out | refine below_set ?_ GE459.out) | exact HB.out)))); replace HO458 := Aside0.mk (Kd.R_below (by (with_reducible repeat (first | apply Kd.R_alloc | apply Kd.R_drewN | apply Kd.R_drew)); exact HO458.out) hb); replace HO462 := Aside0.mk (Kd.R_below (by (with_reducible repeat (first | apply Kd.R_alloc | apply Kd.R_drewN | apply Kd.R_drew)); exact HO462.out) hb); replace HO465 := Aside0.mk (Kd.R_elder' (by (with_reducible repeat (first | apply Kd.R_alloc | apply Kd.R_drewN | apply Kd.R_drew)); exact HO465.out) (Kd.R_base ho0) hb); replace HO473 := Aside0.mk (Kd.R_elder' (by (with_reducible repeat (first | apply Kd.R_alloc | apply Kd.R_drewN | apply Kd.R_drew)); exact HO473.out) (Kd.R_base ho0) hb); replace BK449 := Kb_ BK449 hb; replace BK459 := Kb_ BK459 hb; replace HB := Ks_ HB hb; (try clear hb); (try clear hb2); (try clear hk); (try clear hi); (try clear ho0); obtain ⟨Ao32, co32, eo32⟩ := Kd.R_slice HO465.out; subst eo32; obtain ⟨Ao33, co33, eo33⟩ := Kd.R_slice HO476.out; subst eo33)))
      go_loopg [17] kj8 (fun kq v17 w' => ∃ (x17_2 : Int), v17 = .int .i64 x17_2 ∧ Aside0 (tenementlaw08_ItemShards.l0 kq a0 a1 x4_8 true t463 t474 x17_2 = some r) ∧ Aside0 (kq ≤ kj8) ∧ Aside0 (Kd.R k38 38 w' w.heap.size (fun k_ => some k_ ≠ ((.slice Ao33 t474.length co33) : Value).ownBlock) (.slice Ao32 t463.length co32) t463) ∧ Aside0 (Kd.R k38 38 w' w.heap.size (fun k_ => some k_ ≠ ((.slice Ao32 t463.length co32) : Value).ownBlock) (.slice Ao33 t474.length co33) t474) ∧ Aside0 (Kd.R k23 23 w' w.heap.size (fun _ => True) (.slice Ao24 t456.length co24) t456) ∧ Aside0 (w'.heap[gb449]? = some (.cells #[.int .u64 a2_0, .int .u64 a2_1, .int .u64 a2_2, .int .u64 a2_3, .int .i64 a2_4, .bool a2_5, (.slice A2_6 l2_6.length c2_6), .bool a2_7] 35 (0, 0))) ∧ Aside0 (w'.heap[gb459]? = some (.cells #[.int .u64 t451, .int .u64 t452, .int .u64 t453, .int .u64 t454, .int .i64 t455, (.slice Ao24 t456.length co24)] 43 (0, 0))) ∧ Aside0 (Below w.heap.size w w'))
      case atStart => exact ⟨(0), (by first | rfl | (simp; done) | (simp [*]; done)), H', ⟨Nat.le_refl _⟩, ⟨by (with_reducible repeat (first | apply Kd.R_alloc | apply Kd.R_drewN | apply Kd.R_drew)); exact Kd.R_mono HO465.out (fun _ hk => hk.2)⟩, ⟨by (with_reducible repeat (first | apply Kd.R_alloc | apply Kd.R_drewN | apply Kd.R_drew)); exact Kd.R_mono HO476.out (fun _ hk => hk.1.2)⟩, ⟨by (with_reducible repeat (first | apply Kd.R_alloc | apply Kd.R_drewN | apply Kd.R_drew)); exact Kd.R_mono HO458.out (fun _ hk => trivial)⟩, ⟨by (with_reducible repeat (first | refine blk_drewN ?_ _ | refine blk_drew ?_ | refine blk_alloc ?_ _)); exact BK449.out⟩, ⟨by (with_reducible repeat (first | refine blk_drewN ?_ _ | refine blk_drew ?_ | refine blk_alloc ?_ _)); exact BK459.out⟩, ⟨by repeat (first | (with_reducible first | exact HB.out | apply below_alloc | apply pw_below_drewN | apply below_drew1 | refine below_set ?_ GE449.out | refine below_set ?_ GE459.out) | exact HB.out)⟩⟩
      case round =>
        clear H'
        try clear c1
        try clear c2
        try clear p2
        try clear c4
        try clear c8
        try clear c12
        try clear c18
        try clear c18b0
        try clear c18b1
        try clear c18b2
        try clear c22
        try clear hcz19_0
        try clear hcz19_1
        try clear hcz19_2
        try clear hcz19_3
        try clear hcz19_4
        try clear hcz19_5
        try clear hcz19_6
        try clear hcz19_7
        try clear hcz23_0
        try clear hcz23_1
        try clear hcz23_2
        try clear hcz23_3
        try clear hcz23_4
        try clear hcz23_5
        try clear hcz28_0
        try clear hcz28_1
        try clear hcz28_2
        try clear hcz28_3
        try clear hcz28_4
        try clear hcz28_5
        try clear hfz19_0
        try clear hfz19_1
        try clear hfz19_2
        try clear hfz19_3
        try clear hfz19_4
        try clear hfz19_5
        try clear hfz19_6
        try clear hfz19_7
        try clear hfz23_0
        try clear hfz23_1
        try clear hfz23_2
        try clear hfz23_3
        try clear hfz23_4
        try clear hfz23_5
        try clear hfz28_0
        try clear hfz28_1
        try clear hfz28_2
        try clear hfz28_3
        try clear hfz28_4
        try clear hfz28_5
        try clear p2
        obtain ⟨x17_2, rfl, HA, HK2, HO_15, HO_16, HO_460005, BK449, BK459, HB⟩ := hrel
        cases gk with
        | zero => exact absurd HA.out (by simp [tenementlaw08_ItemShards.l0])
        | succ k2 =>
          have H := HA.out
          clear HA
          simp only [tenementlaw08_ItemShards.l0] at H
          by_cases c34 : x17_2 < (t463.length : Int)
          · rw [if_pos c34] at H
            have c34b0 : decide (x17_2 < (t463.length : Int)) = true := decide_eq_true c34
            clear c34
            by_cases c35 : 0 ≤ x17_2
            rotate_left
            · rw [if_neg c35] at H
              exact absurd H (by simp)
            rw [if_pos c35] at H
            have c35b0 : decide (0 ≤ x17_2) = true := decide_eq_true c35
            clear c35
            by_cases c36 : x17_2 < (t474.length : Int)
            rotate_left
            · rw [if_neg c36] at H
              exact absurd H (by simp)
            rw [if_pos c36] at H
            have c36b0 : decide (x17_2 < (t474.length : Int)) = true := decide_eq_true c36
            clear c36
            by_cases c37 : (!((((rd_T38 t463 x17_2).f0).toList) == (((rd_T38 t474 x17_2).f0).toList)) || (!((((rd_T38 t463 x17_2).f1).toList) == (((rd_T38 t474 x17_2).f1).toList)) || (!((((rd_T38 t463 x17_2).f2).toList) == (((rd_T38 t474 x17_2).f2).toList)) || (!(((rd_T38 t463 x17_2).f3) == ((rd_T38 t474 x17_2).f3)))))) = true
            · rw [if_pos c37] at H
              exact absurd H (by simp)
            rw [if_neg c37] at H
            have c37b0 : (!((((rd_T38 t463 x17_2).f0).toList) == (((rd_T38 t474 x17_2).f0).toList)) || (!((((rd_T38 t463 x17_2).f1).toList) == (((rd_T38 t474 x17_2).f1).toList)) || (!((((rd_T38 t463 x17_2).f2).toList) == (((rd_T38 t474 x17_2).f2).toList)) || (!(((rd_T38 t463 x17_2).f3) == ((rd_T38 t474 x17_2).f3)))))) = false := by simpa using c37
            clear c37
            have H' := Aside0.mk H
            clear H
            have p477 : 0 ≤ (x17_2 : Int) := of_decide_eq_true (by first | (with_reducible assumption) | assumption)
            have q477 : x17_2 < (t463.length : Int) := of_decide_eq_true (by first | (with_reducible assumption) | assumption)
            obtain ⟨ad477, e477, hx477_0, hx477_1, hx477_2, hx477_3⟩ := at_T38 (Kd.R_reads' HO_15.out).2.2 x17_2 p477 q477
            cases e477
            replace p477 := eq_true p477
            replace q477 := eq_true q477
            have p478 : 0 ≤ (x17_2 : Int) := of_decide_eq_true (by first | (with_reducible assumption) | assumption)
            have q478 : x17_2 < (t474.length : Int) := of_decide_eq_true (by first | (with_reducible assumption) | assumption)
            obtain ⟨ad478, e478, hx478_0, hx478_1, hx478_2, hx478_3⟩ := at_T38 (Kd.R_reads' HO_16.out).2.2 x17_2 p478 q478
            cases e478
            replace p478 := eq_true p478
            replace q478 := eq_true q478
            go_wp2
            repeat (go_quiet (fail); try go_wp2)
            go_roundg k2
            case measure => have := HJ8.out; have := HK2.out; omega
            case rel => exact ⟨(wrap64 (x17_2 + 1)), (by first | rfl | (simp; done) | (simp [*]; done)), H', ⟨by have := HJ8.out; have := HK2.out; omega⟩, ⟨by (with_reducible repeat (first | apply Kd.R_alloc | apply Kd.R_drewN | apply Kd.R_drew)); exact HO_15.out⟩, ⟨by (with_reducible repeat (first | apply Kd.R_alloc | apply Kd.R_drewN | apply Kd.R_drew)); exact HO_16.out⟩, ⟨by (with_reducible repeat (first | apply Kd.R_alloc | apply Kd.R_drewN | apply Kd.R_drew)); exact HO_460005.out⟩, ⟨by (with_reducible repeat (first | refine blk_drewN ?_ _ | refine blk_drew ?_ | refine blk_alloc ?_ _)); exact BK449.out⟩, ⟨by (with_reducible repeat (first | refine blk_drewN ?_ _ | refine blk_drew ?_ | refine blk_alloc ?_ _)); exact BK459.out⟩, ⟨by repeat (first | (with_reducible first | exact HB.out | apply below_alloc | apply pw_below_drewN | apply below_drew1 | refine below_set ?_ GE449.out | refine below_set ?_ GE459.out) | exact HB.out)⟩⟩
          rw [if_neg c34] at H
          have c34b0 : decide (x17_2 < (t463.length : Int)) = false := decide_eq_false c34
          clear c34
          replace H : ((item_Shard.f k2 a0 a1 x4_8).bind fun t479 => ((tenementref08_Shard.f k2 a0 a1 x4_8).bind fun t480 => (if t479 = t480 then (some true) else (none)))) = some r := by first | (rw [if_pos rfl] at H; exact H) | (rw [if_pos trivial] at H; exact H)
          replace H := Option.bind_eq_some_iff.mp H
          obtain ⟨t479, A380, H⟩ := H
          replace H : ((tenementref08_Shard.f k2 a0 a1 x4_8).bind fun t480 => (if t479 = t480 then (some true) else (none))) = some r := H
          have A38 := Aside0.mk A380
          clear A380
          replace H := Option.bind_eq_some_iff.mp H
          obtain ⟨t480, A390, H⟩ := H
          replace H : (if t479 = t480 then (some true) else (none)) = some r := H
          have A39 := Aside0.mk A390
          clear A390
          by_cases c40 : t479 = t480
          rotate_left
          · rw [if_neg c40] at H
            exact absurd H (by simp)
          rw [if_pos c40] at H
          have c40b0 : (t479 == t480) = true := beq_iff_eq.mpr c40
          have c40b1 : (t479 != t480) = false := bne_eq_false_iff_eq.mpr c40
          clear c40
          obtain rfl := Option.some.inj H
          go_wp2_with (first | (go_at_call 28; (with_reducible refine (item_Shard.calls k2 a0 a1 x4_8 t479 _ A38.out).mono ?_); rintro e w41 ⟨rfl, hb⟩; replace HO_15 := Aside0.mk (Kd.R_below (by (with_reducible repeat (first | apply Kd.R_alloc | apply Kd.R_drewN | apply Kd.R_drew)); exact HO_15.out) hb); replace HO_16 := Aside0.mk (Kd.R_below (by (with_reducible repeat (first | apply Kd.R_alloc | apply Kd.R_drewN | apply Kd.R_drew)); exact HO_16.out) hb); replace HO_460005 := Aside0.mk (Kd.R_below (by (with_reducible repeat (first | apply Kd.R_alloc | apply Kd.R_drewN | apply Kd.R_drew)); exact HO_460005.out) hb); replace BK449 := Kb_ BK449 hb; replace BK459 := Kb_ BK459 hb; replace HB := Ks_ HB hb; (try clear hb); (try clear hb2); (try clear hk); (try clear hi)) | (go_at_call 29; (with_reducible refine (tenementref08_Shard.calls k2 a0 a1 x4_8 t480 _ A39.out).mono ?_); rintro e w42 ⟨rfl, hb⟩; replace HO_15 := Aside0.mk (Kd.R_below (by (with_reducible repeat (first | apply Kd.R_alloc | apply Kd.R_drewN | apply Kd.R_drew)); exact HO_15.out) hb); replace HO_16 := Aside0.mk (Kd.R_below (by (with_reducible repeat (first | apply Kd.R_alloc | apply Kd.R_drewN | apply Kd.R_drew)); exact HO_16.out) hb); replace HO_460005 := Aside0.mk (Kd.R_below (by (with_reducible repeat (first | apply Kd.R_alloc | apply Kd.R_drewN | apply Kd.R_drew)); exact HO_460005.out) hb); replace BK449 := Kb_ BK449 hb; replace BK459 := Kb_ BK459 hb; replace HB := Ks_ HB hb; (try clear hb); (try clear hb2); (try clear hk); (try clear hi)))
          repeat (go_quiet (first | (go_at_call 28; (with_reducible refine (item_Shard.calls k2 a0 a1 x4_8 t479 _ A38.out).mono ?_); rintro e w41 ⟨rfl, hb⟩; replace HO_15 := Aside0.mk (Kd.R_below (by (with_reducible repeat (first | apply Kd.R_alloc | apply Kd.R_drewN | apply Kd.R_drew)); exact HO_15.out) hb); replace HO_16 := Aside0.mk (Kd.R_below (by (with_reducible repeat (first | apply Kd.R_alloc | apply Kd.R_drewN | apply Kd.R_drew)); exact HO_16.out) hb); replace HO_460005 := Aside0.mk (Kd.R_below (by (with_reducible repeat (first | apply Kd.R_alloc | apply Kd.R_drewN | apply Kd.R_drew)); exact HO_460005.out) hb); replace BK449 := Kb_ BK449 hb; replace BK459 := Kb_ BK459 hb; replace HB := Ks_ HB hb; (try clear hb); (try clear hb2); (try clear hk); (try clear hi)) | (go_at_call 29; (with_reducible refine (tenementref08_Shard.calls k2 a0 a1 x4_8 t480 _ A39.out).mono ?_); rintro e w42 ⟨rfl, hb⟩; replace HO_15 := Aside0.mk (Kd.R_below (by (with_reducible repeat (first | apply Kd.R_alloc | apply Kd.R_drewN | apply Kd.R_drew)); exact HO_15.out) hb); replace HO_16 := Aside0.mk (Kd.R_below (by (with_reducible repeat (first | apply Kd.R_alloc | apply Kd.R_drewN | apply Kd.R_drew)); exact HO_16.out) hb); replace HO_460005 := Aside0.mk (Kd.R_below (by (with_reducible repeat (first | apply Kd.R_alloc | apply Kd.R_drewN | apply Kd.R_drew)); exact HO_460005.out) hb); replace BK449 := Kb_ BK449 hb; replace BK459 := Kb_ BK459 hb; replace HB := Ks_ HB hb; (try clear hb); (try clear hb2); (try clear hk); (try clear hi))); try go_wp2_with (first | (go_at_call 28; (with_reducible refine (item_Shard.calls k2 a0 a1 x4_8 t479 _ A38.out).mono ?_); rintro e w41 ⟨rfl, hb⟩; replace HO_15 := Aside0.mk (Kd.R_below (by (with_reducible repeat (first | apply Kd.R_alloc | apply Kd.R_drewN | apply Kd.R_drew)); exact HO_15.out) hb); replace HO_16 := Aside0.mk (Kd.R_below (by (with_reducible repeat (first | apply Kd.R_alloc | apply Kd.R_drewN | apply Kd.R_drew)); exact HO_16.out) hb); replace HO_460005 := Aside0.mk (Kd.R_below (by (with_reducible repeat (first | apply Kd.R_alloc | apply Kd.R_drewN | apply Kd.R_drew)); exact HO_460005.out) hb); replace BK449 := Kb_ BK449 hb; replace BK459 := Kb_ BK459 hb; replace HB := Ks_ HB hb; (try clear hb); (try clear hb2); (try clear hk); (try clear hi)) | (go_at_call 29; (with_reducible refine (tenementref08_Shard.calls k2 a0 a1 x4_8 t480 _ A39.out).mono ?_); rintro e w42 ⟨rfl, hb⟩; replace HO_15 := Aside0.mk (Kd.R_below (by (with_reducible repeat (first | apply Kd.R_alloc | apply Kd.R_drewN | apply Kd.R_drew)); exact HO_15.out) hb); replace HO_16 := Aside0.mk (Kd.R_below (by (with_reducible repeat (first | apply Kd.R_alloc | apply Kd.R_drewN | apply Kd.R_drew)); exact HO_16.out) hb); replace HO_460005 := Aside0.mk (Kd.R_below (by (with_reducible repeat (first | apply Kd.R_alloc | apply Kd.R_drewN | apply Kd.R_drew)); exact HO_460005.out) hb); replace BK449 := Kb_ BK449 hb; replace BK459 := Kb_ BK459 hb; replace HB := Ks_ HB hb; (try clear hb); (try clear hb2); (try clear hk); (try clear hi))))
          go_ret
          exact ⟨by first | rfl | (simp [errW_none, errW_some] <;> rfl) | (simp [*, errW_none, errW_some] <;> rfl), by repeat (first | (with_reducible first | exact HB.out | apply below_alloc | apply pw_below_drewN | apply below_drew1 | refine below_set ?_ GE449.out | refine below_set ?_ GE459.out) | exact HB.out)⟩

end Go.Proofs.Ytoogchgoiciggaa.Q
