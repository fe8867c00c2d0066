import Derived.Test.YtdlagefpglhdoaaDoorQx0
import Derived.Test.YtdlagefpglhdoaaDoorGStampGets0
import Derived.Test.YtdlagefpglhdoaaDoorGStampGets6
import Derived.Test.YtdlagefpglhdoaaDoorGStampGets7
import Derived.Test.YtdlagefpglhdoaaDoorGStampGets9
import Derived.Test.YtdlagefpglhdoaaDoorGStampGets3
import Derived.Test.YtdlagefpglhdoaaDoorGStampGets13
-- Written by this session's own driver (wip/hybrid.py) of the kit's printer; contracts marked FOREIGN are by hand.
namespace Go.Proofs.YtdlagefpglhdoaaDoor.Q
open Go.RowKit Go.Proofs.YtdlagefpglhdoaaDoorW.PrintWords Go.Proofs.YtdlagefpglhdoaaDoorW.PrintLast Go.Proofs.YtdlagefpglhdoaaDoorW.PrintMore
attribute [local go_sem] max2_int min2_int max_two min_two max_three min_three max_four min_four   -- for this text's walks alone
set_option linter.unusedVariables false
set_option linter.unusedSimpArgs false

attribute [local go_sem] ixA37_0 ixA37_1 ixA37_2 ixA37_3   -- for this text's walks alone
attribute [local go_sem high] eqA39
/-! ### tenementlaw07_StampGets: function 4 -/
def tenementlaw07_StampGets.f (k : Nat) (a0_0 : Int) (a0_1 : Int) (a0_2 : Int) (a0_3 : Int) (a0_4 : Int) (a0_5 : Bool) (a1 : ByteArray) (a2 : Bool) (a3 : Int) (a4 : Int) (a5 : Bool) : Option (Bool) := (tenementlaw07_examples.f k).bind fun t413 => (if t413 = true then (if a2 = true then ((tenementlaw07_Mark_mark.f k a0_0 a0_1 a0_2 a0_3 a0_4 true).bind fun bt414 => ((tenementlaw07_refStamp.f bt414.1 bt414.2.1 bt414.2.2.1 bt414.2.2.2.1 bt414.2.2.2.2).bind fun bt419 => ((tenementref07_Put.f k bt419.1 bt419.2.1 bt419.2.2.1 bt419.2.2.2.1 bt419.2.2.2.2).bind fun bt424 => (if bt424.1.size + a1.size ≤ 9223372036854775807 then ((tenementlaw07_bend.f (bt424.1 ++ a1) a3 a4).bind fun t426 => ((stamp_Get.f k t426 a5).bind fun bt427 => ((tenementref07_Get.f k t426 a5).bind fun bt436 => ((tenementlaw07_refStamp.f bt427.1 bt427.2.1 bt427.2.2.1 bt427.2.2.2.1 bt427.2.2.2.2.1).bind fun bt445 => (if ((bt445.1 == bt436.1 && (bt445.2.1 == bt436.2.1 && (bt445.2.2.1 == bt436.2.2.1 && (bt445.2.2.2.1 == bt436.2.2.2.1)))) && (bt445.2.2.2.2 == bt436.2.2.2.2.1)) = true then (if bt427.2.2.2.2.2.1.toList = bt436.2.2.2.2.2.1.toList then (if bt427.2.2.2.2.2.2 = bt436.2.2.2.2.2.2 then (some true) else (none)) else (none)) else (none)))))) else (none))))) else ((stamp_Get.f k a1 a5).bind fun bt450 => ((tenementref07_Get.f k a1 a5).bind fun bt459 => ((tenementlaw07_refStamp.f bt450.1 bt450.2.1 bt450.2.2.1 bt450.2.2.2.1 bt450.2.2.2.2.1).bind fun bt468 => (if ((bt468.1 == bt459.1 && (bt468.2.1 == bt459.2.1 && (bt468.2.2.1 == bt459.2.2.1 && (bt468.2.2.2.1 == bt459.2.2.2.1)))) && (bt468.2.2.2.2 == bt459.2.2.2.2.1)) = true then (if bt450.2.2.2.2.2.1.toList = bt459.2.2.2.2.2.1.toList then (if bt450.2.2.2.2.2.2 = bt459.2.2.2.2.2.2 then (some true) else (none)) else (none)) else (none)))))) else (none))
theorem tenementlaw07_StampGets.mono : ∀ a0 a1 a2 a3 a4 a5 a6 a7 a8 a9 a10 k, LeO (tenementlaw07_StampGets.f k a0 a1 a2 a3 a4 a5 a6 a7 a8 a9 a10) (tenementlaw07_StampGets.f (k + 1) a0 a1 a2 a3 a4 a5 a6 a7 a8 a9 a10) := by
  intro a0 a1 a2 a3 a4 a5 a6 a7 a8 a9 a10 k
  unfold tenementlaw07_StampGets.f
  repeat' first
      | (with_reducible exact stamp_Get.mono _ _ _)
      | (with_reducible exact tenementlaw07_Mark_mark.mono _ _ _ _ _ _ _)
      | (with_reducible exact tenementlaw07_examples.mono _)
      | (with_reducible exact tenementref07_Get.mono _ _ _)
      | (with_reducible exact tenementref07_Put.mono _ _ _ _ _ _)
      | (with_reducible exact LeO.refl _)
      | (with_reducible exact LeO.none _)
      | (with_reducible refine LeO.ite ?_ ?_)
      | (with_reducible refine LeO.bind ?_ (fun _ => ?_))
      | exact stamp_Get.mono _ _ _
      | exact tenementlaw07_Mark_mark.mono _ _ _ _ _ _ _
      | exact tenementlaw07_examples.mono _
      | exact tenementref07_Get.mono _ _ _
      | exact tenementref07_Put.mono _ _ _ _ _ _
      | exact LeO.none _
      | refine LeO.ite ?_ ?_
      | refine LeO.bind ?_ (fun _ => ?_)
def tenementlaw07_StampGets.T10 : Bool × List (List Nat × List Nat) := (true, [([], []), ([0], [0]), ([1], [1]), ([2, 1, 1], [1, 2]), ([1], [1]), ([3, 4, 1], [1, 3, 4]), ([1, 5], [1, 5]), ([6, 3], [6]), ([7], [7]), ([8, 7], [7, 8]), ([7], [7]), ([10, 7], [7, 10]), ([9, 11, 7], [7, 9, 11]), ([7, 12], [7, 12]), ([13, 7], [13]), ([14], [14]), ([15, 14], [14, 15]), ([14], [14]), ([17, 14], [14, 17]), ([16, 18, 14], [14, 16, 18]), ([14, 19], [14, 19]), ([20, 14, 0, 1, 2, 3, 4, 5, 6, 7, 8, 9, 10, 11, 12, 13, 14, 15, 16, 17, 18, 19, 20], [20])])
def tenementlaw07_StampGets.B10 : List Nat := [0, 1, 3, 7, 3, 31, 63, 127, 255, 511, 255, 1279, 4095, 8191, 16383, 32767, 65535, 32767, 163839, 524287, 1048575, 2097151]
theorem tenementlaw07_StampGets.tab10 : rtab .any (opsOf Tryd.f4 10) = tenementlaw07_StampGets.T10 := by kernel_rfl
theorem tenementlaw07_StampGets.bits10 : waitsOk tenementlaw07_StampGets.T10.2 tenementlaw07_StampGets.B10 = true := by kernel_rfl
set_option maxHeartbeats 8000000 in
set_option maxRecDepth 100000 in
theorem tenementlaw07_StampGets.calls (k : Nat) (a0_0 : Int) (a0_1 : Int) (a0_2 : Int) (a0_3 : Int) (a0_4 : Int) (a0_5 : Bool) (a1 : ByteArray) (a2 : Bool) (a3 : Int) (a4 : Int) (a5 : Bool) (r : Bool) (w : World) (h : tenementlaw07_StampGets.f k a0_0 a0_1 a0_2 a0_3 a0_4 a0_5 a1 a2 a3 a4 a5 = some r) :
    Calls Tryd.prog 4 #[.agg #[.int .u64 a0_0, .int .u64 a0_1, .int .u64 a0_2, .int .u64 a0_3, .int .i64 a0_4, .bool a0_5], .string a1, .bool a2, .int .i64 a3, .int .u8 a4, .bool a5] w fun e w' => e = .returned (.bool r) ∧ Below w.heap.size w w' := by
  have hu28 := Tryd.underlying28
  have hu55 := Tryd.underlying55
  have hu26 := Tryd.underlying26
  have hu58 := Tryd.underlying58
  have hu39 := Tryd.underlying39
  have HB := Aside0.mk (Below.refl w.heap.size w)
  have H : ((tenementlaw07_examples.f k).bind fun t413 => (if t413 = true then (if a2 = true then ((tenementlaw07_Mark_mark.f k a0_0 a0_1 a0_2 a0_3 a0_4 true).bind fun bt414 => ((tenementlaw07_refStamp.f bt414.1 bt414.2.1 bt414.2.2.1 bt414.2.2.2.1 bt414.2.2.2.2).bind fun bt419 => ((tenementref07_Put.f k bt419.1 bt419.2.1 bt419.2.2.1 bt419.2.2.2.1 bt419.2.2.2.2).bind fun bt424 => (if bt424.1.size + a1.size ≤ 9223372036854775807 then ((tenementlaw07_bend.f (bt424.1 ++ a1) a3 a4).bind fun t426 => ((stamp_Get.f k t426 a5).bind fun bt427 => ((tenementref07_Get.f k t426 a5).bind fun bt436 => ((tenementlaw07_refStamp.f bt427.1 bt427.2.1 bt427.2.2.1 bt427.2.2.2.1 bt427.2.2.2.2.1).bind fun bt445 => (if ((bt445.1 == bt436.1 && (bt445.2.1 == bt436.2.1 && (bt445.2.2.1 == bt436.2.2.1 && (bt445.2.2.2.1 == bt436.2.2.2.1)))) && (bt445.2.2.2.2 == bt436.2.2.2.2.1)) = true then (if bt427.2.2.2.2.2.1.toList = bt436.2.2.2.2.2.1.toList then (if bt427.2.2.2.2.2.2 = bt436.2.2.2.2.2.2 then (some true) else (none)) else (none)) else (none)))))) else (none))))) else ((stamp_Get.f k a1 a5).bind fun bt450 => ((tenementref07_Get.f k a1 a5).bind fun bt459 => ((tenementlaw07_refStamp.f bt450.1 bt450.2.1 bt450.2.2.1 bt450.2.2.2.1 bt450.2.2.2.2.1).bind fun bt468 => (if ((bt468.1 == bt459.1 && (bt468.2.1 == bt459.2.1 && (bt468.2.2.1 == bt459.2.2.1 && (bt468.2.2.2.1 == bt459.2.2.2.1)))) && (bt468.2.2.2.2 == bt459.2.2.2.2.1)) = true then (if bt450.2.2.2.2.2.1.toList = bt459.2.2.2.2.2.1.toList then (if bt450.2.2.2.2.2.2 = bt459.2.2.2.2.2.2 then (some true) else (none)) else (none)) else (none)))))) else (none))) = some r := h
  clear h
  replace H := Option.bind_eq_some_iff.mp H
  obtain ⟨t413, A70, H⟩ := H
  replace H : (if t413 = true then (if a2 = true then ((tenementlaw07_Mark_mark.f k a0_0 a0_1 a0_2 a0_3 a0_4 true).bind fun bt414 => ((tenementlaw07_refStamp.f bt414.1 bt414.2.1 bt414.2.2.1 bt414.2.2.2.1 bt414.2.2.2.2).bind fun bt419 => ((tenementref07_Put.f k bt419.1 bt419.2.1 bt419.2.2.1 bt419.2.2.2.1 bt419.2.2.2.2).bind fun bt424 => (if bt424.1.size + a1.size ≤ 9223372036854775807 then ((tenementlaw07_bend.f (bt424.1 ++ a1) a3 a4).bind fun t426 => ((stamp_Get.f k t426 a5).bind fun bt427 => ((tenementref07_Get.f k t426 a5).bind fun bt436 => ((tenementlaw07_refStamp.f bt427.1 bt427.2.1 bt427.2.2.1 bt427.2.2.2.1 bt427.2.2.2.2.1).bind fun bt445 => (if ((bt445.1 == bt436.1 && (bt445.2.1 == bt436.2.1 && (bt445.2.2.1 == bt436.2.2.1 && (bt445.2.2.2.1 == bt436.2.2.2.1)))) && (bt445.2.2.2.2 == bt436.2.2.2.2.1)) = true then (if bt427.2.2.2.2.2.1.toList = bt436.2.2.2.2.2.1.toList then (if bt427.2.2.2.2.2.2 = bt436.2.2.2.2.2.2 then (some true) else (none)) else (none)) else (none)))))) else (none))))) else ((stamp_Get.f k a1 a5).bind fun bt450 => ((tenementref07_Get.f k a1 a5).bind fun bt459 => ((tenementlaw07_refStamp.f bt450.1 bt450.2.1 bt450.2.2.1 bt450.2.2.2.1 bt450.2.2.2.2.1).bind fun bt468 => (if ((bt468.1 == bt459.1 && (bt468.2.1 == bt459.2.1 && (bt468.2.2.1 == bt459.2.2.1 && (bt468.2.2.2.1 == bt459.2.2.2.1)))) && (bt468.2.2.2.2 == bt459.2.2.2.2.1)) = true then (if bt450.2.2.2.2.2.1.toList = bt459.2.2.2.2.2.1.toList then (if bt450.2.2.2.2.2.2 = bt459.2.2.2.2.2.2 then (some true) else (none)) else (none)) else (none)))))) else (none)) = some r := H
  have A7 := Aside0.mk A70
  clear A70
  by_cases c8 : t413 = true
  rotate_left
  · replace c8 := Bool.eq_false_iff.mpr c8
    subst c8
    have H1 : (none) = some r := by rw [if_neg (show ¬ (false = true) by decide)] at H; exact H
    clear H
    have H := H1
    clear H1
    exact absurd H (by simp)
  subst c8
  have H1 : (if a2 = true then ((tenementlaw07_Mark_mark.f k a0_0 a0_1 a0_2 a0_3 a0_4 true).bind fun bt414 => ((tenementlaw07_refStamp.f bt414.1 bt414.2.1 bt414.2.2.1 bt414.2.2.2.1 bt414.2.2.2.2).bind fun bt419 => ((tenementref07_Put.f k bt419.1 bt419.2.1 bt419.2.2.1 bt419.2.2.2.1 bt419.2.2.2.2).bind fun bt424 => (if bt424.1.size + a1.size ≤ 9223372036854775807 then ((tenementlaw07_bend.f (bt424.1 ++ a1) a3 a4).bind fun t426 => ((stamp_Get.f k t426 a5).bind fun bt427 => ((tenementref07_Get.f k t426 a5).bind fun bt436 => ((tenementlaw07_refStamp.f bt427.1 bt427.2.1 bt427.2.2.1 bt427.2.2.2.1 bt427.2.2.2.2.1).bind fun bt445 => (if ((bt445.1 == bt436.1 && (bt445.2.1 == bt436.2.1 && (bt445.2.2.1 == bt436.2.2.1 && (bt445.2.2.2.1 == bt436.2.2.2.1)))) && (bt445.2.2.2.2 == bt436.2.2.2.2.1)) = true then (if bt427.2.2.2.2.2.1.toList = bt436.2.2.2.2.2.1.toList then (if bt427.2.2.2.2.2.2 = bt436.2.2.2.2.2.2 then (some true) else (none)) else (none)) else (none)))))) else (none))))) else ((stamp_Get.f k a1 a5).bind fun bt450 => ((tenementref07_Get.f k a1 a5).bind fun bt459 => ((tenementlaw07_refStamp.f bt450.1 bt450.2.1 bt450.2.2.1 bt450.2.2.2.1 bt450.2.2.2.2.1).bind fun bt468 => (if ((bt468.1 == bt459.1 && (bt468.2.1 == bt459.2.1 && (bt468.2.2.1 == bt459.2.2.1 && (bt468.2.2.2.1 == bt459.2.2.2.1)))) && (bt468.2.2.2.2 == bt459.2.2.2.2.1)) = true then (if bt450.2.2.2.2.2.1.toList = bt459.2.2.2.2.2.1.toList then (if bt450.2.2.2.2.2.2 = bt459.2.2.2.2.2.2 then (some true) else (none)) else (none)) else (none)))))) = some r := by rw [if_pos rfl] at H; exact H
  clear H
  have H := H1
  clear H1
  by_cases c9 : a2 = true
  rotate_left
  · replace c9 := Bool.eq_false_iff.mpr c9
    subst c9
    have H1 : ((stamp_Get.f k a1 a5).bind fun bt450 => ((tenementref07_Get.f k a1 a5).bind fun bt459 => ((tenementlaw07_refStamp.f bt450.1 bt450.2.1 bt450.2.2.1 bt450.2.2.2.1 bt450.2.2.2.2.1).bind fun bt468 => (if ((bt468.1 == bt459.1 && (bt468.2.1 == bt459.2.1 && (bt468.2.2.1 == bt459.2.2.1 && (bt468.2.2.2.1 == bt459.2.2.2.1)))) && (bt468.2.2.2.2 == bt459.2.2.2.2.1)) = true then (if bt450.2.2.2.2.2.1.toList = bt459.2.2.2.2.2.1.toList then (if bt450.2.2.2.2.2.2 = bt459.2.2.2.2.2.2 then (some true) else (none)) else (none)) else (none))))) = some r := by rw [if_neg (show ¬ (false = true) by decide)] at H; exact H
    clear H
    have H := H1
    clear H1
    replace H := Option.bind_eq_some_iff.mp H
    obtain ⟨⟨t450, t451, t452, t453, t454, t455, t456⟩, A510, H⟩ := H
    replace H : ((tenementref07_Get.f k a1 a5).bind fun bt459 => ((tenementlaw07_refStamp.f t450 t451 t452 t453 t454).bind fun bt468 => (if ((bt468.1 == bt459.1 && (bt468.2.1 == bt459.2.1 && (bt468.2.2.1 == bt459.2.2.1 && (bt468.2.2.2.1 == bt459.2.2.2.1)))) && (bt468.2.2.2.2 == bt459.2.2.2.2.1)) = true then (if t455.toList = bt459.2.2.2.2.2.1.toList then (if t456 = bt459.2.2.2.2.2.2 then (some true) else (none)) else (none)) else (none)))) = some r := H
    have A51 := Aside0.mk A510
    clear A510
    replace H := Option.bind_eq_some_iff.mp H
    obtain ⟨⟨t459, t460, t461, t462, t463, t464, t465⟩, A520, H⟩ := H
    replace H : ((tenementlaw07_refStamp.f t450 t451 t452 t453 t454).bind fun bt468 => (if ((bt468.1 == t459 && (bt468.2.1 == t460 && (bt468.2.2.1 == t461 && (bt468.2.2.2.1 == t462)))) && (bt468.2.2.2.2 == t463)) = true then (if t455.toList = t464.toList then (if t456 = t465 then (some true) else (none)) else (none)) else (none))) = some r := H
    have A52 := Aside0.mk A520
    clear A520
    replace H := Option.bind_eq_some_iff.mp H
    obtain ⟨⟨t468, t469, t470, t471, t472⟩, A530, H⟩ := H
    replace H : (if ((t468 == t459 && (t469 == t460 && (t470 == t461 && (t471 == t462)))) && (t472 == t463)) = true then (if t455.toList = t464.toList then (if t456 = t465 then (some true) else (none)) else (none)) else (none)) = some r := H
    have A53 := Aside0.mk A530
    clear A530
    by_cases c54 : ((t468 == t459 && (t469 == t460 && (t470 == t461 && (t471 == t462)))) && (t472 == t463)) = true
    rotate_left
    · rw [if_neg c54] at H
      exact absurd H (by simp)
    rw [if_pos c54] at H
    have c54b0 : ((t468 == t459 && (t469 == t460 && (t470 == t461 && (t471 == t462)))) && (t472 == t463)) = true := c54
    clear c54
    by_cases c55 : t455.toList = t464.toList
    rotate_left
    · rw [if_neg c55] at H
      exact absurd H (by simp)
    rw [if_pos c55] at H
    have c55b0 : (t455.toList == t464.toList) = true := beq_iff_eq.mpr c55
    have c55b1 : (t455.toList != t464.toList) = false := bne_eq_false_iff_eq.mpr c55
    clear c55
    by_cases c56 : t456 = t465
    rotate_left
    · rw [if_neg c56] at H
      exact absurd H (by simp)
    subst c56
    have H1 : (some true) = some r := by rw [if_pos rfl] at H; exact H
    clear H
    have H := H1
    clear H1
    obtain rfl := Option.some.inj H
    go_enter Tryd.func4, Tryd.ntmps4
    try go_wp2_with (first | ((with_reducible refine gate_dst (N := 6) rfl ?_); refine box_event ?hg (N := 6) ?hd (cs := #[.int .u64 a0_0, .int .u64 a0_1, .int .u64 a0_2, .int .u64 a0_3, .int .i64 a0_4, .bool a0_5]) (t := 28) ?hr ?_; (case hd => rfl); (case hg => rfl); (case hr => first | (go_simp; done) | (go_simp; rfl)); intro gb412 hg w57 hbox hb; have BK412 := Aside0.mk (hbox); have GW412 := Kw_ HB hg; have GE412 := GW412; replace HB := Ks_ HB hb; clear hb hbox hg) | ((with_reducible refine gate_callee (f := 9) rfl ?_); refine goesL_ (some 20) rfl rfl Tryd.func9 (by kernel_rfl) rfl #[] rfl (by (try simp only [List.map_toArray, List.map_cons, List.map_nil]); first | done | rfl | (simp only [List.length_drop, List.length_take]; rfl)) ?_; (with_reducible refine (tenementlaw07_examples.calls k  true _ A7.out).mono ?_); rintro e w58 ⟨rfl, hb⟩; refine ⟨_, rfl, ?_⟩; replace BK412 := Kb_ BK412 hb; replace HB := Ks_ HB hb; (try clear hb); (try clear hb2); (try clear hk); (try clear hi); have hcz59_0 : w58.cell? ⟨gb412, 0, none⟩ = some (.int .u64 a0_0) := (blk_cell BK412.out 0).trans rfl; have hcz59_1 : w58.cell? ⟨gb412, 1, none⟩ = some (.int .u64 a0_1) := (blk_cell BK412.out 1).trans rfl; have hcz59_2 : w58.cell? ⟨gb412, 2, none⟩ = some (.int .u64 a0_2) := (blk_cell BK412.out 2).trans rfl; have hcz59_3 : w58.cell? ⟨gb412, 3, none⟩ = some (.int .u64 a0_3) := (blk_cell BK412.out 3).trans rfl; have hcz59_4 : w58.cell? ⟨gb412, 4, none⟩ = some (.int .i64 a0_4) := (blk_cell BK412.out 4).trans rfl; have hcz59_5 : w58.cell? ⟨gb412, 5, none⟩ = some (.bool a0_5) := (blk_cell BK412.out 5).trans rfl; have hfz59_0 := blk_frozen BK412.out 0; have hfz59_1 := blk_frozen BK412.out 1; have hfz59_2 := blk_frozen BK412.out 2; have hfz59_3 := blk_frozen BK412.out 3; have hfz59_4 := blk_frozen BK412.out 4; have hfz59_5 := blk_frozen BK412.out 5) | ((with_reducible refine gate_callee (f := 28) rfl ?_); refine goesL_ (some 42) rfl rfl Tryd.func28 (by kernel_rfl) rfl #[.agg #[.string a1, .bool a5]] rfl (by (try simp only [List.map_toArray, List.map_cons, List.map_nil]); first | done | rfl | (simp only [List.length_drop, List.length_take]; rfl)) ?_; (with_reducible refine (stamp_Get.calls k a1 a5 t450 t451 t452 t453 t454 t455 t456 _ A51.out).mono ?_); rintro e w60 ⟨rfl, hb⟩; refine ⟨_, rfl, ?_⟩; replace BK412 := Aside0.mk (blk_below (g := gb412) (o := .cells #[.int .u64 a0_0, .int .u64 a0_1, .int .u64 a0_2, .int .u64 a0_3, .int .i64 a0_4, .bool true] 28 (0, 0)) (by (with_reducible repeat (first | refine blk_drewN ?_ _ | refine blk_drew ?_ | refine blk_alloc ?_ _)); refine blk_put (cs := #[.int .u64 a0_0, .int .u64 a0_1, .int .u64 a0_2, .int .u64 a0_3, .int .i64 a0_4, .bool a0_5]) ?_ 5 _ rfl; (with_reducible repeat (first | refine blk_drewN ?_ _ | refine blk_drew ?_ | refine blk_alloc ?_ _)); exact BK412.out) hb); replace HB := Kt_ HB GE412 hb; (try clear hb); (try clear hb2); (try clear hk); (try clear hi)) | ((with_reducible refine gate_dst (N := 16) rfl ?_); refine box_event ?hg (N := 16) ?hd (cs := #[.int .u64 0, .int .u64 0, .int .u64 0, .int .u64 0, .int .i64 0]) (t := 26) ?hr ?_; (case hd => rfl); (case hg => rfl); (case hr => first | (go_simp; done) | (go_simp; rfl)); intro gb457 hg w61 hbox hb; have BK457 := Aside0.mk (hbox); have GW457 := Kw_ HB hg; have GE457 := GW457; have NB412_457 := Kl_ BK412 hg; have NB457_412 := Kr_ BK412 hg; replace BK412 := Kb_ BK412 hb; replace HB := Ks_ HB hb; clear hb hbox hg) | ((with_reducible refine gate_dst (N := 17) rfl ?_); refine box_event ?hg (N := 17) ?hd (cs := #[.string (⟨#[]⟩ : ByteArray), .bool false]) (t := 55) ?hr ?_; (case hd => rfl); (case hg => rfl); (case hr => first | (go_simp; done) | (go_simp; rfl)); intro gb458 hg w62 hbox hb; have BK458 := Aside0.mk (hbox); have GW458 := Kw_ HB hg; have GE458 := GW458; have NB412_458 := Kl_ BK412 hg; have NB458_412 := Kr_ BK412 hg; have NB457_458 := Kl_ BK457 hg; have NB458_457 := Kr_ BK457 hg; replace BK412 := Kb_ BK412 hb; replace BK457 := Kb_ BK457 hb; replace HB := Ks_ HB hb; clear hb hbox hg; have hnb63 := NB457_412.out; have hnc63 := NB412_457.out; have hnb64 := NB457_458.out; have hnc64 := NB458_457.out; have hcz65_0 : w62.cell? ⟨gb457, 0, none⟩ = some (.int .u64 0) := (blk_cell BK457.out 0).trans rfl; have hcz65_1 : w62.cell? ⟨gb457, 1, none⟩ = some (.int .u64 0) := (blk_cell BK457.out 1).trans rfl; have hcz65_2 : w62.cell? ⟨gb457, 2, none⟩ = some (.int .u64 0) := (blk_cell BK457.out 2).trans rfl; have hcz65_3 : w62.cell? ⟨gb457, 3, none⟩ = some (.int .u64 0) := (blk_cell BK457.out 3).trans rfl; have hcz65_4 : w62.cell? ⟨gb457, 4, none⟩ = some (.int .i64 0) := (blk_cell BK457.out 4).trans rfl; have hfz65_0 := blk_frozen BK457.out 0; have hfz65_1 := blk_frozen BK457.out 1; have hfz65_2 := blk_frozen BK457.out 2; have hfz65_3 := blk_frozen BK457.out 3; have hfz65_4 := blk_frozen BK457.out 4; have hnb66 := NB458_412.out; have hnc66 := NB412_458.out; have hcz67_0 : w62.cell? ⟨gb458, 0, none⟩ = some (.string (⟨#[]⟩ : ByteArray)) := (blk_cell BK458.out 0).trans rfl; have hcz67_1 : w62.cell? ⟨gb458, 1, none⟩ = some (.bool false) := (blk_cell BK458.out 1).trans rfl; have hfz67_0 := blk_frozen BK458.out 0; have hfz67_1 := blk_frozen BK458.out 1) | ((with_reducible refine gate_callee (f := 29) rfl ?_); refine goesL_ (some 49) rfl rfl Tryd.func29 (by kernel_rfl) rfl #[.agg #[.string a1, .bool a5]] rfl (by (try simp only [List.map_toArray, List.map_cons, List.map_nil]); first | done | rfl | (simp only [List.length_drop, List.length_take]; rfl)) ?_; (with_reducible refine (tenementref07_Get.calls k a1 a5 t459 t460 t461 t462 t463 t464 t456 _ A52.out).mono ?_); rintro e w68 ⟨rfl, hb⟩; refine ⟨_, rfl, ?_⟩; replace BK412 := Aside0.mk (blk_below (g := gb412) (o := .cells #[.int .u64 a0_0, .int .u64 a0_1, .int .u64 a0_2, .int .u64 a0_3, .int .i64 a0_4, .bool true] 28 (0, 0)) (by (repeat (first | (with_reducible first | refine blk_drewN ?_ _ | refine blk_drew ?_ | refine blk_alloc ?_ _) | refine blk_far ?_ NB412_458.out _ | refine blk_far ?_ NB412_457.out _)); exact BK412.out) hb); replace BK457 := Aside0.mk (blk_below (g := gb457) (o := .cells #[.int .u64 t450, .int .u64 t451, .int .u64 t452, .int .u64 t453, .int .i64 t454] 26 (0, 0)) (by (repeat (first | (with_reducible first | refine blk_drewN ?_ _ | refine blk_drew ?_ | refine blk_alloc ?_ _) | refine blk_far ?_ NB457_458.out _)); refine blk_put (cs := #[.int .u64 t450, .int .u64 t451, .int .u64 t452, .int .u64 t453, .int .i64 0]) ?_ 4 _ rfl; (with_reducible repeat (first | refine blk_drewN ?_ _ | refine blk_drew ?_ | refine blk_alloc ?_ _)); refine blk_put (cs := #[.int .u64 t450, .int .u64 t451, .int .u64 t452, .int .u64 0, .int .i64 0]) ?_ 3 _ rfl; (with_reducible repeat (first | refine blk_drewN ?_ _ | refine blk_drew ?_ | refine blk_alloc ?_ _)); refine blk_put (cs := #[.int .u64 t450, .int .u64 t451, .int .u64 0, .int .u64 0, .int .i64 0]) ?_ 2 _ rfl; (with_reducible repeat (first | refine blk_drewN ?_ _ | refine blk_drew ?_ | refine blk_alloc ?_ _)); refine blk_put (cs := #[.int .u64 t450, .int .u64 0, .int .u64 0, .int .u64 0, .int .i64 0]) ?_ 1 _ rfl; (with_reducible repeat (first | refine blk_drewN ?_ _ | refine blk_drew ?_ | refine blk_alloc ?_ _)); refine blk_put (cs := #[.int .u64 0, .int .u64 0, .int .u64 0, .int .u64 0, .int .i64 0]) ?_ 0 _ rfl; (with_reducible repeat (first | refine blk_drewN ?_ _ | refine blk_drew ?_ | refine blk_alloc ?_ _)); exact BK457.out) hb); replace BK458 := Aside0.mk (blk_below (g := gb458) (o := .cells #[.string t455, .bool t456] 55 (0, 0)) (by (with_reducible repeat (first | refine blk_drewN ?_ _ | refine blk_drew ?_ | refine blk_alloc ?_ _)); refine blk_put (cs := #[.string t455, .bool false]) ?_ 1 _ rfl; (with_reducible repeat (first | refine blk_drewN ?_ _ | refine blk_drew ?_ | refine blk_alloc ?_ _)); refine blk_put (cs := #[.string (⟨#[]⟩ : ByteArray), .bool false]) ?_ 0 _ rfl; (repeat (first | (with_reducible first | refine blk_drewN ?_ _ | refine blk_drew ?_ | refine blk_alloc ?_ _) | refine blk_far ?_ NB458_457.out _)); exact BK458.out) hb); replace HB := Aside0.mk (below_step (by repeat (first | (with_reducible first | exact HB.out | apply below_alloc | apply pw_below_drewN | apply below_drew1 | refine below_set ?_ GE412.out | refine below_set ?_ GE457.out | refine below_set ?_ GE458.out) | exact HB.out)) hb); (try clear hb); (try clear hb2); (try clear hk); (try clear hi)) | ((with_reducible refine gate_dst (N := 18) rfl ?_); refine box_event ?hg (N := 18) ?hd (cs := #[.int .u64 0, .int .u64 0, .int .u64 0, .int .u64 0, .int .i64 0]) (t := 39) ?hr ?_; (case hd => rfl); (case hg => rfl); (case hr => first | (go_simp; done) | (go_simp; rfl)); intro gb466 hg w69 hbox hb; have BK466 := Aside0.mk (hbox); have GW466 := Kw_ HB hg; have GE466 := GW466; have NB412_466 := Kl_ BK412 hg; have NB466_412 := Kr_ BK412 hg; have NB457_466 := Kl_ BK457 hg; have NB466_457 := Kr_ BK457 hg; have NB458_466 := Kl_ BK458 hg; have NB466_458 := Kr_ BK458 hg; replace BK412 := Kb_ BK412 hb; replace BK457 := Kb_ BK457 hb; replace BK458 := Kb_ BK458 hb; replace HB := Ks_ HB hb; clear hb hbox hg) | ((with_reducible refine gate_dst (N := 19) rfl ?_); refine box_event ?hg (N := 19) ?hd (cs := #[.string (⟨#[]⟩ : ByteArray), .bool false]) (t := 58) ?hr ?_; (case hd => rfl); (case hg => rfl); (case hr => first | (go_simp; done) | (go_simp; rfl)); intro gb467 hg w70 hbox hb; have BK467 := Aside0.mk (hbox); have GW467 := Kw_ HB hg; have GE467 := GW467; have NB412_467 := Kl_ BK412 hg; have NB467_412 := Kr_ BK412 hg; have NB457_467 := Kl_ BK457 hg; have NB467_457 := Kr_ BK457 hg; have NB458_467 := Kl_ BK458 hg; have NB467_458 := Kr_ BK458 hg; have NB466_467 := Kl_ BK466 hg; have NB467_466 := Kr_ BK466 hg; replace BK412 := Kb_ BK412 hb; replace BK457 := Kb_ BK457 hb; replace BK458 := Kb_ BK458 hb; replace BK466 := Kb_ BK466 hb; replace HB := Ks_ HB hb; clear hb hbox hg; have hnb71 := NB466_412.out; have hnc71 := NB412_466.out; have hnb72 := NB466_457.out; have hnc72 := NB457_466.out; have hnb73 := NB466_458.out; have hnc73 := NB458_466.out; have hnb74 := NB466_467.out; have hnc74 := NB467_466.out; have hcz75_0 : w70.cell? ⟨gb466, 0, none⟩ = some (.int .u64 0) := (blk_cell BK466.out 0).trans rfl; have hcz75_1 : w70.cell? ⟨gb466, 1, none⟩ = some (.int .u64 0) := (blk_cell BK466.out 1).trans rfl; have hcz75_2 : w70.cell? ⟨gb466, 2, none⟩ = some (.int .u64 0) := (blk_cell BK466.out 2).trans rfl; have hcz75_3 : w70.cell? ⟨gb466, 3, none⟩ = some (.int .u64 0) := (blk_cell BK466.out 3).trans rfl; have hcz75_4 : w70.cell? ⟨gb466, 4, none⟩ = some (.int .i64 0) := (blk_cell BK466.out 4).trans rfl; have hfz75_0 := blk_frozen BK466.out 0; have hfz75_1 := blk_frozen BK466.out 1; have hfz75_2 := blk_frozen BK466.out 2; have hfz75_3 := blk_frozen BK466.out 3; have hfz75_4 := blk_frozen BK466.out 4; have hnb76 := NB467_412.out; have hnc76 := NB412_467.out; have hnb77 := NB467_457.out; have hnc77 := NB457_467.out; have hnb78 := NB467_458.out; have hnc78 := NB458_467.out; have hcz79_0 : w70.cell? ⟨gb467, 0, none⟩ = some (.string (⟨#[]⟩ : ByteArray)) := (blk_cell BK467.out 0).trans rfl; have hcz79_1 : w70.cell? ⟨gb467, 1, none⟩ = some (.bool false) := (blk_cell BK467.out 1).trans rfl; have hfz79_0 := blk_frozen BK467.out 0; have hfz79_1 := blk_frozen BK467.out 1))
    have n0_ : Aside0 ((((((((w70.setCell ⟨gb466, 0, none⟩ (.int .u64 t459)).setCell ⟨gb466, 1, none⟩ (.int .u64 t460)).setCell ⟨gb466, 2, none⟩ (.int .u64 t461)).setCell ⟨gb466, 3, none⟩ (.int .u64 t462)).setCell ⟨gb466, 4, none⟩ (.int .i64 t463)).setCell ⟨gb467, 0, none⟩ (.string t464)).setCell ⟨gb467, 1, none⟩ (.bool t456)).heap[gb412]? = some (.cells #[.int .u64 a0_0, .int .u64 a0_1, .int .u64 a0_2, .int .u64 a0_3, .int .i64 a0_4, .bool true] 28 (0, 0))) := ⟨by (repeat (first | (with_reducible first | refine blk_drewN ?_ _ | refine blk_drew ?_ | refine blk_alloc ?_ _) | refine blk_far ?_ NB412_467.out _ | refine blk_far ?_ NB412_466.out _)); exact BK412.out⟩
    have n1_ : Aside0 ((((((((w70.setCell ⟨gb466, 0, none⟩ (.int .u64 t459)).setCell ⟨gb466, 1, none⟩ (.int .u64 t460)).setCell ⟨gb466, 2, none⟩ (.int .u64 t461)).setCell ⟨gb466, 3, none⟩ (.int .u64 t462)).setCell ⟨gb466, 4, none⟩ (.int .i64 t463)).setCell ⟨gb467, 0, none⟩ (.string t464)).setCell ⟨gb467, 1, none⟩ (.bool t456)).heap[gb457]? = some (.cells #[.int .u64 t450, .int .u64 t451, .int .u64 t452, .int .u64 t453, .int .i64 t454] 26 (0, 0))) := ⟨by (repeat (first | (with_reducible first | refine blk_drewN ?_ _ | refine blk_drew ?_ | refine blk_alloc ?_ _) | refine blk_far ?_ NB457_467.out _ | refine blk_far ?_ NB457_466.out _)); exact BK457.out⟩
    have n2_ : Aside0 ((((((((w70.setCell ⟨gb466, 0, none⟩ (.int .u64 t459)).setCell ⟨gb466, 1, none⟩ (.int .u64 t460)).setCell ⟨gb466, 2, none⟩ (.int .u64 t461)).setCell ⟨gb466, 3, none⟩ (.int .u64 t462)).setCell ⟨gb466, 4, none⟩ (.int .i64 t463)).setCell ⟨gb467, 0, none⟩ (.string t464)).setCell ⟨gb467, 1, none⟩ (.bool t456)).heap[gb458]? = some (.cells #[.string t455, .bool t456] 55 (0, 0))) := ⟨by (repeat (first | (with_reducible first | refine blk_drewN ?_ _ | refine blk_drew ?_ | refine blk_alloc ?_ _) | refine blk_far ?_ NB458_467.out _ | refine blk_far ?_ NB458_466.out _)); exact BK458.out⟩
    have n3_ : Aside0 ((((((((w70.setCell ⟨gb466, 0, none⟩ (.int .u64 t459)).setCell ⟨gb466, 1, none⟩ (.int .u64 t460)).setCell ⟨gb466, 2, none⟩ (.int .u64 t461)).setCell ⟨gb466, 3, none⟩ (.int .u64 t462)).setCell ⟨gb466, 4, none⟩ (.int .i64 t463)).setCell ⟨gb467, 0, none⟩ (.string t464)).setCell ⟨gb467, 1, none⟩ (.bool t456)).heap[gb466]? = some (.cells #[.int .u64 t459, .int .u64 t460, .int .u64 t461, .int .u64 t462, .int .i64 t463] 39 (0, 0))) := ⟨by (repeat (first | (with_reducible first | refine blk_drewN ?_ _ | refine blk_drew ?_ | refine blk_alloc ?_ _) | refine blk_far ?_ NB466_467.out _)); refine blk_put (cs := #[.int .u64 t459, .int .u64 t460, .int .u64 t461, .int .u64 t462, .int .i64 0]) ?_ 4 _ rfl; (with_reducible repeat (first | refine blk_drewN ?_ _ | refine blk_drew ?_ | refine blk_alloc ?_ _)); refine blk_put (cs := #[.int .u64 t459, .int .u64 t460, .int .u64 t461, .int .u64 0, .int .i64 0]) ?_ 3 _ rfl; (with_reducible repeat (first | refine blk_drewN ?_ _ | refine blk_drew ?_ | refine blk_alloc ?_ _)); refine blk_put (cs := #[.int .u64 t459, .int .u64 t460, .int .u64 0, .int .u64 0, .int .i64 0]) ?_ 2 _ rfl; (with_reducible repeat (first | refine blk_drewN ?_ _ | refine blk_drew ?_ | refine blk_alloc ?_ _)); refine blk_put (cs := #[.int .u64 t459, .int .u64 0, .int .u64 0, .int .u64 0, .int .i64 0]) ?_ 1 _ rfl; (with_reducible repeat (first | refine blk_drewN ?_ _ | refine blk_drew ?_ | refine blk_alloc ?_ _)); refine blk_put (cs := #[.int .u64 0, .int .u64 0, .int .u64 0, .int .u64 0, .int .i64 0]) ?_ 0 _ rfl; (with_reducible repeat (first | refine blk_drewN ?_ _ | refine blk_drew ?_ | refine blk_alloc ?_ _)); exact BK466.out⟩
    have n4_ : Aside0 ((((((((w70.setCell ⟨gb466, 0, none⟩ (.int .u64 t459)).setCell ⟨gb466, 1, none⟩ (.int .u64 t460)).setCell ⟨gb466, 2, none⟩ (.int .u64 t461)).setCell ⟨gb466, 3, none⟩ (.int .u64 t462)).setCell ⟨gb466, 4, none⟩ (.int .i64 t463)).setCell ⟨gb467, 0, none⟩ (.string t464)).setCell ⟨gb467, 1, none⟩ (.bool t456)).heap[gb467]? = some (.cells #[.string t464, .bool t456] 58 (0, 0))) := ⟨by (with_reducible repeat (first | refine blk_drewN ?_ _ | refine blk_drew ?_ | refine blk_alloc ?_ _)); refine blk_put (cs := #[.string t464, .bool false]) ?_ 1 _ rfl; (with_reducible repeat (first | refine blk_drewN ?_ _ | refine blk_drew ?_ | refine blk_alloc ?_ _)); refine blk_put (cs := #[.string (⟨#[]⟩ : ByteArray), .bool false]) ?_ 0 _ rfl; (repeat (first | (with_reducible first | refine blk_drewN ?_ _ | refine blk_drew ?_ | refine blk_alloc ?_ _) | refine blk_far ?_ NB467_466.out _)); exact BK467.out⟩
    have n5_ : Aside0 (Below w.heap.size w (((((((w70.setCell ⟨gb466, 0, none⟩ (.int .u64 t459)).setCell ⟨gb466, 1, none⟩ (.int .u64 t460)).setCell ⟨gb466, 2, none⟩ (.int .u64 t461)).setCell ⟨gb466, 3, none⟩ (.int .u64 t462)).setCell ⟨gb466, 4, none⟩ (.int .i64 t463)).setCell ⟨gb467, 0, none⟩ (.string t464)).setCell ⟨gb467, 1, none⟩ (.bool t456))) := ⟨by repeat (first | (with_reducible first | exact HB.out | apply below_alloc | apply pw_below_drewN | apply below_drew1 | refine below_set ?_ GE412.out | refine below_set ?_ GE457.out | refine below_set ?_ GE458.out | refine below_set ?_ GE466.out | refine below_set ?_ GE467.out) | exact HB.out)⟩
    (try clear BK412)
    (try clear BK457)
    (try clear BK458)
    (try clear BK466)
    (try clear BK467)
    (try clear HB)
    generalize (((((((w70.setCell ⟨gb466, 0, none⟩ (.int .u64 t459)).setCell ⟨gb466, 1, none⟩ (.int .u64 t460)).setCell ⟨gb466, 2, none⟩ (.int .u64 t461)).setCell ⟨gb466, 3, none⟩ (.int .u64 t462)).setCell ⟨gb466, 4, none⟩ (.int .i64 t463)).setCell ⟨gb467, 0, none⟩ (.string t464)).setCell ⟨gb467, 1, none⟩ (.bool t456)) = w80 at n0_ n1_ n2_ n3_ n4_ n5_ ⊢
    have BK412 := n0_
    have BK457 := n1_
    have BK458 := n2_
    have BK466 := n3_
    have BK467 := n4_
    have HB := n5_
    clear n0_ n1_ n2_ n3_ n4_ n5_
    replace BK412 := Kd_ BK412
    replace BK457 := Kd_ BK457
    replace BK458 := Kd_ BK458
    replace BK466 := Kd_ BK466
    replace BK467 := Kd_ BK467
    replace HB := Aside0.mk (below_drew1 HB.out)
    refine start_ (n := 22) (S := fun w' => w'.cell? ⟨gb457, 0, none⟩ = some (.int .u64 t450) ∧ w'.cell? ⟨gb457, 1, none⟩ = some (.int .u64 t451) ∧ w'.cell? ⟨gb457, 2, none⟩ = some (.int .u64 t452) ∧ w'.cell? ⟨gb457, 3, none⟩ = some (.int .u64 t453) ∧ w'.cell? ⟨gb457, 4, none⟩ = some (.int .i64 t454) ∧ w'.cell? ⟨gb466, 0, none⟩ = some (.int .u64 t459) ∧ w'.cell? ⟨gb466, 1, none⟩ = some (.int .u64 t460) ∧ w'.cell? ⟨gb466, 2, none⟩ = some (.int .u64 t461) ∧ w'.cell? ⟨gb466, 3, none⟩ = some (.int .u64 t462) ∧ w'.cell? ⟨gb466, 4, none⟩ = some (.int .i64 t463) ∧ w'.cell? ⟨gb458, 0, none⟩ = some (.string t455) ∧ w'.cell? ⟨gb458, 1, none⟩ = some (.bool t456) ∧ w'.cell? ⟨gb467, 0, none⟩ = some (.string t464) ∧ w'.cell? ⟨gb467, 1, none⟩ = some (.bool t456)) (ds := []) #[false, false, false, false, false, false, false, false, false, false, false, false, false, false, false, false, false, false, false, false, false, false] (by kernel_rfl) rfl rfl ⟨(blk_cell BK457.out 0).trans rfl, (blk_cell BK457.out 1).trans rfl, (blk_cell BK457.out 2).trans rfl, (blk_cell BK457.out 3).trans rfl, (blk_cell BK457.out 4).trans rfl, (blk_cell BK466.out 0).trans rfl, (blk_cell BK466.out 1).trans rfl, (blk_cell BK466.out 2).trans rfl, (blk_cell BK466.out 3).trans rfl, (blk_cell BK466.out 4).trans rfl, (blk_cell BK458.out 0).trans rfl, (blk_cell BK458.out 1).trans rfl, (blk_cell BK467.out 0).trans rfl, (blk_cell BK467.out 1).trans rfl⟩ (fun hHeld => ?_); refine with_tabW tenementlaw07_StampGets.tab10 tenementlaw07_StampGets.bits10 (fun HT_ HW_ => ?_)
    generalize w80.drew = w81 at BK412 BK457 BK458 BK466 BK467 HB hHeld ⊢
    refine pure_ (i := 0) (N := some 52) (v := ?_) (a' := ?_) #[true, false, false, false, false, false, false, false, false, false, false, false, false, false, false, false, false, false, false, false, false, false] rfl rfl (any_of HT_.out (by kernel_rfl)) (fun _ _ _ h => h) (Or.inl ⟨by rfl, ?_⟩) ?_ ?_
    rotate_left
    · intro w'
      go_simp
      with_reducible rfl
    rotate_left
    · simp only [Act.put, List.setIfInBounds_toArray, List.set_cons_zero, List.set_cons_succ, i64_w, i32_w]
      rfl
    refine pure_ (i := 1) (N := some 53) (v := ?_) (a' := ?_) #[true, true, false, false, false, false, false, false, false, false, false, false, false, false, false, false, false, false, false, false, false, false] rfl rfl (any_of HT_.out (by kernel_rfl)) (fun _ _ _ h => h) (Or.inl ⟨by rfl, ?_⟩) ?_ ?_
    rotate_left
    · intro w'
      go_simp
      with_reducible rfl
    rotate_left
    · simp only [Act.put, List.setIfInBounds_toArray, List.set_cons_zero, List.set_cons_succ, i64_w, i32_w]
      rfl
    refine take_ (i := 2) (N := some 54) (v := ?_) (a' := ?_) #[true, true, true, false, false, false, false, false, false, false, false, false, false, false, false, false, false, false, false, false, false, false] rfl rfl (take_ofW HT_.out HW_.out (by kernel_rfl)) (fun _ _ _ h => h) (Or.inl ⟨by rfl, ?_⟩) hHeld ?_ ?_
    rotate_left
    · rintro w' ⟨s0, s1, s2, s3, s4, s5, s6, s7, s8, s9, s10, s11, s12, s13⟩
      go_simp
      with_reducible rfl
    rotate_left
    · simp only [Act.put, List.setIfInBounds_toArray, List.set_cons_zero, List.set_cons_succ, i64_w, i32_w]
      rfl
    refine take_ (i := 4) (N := some 56) (v := ?_) (a' := ?_) #[true, true, true, false, true, false, false, false, false, false, false, false, false, false, false, false, false, false, false, false, false, false] rfl rfl (take_ofW HT_.out HW_.out (by kernel_rfl)) (fun _ _ _ h => h) (Or.inl ⟨by rfl, ?_⟩) hHeld ?_ ?_
    rotate_left
    · rintro w' ⟨s0, s1, s2, s3, s4, s5, s6, s7, s8, s9, s10, s11, s12, s13⟩
      go_simp
      with_reducible rfl
    rotate_left
    · simp only [Act.put, List.setIfInBounds_toArray, List.set_cons_zero, List.set_cons_succ, i64_w, i32_w]
      rfl
    refine one_ (i := 3) (N := some 55) #[true, true, true, true, true, false, false, false, false, false, false, false, false, false, false, false, false, false, false, false, false, false] rfl rfl (one_of HT_.out (by kernel_rfl)) (by decide) (fun K hK => ?_)
    refine goes_ Tryd.func14 (by kernel_rfl) rfl #[.agg #[.int .u64 t450, .int .u64 t451, .int .u64 t452, .int .u64 t453, .int .i64 t454]] (by rfl) rfl rfl (by (try simp only [List.map_toArray, List.map_cons, List.map_nil]); first | done | rfl | (simp only [List.length_drop, List.length_take]; rfl)) ?_
    with_reducible refine (tenementlaw07_refStamp.calls t450 t451 t452 t453 t454 t468 t469 t470 t471 t472 _ A53.out).mono ?_
    rintro e w82 ⟨rfl, hb⟩
    refine ⟨_, rfl, ?_⟩
    replace BK412 := Kb_ BK412 hb
    replace BK457 := Kb_ BK457 hb
    replace BK458 := Kb_ BK458 hb
    replace BK466 := Kb_ BK466 hb
    replace BK467 := Kb_ BK467 hb
    replace HB := Ks_ HB hb
    (try clear hb)
    (try clear hb2)
    (try clear hk)
    (try clear hi)
    refine hK.out _ _ ⟨(blk_cell BK457.out 0).trans rfl, (blk_cell BK457.out 1).trans rfl, (blk_cell BK457.out 2).trans rfl, (blk_cell BK457.out 3).trans rfl, (blk_cell BK457.out 4).trans rfl, (blk_cell BK466.out 0).trans rfl, (blk_cell BK466.out 1).trans rfl, (blk_cell BK466.out 2).trans rfl, (blk_cell BK466.out 3).trans rfl, (blk_cell BK466.out 4).trans rfl, (blk_cell BK458.out 0).trans rfl, (blk_cell BK458.out 1).trans rfl, (blk_cell BK467.out 0).trans rfl, (blk_cell BK467.out 1).trans rfl⟩ (fun hHeld => ?_)
    clear hK K
    refine norm_ (a' := ?_) ?_ ?_
    rotate_left
    · show Act.put _ (some 55) _ = _
      simp only [Act.put, List.setIfInBounds_toArray, List.set_cons_zero, List.set_cons_succ, i64_w, i32_w]
      rfl
    refine pure_ (i := 5) (N := some 57) (v := ?_) (a' := ?_) #[true, true, true, true, true, true, false, false, false, false, false, false, false, false, false, false, false, false, false, false, false, false] rfl rfl (any_of HT_.out (by kernel_rfl)) (fun _ _ _ h => h) (Or.inl ⟨by rfl, ?_⟩) ?_ ?_
    rotate_left
    · intro w'
      go_simp
      with_reducible rfl
    rotate_left
    · simp only [Act.put, List.setIfInBounds_toArray, List.set_cons_zero, List.set_cons_succ, i64_w, i32_w]
      rfl
    refine pure_ (i := 6) (N := some 58) (v := ?_) (a' := ?_) #[true, true, true, true, true, true, true, false, false, false, false, false, false, false, false, false, false, false, false, false, false, false] rfl rfl (any_of HT_.out (by kernel_rfl)) (fun _ _ _ h => h) (Or.inl ⟨by rfl, ?_⟩) ?_ ?_
    rotate_left
    · intro w'
      go_simp
      with_reducible rfl
    rotate_left
    · simp only [Act.put, List.setIfInBounds_toArray, List.set_cons_zero, List.set_cons_succ, i64_w, i32_w]
      rfl
    refine pure_ (i := 7) (N := some 59) (v := ?_) (a' := ?_) #[true, true, true, true, true, true, true, true, false, false, false, false, false, false, false, false, false, false, false, false, false, false] rfl rfl (any_of HT_.out (by kernel_rfl)) (fun _ _ _ h => h) (Or.inl ⟨by rfl, ?_⟩) ?_ ?_
    rotate_left
    · intro w'
      go_simp
      with_reducible rfl
    rotate_left
    · simp only [Act.put, List.setIfInBounds_toArray, List.set_cons_zero, List.set_cons_succ, i64_w, i32_w]
      rfl
    refine pure_ (i := 8) (N := some 60) (v := ?_) (a' := ?_) #[true, true, true, true, true, true, true, true, true, false, false, false, false, false, false, false, false, false, false, false, false, false] rfl rfl (any_of HT_.out (by kernel_rfl)) (fun _ _ _ h => h) (Or.inl ⟨by rfl, ?_⟩) ?_ ?_
    rotate_left
    · intro w'
      go_simp
      with_reducible rfl
    rotate_left
    · simp only [Act.put, List.setIfInBounds_toArray, List.set_cons_zero, List.set_cons_succ, i64_w, i32_w]
      rfl
    refine pure_ (i := 10) (N := some 62) (v := ?_) (a' := ?_) #[true, true, true, true, true, true, true, true, true, false, true, false, false, false, false, false, false, false, false, false, false, false] rfl rfl (any_of HT_.out (by kernel_rfl)) (fun _ _ _ h => h) (Or.inl ⟨by rfl, ?_⟩) ?_ ?_
    rotate_left
    · intro w'
      go_simp
      with_reducible rfl
    rotate_left
    · simp only [Act.put, List.setIfInBounds_toArray, List.set_cons_zero, List.set_cons_succ, i64_w, i32_w]
      rfl
    refine take_ (i := 9) (N := some 61) (v := ?_) (a' := ?_) #[true, true, true, true, true, true, true, true, true, true, true, false, false, false, false, false, false, false, false, false, false, false] rfl rfl (take_ofW HT_.out HW_.out (by kernel_rfl)) (fun _ _ _ h => h) (Or.inl ⟨by rfl, ?_⟩) hHeld ?_ ?_
    rotate_left
    · rintro w' ⟨s0, s1, s2, s3, s4, s5, s6, s7, s8, s9, s10, s11, s12, s13⟩
      go_simp
      with_reducible rfl
    rotate_left
    · simp only [Act.put, List.setIfInBounds_toArray, List.set_cons_zero, List.set_cons_succ, i64_w, i32_w]
      rfl
    refine take_ (i := 11) (N := some 63) (v := ?_) (a' := ?_) #[true, true, true, true, true, true, true, true, true, true, true, true, false, false, false, false, false, false, false, false, false, false] rfl rfl (take_ofW HT_.out HW_.out (by kernel_rfl)) (fun _ _ _ h => h) (Or.inl ⟨by rfl, ?_⟩) hHeld ?_ ?_
    rotate_left
    · rintro w' ⟨s0, s1, s2, s3, s4, s5, s6, s7, s8, s9, s10, s11, s12, s13⟩
      go_simp
      with_reducible rfl
    rotate_left
    · simp only [Act.put, List.setIfInBounds_toArray, List.set_cons_zero, List.set_cons_succ, i64_w, i32_w]
      rfl
    refine pure_ (i := 12) (N := some 64) (v := ?_) (a' := ?_) #[true, true, true, true, true, true, true, true, true, true, true, true, true, false, false, false, false, false, false, false, false, false] rfl rfl (any_of HT_.out (by kernel_rfl)) (fun _ _ _ h => h) (Or.inl ⟨by rfl, ?_⟩) ?_ ?_
    rotate_left
    · intro w'
      go_simp
      with_reducible rfl
    rotate_left
    · simp only [Act.put, List.setIfInBounds_toArray, List.set_cons_zero, List.set_cons_succ, i64_w, i32_w]
      rfl
    refine pure_ (i := 13) (N := some 65) (v := ?_) (a' := ?_) #[true, true, true, true, true, true, true, true, true, true, true, true, true, true, false, false, false, false, false, false, false, false] rfl rfl (any_of HT_.out (by kernel_rfl)) (fun _ _ _ h => h) (Or.inl ⟨by rfl, ?_⟩) ?_ ?_
    rotate_left
    · intro w'
      go_simp
      with_reducible rfl
    rotate_left
    · simp only [Act.put, List.setIfInBounds_toArray, List.set_cons_zero, List.set_cons_succ, i64_w, i32_w]
      rfl
    refine pure_ (i := 14) (N := some 66) (v := ?_) (a' := ?_) #[true, true, true, true, true, true, true, true, true, true, true, true, true, true, true, false, false, false, false, false, false, false] rfl rfl (any_of HT_.out (by kernel_rfl)) (fun _ _ _ h => h) (Or.inl ⟨by rfl, ?_⟩) ?_ ?_
    rotate_left
    · intro w'
      go_simp
      with_reducible rfl
    rotate_left
    · simp only [Act.put, List.setIfInBounds_toArray, List.set_cons_zero, List.set_cons_succ, i64_w, i32_w]
      rfl
    refine pure_ (i := 15) (N := some 67) (v := ?_) (a' := ?_) #[true, true, true, true, true, true, true, true, true, true, true, true, true, true, true, true, false, false, false, false, false, false] rfl rfl (any_of HT_.out (by kernel_rfl)) (fun _ _ _ h => h) (Or.inl ⟨by rfl, ?_⟩) ?_ ?_
    rotate_left
    · intro w'
      go_simp
      with_reducible rfl
    rotate_left
    · simp only [Act.put, List.setIfInBounds_toArray, List.set_cons_zero, List.set_cons_succ, i64_w, i32_w]
      rfl
    refine pure_ (i := 17) (N := some 69) (v := ?_) (a' := ?_) #[true, true, true, true, true, true, true, true, true, true, true, true, true, true, true, true, false, true, false, false, false, false] rfl rfl (any_of HT_.out (by kernel_rfl)) (fun _ _ _ h => h) (Or.inl ⟨by rfl, ?_⟩) ?_ ?_
    rotate_left
    · intro w'
      go_simp
      with_reducible rfl
    rotate_left
    · simp only [Act.put, List.setIfInBounds_toArray, List.set_cons_zero, List.set_cons_succ, i64_w, i32_w]
      rfl
    refine take_ (i := 16) (N := some 68) (v := ?_) (a' := ?_) #[true, true, true, true, true, true, true, true, true, true, true, true, true, true, true, true, true, true, false, false, false, false] rfl rfl (take_ofW HT_.out HW_.out (by kernel_rfl)) (fun _ _ _ h => h) (Or.inl ⟨by rfl, ?_⟩) hHeld ?_ ?_
    rotate_left
    · rintro w' ⟨s0, s1, s2, s3, s4, s5, s6, s7, s8, s9, s10, s11, s12, s13⟩
      go_simp
      with_reducible rfl
    rotate_left
    · simp only [Act.put, List.setIfInBounds_toArray, List.set_cons_zero, List.set_cons_succ, i64_w, i32_w]
      rfl
    refine take_ (i := 18) (N := some 70) (v := ?_) (a' := ?_) #[true, true, true, true, true, true, true, true, true, true, true, true, true, true, true, true, true, true, true, false, false, false] rfl rfl (take_ofW HT_.out HW_.out (by kernel_rfl)) (fun _ _ _ h => h) (Or.inl ⟨by rfl, ?_⟩) hHeld ?_ ?_
    rotate_left
    · rintro w' ⟨s0, s1, s2, s3, s4, s5, s6, s7, s8, s9, s10, s11, s12, s13⟩
      go_simp
      with_reducible rfl
    rotate_left
    · simp only [Act.put, List.setIfInBounds_toArray, List.set_cons_zero, List.set_cons_succ, i64_w, i32_w]
      rfl
    refine pure_ (i := 19) (N := some 71) (v := ?_) (a' := ?_) #[true, true, true, true, true, true, true, true, true, true, true, true, true, true, true, true, true, true, true, true, false, false] rfl rfl (any_of HT_.out (by kernel_rfl)) (fun _ _ _ h => h) (Or.inl ⟨by rfl, ?_⟩) ?_ ?_
    rotate_left
    · intro w'
      go_simp
      with_reducible rfl
    rotate_left
    · simp only [Act.put, List.setIfInBounds_toArray, List.set_cons_zero, List.set_cons_succ, i64_w, i32_w]
      rfl
    refine pure_ (i := 20) (N := some 72) (v := ?_) (a' := ?_) #[true, true, true, true, true, true, true, true, true, true, true, true, true, true, true, true, true, true, true, true, true, false] rfl rfl (any_of HT_.out (by kernel_rfl)) (fun _ _ _ h => h) (Or.inl ⟨by rfl, ?_⟩) ?_ ?_
    rotate_left
    · intro w'
      go_simp
      with_reducible rfl
    rotate_left
    · simp only [Act.put, List.setIfInBounds_toArray, List.set_cons_zero, List.set_cons_succ, i64_w, i32_w]
      rfl
    refine pure_ (i := 21) (N := some 12) (v := ?_) (a' := ?_) #[true, true, true, true, true, true, true, true, true, true, true, true, true, true, true, true, true, true, true, true, true, true] rfl rfl (any_of HT_.out (by kernel_rfl)) (fun _ _ _ h => h) (Or.inl ⟨by rfl, ?_⟩) ?_ ?_
    rotate_left
    · intro w'
      go_simp
      with_reducible rfl
    rotate_left
    · simp only [Act.put, List.setIfInBounds_toArray, List.set_cons_zero, List.set_cons_succ, i64_w, i32_w]
      rfl
    refine done_ (done_of HT_.out (by kernel_rfl)) ?_
    try go_wp2
    go_ret
    exact ⟨by first | rfl | (simp [errW_none, errW_some] <;> rfl) | (simp [*, errW_none, errW_some] <;> rfl), by repeat (first | (with_reducible first | exact HB.out | apply below_alloc | apply pw_below_drewN | apply below_drew1 | refine below_set ?_ GE412.out | refine below_set ?_ GE457.out | refine below_set ?_ GE458.out | refine below_set ?_ GE466.out | refine below_set ?_ GE467.out) | exact HB.out)⟩
  subst c9
  have H1 : ((tenementlaw07_Mark_mark.f k a0_0 a0_1 a0_2 a0_3 a0_4 true).bind fun bt414 => ((tenementlaw07_refStamp.f bt414.1 bt414.2.1 bt414.2.2.1 bt414.2.2.2.1 bt414.2.2.2.2).bind fun bt419 => ((tenementref07_Put.f k bt419.1 bt419.2.1 bt419.2.2.1 bt419.2.2.2.1 bt419.2.2.2.2).bind fun bt424 => (if bt424.1.size + a1.size ≤ 9223372036854775807 then ((tenementlaw07_bend.f (bt424.1 ++ a1) a3 a4).bind fun t426 => ((stamp_Get.f k t426 a5).bind fun bt427 => ((tenementref07_Get.f k t426 a5).bind fun bt436 => ((tenementlaw07_refStamp.f bt427.1 bt427.2.1 bt427.2.2.1 bt427.2.2.2.1 bt427.2.2.2.2.1).bind fun bt445 => (if ((bt445.1 == bt436.1 && (bt445.2.1 == bt436.2.1 && (bt445.2.2.1 == bt436.2.2.1 && (bt445.2.2.2.1 == bt436.2.2.2.1)))) && (bt445.2.2.2.2 == bt436.2.2.2.2.1)) = true then (if bt427.2.2.2.2.2.1.toList = bt436.2.2.2.2.2.1.toList then (if bt427.2.2.2.2.2.2 = bt436.2.2.2.2.2.2 then (some true) else (none)) else (none)) else (none)))))) else (none))))) = some r := by rw [if_pos rfl] at H; exact H
  clear H
  have H := H1
  clear H1
  replace H := Option.bind_eq_some_iff.mp H
  obtain ⟨⟨t414, t415, t416, t417, t418⟩, A100, H⟩ := H
  replace H : ((tenementlaw07_refStamp.f t414 t415 t416 t417 t418).bind fun bt419 => ((tenementref07_Put.f k bt419.1 bt419.2.1 bt419.2.2.1 bt419.2.2.2.1 bt419.2.2.2.2).bind fun bt424 => (if bt424.1.size + a1.size ≤ 9223372036854775807 then ((tenementlaw07_bend.f (bt424.1 ++ a1) a3 a4).bind fun t426 => ((stamp_Get.f k t426 a5).bind fun bt427 => ((tenementref07_Get.f k t426 a5).bind fun bt436 => ((tenementlaw07_refStamp.f bt427.1 bt427.2.1 bt427.2.2.1 bt427.2.2.2.1 bt427.2.2.2.2.1).bind fun bt445 => (if ((bt445.1 == bt436.1 && (bt445.2.1 == bt436.2.1 && (bt445.2.2.1 == bt436.2.2.1 && (bt445.2.2.2.1 == bt436.2.2.2.1)))) && (bt445.2.2.2.2 == bt436.2.2.2.2.1)) = true then (if bt427.2.2.2.2.2.1.toList = bt436.2.2.2.2.2.1.toList then (if bt427.2.2.2.2.2.2 = bt436.2.2.2.2.2.2 then (some true) else (none)) else (none)) else (none)))))) else (none)))) = some r := H
  have A10 := Aside0.mk A100
  clear A100
  replace H := Option.bind_eq_some_iff.mp H
  obtain ⟨⟨t419, t420, t421, t422, t423⟩, A110, H⟩ := H
  replace H : ((tenementref07_Put.f k t419 t420 t421 t422 t423).bind fun bt424 => (if bt424.1.size + a1.size ≤ 9223372036854775807 then ((tenementlaw07_bend.f (bt424.1 ++ a1) a3 a4).bind fun t426 => ((stamp_Get.f k t426 a5).bind fun bt427 => ((tenementref07_Get.f k t426 a5).bind fun bt436 => ((tenementlaw07_refStamp.f bt427.1 bt427.2.1 bt427.2.2.1 bt427.2.2.2.1 bt427.2.2.2.2.1).bind fun bt445 => (if ((bt445.1 == bt436.1 && (bt445.2.1 == bt436.2.1 && (bt445.2.2.1 == bt436.2.2.1 && (bt445.2.2.2.1 == bt436.2.2.2.1)))) && (bt445.2.2.2.2 == bt436.2.2.2.2.1)) = true then (if bt427.2.2.2.2.2.1.toList = bt436.2.2.2.2.2.1.toList then (if bt427.2.2.2.2.2.2 = bt436.2.2.2.2.2.2 then (some true) else (none)) else (none)) else (none)))))) else (none))) = some r := H
  have A11 := Aside0.mk A110
  clear A110
  replace H := Option.bind_eq_some_iff.mp H
  obtain ⟨⟨t424, t425⟩, A120, H⟩ := H
  replace H : (if t424.size + a1.size ≤ 9223372036854775807 then ((tenementlaw07_bend.f (t424 ++ a1) a3 a4).bind fun t426 => ((stamp_Get.f k t426 a5).bind fun bt427 => ((tenementref07_Get.f k t426 a5).bind fun bt436 => ((tenementlaw07_refStamp.f bt427.1 bt427.2.1 bt427.2.2.1 bt427.2.2.2.1 bt427.2.2.2.2.1).bind fun bt445 => (if ((bt445.1 == bt436.1 && (bt445.2.1 == bt436.2.1 && (bt445.2.2.1 == bt436.2.2.1 && (bt445.2.2.2.1 == bt436.2.2.2.1)))) && (bt445.2.2.2.2 == bt436.2.2.2.2.1)) = true then (if bt427.2.2.2.2.2.1.toList = bt436.2.2.2.2.2.1.toList then (if bt427.2.2.2.2.2.2 = bt436.2.2.2.2.2.2 then (some true) else (none)) else (none)) else (none)))))) else (none)) = some r := H
  have A12 := Aside0.mk A120
  clear A120
  by_cases c13 : t424.size + a1.size ≤ 9223372036854775807
  rotate_left
  · rw [if_neg c13] at H
    exact absurd H (by simp)
  rw [if_pos c13] at H
  have c13b0 := eq_true c13
  have c13b1 : decide (t424.size + a1.size ≤ 9223372036854775807) = true := decide_eq_true c13
  try have c13b2 : (9223372036854775807 < t424.size + a1.size) = False := eq_false (Nat.not_lt.2 c13)
  replace H := Option.bind_eq_some_iff.mp H
  obtain ⟨t426, A140, H⟩ := H
  replace H : ((stamp_Get.f k t426 a5).bind fun bt427 => ((tenementref07_Get.f k t426 a5).bind fun bt436 => ((tenementlaw07_refStamp.f bt427.1 bt427.2.1 bt427.2.2.1 bt427.2.2.2.1 bt427.2.2.2.2.1).bind fun bt445 => (if ((bt445.1 == bt436.1 && (bt445.2.1 == bt436.2.1 && (bt445.2.2.1 == bt436.2.2.1 && (bt445.2.2.2.1 == bt436.2.2.2.1)))) && (bt445.2.2.2.2 == bt436.2.2.2.2.1)) = true then (if bt427.2.2.2.2.2.1.toList = bt436.2.2.2.2.2.1.toList then (if bt427.2.2.2.2.2.2 = bt436.2.2.2.2.2.2 then (some true) else (none)) else (none)) else (none))))) = some r := H
  have A14 := Aside0.mk A140
  clear A140
  replace H := Option.bind_eq_some_iff.mp H
  obtain ⟨⟨t427, t428, t429, t430, t431, t432, t433⟩, A150, H⟩ := H
  replace H : ((tenementref07_Get.f k t426 a5).bind fun bt436 => ((tenementlaw07_refStamp.f t427 t428 t429 t430 t431).bind fun bt445 => (if ((bt445.1 == bt436.1 && (bt445.2.1 == bt436.2.1 && (bt445.2.2.1 == bt436.2.2.1 && (bt445.2.2.2.1 == bt436.2.2.2.1)))) && (bt445.2.2.2.2 == bt436.2.2.2.2.1)) = true then (if t432.toList = bt436.2.2.2.2.2.1.toList then (if t433 = bt436.2.2.2.2.2.2 then (some true) else (none)) else (none)) else (none)))) = some r := H
  have A15 := Aside0.mk A150
  clear A150
  replace H := Option.bind_eq_some_iff.mp H
  obtain ⟨⟨t436, t437, t438, t439, t440, t441, t442⟩, A160, H⟩ := H
  replace H : ((tenementlaw07_refStamp.f t427 t428 t429 t430 t431).bind fun bt445 => (if ((bt445.1 == t436 && (bt445.2.1 == t437 && (bt445.2.2.1 == t438 && (bt445.2.2.2.1 == t439)))) && (bt445.2.2.2.2 == t440)) = true then (if t432.toList = t441.toList then (if t433 = t442 then (some true) else (none)) else (none)) else (none))) = some r := H
  have A16 := Aside0.mk A160
  clear A160
  replace H := Option.bind_eq_some_iff.mp H
  obtain ⟨⟨t445, t446, t447, t448, t449⟩, A170, H⟩ := H
  replace H : (if ((t445 == t436 && (t446 == t437 && (t447 == t438 && (t448 == t439)))) && (t449 == t440)) = true then (if t432.toList = t441.toList then (if t433 = t442 then (some true) else (none)) else (none)) else (none)) = some r := H
  have A17 := Aside0.mk A170
  clear A170
  by_cases c18 : ((t445 == t436 && (t446 == t437 && (t447 == t438 && (t448 == t439)))) && (t449 == t440)) = true
  rotate_left
  · rw [if_neg c18] at H
    exact absurd H (by simp)
  rw [if_pos c18] at H
  have c18b0 : ((t445 == t436 && (t446 == t437 && (t447 == t438 && (t448 == t439)))) && (t449 == t440)) = true := c18
  clear c18
  by_cases c19 : t432.toList = t441.toList
  rotate_left
  · rw [if_neg c19] at H
    exact absurd H (by simp)
  rw [if_pos c19] at H
  have c19b0 : (t432.toList == t441.toList) = true := beq_iff_eq.mpr c19
  have c19b1 : (t432.toList != t441.toList) = false := bne_eq_false_iff_eq.mpr c19
  clear c19
  by_cases c20 : t433 = t442
  rotate_left
  · rw [if_neg c20] at H
    exact absurd H (by simp)
  subst c20
  have H1 : (some true) = some r := by rw [if_pos rfl] at H; exact H
  clear H
  have H := H1
  clear H1
  obtain rfl := Option.some.inj H
  go_enter Tryd.func4, Tryd.ntmps4
  try go_wp2_with (first | ((with_reducible refine gate_dst (N := 6) rfl ?_); refine box_event ?hg (N := 6) ?hd (cs := #[.int .u64 a0_0, .int .u64 a0_1, .int .u64 a0_2, .int .u64 a0_3, .int .i64 a0_4, .bool a0_5]) (t := 28) ?hr ?_; (case hd => rfl); (case hg => rfl); (case hr => first | (go_simp; done) | (go_simp; rfl)); intro gb412 hg w21 hbox hb; have BK412 := Aside0.mk (hbox); have GW412 := Kw_ HB hg; have GE412 := GW412; replace HB := Ks_ HB hb; clear hb hbox hg) | ((with_reducible refine gate_callee (f := 9) rfl ?_); refine goesL_ (some 20) rfl rfl Tryd.func9 (by kernel_rfl) rfl #[] rfl (by (try simp only [List.map_toArray, List.map_cons, List.map_nil]); first | done | rfl | (simp only [List.length_drop, List.length_take]; rfl)) ?_; (with_reducible refine (tenementlaw07_examples.calls k  true _ A7.out).mono ?_); rintro e w22 ⟨rfl, hb⟩; refine ⟨_, rfl, ?_⟩; replace BK412 := Kb_ BK412 hb; replace HB := Ks_ HB hb; (try clear hb); (try clear hb2); (try clear hk); (try clear hi); have hcz23_0 : w22.cell? ⟨gb412, 0, none⟩ = some (.int .u64 a0_0) := (blk_cell BK412.out 0).trans rfl; have hcz23_1 : w22.cell? ⟨gb412, 1, none⟩ = some (.int .u64 a0_1) := (blk_cell BK412.out 1).trans rfl; have hcz23_2 : w22.cell? ⟨gb412, 2, none⟩ = some (.int .u64 a0_2) := (blk_cell BK412.out 2).trans rfl; have hcz23_3 : w22.cell? ⟨gb412, 3, none⟩ = some (.int .u64 a0_3) := (blk_cell BK412.out 3).trans rfl; have hcz23_4 : w22.cell? ⟨gb412, 4, none⟩ = some (.int .i64 a0_4) := (blk_cell BK412.out 4).trans rfl; have hcz23_5 : w22.cell? ⟨gb412, 5, none⟩ = some (.bool a0_5) := (blk_cell BK412.out 5).trans rfl; have hfz23_0 := blk_frozen BK412.out 0; have hfz23_1 := blk_frozen BK412.out 1; have hfz23_2 := blk_frozen BK412.out 2; have hfz23_3 := blk_frozen BK412.out 3; have hfz23_4 := blk_frozen BK412.out 4; have hfz23_5 := blk_frozen BK412.out 5) | ((with_reducible refine gate_callee (f := 10) rfl ?_); refine goesL_ (some 27) rfl rfl Tryd.func10 (by kernel_rfl) rfl #[.agg #[.int .u64 a0_0, .int .u64 a0_1, .int .u64 a0_2, .int .u64 a0_3, .int .i64 a0_4, .bool true]] rfl (by (try simp only [List.map_toArray, List.map_cons, List.map_nil]); first | done | rfl | (simp only [List.length_drop, List.length_take]; rfl)) ?_; (with_reducible refine (tenementlaw07_Mark_mark.calls k a0_0 a0_1 a0_2 a0_3 a0_4 true t414 t415 t416 t417 t418 _ A10.out).mono ?_); rintro e w24 ⟨rfl, hb⟩; refine ⟨_, rfl, ?_⟩; replace BK412 := Aside0.mk (blk_below (g := gb412) (o := .cells #[.int .u64 a0_0, .int .u64 a0_1, .int .u64 a0_2, .int .u64 a0_3, .int .i64 a0_4, .bool true] 28 (0, 0)) (by (with_reducible repeat (first | refine blk_drewN ?_ _ | refine blk_drew ?_ | refine blk_alloc ?_ _)); refine blk_put (cs := #[.int .u64 a0_0, .int .u64 a0_1, .int .u64 a0_2, .int .u64 a0_3, .int .i64 a0_4, .bool a0_5]) ?_ 5 _ rfl; (with_reducible repeat (first | refine blk_drewN ?_ _ | refine blk_drew ?_ | refine blk_alloc ?_ _)); exact BK412.out) hb); replace HB := Kt_ HB GE412 hb; (try clear hb); (try clear hb2); (try clear hk); (try clear hi)) | ((with_reducible refine gate_callee (f := 14) rfl ?_); refine goesL_ (some 28) rfl rfl Tryd.func14 (by kernel_rfl) rfl #[.agg #[.int .u64 t414, .int .u64 t415, .int .u64 t416, .int .u64 t417, .int .i64 t418]] rfl (by (try simp only [List.map_toArray, List.map_cons, List.map_nil]); first | done | rfl | (simp only [List.length_drop, List.length_take]; rfl)) ?_; (with_reducible refine (tenementlaw07_refStamp.calls t414 t415 t416 t417 t418 t419 t420 t421 t422 t423 _ A11.out).mono ?_); rintro e w25 ⟨rfl, hb⟩; refine ⟨_, rfl, ?_⟩; replace BK412 := Kb_ BK412 hb; replace HB := Ks_ HB hb; (try clear hb); (try clear hb2); (try clear hk); (try clear hi)) | ((with_reducible refine gate_callee (f := 13) rfl ?_); refine goesL_ (some 29) rfl rfl Tryd.func13 (by kernel_rfl) rfl #[.agg #[.int .u64 t419, .int .u64 t420, .int .u64 t421, .int .u64 t422, .int .i64 t423]] rfl (by (try simp only [List.map_toArray, List.map_cons, List.map_nil]); first | done | rfl | (simp only [List.length_drop, List.length_take]; rfl)) ?_; (with_reducible refine (tenementref07_Put.calls k t419 t420 t421 t422 t423 t424 t425 _ A12.out).mono ?_); rintro e w26 ⟨rfl, hb⟩; refine ⟨_, rfl, ?_⟩; replace BK412 := Kb_ BK412 hb; replace HB := Ks_ HB hb; (try clear hb); (try clear hb2); (try clear hk); (try clear hi)) | ((with_reducible refine gate_callee (f := 27) rfl ?_); refine goesL_ (some 37) rfl rfl Tryd.func27 (by kernel_rfl) rfl #[.string (t424 ++ a1), .int .i64 a3, .int .u8 a4] rfl (by (try simp only [List.map_toArray, List.map_cons, List.map_nil]); first | done | rfl | (simp only [List.length_drop, List.length_take]; rfl)) ?_; (with_reducible refine (tenementlaw07_bend.calls (t424 ++ a1) a3 a4 t426 _ A14.out).mono ?_); rintro e w27 ⟨rfl, hb⟩; refine ⟨_, rfl, ?_⟩; replace BK412 := Kb_ BK412 hb; replace HB := Ks_ HB hb; (try clear hb); (try clear hb2); (try clear hk); (try clear hi)) | ((with_reducible refine gate_callee (f := 28) rfl ?_); refine goesL_ (some 42) rfl rfl Tryd.func28 (by kernel_rfl) rfl #[.agg #[.string t426, .bool a5]] rfl (by (try simp only [List.map_toArray, List.map_cons, List.map_nil]); first | done | rfl | (simp only [List.length_drop, List.length_take]; rfl)) ?_; (with_reducible refine (stamp_Get.calls k t426 a5 t427 t428 t429 t430 t431 t432 t433 _ A15.out).mono ?_); rintro e w28 ⟨rfl, hb⟩; refine ⟨_, rfl, ?_⟩; replace BK412 := Kb_ BK412 hb; replace HB := Ks_ HB hb; (try clear hb); (try clear hb2); (try clear hk); (try clear hi)) | ((with_reducible refine gate_dst (N := 16) rfl ?_); refine box_event ?hg (N := 16) ?hd (cs := #[.int .u64 0, .int .u64 0, .int .u64 0, .int .u64 0, .int .i64 0]) (t := 26) ?hr ?_; (case hd => rfl); (case hg => rfl); (case hr => first | (go_simp; done) | (go_simp; rfl)); intro gb434 hg w29 hbox hb; have BK434 := Aside0.mk (hbox); have GW434 := Kw_ HB hg; have GE434 := GW434; have NB412_434 := Kl_ BK412 hg; have NB434_412 := Kr_ BK412 hg; replace BK412 := Kb_ BK412 hb; replace HB := Ks_ HB hb; clear hb hbox hg) | ((with_reducible refine gate_dst (N := 17) rfl ?_); refine box_event ?hg (N := 17) ?hd (cs := #[.string (⟨#[]⟩ : ByteArray), .bool false]) (t := 55) ?hr ?_; (case hd => rfl); (case hg => rfl); (case hr => first | (go_simp; done) | (go_simp; rfl)); intro gb435 hg w30 hbox hb; have BK435 := Aside0.mk (hbox); have GW435 := Kw_ HB hg; have GE435 := GW435; have NB412_435 := Kl_ BK412 hg; have NB435_412 := Kr_ BK412 hg; have NB434_435 := Kl_ BK434 hg; have NB435_434 := Kr_ BK434 hg; replace BK412 := Kb_ BK412 hb; replace BK434 := Kb_ BK434 hb; replace HB := Ks_ HB hb; clear hb hbox hg; have hnb31 := NB434_412.out; have hnc31 := NB412_434.out; have hnb32 := NB434_435.out; have hnc32 := NB435_434.out; have hcz33_0 : w30.cell? ⟨gb434, 0, none⟩ = some (.int .u64 0) := (blk_cell BK434.out 0).trans rfl; have hcz33_1 : w30.cell? ⟨gb434, 1, none⟩ = some (.int .u64 0) := (blk_cell BK434.out 1).trans rfl; have hcz33_2 : w30.cell? ⟨gb434, 2, none⟩ = some (.int .u64 0) := (blk_cell BK434.out 2).trans rfl; have hcz33_3 : w30.cell? ⟨gb434, 3, none⟩ = some (.int .u64 0) := (blk_cell BK434.out 3).trans rfl; have hcz33_4 : w30.cell? ⟨gb434, 4, none⟩ = some (.int .i64 0) := (blk_cell BK434.out 4).trans rfl; have hfz33_0 := blk_frozen BK434.out 0; have hfz33_1 := blk_frozen BK434.out 1; have hfz33_2 := blk_frozen BK434.out 2; have hfz33_3 := blk_frozen BK434.out 3; have hfz33_4 := blk_frozen BK434.out 4; have hnb34 := NB435_412.out; have hnc34 := NB412_435.out; have hcz35_0 : w30.cell? ⟨gb435, 0, none⟩ = some (.string (⟨#[]⟩ : ByteArray)) := (blk_cell BK435.out 0).trans rfl; have hcz35_1 : w30.cell? ⟨gb435, 1, none⟩ = some (.bool false) := (blk_cell BK435.out 1).trans rfl; have hfz35_0 := blk_frozen BK435.out 0; have hfz35_1 := blk_frozen BK435.out 1) | ((with_reducible refine gate_callee (f := 29) rfl ?_); refine goesL_ (some 49) rfl rfl Tryd.func29 (by kernel_rfl) rfl #[.agg #[.string t426, .bool a5]] rfl (by (try simp only [List.map_toArray, List.map_cons, List.map_nil]); first | done | rfl | (simp only [List.length_drop, List.length_take]; rfl)) ?_; (with_reducible refine (tenementref07_Get.calls k t426 a5 t436 t437 t438 t439 t440 t441 t433 _ A16.out).mono ?_); rintro e w36 ⟨rfl, hb⟩; refine ⟨_, rfl, ?_⟩; replace BK412 := Aside0.mk (blk_below (g := gb412) (o := .cells #[.int .u64 a0_0, .int .u64 a0_1, .int .u64 a0_2, .int .u64 a0_3, .int .i64 a0_4, .bool true] 28 (0, 0)) (by (repeat (first | (with_reducible first | refine blk_drewN ?_ _ | refine blk_drew ?_ | refine blk_alloc ?_ _) | refine blk_far ?_ NB412_435.out _ | refine blk_far ?_ NB412_434.out _)); exact BK412.out) hb); replace BK434 := Aside0.mk (blk_below (g := gb434) (o := .cells #[.int .u64 t427, .int .u64 t428, .int .u64 t429, .int .u64 t430, .int .i64 t431] 26 (0, 0)) (by (repeat (first | (with_reducible first | refine blk_drewN ?_ _ | refine blk_drew ?_ | refine blk_alloc ?_ _) | refine blk_far ?_ NB434_435.out _)); refine blk_put (cs := #[.int .u64 t427, .int .u64 t428, .int .u64 t429, .int .u64 t430, .int .i64 0]) ?_ 4 _ rfl; (with_reducible repeat (first | refine blk_drewN ?_ _ | refine blk_drew ?_ | refine blk_alloc ?_ _)); refine blk_put (cs := #[.int .u64 t427, .int .u64 t428, .int .u64 t429, .int .u64 0, .int .i64 0]) ?_ 3 _ rfl; (with_reducible repeat (first | refine blk_drewN ?_ _ | refine blk_drew ?_ | refine blk_alloc ?_ _)); refine blk_put (cs := #[.int .u64 t427, .int .u64 t428, .int .u64 0, .int .u64 0, .int .i64 0]) ?_ 2 _ rfl; (with_reducible repeat (first | refine blk_drewN ?_ _ | refine blk_drew ?_ | refine blk_alloc ?_ _)); refine blk_put (cs := #[.int .u64 t427, .int .u64 0, .int .u64 0, .int .u64 0, .int .i64 0]) ?_ 1 _ rfl; (with_reducible repeat (first | refine blk_drewN ?_ _ | refine blk_drew ?_ | refine blk_alloc ?_ _)); refine blk_put (cs := #[.int .u64 0, .int .u64 0, .int .u64 0, .int .u64 0, .int .i64 0]) ?_ 0 _ rfl; (with_reducible repeat (first | refine blk_drewN ?_ _ | refine blk_drew ?_ | refine blk_alloc ?_ _)); exact BK434.out) hb); replace BK435 := Aside0.mk (blk_below (g := gb435) (o := .cells #[.string t432, .bool t433] 55 (0, 0)) (by (with_reducible repeat (first | refine blk_drewN ?_ _ | refine blk_drew ?_ | refine blk_alloc ?_ _)); refine blk_put (cs := #[.string t432, .bool false]) ?_ 1 _ rfl; (with_reducible repeat (first | refine blk_drewN ?_ _ | refine blk_drew ?_ | refine blk_alloc ?_ _)); refine blk_put (cs := #[.string (⟨#[]⟩ : ByteArray), .bool false]) ?_ 0 _ rfl; (repeat (first | (with_reducible first | refine blk_drewN ?_ _ | refine blk_drew ?_ | refine blk_alloc ?_ _) | refine blk_far ?_ NB435_434.out _)); exact BK435.out) hb); replace HB := Aside0.mk (below_step (by repeat (first | (with_reducible first | exact HB.out | apply below_alloc | apply pw_below_drewN | apply below_drew1 | refine below_set ?_ GE412.out | refine below_set ?_ GE434.out | refine below_set ?_ GE435.out) | exact HB.out)) hb); (try clear hb); (try clear hb2); (try clear hk); (try clear hi)) | ((with_reducible refine gate_dst (N := 18) rfl ?_); refine box_event ?hg (N := 18) ?hd (cs := #[.int .u64 0, .int .u64 0, .int .u64 0, .int .u64 0, .int .i64 0]) (t := 39) ?hr ?_; (case hd => rfl); (case hg => rfl); (case hr => first | (go_simp; done) | (go_simp; rfl)); intro gb443 hg w37 hbox hb; have BK443 := Aside0.mk (hbox); have GW443 := Kw_ HB hg; have GE443 := GW443; have NB412_443 := Kl_ BK412 hg; have NB443_412 := Kr_ BK412 hg; have NB434_443 := Kl_ BK434 hg; have NB443_434 := Kr_ BK434 hg; have NB435_443 := Kl_ BK435 hg; have NB443_435 := Kr_ BK435 hg; replace BK412 := Kb_ BK412 hb; replace BK434 := Kb_ BK434 hb; replace BK435 := Kb_ BK435 hb; replace HB := Ks_ HB hb; clear hb hbox hg) | ((with_reducible refine gate_dst (N := 19) rfl ?_); refine box_event ?hg (N := 19) ?hd (cs := #[.string (⟨#[]⟩ : ByteArray), .bool false]) (t := 58) ?hr ?_; (case hd => rfl); (case hg => rfl); (case hr => first | (go_simp; done) | (go_simp; rfl)); intro gb444 hg w38 hbox hb; have BK444 := Aside0.mk (hbox); have GW444 := Kw_ HB hg; have GE444 := GW444; have NB412_444 := Kl_ BK412 hg; have NB444_412 := Kr_ BK412 hg; have NB434_444 := Kl_ BK434 hg; have NB444_434 := Kr_ BK434 hg; have NB435_444 := Kl_ BK435 hg; have NB444_435 := Kr_ BK435 hg; have NB443_444 := Kl_ BK443 hg; have NB444_443 := Kr_ BK443 hg; replace BK412 := Kb_ BK412 hb; replace BK434 := Kb_ BK434 hb; replace BK435 := Kb_ BK435 hb; replace BK443 := Kb_ BK443 hb; replace HB := Ks_ HB hb; clear hb hbox hg; have hnb39 := NB443_412.out; have hnc39 := NB412_443.out; have hnb40 := NB443_434.out; have hnc40 := NB434_443.out; have hnb41 := NB443_435.out; have hnc41 := NB435_443.out; have hnb42 := NB443_444.out; have hnc42 := NB444_443.out; have hcz43_0 : w38.cell? ⟨gb443, 0, none⟩ = some (.int .u64 0) := (blk_cell BK443.out 0).trans rfl; have hcz43_1 : w38.cell? ⟨gb443, 1, none⟩ = some (.int .u64 0) := (blk_cell BK443.out 1).trans rfl; have hcz43_2 : w38.cell? ⟨gb443, 2, none⟩ = some (.int .u64 0) := (blk_cell BK443.out 2).trans rfl; have hcz43_3 : w38.cell? ⟨gb443, 3, none⟩ = some (.int .u64 0) := (blk_cell BK443.out 3).trans rfl; have hcz43_4 : w38.cell? ⟨gb443, 4, none⟩ = some (.int .i64 0) := (blk_cell BK443.out 4).trans rfl; have hfz43_0 := blk_frozen BK443.out 0; have hfz43_1 := blk_frozen BK443.out 1; have hfz43_2 := blk_frozen BK443.out 2; have hfz43_3 := blk_frozen BK443.out 3; have hfz43_4 := blk_frozen BK443.out 4; have hnb44 := NB444_412.out; have hnc44 := NB412_444.out; have hnb45 := NB444_434.out; have hnc45 := NB434_444.out; have hnb46 := NB444_435.out; have hnc46 := NB435_444.out; have hcz47_0 : w38.cell? ⟨gb444, 0, none⟩ = some (.string (⟨#[]⟩ : ByteArray)) := (blk_cell BK444.out 0).trans rfl; have hcz47_1 : w38.cell? ⟨gb444, 1, none⟩ = some (.bool false) := (blk_cell BK444.out 1).trans rfl; have hfz47_0 := blk_frozen BK444.out 0; have hfz47_1 := blk_frozen BK444.out 1))
  have n0_ : Aside0 ((((((((w38.setCell ⟨gb443, 0, none⟩ (.int .u64 t436)).setCell ⟨gb443, 1, none⟩ (.int .u64 t437)).setCell ⟨gb443, 2, none⟩ (.int .u64 t438)).setCell ⟨gb443, 3, none⟩ (.int .u64 t439)).setCell ⟨gb443, 4, none⟩ (.int .i64 t440)).setCell ⟨gb444, 0, none⟩ (.string t441)).setCell ⟨gb444, 1, none⟩ (.bool t433)).heap[gb412]? = some (.cells #[.int .u64 a0_0, .int .u64 a0_1, .int .u64 a0_2, .int .u64 a0_3, .int .i64 a0_4, .bool true] 28 (0, 0))) := ⟨by (repeat (first | (with_reducible first | refine blk_drewN ?_ _ | refine blk_drew ?_ | refine blk_alloc ?_ _) | refine blk_far ?_ NB412_444.out _ | refine blk_far ?_ NB412_443.out _)); exact BK412.out⟩
  have n1_ : Aside0 ((((((((w38.setCell ⟨gb443, 0, none⟩ (.int .u64 t436)).setCell ⟨gb443, 1, none⟩ (.int .u64 t437)).setCell ⟨gb443, 2, none⟩ (.int .u64 t438)).setCell ⟨gb443, 3, none⟩ (.int .u64 t439)).setCell ⟨gb443, 4, none⟩ (.int .i64 t440)).setCell ⟨gb444, 0, none⟩ (.string t441)).setCell ⟨gb444, 1, none⟩ (.bool t433)).heap[gb434]? = some (.cells #[.int .u64 t427, .int .u64 t428, .int .u64 t429, .int .u64 t430, .int .i64 t431] 26 (0, 0))) := ⟨by (repeat (first | (with_reducible first | refine blk_drewN ?_ _ | refine blk_drew ?_ | refine blk_alloc ?_ _) | refine blk_far ?_ NB434_444.out _ | refine blk_far ?_ NB434_443.out _)); exact BK434.out⟩
  have n2_ : Aside0 ((((((((w38.setCell ⟨gb443, 0, none⟩ (.int .u64 t436)).setCell ⟨gb443, 1, none⟩ (.int .u64 t437)).setCell ⟨gb443, 2, none⟩ (.int .u64 t438)).setCell ⟨gb443, 3, none⟩ (.int .u64 t439)).setCell ⟨gb443, 4, none⟩ (.int .i64 t440)).setCell ⟨gb444, 0, none⟩ (.string t441)).setCell ⟨gb444, 1, none⟩ (.bool t433)).heap[gb435]? = some (.cells #[.string t432, .bool t433] 55 (0, 0))) := ⟨by (repeat (first | (with_reducible first | refine blk_drewN ?_ _ | refine blk_drew ?_ | refine blk_alloc ?_ _) | refine blk_far ?_ NB435_444.out _ | refine blk_far ?_ NB435_443.out _)); exact BK435.out⟩
  have n3_ : Aside0 ((((((((w38.setCell ⟨gb443, 0, none⟩ (.int .u64 t436)).setCell ⟨gb443, 1, none⟩ (.int .u64 t437)).setCell ⟨gb443, 2, none⟩ (.int .u64 t438)).setCell ⟨gb443, 3, none⟩ (.int .u64 t439)).setCell ⟨gb443, 4, none⟩ (.int .i64 t440)).setCell ⟨gb444, 0, none⟩ (.string t441)).setCell ⟨gb444, 1, none⟩ (.bool t433)).heap[gb443]? = some (.cells #[.int .u64 t436, .int .u64 t437, .int .u64 t438, .int .u64 t439, .int .i64 t440] 39 (0, 0))) := ⟨by (repeat (first | (with_reducible first | refine blk_drewN ?_ _ | refine blk_drew ?_ | refine blk_alloc ?_ _) | refine blk_far ?_ NB443_444.out _)); refine blk_put (cs := #[.int .u64 t436, .int .u64 t437, .int .u64 t438, .int .u64 t439, .int .i64 0]) ?_ 4 _ rfl; (with_reducible repeat (first | refine blk_drewN ?_ _ | refine blk_drew ?_ | refine blk_alloc ?_ _)); refine blk_put (cs := #[.int .u64 t436, .int .u64 t437, .int .u64 t438, .int .u64 0, .int .i64 0]) ?_ 3 _ rfl; (with_reducible repeat (first | refine blk_drewN ?_ _ | refine blk_drew ?_ | refine blk_alloc ?_ _)); refine blk_put (cs := #[.int .u64 t436, .int .u64 t437, .int .u64 0, .int .u64 0, .int .i64 0]) ?_ 2 _ rfl; (with_reducible repeat (first | refine blk_drewN ?_ _ | refine blk_drew ?_ | refine blk_alloc ?_ _)); refine blk_put (cs := #[.int .u64 t436, .int .u64 0, .int .u64 0, .int .u64 0, .int .i64 0]) ?_ 1 _ rfl; (with_reducible repeat (first | refine blk_drewN ?_ _ | refine blk_drew ?_ | refine blk_alloc ?_ _)); refine blk_put (cs := #[.int .u64 0, .int .u64 0, .int .u64 0, .int .u64 0, .int .i64 0]) ?_ 0 _ rfl; (with_reducible repeat (first | refine blk_drewN ?_ _ | refine blk_drew ?_ | refine blk_alloc ?_ _)); exact BK443.out⟩
  have n4_ : Aside0 ((((((((w38.setCell ⟨gb443, 0, none⟩ (.int .u64 t436)).setCell ⟨gb443, 1, none⟩ (.int .u64 t437)).setCell ⟨gb443, 2, none⟩ (.int .u64 t438)).setCell ⟨gb443, 3, none⟩ (.int .u64 t439)).setCell ⟨gb443, 4, none⟩ (.int .i64 t440)).setCell ⟨gb444, 0, none⟩ (.string t441)).setCell ⟨gb444, 1, none⟩ (.bool t433)).heap[gb444]? = some (.cells #[.string t441, .bool t433] 58 (0, 0))) := ⟨by (with_reducible repeat (first | refine blk_drewN ?_ _ | refine blk_drew ?_ | refine blk_alloc ?_ _)); refine blk_put (cs := #[.string t441, .bool false]) ?_ 1 _ rfl; (with_reducible repeat (first | refine blk_drewN ?_ _ | refine blk_drew ?_ | refine blk_alloc ?_ _)); refine blk_put (cs := #[.string (⟨#[]⟩ : ByteArray), .bool false]) ?_ 0 _ rfl; (repeat (first | (with_reducible first | refine blk_drewN ?_ _ | refine blk_drew ?_ | refine blk_alloc ?_ _) | refine blk_far ?_ NB444_443.out _)); exact BK444.out⟩
  have n5_ : Aside0 (Below w.heap.size w (((((((w38.setCell ⟨gb443, 0, none⟩ (.int .u64 t436)).setCell ⟨gb443, 1, none⟩ (.int .u64 t437)).setCell ⟨gb443, 2, none⟩ (.int .u64 t438)).setCell ⟨gb443, 3, none⟩ (.int .u64 t439)).setCell ⟨gb443, 4, none⟩ (.int .i64 t440)).setCell ⟨gb444, 0, none⟩ (.string t441)).setCell ⟨gb444, 1, none⟩ (.bool t433))) := ⟨by repeat (first | (with_reducible first | exact HB.out | apply below_alloc | apply pw_below_drewN | apply below_drew1 | refine below_set ?_ GE412.out | refine below_set ?_ GE434.out | refine below_set ?_ GE435.out | refine below_set ?_ GE443.out | refine below_set ?_ GE444.out) | exact HB.out)⟩
  (try clear BK412)
  (try clear BK434)
  (try clear BK435)
  (try clear BK443)
  (try clear BK444)
  (try clear HB)
  generalize (((((((w38.setCell ⟨gb443, 0, none⟩ (.int .u64 t436)).setCell ⟨gb443, 1, none⟩ (.int .u64 t437)).setCell ⟨gb443, 2, none⟩ (.int .u64 t438)).setCell ⟨gb443, 3, none⟩ (.int .u64 t439)).setCell ⟨gb443, 4, none⟩ (.int .i64 t440)).setCell ⟨gb444, 0, none⟩ (.string t441)).setCell ⟨gb444, 1, none⟩ (.bool t433)) = w48 at n0_ n1_ n2_ n3_ n4_ n5_ ⊢
  have BK412 := n0_
  have BK434 := n1_
  have BK435 := n2_
  have BK443 := n3_
  have BK444 := n4_
  have HB := n5_
  clear n0_ n1_ n2_ n3_ n4_ n5_
  replace BK412 := Kd_ BK412
  replace BK434 := Kd_ BK434
  replace BK435 := Kd_ BK435
  replace BK443 := Kd_ BK443
  replace BK444 := Kd_ BK444
  replace HB := Aside0.mk (below_drew1 HB.out)
  refine start_ (n := 22) (S := fun w' => w'.cell? ⟨gb434, 0, none⟩ = some (.int .u64 t427) ∧ w'.cell? ⟨gb434, 1, none⟩ = some (.int .u64 t428) ∧ w'.cell? ⟨gb434, 2, none⟩ = some (.int .u64 t429) ∧ w'.cell? ⟨gb434, 3, none⟩ = some (.int .u64 t430) ∧ w'.cell? ⟨gb434, 4, none⟩ = some (.int .i64 t431) ∧ w'.cell? ⟨gb443, 0, none⟩ = some (.int .u64 t436) ∧ w'.cell? ⟨gb443, 1, none⟩ = some (.int .u64 t437) ∧ w'.cell? ⟨gb443, 2, none⟩ = some (.int .u64 t438) ∧ w'.cell? ⟨gb443, 3, none⟩ = some (.int .u64 t439) ∧ w'.cell? ⟨gb443, 4, none⟩ = some (.int .i64 t440) ∧ w'.cell? ⟨gb435, 0, none⟩ = some (.string t432) ∧ w'.cell? ⟨gb435, 1, none⟩ = some (.bool t433) ∧ w'.cell? ⟨gb444, 0, none⟩ = some (.string t441) ∧ w'.cell? ⟨gb444, 1, none⟩ = some (.bool t433)) (ds := []) #[false, false, false, false, false, false, false, false, false, false, false, false, false, false, false, false, false, false, false, false, false, false] (by kernel_rfl) rfl rfl ⟨(blk_cell BK434.out 0).trans rfl, (blk_cell BK434.out 1).trans rfl, (blk_cell BK434.out 2).trans rfl, (blk_cell BK434.out 3).trans rfl, (blk_cell BK434.out 4).trans rfl, (blk_cell BK443.out 0).trans rfl, (blk_cell BK443.out 1).trans rfl, (blk_cell BK443.out 2).trans rfl, (blk_cell BK443.out 3).trans rfl, (blk_cell BK443.out 4).trans rfl, (blk_cell BK435.out 0).trans rfl, (blk_cell BK435.out 1).trans rfl, (blk_cell BK444.out 0).trans rfl, (blk_cell BK444.out 1).trans rfl⟩ (fun hHeld => ?_); refine with_tabW tenementlaw07_StampGets.tab10 tenementlaw07_StampGets.bits10 (fun HT_ HW_ => ?_)
  generalize w48.drew = w49 at BK412 BK434 BK435 BK443 BK444 HB hHeld ⊢
  refine pure_ (i := 0) (N := some 52) (v := ?_) (a' := ?_) #[true, false, false, false, false, false, false, false, false, false, false, false, false, false, false, false, false, false, false, false, false, false] rfl rfl (any_of HT_.out (by kernel_rfl)) (fun _ _ _ h => h) (Or.inl ⟨by rfl, ?_⟩) ?_ ?_
  rotate_left
  · intro w'
    go_simp
    with_reducible rfl
  rotate_left
  · simp only [Act.put, List.setIfInBounds_toArray, List.set_cons_zero, List.set_cons_succ, i64_w, i32_w]
    rfl
  refine pure_ (i := 1) (N := some 53) (v := ?_) (a' := ?_) #[true, true, false, false, false, false, false, false, false, false, false, false, false, false, false, false, false, false, false, false, false, false] rfl rfl (any_of HT_.out (by kernel_rfl)) (fun _ _ _ h => h) (Or.inl ⟨by rfl, ?_⟩) ?_ ?_
  rotate_left
  · intro w'
    go_simp
    with_reducible rfl
  rotate_left
  · simp only [Act.put, List.setIfInBounds_toArray, List.set_cons_zero, List.set_cons_succ, i64_w, i32_w]
    rfl
  refine take_ (i := 2) (N := some 54) (v := ?_) (a' := ?_) #[true, true, true, false, false, false, false, false, false, false, false, false, false, false, false, false, false, false, false, false, false, false] rfl rfl (take_ofW HT_.out HW_.out (by kernel_rfl)) (fun _ _ _ h => h) (Or.inl ⟨by rfl, ?_⟩) hHeld ?_ ?_
  rotate_left
  · rintro w' ⟨s0, s1, s2, s3, s4, s5, s6, s7, s8, s9, s10, s11, s12, s13⟩
    go_simp
    with_reducible rfl
  rotate_left
  · simp only [Act.put, List.setIfInBounds_toArray, List.set_cons_zero, List.set_cons_succ, i64_w, i32_w]
    rfl
  refine take_ (i := 4) (N := some 56) (v := ?_) (a' := ?_) #[true, true, true, false, true, false, false, false, false, false, false, false, false, false, false, false, false, false, false, false, false, false] rfl rfl (take_ofW HT_.out HW_.out (by kernel_rfl)) (fun _ _ _ h => h) (Or.inl ⟨by rfl, ?_⟩) hHeld ?_ ?_
  rotate_left
  · rintro w' ⟨s0, s1, s2, s3, s4, s5, s6, s7, s8, s9, s10, s11, s12, s13⟩
    go_simp
    with_reducible rfl
  rotate_left
  · simp only [Act.put, List.setIfInBounds_toArray, List.set_cons_zero, List.set_cons_succ, i64_w, i32_w]
    rfl
  refine one_ (i := 3) (N := some 55) #[true, true, true, true, true, false, false, false, false, false, false, false, false, false, false, false, false, false, false, false, false, false] rfl rfl (one_of HT_.out (by kernel_rfl)) (by decide) (fun K hK => ?_)
  refine goes_ Tryd.func14 (by kernel_rfl) rfl #[.agg #[.int .u64 t427, .int .u64 t428, .int .u64 t429, .int .u64 t430, .int .i64 t431]] (by rfl) rfl rfl (by (try simp only [List.map_toArray, List.map_cons, List.map_nil]); first | done | rfl | (simp only [List.length_drop, List.length_take]; rfl)) ?_
  with_reducible refine (tenementlaw07_refStamp.calls t427 t428 t429 t430 t431 t445 t446 t447 t448 t449 _ A17.out).mono ?_
  rintro e w50 ⟨rfl, hb⟩
  refine ⟨_, rfl, ?_⟩
  replace BK412 := Kb_ BK412 hb
  replace BK434 := Kb_ BK434 hb
  replace BK435 := Kb_ BK435 hb
  replace BK443 := Kb_ BK443 hb
  replace BK444 := Kb_ BK444 hb
  replace HB := Ks_ HB hb
  (try clear hb)
  (try clear hb2)
  (try clear hk)
  (try clear hi)
  refine hK.out _ _ ⟨(blk_cell BK434.out 0).trans rfl, (blk_cell BK434.out 1).trans rfl, (blk_cell BK434.out 2).trans rfl, (blk_cell BK434.out 3).trans rfl, (blk_cell BK434.out 4).trans rfl, (blk_cell BK443.out 0).trans rfl, (blk_cell BK443.out 1).trans rfl, (blk_cell BK443.out 2).trans rfl, (blk_cell BK443.out 3).trans rfl, (blk_cell BK443.out 4).trans rfl, (blk_cell BK435.out 0).trans rfl, (blk_cell BK435.out 1).trans rfl, (blk_cell BK444.out 0).trans rfl, (blk_cell BK444.out 1).trans rfl⟩ (fun hHeld => ?_)
  clear hK K
  refine norm_ (a' := ?_) ?_ ?_
  rotate_left
  · show Act.put _ (some 55) _ = _
    simp only [Act.put, List.setIfInBounds_toArray, List.set_cons_zero, List.set_cons_succ, i64_w, i32_w]
    rfl
  refine pure_ (i := 5) (N := some 57) (v := ?_) (a' := ?_) #[true, true, true, true, true, true, false, false, false, false, false, false, false, false, false, false, false, false, false, false, false, false] rfl rfl (any_of HT_.out (by kernel_rfl)) (fun _ _ _ h => h) (Or.inl ⟨by rfl, ?_⟩) ?_ ?_
  rotate_left
  · intro w'
    go_simp
    with_reducible rfl
  rotate_left
  · simp only [Act.put, List.setIfInBounds_toArray, List.set_cons_zero, List.set_cons_succ, i64_w, i32_w]
    rfl
  refine pure_ (i := 6) (N := some 58) (v := ?_) (a' := ?_) #[true, true, true, true, true, true, true, false, false, false, false, false, false, false, false, false, false, false, false, false, false, false] rfl rfl (any_of HT_.out (by kernel_rfl)) (fun _ _ _ h => h) (Or.inl ⟨by rfl, ?_⟩) ?_ ?_
  rotate_left
  · intro w'
    go_simp
    with_reducible rfl
  rotate_left
  · simp only [Act.put, List.setIfInBounds_toArray, List.set_cons_zero, List.set_cons_succ, i64_w, i32_w]
    rfl
  refine pure_ (i := 7) (N := some 59) (v := ?_) (a' := ?_) #[true, true, true, true, true, true, true, true, false, false, false, false, false, false, false, false, false, false, false, false, false, false] rfl rfl (any_of HT_.out (by kernel_rfl)) (fun _ _ _ h => h) (Or.inl ⟨by rfl, ?_⟩) ?_ ?_
  rotate_left
  · intro w'
    go_simp
    with_reducible rfl
  rotate_left
  · simp only [Act.put, List.setIfInBounds_toArray, List.set_cons_zero, List.set_cons_succ, i64_w, i32_w]
    rfl
  refine pure_ (i := 8) (N := some 60) (v := ?_) (a' := ?_) #[true, true, true, true, true, true, true, true, true, false, false, false, false, false, false, false, false, false, false, false, false, false] rfl rfl (any_of HT_.out (by kernel_rfl)) (fun _ _ _ h => h) (Or.inl ⟨by rfl, ?_⟩) ?_ ?_
  rotate_left
  · intro w'
    go_simp
    with_reducible rfl
  rotate_left
  · simp only [Act.put, List.setIfInBounds_toArray, List.set_cons_zero, List.set_cons_succ, i64_w, i32_w]
    rfl
  refine pure_ (i := 10) (N := some 62) (v := ?_) (a' := ?_) #[true, true, true, true, true, true, true, true, true, false, true, false, false, false, false, false, false, false, false, false, false, false] rfl rfl (any_of HT_.out (by kernel_rfl)) (fun _ _ _ h => h) (Or.inl ⟨by rfl, ?_⟩) ?_ ?_
  rotate_left
  · intro w'
    go_simp
    with_reducible rfl
  rotate_left
  · simp only [Act.put, List.setIfInBounds_toArray, List.set_cons_zero, List.set_cons_succ, i64_w, i32_w]
    rfl
  refine take_ (i := 9) (N := some 61) (v := ?_) (a' := ?_) #[true, true, true, true, true, true, true, true, true, true, true, false, false, false, false, false, false, false, false, false, false, false] rfl rfl (take_ofW HT_.out HW_.out (by kernel_rfl)) (fun _ _ _ h => h) (Or.inl ⟨by rfl, ?_⟩) hHeld ?_ ?_
  rotate_left
  · rintro w' ⟨s0, s1, s2, s3, s4, s5, s6, s7, s8, s9, s10, s11, s12, s13⟩
    go_simp
    with_reducible rfl
  rotate_left
  · simp only [Act.put, List.setIfInBounds_toArray, List.set_cons_zero, List.set_cons_succ, i64_w, i32_w]
    rfl
  refine take_ (i := 11) (N := some 63) (v := ?_) (a' := ?_) #[true, true, true, true, true, true, true, true, true, true, true, true, false, false, false, false, false, false, false, false, false, false] rfl rfl (take_ofW HT_.out HW_.out (by kernel_rfl)) (fun _ _ _ h => h) (Or.inl ⟨by rfl, ?_⟩) hHeld ?_ ?_
  rotate_left
  · rintro w' ⟨s0, s1, s2, s3, s4, s5, s6, s7, s8, s9, s10, s11, s12, s13⟩
    go_simp
    with_reducible rfl
  rotate_left
  · simp only [Act.put, List.setIfInBounds_toArray, List.set_cons_zero, List.set_cons_succ, i64_w, i32_w]
    rfl
  refine pure_ (i := 12) (N := some 64) (v := ?_) (a' := ?_) #[true, true, true, true, true, true, true, true, true, true, true, true, true, false, false, false, false, false, false, false, false, false] rfl rfl (any_of HT_.out (by kernel_rfl)) (fun _ _ _ h => h) (Or.inl ⟨by rfl, ?_⟩) ?_ ?_
  rotate_left
  · intro w'
    go_simp
    with_reducible rfl
  rotate_left
  · simp only [Act.put, List.setIfInBounds_toArray, List.set_cons_zero, List.set_cons_succ, i64_w, i32_w]
    rfl
  refine pure_ (i := 13) (N := some 65) (v := ?_) (a' := ?_) #[true, true, true, true, true, true, true, true, true, true, true, true, true, true, false, false, false, false, false, false, false, false] rfl rfl (any_of HT_.out (by kernel_rfl)) (fun _ _ _ h => h) (Or.inl ⟨by rfl, ?_⟩) ?_ ?_
  rotate_left
  · intro w'
    go_simp
    with_reducible rfl
  rotate_left
  · simp only [Act.put, List.setIfInBounds_toArray, List.set_cons_zero, List.set_cons_succ, i64_w, i32_w]
    rfl
  refine pure_ (i := 14) (N := some 66) (v := ?_) (a' := ?_) #[true, true, true, true, true, true, true, true, true, true, true, true, true, true, true, false, false, false, false, false, false, false] rfl rfl (any_of HT_.out (by kernel_rfl)) (fun _ _ _ h => h) (Or.inl ⟨by rfl, ?_⟩) ?_ ?_
  rotate_left
  · intro w'
    go_simp
    with_reducible rfl
  rotate_left
  · simp only [Act.put, List.setIfInBounds_toArray, List.set_cons_zero, List.set_cons_succ, i64_w, i32_w]
    rfl
  refine pure_ (i := 15) (N := some 67) (v := ?_) (a' := ?_) #[true, true, true, true, true, true, true, true, true, true, true, true, true, true, true, true, false, false, false, false, false, false] rfl rfl (any_of HT_.out (by kernel_rfl)) (fun _ _ _ h => h) (Or.inl ⟨by rfl, ?_⟩) ?_ ?_
  rotate_left
  · intro w'
    go_simp
    with_reducible rfl
  rotate_left
  · simp only [Act.put, List.setIfInBounds_toArray, List.set_cons_zero, List.set_cons_succ, i64_w, i32_w]
    rfl
  refine pure_ (i := 17) (N := some 69) (v := ?_) (a' := ?_) #[true, true, true, true, true, true, true, true, true, true, true, true, true, true, true, true, false, true, false, false, false, false] rfl rfl (any_of HT_.out (by kernel_rfl)) (fun _ _ _ h => h) (Or.inl ⟨by rfl, ?_⟩) ?_ ?_
  rotate_left
  · intro w'
    go_simp
    with_reducible rfl
  rotate_left
  · simp only [Act.put, List.setIfInBounds_toArray, List.set_cons_zero, List.set_cons_succ, i64_w, i32_w]
    rfl
  refine take_ (i := 16) (N := some 68) (v := ?_) (a' := ?_) #[true, true, true, true, true, true, true, true, true, true, true, true, true, true, true, true, true, true, false, false, false, false] rfl rfl (take_ofW HT_.out HW_.out (by kernel_rfl)) (fun _ _ _ h => h) (Or.inl ⟨by rfl, ?_⟩) hHeld ?_ ?_
  rotate_left
  · rintro w' ⟨s0, s1, s2, s3, s4, s5, s6, s7, s8, s9, s10, s11, s12, s13⟩
    go_simp
    with_reducible rfl
  rotate_left
  · simp only [Act.put, List.setIfInBounds_toArray, List.set_cons_zero, List.set_cons_succ, i64_w, i32_w]
    rfl
  refine take_ (i := 18) (N := some 70) (v := ?_) (a' := ?_) #[true, true, true, true, true, true, true, true, true, true, true, true, true, true, true, true, true, true, true, false, false, false] rfl rfl (take_ofW HT_.out HW_.out (by kernel_rfl)) (fun _ _ _ h => h) (Or.inl ⟨by rfl, ?_⟩) hHeld ?_ ?_
  rotate_left
  · rintro w' ⟨s0, s1, s2, s3, s4, s5, s6, s7, s8, s9, s10, s11, s12, s13⟩
    go_simp
    with_reducible rfl
  rotate_left
  · simp only [Act.put, List.setIfInBounds_toArray, List.set_cons_zero, List.set_cons_succ, i64_w, i32_w]
    rfl
  refine pure_ (i := 19) (N := some 71) (v := ?_) (a' := ?_) #[true, true, true, true, true, true, true, true, true, true, true, true, true, true, true, true, true, true, true, true, false, false] rfl rfl (any_of HT_.out (by kernel_rfl)) (fun _ _ _ h => h) (Or.inl ⟨by rfl, ?_⟩) ?_ ?_
  rotate_left
  · intro w'
    go_simp
    with_reducible rfl
  rotate_left
  · simp only [Act.put, List.setIfInBounds_toArray, List.set_cons_zero, List.set_cons_succ, i64_w, i32_w]
    rfl
  refine pure_ (i := 20) (N := some 72) (v := ?_) (a' := ?_) #[true, true, true, true, true, true, true, true, true, true, true, true, true, true, true, true, true, true, true, true, true, false] rfl rfl (any_of HT_.out (by kernel_rfl)) (fun _ _ _ h => h) (Or.inl ⟨by rfl, ?_⟩) ?_ ?_
  rotate_left
  · intro w'
    go_simp
    with_reducible rfl
  rotate_left
  · simp only [Act.put, List.setIfInBounds_toArray, List.set_cons_zero, List.set_cons_succ, i64_w, i32_w]
    rfl
  refine pure_ (i := 21) (N := some 12) (v := ?_) (a' := ?_) #[true, true, true, true, true, true, true, true, true, true, true, true, true, true, true, true, true, true, true, true, true, true] rfl rfl (any_of HT_.out (by kernel_rfl)) (fun _ _ _ h => h) (Or.inl ⟨by rfl, ?_⟩) ?_ ?_
  rotate_left
  · intro w'
    go_simp
    with_reducible rfl
  rotate_left
  · simp only [Act.put, List.setIfInBounds_toArray, List.set_cons_zero, List.set_cons_succ, i64_w, i32_w]
    rfl
  refine done_ (done_of HT_.out (by kernel_rfl)) ?_
  try go_wp2
  go_ret
  exact ⟨by first | rfl | (simp [errW_none, errW_some] <;> rfl) | (simp [*, errW_none, errW_some] <;> rfl), by repeat (first | (with_reducible first | exact HB.out | apply below_alloc | apply pw_below_drewN | apply below_drew1 | refine below_set ?_ GE412.out | refine below_set ?_ GE434.out | refine below_set ?_ GE435.out | refine below_set ?_ GE443.out | refine below_set ?_ GE444.out) | exact HB.out)⟩

end Go.Proofs.YtdlagefpglhdoaaDoor.Q
