-- Written by this session's own driver (wip/hybrid.py) of the kit's printer; contracts marked FOREIGN are by hand.
import Derived.Test.YtdlagefpglhdoaaDoorQx0
import Derived.Test.YtdlagefpglhdoaaDoorQxf30
import Derived.Test.YtdlagefpglhdoaaDoorQxf19
import Derived.Test.YtdlagefpglhdoaaDoorQxf31
import Derived.Test.YtdlagefpglhdoaaDoorQxf17
import Derived.Test.YtdlagefpglhdoaaDoorQxf12
import Derived.Test.YtdlagefpglhdoaaDoorQxf9
import Derived.Test.YtdlagefpglhdoaaDoorQxf10
namespace Go.Proofs.YtdlagefpglhdoaaDoor.Q
open Go.RowKit Go.Proofs.YtdlagefpglhdoaaDoorW.PrintWords Go.Proofs.YtdlagefpglhdoaaDoorW.PrintLast Go.Proofs.YtdlagefpglhdoaaDoorW.PrintMore
attribute [local go_sem] max2_int min2_int max_two min_two max_three min_three max_four min_four   -- for this text's walks alone
set_option linter.unusedVariables false
set_option linter.unusedSimpArgs false

/-! ### tenementlaw07_StampBounds: function 7 -/
def tenementlaw07_StampBounds.j0 : Nat → Bool → Bool → Int → Int → Int → Int → Int → Option (Bool)
  | 0, _, _, _, _, _, _, _ => none
  | k + 1, x7, x9, x1057000, x1057001, x1057002, x1057003, x1057004 => (vec_At.f x1057000 x1057001 x1057002 x1057003 x1057004).bind fun t1058 => ((stamp_Put.f k x1057000 x1057001 x1057002 x1057003 x1057004).bind fun bt1059 => (if x1057004 ≥ 1 then (if x1057004 ≤ 4 then (if t1058 ≥ 1 then ((vec_Right.f x1057000 x1057001 x1057002 x1057003).bind fun t1061 => (if x7 = true then (if x9 = true then ((stamp_Right.f x1057000 x1057001 x1057002 x1057003 x1057004).bind fun t1062 => (if t1062 = t1061 then (if bt1059.2 = t1061 then (if bt1059.1.toList = ([] : List UInt8) then (if t1061 = true then (none) else ((stamp_Stamp_N.f x1057000 x1057001 x1057002 x1057003 x1057004).bind fun t1063 => (if t1063 = t1058 then (some true) else (none)))) else (if t1061 = true then ((stamp_Stamp_N.f x1057000 x1057001 x1057002 x1057003 x1057004).bind fun t1064 => (if t1064 = t1058 then (some true) else (none))) else (none))) else (none)) else (none))) else (none)) else (none))) else (if x7 = true then (if x9 = true then ((stamp_Right.f x1057000 x1057001 x1057002 x1057003 x1057004).bind fun t1065 => (if t1065 = true then (none) else (if bt1059.2 = true then (none) else (if bt1059.1.toList = ([] : List UInt8) then ((stamp_Stamp_N.f x1057000 x1057001 x1057002 x1057003 x1057004).bind fun t1066 => (if t1066 = t1058 then (some true) else (none))) else (none))))) else (none)) else (none))) else (if x7 = true then (if x9 = true then ((stamp_Right.f x1057000 x1057001 x1057002 x1057003 x1057004).bind fun t1067 => (if t1067 = true then (none) else (if bt1059.2 = true then (none) else (if bt1059.1.toList = ([] : List UInt8) then ((stamp_Stamp_N.f x1057000 x1057001 x1057002 x1057003 x1057004).bind fun t1068 => (if t1068 = t1058 then (some true) else (none))) else (none))))) else (none)) else (none))) else (if x7 = true then (if x9 = true then ((stamp_Right.f x1057000 x1057001 x1057002 x1057003 x1057004).bind fun t1069 => (if t1069 = true then (none) else (if bt1059.2 = true then (none) else (if bt1059.1.toList = ([] : List UInt8) then ((stamp_Stamp_N.f x1057000 x1057001 x1057002 x1057003 x1057004).bind fun t1070 => (if t1070 = t1058 then (some true) else (none))) else (none))))) else (none)) else (none))))
def tenementlaw07_StampBounds.f (k : Nat) (a0_0 : Int) (a0_1 : Int) (a0_2 : Int) (a0_3 : Int) (a0_4 : Int) (a0_5 : Bool) (a1 : Int) (a2 : Int) : Option (Bool) := (tenementlaw07_examples.f k).bind fun t1050 => (if t1050 = true then ((tenementlaw07_Mark_mark.f k a0_0 a0_1 a0_2 a0_3 a0_4 true).bind fun bt1051 => ((stamp_Right.f bt1051.1 bt1051.2.1 bt1051.2.2.1 bt1051.2.2.2.1 bt1051.2.2.2.2).bind fun t1057 => (if a2 > 250 then (if Int.tmod a2 4 = 0 then (tenementlaw07_StampBounds.j0 k t1050 t1057 (IntKind.u64.wrap (1152921504606846976 + (IntKind.u64.wrap (Int.tmod a2 3)))) bt1051.2.1 bt1051.2.2.1 bt1051.2.2.2.1 (wrap64 (Int.tmod a1 7))) else (if Int.tmod a2 4 = 1 then (tenementlaw07_StampBounds.j0 k t1050 t1057 bt1051.1 (IntKind.u64.wrap (1152921504606846976 + (IntKind.u64.wrap (Int.tmod a2 3)))) bt1051.2.2.1 bt1051.2.2.2.1 (wrap64 (Int.tmod a1 7))) else (if Int.tmod a2 4 = 2 then (tenementlaw07_StampBounds.j0 k t1050 t1057 bt1051.1 bt1051.2.1 (IntKind.u64.wrap (1152921504606846976 + (IntKind.u64.wrap (Int.tmod a2 3)))) bt1051.2.2.2.1 (wrap64 (Int.tmod a1 7))) else (if Int.tmod a2 4 = 3 then (tenementlaw07_StampBounds.j0 k t1050 t1057 bt1051.1 bt1051.2.1 bt1051.2.2.1 (IntKind.u64.wrap (1152921504606846976 + (IntKind.u64.wrap (Int.tmod a2 3)))) (wrap64 (Int.tmod a1 7))) else (none))))) else (tenementlaw07_StampBounds.j0 k t1050 t1057 bt1051.1 bt1051.2.1 bt1051.2.2.1 bt1051.2.2.2.1 (wrap64 (Int.tmod a1 7)))))) else (none))
theorem tenementlaw07_StampBounds.mono_l : ∀ k, (∀ y0 y1 y2 y3 y4 y5 y6, LeO (tenementlaw07_StampBounds.j0 k y0 y1 y2 y3 y4 y5 y6) (tenementlaw07_StampBounds.j0 (k + 1) y0 y1 y2 y3 y4 y5 y6))
  | 0 => fun _ _ _ _ _ _ _ r h => by simp [tenementlaw07_StampBounds.j0] at h
  | k + 1 => by
    have ih0 := tenementlaw07_StampBounds.mono_l k
    · intro y0 y1 y2 y3 y4 y5 y6
      unfold tenementlaw07_StampBounds.j0
      repeat' first
      | (with_reducible exact ih0 _ _ _ _ _ _ _)
      | (with_reducible exact stamp_Put.mono _ _ _ _ _ _)
      | (with_reducible exact tenementlaw07_Mark_mark.mono _ _ _ _ _ _ _)
      | (with_reducible exact tenementlaw07_examples.mono _)
      | (with_reducible exact LeO.refl _)
      | (with_reducible exact LeO.none _)
      | (with_reducible refine LeO.ite ?_ ?_)
      | (with_reducible refine LeO.bind ?_ (fun _ => ?_))
      | exact ih0 _ _ _ _ _ _ _
      | exact stamp_Put.mono _ _ _ _ _ _
      | exact tenementlaw07_Mark_mark.mono _ _ _ _ _ _ _
      | exact tenementlaw07_examples.mono _
      | exact LeO.none _
      | refine LeO.ite ?_ ?_
      | refine LeO.bind ?_ (fun _ => ?_)
theorem tenementlaw07_StampBounds.mono : ∀ a0 a1 a2 a3 a4 a5 a6 a7 k, LeO (tenementlaw07_StampBounds.f k a0 a1 a2 a3 a4 a5 a6 a7) (tenementlaw07_StampBounds.f (k + 1) a0 a1 a2 a3 a4 a5 a6 a7) := by
  intro a0 a1 a2 a3 a4 a5 a6 a7 k
  have ih0 := tenementlaw07_StampBounds.mono_l k
  unfold tenementlaw07_StampBounds.f
  repeat' first
      | (with_reducible exact ih0 _ _ _ _ _ _ _)
      | (with_reducible exact stamp_Put.mono _ _ _ _ _ _)
      | (with_reducible exact tenementlaw07_Mark_mark.mono _ _ _ _ _ _ _)
      | (with_reducible exact tenementlaw07_examples.mono _)
      | (with_reducible exact LeO.refl _)
      | (with_reducible exact LeO.none _)
      | (with_reducible refine LeO.ite ?_ ?_)
      | (with_reducible refine LeO.bind ?_ (fun _ => ?_))
      | exact ih0 _ _ _ _ _ _ _
      | exact stamp_Put.mono _ _ _ _ _ _
      | exact tenementlaw07_Mark_mark.mono _ _ _ _ _ _ _
      | exact tenementlaw07_examples.mono _
      | exact LeO.none _
      | refine LeO.ite ?_ ?_
      | refine LeO.bind ?_ (fun _ => ?_)
set_option maxHeartbeats 8000000 in
set_option maxRecDepth 100000 in
theorem tenementlaw07_StampBounds.calls (k : Nat) (a0_0 : Int) (a0_1 : Int) (a0_2 : Int) (a0_3 : Int) (a0_4 : Int) (a0_5 : Bool) (a1 : Int) (a2 : Int) (r : Bool) (w : World) (h : tenementlaw07_StampBounds.f k a0_0 a0_1 a0_2 a0_3 a0_4 a0_5 a1 a2 = some r) :
    Calls Tryd.prog 7 #[.agg #[.int .u64 a0_0, .int .u64 a0_1, .int .u64 a0_2, .int .u64 a0_3, .int .i64 a0_4, .bool a0_5], .int .i8 a1, .int .u8 a2] w fun e w' => e = .returned (.bool r) ∧ Below w.heap.size w w' := by
  have hu28 := Tryd.underlying28
  have hu26 := Tryd.underlying26
  have hu24 := Tryd.underlying24
  have HB := Aside0.mk (Below.refl w.heap.size w)
  have H : ((tenementlaw07_examples.f k).bind fun t1050 => (if t1050 = true then ((tenementlaw07_Mark_mark.f k a0_0 a0_1 a0_2 a0_3 a0_4 true).bind fun bt1051 => ((stamp_Right.f bt1051.1 bt1051.2.1 bt1051.2.2.1 bt1051.2.2.2.1 bt1051.2.2.2.2).bind fun t1057 => (if a2 > 250 then (if Int.tmod a2 4 = 0 then (tenementlaw07_StampBounds.j0 k t1050 t1057 (IntKind.u64.wrap (1152921504606846976 + (IntKind.u64.wrap (Int.tmod a2 3)))) bt1051.2.1 bt1051.2.2.1 bt1051.2.2.2.1 (wrap64 (Int.tmod a1 7))) else (if Int.tmod a2 4 = 1 then (tenementlaw07_StampBounds.j0 k t1050 t1057 bt1051.1 (IntKind.u64.wrap (1152921504606846976 + (IntKind.u64.wrap (Int.tmod a2 3)))) bt1051.2.2.1 bt1051.2.2.2.1 (wrap64 (Int.tmod a1 7))) else (if Int.tmod a2 4 = 2 then (tenementlaw07_StampBounds.j0 k t1050 t1057 bt1051.1 bt1051.2.1 (IntKind.u64.wrap (1152921504606846976 + (IntKind.u64.wrap (Int.tmod a2 3)))) bt1051.2.2.2.1 (wrap64 (Int.tmod a1 7))) else (if Int.tmod a2 4 = 3 then (tenementlaw07_StampBounds.j0 k t1050 t1057 bt1051.1 bt1051.2.1 bt1051.2.2.1 (IntKind.u64.wrap (1152921504606846976 + (IntKind.u64.wrap (Int.tmod a2 3)))) (wrap64 (Int.tmod a1 7))) else (none))))) else (tenementlaw07_StampBounds.j0 k t1050 t1057 bt1051.1 bt1051.2.1 bt1051.2.2.1 bt1051.2.2.2.1 (wrap64 (Int.tmod a1 7)))))) else (none))) = some r := h
  clear h
  replace H := Option.bind_eq_some_iff.mp H
  obtain ⟨t1050, A40, H⟩ := H
  replace H : (if t1050 = true then ((tenementlaw07_Mark_mark.f k a0_0 a0_1 a0_2 a0_3 a0_4 true).bind fun bt1051 => ((stamp_Right.f bt1051.1 bt1051.2.1 bt1051.2.2.1 bt1051.2.2.2.1 bt1051.2.2.2.2).bind fun t1057 => (if a2 > 250 then (if Int.tmod a2 4 = 0 then (tenementlaw07_StampBounds.j0 k t1050 t1057 (IntKind.u64.wrap (1152921504606846976 + (IntKind.u64.wrap (Int.tmod a2 3)))) bt1051.2.1 bt1051.2.2.1 bt1051.2.2.2.1 (wrap64 (Int.tmod a1 7))) else (if Int.tmod a2 4 = 1 then (tenementlaw07_StampBounds.j0 k t1050 t1057 bt1051.1 (IntKind.u64.wrap (1152921504606846976 + (IntKind.u64.wrap (Int.tmod a2 3)))) bt1051.2.2.1 bt1051.2.2.2.1 (wrap64 (Int.tmod a1 7))) else (if Int.tmod a2 4 = 2 then (tenementlaw07_StampBounds.j0 k t1050 t1057 bt1051.1 bt1051.2.1 (IntKind.u64.wrap (1152921504606846976 + (IntKind.u64.wrap (Int.tmod a2 3)))) bt1051.2.2.2.1 (wrap64 (Int.tmod a1 7))) else (if Int.tmod a2 4 = 3 then (tenementlaw07_StampBounds.j0 k t1050 t1057 bt1051.1 bt1051.2.1 bt1051.2.2.1 (IntKind.u64.wrap (1152921504606846976 + (IntKind.u64.wrap (Int.tmod a2 3)))) (wrap64 (Int.tmod a1 7))) else (none))))) else (tenementlaw07_StampBounds.j0 k t1050 t1057 bt1051.1 bt1051.2.1 bt1051.2.2.1 bt1051.2.2.2.1 (wrap64 (Int.tmod a1 7)))))) else (none)) = some r := H
  have A4 := Aside0.mk A40
  clear A40
  by_cases c5 : t1050 = true
  rotate_left
  · replace c5 := Bool.eq_false_iff.mpr c5
    subst c5
    have H1 : (none) = some r := by rw [if_neg (show ¬ (false = true) by decide)] at H; exact H
    clear H
    have H := H1
    clear H1
    exact absurd H (by simp)
  subst c5
  have H1 : ((tenementlaw07_Mark_mark.f k a0_0 a0_1 a0_2 a0_3 a0_4 true).bind fun bt1051 => ((stamp_Right.f bt1051.1 bt1051.2.1 bt1051.2.2.1 bt1051.2.2.2.1 bt1051.2.2.2.2).bind fun t1057 => (if a2 > 250 then (if Int.tmod a2 4 = 0 then (tenementlaw07_StampBounds.j0 k true t1057 (IntKind.u64.wrap (1152921504606846976 + (IntKind.u64.wrap (Int.tmod a2 3)))) bt1051.2.1 bt1051.2.2.1 bt1051.2.2.2.1 (wrap64 (Int.tmod a1 7))) else (if Int.tmod a2 4 = 1 then (tenementlaw07_StampBounds.j0 k true t1057 bt1051.1 (IntKind.u64.wrap (1152921504606846976 + (IntKind.u64.wrap (Int.tmod a2 3)))) bt1051.2.2.1 bt1051.2.2.2.1 (wrap64 (Int.tmod a1 7))) else (if Int.tmod a2 4 = 2 then (tenementlaw07_StampBounds.j0 k true t1057 bt1051.1 bt1051.2.1 (IntKind.u64.wrap (1152921504606846976 + (IntKind.u64.wrap (Int.tmod a2 3)))) bt1051.2.2.2.1 (wrap64 (Int.tmod a1 7))) else (if Int.tmod a2 4 = 3 then (tenementlaw07_StampBounds.j0 k true t1057 bt1051.1 bt1051.2.1 bt1051.2.2.1 (IntKind.u64.wrap (1152921504606846976 + (IntKind.u64.wrap (Int.tmod a2 3)))) (wrap64 (Int.tmod a1 7))) else (none))))) else (tenementlaw07_StampBounds.j0 k true t1057 bt1051.1 bt1051.2.1 bt1051.2.2.1 bt1051.2.2.2.1 (wrap64 (Int.tmod a1 7)))))) = some r := by rw [if_pos rfl] at H; exact H
  clear H
  have H := H1
  clear H1
  replace H := Option.bind_eq_some_iff.mp H
  obtain ⟨⟨t1051, t1052, t1053, t1054, t1055⟩, A60, H⟩ := H
  replace H : ((stamp_Right.f t1051 t1052 t1053 t1054 t1055).bind fun t1057 => (if a2 > 250 then (if Int.tmod a2 4 = 0 then (tenementlaw07_StampBounds.j0 k true t1057 (IntKind.u64.wrap (1152921504606846976 + (IntKind.u64.wrap (Int.tmod a2 3)))) t1052 t1053 t1054 (wrap64 (Int.tmod a1 7))) else (if Int.tmod a2 4 = 1 then (tenementlaw07_StampBounds.j0 k true t1057 t1051 (IntKind.u64.wrap (1152921504606846976 + (IntKind.u64.wrap (Int.tmod a2 3)))) t1053 t1054 (wrap64 (Int.tmod a1 7))) else (if Int.tmod a2 4 = 2 then (tenementlaw07_StampBounds.j0 k true t1057 t1051 t1052 (IntKind.u64.wrap (1152921504606846976 + (IntKind.u64.wrap (Int.tmod a2 3)))) t1054 (wrap64 (Int.tmod a1 7))) else (if Int.tmod a2 4 = 3 then (tenementlaw07_StampBounds.j0 k true t1057 t1051 t1052 t1053 (IntKind.u64.wrap (1152921504606846976 + (IntKind.u64.wrap (Int.tmod a2 3)))) (wrap64 (Int.tmod a1 7))) else (none))))) else (tenementlaw07_StampBounds.j0 k true t1057 t1051 t1052 t1053 t1054 (wrap64 (Int.tmod a1 7))))) = some r := H
  have A6 := Aside0.mk A60
  clear A60
  replace H := Option.bind_eq_some_iff.mp H
  obtain ⟨t1057, A70, H⟩ := H
  replace H : (if a2 > 250 then (if Int.tmod a2 4 = 0 then (tenementlaw07_StampBounds.j0 k true t1057 (IntKind.u64.wrap (1152921504606846976 + (IntKind.u64.wrap (Int.tmod a2 3)))) t1052 t1053 t1054 (wrap64 (Int.tmod a1 7))) else (if Int.tmod a2 4 = 1 then (tenementlaw07_StampBounds.j0 k true t1057 t1051 (IntKind.u64.wrap (1152921504606846976 + (IntKind.u64.wrap (Int.tmod a2 3)))) t1053 t1054 (wrap64 (Int.tmod a1 7))) else (if Int.tmod a2 4 = 2 then (tenementlaw07_StampBounds.j0 k true t1057 t1051 t1052 (IntKind.u64.wrap (1152921504606846976 + (IntKind.u64.wrap (Int.tmod a2 3)))) t1054 (wrap64 (Int.tmod a1 7))) else (if Int.tmod a2 4 = 3 then (tenementlaw07_StampBounds.j0 k true t1057 t1051 t1052 t1053 (IntKind.u64.wrap (1152921504606846976 + (IntKind.u64.wrap (Int.tmod a2 3)))) (wrap64 (Int.tmod a1 7))) else (none))))) else (tenementlaw07_StampBounds.j0 k true t1057 t1051 t1052 t1053 t1054 (wrap64 (Int.tmod a1 7)))) = some r := H
  have A7 := Aside0.mk A70
  clear A70
  have HC8 := Aside0.mk H
  clear H
  go_enter Tryd.func7, Tryd.ntmps7
  go_upto_if 27 with (first | ((with_reducible refine gate_dst (N := 3) rfl ?_); refine box_event ?hg (N := 3) ?hd (cs := #[.int .u64 a0_0, .int .u64 a0_1, .int .u64 a0_2, .int .u64 a0_3, .int .i64 a0_4, .bool a0_5]) (t := 28) ?hr ?_; (case hd => rfl); (case hg => rfl); (case hr => first | (go_simp; done) | (go_simp; rfl)); intro gb1049 hg w9 hbox hb; have n0_ := Aside0.mk (below_step (by repeat (first | (with_reducible first | exact HB.out | apply below_alloc | apply pw_below_drewN | apply below_drew1) | exact HB.out)) hb); have n1_ := Aside0.mk (hbox); have n2_ := Aside0.mk ((by rw [hg]; exact (below_size (by repeat (first | (with_reducible first | exact HB.out | apply below_alloc | apply pw_below_drewN | apply below_drew1) | exact HB.out))) : w.heap.size ≤ gb1049)); have n3_ := Aside0.mk ((by rw [hg]; exact (below_size (by repeat (first | (with_reducible first | exact HB.out | apply below_alloc | apply pw_below_drewN | apply below_drew1) | exact HB.out))) : w.heap.size ≤ gb1049)); clear HB; have HB := n0_; have BK1049 := n1_; have GW1049 := n2_; have GE1049 := n3_; clear n0_ n1_ n2_ n3_; clear hb hbox hg) | ((with_reducible refine gate_callee (f := 9) rfl ?_); refine goesL_ (some 14) rfl rfl Tryd.func9 (by kernel_rfl) rfl #[] rfl (by (try simp only [List.map_toArray, List.map_cons, List.map_nil]); first | done | rfl | (simp only [List.length_drop, List.length_take]; rfl)) ?_; (with_reducible refine (tenementlaw07_examples.calls k  true _ A4.out).mono ?_); rintro e w10 ⟨rfl, hb⟩; refine ⟨_, rfl, ?_⟩; have n0_ := Aside0.mk (blk_below (g := gb1049) (o := .cells #[.int .u64 a0_0, .int .u64 a0_1, .int .u64 a0_2, .int .u64 a0_3, .int .i64 a0_4, .bool a0_5] 28 (0, 0)) (by (with_reducible repeat (first | refine blk_drewN ?_ _ | refine blk_drew ?_ | refine blk_alloc ?_ _)); exact BK1049.out) hb); have n1_ := Aside0.mk (below_step (by repeat (first | (with_reducible first | exact HB.out | apply below_alloc | apply pw_below_drewN | apply below_drew1 | refine below_set ?_ GE1049.out) | exact HB.out)) hb); clear BK1049; clear HB; have BK1049 := n0_; have HB := n1_; clear n0_ n1_; (try clear hb); (try clear hb2); (try clear hk); (try clear hi); have hcz11_0 : w10.cell? ⟨gb1049, 0, none⟩ = some (.int .u64 a0_0) := (blk_cell BK1049.out 0).trans rfl; have hcz11_1 : w10.cell? ⟨gb1049, 1, none⟩ = some (.int .u64 a0_1) := (blk_cell BK1049.out 1).trans rfl; have hcz11_2 : w10.cell? ⟨gb1049, 2, none⟩ = some (.int .u64 a0_2) := (blk_cell BK1049.out 2).trans rfl; have hcz11_3 : w10.cell? ⟨gb1049, 3, none⟩ = some (.int .u64 a0_3) := (blk_cell BK1049.out 3).trans rfl; have hcz11_4 : w10.cell? ⟨gb1049, 4, none⟩ = some (.int .i64 a0_4) := (blk_cell BK1049.out 4).trans rfl; have hcz11_5 : w10.cell? ⟨gb1049, 5, none⟩ = some (.bool a0_5) := (blk_cell BK1049.out 5).trans rfl; have hfz11_0 := blk_frozen BK1049.out 0; have hfz11_1 := blk_frozen BK1049.out 1; have hfz11_2 := blk_frozen BK1049.out 2; have hfz11_3 := blk_frozen BK1049.out 3; have hfz11_4 := blk_frozen BK1049.out 4; have hfz11_5 := blk_frozen BK1049.out 5) | ((with_reducible refine gate_callee (f := 10) rfl ?_); refine goesL_ (some 19) rfl rfl Tryd.func10 (by kernel_rfl) rfl #[.agg #[.int .u64 a0_0, .int .u64 a0_1, .int .u64 a0_2, .int .u64 a0_3, .int .i64 a0_4, .bool true]] rfl (by (try simp only [List.map_toArray, List.map_cons, List.map_nil]); first | done | rfl | (simp only [List.length_drop, List.length_take]; rfl)) ?_; (with_reducible refine (tenementlaw07_Mark_mark.calls k a0_0 a0_1 a0_2 a0_3 a0_4 true t1051 t1052 t1053 t1054 t1055 _ A6.out).mono ?_); rintro e w12 ⟨rfl, hb⟩; refine ⟨_, rfl, ?_⟩; have n0_ := Aside0.mk (blk_below (g := gb1049) (o := .cells #[.int .u64 a0_0, .int .u64 a0_1, .int .u64 a0_2, .int .u64 a0_3, .int .i64 a0_4, .bool true] 28 (0, 0)) (by (with_reducible repeat (first | refine blk_drewN ?_ _ | refine blk_drew ?_ | refine blk_alloc ?_ _)); refine blk_put (cs := #[.int .u64 a0_0, .int .u64 a0_1, .int .u64 a0_2, .int .u64 a0_3, .int .i64 a0_4, .bool a0_5]) ?_ 5 _ rfl; (with_reducible repeat (first | refine blk_drewN ?_ _ | refine blk_drew ?_ | refine blk_alloc ?_ _)); exact BK1049.out) hb); have n1_ := Aside0.mk (below_step (by repeat (first | (with_reducible first | exact HB.out | apply below_alloc | apply pw_below_drewN | apply below_drew1 | refine below_set ?_ GE1049.out) | exact HB.out)) hb); clear BK1049; clear HB; have BK1049 := n0_; have HB := n1_; clear n0_ n1_; (try clear hb); (try clear hb2); (try clear hk); (try clear hi)) | ((with_reducible refine gate_dst (N := 8) rfl ?_); refine box_event ?hg (N := 8) ?hd (cs := #[.int .u64 0, .int .u64 0, .int .u64 0, .int .u64 0, .int .i64 0]) (t := 26) ?hr ?_; (case hd => rfl); (case hg => rfl); (case hr => first | (go_simp; done) | (go_simp; rfl)); intro gb1056 hg w13 hbox hb; have n0_ := Aside0.mk (blk_below (g := gb1049) (o := .cells #[.int .u64 a0_0, .int .u64 a0_1, .int .u64 a0_2, .int .u64 a0_3, .int .i64 a0_4, .bool true] 28 (0, 0)) (by (with_reducible repeat (first | refine blk_drewN ?_ _ | refine blk_drew ?_ | refine blk_alloc ?_ _)); exact BK1049.out) hb); have n1_ := Aside0.mk (below_step (by repeat (first | (with_reducible first | exact HB.out | apply below_alloc | apply pw_below_drewN | apply below_drew1 | refine below_set ?_ GE1049.out) | exact HB.out)) hb); have n2_ := Aside0.mk (hbox); have n3_ := Aside0.mk ((by rw [hg]; exact (below_size (by repeat (first | (with_reducible first | exact HB.out | apply below_alloc | apply pw_below_drewN | apply below_drew1 | refine below_set ?_ GE1049.out) | exact HB.out))) : w.heap.size ≤ gb1056)); have n4_ := Aside0.mk ((by rw [hg]; exact (below_size (by repeat (first | (with_reducible first | exact HB.out | apply below_alloc | apply pw_below_drewN | apply below_drew1 | refine below_set ?_ GE1049.out) | exact HB.out))) : w.heap.size ≤ gb1056)); have n5_ := Aside0.mk ((by rw [hg]; exact Nat.ne_of_lt (blk_lt (g := gb1049) (o := .cells #[.int .u64 a0_0, .int .u64 a0_1, .int .u64 a0_2, .int .u64 a0_3, .int .i64 a0_4, .bool true] 28 (0, 0)) (by (with_reducible repeat (first | refine blk_drewN ?_ _ | refine blk_drew ?_ | refine blk_alloc ?_ _)); exact BK1049.out)) : gb1049 ≠ gb1056)); have n6_ := Aside0.mk ((by rw [hg]; exact Nat.ne_of_gt (blk_lt (g := gb1049) (o := .cells #[.int .u64 a0_0, .int .u64 a0_1, .int .u64 a0_2, .int .u64 a0_3, .int .i64 a0_4, .bool true] 28 (0, 0)) (by (with_reducible repeat (first | refine blk_drewN ?_ _ | refine blk_drew ?_ | refine blk_alloc ?_ _)); exact BK1049.out)) : gb1056 ≠ gb1049)); clear BK1049; clear HB; have BK1049 := n0_; have HB := n1_; have BK1056 := n2_; have GW1056 := n3_; have GE1056 := n4_; have NB1049_1056 := n5_; have NB1056_1049 := n6_; clear n0_ n1_ n2_ n3_ n4_ n5_ n6_; clear hb hbox hg; have hnb14 := NB1056_1049.out; have hnc14 := NB1049_1056.out; have hcz15_0 : w13.cell? ⟨gb1056, 0, none⟩ = some (.int .u64 0) := (blk_cell BK1056.out 0).trans rfl; have hcz15_1 : w13.cell? ⟨gb1056, 1, none⟩ = some (.int .u64 0) := (blk_cell BK1056.out 1).trans rfl; have hcz15_2 : w13.cell? ⟨gb1056, 2, none⟩ = some (.int .u64 0) := (blk_cell BK1056.out 2).trans rfl; have hcz15_3 : w13.cell? ⟨gb1056, 3, none⟩ = some (.int .u64 0) := (blk_cell BK1056.out 3).trans rfl; have hcz15_4 : w13.cell? ⟨gb1056, 4, none⟩ = some (.int .i64 0) := (blk_cell BK1056.out 4).trans rfl; have hfz15_0 := blk_frozen BK1056.out 0; have hfz15_1 := blk_frozen BK1056.out 1; have hfz15_2 := blk_frozen BK1056.out 2; have hfz15_3 := blk_frozen BK1056.out 3; have hfz15_4 := blk_frozen BK1056.out 4) | ((with_reducible refine gate_callee (f := 17) rfl ?_); refine goesL_ (some 21) rfl rfl Tryd.func17 (by kernel_rfl) rfl #[.agg #[.int .u64 t1051, .int .u64 t1052, .int .u64 t1053, .int .u64 t1054, .int .i64 t1055]] rfl (by (try simp only [List.map_toArray, List.map_cons, List.map_nil]); first | done | rfl | (simp only [List.length_drop, List.length_take]; rfl)) ?_; (with_reducible refine (stamp_Right.calls t1051 t1052 t1053 t1054 t1055 t1057 _ A7.out).mono ?_); rintro e w16 ⟨rfl, hb⟩; refine ⟨_, rfl, ?_⟩; have n0_ := Aside0.mk (blk_below (g := gb1049) (o := .cells #[.int .u64 a0_0, .int .u64 a0_1, .int .u64 a0_2, .int .u64 a0_3, .int .i64 a0_4, .bool true] 28 (0, 0)) (by (repeat (first | (with_reducible first | refine blk_drewN ?_ _ | refine blk_drew ?_ | refine blk_alloc ?_ _) | refine blk_far ?_ NB1049_1056.out _)); exact BK1049.out) hb); have n1_ := Aside0.mk (blk_below (g := gb1056) (o := .cells #[.int .u64 t1051, .int .u64 t1052, .int .u64 t1053, .int .u64 t1054, .int .i64 t1055] 26 (0, 0)) (by (with_reducible repeat (first | refine blk_drewN ?_ _ | refine blk_drew ?_ | refine blk_alloc ?_ _)); refine blk_put (cs := #[.int .u64 t1051, .int .u64 t1052, .int .u64 t1053, .int .u64 t1054, .int .i64 0]) ?_ 4 _ rfl; (with_reducible repeat (first | refine blk_drewN ?_ _ | refine blk_drew ?_ | refine blk_alloc ?_ _)); refine blk_put (cs := #[.int .u64 t1051, .int .u64 t1052, .int .u64 t1053, .int .u64 0, .int .i64 0]) ?_ 3 _ rfl; (with_reducible repeat (first | refine blk_drewN ?_ _ | refine blk_drew ?_ | refine blk_alloc ?_ _)); refine blk_put (cs := #[.int .u64 t1051, .int .u64 t1052, .int .u64 0, .int .u64 0, .int .i64 0]) ?_ 2 _ rfl; (with_reducible repeat (first | refine blk_drewN ?_ _ | refine blk_drew ?_ | refine blk_alloc ?_ _)); refine blk_put (cs := #[.int .u64 t1051, .int .u64 0, .int .u64 0, .int .u64 0, .int .i64 0]) ?_ 1 _ rfl; (with_reducible repeat (first | refine blk_drewN ?_ _ | refine blk_drew ?_ | refine blk_alloc ?_ _)); refine blk_put (cs := #[.int .u64 0, .int .u64 0, .int .u64 0, .int .u64 0, .int .i64 0]) ?_ 0 _ rfl; (with_reducible repeat (first | refine blk_drewN ?_ _ | refine blk_drew ?_ | refine blk_alloc ?_ _)); exact BK1056.out) hb); have n2_ := Aside0.mk (below_step (by repeat (first | (with_reducible first | exact HB.out | apply below_alloc | apply pw_below_drewN | apply below_drew1 | refine below_set ?_ GE1049.out | refine below_set ?_ GE1056.out) | exact HB.out)) hb); clear BK1049; clear BK1056; clear HB; have BK1049 := n0_; have BK1056 := n1_; have HB := n2_; clear n0_ n1_ n2_; (try clear hb); (try clear hb2); (try clear hk); (try clear hi); have hcz17_0 : w16.cell? ⟨gb1056, 0, none⟩ = some (.int .u64 t1051) := (blk_cell BK1056.out 0).trans rfl; have hcz17_1 : w16.cell? ⟨gb1056, 1, none⟩ = some (.int .u64 t1052) := (blk_cell BK1056.out 1).trans rfl; have hcz17_2 : w16.cell? ⟨gb1056, 2, none⟩ = some (.int .u64 t1053) := (blk_cell BK1056.out 2).trans rfl; have hcz17_3 : w16.cell? ⟨gb1056, 3, none⟩ = some (.int .u64 t1054) := (blk_cell BK1056.out 3).trans rfl; have hcz17_4 : w16.cell? ⟨gb1056, 4, none⟩ = some (.int .i64 t1055) := (blk_cell BK1056.out 4).trans rfl; have hfz17_0 := blk_frozen BK1056.out 0; have hfz17_1 := blk_frozen BK1056.out 1; have hfz17_2 := blk_frozen BK1056.out 2; have hfz17_3 := blk_frozen BK1056.out 3; have hfz17_4 := blk_frozen BK1056.out 4))
  (try simp only [Act.put, List.setIfInBounds_toArray, List.set_cons_zero, List.set_cons_succ])
  go_cut [] (fun wc => ∃ (kq : Nat) (x1057000_7 : Int) (x1057001_7 : Int) (x1057002_7 : Int) (x1057003_7 : Int), Aside0 (tenementlaw07_StampBounds.j0 kq true t1057 x1057000_7 x1057001_7 x1057002_7 x1057003_7 (wrap64 (Int.tmod a1 7)) = some r) ∧ Aside0 (kq ≤ k) ∧ Aside0 (wc.heap[gb1049]? = some (.cells #[.int .u64 a0_0, .int .u64 a0_1, .int .u64 a0_2, .int .u64 a0_3, .int .i64 a0_4, .bool true] 28 (0, 0))) ∧ Aside0 (wc.heap[gb1056]? = some (.cells #[.int .u64 x1057000_7, .int .u64 x1057001_7, .int .u64 x1057002_7, .int .u64 x1057003_7, .int .i64 (wrap64 (Int.tmod a1 7))] 26 (0, 0))) ∧ Aside0 (Below w.heap.size w wc))
  case first =>
    have H := HC8.out
    clear HC8
    by_cases c18 : a2 > 250
    rotate_left
    · rw [if_neg c18] at H
      have c18b0 : decide (250 < a2) = false := decide_eq_false c18
      clear c18
      (first | rw [c18b0] | (simp only [i64_w, i32_w]; rw [c18b0]) | skip)
      have H' := Aside0.mk H
      clear H
      go_wp2
      go_meet
      case rel => exact ⟨_, (t1051), (t1052), (t1053), (t1054), H', ⟨by first | omega | exact Nat.le_refl _⟩, ⟨by (repeat (first | (with_reducible first | refine blk_drewN ?_ _ | refine blk_drew ?_ | refine blk_alloc ?_ _) | refine blk_far ?_ NB1049_1056.out _)); exact BK1049.out⟩, ⟨by (with_reducible repeat (first | refine blk_drewN ?_ _ | refine blk_drew ?_ | refine blk_alloc ?_ _)); refine blk_put (cs := #[.int .u64 t1051, .int .u64 t1052, .int .u64 t1053, .int .u64 t1054, .int .i64 t1055]) ?_ 4 _ rfl; (with_reducible repeat (first | refine blk_drewN ?_ _ | refine blk_drew ?_ | refine blk_alloc ?_ _)); exact BK1056.out⟩, ⟨by repeat (first | (with_reducible first | exact HB.out | apply below_alloc | apply pw_below_drewN | apply below_drew1 | refine below_set ?_ GE1049.out | refine below_set ?_ GE1056.out) | exact HB.out)⟩⟩
    rw [if_pos c18] at H
    have c18b0 : decide (250 < a2) = true := decide_eq_true c18
    clear c18
    (first | rw [c18b0] | (simp only [i64_w, i32_w]; rw [c18b0]) | skip)
    by_cases c19 : Int.tmod a2 4 = 0
    · rw [if_pos c19] at H
      have H' := Aside0.mk H
      clear H
      have hnb20 := NB1056_1049.out
      have hnc20 := NB1049_1056.out
      have hcz21_0 : w16.cell? ⟨gb1056, 0, none⟩ = some (.int .u64 t1051) := (blk_cell BK1056.out 0).trans rfl
      have hcz21_1 : w16.cell? ⟨gb1056, 1, none⟩ = some (.int .u64 t1052) := (blk_cell BK1056.out 1).trans rfl
      have hcz21_2 : w16.cell? ⟨gb1056, 2, none⟩ = some (.int .u64 t1053) := (blk_cell BK1056.out 2).trans rfl
      have hcz21_3 : w16.cell? ⟨gb1056, 3, none⟩ = some (.int .u64 t1054) := (blk_cell BK1056.out 3).trans rfl
      have hcz21_4 : w16.cell? ⟨gb1056, 4, none⟩ = some (.int .i64 t1055) := (blk_cell BK1056.out 4).trans rfl
      have hfz21_0 := blk_frozen BK1056.out 0
      have hfz21_1 := blk_frozen BK1056.out 1
      have hfz21_2 := blk_frozen BK1056.out 2
      have hfz21_3 := blk_frozen BK1056.out 3
      have hfz21_4 := blk_frozen BK1056.out 4
      go_wp2
      go_meet
      case rel => exact ⟨_, (IntKind.u64.wrap (1152921504606846976 + (IntKind.u64.wrap (Int.tmod a2 3)))), (t1052), (t1053), (t1054), H', ⟨by first | omega | exact Nat.le_refl _⟩, ⟨by (repeat (first | (with_reducible first | refine blk_drewN ?_ _ | refine blk_drew ?_ | refine blk_alloc ?_ _) | refine blk_far ?_ NB1049_1056.out _)); exact BK1049.out⟩, ⟨by (with_reducible repeat (first | refine blk_drewN ?_ _ | refine blk_drew ?_ | refine blk_alloc ?_ _)); refine blk_put (cs := #[.int .u64 t1051, .int .u64 t1052, .int .u64 t1053, .int .u64 t1054, .int .i64 (wrap64 (Int.tmod a1 7))]) ?_ 0 _ rfl; (with_reducible repeat (first | refine blk_drewN ?_ _ | refine blk_drew ?_ | refine blk_alloc ?_ _)); refine blk_put (cs := #[.int .u64 t1051, .int .u64 t1052, .int .u64 t1053, .int .u64 t1054, .int .i64 t1055]) ?_ 4 _ rfl; (with_reducible repeat (first | refine blk_drewN ?_ _ | refine blk_drew ?_ | refine blk_alloc ?_ _)); exact BK1056.out⟩, ⟨by repeat (first | (with_reducible first | exact HB.out | apply below_alloc | apply pw_below_drewN | apply below_drew1 | refine below_set ?_ GE1049.out | refine below_set ?_ GE1056.out) | exact HB.out)⟩⟩
    rw [if_neg c19] at H
    by_cases c22 : Int.tmod a2 4 = 1
    · rw [if_pos c22] at H
      have H' := Aside0.mk H
      clear H
      have hnb23 := NB1056_1049.out
      have hnc23 := NB1049_1056.out
      have hcz24_0 : w16.cell? ⟨gb1056, 0, none⟩ = some (.int .u64 t1051) := (blk_cell BK1056.out 0).trans rfl
      have hcz24_1 : w16.cell? ⟨gb1056, 1, none⟩ = some (.int .u64 t1052) := (blk_cell BK1056.out 1).trans rfl
      have hcz24_2 : w16.cell? ⟨gb1056, 2, none⟩ = some (.int .u64 t1053) := (blk_cell BK1056.out 2).trans rfl
      have hcz24_3 : w16.cell? ⟨gb1056, 3, none⟩ = some (.int .u64 t1054) := (blk_cell BK1056.out 3).trans rfl
      have hcz24_4 : w16.cell? ⟨gb1056, 4, none⟩ = some (.int .i64 t1055) := (blk_cell BK1056.out 4).trans rfl
      have hfz24_0 := blk_frozen BK1056.out 0
      have hfz24_1 := blk_frozen BK1056.out 1
      have hfz24_2 := blk_frozen BK1056.out 2
      have hfz24_3 := blk_frozen BK1056.out 3
      have hfz24_4 := blk_frozen BK1056.out 4
      go_wp2
      go_meet
      case rel => exact ⟨_, (t1051), (IntKind.u64.wrap (1152921504606846976 + (IntKind.u64.wrap (Int.tmod a2 3)))), (t1053), (t1054), H', ⟨by first | omega | exact Nat.le_refl _⟩, ⟨by (repeat (first | (with_reducible first | refine blk_drewN ?_ _ | refine blk_drew ?_ | refine blk_alloc ?_ _) | refine blk_far ?_ NB1049_1056.out _)); exact BK1049.out⟩, ⟨by (with_reducible repeat (first | refine blk_drewN ?_ _ | refine blk_drew ?_ | refine blk_alloc ?_ _)); refine blk_put (cs := #[.int .u64 t1051, .int .u64 t1052, .int .u64 t1053, .int .u64 t1054, .int .i64 (wrap64 (Int.tmod a1 7))]) ?_ 1 _ rfl; (with_reducible repeat (first | refine blk_drewN ?_ _ | refine blk_drew ?_ | refine blk_alloc ?_ _)); refine blk_put (cs := #[.int .u64 t1051, .int .u64 t1052, .int .u64 t1053, .int .u64 t1054, .int .i64 t1055]) ?_ 4 _ rfl; (with_reducible repeat (first | refine blk_drewN ?_ _ | refine blk_drew ?_ | refine blk_alloc ?_ _)); exact BK1056.out⟩, ⟨by repeat (first | (with_reducible first | exact HB.out | apply below_alloc | apply pw_below_drewN | apply below_drew1 | refine below_set ?_ GE1049.out | refine below_set ?_ GE1056.out) | exact HB.out)⟩⟩
    rw [if_neg c22] at H
    by_cases c25 : Int.tmod a2 4 = 2
    · rw [if_pos c25] at H
      have H' := Aside0.mk H
      clear H
      have hnb26 := NB1056_1049.out
      have hnc26 := NB1049_1056.out
      have hcz27_0 : w16.cell? ⟨gb1056, 0, none⟩ = some (.int .u64 t1051) := (blk_cell BK1056.out 0).trans rfl
      have hcz27_1 : w16.cell? ⟨gb1056, 1, none⟩ = some (.int .u64 t1052) := (blk_cell BK1056.out 1).trans rfl
      have hcz27_2 : w16.cell? ⟨gb1056, 2, none⟩ = some (.int .u64 t1053) := (blk_cell BK1056.out 2).trans rfl
      have hcz27_3 : w16.cell? ⟨gb1056, 3, none⟩ = some (.int .u64 t1054) := (blk_cell BK1056.out 3).trans rfl
      have hcz27_4 : w16.cell? ⟨gb1056, 4, none⟩ = some (.int .i64 t1055) := (blk_cell BK1056.out 4).trans rfl
      have hfz27_0 := blk_frozen BK1056.out 0
      have hfz27_1 := blk_frozen BK1056.out 1
      have hfz27_2 := blk_frozen BK1056.out 2
      have hfz27_3 := blk_frozen BK1056.out 3
      have hfz27_4 := blk_frozen BK1056.out 4
      go_wp2
      go_meet
      case rel => exact ⟨_, (t1051), (t1052), (IntKind.u64.wrap (1152921504606846976 + (IntKind.u64.wrap (Int.tmod a2 3)))), (t1054), H', ⟨by first | omega | exact Nat.le_refl _⟩, ⟨by (repeat (first | (with_reducible first | refine blk_drewN ?_ _ | refine blk_drew ?_ | refine blk_alloc ?_ _) | refine blk_far ?_ NB1049_1056.out _)); exact BK1049.out⟩, ⟨by (with_reducible repeat (first | refine blk_drewN ?_ _ | refine blk_drew ?_ | refine blk_alloc ?_ _)); refine blk_put (cs := #[.int .u64 t1051, .int .u64 t1052, .int .u64 t1053, .int .u64 t1054, .int .i64 (wrap64 (Int.tmod a1 7))]) ?_ 2 _ rfl; (with_reducible repeat (first | refine blk_drewN ?_ _ | refine blk_drew ?_ | refine blk_alloc ?_ _)); refine blk_put (cs := #[.int .u64 t1051, .int .u64 t1052, .int .u64 t1053, .int .u64 t1054, .int .i64 t1055]) ?_ 4 _ rfl; (with_reducible repeat (first | refine blk_drewN ?_ _ | refine blk_drew ?_ | refine blk_alloc ?_ _)); exact BK1056.out⟩, ⟨by repeat (first | (with_reducible first | exact HB.out | apply below_alloc | apply pw_below_drewN | apply below_drew1 | refine below_set ?_ GE1049.out | refine below_set ?_ GE1056.out) | exact HB.out)⟩⟩
    rw [if_neg c25] at H
    by_cases c28 : Int.tmod a2 4 = 3
    rotate_left
    · rw [if_neg c28] at H
      exact absurd H (by simp)
    rw [if_pos c28] at H
    have H' := Aside0.mk H
    clear H
    have hnb29 := NB1056_1049.out
    have hnc29 := NB1049_1056.out
    have hcz30_0 : w16.cell? ⟨gb1056, 0, none⟩ = some (.int .u64 t1051) := (blk_cell BK1056.out 0).trans rfl
    have hcz30_1 : w16.cell? ⟨gb1056, 1, none⟩ = some (.int .u64 t1052) := (blk_cell BK1056.out 1).trans rfl
    have hcz30_2 : w16.cell? ⟨gb1056, 2, none⟩ = some (.int .u64 t1053) := (blk_cell BK1056.out 2).trans rfl
    have hcz30_3 : w16.cell? ⟨gb1056, 3, none⟩ = some (.int .u64 t1054) := (blk_cell BK1056.out 3).trans rfl
    have hcz30_4 : w16.cell? ⟨gb1056, 4, none⟩ = some (.int .i64 t1055) := (blk_cell BK1056.out 4).trans rfl
    have hfz30_0 := blk_frozen BK1056.out 0
    have hfz30_1 := blk_frozen BK1056.out 1
    have hfz30_2 := blk_frozen BK1056.out 2
    have hfz30_3 := blk_frozen BK1056.out 3
    have hfz30_4 := blk_frozen BK1056.out 4
    go_wp2
    go_meet
    case rel => exact ⟨_, (t1051), (t1052), (t1053), (IntKind.u64.wrap (1152921504606846976 + (IntKind.u64.wrap (Int.tmod a2 3)))), H', ⟨by first | omega | exact Nat.le_refl _⟩, ⟨by (repeat (first | (with_reducible first | refine blk_drewN ?_ _ | refine blk_drew ?_ | refine blk_alloc ?_ _) | refine blk_far ?_ NB1049_1056.out _)); exact BK1049.out⟩, ⟨by (with_reducible repeat (first | refine blk_drewN ?_ _ | refine blk_drew ?_ | refine blk_alloc ?_ _)); refine blk_put (cs := #[.int .u64 t1051, .int .u64 t1052, .int .u64 t1053, .int .u64 t1054, .int .i64 (wrap64 (Int.tmod a1 7))]) ?_ 3 _ rfl; (with_reducible repeat (first | refine blk_drewN ?_ _ | refine blk_drew ?_ | refine blk_alloc ?_ _)); refine blk_put (cs := #[.int .u64 t1051, .int .u64 t1052, .int .u64 t1053, .int .u64 t1054, .int .i64 t1055]) ?_ 4 _ rfl; (with_reducible repeat (first | refine blk_drewN ?_ _ | refine blk_drew ?_ | refine blk_alloc ?_ _)); exact BK1056.out⟩, ⟨by repeat (first | (with_reducible first | exact HB.out | apply below_alloc | apply pw_below_drewN | apply below_drew1 | refine below_set ?_ GE1049.out | refine below_set ?_ GE1056.out) | exact HB.out)⟩⟩
  case rest =>
    clear HC8
    try clear c1
    try clear c2
    try clear p2
    try clear c5
    try clear p6
    try clear c7
    try clear c9
    try clear c10
    try clear c14
    try clear c17
    try clear c18
    try clear c18b0
    try clear c19
    try clear c20
    try clear c22
    try clear c23
    try clear c25
    try clear c26
    try clear c28
    try clear c29
    try clear hcz11_0
    try clear hcz11_1
    try clear hcz11_2
    try clear hcz11_3
    try clear hcz11_4
    try clear hcz11_5
    try clear hcz15_0
    try clear hcz15_1
    try clear hcz15_2
    try clear hcz15_3
    try clear hcz15_4
    try clear hcz17_0
    try clear hcz17_1
    try clear hcz17_2
    try clear hcz17_3
    try clear hcz17_4
    try clear hcz21_0
    try clear hcz21_1
    try clear hcz21_2
    try clear hcz21_3
    try clear hcz21_4
    try clear hcz24_0
    try clear hcz24_1
    try clear hcz24_2
    try clear hcz24_3
    try clear hcz24_4
    try clear hcz27_0
    try clear hcz27_1
    try clear hcz27_2
    try clear hcz27_3
    try clear hcz27_4
    try clear hcz30_0
    try clear hcz30_1
    try clear hcz30_2
    try clear hcz30_3
    try clear hcz30_4
    try clear hfz11_0
    try clear hfz11_1
    try clear hfz11_2
    try clear hfz11_3
    try clear hfz11_4
    try clear hfz11_5
    try clear hfz15_0
    try clear hfz15_1
    try clear hfz15_2
    try clear hfz15_3
    try clear hfz15_4
    try clear hfz17_0
    try clear hfz17_1
    try clear hfz17_2
    try clear hfz17_3
    try clear hfz17_4
    try clear hfz21_0
    try clear hfz21_1
    try clear hfz21_2
    try clear hfz21_3
    try clear hfz21_4
    try clear hfz24_0
    try clear hfz24_1
    try clear hfz24_2
    try clear hfz24_3
    try clear hfz24_4
    try clear hfz27_0
    try clear hfz27_1
    try clear hfz27_2
    try clear hfz27_3
    try clear hfz27_4
    try clear hfz30_0
    try clear hfz30_1
    try clear hfz30_2
    try clear hfz30_3
    try clear hfz30_4
    obtain ⟨kq, x1057000_7, x1057001_7, x1057002_7, x1057003_7, HA, HJ7, BK1049, BK1056, HB⟩ := hcut
    cases kq with
    | zero => exact absurd HA.out (by simp [tenementlaw07_StampBounds.j0])
    | succ kj7 =>
      have H := HA.out
      clear HA
      simp only [tenementlaw07_StampBounds.j0] at H
      replace H := Option.bind_eq_some_iff.mp H
      obtain ⟨t1058, A310, H⟩ := H
      replace H : ((stamp_Put.f kj7 x1057000_7 x1057001_7 x1057002_7 x1057003_7 (wrap64 (Int.tmod a1 7))).bind fun bt1059 => (if (wrap64 (Int.tmod a1 7)) ≥ 1 then (if (wrap64 (Int.tmod a1 7)) ≤ 4 then (if t1058 ≥ 1 then ((vec_Right.f x1057000_7 x1057001_7 x1057002_7 x1057003_7).bind fun t1061 => (if true = true then (if t1057 = true then ((stamp_Right.f x1057000_7 x1057001_7 x1057002_7 x1057003_7 (wrap64 (Int.tmod a1 7))).bind fun t1062 => (if t1062 = t1061 then (if bt1059.2 = t1061 then (if bt1059.1.toList = ([] : List UInt8) then (if t1061 = true then (none) else ((stamp_Stamp_N.f x1057000_7 x1057001_7 x1057002_7 x1057003_7 (wrap64 (Int.tmod a1 7))).bind fun t1063 => (if t1063 = t1058 then (some true) else (none)))) else (if t1061 = true then ((stamp_Stamp_N.f x1057000_7 x1057001_7 x1057002_7 x1057003_7 (wrap64 (Int.tmod a1 7))).bind fun t1064 => (if t1064 = t1058 then (some true) else (none))) else (none))) else (none)) else (none))) else (none)) else (none))) else (if true = true then (if t1057 = true then ((stamp_Right.f x1057000_7 x1057001_7 x1057002_7 x1057003_7 (wrap64 (Int.tmod a1 7))).bind fun t1065 => (if t1065 = true then (none) else (if bt1059.2 = true then (none) else (if bt1059.1.toList = ([] : List UInt8) then ((stamp_Stamp_N.f x1057000_7 x1057001_7 x1057002_7 x1057003_7 (wrap64 (Int.tmod a1 7))).bind fun t1066 => (if t1066 = t1058 then (some true) else (none))) else (none))))) else (none)) else (none))) else (if true = true then (if t1057 = true then ((stamp_Right.f x1057000_7 x1057001_7 x1057002_7 x1057003_7 (wrap64 (Int.tmod a1 7))).bind fun t1067 => (if t1067 = true then (none) else (if bt1059.2 = true then (none) else (if bt1059.1.toList = ([] : List UInt8) then ((stamp_Stamp_N.f x1057000_7 x1057001_7 x1057002_7 x1057003_7 (wrap64 (Int.tmod a1 7))).bind fun t1068 => (if t1068 = t1058 then (some true) else (none))) else (none))))) else (none)) else (none))) else (if true = true then (if t1057 = true then ((stamp_Right.f x1057000_7 x1057001_7 x1057002_7 x1057003_7 (wrap64 (Int.tmod a1 7))).bind fun t1069 => (if t1069 = true then (none) else (if bt1059.2 = true then (none) else (if bt1059.1.toList = ([] : List UInt8) then ((stamp_Stamp_N.f x1057000_7 x1057001_7 x1057002_7 x1057003_7 (wrap64 (Int.tmod a1 7))).bind fun t1070 => (if t1070 = t1058 then (some true) else (none))) else (none))))) else (none)) else (none)))) = some r := H
      have A31 := Aside0.mk A310
      clear A310
      replace H := Option.bind_eq_some_iff.mp H
      obtain ⟨⟨t1059, t1060⟩, A320, H⟩ := H
      replace H : (if (wrap64 (Int.tmod a1 7)) ≥ 1 then (if (wrap64 (Int.tmod a1 7)) ≤ 4 then (if t1058 ≥ 1 then ((vec_Right.f x1057000_7 x1057001_7 x1057002_7 x1057003_7).bind fun t1061 => (if true = true then (if t1057 = true then ((stamp_Right.f x1057000_7 x1057001_7 x1057002_7 x1057003_7 (wrap64 (Int.tmod a1 7))).bind fun t1062 => (if t1062 = t1061 then (if t1060 = t1061 then (if t1059.toList = ([] : List UInt8) then (if t1061 = true then (none) else ((stamp_Stamp_N.f x1057000_7 x1057001_7 x1057002_7 x1057003_7 (wrap64 (Int.tmod a1 7))).bind fun t1063 => (if t1063 = t1058 then (some true) else (none)))) else (if t1061 = true then ((stamp_Stamp_N.f x1057000_7 x1057001_7 x1057002_7 x1057003_7 (wrap64 (Int.tmod a1 7))).bind fun t1064 => (if t1064 = t1058 then (some true) else (none))) else (none))) else (none)) else (none))) else (none)) else (none))) else (if true = true then (if t1057 = true then ((stamp_Right.f x1057000_7 x1057001_7 x1057002_7 x1057003_7 (wrap64 (Int.tmod a1 7))).bind fun t1065 => (if t1065 = true then (none) else (if t1060 = true then (none) else (if t1059.toList = ([] : List UInt8) then ((stamp_Stamp_N.f x1057000_7 x1057001_7 x1057002_7 x1057003_7 (wrap64 (Int.tmod a1 7))).bind fun t1066 => (if t1066 = t1058 then (some true) else (none))) else (none))))) else (none)) else (none))) else (if true = true then (if t1057 = true then ((stamp_Right.f x1057000_7 x1057001_7 x1057002_7 x1057003_7 (wrap64 (Int.tmod a1 7))).bind fun t1067 => (if t1067 = true then (none) else (if t1060 = true then (none) else (if t1059.toList = ([] : List UInt8) then ((stamp_Stamp_N.f x1057000_7 x1057001_7 x1057002_7 x1057003_7 (wrap64 (Int.tmod a1 7))).bind fun t1068 => (if t1068 = t1058 then (some true) else (none))) else (none))))) else (none)) else (none))) else (if true = true then (if t1057 = true then ((stamp_Right.f x1057000_7 x1057001_7 x1057002_7 x1057003_7 (wrap64 (Int.tmod a1 7))).bind fun t1069 => (if t1069 = true then (none) else (if t1060 = true then (none) else (if t1059.toList = ([] : List UInt8) then ((stamp_Stamp_N.f x1057000_7 x1057001_7 x1057002_7 x1057003_7 (wrap64 (Int.tmod a1 7))).bind fun t1070 => (if t1070 = t1058 then (some true) else (none))) else (none))))) else (none)) else (none))) = some r := H
      have A32 := Aside0.mk A320
      clear A320
      by_cases c33 : (wrap64 (Int.tmod a1 7)) ≥ 1
      rotate_left
      · rw [if_neg c33] at H
        have c33b0 : decide (1 ≤ (wrap64 (Int.tmod a1 7))) = false := decide_eq_false c33
        clear c33
        replace H : (if t1057 = true then ((stamp_Right.f x1057000_7 x1057001_7 x1057002_7 x1057003_7 (wrap64 (Int.tmod a1 7))).bind fun t1069 => (if t1069 = true then (none) else (if t1060 = true then (none) else (if t1059.toList = ([] : List UInt8) then ((stamp_Stamp_N.f x1057000_7 x1057001_7 x1057002_7 x1057003_7 (wrap64 (Int.tmod a1 7))).bind fun t1070 => (if t1070 = t1058 then (some true) else (none))) else (none))))) else (none)) = some r := by first | (rw [if_pos rfl] at H; exact H) | (rw [if_pos trivial] at H; exact H)
        by_cases c102 : t1057 = true
        rotate_left
        · replace c102 := Bool.eq_false_iff.mpr c102
          subst c102
          have H1 : (none) = some r := by rw [if_neg (show ¬ (false = true) by decide)] at H; exact H
          clear H
          have H := H1
          clear H1
          exact absurd H (by simp)
        subst c102
        have H1 : ((stamp_Right.f x1057000_7 x1057001_7 x1057002_7 x1057003_7 (wrap64 (Int.tmod a1 7))).bind fun t1069 => (if t1069 = true then (none) else (if t1060 = true then (none) else (if t1059.toList = ([] : List UInt8) then ((stamp_Stamp_N.f x1057000_7 x1057001_7 x1057002_7 x1057003_7 (wrap64 (Int.tmod a1 7))).bind fun t1070 => (if t1070 = t1058 then (some true) else (none))) else (none))))) = some r := by rw [if_pos rfl] at H; exact H
        clear H
        have H := H1
        clear H1
        replace H := Option.bind_eq_some_iff.mp H
        obtain ⟨t1069, A1030, H⟩ := H
        replace H : (if t1069 = true then (none) else (if t1060 = true then (none) else (if t1059.toList = ([] : List UInt8) then ((stamp_Stamp_N.f x1057000_7 x1057001_7 x1057002_7 x1057003_7 (wrap64 (Int.tmod a1 7))).bind fun t1070 => (if t1070 = t1058 then (some true) else (none))) else (none)))) = some r := H
        have A103 := Aside0.mk A1030
        clear A1030
        by_cases c104 : t1069 = true
        · subst c104
          have H1 : (none) = some r := by rw [if_pos rfl] at H; exact H
          clear H
          have H := H1
          clear H1
          exact absurd H (by simp)
        replace c104 := Bool.eq_false_iff.mpr c104
        subst c104
        have H1 : (if t1060 = true then (none) else (if t1059.toList = ([] : List UInt8) then ((stamp_Stamp_N.f x1057000_7 x1057001_7 x1057002_7 x1057003_7 (wrap64 (Int.tmod a1 7))).bind fun t1070 => (if t1070 = t1058 then (some true) else (none))) else (none))) = some r := by rw [if_neg (show ¬ (false = true) by decide)] at H; exact H
        clear H
        have H := H1
        clear H1
        by_cases c105 : t1060 = true
        · subst c105
          have H1 : (none) = some r := by rw [if_pos rfl] at H; exact H
          clear H
          have H := H1
          clear H1
          exact absurd H (by simp)
        replace c105 := Bool.eq_false_iff.mpr c105
        subst c105
        have H1 : (if t1059.toList = ([] : List UInt8) then ((stamp_Stamp_N.f x1057000_7 x1057001_7 x1057002_7 x1057003_7 (wrap64 (Int.tmod a1 7))).bind fun t1070 => (if t1070 = t1058 then (some true) else (none))) else (none)) = some r := by rw [if_neg (show ¬ (false = true) by decide)] at H; exact H
        clear H
        have H := H1
        clear H1
        by_cases c106 : t1059.toList = ([] : List UInt8)
        rotate_left
        · rw [if_neg c106] at H
          exact absurd H (by simp)
        rw [if_pos c106] at H
        have c106b0 : (t1059.toList == ([] : List UInt8)) = true := beq_iff_eq.mpr c106
        have c106b1 : (t1059.toList != ([] : List UInt8)) = false := bne_eq_false_iff_eq.mpr c106
        clear c106
        replace H := Option.bind_eq_some_iff.mp H
        obtain ⟨t1070, A1070, H⟩ := H
        replace H : (if t1070 = t1058 then (some true) else (none)) = some r := H
        have A107 := Aside0.mk A1070
        clear A1070
        by_cases c108 : t1070 = t1058
        rotate_left
        · rw [if_neg c108] at H
          exact absurd H (by simp)
        rw [if_pos c108] at H
        have c108b0 : (t1070 == t1058) = true := beq_iff_eq.mpr c108
        have c108b1 : (t1070 != t1058) = false := bne_eq_false_iff_eq.mpr c108
        clear c108
        obtain rfl := Option.some.inj H
        have hnb109 := NB1056_1049.out
        have hnc109 := NB1049_1056.out
        have hcz110_0 : wc.cell? ⟨gb1056, 0, none⟩ = some (.int .u64 x1057000_7) := (blk_cell BK1056.out 0).trans rfl
        have hcz110_1 : wc.cell? ⟨gb1056, 1, none⟩ = some (.int .u64 x1057001_7) := (blk_cell BK1056.out 1).trans rfl
        have hcz110_2 : wc.cell? ⟨gb1056, 2, none⟩ = some (.int .u64 x1057002_7) := (blk_cell BK1056.out 2).trans rfl
        have hcz110_3 : wc.cell? ⟨gb1056, 3, none⟩ = some (.int .u64 x1057003_7) := (blk_cell BK1056.out 3).trans rfl
        have hcz110_4 : wc.cell? ⟨gb1056, 4, none⟩ = some (.int .i64 (wrap64 (Int.tmod a1 7))) := (blk_cell BK1056.out 4).trans rfl
        have hfz110_0 := blk_frozen BK1056.out 0
        have hfz110_1 := blk_frozen BK1056.out 1
        have hfz110_2 := blk_frozen BK1056.out 2
        have hfz110_3 := blk_frozen BK1056.out 3
        have hfz110_4 := blk_frozen BK1056.out 4
        go_wp2_with (first | ((with_reducible refine gate_callee (f := 30) rfl ?_); refine goesL_ (some 40) rfl rfl Tryd.func30 (by kernel_rfl) rfl #[.agg #[.int .u64 x1057000_7, .int .u64 x1057001_7, .int .u64 x1057002_7, .int .u64 x1057003_7], .int .i64 (wrap64 (Int.tmod a1 7))] rfl (by (try simp only [List.map_toArray, List.map_cons, List.map_nil]); first | done | rfl | (simp only [List.length_drop, List.length_take]; rfl)) ?_; (with_reducible refine (vec_At.calls x1057000_7 x1057001_7 x1057002_7 x1057003_7 (wrap64 (Int.tmod a1 7)) t1058 _ A31.out).mono ?_); rintro e w111 ⟨rfl, hb⟩; refine ⟨_, rfl, ?_⟩; have n0_ := Aside0.mk (blk_below (g := gb1049) (o := .cells #[.int .u64 a0_0, .int .u64 a0_1, .int .u64 a0_2, .int .u64 a0_3, .int .i64 a0_4, .bool true] 28 (0, 0)) (by (with_reducible repeat (first | refine blk_drewN ?_ _ | refine blk_drew ?_ | refine blk_alloc ?_ _)); exact BK1049.out) hb); have n1_ := Aside0.mk (blk_below (g := gb1056) (o := .cells #[.int .u64 x1057000_7, .int .u64 x1057001_7, .int .u64 x1057002_7, .int .u64 x1057003_7, .int .i64 (wrap64 (Int.tmod a1 7))] 26 (0, 0)) (by (with_reducible repeat (first | refine blk_drewN ?_ _ | refine blk_drew ?_ | refine blk_alloc ?_ _)); exact BK1056.out) hb); have n2_ := Aside0.mk (below_step (by repeat (first | (with_reducible first | exact HB.out | apply below_alloc | apply pw_below_drewN | apply below_drew1 | refine below_set ?_ GE1049.out | refine below_set ?_ GE1056.out) | exact HB.out)) hb); clear BK1049; clear BK1056; clear HB; have BK1049 := n0_; have BK1056 := n1_; have HB := n2_; clear n0_ n1_ n2_; (try clear hb); (try clear hb2); (try clear hk); (try clear hi); have hcz112_0 : w111.cell? ⟨gb1056, 0, none⟩ = some (.int .u64 x1057000_7) := (blk_cell BK1056.out 0).trans rfl; have hcz112_1 : w111.cell? ⟨gb1056, 1, none⟩ = some (.int .u64 x1057001_7) := (blk_cell BK1056.out 1).trans rfl; have hcz112_2 : w111.cell? ⟨gb1056, 2, none⟩ = some (.int .u64 x1057002_7) := (blk_cell BK1056.out 2).trans rfl; have hcz112_3 : w111.cell? ⟨gb1056, 3, none⟩ = some (.int .u64 x1057003_7) := (blk_cell BK1056.out 3).trans rfl; have hcz112_4 : w111.cell? ⟨gb1056, 4, none⟩ = some (.int .i64 (wrap64 (Int.tmod a1 7))) := (blk_cell BK1056.out 4).trans rfl; have hfz112_0 := blk_frozen BK1056.out 0; have hfz112_1 := blk_frozen BK1056.out 1; have hfz112_2 := blk_frozen BK1056.out 2; have hfz112_3 := blk_frozen BK1056.out 3; have hfz112_4 := blk_frozen BK1056.out 4) | ((with_reducible refine gate_callee (f := 12) rfl ?_); refine goesL_ (some 43) rfl rfl Tryd.func12 (by kernel_rfl) rfl #[.agg #[.int .u64 x1057000_7, .int .u64 x1057001_7, .int .u64 x1057002_7, .int .u64 x1057003_7, .int .i64 (wrap64 (Int.tmod a1 7))]] rfl (by (try simp only [List.map_toArray, List.map_cons, List.map_nil]); first | done | rfl | (simp only [List.length_drop, List.length_take]; rfl)) ?_; (with_reducible refine (stamp_Put.calls kj7 x1057000_7 x1057001_7 x1057002_7 x1057003_7 (wrap64 (Int.tmod a1 7)) t1059 false _ A32.out).mono ?_); rintro e w113 ⟨rfl, hb⟩; refine ⟨_, rfl, ?_⟩; have n0_ := Aside0.mk (blk_below (g := gb1049) (o := .cells #[.int .u64 a0_0, .int .u64 a0_1, .int .u64 a0_2, .int .u64 a0_3, .int .i64 a0_4, .bool true] 28 (0, 0)) (by (with_reducible repeat (first | refine blk_drewN ?_ _ | refine blk_drew ?_ | refine blk_alloc ?_ _)); exact BK1049.out) hb); have n1_ := Aside0.mk (blk_below (g := gb1056) (o := .cells #[.int .u64 x1057000_7, .int .u64 x1057001_7, .int .u64 x1057002_7, .int .u64 x1057003_7, .int .i64 (wrap64 (Int.tmod a1 7))] 26 (0, 0)) (by (with_reducible repeat (first | refine blk_drewN ?_ _ | refine blk_drew ?_ | refine blk_alloc ?_ _)); exact BK1056.out) hb); have n2_ := Aside0.mk (below_step (by repeat (first | (with_reducible first | exact HB.out | apply below_alloc | apply pw_below_drewN | apply below_drew1 | refine below_set ?_ GE1049.out | refine below_set ?_ GE1056.out) | exact HB.out)) hb); clear BK1049; clear BK1056; clear HB; have BK1049 := n0_; have BK1056 := n1_; have HB := n2_; clear n0_ n1_ n2_; (try clear hb); (try clear hb2); (try clear hk); (try clear hi); have hcz114_0 : w113.cell? ⟨gb1056, 0, none⟩ = some (.int .u64 x1057000_7) := (blk_cell BK1056.out 0).trans rfl; have hcz114_1 : w113.cell? ⟨gb1056, 1, none⟩ = some (.int .u64 x1057001_7) := (blk_cell BK1056.out 1).trans rfl; have hcz114_2 : w113.cell? ⟨gb1056, 2, none⟩ = some (.int .u64 x1057002_7) := (blk_cell BK1056.out 2).trans rfl; have hcz114_3 : w113.cell? ⟨gb1056, 3, none⟩ = some (.int .u64 x1057003_7) := (blk_cell BK1056.out 3).trans rfl; have hcz114_4 : w113.cell? ⟨gb1056, 4, none⟩ = some (.int .i64 (wrap64 (Int.tmod a1 7))) := (blk_cell BK1056.out 4).trans rfl; have hfz114_0 := blk_frozen BK1056.out 0; have hfz114_1 := blk_frozen BK1056.out 1; have hfz114_2 := blk_frozen BK1056.out 2; have hfz114_3 := blk_frozen BK1056.out 3; have hfz114_4 := blk_frozen BK1056.out 4) | (go_at_call 17; (with_reducible refine (stamp_Right.calls x1057000_7 x1057001_7 x1057002_7 x1057003_7 (wrap64 (Int.tmod a1 7)) false _ A103.out).mono ?_); rintro e w115 ⟨rfl, hb⟩; have n0_ := Aside0.mk (blk_below (g := gb1049) (o := .cells #[.int .u64 a0_0, .int .u64 a0_1, .int .u64 a0_2, .int .u64 a0_3, .int .i64 a0_4, .bool true] 28 (0, 0)) (by (with_reducible repeat (first | refine blk_drewN ?_ _ | refine blk_drew ?_ | refine blk_alloc ?_ _)); exact BK1049.out) hb); have n1_ := Aside0.mk (blk_below (g := gb1056) (o := .cells #[.int .u64 x1057000_7, .int .u64 x1057001_7, .int .u64 x1057002_7, .int .u64 x1057003_7, .int .i64 (wrap64 (Int.tmod a1 7))] 26 (0, 0)) (by (with_reducible repeat (first | refine blk_drewN ?_ _ | refine blk_drew ?_ | refine blk_alloc ?_ _)); exact BK1056.out) hb); have n2_ := Aside0.mk (below_step (by repeat (first | (with_reducible first | exact HB.out | apply below_alloc | apply pw_below_drewN | apply below_drew1 | refine below_set ?_ GE1049.out | refine below_set ?_ GE1056.out) | exact HB.out)) hb); clear BK1049; clear BK1056; clear HB; have BK1049 := n0_; have BK1056 := n1_; have HB := n2_; clear n0_ n1_ n2_; (try clear hb); (try clear hb2); (try clear hk); (try clear hi); have hcz116_0 : w115.cell? ⟨gb1056, 0, none⟩ = some (.int .u64 x1057000_7) := (blk_cell BK1056.out 0).trans rfl; have hcz116_1 : w115.cell? ⟨gb1056, 1, none⟩ = some (.int .u64 x1057001_7) := (blk_cell BK1056.out 1).trans rfl; have hcz116_2 : w115.cell? ⟨gb1056, 2, none⟩ = some (.int .u64 x1057002_7) := (blk_cell BK1056.out 2).trans rfl; have hcz116_3 : w115.cell? ⟨gb1056, 3, none⟩ = some (.int .u64 x1057003_7) := (blk_cell BK1056.out 3).trans rfl; have hcz116_4 : w115.cell? ⟨gb1056, 4, none⟩ = some (.int .i64 (wrap64 (Int.tmod a1 7))) := (blk_cell BK1056.out 4).trans rfl; have hfz116_0 := blk_frozen BK1056.out 0; have hfz116_1 := blk_frozen BK1056.out 1; have hfz116_2 := blk_frozen BK1056.out 2; have hfz116_3 := blk_frozen BK1056.out 3; have hfz116_4 := blk_frozen BK1056.out 4) | (go_at_call 19; (with_reducible refine (stamp_Stamp_N.calls x1057000_7 x1057001_7 x1057002_7 x1057003_7 (wrap64 (Int.tmod a1 7)) t1070 _ A107.out).mono ?_); rintro e w117 ⟨rfl, hb⟩; have n0_ := Aside0.mk (blk_below (g := gb1049) (o := .cells #[.int .u64 a0_0, .int .u64 a0_1, .int .u64 a0_2, .int .u64 a0_3, .int .i64 a0_4, .bool true] 28 (0, 0)) (by (with_reducible repeat (first | refine blk_drewN ?_ _ | refine blk_drew ?_ | refine blk_alloc ?_ _)); exact BK1049.out) hb); have n1_ := Aside0.mk (blk_below (g := gb1056) (o := .cells #[.int .u64 x1057000_7, .int .u64 x1057001_7, .int .u64 x1057002_7, .int .u64 x1057003_7, .int .i64 (wrap64 (Int.tmod a1 7))] 26 (0, 0)) (by (with_reducible repeat (first | refine blk_drewN ?_ _ | refine blk_drew ?_ | refine blk_alloc ?_ _)); exact BK1056.out) hb); have n2_ := Aside0.mk (below_step (by repeat (first | (with_reducible first | exact HB.out | apply below_alloc | apply pw_below_drewN | apply below_drew1 | refine below_set ?_ GE1049.out | refine below_set ?_ GE1056.out) | exact HB.out)) hb); clear BK1049; clear BK1056; clear HB; have BK1049 := n0_; have BK1056 := n1_; have HB := n2_; clear n0_ n1_ n2_; (try clear hb); (try clear hb2); (try clear hk); (try clear hi)))
        go_ret
        exact ⟨by first | rfl | (simp [errW_none, errW_some] <;> rfl) | (simp [*, errW_none, errW_some] <;> rfl), by repeat (first | (with_reducible first | exact HB.out | apply below_alloc | apply pw_below_drewN | apply below_drew1 | refine below_set ?_ GE1049.out | refine below_set ?_ GE1056.out) | exact HB.out)⟩
      rw [if_pos c33] at H
      have c33b0 : decide (1 ≤ (wrap64 (Int.tmod a1 7))) = true := decide_eq_true c33
      clear c33
      by_cases c34 : (wrap64 (Int.tmod a1 7)) ≤ 4
      rotate_left
      · rw [if_neg c34] at H
        have c34b0 : decide ((wrap64 (Int.tmod a1 7)) ≤ 4) = false := decide_eq_false c34
        clear c34
        replace H : (if t1057 = true then ((stamp_Right.f x1057000_7 x1057001_7 x1057002_7 x1057003_7 (wrap64 (Int.tmod a1 7))).bind fun t1067 => (if t1067 = true then (none) else (if t1060 = true then (none) else (if t1059.toList = ([] : List UInt8) then ((stamp_Stamp_N.f x1057000_7 x1057001_7 x1057002_7 x1057003_7 (wrap64 (Int.tmod a1 7))).bind fun t1068 => (if t1068 = t1058 then (some true) else (none))) else (none))))) else (none)) = some r := by first | (rw [if_pos rfl] at H; exact H) | (rw [if_pos trivial] at H; exact H)
        by_cases c86 : t1057 = true
        rotate_left
        · replace c86 := Bool.eq_false_iff.mpr c86
          subst c86
          have H1 : (none) = some r := by rw [if_neg (show ¬ (false = true) by decide)] at H; exact H
          clear H
          have H := H1
          clear H1
          exact absurd H (by simp)
        subst c86
        have H1 : ((stamp_Right.f x1057000_7 x1057001_7 x1057002_7 x1057003_7 (wrap64 (Int.tmod a1 7))).bind fun t1067 => (if t1067 = true then (none) else (if t1060 = true then (none) else (if t1059.toList = ([] : List UInt8) then ((stamp_Stamp_N.f x1057000_7 x1057001_7 x1057002_7 x1057003_7 (wrap64 (Int.tmod a1 7))).bind fun t1068 => (if t1068 = t1058 then (some true) else (none))) else (none))))) = some r := by rw [if_pos rfl] at H; exact H
        clear H
        have H := H1
        clear H1
        replace H := Option.bind_eq_some_iff.mp H
        obtain ⟨t1067, A870, H⟩ := H
        replace H : (if t1067 = true then (none) else (if t1060 = true then (none) else (if t1059.toList = ([] : List UInt8) then ((stamp_Stamp_N.f x1057000_7 x1057001_7 x1057002_7 x1057003_7 (wrap64 (Int.tmod a1 7))).bind fun t1068 => (if t1068 = t1058 then (some true) else (none))) else (none)))) = some r := H
        have A87 := Aside0.mk A870
        clear A870
        by_cases c88 : t1067 = true
        · subst c88
          have H1 : (none) = some r := by rw [if_pos rfl] at H; exact H
          clear H
          have H := H1
          clear H1
          exact absurd H (by simp)
        replace c88 := Bool.eq_false_iff.mpr c88
        subst c88
        have H1 : (if t1060 = true then (none) else (if t1059.toList = ([] : List UInt8) then ((stamp_Stamp_N.f x1057000_7 x1057001_7 x1057002_7 x1057003_7 (wrap64 (Int.tmod a1 7))).bind fun t1068 => (if t1068 = t1058 then (some true) else (none))) else (none))) = some r := by rw [if_neg (show ¬ (false = true) by decide)] at H; exact H
        clear H
        have H := H1
        clear H1
        by_cases c89 : t1060 = true
        · subst c89
          have H1 : (none) = some r := by rw [if_pos rfl] at H; exact H
          clear H
          have H := H1
          clear H1
          exact absurd H (by simp)
        replace c89 := Bool.eq_false_iff.mpr c89
        subst c89
        have H1 : (if t1059.toList = ([] : List UInt8) then ((stamp_Stamp_N.f x1057000_7 x1057001_7 x1057002_7 x1057003_7 (wrap64 (Int.tmod a1 7))).bind fun t1068 => (if t1068 = t1058 then (some true) else (none))) else (none)) = some r := by rw [if_neg (show ¬ (false = true) by decide)] at H; exact H
        clear H
        have H := H1
        clear H1
        by_cases c90 : t1059.toList = ([] : List UInt8)
        rotate_left
        · rw [if_neg c90] at H
          exact absurd H (by simp)
        rw [if_pos c90] at H
        have c90b0 : (t1059.toList == ([] : List UInt8)) = true := beq_iff_eq.mpr c90
        have c90b1 : (t1059.toList != ([] : List UInt8)) = false := bne_eq_false_iff_eq.mpr c90
        clear c90
        replace H := Option.bind_eq_some_iff.mp H
        obtain ⟨t1068, A910, H⟩ := H
        replace H : (if t1068 = t1058 then (some true) else (none)) = some r := H
        have A91 := Aside0.mk A910
        clear A910
        by_cases c92 : t1068 = t1058
        rotate_left
        · rw [if_neg c92] at H
          exact absurd H (by simp)
        rw [if_pos c92] at H
        have c92b0 : (t1068 == t1058) = true := beq_iff_eq.mpr c92
        have c92b1 : (t1068 != t1058) = false := bne_eq_false_iff_eq.mpr c92
        clear c92
        obtain rfl := Option.some.inj H
        have hnb93 := NB1056_1049.out
        have hnc93 := NB1049_1056.out
        have hcz94_0 : wc.cell? ⟨gb1056, 0, none⟩ = some (.int .u64 x1057000_7) := (blk_cell BK1056.out 0).trans rfl
        have hcz94_1 : wc.cell? ⟨gb1056, 1, none⟩ = some (.int .u64 x1057001_7) := (blk_cell BK1056.out 1).trans rfl
        have hcz94_2 : wc.cell? ⟨gb1056, 2, none⟩ = some (.int .u64 x1057002_7) := (blk_cell BK1056.out 2).trans rfl
        have hcz94_3 : wc.cell? ⟨gb1056, 3, none⟩ = some (.int .u64 x1057003_7) := (blk_cell BK1056.out 3).trans rfl
        have hcz94_4 : wc.cell? ⟨gb1056, 4, none⟩ = some (.int .i64 (wrap64 (Int.tmod a1 7))) := (blk_cell BK1056.out 4).trans rfl
        have hfz94_0 := blk_frozen BK1056.out 0
        have hfz94_1 := blk_frozen BK1056.out 1
        have hfz94_2 := blk_frozen BK1056.out 2
        have hfz94_3 := blk_frozen BK1056.out 3
        have hfz94_4 := blk_frozen BK1056.out 4
        go_wp2_with (first | ((with_reducible refine gate_callee (f := 30) rfl ?_); refine goesL_ (some 40) rfl rfl Tryd.func30 (by kernel_rfl) rfl #[.agg #[.int .u64 x1057000_7, .int .u64 x1057001_7, .int .u64 x1057002_7, .int .u64 x1057003_7], .int .i64 (wrap64 (Int.tmod a1 7))] rfl (by (try simp only [List.map_toArray, List.map_cons, List.map_nil]); first | done | rfl | (simp only [List.length_drop, List.length_take]; rfl)) ?_; (with_reducible refine (vec_At.calls x1057000_7 x1057001_7 x1057002_7 x1057003_7 (wrap64 (Int.tmod a1 7)) t1058 _ A31.out).mono ?_); rintro e w95 ⟨rfl, hb⟩; refine ⟨_, rfl, ?_⟩; have n0_ := Aside0.mk (blk_below (g := gb1049) (o := .cells #[.int .u64 a0_0, .int .u64 a0_1, .int .u64 a0_2, .int .u64 a0_3, .int .i64 a0_4, .bool true] 28 (0, 0)) (by (with_reducible repeat (first | refine blk_drewN ?_ _ | refine blk_drew ?_ | refine blk_alloc ?_ _)); exact BK1049.out) hb); have n1_ := Aside0.mk (blk_below (g := gb1056) (o := .cells #[.int .u64 x1057000_7, .int .u64 x1057001_7, .int .u64 x1057002_7, .int .u64 x1057003_7, .int .i64 (wrap64 (Int.tmod a1 7))] 26 (0, 0)) (by (with_reducible repeat (first | refine blk_drewN ?_ _ | refine blk_drew ?_ | refine blk_alloc ?_ _)); exact BK1056.out) hb); have n2_ := Aside0.mk (below_step (by repeat (first | (with_reducible first | exact HB.out | apply below_alloc | apply pw_below_drewN | apply below_drew1 | refine below_set ?_ GE1049.out | refine below_set ?_ GE1056.out) | exact HB.out)) hb); clear BK1049; clear BK1056; clear HB; have BK1049 := n0_; have BK1056 := n1_; have HB := n2_; clear n0_ n1_ n2_; (try clear hb); (try clear hb2); (try clear hk); (try clear hi); have hcz96_0 : w95.cell? ⟨gb1056, 0, none⟩ = some (.int .u64 x1057000_7) := (blk_cell BK1056.out 0).trans rfl; have hcz96_1 : w95.cell? ⟨gb1056, 1, none⟩ = some (.int .u64 x1057001_7) := (blk_cell BK1056.out 1).trans rfl; have hcz96_2 : w95.cell? ⟨gb1056, 2, none⟩ = some (.int .u64 x1057002_7) := (blk_cell BK1056.out 2).trans rfl; have hcz96_3 : w95.cell? ⟨gb1056, 3, none⟩ = some (.int .u64 x1057003_7) := (blk_cell BK1056.out 3).trans rfl; have hcz96_4 : w95.cell? ⟨gb1056, 4, none⟩ = some (.int .i64 (wrap64 (Int.tmod a1 7))) := (blk_cell BK1056.out 4).trans rfl; have hfz96_0 := blk_frozen BK1056.out 0; have hfz96_1 := blk_frozen BK1056.out 1; have hfz96_2 := blk_frozen BK1056.out 2; have hfz96_3 := blk_frozen BK1056.out 3; have hfz96_4 := blk_frozen BK1056.out 4) | ((with_reducible refine gate_callee (f := 12) rfl ?_); refine goesL_ (some 43) rfl rfl Tryd.func12 (by kernel_rfl) rfl #[.agg #[.int .u64 x1057000_7, .int .u64 x1057001_7, .int .u64 x1057002_7, .int .u64 x1057003_7, .int .i64 (wrap64 (Int.tmod a1 7))]] rfl (by (try simp only [List.map_toArray, List.map_cons, List.map_nil]); first | done | rfl | (simp only [List.length_drop, List.length_take]; rfl)) ?_; (with_reducible refine (stamp_Put.calls kj7 x1057000_7 x1057001_7 x1057002_7 x1057003_7 (wrap64 (Int.tmod a1 7)) t1059 false _ A32.out).mono ?_); rintro e w97 ⟨rfl, hb⟩; refine ⟨_, rfl, ?_⟩; have n0_ := Aside0.mk (blk_below (g := gb1049) (o := .cells #[.int .u64 a0_0, .int .u64 a0_1, .int .u64 a0_2, .int .u64 a0_3, .int .i64 a0_4, .bool true] 28 (0, 0)) (by (with_reducible repeat (first | refine blk_drewN ?_ _ | refine blk_drew ?_ | refine blk_alloc ?_ _)); exact BK1049.out) hb); have n1_ := Aside0.mk (blk_below (g := gb1056) (o := .cells #[.int .u64 x1057000_7, .int .u64 x1057001_7, .int .u64 x1057002_7, .int .u64 x1057003_7, .int .i64 (wrap64 (Int.tmod a1 7))] 26 (0, 0)) (by (with_reducible repeat (first | refine blk_drewN ?_ _ | refine blk_drew ?_ | refine blk_alloc ?_ _)); exact BK1056.out) hb); have n2_ := Aside0.mk (below_step (by repeat (first | (with_reducible first | exact HB.out | apply below_alloc | apply pw_below_drewN | apply below_drew1 | refine below_set ?_ GE1049.out | refine below_set ?_ GE1056.out) | exact HB.out)) hb); clear BK1049; clear BK1056; clear HB; have BK1049 := n0_; have BK1056 := n1_; have HB := n2_; clear n0_ n1_ n2_; (try clear hb); (try clear hb2); (try clear hk); (try clear hi); have hcz98_0 : w97.cell? ⟨gb1056, 0, none⟩ = some (.int .u64 x1057000_7) := (blk_cell BK1056.out 0).trans rfl; have hcz98_1 : w97.cell? ⟨gb1056, 1, none⟩ = some (.int .u64 x1057001_7) := (blk_cell BK1056.out 1).trans rfl; have hcz98_2 : w97.cell? ⟨gb1056, 2, none⟩ = some (.int .u64 x1057002_7) := (blk_cell BK1056.out 2).trans rfl; have hcz98_3 : w97.cell? ⟨gb1056, 3, none⟩ = some (.int .u64 x1057003_7) := (blk_cell BK1056.out 3).trans rfl; have hcz98_4 : w97.cell? ⟨gb1056, 4, none⟩ = some (.int .i64 (wrap64 (Int.tmod a1 7))) := (blk_cell BK1056.out 4).trans rfl; have hfz98_0 := blk_frozen BK1056.out 0; have hfz98_1 := blk_frozen BK1056.out 1; have hfz98_2 := blk_frozen BK1056.out 2; have hfz98_3 := blk_frozen BK1056.out 3; have hfz98_4 := blk_frozen BK1056.out 4) | (go_at_call 17; (with_reducible refine (stamp_Right.calls x1057000_7 x1057001_7 x1057002_7 x1057003_7 (wrap64 (Int.tmod a1 7)) false _ A87.out).mono ?_); rintro e w99 ⟨rfl, hb⟩; have n0_ := Aside0.mk (blk_below (g := gb1049) (o := .cells #[.int .u64 a0_0, .int .u64 a0_1, .int .u64 a0_2, .int .u64 a0_3, .int .i64 a0_4, .bool true] 28 (0, 0)) (by (with_reducible repeat (first | refine blk_drewN ?_ _ | refine blk_drew ?_ | refine blk_alloc ?_ _)); exact BK1049.out) hb); have n1_ := Aside0.mk (blk_below (g := gb1056) (o := .cells #[.int .u64 x1057000_7, .int .u64 x1057001_7, .int .u64 x1057002_7, .int .u64 x1057003_7, .int .i64 (wrap64 (Int.tmod a1 7))] 26 (0, 0)) (by (with_reducible repeat (first | refine blk_drewN ?_ _ | refine blk_drew ?_ | refine blk_alloc ?_ _)); exact BK1056.out) hb); have n2_ := Aside0.mk (below_step (by repeat (first | (with_reducible first | exact HB.out | apply below_alloc | apply pw_below_drewN | apply below_drew1 | refine below_set ?_ GE1049.out | refine below_set ?_ GE1056.out) | exact HB.out)) hb); clear BK1049; clear BK1056; clear HB; have BK1049 := n0_; have BK1056 := n1_; have HB := n2_; clear n0_ n1_ n2_; (try clear hb); (try clear hb2); (try clear hk); (try clear hi); have hcz100_0 : w99.cell? ⟨gb1056, 0, none⟩ = some (.int .u64 x1057000_7) := (blk_cell BK1056.out 0).trans rfl; have hcz100_1 : w99.cell? ⟨gb1056, 1, none⟩ = some (.int .u64 x1057001_7) := (blk_cell BK1056.out 1).trans rfl; have hcz100_2 : w99.cell? ⟨gb1056, 2, none⟩ = some (.int .u64 x1057002_7) := (blk_cell BK1056.out 2).trans rfl; have hcz100_3 : w99.cell? ⟨gb1056, 3, none⟩ = some (.int .u64 x1057003_7) := (blk_cell BK1056.out 3).trans rfl; have hcz100_4 : w99.cell? ⟨gb1056, 4, none⟩ = some (.int .i64 (wrap64 (Int.tmod a1 7))) := (blk_cell BK1056.out 4).trans rfl; have hfz100_0 := blk_frozen BK1056.out 0; have hfz100_1 := blk_frozen BK1056.out 1; have hfz100_2 := blk_frozen BK1056.out 2; have hfz100_3 := blk_frozen BK1056.out 3; have hfz100_4 := blk_frozen BK1056.out 4) | (go_at_call 19; (with_reducible refine (stamp_Stamp_N.calls x1057000_7 x1057001_7 x1057002_7 x1057003_7 (wrap64 (Int.tmod a1 7)) t1068 _ A91.out).mono ?_); rintro e w101 ⟨rfl, hb⟩; have n0_ := Aside0.mk (blk_below (g := gb1049) (o := .cells #[.int .u64 a0_0, .int .u64 a0_1, .int .u64 a0_2, .int .u64 a0_3, .int .i64 a0_4, .bool true] 28 (0, 0)) (by (with_reducible repeat (first | refine blk_drewN ?_ _ | refine blk_drew ?_ | refine blk_alloc ?_ _)); exact BK1049.out) hb); have n1_ := Aside0.mk (blk_below (g := gb1056) (o := .cells #[.int .u64 x1057000_7, .int .u64 x1057001_7, .int .u64 x1057002_7, .int .u64 x1057003_7, .int .i64 (wrap64 (Int.tmod a1 7))] 26 (0, 0)) (by (with_reducible repeat (first | refine blk_drewN ?_ _ | refine blk_drew ?_ | refine blk_alloc ?_ _)); exact BK1056.out) hb); have n2_ := Aside0.mk (below_step (by repeat (first | (with_reducible first | exact HB.out | apply below_alloc | apply pw_below_drewN | apply below_drew1 | refine below_set ?_ GE1049.out | refine below_set ?_ GE1056.out) | exact HB.out)) hb); clear BK1049; clear BK1056; clear HB; have BK1049 := n0_; have BK1056 := n1_; have HB := n2_; clear n0_ n1_ n2_; (try clear hb); (try clear hb2); (try clear hk); (try clear hi)))
        go_ret
        exact ⟨by first | rfl | (simp [errW_none, errW_some] <;> rfl) | (simp [*, errW_none, errW_some] <;> rfl), by repeat (first | (with_reducible first | exact HB.out | apply below_alloc | apply pw_below_drewN | apply below_drew1 | refine below_set ?_ GE1049.out | refine below_set ?_ GE1056.out) | exact HB.out)⟩
      rw [if_pos c34] at H
      have c34b0 : decide ((wrap64 (Int.tmod a1 7)) ≤ 4) = true := decide_eq_true c34
      clear c34
      by_cases c35 : t1058 ≥ 1
      rotate_left
      · rw [if_neg c35] at H
        have c35b0 : decide (1 ≤ t1058) = false := decide_eq_false c35
        clear c35
        replace H : (if t1057 = true then ((stamp_Right.f x1057000_7 x1057001_7 x1057002_7 x1057003_7 (wrap64 (Int.tmod a1 7))).bind fun t1065 => (if t1065 = true then (none) else (if t1060 = true then (none) else (if t1059.toList = ([] : List UInt8) then ((stamp_Stamp_N.f x1057000_7 x1057001_7 x1057002_7 x1057003_7 (wrap64 (Int.tmod a1 7))).bind fun t1066 => (if t1066 = t1058 then (some true) else (none))) else (none))))) else (none)) = some r := by first | (rw [if_pos rfl] at H; exact H) | (rw [if_pos trivial] at H; exact H)
        by_cases c70 : t1057 = true
        rotate_left
        · replace c70 := Bool.eq_false_iff.mpr c70
          subst c70
          have H1 : (none) = some r := by rw [if_neg (show ¬ (false = true) by decide)] at H; exact H
          clear H
          have H := H1
          clear H1
          exact absurd H (by simp)
        subst c70
        have H1 : ((stamp_Right.f x1057000_7 x1057001_7 x1057002_7 x1057003_7 (wrap64 (Int.tmod a1 7))).bind fun t1065 => (if t1065 = true then (none) else (if t1060 = true then (none) else (if t1059.toList = ([] : List UInt8) then ((stamp_Stamp_N.f x1057000_7 x1057001_7 x1057002_7 x1057003_7 (wrap64 (Int.tmod a1 7))).bind fun t1066 => (if t1066 = t1058 then (some true) else (none))) else (none))))) = some r := by rw [if_pos rfl] at H; exact H
        clear H
        have H := H1
        clear H1
        replace H := Option.bind_eq_some_iff.mp H
        obtain ⟨t1065, A710, H⟩ := H
        replace H : (if t1065 = true then (none) else (if t1060 = true then (none) else (if t1059.toList = ([] : List UInt8) then ((stamp_Stamp_N.f x1057000_7 x1057001_7 x1057002_7 x1057003_7 (wrap64 (Int.tmod a1 7))).bind fun t1066 => (if t1066 = t1058 then (some true) else (none))) else (none)))) = some r := H
        have A71 := Aside0.mk A710
        clear A710
        by_cases c72 : t1065 = true
        · subst c72
          have H1 : (none) = some r := by rw [if_pos rfl] at H; exact H
          clear H
          have H := H1
          clear H1
          exact absurd H (by simp)
        replace c72 := Bool.eq_false_iff.mpr c72
        subst c72
        have H1 : (if t1060 = true then (none) else (if t1059.toList = ([] : List UInt8) then ((stamp_Stamp_N.f x1057000_7 x1057001_7 x1057002_7 x1057003_7 (wrap64 (Int.tmod a1 7))).bind fun t1066 => (if t1066 = t1058 then (some true) else (none))) else (none))) = some r := by rw [if_neg (show ¬ (false = true) by decide)] at H; exact H
        clear H
        have H := H1
        clear H1
        by_cases c73 : t1060 = true
        · subst c73
          have H1 : (none) = some r := by rw [if_pos rfl] at H; exact H
          clear H
          have H := H1
          clear H1
          exact absurd H (by simp)
        replace c73 := Bool.eq_false_iff.mpr c73
        subst c73
        have H1 : (if t1059.toList = ([] : List UInt8) then ((stamp_Stamp_N.f x1057000_7 x1057001_7 x1057002_7 x1057003_7 (wrap64 (Int.tmod a1 7))).bind fun t1066 => (if t1066 = t1058 then (some true) else (none))) else (none)) = some r := by rw [if_neg (show ¬ (false = true) by decide)] at H; exact H
        clear H
        have H := H1
        clear H1
        by_cases c74 : t1059.toList = ([] : List UInt8)
        rotate_left
        · rw [if_neg c74] at H
          exact absurd H (by simp)
        rw [if_pos c74] at H
        have c74b0 : (t1059.toList == ([] : List UInt8)) = true := beq_iff_eq.mpr c74
        have c74b1 : (t1059.toList != ([] : List UInt8)) = false := bne_eq_false_iff_eq.mpr c74
        clear c74
        replace H := Option.bind_eq_some_iff.mp H
        obtain ⟨t1066, A750, H⟩ := H
        replace H : (if t1066 = t1058 then (some true) else (none)) = some r := H
        have A75 := Aside0.mk A750
        clear A750
        by_cases c76 : t1066 = t1058
        rotate_left
        · rw [if_neg c76] at H
          exact absurd H (by simp)
        rw [if_pos c76] at H
        have c76b0 : (t1066 == t1058) = true := beq_iff_eq.mpr c76
        have c76b1 : (t1066 != t1058) = false := bne_eq_false_iff_eq.mpr c76
        clear c76
        obtain rfl := Option.some.inj H
        have hnb77 := NB1056_1049.out
        have hnc77 := NB1049_1056.out
        have hcz78_0 : wc.cell? ⟨gb1056, 0, none⟩ = some (.int .u64 x1057000_7) := (blk_cell BK1056.out 0).trans rfl
        have hcz78_1 : wc.cell? ⟨gb1056, 1, none⟩ = some (.int .u64 x1057001_7) := (blk_cell BK1056.out 1).trans rfl
        have hcz78_2 : wc.cell? ⟨gb1056, 2, none⟩ = some (.int .u64 x1057002_7) := (blk_cell BK1056.out 2).trans rfl
        have hcz78_3 : wc.cell? ⟨gb1056, 3, none⟩ = some (.int .u64 x1057003_7) := (blk_cell BK1056.out 3).trans rfl
        have hcz78_4 : wc.cell? ⟨gb1056, 4, none⟩ = some (.int .i64 (wrap64 (Int.tmod a1 7))) := (blk_cell BK1056.out 4).trans rfl
        have hfz78_0 := blk_frozen BK1056.out 0
        have hfz78_1 := blk_frozen BK1056.out 1
        have hfz78_2 := blk_frozen BK1056.out 2
        have hfz78_3 := blk_frozen BK1056.out 3
        have hfz78_4 := blk_frozen BK1056.out 4
        go_wp2_with (first | ((with_reducible refine gate_callee (f := 30) rfl ?_); refine goesL_ (some 40) rfl rfl Tryd.func30 (by kernel_rfl) rfl #[.agg #[.int .u64 x1057000_7, .int .u64 x1057001_7, .int .u64 x1057002_7, .int .u64 x1057003_7], .int .i64 (wrap64 (Int.tmod a1 7))] rfl (by (try simp only [List.map_toArray, List.map_cons, List.map_nil]); first | done | rfl | (simp only [List.length_drop, List.length_take]; rfl)) ?_; (with_reducible refine (vec_At.calls x1057000_7 x1057001_7 x1057002_7 x1057003_7 (wrap64 (Int.tmod a1 7)) t1058 _ A31.out).mono ?_); rintro e w79 ⟨rfl, hb⟩; refine ⟨_, rfl, ?_⟩; have n0_ := Aside0.mk (blk_below (g := gb1049) (o := .cells #[.int .u64 a0_0, .int .u64 a0_1, .int .u64 a0_2, .int .u64 a0_3, .int .i64 a0_4, .bool true] 28 (0, 0)) (by (with_reducible repeat (first | refine blk_drewN ?_ _ | refine blk_drew ?_ | refine blk_alloc ?_ _)); exact BK1049.out) hb); have n1_ := Aside0.mk (blk_below (g := gb1056) (o := .cells #[.int .u64 x1057000_7, .int .u64 x1057001_7, .int .u64 x1057002_7, .int .u64 x1057003_7, .int .i64 (wrap64 (Int.tmod a1 7))] 26 (0, 0)) (by (with_reducible repeat (first | refine blk_drewN ?_ _ | refine blk_drew ?_ | refine blk_alloc ?_ _)); exact BK1056.out) hb); have n2_ := Aside0.mk (below_step (by repeat (first | (with_reducible first | exact HB.out | apply below_alloc | apply pw_below_drewN | apply below_drew1 | refine below_set ?_ GE1049.out | refine below_set ?_ GE1056.out) | exact HB.out)) hb); clear BK1049; clear BK1056; clear HB; have BK1049 := n0_; have BK1056 := n1_; have HB := n2_; clear n0_ n1_ n2_; (try clear hb); (try clear hb2); (try clear hk); (try clear hi); have hcz80_0 : w79.cell? ⟨gb1056, 0, none⟩ = some (.int .u64 x1057000_7) := (blk_cell BK1056.out 0).trans rfl; have hcz80_1 : w79.cell? ⟨gb1056, 1, none⟩ = some (.int .u64 x1057001_7) := (blk_cell BK1056.out 1).trans rfl; have hcz80_2 : w79.cell? ⟨gb1056, 2, none⟩ = some (.int .u64 x1057002_7) := (blk_cell BK1056.out 2).trans rfl; have hcz80_3 : w79.cell? ⟨gb1056, 3, none⟩ = some (.int .u64 x1057003_7) := (blk_cell BK1056.out 3).trans rfl; have hcz80_4 : w79.cell? ⟨gb1056, 4, none⟩ = some (.int .i64 (wrap64 (Int.tmod a1 7))) := (blk_cell BK1056.out 4).trans rfl; have hfz80_0 := blk_frozen BK1056.out 0; have hfz80_1 := blk_frozen BK1056.out 1; have hfz80_2 := blk_frozen BK1056.out 2; have hfz80_3 := blk_frozen BK1056.out 3; have hfz80_4 := blk_frozen BK1056.out 4) | ((with_reducible refine gate_callee (f := 12) rfl ?_); refine goesL_ (some 43) rfl rfl Tryd.func12 (by kernel_rfl) rfl #[.agg #[.int .u64 x1057000_7, .int .u64 x1057001_7, .int .u64 x1057002_7, .int .u64 x1057003_7, .int .i64 (wrap64 (Int.tmod a1 7))]] rfl (by (try simp only [List.map_toArray, List.map_cons, List.map_nil]); first | done | rfl | (simp only [List.length_drop, List.length_take]; rfl)) ?_; (with_reducible refine (stamp_Put.calls kj7 x1057000_7 x1057001_7 x1057002_7 x1057003_7 (wrap64 (Int.tmod a1 7)) t1059 false _ A32.out).mono ?_); rintro e w81 ⟨rfl, hb⟩; refine ⟨_, rfl, ?_⟩; have n0_ := Aside0.mk (blk_below (g := gb1049) (o := .cells #[.int .u64 a0_0, .int .u64 a0_1, .int .u64 a0_2, .int .u64 a0_3, .int .i64 a0_4, .bool true] 28 (0, 0)) (by (with_reducible repeat (first | refine blk_drewN ?_ _ | refine blk_drew ?_ | refine blk_alloc ?_ _)); exact BK1049.out) hb); have n1_ := Aside0.mk (blk_below (g := gb1056) (o := .cells #[.int .u64 x1057000_7, .int .u64 x1057001_7, .int .u64 x1057002_7, .int .u64 x1057003_7, .int .i64 (wrap64 (Int.tmod a1 7))] 26 (0, 0)) (by (with_reducible repeat (first | refine blk_drewN ?_ _ | refine blk_drew ?_ | refine blk_alloc ?_ _)); exact BK1056.out) hb); have n2_ := Aside0.mk (below_step (by repeat (first | (with_reducible first | exact HB.out | apply below_alloc | apply pw_below_drewN | apply below_drew1 | refine below_set ?_ GE1049.out | refine below_set ?_ GE1056.out) | exact HB.out)) hb); clear BK1049; clear BK1056; clear HB; have BK1049 := n0_; have BK1056 := n1_; have HB := n2_; clear n0_ n1_ n2_; (try clear hb); (try clear hb2); (try clear hk); (try clear hi); have hcz82_0 : w81.cell? ⟨gb1056, 0, none⟩ = some (.int .u64 x1057000_7) := (blk_cell BK1056.out 0).trans rfl; have hcz82_1 : w81.cell? ⟨gb1056, 1, none⟩ = some (.int .u64 x1057001_7) := (blk_cell BK1056.out 1).trans rfl; have hcz82_2 : w81.cell? ⟨gb1056, 2, none⟩ = some (.int .u64 x1057002_7) := (blk_cell BK1056.out 2).trans rfl; have hcz82_3 : w81.cell? ⟨gb1056, 3, none⟩ = some (.int .u64 x1057003_7) := (blk_cell BK1056.out 3).trans rfl; have hcz82_4 : w81.cell? ⟨gb1056, 4, none⟩ = some (.int .i64 (wrap64 (Int.tmod a1 7))) := (blk_cell BK1056.out 4).trans rfl; have hfz82_0 := blk_frozen BK1056.out 0; have hfz82_1 := blk_frozen BK1056.out 1; have hfz82_2 := blk_frozen BK1056.out 2; have hfz82_3 := blk_frozen BK1056.out 3; have hfz82_4 := blk_frozen BK1056.out 4) | (go_at_call 17; (with_reducible refine (stamp_Right.calls x1057000_7 x1057001_7 x1057002_7 x1057003_7 (wrap64 (Int.tmod a1 7)) false _ A71.out).mono ?_); rintro e w83 ⟨rfl, hb⟩; have n0_ := Aside0.mk (blk_below (g := gb1049) (o := .cells #[.int .u64 a0_0, .int .u64 a0_1, .int .u64 a0_2, .int .u64 a0_3, .int .i64 a0_4, .bool true] 28 (0, 0)) (by (with_reducible repeat (first | refine blk_drewN ?_ _ | refine blk_drew ?_ | refine blk_alloc ?_ _)); exact BK1049.out) hb); have n1_ := Aside0.mk (blk_below (g := gb1056) (o := .cells #[.int .u64 x1057000_7, .int .u64 x1057001_7, .int .u64 x1057002_7, .int .u64 x1057003_7, .int .i64 (wrap64 (Int.tmod a1 7))] 26 (0, 0)) (by (with_reducible repeat (first | refine blk_drewN ?_ _ | refine blk_drew ?_ | refine blk_alloc ?_ _)); exact BK1056.out) hb); have n2_ := Aside0.mk (below_step (by repeat (first | (with_reducible first | exact HB.out | apply below_alloc | apply pw_below_drewN | apply below_drew1 | refine below_set ?_ GE1049.out | refine below_set ?_ GE1056.out) | exact HB.out)) hb); clear BK1049; clear BK1056; clear HB; have BK1049 := n0_; have BK1056 := n1_; have HB := n2_; clear n0_ n1_ n2_; (try clear hb); (try clear hb2); (try clear hk); (try clear hi); have hcz84_0 : w83.cell? ⟨gb1056, 0, none⟩ = some (.int .u64 x1057000_7) := (blk_cell BK1056.out 0).trans rfl; have hcz84_1 : w83.cell? ⟨gb1056, 1, none⟩ = some (.int .u64 x1057001_7) := (blk_cell BK1056.out 1).trans rfl; have hcz84_2 : w83.cell? ⟨gb1056, 2, none⟩ = some (.int .u64 x1057002_7) := (blk_cell BK1056.out 2).trans rfl; have hcz84_3 : w83.cell? ⟨gb1056, 3, none⟩ = some (.int .u64 x1057003_7) := (blk_cell BK1056.out 3).trans rfl; have hcz84_4 : w83.cell? ⟨gb1056, 4, none⟩ = some (.int .i64 (wrap64 (Int.tmod a1 7))) := (blk_cell BK1056.out 4).trans rfl; have hfz84_0 := blk_frozen BK1056.out 0; have hfz84_1 := blk_frozen BK1056.out 1; have hfz84_2 := blk_frozen BK1056.out 2; have hfz84_3 := blk_frozen BK1056.out 3; have hfz84_4 := blk_frozen BK1056.out 4) | (go_at_call 19; (with_reducible refine (stamp_Stamp_N.calls x1057000_7 x1057001_7 x1057002_7 x1057003_7 (wrap64 (Int.tmod a1 7)) t1066 _ A75.out).mono ?_); rintro e w85 ⟨rfl, hb⟩; have n0_ := Aside0.mk (blk_below (g := gb1049) (o := .cells #[.int .u64 a0_0, .int .u64 a0_1, .int .u64 a0_2, .int .u64 a0_3, .int .i64 a0_4, .bool true] 28 (0, 0)) (by (with_reducible repeat (first | refine blk_drewN ?_ _ | refine blk_drew ?_ | refine blk_alloc ?_ _)); exact BK1049.out) hb); have n1_ := Aside0.mk (blk_below (g := gb1056) (o := .cells #[.int .u64 x1057000_7, .int .u64 x1057001_7, .int .u64 x1057002_7, .int .u64 x1057003_7, .int .i64 (wrap64 (Int.tmod a1 7))] 26 (0, 0)) (by (with_reducible repeat (first | refine blk_drewN ?_ _ | refine blk_drew ?_ | refine blk_alloc ?_ _)); exact BK1056.out) hb); have n2_ := Aside0.mk (below_step (by repeat (first | (with_reducible first | exact HB.out | apply below_alloc | apply pw_below_drewN | apply below_drew1 | refine below_set ?_ GE1049.out | refine below_set ?_ GE1056.out) | exact HB.out)) hb); clear BK1049; clear BK1056; clear HB; have BK1049 := n0_; have BK1056 := n1_; have HB := n2_; clear n0_ n1_ n2_; (try clear hb); (try clear hb2); (try clear hk); (try clear hi)))
        go_ret
        exact ⟨by first | rfl | (simp [errW_none, errW_some] <;> rfl) | (simp [*, errW_none, errW_some] <;> rfl), by repeat (first | (with_reducible first | exact HB.out | apply below_alloc | apply pw_below_drewN | apply below_drew1 | refine below_set ?_ GE1049.out | refine below_set ?_ GE1056.out) | exact HB.out)⟩
      rw [if_pos c35] at H
      have c35b0 : decide (1 ≤ t1058) = true := decide_eq_true c35
      clear c35
      replace H := Option.bind_eq_some_iff.mp H
      obtain ⟨t1061, A360, H⟩ := H
      replace H : (if true = true then (if t1057 = true then ((stamp_Right.f x1057000_7 x1057001_7 x1057002_7 x1057003_7 (wrap64 (Int.tmod a1 7))).bind fun t1062 => (if t1062 = t1061 then (if t1060 = t1061 then (if t1059.toList = ([] : List UInt8) then (if t1061 = true then (none) else ((stamp_Stamp_N.f x1057000_7 x1057001_7 x1057002_7 x1057003_7 (wrap64 (Int.tmod a1 7))).bind fun t1063 => (if t1063 = t1058 then (some true) else (none)))) else (if t1061 = true then ((stamp_Stamp_N.f x1057000_7 x1057001_7 x1057002_7 x1057003_7 (wrap64 (Int.tmod a1 7))).bind fun t1064 => (if t1064 = t1058 then (some true) else (none))) else (none))) else (none)) else (none))) else (none)) else (none)) = some r := H
      have A36 := Aside0.mk A360
      clear A360
      replace H : (if t1057 = true then ((stamp_Right.f x1057000_7 x1057001_7 x1057002_7 x1057003_7 (wrap64 (Int.tmod a1 7))).bind fun t1062 => (if t1062 = t1061 then (if t1060 = t1061 then (if t1059.toList = ([] : List UInt8) then (if t1061 = true then (none) else ((stamp_Stamp_N.f x1057000_7 x1057001_7 x1057002_7 x1057003_7 (wrap64 (Int.tmod a1 7))).bind fun t1063 => (if t1063 = t1058 then (some true) else (none)))) else (if t1061 = true then ((stamp_Stamp_N.f x1057000_7 x1057001_7 x1057002_7 x1057003_7 (wrap64 (Int.tmod a1 7))).bind fun t1064 => (if t1064 = t1058 then (some true) else (none))) else (none))) else (none)) else (none))) else (none)) = some r := by first | (rw [if_pos rfl] at H; exact H) | (rw [if_pos trivial] at H; exact H)
      by_cases c37 : t1057 = true
      rotate_left
      · replace c37 := Bool.eq_false_iff.mpr c37
        subst c37
        have H1 : (none) = some r := by rw [if_neg (show ¬ (false = true) by decide)] at H; exact H
        clear H
        have H := H1
        clear H1
        exact absurd H (by simp)
      subst c37
      have H1 : ((stamp_Right.f x1057000_7 x1057001_7 x1057002_7 x1057003_7 (wrap64 (Int.tmod a1 7))).bind fun t1062 => (if t1062 = t1061 then (if t1060 = t1061 then (if t1059.toList = ([] : List UInt8) then (if t1061 = true then (none) else ((stamp_Stamp_N.f x1057000_7 x1057001_7 x1057002_7 x1057003_7 (wrap64 (Int.tmod a1 7))).bind fun t1063 => (if t1063 = t1058 then (some true) else (none)))) else (if t1061 = true then ((stamp_Stamp_N.f x1057000_7 x1057001_7 x1057002_7 x1057003_7 (wrap64 (Int.tmod a1 7))).bind fun t1064 => (if t1064 = t1058 then (some true) else (none))) else (none))) else (none)) else (none))) = some r := by rw [if_pos rfl] at H; exact H
      clear H
      have H := H1
      clear H1
      replace H := Option.bind_eq_some_iff.mp H
      obtain ⟨t1062, A380, H⟩ := H
      replace H : (if t1062 = t1061 then (if t1060 = t1061 then (if t1059.toList = ([] : List UInt8) then (if t1061 = true then (none) else ((stamp_Stamp_N.f x1057000_7 x1057001_7 x1057002_7 x1057003_7 (wrap64 (Int.tmod a1 7))).bind fun t1063 => (if t1063 = t1058 then (some true) else (none)))) else (if t1061 = true then ((stamp_Stamp_N.f x1057000_7 x1057001_7 x1057002_7 x1057003_7 (wrap64 (Int.tmod a1 7))).bind fun t1064 => (if t1064 = t1058 then (some true) else (none))) else (none))) else (none)) else (none)) = some r := H
      have A38 := Aside0.mk A380
      clear A380
      by_cases c39 : t1062 = t1061
      rotate_left
      · rw [if_neg c39] at H
        exact absurd H (by simp)
      subst c39
      have H1 : (if t1060 = t1062 then (if t1059.toList = ([] : List UInt8) then (if t1062 = true then (none) else ((stamp_Stamp_N.f x1057000_7 x1057001_7 x1057002_7 x1057003_7 (wrap64 (Int.tmod a1 7))).bind fun t1063 => (if t1063 = t1058 then (some true) else (none)))) else (if t1062 = true then ((stamp_Stamp_N.f x1057000_7 x1057001_7 x1057002_7 x1057003_7 (wrap64 (Int.tmod a1 7))).bind fun t1064 => (if t1064 = t1058 then (some true) else (none))) else (none))) else (none)) = some r := by rw [if_pos rfl] at H; exact H
      clear H
      have H := H1
      clear H1
      by_cases c40 : t1060 = t1062
      rotate_left
      · rw [if_neg c40] at H
        exact absurd H (by simp)
      subst c40
      have H1 : (if t1059.toList = ([] : List UInt8) then (if t1060 = true then (none) else ((stamp_Stamp_N.f x1057000_7 x1057001_7 x1057002_7 x1057003_7 (wrap64 (Int.tmod a1 7))).bind fun t1063 => (if t1063 = t1058 then (some true) else (none)))) else (if t1060 = true then ((stamp_Stamp_N.f x1057000_7 x1057001_7 x1057002_7 x1057003_7 (wrap64 (Int.tmod a1 7))).bind fun t1064 => (if t1064 = t1058 then (some true) else (none))) else (none))) = some r := by rw [if_pos rfl] at H; exact H
      clear H
      have H := H1
      clear H1
      by_cases c41 : t1059.toList = ([] : List UInt8)
      · rw [if_pos c41] at H
        have c41b0 : (t1059.toList == ([] : List UInt8)) = true := beq_iff_eq.mpr c41
        have c41b1 : (t1059.toList != ([] : List UInt8)) = false := bne_eq_false_iff_eq.mpr c41
        clear c41
        by_cases c42 : t1060 = true
        · subst c42
          have H1 : (none) = some r := by rw [if_pos rfl] at H; exact H
          clear H
          have H := H1
          clear H1
          exact absurd H (by simp)
        replace c42 := Bool.eq_false_iff.mpr c42
        subst c42
        have H1 : ((stamp_Stamp_N.f x1057000_7 x1057001_7 x1057002_7 x1057003_7 (wrap64 (Int.tmod a1 7))).bind fun t1063 => (if t1063 = t1058 then (some true) else (none))) = some r := by rw [if_neg (show ¬ (false = true) by decide)] at H; exact H
        clear H
        have H := H1
        clear H1
        replace H := Option.bind_eq_some_iff.mp H
        obtain ⟨t1063, A430, H⟩ := H
        replace H : (if t1063 = t1058 then (some true) else (none)) = some r := H
        have A43 := Aside0.mk A430
        clear A430
        by_cases c44 : t1063 = t1058
        rotate_left
        · rw [if_neg c44] at H
          exact absurd H (by simp)
        rw [if_pos c44] at H
        have c44b0 : (t1063 == t1058) = true := beq_iff_eq.mpr c44
        have c44b1 : (t1063 != t1058) = false := bne_eq_false_iff_eq.mpr c44
        clear c44
        obtain rfl := Option.some.inj H
        have hnb45 := NB1056_1049.out
        have hnc45 := NB1049_1056.out
        have hcz46_0 : wc.cell? ⟨gb1056, 0, none⟩ = some (.int .u64 x1057000_7) := (blk_cell BK1056.out 0).trans rfl
        have hcz46_1 : wc.cell? ⟨gb1056, 1, none⟩ = some (.int .u64 x1057001_7) := (blk_cell BK1056.out 1).trans rfl
        have hcz46_2 : wc.cell? ⟨gb1056, 2, none⟩ = some (.int .u64 x1057002_7) := (blk_cell BK1056.out 2).trans rfl
        have hcz46_3 : wc.cell? ⟨gb1056, 3, none⟩ = some (.int .u64 x1057003_7) := (blk_cell BK1056.out 3).trans rfl
        have hcz46_4 : wc.cell? ⟨gb1056, 4, none⟩ = some (.int .i64 (wrap64 (Int.tmod a1 7))) := (blk_cell BK1056.out 4).trans rfl
        have hfz46_0 := blk_frozen BK1056.out 0
        have hfz46_1 := blk_frozen BK1056.out 1
        have hfz46_2 := blk_frozen BK1056.out 2
        have hfz46_3 := blk_frozen BK1056.out 3
        have hfz46_4 := blk_frozen BK1056.out 4
        go_wp2_with (first | ((with_reducible refine gate_callee (f := 30) rfl ?_); refine goesL_ (some 40) rfl rfl Tryd.func30 (by kernel_rfl) rfl #[.agg #[.int .u64 x1057000_7, .int .u64 x1057001_7, .int .u64 x1057002_7, .int .u64 x1057003_7], .int .i64 (wrap64 (Int.tmod a1 7))] rfl (by (try simp only [List.map_toArray, List.map_cons, List.map_nil]); first | done | rfl | (simp only [List.length_drop, List.length_take]; rfl)) ?_; (with_reducible refine (vec_At.calls x1057000_7 x1057001_7 x1057002_7 x1057003_7 (wrap64 (Int.tmod a1 7)) t1058 _ A31.out).mono ?_); rintro e w47 ⟨rfl, hb⟩; refine ⟨_, rfl, ?_⟩; have n0_ := Aside0.mk (blk_below (g := gb1049) (o := .cells #[.int .u64 a0_0, .int .u64 a0_1, .int .u64 a0_2, .int .u64 a0_3, .int .i64 a0_4, .bool true] 28 (0, 0)) (by (with_reducible repeat (first | refine blk_drewN ?_ _ | refine blk_drew ?_ | refine blk_alloc ?_ _)); exact BK1049.out) hb); have n1_ := Aside0.mk (blk_below (g := gb1056) (o := .cells #[.int .u64 x1057000_7, .int .u64 x1057001_7, .int .u64 x1057002_7, .int .u64 x1057003_7, .int .i64 (wrap64 (Int.tmod a1 7))] 26 (0, 0)) (by (with_reducible repeat (first | refine blk_drewN ?_ _ | refine blk_drew ?_ | refine blk_alloc ?_ _)); exact BK1056.out) hb); have n2_ := Aside0.mk (below_step (by repeat (first | (with_reducible first | exact HB.out | apply below_alloc | apply pw_below_drewN | apply below_drew1 | refine below_set ?_ GE1049.out | refine below_set ?_ GE1056.out) | exact HB.out)) hb); clear BK1049; clear BK1056; clear HB; have BK1049 := n0_; have BK1056 := n1_; have HB := n2_; clear n0_ n1_ n2_; (try clear hb); (try clear hb2); (try clear hk); (try clear hi); have hcz48_0 : w47.cell? ⟨gb1056, 0, none⟩ = some (.int .u64 x1057000_7) := (blk_cell BK1056.out 0).trans rfl; have hcz48_1 : w47.cell? ⟨gb1056, 1, none⟩ = some (.int .u64 x1057001_7) := (blk_cell BK1056.out 1).trans rfl; have hcz48_2 : w47.cell? ⟨gb1056, 2, none⟩ = some (.int .u64 x1057002_7) := (blk_cell BK1056.out 2).trans rfl; have hcz48_3 : w47.cell? ⟨gb1056, 3, none⟩ = some (.int .u64 x1057003_7) := (blk_cell BK1056.out 3).trans rfl; have hcz48_4 : w47.cell? ⟨gb1056, 4, none⟩ = some (.int .i64 (wrap64 (Int.tmod a1 7))) := (blk_cell BK1056.out 4).trans rfl; have hfz48_0 := blk_frozen BK1056.out 0; have hfz48_1 := blk_frozen BK1056.out 1; have hfz48_2 := blk_frozen BK1056.out 2; have hfz48_3 := blk_frozen BK1056.out 3; have hfz48_4 := blk_frozen BK1056.out 4) | ((with_reducible refine gate_callee (f := 12) rfl ?_); refine goesL_ (some 43) rfl rfl Tryd.func12 (by kernel_rfl) rfl #[.agg #[.int .u64 x1057000_7, .int .u64 x1057001_7, .int .u64 x1057002_7, .int .u64 x1057003_7, .int .i64 (wrap64 (Int.tmod a1 7))]] rfl (by (try simp only [List.map_toArray, List.map_cons, List.map_nil]); first | done | rfl | (simp only [List.length_drop, List.length_take]; rfl)) ?_; (with_reducible refine (stamp_Put.calls kj7 x1057000_7 x1057001_7 x1057002_7 x1057003_7 (wrap64 (Int.tmod a1 7)) t1059 false _ A32.out).mono ?_); rintro e w49 ⟨rfl, hb⟩; refine ⟨_, rfl, ?_⟩; have n0_ := Aside0.mk (blk_below (g := gb1049) (o := .cells #[.int .u64 a0_0, .int .u64 a0_1, .int .u64 a0_2, .int .u64 a0_3, .int .i64 a0_4, .bool true] 28 (0, 0)) (by (with_reducible repeat (first | refine blk_drewN ?_ _ | refine blk_drew ?_ | refine blk_alloc ?_ _)); exact BK1049.out) hb); have n1_ := Aside0.mk (blk_below (g := gb1056) (o := .cells #[.int .u64 x1057000_7, .int .u64 x1057001_7, .int .u64 x1057002_7, .int .u64 x1057003_7, .int .i64 (wrap64 (Int.tmod a1 7))] 26 (0, 0)) (by (with_reducible repeat (first | refine blk_drewN ?_ _ | refine blk_drew ?_ | refine blk_alloc ?_ _)); exact BK1056.out) hb); have n2_ := Aside0.mk (below_step (by repeat (first | (with_reducible first | exact HB.out | apply below_alloc | apply pw_below_drewN | apply below_drew1 | refine below_set ?_ GE1049.out | refine below_set ?_ GE1056.out) | exact HB.out)) hb); clear BK1049; clear BK1056; clear HB; have BK1049 := n0_; have BK1056 := n1_; have HB := n2_; clear n0_ n1_ n2_; (try clear hb); (try clear hb2); (try clear hk); (try clear hi); have hcz50_0 : w49.cell? ⟨gb1056, 0, none⟩ = some (.int .u64 x1057000_7) := (blk_cell BK1056.out 0).trans rfl; have hcz50_1 : w49.cell? ⟨gb1056, 1, none⟩ = some (.int .u64 x1057001_7) := (blk_cell BK1056.out 1).trans rfl; have hcz50_2 : w49.cell? ⟨gb1056, 2, none⟩ = some (.int .u64 x1057002_7) := (blk_cell BK1056.out 2).trans rfl; have hcz50_3 : w49.cell? ⟨gb1056, 3, none⟩ = some (.int .u64 x1057003_7) := (blk_cell BK1056.out 3).trans rfl; have hcz50_4 : w49.cell? ⟨gb1056, 4, none⟩ = some (.int .i64 (wrap64 (Int.tmod a1 7))) := (blk_cell BK1056.out 4).trans rfl; have hfz50_0 := blk_frozen BK1056.out 0; have hfz50_1 := blk_frozen BK1056.out 1; have hfz50_2 := blk_frozen BK1056.out 2; have hfz50_3 := blk_frozen BK1056.out 3; have hfz50_4 := blk_frozen BK1056.out 4) | (go_at_call 31; (with_reducible refine (vec_Right.calls x1057000_7 x1057001_7 x1057002_7 x1057003_7 false _ A36.out).mono ?_); rintro e w51 ⟨rfl, hb⟩; have n0_ := Aside0.mk (blk_below (g := gb1049) (o := .cells #[.int .u64 a0_0, .int .u64 a0_1, .int .u64 a0_2, .int .u64 a0_3, .int .i64 a0_4, .bool true] 28 (0, 0)) (by (with_reducible repeat (first | refine blk_drewN ?_ _ | refine blk_drew ?_ | refine blk_alloc ?_ _)); exact BK1049.out) hb); have n1_ := Aside0.mk (blk_below (g := gb1056) (o := .cells #[.int .u64 x1057000_7, .int .u64 x1057001_7, .int .u64 x1057002_7, .int .u64 x1057003_7, .int .i64 (wrap64 (Int.tmod a1 7))] 26 (0, 0)) (by (with_reducible repeat (first | refine blk_drewN ?_ _ | refine blk_drew ?_ | refine blk_alloc ?_ _)); exact BK1056.out) hb); have n2_ := Aside0.mk (below_step (by repeat (first | (with_reducible first | exact HB.out | apply below_alloc | apply pw_below_drewN | apply below_drew1 | refine below_set ?_ GE1049.out | refine below_set ?_ GE1056.out) | exact HB.out)) hb); clear BK1049; clear BK1056; clear HB; have BK1049 := n0_; have BK1056 := n1_; have HB := n2_; clear n0_ n1_ n2_; (try clear hb); (try clear hb2); (try clear hk); (try clear hi); have hcz52_0 : w51.cell? ⟨gb1056, 0, none⟩ = some (.int .u64 x1057000_7) := (blk_cell BK1056.out 0).trans rfl; have hcz52_1 : w51.cell? ⟨gb1056, 1, none⟩ = some (.int .u64 x1057001_7) := (blk_cell BK1056.out 1).trans rfl; have hcz52_2 : w51.cell? ⟨gb1056, 2, none⟩ = some (.int .u64 x1057002_7) := (blk_cell BK1056.out 2).trans rfl; have hcz52_3 : w51.cell? ⟨gb1056, 3, none⟩ = some (.int .u64 x1057003_7) := (blk_cell BK1056.out 3).trans rfl; have hcz52_4 : w51.cell? ⟨gb1056, 4, none⟩ = some (.int .i64 (wrap64 (Int.tmod a1 7))) := (blk_cell BK1056.out 4).trans rfl; have hfz52_0 := blk_frozen BK1056.out 0; have hfz52_1 := blk_frozen BK1056.out 1; have hfz52_2 := blk_frozen BK1056.out 2; have hfz52_3 := blk_frozen BK1056.out 3; have hfz52_4 := blk_frozen BK1056.out 4) | (go_at_call 17; (with_reducible refine (stamp_Right.calls x1057000_7 x1057001_7 x1057002_7 x1057003_7 (wrap64 (Int.tmod a1 7)) false _ A38.out).mono ?_); rintro e w53 ⟨rfl, hb⟩; have n0_ := Aside0.mk (blk_below (g := gb1049) (o := .cells #[.int .u64 a0_0, .int .u64 a0_1, .int .u64 a0_2, .int .u64 a0_3, .int .i64 a0_4, .bool true] 28 (0, 0)) (by (with_reducible repeat (first | refine blk_drewN ?_ _ | refine blk_drew ?_ | refine blk_alloc ?_ _)); exact BK1049.out) hb); have n1_ := Aside0.mk (blk_below (g := gb1056) (o := .cells #[.int .u64 x1057000_7, .int .u64 x1057001_7, .int .u64 x1057002_7, .int .u64 x1057003_7, .int .i64 (wrap64 (Int.tmod a1 7))] 26 (0, 0)) (by (with_reducible repeat (first | refine blk_drewN ?_ _ | refine blk_drew ?_ | refine blk_alloc ?_ _)); exact BK1056.out) hb); have n2_ := Aside0.mk (below_step (by repeat (first | (with_reducible first | exact HB.out | apply below_alloc | apply pw_below_drewN | apply below_drew1 | refine below_set ?_ GE1049.out | refine below_set ?_ GE1056.out) | exact HB.out)) hb); clear BK1049; clear BK1056; clear HB; have BK1049 := n0_; have BK1056 := n1_; have HB := n2_; clear n0_ n1_ n2_; (try clear hb); (try clear hb2); (try clear hk); (try clear hi); have hcz54_0 : w53.cell? ⟨gb1056, 0, none⟩ = some (.int .u64 x1057000_7) := (blk_cell BK1056.out 0).trans rfl; have hcz54_1 : w53.cell? ⟨gb1056, 1, none⟩ = some (.int .u64 x1057001_7) := (blk_cell BK1056.out 1).trans rfl; have hcz54_2 : w53.cell? ⟨gb1056, 2, none⟩ = some (.int .u64 x1057002_7) := (blk_cell BK1056.out 2).trans rfl; have hcz54_3 : w53.cell? ⟨gb1056, 3, none⟩ = some (.int .u64 x1057003_7) := (blk_cell BK1056.out 3).trans rfl; have hcz54_4 : w53.cell? ⟨gb1056, 4, none⟩ = some (.int .i64 (wrap64 (Int.tmod a1 7))) := (blk_cell BK1056.out 4).trans rfl; have hfz54_0 := blk_frozen BK1056.out 0; have hfz54_1 := blk_frozen BK1056.out 1; have hfz54_2 := blk_frozen BK1056.out 2; have hfz54_3 := blk_frozen BK1056.out 3; have hfz54_4 := blk_frozen BK1056.out 4) | (go_at_call 19; (with_reducible refine (stamp_Stamp_N.calls x1057000_7 x1057001_7 x1057002_7 x1057003_7 (wrap64 (Int.tmod a1 7)) t1063 _ A43.out).mono ?_); rintro e w55 ⟨rfl, hb⟩; have n0_ := Aside0.mk (blk_below (g := gb1049) (o := .cells #[.int .u64 a0_0, .int .u64 a0_1, .int .u64 a0_2, .int .u64 a0_3, .int .i64 a0_4, .bool true] 28 (0, 0)) (by (with_reducible repeat (first | refine blk_drewN ?_ _ | refine blk_drew ?_ | refine blk_alloc ?_ _)); exact BK1049.out) hb); have n1_ := Aside0.mk (blk_below (g := gb1056) (o := .cells #[.int .u64 x1057000_7, .int .u64 x1057001_7, .int .u64 x1057002_7, .int .u64 x1057003_7, .int .i64 (wrap64 (Int.tmod a1 7))] 26 (0, 0)) (by (with_reducible repeat (first | refine blk_drewN ?_ _ | refine blk_drew ?_ | refine blk_alloc ?_ _)); exact BK1056.out) hb); have n2_ := Aside0.mk (below_step (by repeat (first | (with_reducible first | exact HB.out | apply below_alloc | apply pw_below_drewN | apply below_drew1 | refine below_set ?_ GE1049.out | refine below_set ?_ GE1056.out) | exact HB.out)) hb); clear BK1049; clear BK1056; clear HB; have BK1049 := n0_; have BK1056 := n1_; have HB := n2_; clear n0_ n1_ n2_; (try clear hb); (try clear hb2); (try clear hk); (try clear hi)))
        go_ret
        exact ⟨by first | rfl | (simp [errW_none, errW_some] <;> rfl) | (simp [*, errW_none, errW_some] <;> rfl), by repeat (first | (with_reducible first | exact HB.out | apply below_alloc | apply pw_below_drewN | apply below_drew1 | refine below_set ?_ GE1049.out | refine below_set ?_ GE1056.out) | exact HB.out)⟩
      rw [if_neg c41] at H
      have c41b0 : (t1059.toList == ([] : List UInt8)) = false := beq_eq_false_iff_ne.mpr c41
      have c41b1 : (t1059.toList != ([] : List UInt8)) = true := bne_iff_ne.mpr c41
      by_cases c56 : t1060 = true
      rotate_left
      · replace c56 := Bool.eq_false_iff.mpr c56
        subst c56
        have H1 : (none) = some r := by rw [if_neg (show ¬ (false = true) by decide)] at H; exact H
        clear H
        have H := H1
        clear H1
        exact absurd H (by simp)
      subst c56
      have H1 : ((stamp_Stamp_N.f x1057000_7 x1057001_7 x1057002_7 x1057003_7 (wrap64 (Int.tmod a1 7))).bind fun t1064 => (if t1064 = t1058 then (some true) else (none))) = some r := by rw [if_pos rfl] at H; exact H
      clear H
      have H := H1
      clear H1
      replace H := Option.bind_eq_some_iff.mp H
      obtain ⟨t1064, A570, H⟩ := H
      replace H : (if t1064 = t1058 then (some true) else (none)) = some r := H
      have A57 := Aside0.mk A570
      clear A570
      by_cases c58 : t1064 = t1058
      rotate_left
      · rw [if_neg c58] at H
        exact absurd H (by simp)
      rw [if_pos c58] at H
      have c58b0 : (t1064 == t1058) = true := beq_iff_eq.mpr c58
      have c58b1 : (t1064 != t1058) = false := bne_eq_false_iff_eq.mpr c58
      clear c58
      obtain rfl := Option.some.inj H
      have hnb59 := NB1056_1049.out
      have hnc59 := NB1049_1056.out
      have hcz60_0 : wc.cell? ⟨gb1056, 0, none⟩ = some (.int .u64 x1057000_7) := (blk_cell BK1056.out 0).trans rfl
      have hcz60_1 : wc.cell? ⟨gb1056, 1, none⟩ = some (.int .u64 x1057001_7) := (blk_cell BK1056.out 1).trans rfl
      have hcz60_2 : wc.cell? ⟨gb1056, 2, none⟩ = some (.int .u64 x1057002_7) := (blk_cell BK1056.out 2).trans rfl
      have hcz60_3 : wc.cell? ⟨gb1056, 3, none⟩ = some (.int .u64 x1057003_7) := (blk_cell BK1056.out 3).trans rfl
      have hcz60_4 : wc.cell? ⟨gb1056, 4, none⟩ = some (.int .i64 (wrap64 (Int.tmod a1 7))) := (blk_cell BK1056.out 4).trans rfl
      have hfz60_0 := blk_frozen BK1056.out 0
      have hfz60_1 := blk_frozen BK1056.out 1
      have hfz60_2 := blk_frozen BK1056.out 2
      have hfz60_3 := blk_frozen BK1056.out 3
      have hfz60_4 := blk_frozen BK1056.out 4
      go_wp2_with (first | ((with_reducible refine gate_callee (f := 30) rfl ?_); refine goesL_ (some 40) rfl rfl Tryd.func30 (by kernel_rfl) rfl #[.agg #[.int .u64 x1057000_7, .int .u64 x1057001_7, .int .u64 x1057002_7, .int .u64 x1057003_7], .int .i64 (wrap64 (Int.tmod a1 7))] rfl (by (try simp only [List.map_toArray, List.map_cons, List.map_nil]); first | done | rfl | (simp only [List.length_drop, List.length_take]; rfl)) ?_; (with_reducible refine (vec_At.calls x1057000_7 x1057001_7 x1057002_7 x1057003_7 (wrap64 (Int.tmod a1 7)) t1058 _ A31.out).mono ?_); rintro e w61 ⟨rfl, hb⟩; refine ⟨_, rfl, ?_⟩; have n0_ := Aside0.mk (blk_below (g := gb1049) (o := .cells #[.int .u64 a0_0, .int .u64 a0_1, .int .u64 a0_2, .int .u64 a0_3, .int .i64 a0_4, .bool true] 28 (0, 0)) (by (with_reducible repeat (first | refine blk_drewN ?_ _ | refine blk_drew ?_ | refine blk_alloc ?_ _)); exact BK1049.out) hb); have n1_ := Aside0.mk (blk_below (g := gb1056) (o := .cells #[.int .u64 x1057000_7, .int .u64 x1057001_7, .int .u64 x1057002_7, .int .u64 x1057003_7, .int .i64 (wrap64 (Int.tmod a1 7))] 26 (0, 0)) (by (with_reducible repeat (first | refine blk_drewN ?_ _ | refine blk_drew ?_ | refine blk_alloc ?_ _)); exact BK1056.out) hb); have n2_ := Aside0.mk (below_step (by repeat (first | (with_reducible first | exact HB.out | apply below_alloc | apply pw_below_drewN | apply below_drew1 | refine below_set ?_ GE1049.out | refine below_set ?_ GE1056.out) | exact HB.out)) hb); clear BK1049; clear BK1056; clear HB; have BK1049 := n0_; have BK1056 := n1_; have HB := n2_; clear n0_ n1_ n2_; (try clear hb); (try clear hb2); (try clear hk); (try clear hi); have hcz62_0 : w61.cell? ⟨gb1056, 0, none⟩ = some (.int .u64 x1057000_7) := (blk_cell BK1056.out 0).trans rfl; have hcz62_1 : w61.cell? ⟨gb1056, 1, none⟩ = some (.int .u64 x1057001_7) := (blk_cell BK1056.out 1).trans rfl; have hcz62_2 : w61.cell? ⟨gb1056, 2, none⟩ = some (.int .u64 x1057002_7) := (blk_cell BK1056.out 2).trans rfl; have hcz62_3 : w61.cell? ⟨gb1056, 3, none⟩ = some (.int .u64 x1057003_7) := (blk_cell BK1056.out 3).trans rfl; have hcz62_4 : w61.cell? ⟨gb1056, 4, none⟩ = some (.int .i64 (wrap64 (Int.tmod a1 7))) := (blk_cell BK1056.out 4).trans rfl; have hfz62_0 := blk_frozen BK1056.out 0; have hfz62_1 := blk_frozen BK1056.out 1; have hfz62_2 := blk_frozen BK1056.out 2; have hfz62_3 := blk_frozen BK1056.out 3; have hfz62_4 := blk_frozen BK1056.out 4) | ((with_reducible refine gate_callee (f := 12) rfl ?_); refine goesL_ (some 43) rfl rfl Tryd.func12 (by kernel_rfl) rfl #[.agg #[.int .u64 x1057000_7, .int .u64 x1057001_7, .int .u64 x1057002_7, .int .u64 x1057003_7, .int .i64 (wrap64 (Int.tmod a1 7))]] rfl (by (try simp only [List.map_toArray, List.map_cons, List.map_nil]); first | done | rfl | (simp only [List.length_drop, List.length_take]; rfl)) ?_; (with_reducible refine (stamp_Put.calls kj7 x1057000_7 x1057001_7 x1057002_7 x1057003_7 (wrap64 (Int.tmod a1 7)) t1059 true _ A32.out).mono ?_); rintro e w63 ⟨rfl, hb⟩; refine ⟨_, rfl, ?_⟩; have n0_ := Aside0.mk (blk_below (g := gb1049) (o := .cells #[.int .u64 a0_0, .int .u64 a0_1, .int .u64 a0_2, .int .u64 a0_3, .int .i64 a0_4, .bool true] 28 (0, 0)) (by (with_reducible repeat (first | refine blk_drewN ?_ _ | refine blk_drew ?_ | refine blk_alloc ?_ _)); exact BK1049.out) hb); have n1_ := Aside0.mk (blk_below (g := gb1056) (o := .cells #[.int .u64 x1057000_7, .int .u64 x1057001_7, .int .u64 x1057002_7, .int .u64 x1057003_7, .int .i64 (wrap64 (Int.tmod a1 7))] 26 (0, 0)) (by (with_reducible repeat (first | refine blk_drewN ?_ _ | refine blk_drew ?_ | refine blk_alloc ?_ _)); exact BK1056.out) hb); have n2_ := Aside0.mk (below_step (by repeat (first | (with_reducible first | exact HB.out | apply below_alloc | apply pw_below_drewN | apply below_drew1 | refine below_set ?_ GE1049.out | refine below_set ?_ GE1056.out) | exact HB.out)) hb); clear BK1049; clear BK1056; clear HB; have BK1049 := n0_; have BK1056 := n1_; have HB := n2_; clear n0_ n1_ n2_; (try clear hb); (try clear hb2); (try clear hk); (try clear hi); have hcz64_0 : w63.cell? ⟨gb1056, 0, none⟩ = some (.int .u64 x1057000_7) := (blk_cell BK1056.out 0).trans rfl; have hcz64_1 : w63.cell? ⟨gb1056, 1, none⟩ = some (.int .u64 x1057001_7) := (blk_cell BK1056.out 1).trans rfl; have hcz64_2 : w63.cell? ⟨gb1056, 2, none⟩ = some (.int .u64 x1057002_7) := (blk_cell BK1056.out 2).trans rfl; have hcz64_3 : w63.cell? ⟨gb1056, 3, none⟩ = some (.int .u64 x1057003_7) := (blk_cell BK1056.out 3).trans rfl; have hcz64_4 : w63.cell? ⟨gb1056, 4, none⟩ = some (.int .i64 (wrap64 (Int.tmod a1 7))) := (blk_cell BK1056.out 4).trans rfl; have hfz64_0 := blk_frozen BK1056.out 0; have hfz64_1 := blk_frozen BK1056.out 1; have hfz64_2 := blk_frozen BK1056.out 2; have hfz64_3 := blk_frozen BK1056.out 3; have hfz64_4 := blk_frozen BK1056.out 4) | (go_at_call 31; (with_reducible refine (vec_Right.calls x1057000_7 x1057001_7 x1057002_7 x1057003_7 true _ A36.out).mono ?_); rintro e w65 ⟨rfl, hb⟩; have n0_ := Aside0.mk (blk_below (g := gb1049) (o := .cells #[.int .u64 a0_0, .int .u64 a0_1, .int .u64 a0_2, .int .u64 a0_3, .int .i64 a0_4, .bool true] 28 (0, 0)) (by (with_reducible repeat (first | refine blk_drewN ?_ _ | refine blk_drew ?_ | refine blk_alloc ?_ _)); exact BK1049.out) hb); have n1_ := Aside0.mk (blk_below (g := gb1056) (o := .cells #[.int .u64 x1057000_7, .int .u64 x1057001_7, .int .u64 x1057002_7, .int .u64 x1057003_7, .int .i64 (wrap64 (Int.tmod a1 7))] 26 (0, 0)) (by (with_reducible repeat (first | refine blk_drewN ?_ _ | refine blk_drew ?_ | refine blk_alloc ?_ _)); exact BK1056.out) hb); have n2_ := Aside0.mk (below_step (by repeat (first | (with_reducible first | exact HB.out | apply below_alloc | apply pw_below_drewN | apply below_drew1 | refine below_set ?_ GE1049.out | refine below_set ?_ GE1056.out) | exact HB.out)) hb); clear BK1049; clear BK1056; clear HB; have BK1049 := n0_; have BK1056 := n1_; have HB := n2_; clear n0_ n1_ n2_; (try clear hb); (try clear hb2); (try clear hk); (try clear hi); have hcz66_0 : w65.cell? ⟨gb1056, 0, none⟩ = some (.int .u64 x1057000_7) := (blk_cell BK1056.out 0).trans rfl; have hcz66_1 : w65.cell? ⟨gb1056, 1, none⟩ = some (.int .u64 x1057001_7) := (blk_cell BK1056.out 1).trans rfl; have hcz66_2 : w65.cell? ⟨gb1056, 2, none⟩ = some (.int .u64 x1057002_7) := (blk_cell BK1056.out 2).trans rfl; have hcz66_3 : w65.cell? ⟨gb1056, 3, none⟩ = some (.int .u64 x1057003_7) := (blk_cell BK1056.out 3).trans rfl; have hcz66_4 : w65.cell? ⟨gb1056, 4, none⟩ = some (.int .i64 (wrap64 (Int.tmod a1 7))) := (blk_cell BK1056.out 4).trans rfl; have hfz66_0 := blk_frozen BK1056.out 0; have hfz66_1 := blk_frozen BK1056.out 1; have hfz66_2 := blk_frozen BK1056.out 2; have hfz66_3 := blk_frozen BK1056.out 3; have hfz66_4 := blk_frozen BK1056.out 4) | (go_at_call 17; (with_reducible refine (stamp_Right.calls x1057000_7 x1057001_7 x1057002_7 x1057003_7 (wrap64 (Int.tmod a1 7)) true _ A38.out).mono ?_); rintro e w67 ⟨rfl, hb⟩; have n0_ := Aside0.mk (blk_below (g := gb1049) (o := .cells #[.int .u64 a0_0, .int .u64 a0_1, .int .u64 a0_2, .int .u64 a0_3, .int .i64 a0_4, .bool true] 28 (0, 0)) (by (with_reducible repeat (first | refine blk_drewN ?_ _ | refine blk_drew ?_ | refine blk_alloc ?_ _)); exact BK1049.out) hb); have n1_ := Aside0.mk (blk_below (g := gb1056) (o := .cells #[.int .u64 x1057000_7, .int .u64 x1057001_7, .int .u64 x1057002_7, .int .u64 x1057003_7, .int .i64 (wrap64 (Int.tmod a1 7))] 26 (0, 0)) (by (with_reducible repeat (first | refine blk_drewN ?_ _ | refine blk_drew ?_ | refine blk_alloc ?_ _)); exact BK1056.out) hb); have n2_ := Aside0.mk (below_step (by repeat (first | (with_reducible first | exact HB.out | apply below_alloc | apply pw_below_drewN | apply below_drew1 | refine below_set ?_ GE1049.out | refine below_set ?_ GE1056.out) | exact HB.out)) hb); clear BK1049; clear BK1056; clear HB; have BK1049 := n0_; have BK1056 := n1_; have HB := n2_; clear n0_ n1_ n2_; (try clear hb); (try clear hb2); (try clear hk); (try clear hi); have hcz68_0 : w67.cell? ⟨gb1056, 0, none⟩ = some (.int .u64 x1057000_7) := (blk_cell BK1056.out 0).trans rfl; have hcz68_1 : w67.cell? ⟨gb1056, 1, none⟩ = some (.int .u64 x1057001_7) := (blk_cell BK1056.out 1).trans rfl; have hcz68_2 : w67.cell? ⟨gb1056, 2, none⟩ = some (.int .u64 x1057002_7) := (blk_cell BK1056.out 2).trans rfl; have hcz68_3 : w67.cell? ⟨gb1056, 3, none⟩ = some (.int .u64 x1057003_7) := (blk_cell BK1056.out 3).trans rfl; have hcz68_4 : w67.cell? ⟨gb1056, 4, none⟩ = some (.int .i64 (wrap64 (Int.tmod a1 7))) := (blk_cell BK1056.out 4).trans rfl; have hfz68_0 := blk_frozen BK1056.out 0; have hfz68_1 := blk_frozen BK1056.out 1; have hfz68_2 := blk_frozen BK1056.out 2; have hfz68_3 := blk_frozen BK1056.out 3; have hfz68_4 := blk_frozen BK1056.out 4) | (go_at_call 19; (with_reducible refine (stamp_Stamp_N.calls x1057000_7 x1057001_7 x1057002_7 x1057003_7 (wrap64 (Int.tmod a1 7)) t1064 _ A57.out).mono ?_); rintro e w69 ⟨rfl, hb⟩; have n0_ := Aside0.mk (blk_below (g := gb1049) (o := .cells #[.int .u64 a0_0, .int .u64 a0_1, .int .u64 a0_2, .int .u64 a0_3, .int .i64 a0_4, .bool true] 28 (0, 0)) (by (with_reducible repeat (first | refine blk_drewN ?_ _ | refine blk_drew ?_ | refine blk_alloc ?_ _)); exact BK1049.out) hb); have n1_ := Aside0.mk (blk_below (g := gb1056) (o := .cells #[.int .u64 x1057000_7, .int .u64 x1057001_7, .int .u64 x1057002_7, .int .u64 x1057003_7, .int .i64 (wrap64 (Int.tmod a1 7))] 26 (0, 0)) (by (with_reducible repeat (first | refine blk_drewN ?_ _ | refine blk_drew ?_ | refine blk_alloc ?_ _)); exact BK1056.out) hb); have n2_ := Aside0.mk (below_step (by repeat (first | (with_reducible first | exact HB.out | apply below_alloc | apply pw_below_drewN | apply below_drew1 | refine below_set ?_ GE1049.out | refine below_set ?_ GE1056.out) | exact HB.out)) hb); clear BK1049; clear BK1056; clear HB; have BK1049 := n0_; have BK1056 := n1_; have HB := n2_; clear n0_ n1_ n2_; (try clear hb); (try clear hb2); (try clear hk); (try clear hi)))
      go_ret
      exact ⟨by first | rfl | (simp [errW_none, errW_some] <;> rfl) | (simp [*, errW_none, errW_some] <;> rfl), by repeat (first | (with_reducible first | exact HB.out | apply below_alloc | apply pw_below_drewN | apply below_drew1 | refine below_set ?_ GE1049.out | refine below_set ?_ GE1056.out) | exact HB.out)⟩

end Go.Proofs.YtdlagefpglhdoaaDoor.Q
