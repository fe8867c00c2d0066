-- Written by this session's own driver (wip/hybrid.py) of the kit's printer; contracts marked FOREIGN are by hand.
import Derived.Test.YtplgbkobpanbfaaQx0
import Derived.Test.YtplgbkobpanbfaaQxf17
import Derived.Test.YtplgbkobpanbfaaQxf23
import Derived.Test.YtplgbkobpanbfaaQxf9
namespace Go.Proofs.Ytplgbkobpanbfaa.Q
open Go.RowKit Go.Proofs.YtplgbkobpanbfaaW.PrintWords Go.Proofs.YtplgbkobpanbfaaW.PrintLast Go.Proofs.YtplgbkobpanbfaaW.PrintMore
attribute [local go_sem] max2_int min2_int max_two min_two max_three min_three max_four min_four   -- for this text's walks alone
set_option linter.unusedVariables false
set_option linter.unusedSimpArgs false

/-! ### tenementlaw19_GateCodes: function 8 -/
def tenementlaw19_GateCodes.f (k : Nat) (a0 : Int) (a1 : Int) : Option (Bool) := (tenementlaw19_examples.f k).bind fun t608 => (if t608 = true then ((gate_Answer.f k a0 (⟨#[]⟩ : ByteArray) false 0 0 0 0).bind fun t609 => ((gate_Answer.f k a1 (⟨#[]⟩ : ByteArray) false 0 0 0 0).bind fun t610 => ((gate_Read.f k t609).bind fun bt611 => (if t609.toList = t610.toList then (if (Go.bits .and .i64 a0 255) = (Go.bits .and .i64 a1 255) then (if bt611.2.2.2.2.2.2.2 = true then (if bt611.1 = (Go.bits .and .i64 a0 255) then (if (t609.size : Int) = 7 then (some true) else (none)) else (none)) else (none)) else (none)) else (if (Go.bits .and .i64 a0 255) = (Go.bits .and .i64 a1 255) then (none) else (if bt611.2.2.2.2.2.2.2 = true then (if bt611.1 = (Go.bits .and .i64 a0 255) then (if (t609.size : Int) = 7 then (some true) else (none)) else (none)) else (none))))))) else (none))
theorem tenementlaw19_GateCodes.mono : ∀ a0 a1 k, LeO (tenementlaw19_GateCodes.f k a0 a1) (tenementlaw19_GateCodes.f (k + 1) a0 a1) := by
  intro a0 a1 k
  unfold tenementlaw19_GateCodes.f
  repeat' first
      | (with_reducible exact gate_Answer.mono _ _ _ _ _ _ _ _)
      | (with_reducible exact gate_Read.mono _ _)
      | (with_reducible exact tenementlaw19_examples.mono _)
      | (with_reducible exact LeO.refl _)
      | (with_reducible exact LeO.none _)
      | (with_reducible refine LeO.ite ?_ ?_)
      | (with_reducible refine LeO.bind ?_ (fun _ => ?_))
      | exact gate_Answer.mono _ _ _ _ _ _ _ _
      | exact gate_Read.mono _ _
      | exact tenementlaw19_examples.mono _
      | exact LeO.none _
      | refine LeO.ite ?_ ?_
      | refine LeO.bind ?_ (fun _ => ?_)
set_option maxHeartbeats 8000000 in
set_option maxRecDepth 100000 in
theorem tenementlaw19_GateCodes.calls (k : Nat) (a0 : Int) (a1 : Int) (r : Bool) (w : World) (h : tenementlaw19_GateCodes.f k a0 a1 = some r) :
    Calls Try.prog 8 #[.int .i64 a0, .int .i64 a1] w fun e w' => e = .returned (.bool r) ∧ Below w.heap.size w w' := by
  have hu41 := Try.underlying41
  have HB := Aside0.mk (Below.refl w.heap.size w)
  have H : ((tenementlaw19_examples.f k).bind fun t608 => (if t608 = true then ((gate_Answer.f k a0 (⟨#[]⟩ : ByteArray) false 0 0 0 0).bind fun t609 => ((gate_Answer.f k a1 (⟨#[]⟩ : ByteArray) false 0 0 0 0).bind fun t610 => ((gate_Read.f k t609).bind fun bt611 => (if t609.toList = t610.toList then (if (Go.bits .and .i64 a0 255) = (Go.bits .and .i64 a1 255) then (if bt611.2.2.2.2.2.2.2 = true then (if bt611.1 = (Go.bits .and .i64 a0 255) then (if (t609.size : Int) = 7 then (some true) else (none)) else (none)) else (none)) else (none)) else (if (Go.bits .and .i64 a0 255) = (Go.bits .and .i64 a1 255) then (none) else (if bt611.2.2.2.2.2.2.2 = true then (if bt611.1 = (Go.bits .and .i64 a0 255) then (if (t609.size : Int) = 7 then (some true) else (none)) else (none)) else (none))))))) else (none))) = some r := h
  clear h
  replace H := Option.bind_eq_some_iff.mp H
  obtain ⟨t608, A30, H⟩ := H
  replace H : (if t608 = true then ((gate_Answer.f k a0 (⟨#[]⟩ : ByteArray) false 0 0 0 0).bind fun t609 => ((gate_Answer.f k a1 (⟨#[]⟩ : ByteArray) false 0 0 0 0).bind fun t610 => ((gate_Read.f k t609).bind fun bt611 => (if t609.toList = t610.toList then (if (Go.bits .and .i64 a0 255) = (Go.bits .and .i64 a1 255) then (if bt611.2.2.2.2.2.2.2 = true then (if bt611.1 = (Go.bits .and .i64 a0 255) then (if (t609.size : Int) = 7 then (some true) else (none)) else (none)) else (none)) else (none)) else (if (Go.bits .and .i64 a0 255) = (Go.bits .and .i64 a1 255) then (none) else (if bt611.2.2.2.2.2.2.2 = true then (if bt611.1 = (Go.bits .and .i64 a0 255) then (if (t609.size : Int) = 7 then (some true) else (none)) else (none)) else (none))))))) else (none)) = some r := H
  have A3 := Aside0.mk A30
  clear A30
  by_cases c4 : t608 = true
  · subst c4
    have H1 : ((gate_Answer.f k a0 (⟨#[]⟩ : ByteArray) false 0 0 0 0).bind fun t609 => ((gate_Answer.f k a1 (⟨#[]⟩ : ByteArray) false 0 0 0 0).bind fun t610 => ((gate_Read.f k t609).bind fun bt611 => (if t609.toList = t610.toList then (if (Go.bits .and .i64 a0 255) = (Go.bits .and .i64 a1 255) then (if bt611.2.2.2.2.2.2.2 = true then (if bt611.1 = (Go.bits .and .i64 a0 255) then (if (t609.size : Int) = 7 then (some true) else (none)) else (none)) else (none)) else (none)) else (if (Go.bits .and .i64 a0 255) = (Go.bits .and .i64 a1 255) then (none) else (if bt611.2.2.2.2.2.2.2 = true then (if bt611.1 = (Go.bits .and .i64 a0 255) then (if (t609.size : Int) = 7 then (some true) else (none)) else (none)) else (none))))))) = some r := by rw [if_pos rfl] at H; exact H
    clear H
    have H := H1
    clear H1
    replace H := Option.bind_eq_some_iff.mp H
    obtain ⟨t609, A50, H⟩ := H
    replace H : ((gate_Answer.f k a1 (⟨#[]⟩ : ByteArray) false 0 0 0 0).bind fun t610 => ((gate_Read.f k t609).bind fun bt611 => (if t609.toList = t610.toList then (if (Go.bits .and .i64 a0 255) = (Go.bits .and .i64 a1 255) then (if bt611.2.2.2.2.2.2.2 = true then (if bt611.1 = (Go.bits .and .i64 a0 255) then (if (t609.size : Int) = 7 then (some true) else (none)) else (none)) else (none)) else (none)) else (if (Go.bits .and .i64 a0 255) = (Go.bits .and .i64 a1 255) then (none) else (if bt611.2.2.2.2.2.2.2 = true then (if bt611.1 = (Go.bits .and .i64 a0 255) then (if (t609.size : Int) = 7 then (some true) else (none)) else (none)) else (none)))))) = some r := H
    have A5 := Aside0.mk A50
    clear A50
    replace H := Option.bind_eq_some_iff.mp H
    obtain ⟨t610, A60, H⟩ := H
    replace H : ((gate_Read.f k t609).bind fun bt611 => (if t609.toList = t610.toList then (if (Go.bits .and .i64 a0 255) = (Go.bits .and .i64 a1 255) then (if bt611.2.2.2.2.2.2.2 = true then (if bt611.1 = (Go.bits .and .i64 a0 255) then (if (t609.size : Int) = 7 then (some true) else (none)) else (none)) else (none)) else (none)) else (if (Go.bits .and .i64 a0 255) = (Go.bits .and .i64 a1 255) then (none) else (if bt611.2.2.2.2.2.2.2 = true then (if bt611.1 = (Go.bits .and .i64 a0 255) then (if (t609.size : Int) = 7 then (some true) else (none)) else (none)) else (none))))) = some r := H
    have A6 := Aside0.mk A60
    clear A60
    replace H := Option.bind_eq_some_iff.mp H
    obtain ⟨⟨t611, t612, t613, t614, t615, t616, t617, t618⟩, A70, H⟩ := H
    replace H : (if t609.toList = t610.toList then (if (Go.bits .and .i64 a0 255) = (Go.bits .and .i64 a1 255) then (if t618 = true then (if t611 = (Go.bits .and .i64 a0 255) then (if (t609.size : Int) = 7 then (some true) else (none)) else (none)) else (none)) else (none)) else (if (Go.bits .and .i64 a0 255) = (Go.bits .and .i64 a1 255) then (none) else (if t618 = true then (if t611 = (Go.bits .and .i64 a0 255) then (if (t609.size : Int) = 7 then (some true) else (none)) else (none)) else (none)))) = some r := H
    have A7 := Aside0.mk A70
    clear A70
    by_cases c8 : t609.toList = t610.toList
    · rw [if_pos c8] at H
      have c8b0 : (t609.toList == t610.toList) = true := beq_iff_eq.mpr c8
      have c8b1 : (t609.toList != t610.toList) = false := bne_eq_false_iff_eq.mpr c8
      clear c8
      by_cases c9 : (Go.bits .and .i64 a0 255) = (Go.bits .and .i64 a1 255)
      · rw [if_pos c9] at H
        have c9b0 : ((Go.bits .and .i64 a0 255) == (Go.bits .and .i64 a1 255)) = true := beq_iff_eq.mpr c9
        have c9b1 : ((Go.bits .and .i64 a0 255) != (Go.bits .and .i64 a1 255)) = false := bne_eq_false_iff_eq.mpr c9
        clear c9
        by_cases c10 : t618 = true
        · subst c10
          have H1 : (if t611 = (Go.bits .and .i64 a0 255) then (if (t609.size : Int) = 7 then (some true) else (none)) else (none)) = some r := by rw [if_pos rfl] at H; exact H
          clear H
          have H := H1
          clear H1
          by_cases c11 : t611 = (Go.bits .and .i64 a0 255)
          · rw [if_pos c11] at H
            have c11b0 : (t611 == (Go.bits .and .i64 a0 255)) = true := beq_iff_eq.mpr c11
            have c11b1 : (t611 != (Go.bits .and .i64 a0 255)) = false := bne_eq_false_iff_eq.mpr c11
            clear c11
            by_cases c12 : (t609.size : Int) = 7
            · rw [if_pos c12] at H
              have c12b0 : ((t609.size : Int) == 7) = true := beq_iff_eq.mpr c12
              have c12b1 : ((t609.size : Int) != 7) = false := bne_eq_false_iff_eq.mpr c12
              clear c12
              obtain rfl := Option.some.inj H
              go_enter Try.func8, Try.ntmps8
              go_wp2_with (first | ((with_reducible refine gate_callee (f := 9) rfl ?_); refine goesL_ (some 10) rfl rfl Try.func9 (by kernel_rfl) rfl #[] rfl (by (try simp only [List.map_toArray, List.map_cons, List.map_nil]); first | done | rfl | (simp only [List.length_drop, List.length_take]; rfl)) ?_; (with_reducible refine (tenementlaw19_examples.calls k  true _ A3.out).mono ?_); rintro e w13 ⟨rfl, hb⟩; refine ⟨_, rfl, ?_⟩; have n0_ := Aside0.mk (below_step (by repeat (first | (with_reducible first | exact HB.out | apply below_alloc | apply pw_below_drewN | apply below_drew1) | exact HB.out)) hb); clear HB; have HB := n0_; clear n0_; (try clear hb); (try clear hb2); (try clear hk); (try clear hi)) | ((with_reducible refine gate_callee (f := 17) rfl ?_); refine goesL_ (some 15) rfl rfl Try.func17 (by kernel_rfl) rfl #[.agg #[.int .i64 a0, .string (⟨#[]⟩ : ByteArray), .bool false, .int .u64 0, .int .u64 0, .int .u64 0, .int .u64 0]] rfl (by (try simp only [List.map_toArray, List.map_cons, List.map_nil]); first | done | rfl | (simp only [List.length_drop, List.length_take]; rfl)) ?_; (with_reducible refine (gate_Answer.calls k a0 (⟨#[]⟩ : ByteArray) false 0 0 0 0 t609 _ A5.out).mono ?_); rintro e w14 ⟨rfl, hb⟩; refine ⟨_, rfl, ?_⟩; have n0_ := Aside0.mk (below_step (by repeat (first | (with_reducible first | exact HB.out | apply below_alloc | apply pw_below_drewN | apply below_drew1) | exact HB.out)) hb); clear HB; have HB := n0_; clear n0_; (try clear hb); (try clear hb2); (try clear hk); (try clear hi)) | ((with_reducible refine gate_callee (f := 17) rfl ?_); refine goesL_ (some 18) rfl rfl Try.func17 (by kernel_rfl) rfl #[.agg #[.int .i64 a1, .string (⟨#[]⟩ : ByteArray), .bool false, .int .u64 0, .int .u64 0, .int .u64 0, .int .u64 0]] rfl (by (try simp only [List.map_toArray, List.map_cons, List.map_nil]); first | done | rfl | (simp only [List.length_drop, List.length_take]; rfl)) ?_; (with_reducible refine (gate_Answer.calls k a1 (⟨#[]⟩ : ByteArray) false 0 0 0 0 t610 _ A6.out).mono ?_); rintro e w15 ⟨rfl, hb⟩; refine ⟨_, rfl, ?_⟩; have n0_ := Aside0.mk (below_step (by repeat (first | (with_reducible first | exact HB.out | apply below_alloc | apply pw_below_drewN | apply below_drew1) | exact HB.out)) hb); clear HB; have HB := n0_; clear n0_; (try clear hb); (try clear hb2); (try clear hk); (try clear hi)) | ((with_reducible refine gate_callee (f := 23) rfl ?_); refine goesL_ (some 21) rfl rfl Try.func23 (by kernel_rfl) rfl #[.string t609] rfl (by (try simp only [List.map_toArray, List.map_cons, List.map_nil]); first | done | rfl | (simp only [List.length_drop, List.length_take]; rfl)) ?_; (with_reducible refine (gate_Read.calls k t609 t611 t612 t613 t614 t615 t616 t617 true _ A7.out).mono ?_); rintro e w16 ⟨rfl, hb⟩; refine ⟨_, rfl, ?_⟩; have n0_ := Aside0.mk (below_step (by repeat (first | (with_reducible first | exact HB.out | apply below_alloc | apply pw_below_drewN | apply below_drew1) | exact HB.out)) hb); clear HB; have HB := n0_; clear n0_; (try clear hb); (try clear hb2); (try clear hk); (try clear hi)) | ((with_reducible refine gate_dst (N := 8) rfl ?_); (try (refine gate_guard (by rfl) ?_; dsimp only)); refine box_event ?hg (N := 8) ?hd (cs := #[.int .i64 0, .string (⟨#[]⟩ : ByteArray), .bool false, .int .u64 0, .int .u64 0, .int .u64 0, .int .u64 0]) (t := 41) ?hr ?_; (case hd => rfl); (case hg => rfl); (case hr => first | (go_simp; done) | (go_simp; rfl)); intro gb619 hg w17 hbox hb; have n0_ := Aside0.mk (below_step (by repeat (first | (with_reducible first | exact HB.out | apply below_alloc | apply pw_below_drewN | apply below_drew1) | exact HB.out)) hb); have n1_ := Aside0.mk (hbox); have n2_ := Aside0.mk ((by rw [hg]; exact (below_size (by repeat (first | (with_reducible first | exact HB.out | apply below_alloc | apply pw_below_drewN | apply below_drew1) | exact HB.out))) : w.heap.size ≤ gb619)); have n3_ := Aside0.mk ((by rw [hg]; exact (below_size (by repeat (first | (with_reducible first | exact HB.out | apply below_alloc | apply pw_below_drewN | apply below_drew1) | exact HB.out))) : w.heap.size ≤ gb619)); clear HB; have HB := n0_; have BK619 := n1_; have GW619 := n2_; have GE619 := n3_; clear n0_ n1_ n2_ n3_; clear hb hbox hg; have hcz18_0 : w17.cell? ⟨gb619, 0, none⟩ = some (.int .i64 0) := (blk_cell BK619.out 0).trans rfl; have hcz18_1 : w17.cell? ⟨gb619, 1, none⟩ = some (.string (⟨#[]⟩ : ByteArray)) := (blk_cell BK619.out 1).trans rfl; have hcz18_2 : w17.cell? ⟨gb619, 2, none⟩ = some (.bool false) := (blk_cell BK619.out 2).trans rfl; have hcz18_3 : w17.cell? ⟨gb619, 3, none⟩ = some (.int .u64 0) := (blk_cell BK619.out 3).trans rfl; have hcz18_4 : w17.cell? ⟨gb619, 4, none⟩ = some (.int .u64 0) := (blk_cell BK619.out 4).trans rfl; have hcz18_5 : w17.cell? ⟨gb619, 5, none⟩ = some (.int .u64 0) := (blk_cell BK619.out 5).trans rfl; have hcz18_6 : w17.cell? ⟨gb619, 6, none⟩ = some (.int .u64 0) := (blk_cell BK619.out 6).trans rfl; have hfz18_0 := blk_frozen BK619.out 0; have hfz18_1 := blk_frozen BK619.out 1; have hfz18_2 := blk_frozen BK619.out 2; have hfz18_3 := blk_frozen BK619.out 3; have hfz18_4 := blk_frozen BK619.out 4; have hfz18_5 := blk_frozen BK619.out 5; have hfz18_6 := blk_frozen BK619.out 6))
              go_ret
              exact ⟨by first | rfl | (simp [errW_none, errW_some] <;> rfl) | (simp [*, errW_none, errW_some] <;> rfl), by repeat (first | (with_reducible first | exact HB.out | apply below_alloc | apply pw_below_drewN | apply below_drew1 | refine below_set ?_ GE619.out) | exact HB.out)⟩
            · rw [if_neg c12] at H
              exact absurd H (by simp)
          · rw [if_neg c11] at H
            exact absurd H (by simp)
        · replace c10 := Bool.eq_false_iff.mpr c10
          subst c10
          have H1 : (none) = some r := by rw [if_neg (show ¬ (false = true) by decide)] at H; exact H
          clear H
          have H := H1
          clear H1
          exact absurd H (by simp)
      · rw [if_neg c9] at H
        exact absurd H (by simp)
    · rw [if_neg c8] at H
      have c8b0 : (t609.toList == t610.toList) = false := beq_eq_false_iff_ne.mpr c8
      have c8b1 : (t609.toList != t610.toList) = true := bne_iff_ne.mpr c8
      by_cases c19 : (Go.bits .and .i64 a0 255) = (Go.bits .and .i64 a1 255)
      · rw [if_pos c19] at H
        exact absurd H (by simp)
      · rw [if_neg c19] at H
        have c19b0 : ((Go.bits .and .i64 a0 255) == (Go.bits .and .i64 a1 255)) = false := beq_eq_false_iff_ne.mpr c19
        have c19b1 : ((Go.bits .and .i64 a0 255) != (Go.bits .and .i64 a1 255)) = true := bne_iff_ne.mpr c19
        by_cases c20 : t618 = true
        · subst c20
          have H1 : (if t611 = (Go.bits .and .i64 a0 255) then (if (t609.size : Int) = 7 then (some true) else (none)) else (none)) = some r := by rw [if_pos rfl] at H; exact H
          clear H
          have H := H1
          clear H1
          by_cases c21 : t611 = (Go.bits .and .i64 a0 255)
          · rw [if_pos c21] at H
            have c21b0 : (t611 == (Go.bits .and .i64 a0 255)) = true := beq_iff_eq.mpr c21
            have c21b1 : (t611 != (Go.bits .and .i64 a0 255)) = false := bne_eq_false_iff_eq.mpr c21
            clear c21
            by_cases c22 : (t609.size : Int) = 7
            · rw [if_pos c22] at H
              have c22b0 : ((t609.size : Int) == 7) = true := beq_iff_eq.mpr c22
              have c22b1 : ((t609.size : Int) != 7) = false := bne_eq_false_iff_eq.mpr c22
              clear c22
              obtain rfl := Option.some.inj H
              go_enter Try.func8, Try.ntmps8
              go_wp2_with (first | ((with_reducible refine gate_callee (f := 9) rfl ?_); refine goesL_ (some 10) rfl rfl Try.func9 (by kernel_rfl) rfl #[] rfl (by (try simp only [List.map_toArray, List.map_cons, List.map_nil]); first | done | rfl | (simp only [List.length_drop, List.length_take]; rfl)) ?_; (with_reducible refine (tenementlaw19_examples.calls k  true _ A3.out).mono ?_); rintro e w23 ⟨rfl, hb⟩; refine ⟨_, rfl, ?_⟩; have n0_ := Aside0.mk (below_step (by repeat (first | (with_reducible first | exact HB.out | apply below_alloc | apply pw_below_drewN | apply below_drew1) | exact HB.out)) hb); clear HB; have HB := n0_; clear n0_; (try clear hb); (try clear hb2); (try clear hk); (try clear hi)) | ((with_reducible refine gate_callee (f := 17) rfl ?_); refine goesL_ (some 15) rfl rfl Try.func17 (by kernel_rfl) rfl #[.agg #[.int .i64 a0, .string (⟨#[]⟩ : ByteArray), .bool false, .int .u64 0, .int .u64 0, .int .u64 0, .int .u64 0]] rfl (by (try simp only [List.map_toArray, List.map_cons, List.map_nil]); first | done | rfl | (simp only [List.length_drop, List.length_take]; rfl)) ?_; (with_reducible refine (gate_Answer.calls k a0 (⟨#[]⟩ : ByteArray) false 0 0 0 0 t609 _ A5.out).mono ?_); rintro e w24 ⟨rfl, hb⟩; refine ⟨_, rfl, ?_⟩; have n0_ := Aside0.mk (below_step (by repeat (first | (with_reducible first | exact HB.out | apply below_alloc | apply pw_below_drewN | apply below_drew1) | exact HB.out)) hb); clear HB; have HB := n0_; clear n0_; (try clear hb); (try clear hb2); (try clear hk); (try clear hi)) | ((with_reducible refine gate_callee (f := 17) rfl ?_); refine goesL_ (some 18) rfl rfl Try.func17 (by kernel_rfl) rfl #[.agg #[.int .i64 a1, .string (⟨#[]⟩ : ByteArray), .bool false, .int .u64 0, .int .u64 0, .int .u64 0, .int .u64 0]] rfl (by (try simp only [List.map_toArray, List.map_cons, List.map_nil]); first | done | rfl | (simp only [List.length_drop, List.length_take]; rfl)) ?_; (with_reducible refine (gate_Answer.calls k a1 (⟨#[]⟩ : ByteArray) false 0 0 0 0 t610 _ A6.out).mono ?_); rintro e w25 ⟨rfl, hb⟩; refine ⟨_, rfl, ?_⟩; have n0_ := Aside0.mk (below_step (by repeat (first | (with_reducible first | exact HB.out | apply below_alloc | apply pw_below_drewN | apply below_drew1) | exact HB.out)) hb); clear HB; have HB := n0_; clear n0_; (try clear hb); (try clear hb2); (try clear hk); (try clear hi)) | ((with_reducible refine gate_callee (f := 23) rfl ?_); refine goesL_ (some 21) rfl rfl Try.func23 (by kernel_rfl) rfl #[.string t609] rfl (by (try simp only [List.map_toArray, List.map_cons, List.map_nil]); first | done | rfl | (simp only [List.length_drop, List.length_take]; rfl)) ?_; (with_reducible refine (gate_Read.calls k t609 t611 t612 t613 t614 t615 t616 t617 true _ A7.out).mono ?_); rintro e w26 ⟨rfl, hb⟩; refine ⟨_, rfl, ?_⟩; have n0_ := Aside0.mk (below_step (by repeat (first | (with_reducible first | exact HB.out | apply below_alloc | apply pw_below_drewN | apply below_drew1) | exact HB.out)) hb); clear HB; have HB := n0_; clear n0_; (try clear hb); (try clear hb2); (try clear hk); (try clear hi)) | ((with_reducible refine gate_dst (N := 8) rfl ?_); (try (refine gate_guard (by rfl) ?_; dsimp only)); refine box_event ?hg (N := 8) ?hd (cs := #[.int .i64 0, .string (⟨#[]⟩ : ByteArray), .bool false, .int .u64 0, .int .u64 0, .int .u64 0, .int .u64 0]) (t := 41) ?hr ?_; (case hd => rfl); (case hg => rfl); (case hr => first | (go_simp; done) | (go_simp; rfl)); intro gb619 hg w27 hbox hb; have n0_ := Aside0.mk (below_step (by repeat (first | (with_reducible first | exact HB.out | apply below_alloc | apply pw_below_drewN | apply below_drew1) | exact HB.out)) hb); have n1_ := Aside0.mk (hbox); have n2_ := Aside0.mk ((by rw [hg]; exact (below_size (by repeat (first | (with_reducible first | exact HB.out | apply below_alloc | apply pw_below_drewN | apply below_drew1) | exact HB.out))) : w.heap.size ≤ gb619)); have n3_ := Aside0.mk ((by rw [hg]; exact (below_size (by repeat (first | (with_reducible first | exact HB.out | apply below_alloc | apply pw_below_drewN | apply below_drew1) | exact HB.out))) : w.heap.size ≤ gb619)); clear HB; have HB := n0_; have BK619 := n1_; have GW619 := n2_; have GE619 := n3_; clear n0_ n1_ n2_ n3_; clear hb hbox hg; have hcz28_0 : w27.cell? ⟨gb619, 0, none⟩ = some (.int .i64 0) := (blk_cell BK619.out 0).trans rfl; have hcz28_1 : w27.cell? ⟨gb619, 1, none⟩ = some (.string (⟨#[]⟩ : ByteArray)) := (blk_cell BK619.out 1).trans rfl; have hcz28_2 : w27.cell? ⟨gb619, 2, none⟩ = some (.bool false) := (blk_cell BK619.out 2).trans rfl; have hcz28_3 : w27.cell? ⟨gb619, 3, none⟩ = some (.int .u64 0) := (blk_cell BK619.out 3).trans rfl; have hcz28_4 : w27.cell? ⟨gb619, 4, none⟩ = some (.int .u64 0) := (blk_cell BK619.out 4).trans rfl; have hcz28_5 : w27.cell? ⟨gb619, 5, none⟩ = some (.int .u64 0) := (blk_cell BK619.out 5).trans rfl; have hcz28_6 : w27.cell? ⟨gb619, 6, none⟩ = some (.int .u64 0) := (blk_cell BK619.out 6).trans rfl; have hfz28_0 := blk_frozen BK619.out 0; have hfz28_1 := blk_frozen BK619.out 1; have hfz28_2 := blk_frozen BK619.out 2; have hfz28_3 := blk_frozen BK619.out 3; have hfz28_4 := blk_frozen BK619.out 4; have hfz28_5 := blk_frozen BK619.out 5; have hfz28_6 := blk_frozen BK619.out 6))
              go_ret
              exact ⟨by first | rfl | (simp [errW_none, errW_some] <;> rfl) | (simp [*, errW_none, errW_some] <;> rfl), by repeat (first | (with_reducible first | exact HB.out | apply below_alloc | apply pw_below_drewN | apply below_drew1 | refine below_set ?_ GE619.out) | exact HB.out)⟩
            · rw [if_neg c22] at H
              exact absurd H (by simp)
          · rw [if_neg c21] at H
            exact absurd H (by simp)
        · replace c20 := Bool.eq_false_iff.mpr c20
          subst c20
          have H1 : (none) = some r := by rw [if_neg (show ¬ (false = true) by decide)] at H; exact H
          clear H
          have H := H1
          clear H1
          exact absurd H (by simp)
  · replace c4 := Bool.eq_false_iff.mpr c4
    subst c4
    have H1 : (none) = some r := by rw [if_neg (show ¬ (false = true) by decide)] at H; exact H
    clear H
    have H := H1
    clear H1
    exact absurd H (by simp)

/-- THE ONE PURE STATEMENT of tenementlaw19_GateCodes: yours. -/
def tenementlaw19_GateCodes.Pure : Prop := ∀ (a0 : Int) (a1 : Int), (Lit.int .i64 a0).wf = true → (Lit.int .i64 a1).wf = true → ∃ k, tenementlaw19_GateCodes.f k a0 a1 = some true
theorem tenementlaw19_GateCodes.walk (P : tenementlaw19_GateCodes.Pure) (a0 : Int) (a1 : Int) (w : World) (w0 : (Lit.int .i64 a0).wf = true) (w1 : (Lit.int .i64 a1).wf = true) :
    Calls Try.prog 8 #[.int .i64 a0, .int .i64 a1] w fun e w' => e = .returned (.bool true) ∧ Below w.heap.size w w' := by
  obtain ⟨k, h⟩ := P a0 a1 w0 w1
  refine (tenementlaw19_GateCodes.calls k a0 a1 true w h).mono ?_
  rintro e w' ⟨rfl, hd⟩
  exact ⟨rfl, hd⟩

end Go.Proofs.Ytplgbkobpanbfaa.Q
