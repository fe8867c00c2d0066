-- Written by this session's own driver (wip/hybrid.py) of the kit's printer; contracts marked FOREIGN are by hand.
import Derived.Test.YtlpipngfpcpfbaaQx0
import Derived.Test.YtlpipngfpcpfbaaQx3
import Derived.Test.YtlpipngfpcpfbaaQx6
import Derived.Test.YtlpipngfpcpfbaaQx9
namespace Go.Proofs.Ytlpipngfpcpfbaa.Q
open Go.RowKit Go.Proofs.YtlpipngfpcpfbaaW.PrintWords Go.Proofs.YtlpipngfpcpfbaaW.PrintLast Go.Proofs.YtlpipngfpcpfbaaW.PrintMore
attribute [local go_sem] max2_int min2_int max_two min_two max_three min_three max_four min_four   -- for this text's walks alone
set_option linter.unusedVariables false
set_option linter.unusedSimpArgs false

/-! ### tenementlaw02_PackMost: function 5 -/
def tenementlaw02_PackMost.f (k : Nat) (a0 : ByteArray) (a1 : Int) (a2 : Bool) : Option (Bool) := (tenementlaw02_examples.f k).bind fun t208 => (if t208 = true then (if a2 = true then ((pack_Text.f k a0).bind fun t209 => (if t209.size + 1 ≤ 9223372036854775807 then ((pack_Reader_Text.f k (t209 ++ (⟨#[120]⟩ : ByteArray)) false (Int.tmod a1 40)).bind fun bt210 => (if bt210.2.2 = true then (if (a0.size : Int) ≤ (Int.tmod a1 40) then (none) else (if bt210.1.toList = ([] : List UInt8) then (if bt210.2.1.toList = ([] : List UInt8) then (some true) else (none)) else (none))) else (if (a0.size : Int) ≤ (Int.tmod a1 40) then (if bt210.1.toList = a0.toList then (if bt210.2.1.toList = ([120] : List UInt8) then (some true) else (none)) else (none)) else (none)))) else (none))) else ((pack_Text.f k a0).bind fun t214 => (if t214.size + 1 ≤ 9223372036854775807 then ((pack_Reader_Text.f k (t214 ++ (⟨#[120]⟩ : ByteArray)) false a1).bind fun bt215 => (if bt215.2.2 = true then (if (a0.size : Int) ≤ a1 then (none) else (if bt215.1.toList = ([] : List UInt8) then (if bt215.2.1.toList = ([] : List UInt8) then (some true) else (none)) else (none))) else (if (a0.size : Int) ≤ a1 then (if bt215.1.toList = a0.toList then (if bt215.2.1.toList = ([120] : List UInt8) then (some true) else (none)) else (none)) else (none)))) else (none)))) else (none))
theorem tenementlaw02_PackMost.mono : ∀ a0 a1 a2 k, LeO (tenementlaw02_PackMost.f k a0 a1 a2) (tenementlaw02_PackMost.f (k + 1) a0 a1 a2) := by
  intro a0 a1 a2 k
  unfold tenementlaw02_PackMost.f
  repeat' first
      | (with_reducible exact pack_Reader_Text.mono _ _ _ _)
      | (with_reducible exact pack_Text.mono _ _)
      | (with_reducible exact tenementlaw02_examples.mono _)
      | (with_reducible exact LeO.refl _)
      | (with_reducible exact LeO.none _)
      | (with_reducible refine LeO.ite ?_ ?_)
      | (with_reducible refine LeO.bind ?_ (fun _ => ?_))
      | exact pack_Reader_Text.mono _ _ _ _
      | exact pack_Text.mono _ _
      | exact tenementlaw02_examples.mono _
      | exact LeO.none _
      | refine LeO.ite ?_ ?_
      | refine LeO.bind ?_ (fun _ => ?_)
set_option maxHeartbeats 8000000 in
set_option maxRecDepth 100000 in
theorem tenementlaw02_PackMost.calls (k : Nat) (a0 : ByteArray) (a1 : Int) (a2 : Bool) (r : Bool) (w : World) (h : tenementlaw02_PackMost.f k a0 a1 a2 = some r) :
    Calls Try.prog 5 #[.string a0, .int .i64 a1, .bool a2] w fun e w' => e = .returned (.bool r) ∧ Below w.heap.size w w' := by
  have hu35 := Try.underlying35
  have HB := Aside0.mk (Below.refl w.heap.size w)
  have H : ((tenementlaw02_examples.f k).bind fun t208 => (if t208 = true then (if a2 = true then ((pack_Text.f k a0).bind fun t209 => (if t209.size + 1 ≤ 9223372036854775807 then ((pack_Reader_Text.f k (t209 ++ (⟨#[120]⟩ : ByteArray)) false (Int.tmod a1 40)).bind fun bt210 => (if bt210.2.2 = true then (if (a0.size : Int) ≤ (Int.tmod a1 40) then (none) else (if bt210.1.toList = ([] : List UInt8) then (if bt210.2.1.toList = ([] : List UInt8) then (some true) else (none)) else (none))) else (if (a0.size : Int) ≤ (Int.tmod a1 40) then (if bt210.1.toList = a0.toList then (if bt210.2.1.toList = ([120] : List UInt8) then (some true) else (none)) else (none)) else (none)))) else (none))) else ((pack_Text.f k a0).bind fun t214 => (if t214.size + 1 ≤ 9223372036854775807 then ((pack_Reader_Text.f k (t214 ++ (⟨#[120]⟩ : ByteArray)) false a1).bind fun bt215 => (if bt215.2.2 = true then (if (a0.size : Int) ≤ a1 then (none) else (if bt215.1.toList = ([] : List UInt8) then (if bt215.2.1.toList = ([] : List UInt8) then (some true) else (none)) else (none))) else (if (a0.size : Int) ≤ a1 then (if bt215.1.toList = a0.toList then (if bt215.2.1.toList = ([120] : List UInt8) then (some true) else (none)) else (none)) else (none)))) else (none)))) else (none))) = some r := h
  (try (have Hs_ := H; simp only [ByteArray.size_append, Int.natCast_add] at Hs_))
  clear h
  replace H := Option.bind_eq_some_iff.mp H
  obtain ⟨t208, A40, H⟩ := H
  replace H : (if t208 = true then (if a2 = true then ((pack_Text.f k a0).bind fun t209 => (if t209.size + 1 ≤ 9223372036854775807 then ((pack_Reader_Text.f k (t209 ++ (⟨#[120]⟩ : ByteArray)) false (Int.tmod a1 40)).bind fun bt210 => (if bt210.2.2 = true then (if (a0.size : Int) ≤ (Int.tmod a1 40) then (none) else (if bt210.1.toList = ([] : List UInt8) then (if bt210.2.1.toList = ([] : List UInt8) then (some true) else (none)) else (none))) else (if (a0.size : Int) ≤ (Int.tmod a1 40) then (if bt210.1.toList = a0.toList then (if bt210.2.1.toList = ([120] : List UInt8) then (some true) else (none)) else (none)) else (none)))) else (none))) else ((pack_Text.f k a0).bind fun t214 => (if t214.size + 1 ≤ 9223372036854775807 then ((pack_Reader_Text.f k (t214 ++ (⟨#[120]⟩ : ByteArray)) false a1).bind fun bt215 => (if bt215.2.2 = true then (if (a0.size : Int) ≤ a1 then (none) else (if bt215.1.toList = ([] : List UInt8) then (if bt215.2.1.toList = ([] : List UInt8) then (some true) else (none)) else (none))) else (if (a0.size : Int) ≤ a1 then (if bt215.1.toList = a0.toList then (if bt215.2.1.toList = ([120] : List UInt8) then (some true) else (none)) else (none)) else (none)))) else (none)))) else (none)) = some r := H
  have A4 := Aside0.mk A40
  clear A40
  by_cases c5 : t208 = true
  · subst c5
    have H1 : (if a2 = true then ((pack_Text.f k a0).bind fun t209 => (if t209.size + 1 ≤ 9223372036854775807 then ((pack_Reader_Text.f k (t209 ++ (⟨#[120]⟩ : ByteArray)) false (Int.tmod a1 40)).bind fun bt210 => (if bt210.2.2 = true then (if (a0.size : Int) ≤ (Int.tmod a1 40) then (none) else (if bt210.1.toList = ([] : List UInt8) then (if bt210.2.1.toList = ([] : List UInt8) then (some true) else (none)) else (none))) else (if (a0.size : Int) ≤ (Int.tmod a1 40) then (if bt210.1.toList = a0.toList then (if bt210.2.1.toList = ([120] : List UInt8) then (some true) else (none)) else (none)) else (none)))) else (none))) else ((pack_Text.f k a0).bind fun t214 => (if t214.size + 1 ≤ 9223372036854775807 then ((pack_Reader_Text.f k (t214 ++ (⟨#[120]⟩ : ByteArray)) false a1).bind fun bt215 => (if bt215.2.2 = true then (if (a0.size : Int) ≤ a1 then (none) else (if bt215.1.toList = ([] : List UInt8) then (if bt215.2.1.toList = ([] : List UInt8) then (some true) else (none)) else (none))) else (if (a0.size : Int) ≤ a1 then (if bt215.1.toList = a0.toList then (if bt215.2.1.toList = ([120] : List UInt8) then (some true) else (none)) else (none)) else (none)))) else (none)))) = some r := by rw [if_pos rfl] at H; exact H
    clear H
    have H := H1
    clear H1
    by_cases c6 : a2 = true
    · subst c6
      have H1 : ((pack_Text.f k a0).bind fun t209 => (if t209.size + 1 ≤ 9223372036854775807 then ((pack_Reader_Text.f k (t209 ++ (⟨#[120]⟩ : ByteArray)) false (Int.tmod a1 40)).bind fun bt210 => (if bt210.2.2 = true then (if (a0.size : Int) ≤ (Int.tmod a1 40) then (none) else (if bt210.1.toList = ([] : List UInt8) then (if bt210.2.1.toList = ([] : List UInt8) then (some true) else (none)) else (none))) else (if (a0.size : Int) ≤ (Int.tmod a1 40) then (if bt210.1.toList = a0.toList then (if bt210.2.1.toList = ([120] : List UInt8) then (some true) else (none)) else (none)) else (none)))) else (none))) = some r := by rw [if_pos rfl] at H; exact H
      clear H
      have H := H1
      clear H1
      replace H := Option.bind_eq_some_iff.mp H
      obtain ⟨t209, A70, H⟩ := H
      replace H : (if t209.size + 1 ≤ 9223372036854775807 then ((pack_Reader_Text.f k (t209 ++ (⟨#[120]⟩ : ByteArray)) false (Int.tmod a1 40)).bind fun bt210 => (if bt210.2.2 = true then (if (a0.size : Int) ≤ (Int.tmod a1 40) then (none) else (if bt210.1.toList = ([] : List UInt8) then (if bt210.2.1.toList = ([] : List UInt8) then (some true) else (none)) else (none))) else (if (a0.size : Int) ≤ (Int.tmod a1 40) then (if bt210.1.toList = a0.toList then (if bt210.2.1.toList = ([120] : List UInt8) then (some true) else (none)) else (none)) else (none)))) else (none)) = some r := H
      have A7 := Aside0.mk A70
      clear A70
      by_cases c8 : t209.size + 1 ≤ 9223372036854775807
      · rw [if_pos c8] at H
        have c8b0 := eq_true c8
        have c8b1 : decide (t209.size + 1 ≤ 9223372036854775807) = true := decide_eq_true c8
        try have c8b2 : (9223372036854775807 < t209.size + 1) = False := eq_false (Nat.not_lt.2 c8)
        replace H := Option.bind_eq_some_iff.mp H
        obtain ⟨⟨t210, t211, t212⟩, A90, H⟩ := H
        replace H : (if t212 = true then (if (a0.size : Int) ≤ (Int.tmod a1 40) then (none) else (if t210.toList = ([] : List UInt8) then (if t211.toList = ([] : List UInt8) then (some true) else (none)) else (none))) else (if (a0.size : Int) ≤ (Int.tmod a1 40) then (if t210.toList = a0.toList then (if t211.toList = ([120] : List UInt8) then (some true) else (none)) else (none)) else (none))) = some r := H
        have A9 := Aside0.mk A90
        clear A90
        by_cases c10 : t212 = true
        · subst c10
          have H1 : (if (a0.size : Int) ≤ (Int.tmod a1 40) then (none) else (if t210.toList = ([] : List UInt8) then (if t211.toList = ([] : List UInt8) then (some true) else (none)) else (none))) = some r := by rw [if_pos rfl] at H; exact H
          clear H
          have H := H1
          clear H1
          by_cases c11 : (a0.size : Int) ≤ (Int.tmod a1 40)
          · rw [if_pos c11] at H
            exact absurd H (by simp)
          · rw [if_neg c11] at H
            have c11b0 : decide ((a0.size : Int) ≤ (Int.tmod a1 40)) = false := decide_eq_false c11
            clear c11
            by_cases c12 : t210.toList = ([] : List UInt8)
            · rw [if_pos c12] at H
              have c12b0 : (t210.toList == ([] : List UInt8)) = true := beq_iff_eq.mpr c12
              have c12b1 : (t210.toList != ([] : List UInt8)) = false := bne_eq_false_iff_eq.mpr c12
              clear c12
              by_cases c13 : t211.toList = ([] : List UInt8)
              · rw [if_pos c13] at H
                have c13b0 : (t211.toList == ([] : List UInt8)) = true := beq_iff_eq.mpr c13
                have c13b1 : (t211.toList != ([] : List UInt8)) = false := bne_eq_false_iff_eq.mpr c13
                clear c13
                obtain rfl := Option.some.inj H
                go_enter Try.func5, Try.ntmps5
                go_wp2_with (first | ((with_reducible refine gate_callee (f := 9) rfl ?_); refine goesL_ (some 11) rfl rfl Try.func9 (by kernel_rfl) rfl #[] rfl (by (try simp only [List.map_toArray, List.map_cons, List.map_nil]); first | done | rfl | (simp only [List.length_drop, List.length_take]; rfl)) ?_; (with_reducible refine (tenementlaw02_examples.calls k  true _ A4.out).mono ?_); rintro e w14 ⟨rfl, hb⟩; refine ⟨_, rfl, ?_⟩; have n0_ := Aside0.mk (below_step (by repeat (first | (with_reducible first | exact HB.out | apply below_alloc | apply pw_below_drewN | apply below_drew1) | exact HB.out)) hb); clear HB; have HB := n0_; clear n0_; (try clear hb); (try clear hb2); (try clear hk); (try clear hi)) | ((with_reducible refine gate_callee (f := 13) rfl ?_); refine goesL_ (some 19) rfl rfl Try.func13 (by kernel_rfl) rfl #[.string a0] rfl (by (try simp only [List.map_toArray, List.map_cons, List.map_nil]); first | done | rfl | (simp only [List.length_drop, List.length_take]; rfl)) ?_; (with_reducible refine (pack_Text.calls k a0 t209 _ A7.out).mono ?_); rintro e w15 ⟨rfl, hb⟩; refine ⟨_, rfl, ?_⟩; have n0_ := Aside0.mk (below_step (by repeat (first | (with_reducible first | exact HB.out | apply below_alloc | apply pw_below_drewN | apply below_drew1) | exact HB.out)) hb); clear HB; have HB := n0_; clear n0_; (try clear hb); (try clear hb2); (try clear hk); (try clear hi)) | ((with_reducible refine gate_callee (f := 14) rfl ?_); refine goesL_ (some 23) rfl rfl Try.func14 (by kernel_rfl) rfl #[.agg #[.string (t209 ++ (⟨#[120]⟩ : ByteArray)), .bool false], .int .i64 (Int.tmod a1 40)] rfl (by (try simp only [List.map_toArray, List.map_cons, List.map_nil]); first | done | rfl | (simp only [List.length_drop, List.length_take]; rfl)) ?_; (with_reducible refine (pack_Reader_Text.calls k (t209 ++ (⟨#[120]⟩ : ByteArray)) false (Int.tmod a1 40) t210 t211 true _ A9.out).mono ?_); rintro e w16 ⟨rfl, hb⟩; refine ⟨_, rfl, ?_⟩; have n0_ := Aside0.mk (below_step (by repeat (first | (with_reducible first | exact HB.out | apply below_alloc | apply pw_below_drewN | apply below_drew1) | exact HB.out)) hb); clear HB; have HB := n0_; clear n0_; (try clear hb); (try clear hb2); (try clear hk); (try clear hi)) | ((with_reducible refine gate_dst (N := 9) rfl ?_); refine box_event ?hg (N := 9) ?hd (cs := #[.string (⟨#[]⟩ : ByteArray), .bool false]) (t := 35) ?hr ?_; (case hd => rfl); (case hg => rfl); (case hr => first | (go_simp; done) | (go_simp; rfl)); intro gb213 hg w17 hbox hb; have n0_ := Aside0.mk (below_step (by repeat (first | (with_reducible first | exact HB.out | apply below_alloc | apply pw_below_drewN | apply below_drew1) | exact HB.out)) hb); have n1_ := Aside0.mk (hbox); have n2_ := Aside0.mk ((by rw [hg]; exact (below_size (by repeat (first | (with_reducible first | exact HB.out | apply below_alloc | apply pw_below_drewN | apply below_drew1) | exact HB.out))) : w.heap.size ≤ gb213)); have n3_ := Aside0.mk ((by rw [hg]; exact (below_size (by repeat (first | (with_reducible first | exact HB.out | apply below_alloc | apply pw_below_drewN | apply below_drew1) | exact HB.out))) : w.heap.size ≤ gb213)); clear HB; have HB := n0_; have BK213 := n1_; have GW213 := n2_; have GE213 := n3_; clear n0_ n1_ n2_ n3_; clear hb hbox hg; have hcz18_0 : w17.cell? ⟨gb213, 0, none⟩ = some (.string (⟨#[]⟩ : ByteArray)) := (blk_cell BK213.out 0).trans rfl; have hcz18_1 : w17.cell? ⟨gb213, 1, none⟩ = some (.bool false) := (blk_cell BK213.out 1).trans rfl; have hfz18_0 := blk_frozen BK213.out 0; have hfz18_1 := blk_frozen BK213.out 1))
                go_ret
                exact ⟨by first | rfl | (simp [errW_none, errW_some] <;> rfl) | (simp [*, errW_none, errW_some] <;> rfl), by repeat (first | (with_reducible first | exact HB.out | apply below_alloc | apply pw_below_drewN | apply below_drew1 | refine below_set ?_ GE213.out) | exact HB.out)⟩
              · rw [if_neg c13] at H
                exact absurd H (by simp)
            · rw [if_neg c12] at H
              exact absurd H (by simp)
        · replace c10 := Bool.eq_false_iff.mpr c10
          subst c10
          have H1 : (if (a0.size : Int) ≤ (Int.tmod a1 40) then (if t210.toList = a0.toList then (if t211.toList = ([120] : List UInt8) then (some true) else (none)) else (none)) else (none)) = some r := by rw [if_neg (show ¬ (false = true) by decide)] at H; exact H
          clear H
          have H := H1
          clear H1
          by_cases c19 : (a0.size : Int) ≤ (Int.tmod a1 40)
          · rw [if_pos c19] at H
            have c19b0 : decide ((a0.size : Int) ≤ (Int.tmod a1 40)) = true := decide_eq_true c19
            clear c19
            by_cases c20 : t210.toList = a0.toList
            · rw [if_pos c20] at H
              have c20b0 : (t210.toList == a0.toList) = true := beq_iff_eq.mpr c20
              have c20b1 : (t210.toList != a0.toList) = false := bne_eq_false_iff_eq.mpr c20
              clear c20
              by_cases c21 : t211.toList = ([120] : List UInt8)
              · rw [if_pos c21] at H
                have c21b0 : (t211.toList == ([120] : List UInt8)) = true := beq_iff_eq.mpr c21
                have c21b1 : (t211.toList != ([120] : List UInt8)) = false := bne_eq_false_iff_eq.mpr c21
                clear c21
                obtain rfl := Option.some.inj H
                go_enter Try.func5, Try.ntmps5
                go_wp2_with (first | ((with_reducible refine gate_callee (f := 9) rfl ?_); refine goesL_ (some 11) rfl rfl Try.func9 (by kernel_rfl) rfl #[] rfl (by (try simp only [List.map_toArray, List.map_cons, List.map_nil]); first | done | rfl | (simp only [List.length_drop, List.length_take]; rfl)) ?_; (with_reducible refine (tenementlaw02_examples.calls k  true _ A4.out).mono ?_); rintro e w22 ⟨rfl, hb⟩; refine ⟨_, rfl, ?_⟩; have n0_ := Aside0.mk (below_step (by repeat (first | (with_reducible first | exact HB.out | apply below_alloc | apply pw_below_drewN | apply below_drew1) | exact HB.out)) hb); clear HB; have HB := n0_; clear n0_; (try clear hb); (try clear hb2); (try clear hk); (try clear hi)) | ((with_reducible refine gate_callee (f := 13) rfl ?_); refine goesL_ (some 19) rfl rfl Try.func13 (by kernel_rfl) rfl #[.string a0] rfl (by (try simp only [List.map_toArray, List.map_cons, List.map_nil]); first | done | rfl | (simp only [List.length_drop, List.length_take]; rfl)) ?_; (with_reducible refine (pack_Text.calls k a0 t209 _ A7.out).mono ?_); rintro e w23 ⟨rfl, hb⟩; refine ⟨_, rfl, ?_⟩; have n0_ := Aside0.mk (below_step (by repeat (first | (with_reducible first | exact HB.out | apply below_alloc | apply pw_below_drewN | apply below_drew1) | exact HB.out)) hb); clear HB; have HB := n0_; clear n0_; (try clear hb); (try clear hb2); (try clear hk); (try clear hi)) | ((with_reducible refine gate_callee (f := 14) rfl ?_); refine goesL_ (some 23) rfl rfl Try.func14 (by kernel_rfl) rfl #[.agg #[.string (t209 ++ (⟨#[120]⟩ : ByteArray)), .bool false], .int .i64 (Int.tmod a1 40)] rfl (by (try simp only [List.map_toArray, List.map_cons, List.map_nil]); first | done | rfl | (simp only [List.length_drop, List.length_take]; rfl)) ?_; (with_reducible refine (pack_Reader_Text.calls k (t209 ++ (⟨#[120]⟩ : ByteArray)) false (Int.tmod a1 40) t210 t211 false _ A9.out).mono ?_); rintro e w24 ⟨rfl, hb⟩; refine ⟨_, rfl, ?_⟩; have n0_ := Aside0.mk (below_step (by repeat (first | (with_reducible first | exact HB.out | apply below_alloc | apply pw_below_drewN | apply below_drew1) | exact HB.out)) hb); clear HB; have HB := n0_; clear n0_; (try clear hb); (try clear hb2); (try clear hk); (try clear hi)) | ((with_reducible refine gate_dst (N := 9) rfl ?_); refine box_event ?hg (N := 9) ?hd (cs := #[.string (⟨#[]⟩ : ByteArray), .bool false]) (t := 35) ?hr ?_; (case hd => rfl); (case hg => rfl); (case hr => first | (go_simp; done) | (go_simp; rfl)); intro gb213 hg w25 hbox hb; have n0_ := Aside0.mk (below_step (by repeat (first | (with_reducible first | exact HB.out | apply below_alloc | apply pw_below_drewN | apply below_drew1) | exact HB.out)) hb); have n1_ := Aside0.mk (hbox); have n2_ := Aside0.mk ((by rw [hg]; exact (below_size (by repeat (first | (with_reducible first | exact HB.out | apply below_alloc | apply pw_below_drewN | apply below_drew1) | exact HB.out))) : w.heap.size ≤ gb213)); have n3_ := Aside0.mk ((by rw [hg]; exact (below_size (by repeat (first | (with_reducible first | exact HB.out | apply below_alloc | apply pw_below_drewN | apply below_drew1) | exact HB.out))) : w.heap.size ≤ gb213)); clear HB; have HB := n0_; have BK213 := n1_; have GW213 := n2_; have GE213 := n3_; clear n0_ n1_ n2_ n3_; clear hb hbox hg; have hcz26_0 : w25.cell? ⟨gb213, 0, none⟩ = some (.string (⟨#[]⟩ : ByteArray)) := (blk_cell BK213.out 0).trans rfl; have hcz26_1 : w25.cell? ⟨gb213, 1, none⟩ = some (.bool false) := (blk_cell BK213.out 1).trans rfl; have hfz26_0 := blk_frozen BK213.out 0; have hfz26_1 := blk_frozen BK213.out 1))
                go_ret
                exact ⟨by first | rfl | (simp [errW_none, errW_some] <;> rfl) | (simp [*, errW_none, errW_some] <;> rfl), by repeat (first | (with_reducible first | exact HB.out | apply below_alloc | apply pw_below_drewN | apply below_drew1 | refine below_set ?_ GE213.out) | exact HB.out)⟩
              · rw [if_neg c21] at H
                exact absurd H (by simp)
            · rw [if_neg c20] at H
              exact absurd H (by simp)
          · rw [if_neg c19] at H
            exact absurd H (by simp)
      · rw [if_neg c8] at H
        exact absurd H (by simp)
    · replace c6 := Bool.eq_false_iff.mpr c6
      subst c6
      have H1 : ((pack_Text.f k a0).bind fun t214 => (if t214.size + 1 ≤ 9223372036854775807 then ((pack_Reader_Text.f k (t214 ++ (⟨#[120]⟩ : ByteArray)) false a1).bind fun bt215 => (if bt215.2.2 = true then (if (a0.size : Int) ≤ a1 then (none) else (if bt215.1.toList = ([] : List UInt8) then (if bt215.2.1.toList = ([] : List UInt8) then (some true) else (none)) else (none))) else (if (a0.size : Int) ≤ a1 then (if bt215.1.toList = a0.toList then (if bt215.2.1.toList = ([120] : List UInt8) then (some true) else (none)) else (none)) else (none)))) else (none))) = some r := by rw [if_neg (show ¬ (false = true) by decide)] at H; exact H
      clear H
      have H := H1
      clear H1
      replace H := Option.bind_eq_some_iff.mp H
      obtain ⟨t214, A270, H⟩ := H
      replace H : (if t214.size + 1 ≤ 9223372036854775807 then ((pack_Reader_Text.f k (t214 ++ (⟨#[120]⟩ : ByteArray)) false a1).bind fun bt215 => (if bt215.2.2 = true then (if (a0.size : Int) ≤ a1 then (none) else (if bt215.1.toList = ([] : List UInt8) then (if bt215.2.1.toList = ([] : List UInt8) then (some true) else (none)) else (none))) else (if (a0.size : Int) ≤ a1 then (if bt215.1.toList = a0.toList then (if bt215.2.1.toList = ([120] : List UInt8) then (some true) else (none)) else (none)) else (none)))) else (none)) = some r := H
      have A27 := Aside0.mk A270
      clear A270
      by_cases c28 : t214.size + 1 ≤ 9223372036854775807
      · rw [if_pos c28] at H
        have c28b0 := eq_true c28
        have c28b1 : decide (t214.size + 1 ≤ 9223372036854775807) = true := decide_eq_true c28
        try have c28b2 : (9223372036854775807 < t214.size + 1) = False := eq_false (Nat.not_lt.2 c28)
        replace H := Option.bind_eq_some_iff.mp H
        obtain ⟨⟨t215, t216, t217⟩, A290, H⟩ := H
        replace H : (if t217 = true then (if (a0.size : Int) ≤ a1 then (none) else (if t215.toList = ([] : List UInt8) then (if t216.toList = ([] : List UInt8) then (some true) else (none)) else (none))) else (if (a0.size : Int) ≤ a1 then (if t215.toList = a0.toList then (if t216.toList = ([120] : List UInt8) then (some true) else (none)) else (none)) else (none))) = some r := H
        have A29 := Aside0.mk A290
        clear A290
        by_cases c30 : t217 = true
        · subst c30
          have H1 : (if (a0.size : Int) ≤ a1 then (none) else (if t215.toList = ([] : List UInt8) then (if t216.toList = ([] : List UInt8) then (some true) else (none)) else (none))) = some r := by rw [if_pos rfl] at H; exact H
          clear H
          have H := H1
          clear H1
          by_cases c31 : (a0.size : Int) ≤ a1
          · rw [if_pos c31] at H
            exact absurd H (by simp)
          · rw [if_neg c31] at H
            have c31b0 : decide ((a0.size : Int) ≤ a1) = false := decide_eq_false c31
            clear c31
            by_cases c32 : t215.toList = ([] : List UInt8)
            · rw [if_pos c32] at H
              have c32b0 : (t215.toList == ([] : List UInt8)) = true := beq_iff_eq.mpr c32
              have c32b1 : (t215.toList != ([] : List UInt8)) = false := bne_eq_false_iff_eq.mpr c32
              clear c32
              by_cases c33 : t216.toList = ([] : List UInt8)
              · rw [if_pos c33] at H
                have c33b0 : (t216.toList == ([] : List UInt8)) = true := beq_iff_eq.mpr c33
                have c33b1 : (t216.toList != ([] : List UInt8)) = false := bne_eq_false_iff_eq.mpr c33
                clear c33
                obtain rfl := Option.some.inj H
                go_enter Try.func5, Try.ntmps5
                go_wp2_with (first | ((with_reducible refine gate_callee (f := 9) rfl ?_); refine goesL_ (some 11) rfl rfl Try.func9 (by kernel_rfl) rfl #[] rfl (by (try simp only [List.map_toArray, List.map_cons, List.map_nil]); first | done | rfl | (simp only [List.length_drop, List.length_take]; rfl)) ?_; (with_reducible refine (tenementlaw02_examples.calls k  true _ A4.out).mono ?_); rintro e w34 ⟨rfl, hb⟩; refine ⟨_, rfl, ?_⟩; have n0_ := Aside0.mk (below_step (by repeat (first | (with_reducible first | exact HB.out | apply below_alloc | apply pw_below_drewN | apply below_drew1) | exact HB.out)) hb); clear HB; have HB := n0_; clear n0_; (try clear hb); (try clear hb2); (try clear hk); (try clear hi)) | ((with_reducible refine gate_callee (f := 13) rfl ?_); refine goesL_ (some 19) rfl rfl Try.func13 (by kernel_rfl) rfl #[.string a0] rfl (by (try simp only [List.map_toArray, List.map_cons, List.map_nil]); first | done | rfl | (simp only [List.length_drop, List.length_take]; rfl)) ?_; (with_reducible refine (pack_Text.calls k a0 t214 _ A27.out).mono ?_); rintro e w35 ⟨rfl, hb⟩; refine ⟨_, rfl, ?_⟩; have n0_ := Aside0.mk (below_step (by repeat (first | (with_reducible first | exact HB.out | apply below_alloc | apply pw_below_drewN | apply below_drew1) | exact HB.out)) hb); clear HB; have HB := n0_; clear n0_; (try clear hb); (try clear hb2); (try clear hk); (try clear hi)) | ((with_reducible refine gate_callee (f := 14) rfl ?_); refine goesL_ (some 23) rfl rfl Try.func14 (by kernel_rfl) rfl #[.agg #[.string (t214 ++ (⟨#[120]⟩ : ByteArray)), .bool false], .int .i64 a1] rfl (by (try simp only [List.map_toArray, List.map_cons, List.map_nil]); first | done | rfl | (simp only [List.length_drop, List.length_take]; rfl)) ?_; (with_reducible refine (pack_Reader_Text.calls k (t214 ++ (⟨#[120]⟩ : ByteArray)) false a1 t215 t216 true _ A29.out).mono ?_); rintro e w36 ⟨rfl, hb⟩; refine ⟨_, rfl, ?_⟩; have n0_ := Aside0.mk (below_step (by repeat (first | (with_reducible first | exact HB.out | apply below_alloc | apply pw_below_drewN | apply below_drew1) | exact HB.out)) hb); clear HB; have HB := n0_; clear n0_; (try clear hb); (try clear hb2); (try clear hk); (try clear hi)) | ((with_reducible refine gate_dst (N := 9) rfl ?_); refine box_event ?hg (N := 9) ?hd (cs := #[.string (⟨#[]⟩ : ByteArray), .bool false]) (t := 35) ?hr ?_; (case hd => rfl); (case hg => rfl); (case hr => first | (go_simp; done) | (go_simp; rfl)); intro gb218 hg w37 hbox hb; have n0_ := Aside0.mk (below_step (by repeat (first | (with_reducible first | exact HB.out | apply below_alloc | apply pw_below_drewN | apply below_drew1) | exact HB.out)) hb); have n1_ := Aside0.mk (hbox); have n2_ := Aside0.mk ((by rw [hg]; exact (below_size (by repeat (first | (with_reducible first | exact HB.out | apply below_alloc | apply pw_below_drewN | apply below_drew1) | exact HB.out))) : w.heap.size ≤ gb218)); have n3_ := Aside0.mk ((by rw [hg]; exact (below_size (by repeat (first | (with_reducible first | exact HB.out | apply below_alloc | apply pw_below_drewN | apply below_drew1) | exact HB.out))) : w.heap.size ≤ gb218)); clear HB; have HB := n0_; have BK218 := n1_; have GW218 := n2_; have GE218 := n3_; clear n0_ n1_ n2_ n3_; clear hb hbox hg; have hcz38_0 : w37.cell? ⟨gb218, 0, none⟩ = some (.string (⟨#[]⟩ : ByteArray)) := (blk_cell BK218.out 0).trans rfl; have hcz38_1 : w37.cell? ⟨gb218, 1, none⟩ = some (.bool false) := (blk_cell BK218.out 1).trans rfl; have hfz38_0 := blk_frozen BK218.out 0; have hfz38_1 := blk_frozen BK218.out 1))
                go_ret
                exact ⟨by first | rfl | (simp [errW_none, errW_some] <;> rfl) | (simp [*, errW_none, errW_some] <;> rfl), by repeat (first | (with_reducible first | exact HB.out | apply below_alloc | apply pw_below_drewN | apply below_drew1 | refine below_set ?_ GE218.out) | exact HB.out)⟩
              · rw [if_neg c33] at H
                exact absurd H (by simp)
            · rw [if_neg c32] at H
              exact absurd H (by simp)
        · replace c30 := Bool.eq_false_iff.mpr c30
          subst c30
          have H1 : (if (a0.size : Int) ≤ a1 then (if t215.toList = a0.toList then (if t216.toList = ([120] : List UInt8) then (some true) else (none)) else (none)) else (none)) = some r := by rw [if_neg (show ¬ (false = true) by decide)] at H; exact H
          clear H
          have H := H1
          clear H1
          by_cases c39 : (a0.size : Int) ≤ a1
          · rw [if_pos c39] at H
            have c39b0 : decide ((a0.size : Int) ≤ a1) = true := decide_eq_true c39
            clear c39
            by_cases c40 : t215.toList = a0.toList
            · rw [if_pos c40] at H
              have c40b0 : (t215.toList == a0.toList) = true := beq_iff_eq.mpr c40
              have c40b1 : (t215.toList != a0.toList) = false := bne_eq_false_iff_eq.mpr c40
              clear c40
              by_cases c41 : t216.toList = ([120] : List UInt8)
              · rw [if_pos c41] at H
                have c41b0 : (t216.toList == ([120] : List UInt8)) = true := beq_iff_eq.mpr c41
                have c41b1 : (t216.toList != ([120] : List UInt8)) = false := bne_eq_false_iff_eq.mpr c41
                clear c41
                obtain rfl := Option.some.inj H
                go_enter Try.func5, Try.ntmps5
                go_wp2_with (first | ((with_reducible refine gate_callee (f := 9) rfl ?_); refine goesL_ (some 11) rfl rfl Try.func9 (by kernel_rfl) rfl #[] rfl (by (try simp only [List.map_toArray, List.map_cons, List.map_nil]); first | done | rfl | (simp only [List.length_drop, List.length_take]; rfl)) ?_; (with_reducible refine (tenementlaw02_examples.calls k  true _ A4.out).mono ?_); rintro e w42 ⟨rfl, hb⟩; refine ⟨_, rfl, ?_⟩; have n0_ := Aside0.mk (below_step (by repeat (first | (with_reducible first | exact HB.out | apply below_alloc | apply pw_below_drewN | apply below_drew1) | exact HB.out)) hb); clear HB; have HB := n0_; clear n0_; (try clear hb); (try clear hb2); (try clear hk); (try clear hi)) | ((with_reducible refine gate_callee (f := 13) rfl ?_); refine goesL_ (some 19) rfl rfl Try.func13 (by kernel_rfl) rfl #[.string a0] rfl (by (try simp only [List.map_toArray, List.map_cons, List.map_nil]); first | done | rfl | (simp only [List.length_drop, List.length_take]; rfl)) ?_; (with_reducible refine (pack_Text.calls k a0 t214 _ A27.out).mono ?_); rintro e w43 ⟨rfl, hb⟩; refine ⟨_, rfl, ?_⟩; have n0_ := Aside0.mk (below_step (by repeat (first | (with_reducible first | exact HB.out | apply below_alloc | apply pw_below_drewN | apply below_drew1) | exact HB.out)) hb); clear HB; have HB := n0_; clear n0_; (try clear hb); (try clear hb2); (try clear hk); (try clear hi)) | ((with_reducible refine gate_callee (f := 14) rfl ?_); refine goesL_ (some 23) rfl rfl Try.func14 (by kernel_rfl) rfl #[.agg #[.string (t214 ++ (⟨#[120]⟩ : ByteArray)), .bool false], .int .i64 a1] rfl (by (try simp only [List.map_toArray, List.map_cons, List.map_nil]); first | done | rfl | (simp only [List.length_drop, List.length_take]; rfl)) ?_; (with_reducible refine (pack_Reader_Text.calls k (t214 ++ (⟨#[120]⟩ : ByteArray)) false a1 t215 t216 false _ A29.out).mono ?_); rintro e w44 ⟨rfl, hb⟩; refine ⟨_, rfl, ?_⟩; have n0_ := Aside0.mk (below_step (by repeat (first | (with_reducible first | exact HB.out | apply below_alloc | apply pw_below_drewN | apply below_drew1) | exact HB.out)) hb); clear HB; have HB := n0_; clear n0_; (try clear hb); (try clear hb2); (try clear hk); (try clear hi)) | ((with_reducible refine gate_dst (N := 9) rfl ?_); refine box_event ?hg (N := 9) ?hd (cs := #[.string (⟨#[]⟩ : ByteArray), .bool false]) (t := 35) ?hr ?_; (case hd => rfl); (case hg => rfl); (case hr => first | (go_simp; done) | (go_simp; rfl)); intro gb218 hg w45 hbox hb; have n0_ := Aside0.mk (below_step (by repeat (first | (with_reducible first | exact HB.out | apply below_alloc | apply pw_below_drewN | apply below_drew1) | exact HB.out)) hb); have n1_ := Aside0.mk (hbox); have n2_ := Aside0.mk ((by rw [hg]; exact (below_size (by repeat (first | (with_reducible first | exact HB.out | apply below_alloc | apply pw_below_drewN | apply below_drew1) | exact HB.out))) : w.heap.size ≤ gb218)); have n3_ := Aside0.mk ((by rw [hg]; exact (below_size (by repeat (first | (with_reducible first | exact HB.out | apply below_alloc | apply pw_below_drewN | apply below_drew1) | exact HB.out))) : w.heap.size ≤ gb218)); clear HB; have HB := n0_; have BK218 := n1_; have GW218 := n2_; have GE218 := n3_; clear n0_ n1_ n2_ n3_; clear hb hbox hg; have hcz46_0 : w45.cell? ⟨gb218, 0, none⟩ = some (.string (⟨#[]⟩ : ByteArray)) := (blk_cell BK218.out 0).trans rfl; have hcz46_1 : w45.cell? ⟨gb218, 1, none⟩ = some (.bool false) := (blk_cell BK218.out 1).trans rfl; have hfz46_0 := blk_frozen BK218.out 0; have hfz46_1 := blk_frozen BK218.out 1))
                go_ret
                exact ⟨by first | rfl | (simp [errW_none, errW_some] <;> rfl) | (simp [*, errW_none, errW_some] <;> rfl), by repeat (first | (with_reducible first | exact HB.out | apply below_alloc | apply pw_below_drewN | apply below_drew1 | refine below_set ?_ GE218.out) | exact HB.out)⟩
              · rw [if_neg c41] at H
                exact absurd H (by simp)
            · rw [if_neg c40] at H
              exact absurd H (by simp)
          · rw [if_neg c39] at H
            exact absurd H (by simp)
      · rw [if_neg c28] at H
        exact absurd H (by simp)
  · replace c5 := Bool.eq_false_iff.mpr c5
    subst c5
    have H1 : (none) = some r := by rw [if_neg (show ¬ (false = true) by decide)] at H; exact H
    clear H
    have H := H1
    clear H1
    exact absurd H (by simp)

/-- THE ONE PURE STATEMENT of tenementlaw02_PackMost: yours. -/
def tenementlaw02_PackMost.Pure : Prop := ∀ (a0 : ByteArray) (a1 : Int) (a2 : Bool), a0.size ≤ 140737488351232 → (Lit.int .i64 a1).wf = true → ∃ k, tenementlaw02_PackMost.f k a0 a1 a2 = some true
theorem tenementlaw02_PackMost.walk (P : tenementlaw02_PackMost.Pure) (a0 : ByteArray) (a1 : Int) (a2 : Bool) (w : World) (w0 : a0.size ≤ 140737488351232) (w1 : (Lit.int .i64 a1).wf = true) :
    Calls Try.prog 5 #[.string a0, .int .i64 a1, .bool a2] w fun e w' => e = .returned (.bool true) ∧ Below w.heap.size w w' := by
  obtain ⟨k, h⟩ := P a0 a1 a2 w0 w1
  refine (tenementlaw02_PackMost.calls k a0 a1 a2 true w h).mono ?_
  rintro e w' ⟨rfl, hd⟩
  exact ⟨rfl, hd⟩

end Go.Proofs.Ytlpipngfpcpfbaa.Q
