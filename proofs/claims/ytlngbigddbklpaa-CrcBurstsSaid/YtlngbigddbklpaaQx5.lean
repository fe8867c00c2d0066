-- Written by this session's own driver (wip/hybrid.py) of the kit's printer; contracts marked FOREIGN are by hand.
import Derived.Test.YtlngbigddbklpaaQx0
import Derived.Test.YtlngbigddbklpaaQx2
import Derived.Test.YtlngbigddbklpaaQx3
import Derived.Test.YtlngbigddbklpaaQx4
namespace Go.Proofs.Ytlngbigddbklpaa.Q
open Go.RowKit Go.Proofs.YtlngbigddbklpaaW.PrintWords Go.Proofs.YtlngbigddbklpaaW.PrintLast Go.Proofs.YtlngbigddbklpaaW.PrintMore
attribute [local go_sem] max2_int min2_int max_two min_two max_three min_three max_four min_four   -- for this text's walks alone
set_option linter.unusedVariables false
set_option linter.unusedSimpArgs false

/-! ### tenementlaw01_examples: function 7 -/
def tenementlaw01_examples.f (k : Nat)  : Option (Bool) := (crc_Sum.f k (⟨#[49, 50, 51, 52, 53, 54, 55, 56, 57]⟩ : ByteArray)).bind fun t103 => (if t103 = 3421780262 then ((crc_Sum.f k (⟨#[]⟩ : ByteArray)).bind fun t104 => (if t104 = 0 then ((crc_Check.f k (⟨#[49, 50, 51, 52, 53, 54, 55, 56, 57]⟩ : ByteArray) 3421780262).bind fun t105 => (if t105 = true then ((crc_Check.f k (⟨#[120]⟩ : ByteArray) 0).bind fun t106 => (if t106 = true then (none) else ((crc_Sum.f k (⟨#[49, 50, 51, 52]⟩ : ByteArray)).bind fun t107 => ((crc_Sum.f k (⟨#[53, 54, 55, 56, 57]⟩ : ByteArray)).bind fun t108 => ((crc_Join.f k t107 t108 5).bind fun t109 => (if t109 = 3421780262 then ((crc_Join.f k 7 9 0).bind fun t110 => (if t110 = 7 then (some true) else (none))) else (none))))))) else (none))) else (none))) else (none))
theorem tenementlaw01_examples.mono : ∀ k, LeO (tenementlaw01_examples.f k ) (tenementlaw01_examples.f (k + 1) ) := by
  intro  k
  unfold tenementlaw01_examples.f
  repeat' first
      | (with_reducible exact crc_Check.mono _ _ _)
      | (with_reducible exact crc_Join.mono _ _ _ _)
      | (with_reducible exact crc_Sum.mono _ _)
      | (with_reducible exact LeO.refl _)
      | (with_reducible exact LeO.none _)
      | (with_reducible refine LeO.ite ?_ ?_)
      | (with_reducible refine LeO.bind ?_ (fun _ => ?_))
      | exact crc_Check.mono _ _ _
      | exact crc_Join.mono _ _ _ _
      | exact crc_Sum.mono _ _
      | exact LeO.none _
      | refine LeO.ite ?_ ?_
      | refine LeO.bind ?_ (fun _ => ?_)
set_option maxHeartbeats 8000000 in
set_option maxRecDepth 100000 in
theorem tenementlaw01_examples.calls (k : Nat)  (r : Bool) (w : World) (h : tenementlaw01_examples.f k  = some r) :
    Calls Try.prog 7 #[] w fun e w' => e = .returned (.bool r) ∧ Below w.heap.size w w' := by
  have HB := Aside0.mk (Below.refl w.heap.size w)
  have H : ((crc_Sum.f k (⟨#[49, 50, 51, 52, 53, 54, 55, 56, 57]⟩ : ByteArray)).bind fun t103 => (if t103 = 3421780262 then ((crc_Sum.f k (⟨#[]⟩ : ByteArray)).bind fun t104 => (if t104 = 0 then ((crc_Check.f k (⟨#[49, 50, 51, 52, 53, 54, 55, 56, 57]⟩ : ByteArray) 3421780262).bind fun t105 => (if t105 = true then ((crc_Check.f k (⟨#[120]⟩ : ByteArray) 0).bind fun t106 => (if t106 = true then (none) else ((crc_Sum.f k (⟨#[49, 50, 51, 52]⟩ : ByteArray)).bind fun t107 => ((crc_Sum.f k (⟨#[53, 54, 55, 56, 57]⟩ : ByteArray)).bind fun t108 => ((crc_Join.f k t107 t108 5).bind fun t109 => (if t109 = 3421780262 then ((crc_Join.f k 7 9 0).bind fun t110 => (if t110 = 7 then (some true) else (none))) else (none))))))) else (none))) else (none))) else (none))) = some r := h
  clear h
  replace H := Option.bind_eq_some_iff.mp H
  obtain ⟨t103, A10, H⟩ := H
  replace H : (if t103 = 3421780262 then ((crc_Sum.f k (⟨#[]⟩ : ByteArray)).bind fun t104 => (if t104 = 0 then ((crc_Check.f k (⟨#[49, 50, 51, 52, 53, 54, 55, 56, 57]⟩ : ByteArray) 3421780262).bind fun t105 => (if t105 = true then ((crc_Check.f k (⟨#[120]⟩ : ByteArray) 0).bind fun t106 => (if t106 = true then (none) else ((crc_Sum.f k (⟨#[49, 50, 51, 52]⟩ : ByteArray)).bind fun t107 => ((crc_Sum.f k (⟨#[53, 54, 55, 56, 57]⟩ : ByteArray)).bind fun t108 => ((crc_Join.f k t107 t108 5).bind fun t109 => (if t109 = 3421780262 then ((crc_Join.f k 7 9 0).bind fun t110 => (if t110 = 7 then (some true) else (none))) else (none))))))) else (none))) else (none))) else (none)) = some r := H
  have A1 := Aside0.mk A10
  clear A10
  by_cases c2 : t103 = 3421780262
  · rw [if_pos c2] at H
    have c2b0 : (t103 == 3421780262) = true := beq_iff_eq.mpr c2
    have c2b1 : (t103 != 3421780262) = false := bne_eq_false_iff_eq.mpr c2
    clear c2
    replace H := Option.bind_eq_some_iff.mp H
    obtain ⟨t104, A30, H⟩ := H
    replace H : (if t104 = 0 then ((crc_Check.f k (⟨#[49, 50, 51, 52, 53, 54, 55, 56, 57]⟩ : ByteArray) 3421780262).bind fun t105 => (if t105 = true then ((crc_Check.f k (⟨#[120]⟩ : ByteArray) 0).bind fun t106 => (if t106 = true then (none) else ((crc_Sum.f k (⟨#[49, 50, 51, 52]⟩ : ByteArray)).bind fun t107 => ((crc_Sum.f k (⟨#[53, 54, 55, 56, 57]⟩ : ByteArray)).bind fun t108 => ((crc_Join.f k t107 t108 5).bind fun t109 => (if t109 = 3421780262 then ((crc_Join.f k 7 9 0).bind fun t110 => (if t110 = 7 then (some true) else (none))) else (none))))))) else (none))) else (none)) = some r := H
    have A3 := Aside0.mk A30
    clear A30
    by_cases c4 : t104 = 0
    · rw [if_pos c4] at H
      have c4b0 : (t104 == 0) = true := beq_iff_eq.mpr c4
      have c4b1 : (t104 != 0) = false := bne_eq_false_iff_eq.mpr c4
      clear c4
      replace H := Option.bind_eq_some_iff.mp H
      obtain ⟨t105, A50, H⟩ := H
      replace H : (if t105 = true then ((crc_Check.f k (⟨#[120]⟩ : ByteArray) 0).bind fun t106 => (if t106 = true then (none) else ((crc_Sum.f k (⟨#[49, 50, 51, 52]⟩ : ByteArray)).bind fun t107 => ((crc_Sum.f k (⟨#[53, 54, 55, 56, 57]⟩ : ByteArray)).bind fun t108 => ((crc_Join.f k t107 t108 5).bind fun t109 => (if t109 = 3421780262 then ((crc_Join.f k 7 9 0).bind fun t110 => (if t110 = 7 then (some true) else (none))) else (none))))))) else (none)) = some r := H
      have A5 := Aside0.mk A50
      clear A50
      by_cases c6 : t105 = true
      · subst c6
        have H1 : ((crc_Check.f k (⟨#[120]⟩ : ByteArray) 0).bind fun t106 => (if t106 = true then (none) else ((crc_Sum.f k (⟨#[49, 50, 51, 52]⟩ : ByteArray)).bind fun t107 => ((crc_Sum.f k (⟨#[53, 54, 55, 56, 57]⟩ : ByteArray)).bind fun t108 => ((crc_Join.f k t107 t108 5).bind fun t109 => (if t109 = 3421780262 then ((crc_Join.f k 7 9 0).bind fun t110 => (if t110 = 7 then (some true) else (none))) else (none))))))) = some r := by rw [if_pos rfl] at H; exact H
        clear H
        have H := H1
        clear H1
        replace H := Option.bind_eq_some_iff.mp H
        obtain ⟨t106, A70, H⟩ := H
        replace H : (if t106 = true then (none) else ((crc_Sum.f k (⟨#[49, 50, 51, 52]⟩ : ByteArray)).bind fun t107 => ((crc_Sum.f k (⟨#[53, 54, 55, 56, 57]⟩ : ByteArray)).bind fun t108 => ((crc_Join.f k t107 t108 5).bind fun t109 => (if t109 = 3421780262 then ((crc_Join.f k 7 9 0).bind fun t110 => (if t110 = 7 then (some true) else (none))) else (none)))))) = some r := H
        have A7 := Aside0.mk A70
        clear A70
        by_cases c8 : t106 = true
        · subst c8
          have H1 : (none) = some r := by rw [if_pos rfl] at H; exact H
          clear H
          have H := H1
          clear H1
          exact absurd H (by simp)
        · replace c8 := Bool.eq_false_iff.mpr c8
          subst c8
          have H1 : ((crc_Sum.f k (⟨#[49, 50, 51, 52]⟩ : ByteArray)).bind fun t107 => ((crc_Sum.f k (⟨#[53, 54, 55, 56, 57]⟩ : ByteArray)).bind fun t108 => ((crc_Join.f k t107 t108 5).bind fun t109 => (if t109 = 3421780262 then ((crc_Join.f k 7 9 0).bind fun t110 => (if t110 = 7 then (some true) else (none))) else (none))))) = some r := by rw [if_neg (show ¬ (false = true) by decide)] at H; exact H
          clear H
          have H := H1
          clear H1
          replace H := Option.bind_eq_some_iff.mp H
          obtain ⟨t107, A90, H⟩ := H
          replace H : ((crc_Sum.f k (⟨#[53, 54, 55, 56, 57]⟩ : ByteArray)).bind fun t108 => ((crc_Join.f k t107 t108 5).bind fun t109 => (if t109 = 3421780262 then ((crc_Join.f k 7 9 0).bind fun t110 => (if t110 = 7 then (some true) else (none))) else (none)))) = some r := H
          have A9 := Aside0.mk A90
          clear A90
          replace H := Option.bind_eq_some_iff.mp H
          obtain ⟨t108, A100, H⟩ := H
          replace H : ((crc_Join.f k t107 t108 5).bind fun t109 => (if t109 = 3421780262 then ((crc_Join.f k 7 9 0).bind fun t110 => (if t110 = 7 then (some true) else (none))) else (none))) = some r := H
          have A10 := Aside0.mk A100
          clear A100
          replace H := Option.bind_eq_some_iff.mp H
          obtain ⟨t109, A110, H⟩ := H
          replace H : (if t109 = 3421780262 then ((crc_Join.f k 7 9 0).bind fun t110 => (if t110 = 7 then (some true) else (none))) else (none)) = some r := H
          have A11 := Aside0.mk A110
          clear A110
          by_cases c12 : t109 = 3421780262
          · rw [if_pos c12] at H
            have c12b0 : (t109 == 3421780262) = true := beq_iff_eq.mpr c12
            have c12b1 : (t109 != 3421780262) = false := bne_eq_false_iff_eq.mpr c12
            clear c12
            replace H := Option.bind_eq_some_iff.mp H
            obtain ⟨t110, A130, H⟩ := H
            replace H : (if t110 = 7 then (some true) else (none)) = some r := H
            have A13 := Aside0.mk A130
            clear A130
            by_cases c14 : t110 = 7
            · rw [if_pos c14] at H
              have c14b0 : (t110 == 7) = true := beq_iff_eq.mpr c14
              have c14b1 : (t110 != 7) = false := bne_eq_false_iff_eq.mpr c14
              clear c14
              obtain rfl := Option.some.inj H
              go_enter Try.func7, Try.ntmps7
              go_wp2_with (first | ((with_reducible refine gate_callee (f := 9) rfl ?_); refine goesL_ (some 1) rfl rfl Try.func9 (by kernel_rfl) rfl #[.string (⟨#[49, 50, 51, 52, 53, 54, 55, 56, 57]⟩ : ByteArray)] rfl (by (try simp only [List.map_toArray, List.map_cons, List.map_nil]); first | done | rfl | (simp only [List.length_drop, List.length_take]; rfl)) ?_; (with_reducible refine (crc_Sum.calls k (⟨#[49, 50, 51, 52, 53, 54, 55, 56, 57]⟩ : ByteArray) t103 _ A1.out).mono ?_); rintro e w15 ⟨rfl, hb⟩; refine ⟨_, rfl, ?_⟩; have n0_ := Aside0.mk (below_step (by repeat (first | (with_reducible first | exact HB.out | apply below_alloc | apply pw_below_drewN | apply below_drew1) | exact HB.out)) hb); clear HB; have HB := n0_; clear n0_; (try clear hb); (try clear hb2); (try clear hk); (try clear hi)) | (go_at_call 9; (with_reducible refine (crc_Sum.calls k (⟨#[]⟩ : ByteArray) t104 _ A3.out).mono ?_); rintro e w16 ⟨rfl, hb⟩; have n0_ := Aside0.mk (below_step (by repeat (first | (with_reducible first | exact HB.out | apply below_alloc | apply pw_below_drewN | apply below_drew1) | exact HB.out)) hb); clear HB; have HB := n0_; clear n0_; (try clear hb); (try clear hb2); (try clear hk); (try clear hi)) | (go_at_call 10; (with_reducible refine (crc_Check.calls k (⟨#[49, 50, 51, 52, 53, 54, 55, 56, 57]⟩ : ByteArray) 3421780262 true _ A5.out).mono ?_); rintro e w17 ⟨rfl, hb⟩; have n0_ := Aside0.mk (below_step (by repeat (first | (with_reducible first | exact HB.out | apply below_alloc | apply pw_below_drewN | apply below_drew1) | exact HB.out)) hb); clear HB; have HB := n0_; clear n0_; (try clear hb); (try clear hb2); (try clear hk); (try clear hi)) | (go_at_call 10; (with_reducible refine (crc_Check.calls k (⟨#[120]⟩ : ByteArray) 0 false _ A7.out).mono ?_); rintro e w18 ⟨rfl, hb⟩; have n0_ := Aside0.mk (below_step (by repeat (first | (with_reducible first | exact HB.out | apply below_alloc | apply pw_below_drewN | apply below_drew1) | exact HB.out)) hb); clear HB; have HB := n0_; clear n0_; (try clear hb); (try clear hb2); (try clear hk); (try clear hi)) | (go_at_call 9; (with_reducible refine (crc_Sum.calls k (⟨#[49, 50, 51, 52]⟩ : ByteArray) t107 _ A9.out).mono ?_); rintro e w19 ⟨rfl, hb⟩; have n0_ := Aside0.mk (below_step (by repeat (first | (with_reducible first | exact HB.out | apply below_alloc | apply pw_below_drewN | apply below_drew1) | exact HB.out)) hb); clear HB; have HB := n0_; clear n0_; (try clear hb); (try clear hb2); (try clear hk); (try clear hi)) | (go_at_call 9; (with_reducible refine (crc_Sum.calls k (⟨#[53, 54, 55, 56, 57]⟩ : ByteArray) t108 _ A10.out).mono ?_); rintro e w20 ⟨rfl, hb⟩; have n0_ := Aside0.mk (below_step (by repeat (first | (with_reducible first | exact HB.out | apply below_alloc | apply pw_below_drewN | apply below_drew1) | exact HB.out)) hb); clear HB; have HB := n0_; clear n0_; (try clear hb); (try clear hb2); (try clear hk); (try clear hi)) | (go_at_call 11; (with_reducible refine (crc_Join.calls k t107 t108 5 t109 _ A11.out).mono ?_); rintro e w21 ⟨rfl, hb⟩; have n0_ := Aside0.mk (below_step (by repeat (first | (with_reducible first | exact HB.out | apply below_alloc | apply pw_below_drewN | apply below_drew1) | exact HB.out)) hb); clear HB; have HB := n0_; clear n0_; (try clear hb); (try clear hb2); (try clear hk); (try clear hi)) | (go_at_call 11; (with_reducible refine (crc_Join.calls k 7 9 0 t110 _ A13.out).mono ?_); rintro e w22 ⟨rfl, hb⟩; have n0_ := Aside0.mk (below_step (by repeat (first | (with_reducible first | exact HB.out | apply below_alloc | apply pw_below_drewN | apply below_drew1) | exact HB.out)) hb); clear HB; have HB := n0_; clear n0_; (try clear hb); (try clear hb2); (try clear hk); (try clear hi)))
              go_ret
              exact ⟨by first | rfl | (simp [errW_none, errW_some] <;> rfl) | (simp [*, errW_none, errW_some] <;> rfl), by repeat (first | (with_reducible first | exact HB.out | apply below_alloc | apply pw_below_drewN | apply below_drew1) | exact HB.out)⟩
            · rw [if_neg c14] at H
              exact absurd H (by simp)
          · rw [if_neg c12] at H
            exact absurd H (by simp)
      · replace c6 := Bool.eq_false_iff.mpr c6
        subst c6
        have H1 : (none) = some r := by rw [if_neg (show ¬ (false = true) by decide)] at H; exact H
        clear H
        have H := H1
        clear H1
        exact absurd H (by simp)
    · rw [if_neg c4] at H
      exact absurd H (by simp)
  · rw [if_neg c2] at H
    exact absurd H (by simp)

end Go.Proofs.Ytlngbigddbklpaa.Q
