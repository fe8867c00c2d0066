-- Written by this session's own driver (wip/hybrid.py) of the kit's printer; contracts marked FOREIGN are by hand.
import Derived.Test.YtlngbigddbklpaaQx0
import Derived.Test.YtlngbigddbklpaaQx2
import Derived.Test.YtlngbigddbklpaaQx3
import Derived.Test.YtlngbigddbklpaaQx4
import Derived.Test.YtlngbigddbklpaaQx5
import Derived.Test.YtlngbigddbklpaaQx7
import Derived.Test.YtlngbigddbklpaaQx8
namespace Go.Proofs.Ytlngbigddbklpaa.Q
open Go.RowKit Go.Proofs.YtlngbigddbklpaaW.PrintWords Go.Proofs.YtlngbigddbklpaaW.PrintLast Go.Proofs.YtlngbigddbklpaaW.PrintMore
attribute [local go_sem] max2_int min2_int max_two min_two max_three min_three max_four min_four   -- for this text's walks alone
set_option linter.unusedVariables false
set_option linter.unusedSimpArgs false

/-! ### tenementlaw01_CrcSums: function 3 -/
def tenementlaw01_CrcSums.j0 : Nat → ByteArray → Int → Int → Int → Int → Bool → Option (Bool)
  | 0, _, _, _, _, _, _ => none
  | k + 1, x0, x1, x2, x3, x4, x13 => (tenementref01_Sum.f k x0).bind fun t114 => (if x13 = true then ((crc_Sum.f k x0).bind fun t115 => (if t115 = t114 then ((crc_Check.f k x0 x1).bind fun t116 => (if t116 = true then (if x1 = t114 then ((crc_Check.f k x0 t114).bind fun t117 => (if t117 = true then ((crc_Join.f k x2 x3 x4).bind fun t118 => ((tenementref01_Join.f k x2 x3 x4).bind fun t119 => (if t118 = t119 then (some true) else (none)))) else (none))) else (none)) else (if x1 = t114 then (none) else ((crc_Check.f k x0 t114).bind fun t120 => (if t120 = true then ((crc_Join.f k x2 x3 x4).bind fun t121 => ((tenementref01_Join.f k x2 x3 x4).bind fun t122 => (if t121 = t122 then (some true) else (none)))) else (none)))))) else (none))) else (none))
def tenementlaw01_CrcSums.f (k : Nat) (a0 : ByteArray) (a1 : Int) (a2 : Int) (a3 : Int) (a4 : Int) (a5 : Bool) : Option (Bool) := (tenementlaw01_examples.f k).bind fun t113 => (if t113 = true then (if a5 = true then (tenementlaw01_CrcSums.j0 k a0 a1 a2 a3 (Int.tmod a4 64) t113) else (tenementlaw01_CrcSums.j0 k a0 a1 a2 a3 a4 t113)) else (none))
theorem tenementlaw01_CrcSums.mono_l : ∀ k, (∀ y0 y1 y2 y3 y4 y5, LeO (tenementlaw01_CrcSums.j0 k y0 y1 y2 y3 y4 y5) (tenementlaw01_CrcSums.j0 (k + 1) y0 y1 y2 y3 y4 y5))
  | 0 => fun _ _ _ _ _ _ r h => by simp [tenementlaw01_CrcSums.j0] at h
  | k + 1 => by
    have ih0 := tenementlaw01_CrcSums.mono_l k
    · intro y0 y1 y2 y3 y4 y5
      unfold tenementlaw01_CrcSums.j0
      repeat' first
      | (with_reducible exact ih0 _ _ _ _ _ _)
      | (with_reducible exact crc_Check.mono _ _ _)
      | (with_reducible exact crc_Join.mono _ _ _ _)
      | (with_reducible exact crc_Sum.mono _ _)
      | (with_reducible exact tenementlaw01_examples.mono _)
      | (with_reducible exact tenementref01_Join.mono _ _ _ _)
      | (with_reducible exact tenementref01_Sum.mono _ _)
      | (with_reducible exact LeO.refl _)
      | (with_reducible exact LeO.none _)
      | (with_reducible refine LeO.ite ?_ ?_)
      | (with_reducible refine LeO.bind ?_ (fun _ => ?_))
      | exact ih0 _ _ _ _ _ _
      | exact crc_Check.mono _ _ _
      | exact crc_Join.mono _ _ _ _
      | exact crc_Sum.mono _ _
      | exact tenementlaw01_examples.mono _
      | exact tenementref01_Join.mono _ _ _ _
      | exact tenementref01_Sum.mono _ _
      | exact LeO.none _
      | refine LeO.ite ?_ ?_
      | refine LeO.bind ?_ (fun _ => ?_)
theorem tenementlaw01_CrcSums.mono : ∀ a0 a1 a2 a3 a4 a5 k, LeO (tenementlaw01_CrcSums.f k a0 a1 a2 a3 a4 a5) (tenementlaw01_CrcSums.f (k + 1) a0 a1 a2 a3 a4 a5) := by
  intro a0 a1 a2 a3 a4 a5 k
  have ih0 := tenementlaw01_CrcSums.mono_l k
  unfold tenementlaw01_CrcSums.f
  repeat' first
      | (with_reducible exact ih0 _ _ _ _ _ _)
      | (with_reducible exact crc_Check.mono _ _ _)
      | (with_reducible exact crc_Join.mono _ _ _ _)
      | (with_reducible exact crc_Sum.mono _ _)
      | (with_reducible exact tenementlaw01_examples.mono _)
      | (with_reducible exact tenementref01_Join.mono _ _ _ _)
      | (with_reducible exact tenementref01_Sum.mono _ _)
      | (with_reducible exact LeO.refl _)
      | (with_reducible exact LeO.none _)
      | (with_reducible refine LeO.ite ?_ ?_)
      | (with_reducible refine LeO.bind ?_ (fun _ => ?_))
      | exact ih0 _ _ _ _ _ _
      | exact crc_Check.mono _ _ _
      | exact crc_Join.mono _ _ _ _
      | exact crc_Sum.mono _ _
      | exact tenementlaw01_examples.mono _
      | exact tenementref01_Join.mono _ _ _ _
      | exact tenementref01_Sum.mono _ _
      | exact LeO.none _
      | refine LeO.ite ?_ ?_
      | refine LeO.bind ?_ (fun _ => ?_)
set_option maxHeartbeats 8000000 in
set_option maxRecDepth 100000 in
theorem tenementlaw01_CrcSums.calls (k : Nat) (a0 : ByteArray) (a1 : Int) (a2 : Int) (a3 : Int) (a4 : Int) (a5 : Bool) (r : Bool) (w : World) (h : tenementlaw01_CrcSums.f k a0 a1 a2 a3 a4 a5 = some r) :
    Calls Try.prog 3 #[.string a0, .int .u32 a1, .int .u32 a2, .int .u32 a3, .int .i64 a4, .bool a5] w fun e w' => e = .returned (.bool r) ∧ Below w.heap.size w w' := by
  have HB := Aside0.mk (Below.refl w.heap.size w)
  have H : ((tenementlaw01_examples.f k).bind fun t113 => (if t113 = true then (if a5 = true then (tenementlaw01_CrcSums.j0 k a0 a1 a2 a3 (Int.tmod a4 64) t113) else (tenementlaw01_CrcSums.j0 k a0 a1 a2 a3 a4 t113)) else (none))) = some r := h
  clear h
  replace H := Option.bind_eq_some_iff.mp H
  obtain ⟨t113, A70, H⟩ := H
  replace H : (if t113 = true then (if a5 = true then (tenementlaw01_CrcSums.j0 k a0 a1 a2 a3 (Int.tmod a4 64) t113) else (tenementlaw01_CrcSums.j0 k a0 a1 a2 a3 a4 t113)) else (none)) = some r := H
  have A7 := Aside0.mk A70
  clear A70
  by_cases c8 : t113 = true
  · subst c8
    have H1 : (if a5 = true then (tenementlaw01_CrcSums.j0 k a0 a1 a2 a3 (Int.tmod a4 64) true) else (tenementlaw01_CrcSums.j0 k a0 a1 a2 a3 a4 true)) = some r := by rw [if_pos rfl] at H; exact H
    clear H
    have H := H1
    clear H1
    have HC9 := Aside0.mk H
    clear H
    go_enter Try.func3, Try.ntmps3
    go_upto_if 18 with (first | ((with_reducible refine gate_callee (f := 7) rfl ?_); refine goesL_ (some 15) rfl rfl Try.func7 (by kernel_rfl) rfl #[] rfl (by (try simp only [List.map_toArray, List.map_cons, List.map_nil]); first | done | rfl | (simp only [List.length_drop, List.length_take]; rfl)) ?_; (with_reducible refine (tenementlaw01_examples.calls k  true _ A7.out).mono ?_); rintro e w10 ⟨rfl, hb⟩; refine ⟨_, rfl, ?_⟩; have n0_ := Aside0.mk (below_step (by repeat (first | (with_reducible first | exact HB.out | apply below_alloc | apply pw_below_drewN | apply below_drew1) | exact HB.out)) hb); clear HB; have HB := n0_; clear n0_; (try clear hb); (try clear hb2); (try clear hk); (try clear hi)))
    (try simp only [Act.put, List.setIfInBounds_toArray, List.set_cons_zero, List.set_cons_succ])
    go_cut [4] (fun v4 wc => ∃ (kq : Nat) (x4_8 : Int), v4 = .int .i64 x4_8 ∧ Aside0 (tenementlaw01_CrcSums.j0 kq a0 a1 a2 a3 x4_8 true = some r) ∧ Aside0 (kq ≤ k) ∧ Aside0 (Below w.heap.size w wc))
    case first =>
      have H := HC9.out
      clear HC9
      by_cases c11 : a5 = true
      · subst c11
        have H1 : (tenementlaw01_CrcSums.j0 k a0 a1 a2 a3 (Int.tmod a4 64) true) = some r := by rw [if_pos rfl] at H; exact H
        clear H
        have H := H1
        clear H1
        have H' := Aside0.mk H
        clear H
        go_wp2
        go_meet
        case rel => exact ⟨_, (Int.tmod a4 64), (by first | rfl | (simp; done) | (simp [*]; done)), H', ⟨by first | omega | exact Nat.le_refl _⟩, ⟨by repeat (first | (with_reducible first | exact HB.out | apply below_alloc | apply pw_below_drewN | apply below_drew1) | exact HB.out)⟩⟩
      · replace c11 := Bool.eq_false_iff.mpr c11
        subst c11
        have H1 : (tenementlaw01_CrcSums.j0 k a0 a1 a2 a3 a4 true) = some r := by rw [if_neg (show ¬ (false = true) by decide)] at H; exact H
        clear H
        have H := H1
        clear H1
        have H' := Aside0.mk H
        clear H
        go_wp2
        go_meet
        case rel => exact ⟨_, (a4), (by first | rfl | (simp; done) | (simp [*]; done)), H', ⟨by first | omega | exact Nat.le_refl _⟩, ⟨by repeat (first | (with_reducible first | exact HB.out | apply below_alloc | apply pw_below_drewN | apply below_drew1) | exact HB.out)⟩⟩
    case rest =>
      clear HC9
      try clear c1
      try clear p2
      try clear c3
      try clear c7
      try clear c8
      try clear c11
      obtain ⟨kq, x4_8, rfl, HA, HJ8, HB⟩ := hcut
      cases kq with
      | zero => exact absurd HA.out (by simp [tenementlaw01_CrcSums.j0])
      | succ kj8 =>
        have H := HA.out
        clear HA
        simp only [tenementlaw01_CrcSums.j0] at H
        replace H := Option.bind_eq_some_iff.mp H
        obtain ⟨t114, A120, H⟩ := H
        replace H : (if true = true then ((crc_Sum.f kj8 a0).bind fun t115 => (if t115 = t114 then ((crc_Check.f kj8 a0 a1).bind fun t116 => (if t116 = true then (if a1 = t114 then ((crc_Check.f kj8 a0 t114).bind fun t117 => (if t117 = true then ((crc_Join.f kj8 a2 a3 x4_8).bind fun t118 => ((tenementref01_Join.f kj8 a2 a3 x4_8).bind fun t119 => (if t118 = t119 then (some true) else (none)))) else (none))) else (none)) else (if a1 = t114 then (none) else ((crc_Check.f kj8 a0 t114).bind fun t120 => (if t120 = true then ((crc_Join.f kj8 a2 a3 x4_8).bind fun t121 => ((tenementref01_Join.f kj8 a2 a3 x4_8).bind fun t122 => (if t121 = t122 then (some true) else (none)))) else (none)))))) else (none))) else (none)) = some r := H
        have A12 := Aside0.mk A120
        clear A120
        replace H : ((crc_Sum.f kj8 a0).bind fun t115 => (if t115 = t114 then ((crc_Check.f kj8 a0 a1).bind fun t116 => (if t116 = true then (if a1 = t114 then ((crc_Check.f kj8 a0 t114).bind fun t117 => (if t117 = true then ((crc_Join.f kj8 a2 a3 x4_8).bind fun t118 => ((tenementref01_Join.f kj8 a2 a3 x4_8).bind fun t119 => (if t118 = t119 then (some true) else (none)))) else (none))) else (none)) else (if a1 = t114 then (none) else ((crc_Check.f kj8 a0 t114).bind fun t120 => (if t120 = true then ((crc_Join.f kj8 a2 a3 x4_8).bind fun t121 => ((tenementref01_Join.f kj8 a2 a3 x4_8).bind fun t122 => (if t121 = t122 then (some true) else (none)))) else (none)))))) else (none))) = some r := by rw [if_pos rfl] at H; exact H
        replace H := Option.bind_eq_some_iff.mp H
        obtain ⟨t115, A130, H⟩ := H
        replace H : (if t115 = t114 then ((crc_Check.f kj8 a0 a1).bind fun t116 => (if t116 = true then (if a1 = t114 then ((crc_Check.f kj8 a0 t114).bind fun t117 => (if t117 = true then ((crc_Join.f kj8 a2 a3 x4_8).bind fun t118 => ((tenementref01_Join.f kj8 a2 a3 x4_8).bind fun t119 => (if t118 = t119 then (some true) else (none)))) else (none))) else (none)) else (if a1 = t114 then (none) else ((crc_Check.f kj8 a0 t114).bind fun t120 => (if t120 = true then ((crc_Join.f kj8 a2 a3 x4_8).bind fun t121 => ((tenementref01_Join.f kj8 a2 a3 x4_8).bind fun t122 => (if t121 = t122 then (some true) else (none)))) else (none)))))) else (none)) = some r := H
        have A13 := Aside0.mk A130
        clear A130
        by_cases c14 : t115 = t114
        · rw [if_pos c14] at H
          have c14b0 : (t115 == t114) = true := beq_iff_eq.mpr c14
          have c14b1 : (t115 != t114) = false := bne_eq_false_iff_eq.mpr c14
          clear c14
          replace H := Option.bind_eq_some_iff.mp H
          obtain ⟨t116, A150, H⟩ := H
          replace H : (if t116 = true then (if a1 = t114 then ((crc_Check.f kj8 a0 t114).bind fun t117 => (if t117 = true then ((crc_Join.f kj8 a2 a3 x4_8).bind fun t118 => ((tenementref01_Join.f kj8 a2 a3 x4_8).bind fun t119 => (if t118 = t119 then (some true) else (none)))) else (none))) else (none)) else (if a1 = t114 then (none) else ((crc_Check.f kj8 a0 t114).bind fun t120 => (if t120 = true then ((crc_Join.f kj8 a2 a3 x4_8).bind fun t121 => ((tenementref01_Join.f kj8 a2 a3 x4_8).bind fun t122 => (if t121 = t122 then (some true) else (none)))) else (none))))) = some r := H
          have A15 := Aside0.mk A150
          clear A150
          by_cases c16 : t116 = true
          · subst c16
            have H1 : (if a1 = t114 then ((crc_Check.f kj8 a0 t114).bind fun t117 => (if t117 = true then ((crc_Join.f kj8 a2 a3 x4_8).bind fun t118 => ((tenementref01_Join.f kj8 a2 a3 x4_8).bind fun t119 => (if t118 = t119 then (some true) else (none)))) else (none))) else (none)) = some r := by rw [if_pos rfl] at H; exact H
            clear H
            have H := H1
            clear H1
            by_cases c17 : a1 = t114
            · rw [if_pos c17] at H
              have c17b0 : (a1 == t114) = true := beq_iff_eq.mpr c17
              have c17b1 : (a1 != t114) = false := bne_eq_false_iff_eq.mpr c17
              clear c17
              replace H := Option.bind_eq_some_iff.mp H
              obtain ⟨t117, A180, H⟩ := H
              replace H : (if t117 = true then ((crc_Join.f kj8 a2 a3 x4_8).bind fun t118 => ((tenementref01_Join.f kj8 a2 a3 x4_8).bind fun t119 => (if t118 = t119 then (some true) else (none)))) else (none)) = some r := H
              have A18 := Aside0.mk A180
              clear A180
              by_cases c19 : t117 = true
              · subst c19
                have H1 : ((crc_Join.f kj8 a2 a3 x4_8).bind fun t118 => ((tenementref01_Join.f kj8 a2 a3 x4_8).bind fun t119 => (if t118 = t119 then (some true) else (none)))) = some r := by rw [if_pos rfl] at H; exact H
                clear H
                have H := H1
                clear H1
                replace H := Option.bind_eq_some_iff.mp H
                obtain ⟨t118, A200, H⟩ := H
                replace H : ((tenementref01_Join.f kj8 a2 a3 x4_8).bind fun t119 => (if t118 = t119 then (some true) else (none))) = some r := H
                have A20 := Aside0.mk A200
                clear A200
                replace H := Option.bind_eq_some_iff.mp H
                obtain ⟨t119, A210, H⟩ := H
                replace H : (if t118 = t119 then (some true) else (none)) = some r := H
                have A21 := Aside0.mk A210
                clear A210
                by_cases c22 : t118 = t119
                · rw [if_pos c22] at H
                  have c22b0 : (t118 == t119) = true := beq_iff_eq.mpr c22
                  have c22b1 : (t118 != t119) = false := bne_eq_false_iff_eq.mpr c22
                  clear c22
                  obtain rfl := Option.some.inj H
                  go_wp2_with (first | ((with_reducible refine gate_callee (f := 8) rfl ?_); refine goesL_ (some 22) rfl rfl Try.func8 (by kernel_rfl) rfl #[.string a0] rfl (by (try simp only [List.map_toArray, List.map_cons, List.map_nil]); first | done | rfl | (simp only [List.length_drop, List.length_take]; rfl)) ?_; (with_reducible refine (tenementref01_Sum.calls kj8 a0 t114 _ A12.out).mono ?_); rintro e w' ⟨rfl, ⟨nd, rfl⟩⟩; refine ⟨_, rfl, ?_⟩) | (go_at_call 9; (with_reducible refine (crc_Sum.calls kj8 a0 t115 _ A13.out).mono ?_); rintro e w23 ⟨rfl, hb⟩; have n0_ := Aside0.mk (below_step (by repeat (first | (with_reducible first | exact HB.out | apply below_alloc | apply pw_below_drewN | apply below_drew1) | exact HB.out)) hb); clear HB; have HB := n0_; clear n0_; (try clear hb); (try clear hb2); (try clear hk); (try clear hi)) | (go_at_call 10; (with_reducible refine (crc_Check.calls kj8 a0 a1 true _ A15.out).mono ?_); rintro e w24 ⟨rfl, hb⟩; have n0_ := Aside0.mk (below_step (by repeat (first | (with_reducible first | exact HB.out | apply below_alloc | apply pw_below_drewN | apply below_drew1) | exact HB.out)) hb); clear HB; have HB := n0_; clear n0_; (try clear hb); (try clear hb2); (try clear hk); (try clear hi)) | (go_at_call 10; (with_reducible refine (crc_Check.calls kj8 a0 t114 true _ A18.out).mono ?_); rintro e w25 ⟨rfl, hb⟩; have n0_ := Aside0.mk (below_step (by repeat (first | (with_reducible first | exact HB.out | apply below_alloc | apply pw_below_drewN | apply below_drew1) | exact HB.out)) hb); clear HB; have HB := n0_; clear n0_; (try clear hb); (try clear hb2); (try clear hk); (try clear hi)) | (go_at_call 11; (with_reducible refine (crc_Join.calls kj8 a2 a3 x4_8 t118 _ A20.out).mono ?_); rintro e w26 ⟨rfl, hb⟩; have n0_ := Aside0.mk (below_step (by repeat (first | (with_reducible first | exact HB.out | apply below_alloc | apply pw_below_drewN | apply below_drew1) | exact HB.out)) hb); clear HB; have HB := n0_; clear n0_; (try clear hb); (try clear hb2); (try clear hk); (try clear hi)) | (go_at_call 12; (with_reducible refine (tenementref01_Join.calls kj8 a2 a3 x4_8 t119 _ A21.out).mono ?_); rintro e w' ⟨rfl, ⟨nd, rfl⟩⟩))
                  go_ret
                  exact ⟨by first | rfl | (simp [errW_none, errW_some] <;> rfl) | (simp [*, errW_none, errW_some] <;> rfl), by repeat (first | (with_reducible first | exact HB.out | apply below_alloc | apply pw_below_drewN | apply below_drew1) | exact HB.out)⟩
                · rw [if_neg c22] at H
                  exact absurd H (by simp)
              · replace c19 := Bool.eq_false_iff.mpr c19
                subst c19
                have H1 : (none) = some r := by rw [if_neg (show ¬ (false = true) by decide)] at H; exact H
                clear H
                have H := H1
                clear H1
                exact absurd H (by simp)
            · rw [if_neg c17] at H
              exact absurd H (by simp)
          · replace c16 := Bool.eq_false_iff.mpr c16
            subst c16
            have H1 : (if a1 = t114 then (none) else ((crc_Check.f kj8 a0 t114).bind fun t120 => (if t120 = true then ((crc_Join.f kj8 a2 a3 x4_8).bind fun t121 => ((tenementref01_Join.f kj8 a2 a3 x4_8).bind fun t122 => (if t121 = t122 then (some true) else (none)))) else (none)))) = some r := by rw [if_neg (show ¬ (false = true) by decide)] at H; exact H
            clear H
            have H := H1
            clear H1
            by_cases c27 : a1 = t114
            · rw [if_pos c27] at H
              exact absurd H (by simp)
            · rw [if_neg c27] at H
              have c27b0 : (a1 == t114) = false := beq_eq_false_iff_ne.mpr c27
              have c27b1 : (a1 != t114) = true := bne_iff_ne.mpr c27
              replace H := Option.bind_eq_some_iff.mp H
              obtain ⟨t120, A280, H⟩ := H
              replace H : (if t120 = true then ((crc_Join.f kj8 a2 a3 x4_8).bind fun t121 => ((tenementref01_Join.f kj8 a2 a3 x4_8).bind fun t122 => (if t121 = t122 then (some true) else (none)))) else (none)) = some r := H
              have A28 := Aside0.mk A280
              clear A280
              by_cases c29 : t120 = true
              · subst c29
                have H1 : ((crc_Join.f kj8 a2 a3 x4_8).bind fun t121 => ((tenementref01_Join.f kj8 a2 a3 x4_8).bind fun t122 => (if t121 = t122 then (some true) else (none)))) = some r := by rw [if_pos rfl] at H; exact H
                clear H
                have H := H1
                clear H1
                replace H := Option.bind_eq_some_iff.mp H
                obtain ⟨t121, A300, H⟩ := H
                replace H : ((tenementref01_Join.f kj8 a2 a3 x4_8).bind fun t122 => (if t121 = t122 then (some true) else (none))) = some r := H
                have A30 := Aside0.mk A300
                clear A300
                replace H := Option.bind_eq_some_iff.mp H
                obtain ⟨t122, A310, H⟩ := H
                replace H : (if t121 = t122 then (some true) else (none)) = some r := H
                have A31 := Aside0.mk A310
                clear A310
                by_cases c32 : t121 = t122
                · rw [if_pos c32] at H
                  have c32b0 : (t121 == t122) = true := beq_iff_eq.mpr c32
                  have c32b1 : (t121 != t122) = false := bne_eq_false_iff_eq.mpr c32
                  clear c32
                  obtain rfl := Option.some.inj H
                  go_wp2_with (first | ((with_reducible refine gate_callee (f := 8) rfl ?_); refine goesL_ (some 22) rfl rfl Try.func8 (by kernel_rfl) rfl #[.string a0] rfl (by (try simp only [List.map_toArray, List.map_cons, List.map_nil]); first | done | rfl | (simp only [List.length_drop, List.length_take]; rfl)) ?_; (with_reducible refine (tenementref01_Sum.calls kj8 a0 t114 _ A12.out).mono ?_); rintro e w' ⟨rfl, ⟨nd, rfl⟩⟩; refine ⟨_, rfl, ?_⟩) | (go_at_call 9; (with_reducible refine (crc_Sum.calls kj8 a0 t115 _ A13.out).mono ?_); rintro e w33 ⟨rfl, hb⟩; have n0_ := Aside0.mk (below_step (by repeat (first | (with_reducible first | exact HB.out | apply below_alloc | apply pw_below_drewN | apply below_drew1) | exact HB.out)) hb); clear HB; have HB := n0_; clear n0_; (try clear hb); (try clear hb2); (try clear hk); (try clear hi)) | (go_at_call 10; (with_reducible refine (crc_Check.calls kj8 a0 a1 false _ A15.out).mono ?_); rintro e w34 ⟨rfl, hb⟩; have n0_ := Aside0.mk (below_step (by repeat (first | (with_reducible first | exact HB.out | apply below_alloc | apply pw_below_drewN | apply below_drew1) | exact HB.out)) hb); clear HB; have HB := n0_; clear n0_; (try clear hb); (try clear hb2); (try clear hk); (try clear hi)) | (go_at_call 10; (with_reducible refine (crc_Check.calls kj8 a0 t114 true _ A28.out).mono ?_); rintro e w35 ⟨rfl, hb⟩; have n0_ := Aside0.mk (below_step (by repeat (first | (with_reducible first | exact HB.out | apply below_alloc | apply pw_below_drewN | apply below_drew1) | exact HB.out)) hb); clear HB; have HB := n0_; clear n0_; (try clear hb); (try clear hb2); (try clear hk); (try clear hi)) | (go_at_call 11; (with_reducible refine (crc_Join.calls kj8 a2 a3 x4_8 t121 _ A30.out).mono ?_); rintro e w36 ⟨rfl, hb⟩; have n0_ := Aside0.mk (below_step (by repeat (first | (with_reducible first | exact HB.out | apply below_alloc | apply pw_below_drewN | apply below_drew1) | exact HB.out)) hb); clear HB; have HB := n0_; clear n0_; (try clear hb); (try clear hb2); (try clear hk); (try clear hi)) | (go_at_call 12; (with_reducible refine (tenementref01_Join.calls kj8 a2 a3 x4_8 t122 _ A31.out).mono ?_); rintro e w' ⟨rfl, ⟨nd, rfl⟩⟩))
                  go_ret
                  exact ⟨by first | rfl | (simp [errW_none, errW_some] <;> rfl) | (simp [*, errW_none, errW_some] <;> rfl), by repeat (first | (with_reducible first | exact HB.out | apply below_alloc | apply pw_below_drewN | apply below_drew1) | exact HB.out)⟩
                · rw [if_neg c32] at H
                  exact absurd H (by simp)
              · replace c29 := Bool.eq_false_iff.mpr c29
                subst c29
                have H1 : (none) = some r := by rw [if_neg (show ¬ (false = true) by decide)] at H; exact H
                clear H
                have H := H1
                clear H1
                exact absurd H (by simp)
        · rw [if_neg c14] at H
          exact absurd H (by simp)
  · replace c8 := Bool.eq_false_iff.mpr c8
    subst c8
    have H1 : (none) = some r := by rw [if_neg (show ¬ (false = true) by decide)] at H; exact H
    clear H
    have H := H1
    clear H1
    exact absurd H (by simp)

/-- THE ONE PURE STATEMENT of tenementlaw01_CrcSums: yours. -/
def tenementlaw01_CrcSums.Pure : Prop := ∀ (a0 : ByteArray) (a1 : Int) (a2 : Int) (a3 : Int) (a4 : Int) (a5 : Bool), a0.size ≤ 140737488351232 → (Lit.int .u32 a1).wf = true → (Lit.int .u32 a2).wf = true → (Lit.int .u32 a3).wf = true → (Lit.int .i64 a4).wf = true → ∃ k, tenementlaw01_CrcSums.f k a0 a1 a2 a3 a4 a5 = some true
theorem tenementlaw01_CrcSums.walk (P : tenementlaw01_CrcSums.Pure) (a0 : ByteArray) (a1 : Int) (a2 : Int) (a3 : Int) (a4 : Int) (a5 : Bool) (w : World) (w0 : a0.size ≤ 140737488351232) (w1 : (Lit.int .u32 a1).wf = true) (w2 : (Lit.int .u32 a2).wf = true) (w3 : (Lit.int .u32 a3).wf = true) (w4 : (Lit.int .i64 a4).wf = true) :
    Calls Try.prog 3 #[.string a0, .int .u32 a1, .int .u32 a2, .int .u32 a3, .int .i64 a4, .bool a5] w fun e w' => e = .returned (.bool true) ∧ Below w.heap.size w w' := by
  obtain ⟨k, h⟩ := P a0 a1 a2 a3 a4 a5 w0 w1 w2 w3 w4
  refine (tenementlaw01_CrcSums.calls k a0 a1 a2 a3 a4 a5 true w h).mono ?_
  rintro e w' ⟨rfl, hd⟩
  exact ⟨rfl, hd⟩

end Go.Proofs.Ytlngbigddbklpaa.Q
