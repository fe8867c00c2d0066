-- Written by this session's own driver (wip/hybrid.py) of the kit's printer; contracts marked FOREIGN are by hand.
import Derived.Test.YtlngbigddbklpaaQx0
import Derived.Test.YtlngbigddbklpaaQx2
import Derived.Test.YtlngbigddbklpaaQx4
import Derived.Test.YtlngbigddbklpaaQx5
namespace Go.Proofs.Ytlngbigddbklpaa.Q
open Go.RowKit Go.Proofs.YtlngbigddbklpaaW.PrintWords Go.Proofs.YtlngbigddbklpaaW.PrintLast Go.Proofs.YtlngbigddbklpaaW.PrintMore
attribute [local go_sem] max2_int min2_int max_two min_two max_three min_three max_four min_four   -- for this text's walks alone
set_option linter.unusedVariables false
set_option linter.unusedSimpArgs false

/-! ### tenementlaw01_CrcResidue: function 6 -/
def tenementlaw01_CrcResidue.f (k : Nat) (a0 : ByteArray) : Option (Bool) := (tenementlaw01_examples.f k).bind fun t135 => (if t135 = true then ((crc_Sum.f k a0).bind fun t136 => ((some (([(t136) % 256, (t136 / 256) % 256, (t136 / 65536) % 256, (t136 / 16777216) % 256] : List Int) : List Int)).bind fun y137 => (if a0.size + (strOfNums y137).size ≤ 9223372036854775807 then ((crc_Sum.f k (a0 ++ (strOfNums y137))).bind fun t140 => (if t140 = 558161692 then (if 0 ≤ (a0.size : Int) then (if (a0.size : Int) ≤ ((a0 ++ (strOfNums y137)).size : Int) then ((crc_Sum.f k ((a0 ++ (strOfNums y137)).extract a0.size (a0.size + (strOfNums y137).size))).bind fun t141 => ((crc_Join.f k t136 t141 4).bind fun t142 => (if t142 = 558161692 then (some true) else (none)))) else (none)) else (none)) else (none))) else (none)))) else (none))
theorem tenementlaw01_CrcResidue.mono : ∀ a0 k, LeO (tenementlaw01_CrcResidue.f k a0) (tenementlaw01_CrcResidue.f (k + 1) a0) := by
  intro a0 k
  unfold tenementlaw01_CrcResidue.f
  repeat' first
      | (with_reducible exact crc_Join.mono _ _ _ _)
      | (with_reducible exact crc_Sum.mono _ _)
      | (with_reducible exact tenementlaw01_examples.mono _)
      | (with_reducible exact LeO.refl _)
      | (with_reducible exact LeO.none _)
      | (with_reducible refine LeO.ite ?_ ?_)
      | (with_reducible refine LeO.bind ?_ (fun _ => ?_))
      | exact crc_Join.mono _ _ _ _
      | exact crc_Sum.mono _ _
      | exact tenementlaw01_examples.mono _
      | exact LeO.none _
      | refine LeO.ite ?_ ?_
      | refine LeO.bind ?_ (fun _ => ?_)
set_option maxHeartbeats 8000000 in
set_option maxRecDepth 100000 in
theorem tenementlaw01_CrcResidue.calls (k : Nat) (a0 : ByteArray) (r : Bool) (w : World) (h : tenementlaw01_CrcResidue.f k a0 = some r) :
    Calls Try.prog 6 #[.string a0] w fun e w' => e = .returned (.bool r) ∧ Below w.heap.size w w' := by
  have HB := Aside0.mk (Below.refl w.heap.size w)
  have H : ((tenementlaw01_examples.f k).bind fun t135 => (if t135 = true then ((crc_Sum.f k a0).bind fun t136 => ((some (([(t136) % 256, (t136 / 256) % 256, (t136 / 65536) % 256, (t136 / 16777216) % 256] : List Int) : List Int)).bind fun y137 => (if a0.size + (strOfNums y137).size ≤ 9223372036854775807 then ((crc_Sum.f k (a0 ++ (strOfNums y137))).bind fun t140 => (if t140 = 558161692 then (if 0 ≤ (a0.size : Int) then (if (a0.size : Int) ≤ ((a0 ++ (strOfNums y137)).size : Int) then ((crc_Sum.f k ((a0 ++ (strOfNums y137)).extract a0.size (a0.size + (strOfNums y137).size))).bind fun t141 => ((crc_Join.f k t136 t141 4).bind fun t142 => (if t142 = 558161692 then (some true) else (none)))) else (none)) else (none)) else (none))) else (none)))) else (none))) = some r := h
  (try (have Hs_ := H; simp only [ByteArray.size_append, Int.natCast_add] at Hs_))
  clear h
  replace H := Option.bind_eq_some_iff.mp H
  obtain ⟨t135, A20, H⟩ := H
  replace H : (if t135 = true then ((crc_Sum.f k a0).bind fun t136 => ((some (([(t136) % 256, (t136 / 256) % 256, (t136 / 65536) % 256, (t136 / 16777216) % 256] : List Int) : List Int)).bind fun y137 => (if a0.size + (strOfNums y137).size ≤ 9223372036854775807 then ((crc_Sum.f k (a0 ++ (strOfNums y137))).bind fun t140 => (if t140 = 558161692 then (if 0 ≤ (a0.size : Int) then (if (a0.size : Int) ≤ ((a0 ++ (strOfNums y137)).size : Int) then ((crc_Sum.f k ((a0 ++ (strOfNums y137)).extract a0.size (a0.size + (strOfNums y137).size))).bind fun t141 => ((crc_Join.f k t136 t141 4).bind fun t142 => (if t142 = 558161692 then (some true) else (none)))) else (none)) else (none)) else (none))) else (none)))) else (none)) = some r := H
  have A2 := Aside0.mk A20
  clear A20
  by_cases c3 : t135 = true
  · subst c3
    have H1 : ((crc_Sum.f k a0).bind fun t136 => ((some (([(t136) % 256, (t136 / 256) % 256, (t136 / 65536) % 256, (t136 / 16777216) % 256] : List Int) : List Int)).bind fun y137 => (if a0.size + (strOfNums y137).size ≤ 9223372036854775807 then ((crc_Sum.f k (a0 ++ (strOfNums y137))).bind fun t140 => (if t140 = 558161692 then (if 0 ≤ (a0.size : Int) then (if (a0.size : Int) ≤ ((a0 ++ (strOfNums y137)).size : Int) then ((crc_Sum.f k ((a0 ++ (strOfNums y137)).extract a0.size (a0.size + (strOfNums y137).size))).bind fun t141 => ((crc_Join.f k t136 t141 4).bind fun t142 => (if t142 = 558161692 then (some true) else (none)))) else (none)) else (none)) else (none))) else (none)))) = some r := by rw [if_pos rfl] at H; exact H
    clear H
    have H := H1
    clear H1
    replace H := Option.bind_eq_some_iff.mp H
    obtain ⟨t136, A40, H⟩ := H
    replace H : ((some (([(t136) % 256, (t136 / 256) % 256, (t136 / 65536) % 256, (t136 / 16777216) % 256] : List Int) : List Int)).bind fun y137 => (if a0.size + (strOfNums y137).size ≤ 9223372036854775807 then ((crc_Sum.f k (a0 ++ (strOfNums y137))).bind fun t140 => (if t140 = 558161692 then (if 0 ≤ (a0.size : Int) then (if (a0.size : Int) ≤ ((a0 ++ (strOfNums y137)).size : Int) then ((crc_Sum.f k ((a0 ++ (strOfNums y137)).extract a0.size (a0.size + (strOfNums y137).size))).bind fun t141 => ((crc_Join.f k t136 t141 4).bind fun t142 => (if t142 = 558161692 then (some true) else (none)))) else (none)) else (none)) else (none))) else (none))) = some r := H
    have A4 := Aside0.mk A40
    clear A40
    obtain ⟨y137, hy137⟩ : ∃ y_ : List Int, y_ = (([(t136) % 256, (t136 / 256) % 256, (t136 / 65536) % 256, (t136 / 16777216) % 256] : List Int)) := ⟨_, rfl⟩
    replace H : (if a0.size + (strOfNums y137).size ≤ 9223372036854775807 then ((crc_Sum.f k (a0 ++ (strOfNums y137))).bind fun t140 => (if t140 = 558161692 then (if 0 ≤ (a0.size : Int) then (if (a0.size : Int) ≤ ((a0 ++ (strOfNums y137)).size : Int) then ((crc_Sum.f k ((a0 ++ (strOfNums y137)).extract a0.size (a0.size + (strOfNums y137).size))).bind fun t141 => ((crc_Join.f k t136 t141 4).bind fun t142 => (if t142 = 558161692 then (some true) else (none)))) else (none)) else (none)) else (none))) else (none)) = some r := by first | (rw [hy137]; with_reducible exact H) | (have H2_ := (Option.bind_some _ _).symm.trans H; rw [hy137]; with_reducible exact H2_) | (have H2_ := (Option.bind_some _ _).symm.trans H; with_reducible exact H2_) | with_reducible exact H | (rw [hy137]; exact H) | exact H
    have Ny137 := Aside0.mk hy137
    clear hy137
    by_cases c5 : a0.size + (strOfNums y137).size ≤ 9223372036854775807
    · rw [if_pos c5] at H
      have c5b0 := eq_true c5
      have c5b1 : decide (a0.size + (strOfNums y137).size ≤ 9223372036854775807) = true := decide_eq_true c5
      try have c5b2 : (9223372036854775807 < a0.size + (strOfNums y137).size) = False := eq_false (Nat.not_lt.2 c5)
      replace H := Option.bind_eq_some_iff.mp H
      obtain ⟨t140, A60, H⟩ := H
      replace H : (if t140 = 558161692 then (if 0 ≤ (a0.size : Int) then (if (a0.size : Int) ≤ ((a0 ++ (strOfNums y137)).size : Int) then ((crc_Sum.f k ((a0 ++ (strOfNums y137)).extract a0.size (a0.size + (strOfNums y137).size))).bind fun t141 => ((crc_Join.f k t136 t141 4).bind fun t142 => (if t142 = 558161692 then (some true) else (none)))) else (none)) else (none)) else (none)) = some r := H
      have A6 := Aside0.mk A60
      clear A60
      by_cases c7 : t140 = 558161692
      · rw [if_pos c7] at H
        have c7b0 : (t140 == 558161692) = true := beq_iff_eq.mpr c7
        have c7b1 : (t140 != 558161692) = false := bne_eq_false_iff_eq.mpr c7
        clear c7
        by_cases c8 : 0 ≤ (a0.size : Int)
        · rw [if_pos c8] at H
          have c8b0 := eq_true c8
          have c8b1 : decide (0 ≤ (a0.size : Int)) = true := decide_eq_true c8
          clear c8
          by_cases c9 : (a0.size : Int) ≤ ((a0 ++ (strOfNums y137)).size : Int)
          · rw [if_pos c9] at H
            have c9b0 := eq_true c9
            (try (have c9b0s_ := c9b0; simp only [ByteArray.size_append, Int.natCast_add] at c9b0s_))
            have c9b1 : decide ((a0.size : Int) ≤ ((a0 ++ (strOfNums y137)).size : Int)) = true := decide_eq_true c9
            (try (have c9b1s_ := c9b1; simp only [ByteArray.size_append, Int.natCast_add] at c9b1s_))
            replace H := Option.bind_eq_some_iff.mp H
            obtain ⟨t141, A100, H⟩ := H
            replace H : ((crc_Join.f k t136 t141 4).bind fun t142 => (if t142 = 558161692 then (some true) else (none))) = some r := H
            have A10 := Aside0.mk A100
            clear A100
            replace H := Option.bind_eq_some_iff.mp H
            obtain ⟨t142, A110, H⟩ := H
            replace H : (if t142 = 558161692 then (some true) else (none)) = some r := H
            have A11 := Aside0.mk A110
            clear A110
            by_cases c12 : t142 = 558161692
            · rw [if_pos c12] at H
              have c12b0 : (t142 == 558161692) = true := beq_iff_eq.mpr c12
              have c12b1 : (t142 != 558161692) = false := bne_eq_false_iff_eq.mpr c12
              clear c12
              obtain rfl := Option.some.inj H
              go_enter Try.func6, Try.ntmps6
              go_wp2_with (first | ((with_reducible refine gate_callee (f := 7) rfl ?_); refine goesL_ (some 6) rfl rfl Try.func7 (by kernel_rfl) rfl #[] rfl (by (try simp only [List.map_toArray, List.map_cons, List.map_nil]); first | done | rfl | (simp only [List.length_drop, List.length_take]; rfl)) ?_; (with_reducible refine (tenementlaw01_examples.calls k  true _ A2.out).mono ?_); rintro e w13 ⟨rfl, hb⟩; refine ⟨_, rfl, ?_⟩; have n0_ := Aside0.mk (below_step (by repeat (first | (with_reducible first | exact HB.out | apply below_alloc | apply pw_below_drewN | apply below_drew1) | exact HB.out)) hb); clear HB; have HB := n0_; clear n0_; (try clear hb); (try clear hb2); (try clear hk); (try clear hi)) | ((with_reducible refine gate_callee (f := 9) rfl ?_); refine goesL_ (some 10) rfl rfl Try.func9 (by kernel_rfl) rfl #[.string a0] rfl (by (try simp only [List.map_toArray, List.map_cons, List.map_nil]); first | done | rfl | (simp only [List.length_drop, List.length_take]; rfl)) ?_; (with_reducible refine (crc_Sum.calls k a0 t136 _ A4.out).mono ?_); rintro e w14 ⟨rfl, hb⟩; refine ⟨_, rfl, ?_⟩; have n0_ := Aside0.mk (below_step (by repeat (first | (with_reducible first | exact HB.out | apply below_alloc | apply pw_below_drewN | apply below_drew1) | exact HB.out)) hb); clear HB; have HB := n0_; clear n0_; (try clear hb); (try clear hb2); (try clear hk); (try clear hi)) | ((with_reducible refine gate_dst (N := 23) rfl ?_); (try (refine gate_guard (by rfl) ?_; dsimp only)); refine Kd.R_lit (Kd.int .u8) _ 5 ?hg (N := 23) ?hd (xs := ([(t136) % 256, (t136 / 256) % 256, (t136 / 65536) % 256, (t136 / 16777216) % 256] : List Int)) (inner := [.int .u8 ((t136) % 256), .int .u8 ((t136 / 256) % 256), .int .u8 ((t136 / 65536) % 256), .int .u8 ((t136 / 16777216) % 256)]) (ok := fun _ => True) (okp := fun _ => True) ?hr ?hp (fun _ hk => hk) trivial (Below.refl _ _) (Nat.le_refl _) (by simp) ?_; (case hd => rfl); (case hg => rfl); (case hr => first | (go_simp; done) | (go_simp; rfl)); (case hp => exact (Reps.one (show Kd.M (Kd.int .u8) _ _ _ ((t136) % 256) [.int .u8 ((t136) % 256)] from rfl) (Reps.one (show Kd.M (Kd.int .u8) _ _ _ ((t136 / 256) % 256) [.int .u8 ((t136 / 256) % 256)] from rfl) (Reps.one (show Kd.M (Kd.int .u8) _ _ _ ((t136 / 65536) % 256) [.int .u8 ((t136 / 65536) % 256)] from rfl) (Reps.one (show Kd.M (Kd.int .u8) _ _ _ ((t136 / 16777216) % 256) [.int .u8 ((t136 / 16777216) % 256)] from rfl) (Reps.none _ _)))))); intro v138 w15 ho16 hb hg_ hnew_; clear hg_ hnew_; (first | rw [← Ny137.out] at ho16 | (simp only [Int.reduceToNat] at ho16; rw [← Ny137.out] at ho16)); have n0_ := Aside0.mk (Kd.R_lower ho16 (below_size (by repeat (first | (with_reducible first | exact HB.out | apply below_alloc | apply pw_below_drewN | apply below_drew1) | exact HB.out)))); have n1_ := Aside0.mk (below_step (by repeat (first | (with_reducible first | exact HB.out | apply below_alloc | apply pw_below_drewN | apply below_drew1) | exact HB.out)) hb); clear HB; have HO139 := n0_; have HB := n1_; clear n0_ n1_; clear hb ho16; have hcv17 := own_string (P := Try.prog) Try.underlying30 Try.underlying5 Try.underlying9 (Kd.own_of_R HO139.out)) | (go_at_call 9; (with_reducible refine (crc_Sum.calls k (a0 ++ (strOfNums y137)) t140 _ A6.out).mono ?_); rintro e w18 ⟨rfl, hb⟩; have n0_ := Aside0.mk (Kd.R_below (by (with_reducible repeat (first | apply Kd.R_alloc | apply Kd.R_drewN | apply Kd.R_drew)); exact HO139.out) hb); have n1_ := Aside0.mk (below_step (by repeat (first | (with_reducible first | exact HB.out | apply below_alloc | apply pw_below_drewN | apply below_drew1) | exact HB.out)) hb); clear HO139; clear HB; have HO139 := n0_; have HB := n1_; clear n0_ n1_; (try clear hb); (try clear hb2); (try clear hk); (try clear hi)) | (go_at_call 9; (with_reducible refine (crc_Sum.calls k ((a0 ++ (strOfNums y137)).extract a0.size (a0.size + (strOfNums y137).size)) t141 _ A10.out).mono ?_); rintro e w19 ⟨rfl, hb⟩; have n0_ := Aside0.mk (Kd.R_below (by (with_reducible repeat (first | apply Kd.R_alloc | apply Kd.R_drewN | apply Kd.R_drew)); exact HO139.out) hb); have n1_ := Aside0.mk (below_step (by repeat (first | (with_reducible first | exact HB.out | apply below_alloc | apply pw_below_drewN | apply below_drew1) | exact HB.out)) hb); clear HO139; clear HB; have HO139 := n0_; have HB := n1_; clear n0_ n1_; (try clear hb); (try clear hb2); (try clear hk); (try clear hi)) | (go_at_call 11; (with_reducible refine (crc_Join.calls k t136 t141 4 t142 _ A11.out).mono ?_); rintro e w20 ⟨rfl, hb⟩; have n0_ := Aside0.mk (Kd.R_below (by (with_reducible repeat (first | apply Kd.R_alloc | apply Kd.R_drewN | apply Kd.R_drew)); exact HO139.out) hb); have n1_ := Aside0.mk (below_step (by repeat (first | (with_reducible first | exact HB.out | apply below_alloc | apply pw_below_drewN | apply below_drew1) | exact HB.out)) hb); clear HO139; clear HB; have HO139 := n0_; have HB := n1_; clear n0_ n1_; (try clear hb); (try clear hb2); (try clear hk); (try clear hi)))
              go_ret
              exact ⟨by first | rfl | (simp [errW_none, errW_some] <;> rfl) | (simp [*, errW_none, errW_some] <;> rfl), by repeat (first | (with_reducible first | exact HB.out | apply below_alloc | apply pw_below_drewN | apply below_drew1) | exact HB.out)⟩
            · rw [if_neg c12] at H
              exact absurd H (by simp)
          · rw [if_neg c9] at H
            exact absurd H (by simp)
        · rw [if_neg c8] at H
          exact absurd H (by simp)
      · rw [if_neg c7] at H
        exact absurd H (by simp)
    · rw [if_neg c5] at H
      exact absurd H (by simp)
  · replace c3 := Bool.eq_false_iff.mpr c3
    subst c3
    have H1 : (none) = some r := by rw [if_neg (show ¬ (false = true) by decide)] at H; exact H
    clear H
    have H := H1
    clear H1
    exact absurd H (by simp)

/-- THE ONE PURE STATEMENT of tenementlaw01_CrcResidue: yours. -/
def tenementlaw01_CrcResidue.Pure : Prop := ∀ (a0 : ByteArray), a0.size ≤ 140737488351232 → ∃ k, tenementlaw01_CrcResidue.f k a0 = some true
theorem tenementlaw01_CrcResidue.walk (P : tenementlaw01_CrcResidue.Pure) (a0 : ByteArray) (w : World) (w0 : a0.size ≤ 140737488351232) :
    Calls Try.prog 6 #[.string a0] w fun e w' => e = .returned (.bool true) ∧ Below w.heap.size w w' := by
  obtain ⟨k, h⟩ := P a0 w0
  refine (tenementlaw01_CrcResidue.calls k a0 true w h).mono ?_
  rintro e w' ⟨rfl, hd⟩
  exact ⟨rfl, hd⟩

end Go.Proofs.Ytlngbigddbklpaa.Q
