-- Written by this session's own driver (wip/hybrid.py) of the kit's printer; contracts marked FOREIGN are by hand.
import Derived.Test.YtlpipngfpcpfbaaQx0
import Derived.Test.YtlpipngfpcpfbaaQx1
import Derived.Test.YtlpipngfpcpfbaaQx9
namespace Go.Proofs.Ytlpipngfpcpfbaa.Q
open Go.RowKit Go.Proofs.YtlpipngfpcpfbaaW.PrintWords Go.Proofs.YtlpipngfpcpfbaaW.PrintLast Go.Proofs.YtlpipngfpcpfbaaW.PrintMore
attribute [local go_sem] max2_int min2_int max_two min_two max_three min_three max_four min_four   -- for this text's walks alone
set_option linter.unusedVariables false
set_option linter.unusedSimpArgs false

/-! ### tenementlaw02_PackOrder: function 4 -/
def tenementlaw02_PackOrder.j0 : Nat → Int → Int → Bool → Int → Option (Bool)
  | 0, _, _, _, _ => none
  | k + 1, x0, x1, x7, x8 => (pack_Number.f x0 x8).bind fun t194 => ((pack_Number.f x1 x8).bind fun t195 => (if x7 = true then (if (t194.size : Int) = x8 then (if (Op.bytesLess t194.toList t195.toList) = true then (if x0 < x1 then (if t194.toList = t195.toList then (if x0 = x1 then ((pack_Number.f x0 0).bind fun t196 => (if t196.toList = ([] : List UInt8) then ((pack_Number.f x0 9).bind fun t197 => (if t197.toList = ([] : List UInt8) then ((pack_Number.f x0 (wrap64 (-x8))).bind fun t198 => (if t198.toList = ([] : List UInt8) then (some true) else (none))) else (none))) else (none))) else (none)) else (if x0 = x1 then (none) else ((pack_Number.f x0 0).bind fun t199 => (if t199.toList = ([] : List UInt8) then ((pack_Number.f x0 9).bind fun t200 => (if t200.toList = ([] : List UInt8) then ((pack_Number.f x0 (wrap64 (-x8))).bind fun t201 => (if t201.toList = ([] : List UInt8) then (some true) else (none))) else (none))) else (none))))) else (none)) else (if x0 < x1 then (none) else (if t194.toList = t195.toList then (if x0 = x1 then ((pack_Number.f x0 0).bind fun t202 => (if t202.toList = ([] : List UInt8) then ((pack_Number.f x0 9).bind fun t203 => (if t203.toList = ([] : List UInt8) then ((pack_Number.f x0 (wrap64 (-x8))).bind fun t204 => (if t204.toList = ([] : List UInt8) then (some true) else (none))) else (none))) else (none))) else (none)) else (if x0 = x1 then (none) else ((pack_Number.f x0 0).bind fun t205 => (if t205.toList = ([] : List UInt8) then ((pack_Number.f x0 9).bind fun t206 => (if t206.toList = ([] : List UInt8) then ((pack_Number.f x0 (wrap64 (-x8))).bind fun t207 => (if t207.toList = ([] : List UInt8) then (some true) else (none))) else (none))) else (none))))))) else (none)) else (none)))
def tenementlaw02_PackOrder.f (k : Nat) (a0 : Int) (a1 : Int) (a2 : Int) : Option (Bool) := (tenementlaw02_examples.f k).bind fun t193 => (if t193 = true then (if (wrap64 (1 + (wrap64 (Int.tmod a2 8)))) < 8 then (if 0 ≤ (wrap64 (8 * (wrap64 (1 + (wrap64 (Int.tmod a2 8)))))) then (if (shl .u64 1 (wrap64 (8 * (wrap64 (1 + (wrap64 (Int.tmod a2 8))))))) = 0 then (none) else (tenementlaw02_PackOrder.j0 k (Int.tmod a0 (shl .u64 1 (wrap64 (8 * (wrap64 (1 + (wrap64 (Int.tmod a2 8)))))))) (Int.tmod a1 (shl .u64 1 (wrap64 (8 * (wrap64 (1 + (wrap64 (Int.tmod a2 8)))))))) t193 (wrap64 (1 + (wrap64 (Int.tmod a2 8)))))) else (none)) else (tenementlaw02_PackOrder.j0 k a0 a1 t193 (wrap64 (1 + (wrap64 (Int.tmod a2 8)))))) else (none))
theorem tenementlaw02_PackOrder.mono_l : ∀ k, (∀ y0 y1 y2 y3, LeO (tenementlaw02_PackOrder.j0 k y0 y1 y2 y3) (tenementlaw02_PackOrder.j0 (k + 1) y0 y1 y2 y3))
  | 0 => fun _ _ _ _ r h => by simp [tenementlaw02_PackOrder.j0] at h
  | k + 1 => by
    have ih0 := tenementlaw02_PackOrder.mono_l k
    · intro y0 y1 y2 y3
      unfold tenementlaw02_PackOrder.j0
      repeat' first
      | (with_reducible exact ih0 _ _ _ _)
      | (with_reducible exact tenementlaw02_examples.mono _)
      | (with_reducible exact LeO.refl _)
      | (with_reducible exact LeO.none _)
      | (with_reducible refine LeO.ite ?_ ?_)
      | (with_reducible refine LeO.bind ?_ (fun _ => ?_))
      | exact ih0 _ _ _ _
      | exact tenementlaw02_examples.mono _
      | exact LeO.none _
      | refine LeO.ite ?_ ?_
      | refine LeO.bind ?_ (fun _ => ?_)
theorem tenementlaw02_PackOrder.mono : ∀ a0 a1 a2 k, LeO (tenementlaw02_PackOrder.f k a0 a1 a2) (tenementlaw02_PackOrder.f (k + 1) a0 a1 a2) := by
  intro a0 a1 a2 k
  have ih0 := tenementlaw02_PackOrder.mono_l k
  unfold tenementlaw02_PackOrder.f
  repeat' first
      | (with_reducible exact ih0 _ _ _ _)
      | (with_reducible exact tenementlaw02_examples.mono _)
      | (with_reducible exact LeO.refl _)
      | (with_reducible exact LeO.none _)
      | (with_reducible refine LeO.ite ?_ ?_)
      | (with_reducible refine LeO.bind ?_ (fun _ => ?_))
      | exact ih0 _ _ _ _
      | exact tenementlaw02_examples.mono _
      | exact LeO.none _
      | refine LeO.ite ?_ ?_
      | refine LeO.bind ?_ (fun _ => ?_)
set_option maxHeartbeats 8000000 in
set_option maxRecDepth 100000 in
theorem tenementlaw02_PackOrder.calls (k : Nat) (a0 : Int) (a1 : Int) (a2 : Int) (r : Bool) (w : World) (h : tenementlaw02_PackOrder.f k a0 a1 a2 = some r) :
    Calls Try.prog 4 #[.int .u64 a0, .int .u64 a1, .int .u8 a2] w fun e w' => e = .returned (.bool r) ∧ Below w.heap.size w w' := by
  have HB := Aside0.mk (Below.refl w.heap.size w)
  have H : ((tenementlaw02_examples.f k).bind fun t193 => (if t193 = true then (if (wrap64 (1 + (wrap64 (Int.tmod a2 8)))) < 8 then (if 0 ≤ (wrap64 (8 * (wrap64 (1 + (wrap64 (Int.tmod a2 8)))))) then (if (shl .u64 1 (wrap64 (8 * (wrap64 (1 + (wrap64 (Int.tmod a2 8))))))) = 0 then (none) else (tenementlaw02_PackOrder.j0 k (Int.tmod a0 (shl .u64 1 (wrap64 (8 * (wrap64 (1 + (wrap64 (Int.tmod a2 8)))))))) (Int.tmod a1 (shl .u64 1 (wrap64 (8 * (wrap64 (1 + (wrap64 (Int.tmod a2 8)))))))) t193 (wrap64 (1 + (wrap64 (Int.tmod a2 8)))))) else (none)) else (tenementlaw02_PackOrder.j0 k a0 a1 t193 (wrap64 (1 + (wrap64 (Int.tmod a2 8)))))) else (none))) = some r := h
  clear h
  replace H := Option.bind_eq_some_iff.mp H
  obtain ⟨t193, A40, H⟩ := H
  replace H : (if t193 = true then (if (wrap64 (1 + (wrap64 (Int.tmod a2 8)))) < 8 then (if 0 ≤ (wrap64 (8 * (wrap64 (1 + (wrap64 (Int.tmod a2 8)))))) then (if (shl .u64 1 (wrap64 (8 * (wrap64 (1 + (wrap64 (Int.tmod a2 8))))))) = 0 then (none) else (tenementlaw02_PackOrder.j0 k (Int.tmod a0 (shl .u64 1 (wrap64 (8 * (wrap64 (1 + (wrap64 (Int.tmod a2 8)))))))) (Int.tmod a1 (shl .u64 1 (wrap64 (8 * (wrap64 (1 + (wrap64 (Int.tmod a2 8)))))))) t193 (wrap64 (1 + (wrap64 (Int.tmod a2 8)))))) else (none)) else (tenementlaw02_PackOrder.j0 k a0 a1 t193 (wrap64 (1 + (wrap64 (Int.tmod a2 8)))))) else (none)) = some r := H
  have A4 := Aside0.mk A40
  clear A40
  by_cases c5 : t193 = true
  · subst c5
    have H1 : (if (wrap64 (1 + (wrap64 (Int.tmod a2 8)))) < 8 then (if 0 ≤ (wrap64 (8 * (wrap64 (1 + (wrap64 (Int.tmod a2 8)))))) then (if (shl .u64 1 (wrap64 (8 * (wrap64 (1 + (wrap64 (Int.tmod a2 8))))))) = 0 then (none) else (tenementlaw02_PackOrder.j0 k (Int.tmod a0 (shl .u64 1 (wrap64 (8 * (wrap64 (1 + (wrap64 (Int.tmod a2 8)))))))) (Int.tmod a1 (shl .u64 1 (wrap64 (8 * (wrap64 (1 + (wrap64 (Int.tmod a2 8)))))))) true (wrap64 (1 + (wrap64 (Int.tmod a2 8)))))) else (none)) else (tenementlaw02_PackOrder.j0 k a0 a1 true (wrap64 (1 + (wrap64 (Int.tmod a2 8)))))) = some r := by rw [if_pos rfl] at H; exact H
    clear H
    have H := H1
    clear H1
    have HC6 := Aside0.mk H
    clear H
    go_enter Try.func4, Try.ntmps4
    go_upto_if 19 with (first | ((with_reducible refine gate_callee (f := 9) rfl ?_); refine goesL_ (some 11) rfl rfl Try.func9 (by kernel_rfl) rfl #[] rfl (by (try simp only [List.map_toArray, List.map_cons, List.map_nil]); first | done | rfl | (simp only [List.length_drop, List.length_take]; rfl)) ?_; (with_reducible refine (tenementlaw02_examples.calls k  true _ A4.out).mono ?_); rintro e w7 ⟨rfl, hb⟩; refine ⟨_, rfl, ?_⟩; have n0_ := Aside0.mk (below_step (by repeat (first | (with_reducible first | exact HB.out | apply below_alloc | apply pw_below_drewN | apply below_drew1) | exact HB.out)) hb); clear HB; have HB := n0_; clear n0_; (try clear hb); (try clear hb2); (try clear hk); (try clear hi)))
    (try simp only [Act.put, List.setIfInBounds_toArray, List.set_cons_zero, List.set_cons_succ])
    go_cut [0, 1] (fun v0 v1 wc => ∃ (kq : Nat) (x0_5 : Int) (x1_5 : Int), v0 = .int .u64 x0_5 ∧ v1 = .int .u64 x1_5 ∧ Aside0 (tenementlaw02_PackOrder.j0 kq x0_5 x1_5 true (wrap64 (1 + (wrap64 (Int.tmod a2 8)))) = some r) ∧ Aside0 (kq ≤ k) ∧ Aside0 (Below w.heap.size w wc))
    case first =>
      have H := HC6.out
      clear HC6
      by_cases c8 : (wrap64 (1 + (wrap64 (Int.tmod a2 8)))) < 8
      · rw [if_pos c8] at H
        have c8b0 : decide ((wrap64 (1 + (wrap64 (Int.tmod a2 8)))) < 8) = true := decide_eq_true c8
        clear c8
        (first | rw [c8b0] | (simp only [i64_w, i32_w]; rw [c8b0]) | skip)
        obtain ⟨ji9, hji9⟩ : ∃ j_ : Int, (wrap64 (8 * (wrap64 (1 + (wrap64 (Int.tmod a2 8)))))) = j_ := ⟨_, rfl⟩
        replace H : (if 0 ≤ (ji9) then (if (shl .u64 1 (ji9)) = 0 then (none) else (tenementlaw02_PackOrder.j0 k (Int.tmod a0 (shl .u64 1 (ji9))) (Int.tmod a1 (shl .u64 1 (ji9))) true (wrap64 (1 + (wrap64 (Int.tmod a2 8)))))) else (none)) = some r := by first | (rw [hji9] at H; exact H) | (simp only [hji9] at H ⊢; exact H)
        have hji9w : (IntKind.i64.wrap (8 * (wrap64 (1 + (wrap64 (Int.tmod a2 8)))))) = ji9 := (i64_w _).trans hji9
        by_cases c10 : 0 ≤ (ji9)
        · rw [if_pos c10] at H
          have c10b0 := eq_true c10
          have c10b1 : decide (0 ≤ (ji9)) = true := decide_eq_true c10
          clear c10
          obtain ⟨ji11, hji11⟩ : ∃ j_ : Int, (shl .u64 1 (ji9)) = j_ := ⟨_, rfl⟩
          replace H : (if (ji11) = 0 then (none) else (tenementlaw02_PackOrder.j0 k (Int.tmod a0 (ji11)) (Int.tmod a1 (ji11)) true (wrap64 (1 + (wrap64 (Int.tmod a2 8)))))) = some r := by first | (rw [hji11] at H; exact H) | (simp only [hji11] at H ⊢; exact H)
          have hji11_ : (IntKind.u64.wrap (1 * 2 ^ min (ji9).toNat 64)) = ji11 := hji11
          have hji11z : (ji9) ≤ 64 → (IntKind.u64.wrap (1 * 2 ^ (ji9).toNat)) = ji11 := shl_small hji11
          have hji11u : (IntKind.u64.wrap (2 ^ min (ji9).toNat 64)) = ji11 := by have h_ := hji11_; rw [Int.one_mul] at h_; exact h_
          have hji11v : (ji9) ≤ 64 → (IntKind.u64.wrap (2 ^ (ji9).toNat)) = ji11 := fun hle_ => by have h_ := hji11z hle_; rw [Int.one_mul] at h_; exact h_
          by_cases c12 : (ji11) = 0
          · rw [if_pos c12] at H
            exact absurd H (by simp)
          · rw [if_neg c12] at H
            have c12b0 : ((ji11) == 0) = false := beq_eq_false_iff_ne.mpr c12
            have c12b1 : ((ji11) != 0) = true := bne_iff_ne.mpr c12
            have c13b0 := eq_true (of_decide_eq_true (by first | (with_reducible assumption) | assumption) : 0 ≤ (ji9))
            have H' := Aside0.mk H
            clear H
            go_wp2
            go_meet
            case rel => exact ⟨_, (Int.tmod a0 (ji11)), (Int.tmod a1 (ji11)), (by first | rfl | (simp; done) | (simp only [← hji11] <;> (first | rfl | simp)) | (simp [*]; done)), (by first | rfl | (simp; done) | (simp only [← hji11] <;> (first | rfl | simp)) | (simp [*]; done)), H', ⟨by first | omega | exact Nat.le_refl _⟩, ⟨by repeat (first | (with_reducible first | exact HB.out | apply below_alloc | apply pw_below_drewN | apply below_drew1) | exact HB.out)⟩⟩
        · rw [if_neg c10] at H
          exact absurd H (by simp)
      · rw [if_neg c8] at H
        have c8b0 : decide ((wrap64 (1 + (wrap64 (Int.tmod a2 8)))) < 8) = false := decide_eq_false c8
        clear c8
        (first | rw [c8b0] | (simp only [i64_w, i32_w]; rw [c8b0]) | skip)
        have H' := Aside0.mk H
        clear H
        go_wp2
        go_meet
        case rel => exact ⟨_, (a0), (a1), (by first | rfl | (simp; done) | (simp [*]; done)), (by first | rfl | (simp; done) | (simp [*]; done)), H', ⟨by first | omega | exact Nat.le_refl _⟩, ⟨by repeat (first | (with_reducible first | exact HB.out | apply below_alloc | apply pw_below_drewN | apply below_drew1) | exact HB.out)⟩⟩
    case rest =>
      clear HC6
      try clear c1
      try clear p2
      try clear c4
      try clear c5
      try clear p6
      try clear c8
      try clear c8b0
      try clear c9
      try clear c10
      try clear c10b0
      try clear c10b1
      try clear c12
      try clear c12b0
      try clear c12b1
      try clear c13
      try clear c13b0
      obtain ⟨kq, x0_5, x1_5, rfl, rfl, HA, HJ5, HB⟩ := hcut
      cases kq with
      | zero => exact absurd HA.out (by simp [tenementlaw02_PackOrder.j0])
      | succ kj5 =>
        have H := HA.out
        clear HA
        simp only [tenementlaw02_PackOrder.j0] at H
        replace H := Option.bind_eq_some_iff.mp H
        obtain ⟨t194, A140, H⟩ := H
        replace H : ((pack_Number.f x1_5 (wrap64 (1 + (wrap64 (Int.tmod a2 8))))).bind fun t195 => (if true = true then (if (t194.size : Int) = (wrap64 (1 + (wrap64 (Int.tmod a2 8)))) then (if (Op.bytesLess t194.toList t195.toList) = true then (if x0_5 < x1_5 then (if t194.toList = t195.toList then (if x0_5 = x1_5 then ((pack_Number.f x0_5 0).bind fun t196 => (if t196.toList = ([] : List UInt8) then ((pack_Number.f x0_5 9).bind fun t197 => (if t197.toList = ([] : List UInt8) then ((pack_Number.f x0_5 (wrap64 (-(wrap64 (1 + (wrap64 (Int.tmod a2 8))))))).bind fun t198 => (if t198.toList = ([] : List UInt8) then (some true) else (none))) else (none))) else (none))) else (none)) else (if x0_5 = x1_5 then (none) else ((pack_Number.f x0_5 0).bind fun t199 => (if t199.toList = ([] : List UInt8) then ((pack_Number.f x0_5 9).bind fun t200 => (if t200.toList = ([] : List UInt8) then ((pack_Number.f x0_5 (wrap64 (-(wrap64 (1 + (wrap64 (Int.tmod a2 8))))))).bind fun t201 => (if t201.toList = ([] : List UInt8) then (some true) else (none))) else (none))) else (none))))) else (none)) else (if x0_5 < x1_5 then (none) else (if t194.toList = t195.toList then (if x0_5 = x1_5 then ((pack_Number.f x0_5 0).bind fun t202 => (if t202.toList = ([] : List UInt8) then ((pack_Number.f x0_5 9).bind fun t203 => (if t203.toList = ([] : List UInt8) then ((pack_Number.f x0_5 (wrap64 (-(wrap64 (1 + (wrap64 (Int.tmod a2 8))))))).bind fun t204 => (if t204.toList = ([] : List UInt8) then (some true) else (none))) else (none))) else (none))) else (none)) else (if x0_5 = x1_5 then (none) else ((pack_Number.f x0_5 0).bind fun t205 => (if t205.toList = ([] : List UInt8) then ((pack_Number.f x0_5 9).bind fun t206 => (if t206.toList = ([] : List UInt8) then ((pack_Number.f x0_5 (wrap64 (-(wrap64 (1 + (wrap64 (Int.tmod a2 8))))))).bind fun t207 => (if t207.toList = ([] : List UInt8) then (some true) else (none))) else (none))) else (none))))))) else (none)) else (none))) = some r := H
        have A14 := Aside0.mk A140
        clear A140
        replace H := Option.bind_eq_some_iff.mp H
        obtain ⟨t195, A150, H⟩ := H
        replace H : (if true = true then (if (t194.size : Int) = (wrap64 (1 + (wrap64 (Int.tmod a2 8)))) then (if (Op.bytesLess t194.toList t195.toList) = true then (if x0_5 < x1_5 then (if t194.toList = t195.toList then (if x0_5 = x1_5 then ((pack_Number.f x0_5 0).bind fun t196 => (if t196.toList = ([] : List UInt8) then ((pack_Number.f x0_5 9).bind fun t197 => (if t197.toList = ([] : List UInt8) then ((pack_Number.f x0_5 (wrap64 (-(wrap64 (1 + (wrap64 (Int.tmod a2 8))))))).bind fun t198 => (if t198.toList = ([] : List UInt8) then (some true) else (none))) else (none))) else (none))) else (none)) else (if x0_5 = x1_5 then (none) else ((pack_Number.f x0_5 0).bind fun t199 => (if t199.toList = ([] : List UInt8) then ((pack_Number.f x0_5 9).bind fun t200 => (if t200.toList = ([] : List UInt8) then ((pack_Number.f x0_5 (wrap64 (-(wrap64 (1 + (wrap64 (Int.tmod a2 8))))))).bind fun t201 => (if t201.toList = ([] : List UInt8) then (some true) else (none))) else (none))) else (none))))) else (none)) else (if x0_5 < x1_5 then (none) else (if t194.toList = t195.toList then (if x0_5 = x1_5 then ((pack_Number.f x0_5 0).bind fun t202 => (if t202.toList = ([] : List UInt8) then ((pack_Number.f x0_5 9).bind fun t203 => (if t203.toList = ([] : List UInt8) then ((pack_Number.f x0_5 (wrap64 (-(wrap64 (1 + (wrap64 (Int.tmod a2 8))))))).bind fun t204 => (if t204.toList = ([] : List UInt8) then (some true) else (none))) else (none))) else (none))) else (none)) else (if x0_5 = x1_5 then (none) else ((pack_Number.f x0_5 0).bind fun t205 => (if t205.toList = ([] : List UInt8) then ((pack_Number.f x0_5 9).bind fun t206 => (if t206.toList = ([] : List UInt8) then ((pack_Number.f x0_5 (wrap64 (-(wrap64 (1 + (wrap64 (Int.tmod a2 8))))))).bind fun t207 => (if t207.toList = ([] : List UInt8) then (some true) else (none))) else (none))) else (none))))))) else (none)) else (none)) = some r := H
        have A15 := Aside0.mk A150
        clear A150
        replace H : (if (t194.size : Int) = (wrap64 (1 + (wrap64 (Int.tmod a2 8)))) then (if (Op.bytesLess t194.toList t195.toList) = true then (if x0_5 < x1_5 then (if t194.toList = t195.toList then (if x0_5 = x1_5 then ((pack_Number.f x0_5 0).bind fun t196 => (if t196.toList = ([] : List UInt8) then ((pack_Number.f x0_5 9).bind fun t197 => (if t197.toList = ([] : List UInt8) then ((pack_Number.f x0_5 (wrap64 (-(wrap64 (1 + (wrap64 (Int.tmod a2 8))))))).bind fun t198 => (if t198.toList = ([] : List UInt8) then (some true) else (none))) else (none))) else (none))) else (none)) else (if x0_5 = x1_5 then (none) else ((pack_Number.f x0_5 0).bind fun t199 => (if t199.toList = ([] : List UInt8) then ((pack_Number.f x0_5 9).bind fun t200 => (if t200.toList = ([] : List UInt8) then ((pack_Number.f x0_5 (wrap64 (-(wrap64 (1 + (wrap64 (Int.tmod a2 8))))))).bind fun t201 => (if t201.toList = ([] : List UInt8) then (some true) else (none))) else (none))) else (none))))) else (none)) else (if x0_5 < x1_5 then (none) else (if t194.toList = t195.toList then (if x0_5 = x1_5 then ((pack_Number.f x0_5 0).bind fun t202 => (if t202.toList = ([] : List UInt8) then ((pack_Number.f x0_5 9).bind fun t203 => (if t203.toList = ([] : List UInt8) then ((pack_Number.f x0_5 (wrap64 (-(wrap64 (1 + (wrap64 (Int.tmod a2 8))))))).bind fun t204 => (if t204.toList = ([] : List UInt8) then (some true) else (none))) else (none))) else (none))) else (none)) else (if x0_5 = x1_5 then (none) else ((pack_Number.f x0_5 0).bind fun t205 => (if t205.toList = ([] : List UInt8) then ((pack_Number.f x0_5 9).bind fun t206 => (if t206.toList = ([] : List UInt8) then ((pack_Number.f x0_5 (wrap64 (-(wrap64 (1 + (wrap64 (Int.tmod a2 8))))))).bind fun t207 => (if t207.toList = ([] : List UInt8) then (some true) else (none))) else (none))) else (none))))))) else (none)) = some r := by rw [if_pos rfl] at H; exact H
        by_cases c16 : (t194.size : Int) = (wrap64 (1 + (wrap64 (Int.tmod a2 8))))
        · rw [if_pos c16] at H
          have c16b0 : ((t194.size : Int) == (wrap64 (1 + (wrap64 (Int.tmod a2 8))))) = true := beq_iff_eq.mpr c16
          have c16b1 : ((t194.size : Int) != (wrap64 (1 + (wrap64 (Int.tmod a2 8))))) = false := bne_eq_false_iff_eq.mpr c16
          clear c16
          by_cases c17 : (Op.bytesLess t194.toList t195.toList) = true
          · rw [if_pos c17] at H
            have c17b0 : (Op.bytesLess t194.toList t195.toList) = true := c17
            clear c17
            by_cases c18 : x0_5 < x1_5
            · rw [if_pos c18] at H
              have c18b0 : decide (x0_5 < x1_5) = true := decide_eq_true c18
              clear c18
              by_cases c19 : t194.toList = t195.toList
              · rw [if_pos c19] at H
                have c19b0 : (t194.toList == t195.toList) = true := beq_iff_eq.mpr c19
                have c19b1 : (t194.toList != t195.toList) = false := bne_eq_false_iff_eq.mpr c19
                clear c19
                by_cases c20 : x0_5 = x1_5
                · rw [if_pos c20] at H
                  have c20b0 : (x0_5 == x1_5) = true := beq_iff_eq.mpr c20
                  have c20b1 : (x0_5 != x1_5) = false := bne_eq_false_iff_eq.mpr c20
                  clear c20
                  replace H := Option.bind_eq_some_iff.mp H
                  obtain ⟨t196, A210, H⟩ := H
                  replace H : (if t196.toList = ([] : List UInt8) then ((pack_Number.f x0_5 9).bind fun t197 => (if t197.toList = ([] : List UInt8) then ((pack_Number.f x0_5 (wrap64 (-(wrap64 (1 + (wrap64 (Int.tmod a2 8))))))).bind fun t198 => (if t198.toList = ([] : List UInt8) then (some true) else (none))) else (none))) else (none)) = some r := H
                  have A21 := Aside0.mk A210
                  clear A210
                  by_cases c22 : t196.toList = ([] : List UInt8)
                  · rw [if_pos c22] at H
                    have c22b0 : (t196.toList == ([] : List UInt8)) = true := beq_iff_eq.mpr c22
                    have c22b1 : (t196.toList != ([] : List UInt8)) = false := bne_eq_false_iff_eq.mpr c22
                    clear c22
                    replace H := Option.bind_eq_some_iff.mp H
                    obtain ⟨t197, A230, H⟩ := H
                    replace H : (if t197.toList = ([] : List UInt8) then ((pack_Number.f x0_5 (wrap64 (-(wrap64 (1 + (wrap64 (Int.tmod a2 8))))))).bind fun t198 => (if t198.toList = ([] : List UInt8) then (some true) else (none))) else (none)) = some r := H
                    have A23 := Aside0.mk A230
                    clear A230
                    by_cases c24 : t197.toList = ([] : List UInt8)
                    · rw [if_pos c24] at H
                      have c24b0 : (t197.toList == ([] : List UInt8)) = true := beq_iff_eq.mpr c24
                      have c24b1 : (t197.toList != ([] : List UInt8)) = false := bne_eq_false_iff_eq.mpr c24
                      clear c24
                      replace H := Option.bind_eq_some_iff.mp H
                      obtain ⟨t198, A250, H⟩ := H
                      replace H : (if t198.toList = ([] : List UInt8) then (some true) else (none)) = some r := H
                      have A25 := Aside0.mk A250
                      clear A250
                      by_cases c26 : t198.toList = ([] : List UInt8)
                      · rw [if_pos c26] at H
                        have c26b0 : (t198.toList == ([] : List UInt8)) = true := beq_iff_eq.mpr c26
                        have c26b1 : (t198.toList != ([] : List UInt8)) = false := bne_eq_false_iff_eq.mpr c26
                        clear c26
                        obtain rfl := Option.some.inj H
                        go_wp2_with (first | ((with_reducible refine gate_callee (f := 12) rfl ?_); refine goesL_ (some 32) rfl rfl Try.func12 (by kernel_rfl) rfl #[.int .u64 x0_5, .int .i64 (wrap64 (1 + (wrap64 (Int.tmod a2 8))))] rfl (by (try simp only [List.map_toArray, List.map_cons, List.map_nil]); first | done | rfl | (simp only [List.length_drop, List.length_take]; rfl)) ?_; (with_reducible refine (pack_Number.calls x0_5 (wrap64 (1 + (wrap64 (Int.tmod a2 8)))) t194 _ A14.out).mono ?_); rintro e w27 ⟨rfl, hb⟩; refine ⟨_, rfl, ?_⟩; have n0_ := Aside0.mk (below_step (by repeat (first | (with_reducible first | exact HB.out | apply below_alloc | apply pw_below_drewN | apply below_drew1) | exact HB.out)) hb); clear HB; have HB := n0_; clear n0_; (try clear hb); (try clear hb2); (try clear hk); (try clear hi)) | ((with_reducible refine gate_callee (f := 12) rfl ?_); refine goesL_ (some 35) rfl rfl Try.func12 (by kernel_rfl) rfl #[.int .u64 x1_5, .int .i64 (wrap64 (1 + (wrap64 (Int.tmod a2 8))))] rfl (by (try simp only [List.map_toArray, List.map_cons, List.map_nil]); first | done | rfl | (simp only [List.length_drop, List.length_take]; rfl)) ?_; (with_reducible refine (pack_Number.calls x1_5 (wrap64 (1 + (wrap64 (Int.tmod a2 8)))) t195 _ A15.out).mono ?_); rintro e w28 ⟨rfl, hb⟩; refine ⟨_, rfl, ?_⟩; have n0_ := Aside0.mk (below_step (by repeat (first | (with_reducible first | exact HB.out | apply below_alloc | apply pw_below_drewN | apply below_drew1) | exact HB.out)) hb); clear HB; have HB := n0_; clear n0_; (try clear hb); (try clear hb2); (try clear hk); (try clear hi)) | (go_at_call 12; (with_reducible refine (pack_Number.calls x0_5 0 t196 _ A21.out).mono ?_); rintro e w29 ⟨rfl, hb⟩; have n0_ := Aside0.mk (below_step (by repeat (first | (with_reducible first | exact HB.out | apply below_alloc | apply pw_below_drewN | apply below_drew1) | exact HB.out)) hb); clear HB; have HB := n0_; clear n0_; (try clear hb); (try clear hb2); (try clear hk); (try clear hi)) | (go_at_call 12; (with_reducible refine (pack_Number.calls x0_5 9 t197 _ A23.out).mono ?_); rintro e w30 ⟨rfl, hb⟩; have n0_ := Aside0.mk (below_step (by repeat (first | (with_reducible first | exact HB.out | apply below_alloc | apply pw_below_drewN | apply below_drew1) | exact HB.out)) hb); clear HB; have HB := n0_; clear n0_; (try clear hb); (try clear hb2); (try clear hk); (try clear hi)) | (go_at_call 12; (with_reducible refine (pack_Number.calls x0_5 (wrap64 (-(wrap64 (1 + (wrap64 (Int.tmod a2 8)))))) t198 _ A25.out).mono ?_); rintro e w31 ⟨rfl, hb⟩; have n0_ := Aside0.mk (below_step (by repeat (first | (with_reducible first | exact HB.out | apply below_alloc | apply pw_below_drewN | apply below_drew1) | exact HB.out)) hb); clear HB; have HB := n0_; clear n0_; (try clear hb); (try clear hb2); (try clear hk); (try clear hi)))
                        go_ret
                        exact ⟨by first | rfl | (simp [errW_none, errW_some] <;> rfl) | (simp [*, errW_none, errW_some] <;> rfl), by repeat (first | (with_reducible first | exact HB.out | apply below_alloc | apply pw_below_drewN | apply below_drew1) | exact HB.out)⟩
                      · rw [if_neg c26] at H
                        exact absurd H (by simp)
                    · rw [if_neg c24] at H
                      exact absurd H (by simp)
                  · rw [if_neg c22] at H
                    exact absurd H (by simp)
                · rw [if_neg c20] at H
                  exact absurd H (by simp)
              · rw [if_neg c19] at H
                have c19b0 : (t194.toList == t195.toList) = false := beq_eq_false_iff_ne.mpr c19
                have c19b1 : (t194.toList != t195.toList) = true := bne_iff_ne.mpr c19
                by_cases c32 : x0_5 = x1_5
                · rw [if_pos c32] at H
                  exact absurd H (by simp)
                · rw [if_neg c32] at H
                  have c32b0 : (x0_5 == x1_5) = false := beq_eq_false_iff_ne.mpr c32
                  have c32b1 : (x0_5 != x1_5) = true := bne_iff_ne.mpr c32
                  replace H := Option.bind_eq_some_iff.mp H
                  obtain ⟨t199, A330, H⟩ := H
                  replace H : (if t199.toList = ([] : List UInt8) then ((pack_Number.f x0_5 9).bind fun t200 => (if t200.toList = ([] : List UInt8) then ((pack_Number.f x0_5 (wrap64 (-(wrap64 (1 + (wrap64 (Int.tmod a2 8))))))).bind fun t201 => (if t201.toList = ([] : List UInt8) then (some true) else (none))) else (none))) else (none)) = some r := H
                  have A33 := Aside0.mk A330
                  clear A330
                  by_cases c34 : t199.toList = ([] : List UInt8)
                  · rw [if_pos c34] at H
                    have c34b0 : (t199.toList == ([] : List UInt8)) = true := beq_iff_eq.mpr c34
                    have c34b1 : (t199.toList != ([] : List UInt8)) = false := bne_eq_false_iff_eq.mpr c34
                    clear c34
                    replace H := Option.bind_eq_some_iff.mp H
                    obtain ⟨t200, A350, H⟩ := H
                    replace H : (if t200.toList = ([] : List UInt8) then ((pack_Number.f x0_5 (wrap64 (-(wrap64 (1 + (wrap64 (Int.tmod a2 8))))))).bind fun t201 => (if t201.toList = ([] : List UInt8) then (some true) else (none))) else (none)) = some r := H
                    have A35 := Aside0.mk A350
                    clear A350
                    by_cases c36 : t200.toList = ([] : List UInt8)
                    · rw [if_pos c36] at H
                      have c36b0 : (t200.toList == ([] : List UInt8)) = true := beq_iff_eq.mpr c36
                      have c36b1 : (t200.toList != ([] : List UInt8)) = false := bne_eq_false_iff_eq.mpr c36
                      clear c36
                      replace H := Option.bind_eq_some_iff.mp H
                      obtain ⟨t201, A370, H⟩ := H
                      replace H : (if t201.toList = ([] : List UInt8) then (some true) else (none)) = some r := H
                      have A37 := Aside0.mk A370
                      clear A370
                      by_cases c38 : t201.toList = ([] : List UInt8)
                      · rw [if_pos c38] at H
                        have c38b0 : (t201.toList == ([] : List UInt8)) = true := beq_iff_eq.mpr c38
                        have c38b1 : (t201.toList != ([] : List UInt8)) = false := bne_eq_false_iff_eq.mpr c38
                        clear c38
                        obtain rfl := Option.some.inj H
                        go_wp2_with (first | ((with_reducible refine gate_callee (f := 12) rfl ?_); refine goesL_ (some 32) rfl rfl Try.func12 (by kernel_rfl) rfl #[.int .u64 x0_5, .int .i64 (wrap64 (1 + (wrap64 (Int.tmod a2 8))))] rfl (by (try simp only [List.map_toArray, List.map_cons, List.map_nil]); first | done | rfl | (simp only [List.length_drop, List.length_take]; rfl)) ?_; (with_reducible refine (pack_Number.calls x0_5 (wrap64 (1 + (wrap64 (Int.tmod a2 8)))) t194 _ A14.out).mono ?_); rintro e w39 ⟨rfl, hb⟩; refine ⟨_, rfl, ?_⟩; have n0_ := Aside0.mk (below_step (by repeat (first | (with_reducible first | exact HB.out | apply below_alloc | apply pw_below_drewN | apply below_drew1) | exact HB.out)) hb); clear HB; have HB := n0_; clear n0_; (try clear hb); (try clear hb2); (try clear hk); (try clear hi)) | ((with_reducible refine gate_callee (f := 12) rfl ?_); refine goesL_ (some 35) rfl rfl Try.func12 (by kernel_rfl) rfl #[.int .u64 x1_5, .int .i64 (wrap64 (1 + (wrap64 (Int.tmod a2 8))))] rfl (by (try simp only [List.map_toArray, List.map_cons, List.map_nil]); first | done | rfl | (simp only [List.length_drop, List.length_take]; rfl)) ?_; (with_reducible refine (pack_Number.calls x1_5 (wrap64 (1 + (wrap64 (Int.tmod a2 8)))) t195 _ A15.out).mono ?_); rintro e w40 ⟨rfl, hb⟩; refine ⟨_, rfl, ?_⟩; have n0_ := Aside0.mk (below_step (by repeat (first | (with_reducible first | exact HB.out | apply below_alloc | apply pw_below_drewN | apply below_drew1) | exact HB.out)) hb); clear HB; have HB := n0_; clear n0_; (try clear hb); (try clear hb2); (try clear hk); (try clear hi)) | (go_at_call 12; (with_reducible refine (pack_Number.calls x0_5 0 t199 _ A33.out).mono ?_); rintro e w41 ⟨rfl, hb⟩; have n0_ := Aside0.mk (below_step (by repeat (first | (with_reducible first | exact HB.out | apply below_alloc | apply pw_below_drewN | apply below_drew1) | exact HB.out)) hb); clear HB; have HB := n0_; clear n0_; (try clear hb); (try clear hb2); (try clear hk); (try clear hi)) | (go_at_call 12; (with_reducible refine (pack_Number.calls x0_5 9 t200 _ A35.out).mono ?_); rintro e w42 ⟨rfl, hb⟩; have n0_ := Aside0.mk (below_step (by repeat (first | (with_reducible first | exact HB.out | apply below_alloc | apply pw_below_drewN | apply below_drew1) | exact HB.out)) hb); clear HB; have HB := n0_; clear n0_; (try clear hb); (try clear hb2); (try clear hk); (try clear hi)) | (go_at_call 12; (with_reducible refine (pack_Number.calls x0_5 (wrap64 (-(wrap64 (1 + (wrap64 (Int.tmod a2 8)))))) t201 _ A37.out).mono ?_); rintro e w43 ⟨rfl, hb⟩; have n0_ := Aside0.mk (below_step (by repeat (first | (with_reducible first | exact HB.out | apply below_alloc | apply pw_below_drewN | apply below_drew1) | exact HB.out)) hb); clear HB; have HB := n0_; clear n0_; (try clear hb); (try clear hb2); (try clear hk); (try clear hi)))
                        go_ret
                        exact ⟨by first | rfl | (simp [errW_none, errW_some] <;> rfl) | (simp [*, errW_none, errW_some] <;> rfl), by repeat (first | (with_reducible first | exact HB.out | apply below_alloc | apply pw_below_drewN | apply below_drew1) | exact HB.out)⟩
                      · rw [if_neg c38] at H
                        exact absurd H (by simp)
                    · rw [if_neg c36] at H
                      exact absurd H (by simp)
                  · rw [if_neg c34] at H
                    exact absurd H (by simp)
            · rw [if_neg c18] at H
              exact absurd H (by simp)
          · rw [if_neg c17] at H
            have c17b0 : (Op.bytesLess t194.toList t195.toList) = false := by simpa using c17
            clear c17
            by_cases c44 : x0_5 < x1_5
            · rw [if_pos c44] at H
              exact absurd H (by simp)
            · rw [if_neg c44] at H
              have c44b0 : decide (x0_5 < x1_5) = false := decide_eq_false c44
              clear c44
              by_cases c45 : t194.toList = t195.toList
              · rw [if_pos c45] at H
                have c45b0 : (t194.toList == t195.toList) = true := beq_iff_eq.mpr c45
                have c45b1 : (t194.toList != t195.toList) = false := bne_eq_false_iff_eq.mpr c45
                clear c45
                by_cases c46 : x0_5 = x1_5
                · rw [if_pos c46] at H
                  have c46b0 : (x0_5 == x1_5) = true := beq_iff_eq.mpr c46
                  have c46b1 : (x0_5 != x1_5) = false := bne_eq_false_iff_eq.mpr c46
                  clear c46
                  replace H := Option.bind_eq_some_iff.mp H
                  obtain ⟨t202, A470, H⟩ := H
                  replace H : (if t202.toList = ([] : List UInt8) then ((pack_Number.f x0_5 9).bind fun t203 => (if t203.toList = ([] : List UInt8) then ((pack_Number.f x0_5 (wrap64 (-(wrap64 (1 + (wrap64 (Int.tmod a2 8))))))).bind fun t204 => (if t204.toList = ([] : List UInt8) then (some true) else (none))) else (none))) else (none)) = some r := H
                  have A47 := Aside0.mk A470
                  clear A470
                  by_cases c48 : t202.toList = ([] : List UInt8)
                  · rw [if_pos c48] at H
                    have c48b0 : (t202.toList == ([] : List UInt8)) = true := beq_iff_eq.mpr c48
                    have c48b1 : (t202.toList != ([] : List UInt8)) = false := bne_eq_false_iff_eq.mpr c48
                    clear c48
                    replace H := Option.bind_eq_some_iff.mp H
                    obtain ⟨t203, A490, H⟩ := H
                    replace H : (if t203.toList = ([] : List UInt8) then ((pack_Number.f x0_5 (wrap64 (-(wrap64 (1 + (wrap64 (Int.tmod a2 8))))))).bind fun t204 => (if t204.toList = ([] : List UInt8) then (some true) else (none))) else (none)) = some r := H
                    have A49 := Aside0.mk A490
                    clear A490
                    by_cases c50 : t203.toList = ([] : List UInt8)
                    · rw [if_pos c50] at H
                      have c50b0 : (t203.toList == ([] : List UInt8)) = true := beq_iff_eq.mpr c50
                      have c50b1 : (t203.toList != ([] : List UInt8)) = false := bne_eq_false_iff_eq.mpr c50
                      clear c50
                      replace H := Option.bind_eq_some_iff.mp H
                      obtain ⟨t204, A510, H⟩ := H
                      replace H : (if t204.toList = ([] : List UInt8) then (some true) else (none)) = some r := H
                      have A51 := Aside0.mk A510
                      clear A510
                      by_cases c52 : t204.toList = ([] : List UInt8)
                      · rw [if_pos c52] at H
                        have c52b0 : (t204.toList == ([] : List UInt8)) = true := beq_iff_eq.mpr c52
                        have c52b1 : (t204.toList != ([] : List UInt8)) = false := bne_eq_false_iff_eq.mpr c52
                        clear c52
                        obtain rfl := Option.some.inj H
                        go_wp2_with (first | ((with_reducible refine gate_callee (f := 12) rfl ?_); refine goesL_ (some 32) rfl rfl Try.func12 (by kernel_rfl) rfl #[.int .u64 x0_5, .int .i64 (wrap64 (1 + (wrap64 (Int.tmod a2 8))))] rfl (by (try simp only [List.map_toArray, List.map_cons, List.map_nil]); first | done | rfl | (simp only [List.length_drop, List.length_take]; rfl)) ?_; (with_reducible refine (pack_Number.calls x0_5 (wrap64 (1 + (wrap64 (Int.tmod a2 8)))) t194 _ A14.out).mono ?_); rintro e w53 ⟨rfl, hb⟩; refine ⟨_, rfl, ?_⟩; have n0_ := Aside0.mk (below_step (by repeat (first | (with_reducible first | exact HB.out | apply below_alloc | apply pw_below_drewN | apply below_drew1) | exact HB.out)) hb); clear HB; have HB := n0_; clear n0_; (try clear hb); (try clear hb2); (try clear hk); (try clear hi)) | ((with_reducible refine gate_callee (f := 12) rfl ?_); refine goesL_ (some 35) rfl rfl Try.func12 (by kernel_rfl) rfl #[.int .u64 x1_5, .int .i64 (wrap64 (1 + (wrap64 (Int.tmod a2 8))))] rfl (by (try simp only [List.map_toArray, List.map_cons, List.map_nil]); first | done | rfl | (simp only [List.length_drop, List.length_take]; rfl)) ?_; (with_reducible refine (pack_Number.calls x1_5 (wrap64 (1 + (wrap64 (Int.tmod a2 8)))) t195 _ A15.out).mono ?_); rintro e w54 ⟨rfl, hb⟩; refine ⟨_, rfl, ?_⟩; have n0_ := Aside0.mk (below_step (by repeat (first | (with_reducible first | exact HB.out | apply below_alloc | apply pw_below_drewN | apply below_drew1) | exact HB.out)) hb); clear HB; have HB := n0_; clear n0_; (try clear hb); (try clear hb2); (try clear hk); (try clear hi)) | (go_at_call 12; (with_reducible refine (pack_Number.calls x0_5 0 t202 _ A47.out).mono ?_); rintro e w55 ⟨rfl, hb⟩; have n0_ := Aside0.mk (below_step (by repeat (first | (with_reducible first | exact HB.out | apply below_alloc | apply pw_below_drewN | apply below_drew1) | exact HB.out)) hb); clear HB; have HB := n0_; clear n0_; (try clear hb); (try clear hb2); (try clear hk); (try clear hi)) | (go_at_call 12; (with_reducible refine (pack_Number.calls x0_5 9 t203 _ A49.out).mono ?_); rintro e w56 ⟨rfl, hb⟩; have n0_ := Aside0.mk (below_step (by repeat (first | (with_reducible first | exact HB.out | apply below_alloc | apply pw_below_drewN | apply below_drew1) | exact HB.out)) hb); clear HB; have HB := n0_; clear n0_; (try clear hb); (try clear hb2); (try clear hk); (try clear hi)) | (go_at_call 12; (with_reducible refine (pack_Number.calls x0_5 (wrap64 (-(wrap64 (1 + (wrap64 (Int.tmod a2 8)))))) t204 _ A51.out).mono ?_); rintro e w57 ⟨rfl, hb⟩; have n0_ := Aside0.mk (below_step (by repeat (first | (with_reducible first | exact HB.out | apply below_alloc | apply pw_below_drewN | apply below_drew1) | exact HB.out)) hb); clear HB; have HB := n0_; clear n0_; (try clear hb); (try clear hb2); (try clear hk); (try clear hi)))
                        go_ret
                        exact ⟨by first | rfl | (simp [errW_none, errW_some] <;> rfl) | (simp [*, errW_none, errW_some] <;> rfl), by repeat (first | (with_reducible first | exact HB.out | apply below_alloc | apply pw_below_drewN | apply below_drew1) | exact HB.out)⟩
                      · rw [if_neg c52] at H
                        exact absurd H (by simp)
                    · rw [if_neg c50] at H
                      exact absurd H (by simp)
                  · rw [if_neg c48] at H
                    exact absurd H (by simp)
                · rw [if_neg c46] at H
                  exact absurd H (by simp)
              · rw [if_neg c45] at H
                have c45b0 : (t194.toList == t195.toList) = false := beq_eq_false_iff_ne.mpr c45
                have c45b1 : (t194.toList != t195.toList) = true := bne_iff_ne.mpr c45
                by_cases c58 : x0_5 = x1_5
                · rw [if_pos c58] at H
                  exact absurd H (by simp)
                · rw [if_neg c58] at H
                  have c58b0 : (x0_5 == x1_5) = false := beq_eq_false_iff_ne.mpr c58
                  have c58b1 : (x0_5 != x1_5) = true := bne_iff_ne.mpr c58
                  replace H := Option.bind_eq_some_iff.mp H
                  obtain ⟨t205, A590, H⟩ := H
                  replace H : (if t205.toList = ([] : List UInt8) then ((pack_Number.f x0_5 9).bind fun t206 => (if t206.toList = ([] : List UInt8) then ((pack_Number.f x0_5 (wrap64 (-(wrap64 (1 + (wrap64 (Int.tmod a2 8))))))).bind fun t207 => (if t207.toList = ([] : List UInt8) then (some true) else (none))) else (none))) else (none)) = some r := H
                  have A59 := Aside0.mk A590
                  clear A590
                  by_cases c60 : t205.toList = ([] : List UInt8)
                  · rw [if_pos c60] at H
                    have c60b0 : (t205.toList == ([] : List UInt8)) = true := beq_iff_eq.mpr c60
                    have c60b1 : (t205.toList != ([] : List UInt8)) = false := bne_eq_false_iff_eq.mpr c60
                    clear c60
                    replace H := Option.bind_eq_some_iff.mp H
                    obtain ⟨t206, A610, H⟩ := H
                    replace H : (if t206.toList = ([] : List UInt8) then ((pack_Number.f x0_5 (wrap64 (-(wrap64 (1 + (wrap64 (Int.tmod a2 8))))))).bind fun t207 => (if t207.toList = ([] : List UInt8) then (some true) else (none))) else (none)) = some r := H
                    have A61 := Aside0.mk A610
                    clear A610
                    by_cases c62 : t206.toList = ([] : List UInt8)
                    · rw [if_pos c62] at H
                      have c62b0 : (t206.toList == ([] : List UInt8)) = true := beq_iff_eq.mpr c62
                      have c62b1 : (t206.toList != ([] : List UInt8)) = false := bne_eq_false_iff_eq.mpr c62
                      clear c62
                      replace H := Option.bind_eq_some_iff.mp H
                      obtain ⟨t207, A630, H⟩ := H
                      replace H : (if t207.toList = ([] : List UInt8) then (some true) else (none)) = some r := H
                      have A63 := Aside0.mk A630
                      clear A630
                      by_cases c64 : t207.toList = ([] : List UInt8)
                      · rw [if_pos c64] at H
                        have c64b0 : (t207.toList == ([] : List UInt8)) = true := beq_iff_eq.mpr c64
                        have c64b1 : (t207.toList != ([] : List UInt8)) = false := bne_eq_false_iff_eq.mpr c64
                        clear c64
                        obtain rfl := Option.some.inj H
                        go_wp2_with (first | ((with_reducible refine gate_callee (f := 12) rfl ?_); refine goesL_ (some 32) rfl rfl Try.func12 (by kernel_rfl) rfl #[.int .u64 x0_5, .int .i64 (wrap64 (1 + (wrap64 (Int.tmod a2 8))))] rfl (by (try simp only [List.map_toArray, List.map_cons, List.map_nil]); first | done | rfl | (simp only [List.length_drop, List.length_take]; rfl)) ?_; (with_reducible refine (pack_Number.calls x0_5 (wrap64 (1 + (wrap64 (Int.tmod a2 8)))) t194 _ A14.out).mono ?_); rintro e w65 ⟨rfl, hb⟩; refine ⟨_, rfl, ?_⟩; have n0_ := Aside0.mk (below_step (by repeat (first | (with_reducible first | exact HB.out | apply below_alloc | apply pw_below_drewN | apply below_drew1) | exact HB.out)) hb); clear HB; have HB := n0_; clear n0_; (try clear hb); (try clear hb2); (try clear hk); (try clear hi)) | ((with_reducible refine gate_callee (f := 12) rfl ?_); refine goesL_ (some 35) rfl rfl Try.func12 (by kernel_rfl) rfl #[.int .u64 x1_5, .int .i64 (wrap64 (1 + (wrap64 (Int.tmod a2 8))))] rfl (by (try simp only [List.map_toArray, List.map_cons, List.map_nil]); first | done | rfl | (simp only [List.length_drop, List.length_take]; rfl)) ?_; (with_reducible refine (pack_Number.calls x1_5 (wrap64 (1 + (wrap64 (Int.tmod a2 8)))) t195 _ A15.out).mono ?_); rintro e w66 ⟨rfl, hb⟩; refine ⟨_, rfl, ?_⟩; have n0_ := Aside0.mk (below_step (by repeat (first | (with_reducible first | exact HB.out | apply below_alloc | apply pw_below_drewN | apply below_drew1) | exact HB.out)) hb); clear HB; have HB := n0_; clear n0_; (try clear hb); (try clear hb2); (try clear hk); (try clear hi)) | (go_at_call 12; (with_reducible refine (pack_Number.calls x0_5 0 t205 _ A59.out).mono ?_); rintro e w67 ⟨rfl, hb⟩; have n0_ := Aside0.mk (below_step (by repeat (first | (with_reducible first | exact HB.out | apply below_alloc | apply pw_below_drewN | apply below_drew1) | exact HB.out)) hb); clear HB; have HB := n0_; clear n0_; (try clear hb); (try clear hb2); (try clear hk); (try clear hi)) | (go_at_call 12; (with_reducible refine (pack_Number.calls x0_5 9 t206 _ A61.out).mono ?_); rintro e w68 ⟨rfl, hb⟩; have n0_ := Aside0.mk (below_step (by repeat (first | (with_reducible first | exact HB.out | apply below_alloc | apply pw_below_drewN | apply below_drew1) | exact HB.out)) hb); clear HB; have HB := n0_; clear n0_; (try clear hb); (try clear hb2); (try clear hk); (try clear hi)) | (go_at_call 12; (with_reducible refine (pack_Number.calls x0_5 (wrap64 (-(wrap64 (1 + (wrap64 (Int.tmod a2 8)))))) t207 _ A63.out).mono ?_); rintro e w69 ⟨rfl, hb⟩; have n0_ := Aside0.mk (below_step (by repeat (first | (with_reducible first | exact HB.out | apply below_alloc | apply pw_below_drewN | apply below_drew1) | exact HB.out)) hb); clear HB; have HB := n0_; clear n0_; (try clear hb); (try clear hb2); (try clear hk); (try clear hi)))
                        go_ret
                        exact ⟨by first | rfl | (simp [errW_none, errW_some] <;> rfl) | (simp [*, errW_none, errW_some] <;> rfl), by repeat (first | (with_reducible first | exact HB.out | apply below_alloc | apply pw_below_drewN | apply below_drew1) | exact HB.out)⟩
                      · rw [if_neg c64] at H
                        exact absurd H (by simp)
                    · rw [if_neg c62] at H
                      exact absurd H (by simp)
                  · rw [if_neg c60] at H
                    exact absurd H (by simp)
        · rw [if_neg c16] at H
          exact absurd H (by simp)
  · replace c5 := Bool.eq_false_iff.mpr c5
    subst c5
    have H1 : (none) = some r := by rw [if_neg (show ¬ (false = true) by decide)] at H; exact H
    clear H
    have H := H1
    clear H1
    exact absurd H (by simp)

/-- THE ONE PURE STATEMENT of tenementlaw02_PackOrder: yours. -/
def tenementlaw02_PackOrder.Pure : Prop := ∀ (a0 : Int) (a1 : Int) (a2 : Int), (Lit.int .u64 a0).wf = true → (Lit.int .u64 a1).wf = true → (Lit.int .u8 a2).wf = true → ∃ k, tenementlaw02_PackOrder.f k a0 a1 a2 = some true
theorem tenementlaw02_PackOrder.walk (P : tenementlaw02_PackOrder.Pure) (a0 : Int) (a1 : Int) (a2 : Int) (w : World) (w0 : (Lit.int .u64 a0).wf = true) (w1 : (Lit.int .u64 a1).wf = true) (w2 : (Lit.int .u8 a2).wf = true) :
    Calls Try.prog 4 #[.int .u64 a0, .int .u64 a1, .int .u8 a2] w fun e w' => e = .returned (.bool true) ∧ Below w.heap.size w w' := by
  obtain ⟨k, h⟩ := P a0 a1 a2 w0 w1 w2
  refine (tenementlaw02_PackOrder.calls k a0 a1 a2 true w h).mono ?_
  rintro e w' ⟨rfl, hd⟩
  exact ⟨rfl, hd⟩

end Go.Proofs.Ytlpipngfpcpfbaa.Q
