-- Written by this session's own driver (wip/hybrid.py) of the kit's printer; contracts marked FOREIGN are by hand.
import Derived.Test.YtlngbigddbklpaaQx0
import Derived.Test.YtlngbigddbklpaaQx2
import Derived.Test.YtlngbigddbklpaaQx4
import Derived.Test.YtlngbigddbklpaaQx5
namespace Go.Proofs.Ytlngbigddbklpaa.Q
open Go.RowKit Go.Proofs.YtlngbigddbklpaaW.PrintWords Go.Proofs.YtlngbigddbklpaaW.PrintLast Go.Proofs.YtlngbigddbklpaaW.PrintMore
attribute [local go_sem] max2_int min2_int max_two min_two max_three min_three max_four min_four   -- for this text's walks alone
set_option linter.unusedVariables false
set_option linter.unusedSimpArgs false

/-! ### tenementlaw01_CrcJoins: function 4 -/
def tenementlaw01_CrcJoins.f (k : Nat) (a0 : ByteArray) (a1 : ByteArray) (a2 : ByteArray) : Option (Bool) := (tenementlaw01_examples.f k).bind fun t123 => (if t123 = true then ((crc_Sum.f k a0).bind fun t124 => ((crc_Sum.f k a1).bind fun t125 => ((crc_Sum.f k a2).bind fun t126 => ((crc_Join.f k t124 t125 (a1.size : Int)).bind fun t127 => ((crc_Join.f k t127 t126 (a2.size : Int)).bind fun t128 => ((crc_Join.f k t125 t126 (a2.size : Int)).bind fun t129 => ((crc_Join.f k t124 t129 (wrap64 ((a1.size : Int) + (a2.size : Int)))).bind fun t130 => (if (wrap64 ((a1.size : Int) + (a2.size : Int))) > 4096 then (some true) else (if a0.size + a1.size ≤ 9223372036854775807 then ((crc_Sum.f k (a0 ++ a1)).bind fun t131 => ((crc_Join.f k t124 t125 (a1.size : Int)).bind fun t132 => (if t131 = t132 then (if (a0 ++ a1).size + a2.size ≤ 9223372036854775807 then ((crc_Sum.f k ((a0 ++ a1) ++ a2)).bind fun t133 => (if t133 = t128 then (if t128 = t130 then (some true) else (none)) else (none))) else (none)) else (none)))) else (none)))))))))) else (none))
theorem tenementlaw01_CrcJoins.mono : ∀ a0 a1 a2 k, LeO (tenementlaw01_CrcJoins.f k a0 a1 a2) (tenementlaw01_CrcJoins.f (k + 1) a0 a1 a2) := by
  intro a0 a1 a2 k
  unfold tenementlaw01_CrcJoins.f
  repeat' first
      | (with_reducible exact crc_Join.mono _ _ _ _)
      | (with_reducible exact crc_Sum.mono _ _)
      | (with_reducible exact tenementlaw01_examples.mono _)
      | (with_reducible exact LeO.refl _)
      | (with_reducible exact LeO.none _)
      | (with_reducible refine LeO.ite ?_ ?_)
      | (with_reducible refine LeO.bind ?_ (fun _ => ?_))
      | exact crc_Join.mono _ _ _ _
      | exact crc_Sum.mono _ _
      | exact tenementlaw01_examples.mono _
      | exact LeO.none _
      | refine LeO.ite ?_ ?_
      | refine LeO.bind ?_ (fun _ => ?_)
set_option maxHeartbeats 8000000 in
set_option maxRecDepth 100000 in
theorem tenementlaw01_CrcJoins.calls (k : Nat) (a0 : ByteArray) (a1 : ByteArray) (a2 : ByteArray) (r : Bool) (w : World) (h : tenementlaw01_CrcJoins.f k a0 a1 a2 = some r) :
    Calls Try.prog 4 #[.string a0, .string a1, .string a2] w fun e w' => e = .returned (.bool r) ∧ Below w.heap.size w w' := by
  have HB := Aside0.mk (Below.refl w.heap.size w)
  have H : ((tenementlaw01_examples.f k).bind fun t123 => (if t123 = true then ((crc_Sum.f k a0).bind fun t124 => ((crc_Sum.f k a1).bind fun t125 => ((crc_Sum.f k a2).bind fun t126 => ((crc_Join.f k t124 t125 (a1.size : Int)).bind fun t127 => ((crc_Join.f k t127 t126 (a2.size : Int)).bind fun t128 => ((crc_Join.f k t125 t126 (a2.size : Int)).bind fun t129 => ((crc_Join.f k t124 t129 (wrap64 ((a1.size : Int) + (a2.size : Int)))).bind fun t130 => (if (wrap64 ((a1.size : Int) + (a2.size : Int))) > 4096 then (some true) else (if a0.size + a1.size ≤ 9223372036854775807 then ((crc_Sum.f k (a0 ++ a1)).bind fun t131 => ((crc_Join.f k t124 t125 (a1.size : Int)).bind fun t132 => (if t131 = t132 then (if (a0 ++ a1).size + a2.size ≤ 9223372036854775807 then ((crc_Sum.f k ((a0 ++ a1) ++ a2)).bind fun t133 => (if t133 = t128 then (if t128 = t130 then (some true) else (none)) else (none))) else (none)) else (none)))) else (none)))))))))) else (none))) = some r := h
  (try (have Hs_ := H; simp only [ByteArray.size_append, Int.natCast_add] at Hs_))
  clear h
  replace H := Option.bind_eq_some_iff.mp H
  obtain ⟨t123, A40, H⟩ := H
  replace H : (if t123 = true then ((crc_Sum.f k a0).bind fun t124 => ((crc_Sum.f k a1).bind fun t125 => ((crc_Sum.f k a2).bind fun t126 => ((crc_Join.f k t124 t125 (a1.size : Int)).bind fun t127 => ((crc_Join.f k t127 t126 (a2.size : Int)).bind fun t128 => ((crc_Join.f k t125 t126 (a2.size : Int)).bind fun t129 => ((crc_Join.f k t124 t129 (wrap64 ((a1.size : Int) + (a2.size : Int)))).bind fun t130 => (if (wrap64 ((a1.size : Int) + (a2.size : Int))) > 4096 then (some true) else (if a0.size + a1.size ≤ 9223372036854775807 then ((crc_Sum.f k (a0 ++ a1)).bind fun t131 => ((crc_Join.f k t124 t125 (a1.size : Int)).bind fun t132 => (if t131 = t132 then (if (a0 ++ a1).size + a2.size ≤ 9223372036854775807 then ((crc_Sum.f k ((a0 ++ a1) ++ a2)).bind fun t133 => (if t133 = t128 then (if t128 = t130 then (some true) else (none)) else (none))) else (none)) else (none)))) else (none)))))))))) else (none)) = some r := H
  have A4 := Aside0.mk A40
  clear A40
  by_cases c5 : t123 = true
  · subst c5
    have H1 : ((crc_Sum.f k a0).bind fun t124 => ((crc_Sum.f k a1).bind fun t125 => ((crc_Sum.f k a2).bind fun t126 => ((crc_Join.f k t124 t125 (a1.size : Int)).bind fun t127 => ((crc_Join.f k t127 t126 (a2.size : Int)).bind fun t128 => ((crc_Join.f k t125 t126 (a2.size : Int)).bind fun t129 => ((crc_Join.f k t124 t129 (wrap64 ((a1.size : Int) + (a2.size : Int)))).bind fun t130 => (if (wrap64 ((a1.size : Int) + (a2.size : Int))) > 4096 then (some true) else (if a0.size + a1.size ≤ 9223372036854775807 then ((crc_Sum.f k (a0 ++ a1)).bind fun t131 => ((crc_Join.f k t124 t125 (a1.size : Int)).bind fun t132 => (if t131 = t132 then (if (a0 ++ a1).size + a2.size ≤ 9223372036854775807 then ((crc_Sum.f k ((a0 ++ a1) ++ a2)).bind fun t133 => (if t133 = t128 then (if t128 = t130 then (some true) else (none)) else (none))) else (none)) else (none)))) else (none)))))))))) = some r := by rw [if_pos rfl] at H; exact H
    clear H
    have H := H1
    clear H1
    replace H := Option.bind_eq_some_iff.mp H
    obtain ⟨t124, A60, H⟩ := H
    replace H : ((crc_Sum.f k a1).bind fun t125 => ((crc_Sum.f k a2).bind fun t126 => ((crc_Join.f k t124 t125 (a1.size : Int)).bind fun t127 => ((crc_Join.f k t127 t126 (a2.size : Int)).bind fun t128 => ((crc_Join.f k t125 t126 (a2.size : Int)).bind fun t129 => ((crc_Join.f k t124 t129 (wrap64 ((a1.size : Int) + (a2.size : Int)))).bind fun t130 => (if (wrap64 ((a1.size : Int) + (a2.size : Int))) > 4096 then (some true) else (if a0.size + a1.size ≤ 9223372036854775807 then ((crc_Sum.f k (a0 ++ a1)).bind fun t131 => ((crc_Join.f k t124 t125 (a1.size : Int)).bind fun t132 => (if t131 = t132 then (if (a0 ++ a1).size + a2.size ≤ 9223372036854775807 then ((crc_Sum.f k ((a0 ++ a1) ++ a2)).bind fun t133 => (if t133 = t128 then (if t128 = t130 then (some true) else (none)) else (none))) else (none)) else (none)))) else (none))))))))) = some r := H
    have A6 := Aside0.mk A60
    clear A60
    replace H := Option.bind_eq_some_iff.mp H
    obtain ⟨t125, A70, H⟩ := H
    replace H : ((crc_Sum.f k a2).bind fun t126 => ((crc_Join.f k t124 t125 (a1.size : Int)).bind fun t127 => ((crc_Join.f k t127 t126 (a2.size : Int)).bind fun t128 => ((crc_Join.f k t125 t126 (a2.size : Int)).bind fun t129 => ((crc_Join.f k t124 t129 (wrap64 ((a1.size : Int) + (a2.size : Int)))).bind fun t130 => (if (wrap64 ((a1.size : Int) + (a2.size : Int))) > 4096 then (some true) else (if a0.size + a1.size ≤ 9223372036854775807 then ((crc_Sum.f k (a0 ++ a1)).bind fun t131 => ((crc_Join.f k t124 t125 (a1.size : Int)).bind fun t132 => (if t131 = t132 then (if (a0 ++ a1).size + a2.size ≤ 9223372036854775807 then ((crc_Sum.f k ((a0 ++ a1) ++ a2)).bind fun t133 => (if t133 = t128 then (if t128 = t130 then (some true) else (none)) else (none))) else (none)) else (none)))) else (none)))))))) = some r := H
    have A7 := Aside0.mk A70
    clear A70
    replace H := Option.bind_eq_some_iff.mp H
    obtain ⟨t126, A80, H⟩ := H
    replace H : ((crc_Join.f k t124 t125 (a1.size : Int)).bind fun t127 => ((crc_Join.f k t127 t126 (a2.size : Int)).bind fun t128 => ((crc_Join.f k t125 t126 (a2.size : Int)).bind fun t129 => ((crc_Join.f k t124 t129 (wrap64 ((a1.size : Int) + (a2.size : Int)))).bind fun t130 => (if (wrap64 ((a1.size : Int) + (a2.size : Int))) > 4096 then (some true) else (if a0.size + a1.size ≤ 9223372036854775807 then ((crc_Sum.f k (a0 ++ a1)).bind fun t131 => ((crc_Join.f k t124 t125 (a1.size : Int)).bind fun t132 => (if t131 = t132 then (if (a0 ++ a1).size + a2.size ≤ 9223372036854775807 then ((crc_Sum.f k ((a0 ++ a1) ++ a2)).bind fun t133 => (if t133 = t128 then (if t128 = t130 then (some true) else (none)) else (none))) else (none)) else (none)))) else (none))))))) = some r := H
    have A8 := Aside0.mk A80
    clear A80
    replace H := Option.bind_eq_some_iff.mp H
    obtain ⟨t127, A90, H⟩ := H
    replace H : ((crc_Join.f k t127 t126 (a2.size : Int)).bind fun t128 => ((crc_Join.f k t125 t126 (a2.size : Int)).bind fun t129 => ((crc_Join.f k t124 t129 (wrap64 ((a1.size : Int) + (a2.size : Int)))).bind fun t130 => (if (wrap64 ((a1.size : Int) + (a2.size : Int))) > 4096 then (some true) else (if a0.size + a1.size ≤ 9223372036854775807 then ((crc_Sum.f k (a0 ++ a1)).bind fun t131 => ((crc_Join.f k t124 t125 (a1.size : Int)).bind fun t132 => (if t131 = t132 then (if (a0 ++ a1).size + a2.size ≤ 9223372036854775807 then ((crc_Sum.f k ((a0 ++ a1) ++ a2)).bind fun t133 => (if t133 = t128 then (if t128 = t130 then (some true) else (none)) else (none))) else (none)) else (none)))) else (none)))))) = some r := H
    have A9 := Aside0.mk A90
    clear A90
    replace H := Option.bind_eq_some_iff.mp H
    obtain ⟨t128, A100, H⟩ := H
    replace H : ((crc_Join.f k t125 t126 (a2.size : Int)).bind fun t129 => ((crc_Join.f k t124 t129 (wrap64 ((a1.size : Int) + (a2.size : Int)))).bind fun t130 => (if (wrap64 ((a1.size : Int) + (a2.size : Int))) > 4096 then (some true) else (if a0.size + a1.size ≤ 9223372036854775807 then ((crc_Sum.f k (a0 ++ a1)).bind fun t131 => ((crc_Join.f k t124 t125 (a1.size : Int)).bind fun t132 => (if t131 = t132 then (if (a0 ++ a1).size + a2.size ≤ 9223372036854775807 then ((crc_Sum.f k ((a0 ++ a1) ++ a2)).bind fun t133 => (if t133 = t128 then (if t128 = t130 then (some true) else (none)) else (none))) else (none)) else (none)))) else (none))))) = some r := H
    have A10 := Aside0.mk A100
    clear A100
    replace H := Option.bind_eq_some_iff.mp H
    obtain ⟨t129, A110, H⟩ := H
    replace H : ((crc_Join.f k t124 t129 (wrap64 ((a1.size : Int) + (a2.size : Int)))).bind fun t130 => (if (wrap64 ((a1.size : Int) + (a2.size : Int))) > 4096 then (some true) else (if a0.size + a1.size ≤ 9223372036854775807 then ((crc_Sum.f k (a0 ++ a1)).bind fun t131 => ((crc_Join.f k t124 t125 (a1.size : Int)).bind fun t132 => (if t131 = t132 then (if (a0 ++ a1).size + a2.size ≤ 9223372036854775807 then ((crc_Sum.f k ((a0 ++ a1) ++ a2)).bind fun t133 => (if t133 = t128 then (if t128 = t130 then (some true) else (none)) else (none))) else (none)) else (none)))) else (none)))) = some r := H
    have A11 := Aside0.mk A110
    clear A110
    replace H := Option.bind_eq_some_iff.mp H
    obtain ⟨t130, A120, H⟩ := H
    replace H : (if (wrap64 ((a1.size : Int) + (a2.size : Int))) > 4096 then (some true) else (if a0.size + a1.size ≤ 9223372036854775807 then ((crc_Sum.f k (a0 ++ a1)).bind fun t131 => ((crc_Join.f k t124 t125 (a1.size : Int)).bind fun t132 => (if t131 = t132 then (if (a0 ++ a1).size + a2.size ≤ 9223372036854775807 then ((crc_Sum.f k ((a0 ++ a1) ++ a2)).bind fun t133 => (if t133 = t128 then (if t128 = t130 then (some true) else (none)) else (none))) else (none)) else (none)))) else (none))) = some r := H
    have A12 := Aside0.mk A120
    clear A120
    by_cases c13 : (wrap64 ((a1.size : Int) + (a2.size : Int))) > 4096
    · rw [if_pos c13] at H
      have c13b0 : decide (4096 < (wrap64 ((a1.size : Int) + (a2.size : Int)))) = true := decide_eq_true c13
      clear c13
      obtain rfl := Option.some.inj H
      go_enter Try.func4, Try.ntmps4
      go_wp2_with (first | ((with_reducible refine gate_callee (f := 7) rfl ?_); refine goesL_ (some 14) rfl rfl Try.func7 (by kernel_rfl) rfl #[] rfl (by (try simp only [List.map_toArray, List.map_cons, List.map_nil]); first | done | rfl | (simp only [List.length_drop, List.length_take]; rfl)) ?_; (with_reducible refine (tenementlaw01_examples.calls k  true _ A4.out).mono ?_); rintro e w14 ⟨rfl, hb⟩; refine ⟨_, rfl, ?_⟩; have n0_ := Aside0.mk (below_step (by repeat (first | (with_reducible first | exact HB.out | apply below_alloc | apply pw_below_drewN | apply below_drew1) | exact HB.out)) hb); clear HB; have HB := n0_; clear n0_; (try clear hb); (try clear hb2); (try clear hk); (try clear hi)) | ((with_reducible refine gate_callee (f := 9) rfl ?_); refine goesL_ (some 18) rfl rfl Try.func9 (by kernel_rfl) rfl #[.string a0] rfl (by (try simp only [List.map_toArray, List.map_cons, List.map_nil]); first | done | rfl | (simp only [List.length_drop, List.length_take]; rfl)) ?_; (with_reducible refine (crc_Sum.calls k a0 t124 _ A6.out).mono ?_); rintro e w15 ⟨rfl, hb⟩; refine ⟨_, rfl, ?_⟩; have n0_ := Aside0.mk (below_step (by repeat (first | (with_reducible first | exact HB.out | apply below_alloc | apply pw_below_drewN | apply below_drew1) | exact HB.out)) hb); clear HB; have HB := n0_; clear n0_; (try clear hb); (try clear hb2); (try clear hk); (try clear hi)) | ((with_reducible refine gate_callee (f := 9) rfl ?_); refine goesL_ (some 20) rfl rfl Try.func9 (by kernel_rfl) rfl #[.string a1] rfl (by (try simp only [List.map_toArray, List.map_cons, List.map_nil]); first | done | rfl | (simp only [List.length_drop, List.length_take]; rfl)) ?_; (with_reducible refine (crc_Sum.calls k a1 t125 _ A7.out).mono ?_); rintro e w16 ⟨rfl, hb⟩; refine ⟨_, rfl, ?_⟩; have n0_ := Aside0.mk (below_step (by repeat (first | (with_reducible first | exact HB.out | apply below_alloc | apply pw_below_drewN | apply below_drew1) | exact HB.out)) hb); clear HB; have HB := n0_; clear n0_; (try clear hb); (try clear hb2); (try clear hk); (try clear hi)) | ((with_reducible refine gate_callee (f := 9) rfl ?_); refine goesL_ (some 22) rfl rfl Try.func9 (by kernel_rfl) rfl #[.string a2] rfl (by (try simp only [List.map_toArray, List.map_cons, List.map_nil]); first | done | rfl | (simp only [List.length_drop, List.length_take]; rfl)) ?_; (with_reducible refine (crc_Sum.calls k a2 t126 _ A8.out).mono ?_); rintro e w17 ⟨rfl, hb⟩; refine ⟨_, rfl, ?_⟩; have n0_ := Aside0.mk (below_step (by repeat (first | (with_reducible first | exact HB.out | apply below_alloc | apply pw_below_drewN | apply below_drew1) | exact HB.out)) hb); clear HB; have HB := n0_; clear n0_; (try clear hb); (try clear hb2); (try clear hk); (try clear hi)) | ((with_reducible refine gate_callee (f := 11) rfl ?_); refine goesL_ (some 27) rfl rfl Try.func11 (by kernel_rfl) rfl #[.int .u32 t124, .int .u32 t125, .int .i64 (a1.size : Int)] rfl (by (try simp only [List.map_toArray, List.map_cons, List.map_nil]); first | done | rfl | (simp only [List.length_drop, List.length_take]; rfl)) ?_; (with_reducible refine (crc_Join.calls k t124 t125 (a1.size : Int) t127 _ A9.out).mono ?_); rintro e w18 ⟨rfl, hb⟩; refine ⟨_, rfl, ?_⟩; have n0_ := Aside0.mk (below_step (by repeat (first | (with_reducible first | exact HB.out | apply below_alloc | apply pw_below_drewN | apply below_drew1) | exact HB.out)) hb); clear HB; have HB := n0_; clear n0_; (try clear hb); (try clear hb2); (try clear hk); (try clear hi)) | ((with_reducible refine gate_callee (f := 11) rfl ?_); refine goesL_ (some 31) rfl rfl Try.func11 (by kernel_rfl) rfl #[.int .u32 t127, .int .u32 t126, .int .i64 (a2.size : Int)] rfl (by (try simp only [List.map_toArray, List.map_cons, List.map_nil]); first | done | rfl | (simp only [List.length_drop, List.length_take]; rfl)) ?_; (with_reducible refine (crc_Join.calls k t127 t126 (a2.size : Int) t128 _ A10.out).mono ?_); rintro e w19 ⟨rfl, hb⟩; refine ⟨_, rfl, ?_⟩; have n0_ := Aside0.mk (below_step (by repeat (first | (with_reducible first | exact HB.out | apply below_alloc | apply pw_below_drewN | apply below_drew1) | exact HB.out)) hb); clear HB; have HB := n0_; clear n0_; (try clear hb); (try clear hb2); (try clear hk); (try clear hi)) | ((with_reducible refine gate_callee (f := 11) rfl ?_); refine goesL_ (some 37) rfl rfl Try.func11 (by kernel_rfl) rfl #[.int .u32 t125, .int .u32 t126, .int .i64 (a2.size : Int)] rfl (by (try simp only [List.map_toArray, List.map_cons, List.map_nil]); first | done | rfl | (simp only [List.length_drop, List.length_take]; rfl)) ?_; (with_reducible refine (crc_Join.calls k t125 t126 (a2.size : Int) t129 _ A11.out).mono ?_); rintro e w20 ⟨rfl, hb⟩; refine ⟨_, rfl, ?_⟩; have n0_ := Aside0.mk (below_step (by repeat (first | (with_reducible first | exact HB.out | apply below_alloc | apply pw_below_drewN | apply below_drew1) | exact HB.out)) hb); clear HB; have HB := n0_; clear n0_; (try clear hb); (try clear hb2); (try clear hk); (try clear hi)) | ((with_reducible refine gate_callee (f := 11) rfl ?_); refine goesL_ (some 43) rfl rfl Try.func11 (by kernel_rfl) rfl #[.int .u32 t124, .int .u32 t129, .int .i64 (wrap64 ((a1.size : Int) + (a2.size : Int)))] rfl (by (try simp only [List.map_toArray, List.map_cons, List.map_nil]); first | done | rfl | (simp only [List.length_drop, List.length_take]; rfl)) ?_; (with_reducible refine (crc_Join.calls k t124 t129 (wrap64 ((a1.size : Int) + (a2.size : Int))) t130 _ A12.out).mono ?_); rintro e w21 ⟨rfl, hb⟩; refine ⟨_, rfl, ?_⟩; have n0_ := Aside0.mk (below_step (by repeat (first | (with_reducible first | exact HB.out | apply below_alloc | apply pw_below_drewN | apply below_drew1) | exact HB.out)) hb); clear HB; have HB := n0_; clear n0_; (try clear hb); (try clear hb2); (try clear hk); (try clear hi)))
      go_ret
      exact ⟨by first | rfl | (simp [errW_none, errW_some] <;> rfl) | (simp [*, errW_none, errW_some] <;> rfl), by repeat (first | (with_reducible first | exact HB.out | apply below_alloc | apply pw_below_drewN | apply below_drew1) | exact HB.out)⟩
    · rw [if_neg c13] at H
      have c13b0 : decide (4096 < (wrap64 ((a1.size : Int) + (a2.size : Int)))) = false := decide_eq_false c13
      clear c13
      by_cases c22 : a0.size + a1.size ≤ 9223372036854775807
      · rw [if_pos c22] at H
        have c22b0 := eq_true c22
        have c22b1 : decide (a0.size + a1.size ≤ 9223372036854775807) = true := decide_eq_true c22
        try have c22b2 : (9223372036854775807 < a0.size + a1.size) = False := eq_false (Nat.not_lt.2 c22)
        replace H := Option.bind_eq_some_iff.mp H
        obtain ⟨t131, A230, H⟩ := H
        replace H : ((crc_Join.f k t124 t125 (a1.size : Int)).bind fun t132 => (if t131 = t132 then (if (a0 ++ a1).size + a2.size ≤ 9223372036854775807 then ((crc_Sum.f k ((a0 ++ a1) ++ a2)).bind fun t133 => (if t133 = t128 then (if t128 = t130 then (some true) else (none)) else (none))) else (none)) else (none))) = some r := H
        have A23 := Aside0.mk A230
        clear A230
        replace H := Option.bind_eq_some_iff.mp H
        obtain ⟨t132, A240, H⟩ := H
        replace H : (if t131 = t132 then (if (a0 ++ a1).size + a2.size ≤ 9223372036854775807 then ((crc_Sum.f k ((a0 ++ a1) ++ a2)).bind fun t133 => (if t133 = t128 then (if t128 = t130 then (some true) else (none)) else (none))) else (none)) else (none)) = some r := H
        have A24 := Aside0.mk A240
        clear A240
        by_cases c25 : t131 = t132
        · rw [if_pos c25] at H
          have c25b0 : (t131 == t132) = true := beq_iff_eq.mpr c25
          have c25b1 : (t131 != t132) = false := bne_eq_false_iff_eq.mpr c25
          clear c25
          by_cases c26 : (a0 ++ a1).size + a2.size ≤ 9223372036854775807
          · rw [if_pos c26] at H
            have c26b0 := eq_true c26
            (try (have c26b0s_ := c26b0; simp only [ByteArray.size_append, Int.natCast_add] at c26b0s_))
            have c26b1 : decide ((a0 ++ a1).size + a2.size ≤ 9223372036854775807) = true := decide_eq_true c26
            (try (have c26b1s_ := c26b1; simp only [ByteArray.size_append, Int.natCast_add] at c26b1s_))
            try have c26b2 : (9223372036854775807 < (a0 ++ a1).size + a2.size) = False := eq_false (Nat.not_lt.2 c26)
            (try (have c26b2s_ := c26b2; simp only [ByteArray.size_append, Int.natCast_add] at c26b2s_))
            replace H := Option.bind_eq_some_iff.mp H
            obtain ⟨t133, A270, H⟩ := H
            replace H : (if t133 = t128 then (if t128 = t130 then (some true) else (none)) else (none)) = some r := H
            have A27 := Aside0.mk A270
            clear A270
            by_cases c28 : t133 = t128
            · rw [if_pos c28] at H
              have c28b0 : (t133 == t128) = true := beq_iff_eq.mpr c28
              have c28b1 : (t133 != t128) = false := bne_eq_false_iff_eq.mpr c28
              clear c28
              by_cases c29 : t128 = t130
              · rw [if_pos c29] at H
                have c29b0 : (t128 == t130) = true := beq_iff_eq.mpr c29
                have c29b1 : (t128 != t130) = false := bne_eq_false_iff_eq.mpr c29
                clear c29
                obtain rfl := Option.some.inj H
                go_enter Try.func4, Try.ntmps4
                go_wp2_with (first | ((with_reducible refine gate_callee (f := 7) rfl ?_); refine goesL_ (some 14) rfl rfl Try.func7 (by kernel_rfl) rfl #[] rfl (by (try simp only [List.map_toArray, List.map_cons, List.map_nil]); first | done | rfl | (simp only [List.length_drop, List.length_take]; rfl)) ?_; (with_reducible refine (tenementlaw01_examples.calls k  true _ A4.out).mono ?_); rintro e w30 ⟨rfl, hb⟩; refine ⟨_, rfl, ?_⟩; have n0_ := Aside0.mk (below_step (by repeat (first | (with_reducible first | exact HB.out | apply below_alloc | apply pw_below_drewN | apply below_drew1) | exact HB.out)) hb); clear HB; have HB := n0_; clear n0_; (try clear hb); (try clear hb2); (try clear hk); (try clear hi)) | ((with_reducible refine gate_callee (f := 9) rfl ?_); refine goesL_ (some 18) rfl rfl Try.func9 (by kernel_rfl) rfl #[.string a0] rfl (by (try simp only [List.map_toArray, List.map_cons, List.map_nil]); first | done | rfl | (simp only [List.length_drop, List.length_take]; rfl)) ?_; (with_reducible refine (crc_Sum.calls k a0 t124 _ A6.out).mono ?_); rintro e w31 ⟨rfl, hb⟩; refine ⟨_, rfl, ?_⟩; have n0_ := Aside0.mk (below_step (by repeat (first | (with_reducible first | exact HB.out | apply below_alloc | apply pw_below_drewN | apply below_drew1) | exact HB.out)) hb); clear HB; have HB := n0_; clear n0_; (try clear hb); (try clear hb2); (try clear hk); (try clear hi)) | ((with_reducible refine gate_callee (f := 9) rfl ?_); refine goesL_ (some 20) rfl rfl Try.func9 (by kernel_rfl) rfl #[.string a1] rfl (by (try simp only [List.map_toArray, List.map_cons, List.map_nil]); first | done | rfl | (simp only [List.length_drop, List.length_take]; rfl)) ?_; (with_reducible refine (crc_Sum.calls k a1 t125 _ A7.out).mono ?_); rintro e w32 ⟨rfl, hb⟩; refine ⟨_, rfl, ?_⟩; have n0_ := Aside0.mk (below_step (by repeat (first | (with_reducible first | exact HB.out | apply below_alloc | apply pw_below_drewN | apply below_drew1) | exact HB.out)) hb); clear HB; have HB := n0_; clear n0_; (try clear hb); (try clear hb2); (try clear hk); (try clear hi)) | ((with_reducible refine gate_callee (f := 9) rfl ?_); refine goesL_ (some 22) rfl rfl Try.func9 (by kernel_rfl) rfl #[.string a2] rfl (by (try simp only [List.map_toArray, List.map_cons, List.map_nil]); first | done | rfl | (simp only [List.length_drop, List.length_take]; rfl)) ?_; (with_reducible refine (crc_Sum.calls k a2 t126 _ A8.out).mono ?_); rintro e w33 ⟨rfl, hb⟩; refine ⟨_, rfl, ?_⟩; have n0_ := Aside0.mk (below_step (by repeat (first | (with_reducible first | exact HB.out | apply below_alloc | apply pw_below_drewN | apply below_drew1) | exact HB.out)) hb); clear HB; have HB := n0_; clear n0_; (try clear hb); (try clear hb2); (try clear hk); (try clear hi)) | ((with_reducible refine gate_callee (f := 11) rfl ?_); refine goesL_ (some 27) rfl rfl Try.func11 (by kernel_rfl) rfl #[.int .u32 t124, .int .u32 t125, .int .i64 (a1.size : Int)] rfl (by (try simp only [List.map_toArray, List.map_cons, List.map_nil]); first | done | rfl | (simp only [List.length_drop, List.length_take]; rfl)) ?_; (with_reducible refine (crc_Join.calls k t124 t125 (a1.size : Int) t127 _ A9.out).mono ?_); rintro e w34 ⟨rfl, hb⟩; refine ⟨_, rfl, ?_⟩; have n0_ := Aside0.mk (below_step (by repeat (first | (with_reducible first | exact HB.out | apply below_alloc | apply pw_below_drewN | apply below_drew1) | exact HB.out)) hb); clear HB; have HB := n0_; clear n0_; (try clear hb); (try clear hb2); (try clear hk); (try clear hi)) | ((with_reducible refine gate_callee (f := 11) rfl ?_); refine goesL_ (some 31) rfl rfl Try.func11 (by kernel_rfl) rfl #[.int .u32 t127, .int .u32 t126, .int .i64 (a2.size : Int)] rfl (by (try simp only [List.map_toArray, List.map_cons, List.map_nil]); first | done | rfl | (simp only [List.length_drop, List.length_take]; rfl)) ?_; (with_reducible refine (crc_Join.calls k t127 t126 (a2.size : Int) t128 _ A10.out).mono ?_); rintro e w35 ⟨rfl, hb⟩; refine ⟨_, rfl, ?_⟩; have n0_ := Aside0.mk (below_step (by repeat (first | (with_reducible first | exact HB.out | apply below_alloc | apply pw_below_drewN | apply below_drew1) | exact HB.out)) hb); clear HB; have HB := n0_; clear n0_; (try clear hb); (try clear hb2); (try clear hk); (try clear hi)) | ((with_reducible refine gate_callee (f := 11) rfl ?_); refine goesL_ (some 37) rfl rfl Try.func11 (by kernel_rfl) rfl #[.int .u32 t125, .int .u32 t126, .int .i64 (a2.size : Int)] rfl (by (try simp only [List.map_toArray, List.map_cons, List.map_nil]); first | done | rfl | (simp only [List.length_drop, List.length_take]; rfl)) ?_; (with_reducible refine (crc_Join.calls k t125 t126 (a2.size : Int) t129 _ A11.out).mono ?_); rintro e w36 ⟨rfl, hb⟩; refine ⟨_, rfl, ?_⟩; have n0_ := Aside0.mk (below_step (by repeat (first | (with_reducible first | exact HB.out | apply below_alloc | apply pw_below_drewN | apply below_drew1) | exact HB.out)) hb); clear HB; have HB := n0_; clear n0_; (try clear hb); (try clear hb2); (try clear hk); (try clear hi)) | ((with_reducible refine gate_callee (f := 11) rfl ?_); refine goesL_ (some 43) rfl rfl Try.func11 (by kernel_rfl) rfl #[.int .u32 t124, .int .u32 t129, .int .i64 (wrap64 ((a1.size : Int) + (a2.size : Int)))] rfl (by (try simp only [List.map_toArray, List.map_cons, List.map_nil]); first | done | rfl | (simp only [List.length_drop, List.length_take]; rfl)) ?_; (with_reducible refine (crc_Join.calls k t124 t129 (wrap64 ((a1.size : Int) + (a2.size : Int))) t130 _ A12.out).mono ?_); rintro e w37 ⟨rfl, hb⟩; refine ⟨_, rfl, ?_⟩; have n0_ := Aside0.mk (below_step (by repeat (first | (with_reducible first | exact HB.out | apply below_alloc | apply pw_below_drewN | apply below_drew1) | exact HB.out)) hb); clear HB; have HB := n0_; clear n0_; (try clear hb); (try clear hb2); (try clear hk); (try clear hi)) | (go_at_call 9; (with_reducible refine (crc_Sum.calls k (a0 ++ a1) t131 _ A23.out).mono ?_); rintro e w38 ⟨rfl, hb⟩; have n0_ := Aside0.mk (below_step (by repeat (first | (with_reducible first | exact HB.out | apply below_alloc | apply pw_below_drewN | apply below_drew1) | exact HB.out)) hb); clear HB; have HB := n0_; clear n0_; (try clear hb); (try clear hb2); (try clear hk); (try clear hi)) | (go_at_call 11; (with_reducible refine (crc_Join.calls k t124 t125 (a1.size : Int) t132 _ A24.out).mono ?_); rintro e w39 ⟨rfl, hb⟩; have n0_ := Aside0.mk (below_step (by repeat (first | (with_reducible first | exact HB.out | apply below_alloc | apply pw_below_drewN | apply below_drew1) | exact HB.out)) hb); clear HB; have HB := n0_; clear n0_; (try clear hb); (try clear hb2); (try clear hk); (try clear hi)) | (go_at_call 9; (with_reducible refine (crc_Sum.calls k ((a0 ++ a1) ++ a2) t133 _ A27.out).mono ?_); rintro e w40 ⟨rfl, hb⟩; have n0_ := Aside0.mk (below_step (by repeat (first | (with_reducible first | exact HB.out | apply below_alloc | apply pw_below_drewN | apply below_drew1) | exact HB.out)) hb); clear HB; have HB := n0_; clear n0_; (try clear hb); (try clear hb2); (try clear hk); (try clear hi)))
                go_ret
                exact ⟨by first | rfl | (simp [errW_none, errW_some] <;> rfl) | (simp [*, errW_none, errW_some] <;> rfl), by repeat (first | (with_reducible first | exact HB.out | apply below_alloc | apply pw_below_drewN | apply below_drew1) | exact HB.out)⟩
              · rw [if_neg c29] at H
                exact absurd H (by simp)
            · rw [if_neg c28] at H
              exact absurd H (by simp)
          · rw [if_neg c26] at H
            exact absurd H (by simp)
        · rw [if_neg c25] at H
          exact absurd H (by simp)
      · rw [if_neg c22] at H
        exact absurd H (by simp)
  · replace c5 := Bool.eq_false_iff.mpr c5
    subst c5
    have H1 : (none) = some r := by rw [if_neg (show ¬ (false = true) by decide)] at H; exact H
    clear H
    have H := H1
    clear H1
    exact absurd H (by simp)

/-- THE ONE PURE STATEMENT of tenementlaw01_CrcJoins: yours. -/
def tenementlaw01_CrcJoins.Pure : Prop := ∀ (a0 : ByteArray) (a1 : ByteArray) (a2 : ByteArray), a0.size ≤ 140737488351232 → a1.size ≤ 140737488351232 → a2.size ≤ 140737488351232 → ∃ k, tenementlaw01_CrcJoins.f k a0 a1 a2 = some true
theorem tenementlaw01_CrcJoins.walk (P : tenementlaw01_CrcJoins.Pure) (a0 : ByteArray) (a1 : ByteArray) (a2 : ByteArray) (w : World) (w0 : a0.size ≤ 140737488351232) (w1 : a1.size ≤ 140737488351232) (w2 : a2.size ≤ 140737488351232) :
    Calls Try.prog 4 #[.string a0, .string a1, .string a2] w fun e w' => e = .returned (.bool true) ∧ Below w.heap.size w w' := by
  obtain ⟨k, h⟩ := P a0 a1 a2 w0 w1 w2
  refine (tenementlaw01_CrcJoins.calls k a0 a1 a2 true w h).mono ?_
  rintro e w' ⟨rfl, hd⟩
  exact ⟨rfl, hd⟩

end Go.Proofs.Ytlngbigddbklpaa.Q
