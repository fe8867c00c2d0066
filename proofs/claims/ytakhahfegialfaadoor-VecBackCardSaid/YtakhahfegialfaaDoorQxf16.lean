-- Written by this session's own driver (wip/hybrid.py) of the kit's printer; contracts marked FOREIGN are by hand.
import Derived.Test.YtakhahfegialfaaDoorQx0
namespace Go.Proofs.YtakhahfegialfaaDoor.Q
open Go.RowKit Go.Proofs.YtakhahfegialfaaDoorW.PrintWords Go.Proofs.YtakhahfegialfaaDoorW.PrintLast Go.Proofs.YtakhahfegialfaaDoorW.PrintMore
attribute [local go_sem] max2_int min2_int max_two min_two max_three min_three max_four min_four   -- for this text's walks alone
set_option linter.unusedVariables false
set_option linter.unusedSimpArgs false

/-! ### vec_With: function 16 -/
-- FOREIGN: an index into an array that is reckoned
def vec_With.f (a0_0 a0_1 a0_2 a0_3 n x : Int) : Option (Int × Int × Int × Int) := some (if n = 1 then x else a0_0, if n = 2 then x else a0_1, if n = 3 then x else a0_2, if n = 4 then x else a0_3)
set_option maxHeartbeats 8000000 in
set_option maxRecDepth 100000 in
theorem vec_With.calls (a0_0 a0_1 a0_2 a0_3 n x : Int) (r0 r1 r2 r3 : Int) (w : World) (h : vec_With.f a0_0 a0_1 a0_2 a0_3 n x = some (r0, r1, r2, r3)) :
    Calls Tryd.prog 16 #[.agg #[.int .u64 a0_0, .int .u64 a0_1, .int .u64 a0_2, .int .u64 a0_3], .int .i64 n, .int .u64 x] w fun e w' => e = .returned (.agg #[.int .u64 r0, .int .u64 r1, .int .u64 r2, .int .u64 r3]) ∧ Below w.heap.size w w' := by
  unfold vec_With.f at h
  have h := Option.some.inj h
  simp only [Prod.mk.injEq] at h
  obtain ⟨rfl, rfl, rfl, rfl⟩ := h
  have hu := Tryd.underlying24
  have hu2 := Tryd.underlying22
  by_cases c0 : n = 1
  · subst c0
    go_enter Tryd.func16, Tryd.ntmps16
    go_wp2
    refine bodyPost_ret (v := .agg #[.int .u64 x, .int .u64 a0_1, .int .u64 a0_2, .int .u64 a0_3]) (by simp [results, Tryd.results16, go_sem, hu, hu2]) rfl ⟨rfl, by first | exact below_alloc (Below.refl _ _) _ | (repeat (first | exact Below.refl _ _ | apply below_alloc | apply pw_below_drewN | apply below_drew1 | (refine below_set ?_ (by simp)) | (refine below_set ?_ (by simp; omega))))⟩
  by_cases c1 : n = 2
  · subst c1
    go_enter Tryd.func16, Tryd.ntmps16
    go_wp2
    refine bodyPost_ret (v := .agg #[.int .u64 a0_0, .int .u64 x, .int .u64 a0_2, .int .u64 a0_3]) (by simp [results, Tryd.results16, go_sem, hu, hu2]) rfl ⟨rfl, by first | exact below_alloc (Below.refl _ _) _ | (repeat (first | exact Below.refl _ _ | apply below_alloc | apply pw_below_drewN | apply below_drew1 | (refine below_set ?_ (by simp)) | (refine below_set ?_ (by simp; omega))))⟩
  by_cases c2 : n = 3
  · subst c2
    go_enter Tryd.func16, Tryd.ntmps16
    go_wp2
    refine bodyPost_ret (v := .agg #[.int .u64 a0_0, .int .u64 a0_1, .int .u64 x, .int .u64 a0_3]) (by simp [results, Tryd.results16, go_sem, hu, hu2]) rfl ⟨rfl, by first | exact below_alloc (Below.refl _ _) _ | (repeat (first | exact Below.refl _ _ | apply below_alloc | apply pw_below_drewN | apply below_drew1 | (refine below_set ?_ (by simp)) | (refine below_set ?_ (by simp; omega))))⟩
  by_cases c3 : n = 4
  · subst c3
    go_enter Tryd.func16, Tryd.ntmps16
    go_wp2
    refine bodyPost_ret (v := .agg #[.int .u64 a0_0, .int .u64 a0_1, .int .u64 a0_2, .int .u64 x]) (by simp [results, Tryd.results16, go_sem, hu, hu2]) rfl ⟨rfl, by first | exact below_alloc (Below.refl _ _) _ | (repeat (first | exact Below.refl _ _ | apply below_alloc | apply pw_below_drewN | apply below_drew1 | (refine below_set ?_ (by simp)) | (refine below_set ?_ (by simp; omega))))⟩
  rw [if_neg c0, if_neg c1, if_neg c2, if_neg c3]
  have b1 : (decide (1 ≤ n) = false ∧ decide (n < 1) = true) ∨ (decide (1 ≤ n) = true ∧ decide (n < 1) = false ∧ decide (n ≤ 4) = false ∧ decide (4 < n) = true) := by
    by_cases h : 1 ≤ n
    · exact Or.inr ⟨decide_eq_true h, decide_eq_false (by omega), decide_eq_false (by omega), decide_eq_true (by omega)⟩
    · exact Or.inl ⟨decide_eq_false h, decide_eq_true (by omega)⟩
  clear c0 c1 c2 c3
  rcases b1 with ⟨b1, b2⟩ | ⟨b1, b2, b3, b4⟩
  · go_enter Tryd.func16, Tryd.ntmps16
    go_wp2
    refine bodyPost_ret (v := .agg #[.int .u64 a0_0, .int .u64 a0_1, .int .u64 a0_2, .int .u64 a0_3]) (by simp [results, Tryd.results16, go_sem, hu, hu2]) rfl ⟨rfl, by first | exact below_alloc (Below.refl _ _) _ | (repeat (first | exact Below.refl _ _ | apply below_alloc | apply pw_below_drewN | apply below_drew1 | (refine below_set ?_ (by simp)) | (refine below_set ?_ (by simp; omega))))⟩
  · go_enter Tryd.func16, Tryd.ntmps16
    go_wp2
    refine bodyPost_ret (v := .agg #[.int .u64 a0_0, .int .u64 a0_1, .int .u64 a0_2, .int .u64 a0_3]) (by simp [results, Tryd.results16, go_sem, hu, hu2]) rfl ⟨rfl, by first | exact below_alloc (Below.refl _ _) _ | (repeat (first | exact Below.refl _ _ | apply below_alloc | apply pw_below_drewN | apply below_drew1 | (refine below_set ?_ (by simp)) | (refine below_set ?_ (by simp; omega))))⟩


end Go.Proofs.YtakhahfegialfaaDoor.Q
