-- Written by this session's own driver (wip/hybrid.py) of the kit's printer; contracts marked FOREIGN are by hand.
import Derived.Test.YtdlagefpglhdoaaDoorQx0
namespace Go.Proofs.YtdlagefpglhdoaaDoor.Q
open Go.RowKit Go.Proofs.YtdlagefpglhdoaaDoorW.PrintWords Go.Proofs.YtdlagefpglhdoaaDoorW.PrintLast Go.Proofs.YtdlagefpglhdoaaDoorW.PrintMore
attribute [local go_sem] max2_int min2_int max_two min_two max_three min_three max_four min_four   -- for this text's walks alone
set_option linter.unusedVariables false
set_option linter.unusedSimpArgs false

/-! ### vec_Sum: function 44 -/
-- FOREIGN: a range over an array's copy
def vec_Sum.f (a0_0 a0_1 a0_2 a0_3 : Int) : Option Int := some (IntKind.u64.wrap (IntKind.u64.wrap (IntKind.u64.wrap (IntKind.u64.wrap (0 + a0_0) + a0_1) + a0_2) + a0_3))
theorem vec_Sum.at_ (xs : Array Value) (hn : xs.size = 4) (i : Nat) (v : Value) (W : World) (h : xs[i]? = some v) :
    (Instr.index 24 (.agg xs) (.int .i64 (i : Int))).run Tryd.prog W = .ok v W := by
  have hu := Tryd.underlying24
  have hi : i < 4 := by
    have := (Array.getElem?_eq_some_iff.1 h).1
    omega
  have hs : (sizeOf 22).run Tryd.prog W = .ok 1 W := by go_simp
  have hp : (part 22 xs i).run Tryd.prog W = .ok v W := by
    unfold part
    go_simp
    exact (Array.getElem?_eq_some_iff.1 h).2
  simp [Instr.index, asIntOf, Sem.run_bind, run_underlying hu, hs, hp, hi]
set_option maxHeartbeats 8000000 in
set_option maxRecDepth 100000 in
theorem vec_Sum.calls (a0_0 a0_1 a0_2 a0_3 : Int) (r : Int) (w : World) (h : vec_Sum.f a0_0 a0_1 a0_2 a0_3 = some r) :
    Calls Tryd.prog 44 #[.agg #[.int .u64 a0_0, .int .u64 a0_1, .int .u64 a0_2, .int .u64 a0_3]] w fun e w' => e = .returned (.int .u64 r) ∧ Below w.heap.size w w' := by
  unfold vec_Sum.f at h
  obtain rfl := Option.some.inj h
  clear h
  have hu := Tryd.underlying24
  have hu2 := Tryd.underlying22
  have x0 := fun W => vec_Sum.at_ #[.int .u64 a0_0, .int .u64 a0_1, .int .u64 a0_2, .int .u64 a0_3] rfl 0 (.int .u64 a0_0) W rfl
  have x1 := fun W => vec_Sum.at_ #[.int .u64 a0_0, .int .u64 a0_1, .int .u64 a0_2, .int .u64 a0_3] rfl 1 (.int .u64 a0_1) W rfl
  have x2 := fun W => vec_Sum.at_ #[.int .u64 a0_0, .int .u64 a0_1, .int .u64 a0_2, .int .u64 a0_3] rfl 2 (.int .u64 a0_2) W rfl
  have x3 := fun W => vec_Sum.at_ #[.int .u64 a0_0, .int .u64 a0_1, .int .u64 a0_2, .int .u64 a0_3] rfl 3 (.int .u64 a0_3) W rfl
  simp only [Int.ofNat_eq_natCast, Int.cast_ofNat_Int] at x0 x1 x2 x3
  go_enter Tryd.func44, Tryd.ntmps44
  go_wp2
  refine wp_loop_rounds 5 ?_
  rw [rounds_succ]
  go_wp2
  rw [rounds_succ]
  go_wp2
  rw [rounds_succ]
  go_wp2
  rw [rounds_succ]
  go_wp2
  rw [rounds_succ]
  go_wp2
  go_ret
  exact ⟨by first | rfl | simp, by repeat (first | exact Below.refl _ _ | apply below_alloc | apply pw_below_drewN | apply below_drew1)⟩


end Go.Proofs.YtdlagefpglhdoaaDoor.Q
