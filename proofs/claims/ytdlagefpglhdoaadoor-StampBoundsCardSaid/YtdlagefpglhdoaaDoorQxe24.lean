-- Written by this session's own driver (wip/hybrid.py) of the kit's printer; contracts marked FOREIGN are by hand.
import Derived.Test.YtdlagefpglhdoaaDoorQx0
namespace Go.Proofs.YtdlagefpglhdoaaDoor.Q
open Go.RowKit Go.Proofs.YtdlagefpglhdoaaDoorW.PrintWords Go.Proofs.YtdlagefpglhdoaaDoorW.PrintLast Go.Proofs.YtdlagefpglhdoaaDoorW.PrintMore
attribute [local go_sem] max2_int min2_int max_two min_two max_three min_three max_four min_four   -- for this text's walks alone
set_option linter.unusedVariables false
set_option linter.unusedSimpArgs false

theorem eqA24 (d : Nat) (w : World) (x0 y0 : Int) (x1 y1 : Int) (x2 y2 : Int) (x3 y3 : Int) :
    (Op.equalIn (d + 2) 24 (.agg #[.int .u64 x0, .int .u64 x1, .int .u64 x2, .int .u64 x3]) (.agg #[.int .u64 y0, .int .u64 y1, .int .u64 y2, .int .u64 y3])).run Tryd.prog w = .ok (x0 == y0 && (x1 == y1 && (x2 == y2 && (x3 == y3)))) w := by
  have hu := Tryd.underlying24
  have hs : (sizeOf 22).run Tryd.prog w = .ok 1 w := by go_simp
  have hp : ∀ (xs : Array Value) (i : Nat) (v : Value), xs[i]? = some v → (part 22 xs i).run Tryd.prog w = .ok v w := by
    intro xs i v h
    unfold part
    go_simp
  have hE : ∀ a b : Int, (Op.equalIn (d + 1) 22 (.int .u64 a) (.int .u64 b)).run Tryd.prog w = .ok (a == b) w := by intro a b; go_simp
  obtain ⟨X, hX⟩ : ∃ X, X = (#[.int .u64 x0, .int .u64 x1, .int .u64 x2, .int .u64 x3] : Array Value) := ⟨_, rfl⟩
  obtain ⟨Y, hY⟩ : ∃ Y, Y = (#[.int .u64 y0, .int .u64 y1, .int .u64 y2, .int .u64 y3] : Array Value) := ⟨_, rfl⟩
  rw [← hX, ← hY]
  have a0 : (part 22 X 0).run Tryd.prog w = .ok (.int .u64 x0) w := by rw [hX]; exact hp _ 0 _ rfl
  have b0 : (part 22 Y 0).run Tryd.prog w = .ok (.int .u64 y0) w := by rw [hY]; exact hp _ 0 _ rfl
  have a1 : (part 22 X 1).run Tryd.prog w = .ok (.int .u64 x1) w := by rw [hX]; exact hp _ 1 _ rfl
  have b1 : (part 22 Y 1).run Tryd.prog w = .ok (.int .u64 y1) w := by rw [hY]; exact hp _ 1 _ rfl
  have a2 : (part 22 X 2).run Tryd.prog w = .ok (.int .u64 x2) w := by rw [hX]; exact hp _ 2 _ rfl
  have b2 : (part 22 Y 2).run Tryd.prog w = .ok (.int .u64 y2) w := by rw [hY]; exact hp _ 2 _ rfl
  have a3 : (part 22 X 3).run Tryd.prog w = .ok (.int .u64 x3) w := by rw [hX]; exact hp _ 3 _ rfl
  have b3 : (part 22 Y 3).run Tryd.prog w = .ok (.int .u64 y3) w := by rw [hY]; exact hp _ 3 _ rfl
  clear hX hY hp
  obtain ⟨m, hm⟩ : ∃ m, d + 1 = m := ⟨_, rfl⟩
  rw [hm] at hE
  rw [show d + 2 = m + 1 by omega]
  clear hm
  unfold Op.equalIn
  simp only [Sem.run_bind, run_underlying hu, Result.andThen_ok, hs, Nat.mul_one]
  have hfor : ∀ (f : Nat → Option Bool × Unit → Sem (ForInStep (Option Bool × Unit))), forIn (m := Sem) [:4] ((none, ()) : Option Bool × Unit) f = forIn (m := Sem) [0, 1, 2, 3] ((none, ()) : Option Bool × Unit) f := by
    intro f
    simp
    rfl
  rw [hfor]
  simp only [List.forIn_cons, List.forIn_nil, Sem.run_bind, a0, b0, a1, b1, a2, b2, a3, b3, Result.andThen_ok, hE]
  by_cases h0 : x0 = y0 <;> by_cases h1 : x1 = y1 <;> by_cases h2 : x2 = y2 <;> by_cases h3 : x3 = y3 <;> simp [Sem.run_bind, a0, b0, a1, b1, a2, b2, a3, b3, hE, h0, h1, h2, h3]
theorem ixA24_0 (x0 : Int) (x1 : Int) (x2 : Int) (x3 : Int) (W : World) :
    (Instr.index 24 (.agg #[.int .u64 x0, .int .u64 x1, .int .u64 x2, .int .u64 x3]) (.int .i64 0)).run Tryd.prog W = .ok (.int .u64 x0) W := by
  have hu := Tryd.underlying24
  have hs : (sizeOf 22).run Tryd.prog W = .ok 1 W := by go_simp
  have hp : (part 22 #[.int .u64 x0, .int .u64 x1, .int .u64 x2, .int .u64 x3] 0).run Tryd.prog W = .ok (.int .u64 x0) W := by
    unfold part
    go_simp
  simp [Instr.index, asIntOf, Sem.run_bind, run_underlying hu, hs, hp]
theorem ixA24_1 (x0 : Int) (x1 : Int) (x2 : Int) (x3 : Int) (W : World) :
    (Instr.index 24 (.agg #[.int .u64 x0, .int .u64 x1, .int .u64 x2, .int .u64 x3]) (.int .i64 1)).run Tryd.prog W = .ok (.int .u64 x1) W := by
  have hu := Tryd.underlying24
  have hs : (sizeOf 22).run Tryd.prog W = .ok 1 W := by go_simp
  have hp : (part 22 #[.int .u64 x0, .int .u64 x1, .int .u64 x2, .int .u64 x3] 1).run Tryd.prog W = .ok (.int .u64 x1) W := by
    unfold part
    go_simp
  simp [Instr.index, asIntOf, Sem.run_bind, run_underlying hu, hs, hp]
theorem ixA24_2 (x0 : Int) (x1 : Int) (x2 : Int) (x3 : Int) (W : World) :
    (Instr.index 24 (.agg #[.int .u64 x0, .int .u64 x1, .int .u64 x2, .int .u64 x3]) (.int .i64 2)).run Tryd.prog W = .ok (.int .u64 x2) W := by
  have hu := Tryd.underlying24
  have hs : (sizeOf 22).run Tryd.prog W = .ok 1 W := by go_simp
  have hp : (part 22 #[.int .u64 x0, .int .u64 x1, .int .u64 x2, .int .u64 x3] 2).run Tryd.prog W = .ok (.int .u64 x2) W := by
    unfold part
    go_simp
  simp [Instr.index, asIntOf, Sem.run_bind, run_underlying hu, hs, hp]
theorem ixA24_3 (x0 : Int) (x1 : Int) (x2 : Int) (x3 : Int) (W : World) :
    (Instr.index 24 (.agg #[.int .u64 x0, .int .u64 x1, .int .u64 x2, .int .u64 x3]) (.int .i64 3)).run Tryd.prog W = .ok (.int .u64 x3) W := by
  have hu := Tryd.underlying24
  have hs : (sizeOf 22).run Tryd.prog W = .ok 1 W := by go_simp
  have hp : (part 22 #[.int .u64 x0, .int .u64 x1, .int .u64 x2, .int .u64 x3] 3).run Tryd.prog W = .ok (.int .u64 x3) W := by
    unfold part
    go_simp
  simp [Instr.index, asIntOf, Sem.run_bind, run_underlying hu, hs, hp]
end Go.Proofs.YtdlagefpglhdoaaDoor.Q
