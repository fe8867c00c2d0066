-- Written by this session's own driver (wip/hybrid.py) of the kit's printer; contracts marked FOREIGN are by hand.
import Derived.Test.YtdlagefpglhdoaaDoorQx0
namespace Go.Proofs.YtdlagefpglhdoaaDoor.Q
open Go.RowKit Go.Proofs.YtdlagefpglhdoaaDoorW.PrintWords Go.Proofs.YtdlagefpglhdoaaDoorW.PrintLast Go.Proofs.YtdlagefpglhdoaaDoorW.PrintMore
attribute [local go_sem] max2_int min2_int max_two min_two max_three min_three max_four min_four   -- for this text's walks alone
set_option linter.unusedVariables false
set_option linter.unusedSimpArgs false

/-! ### pack_Number: function 35 -/
-- FOREIGN: an array of eight bytes, filled round by round
def numL (a0 : Int) (n : Nat) : List Int := (List.range n).map fun k => a0 / (2 ^ (8 * (n - 1 - k)) : Nat) % 256
def pack_Number.f (a0 a1 : Int) : Option (ByteArray) := if a1 < 1 then some (⟨#[]⟩ : ByteArray) else if 8 < a1 then some (⟨#[]⟩ : ByteArray) else some (strOfNums (numL a0 a1.toNat))
theorem conv_arr (P : Program) (src dst e T : TypeId) (hs : P.underlying src = some (.slice e)) (he : P.underlying e = some (.int .u8)) (hd : P.underlying dst = some .string) (w : World) (xs : List Int) (n c : Nat) (hn : n ≤ xs.length) :
    (convert src dst (.slice (some ⟨w.heap.size, 0, none⟩) n c)).run P (w.alloc (.cells (xs.map (Value.int .u8)).toArray T)) = .ok (.string (strOfNums (xs.take n))) (w.alloc (.cells (xs.map (Value.int .u8)).toArray T)) := by
  refine run_convert_bytes_arg _ src e hs he w.heap.size 0 n c (xs.take n) (by simp; omega) (fun i hi => ?_) dst hd
  rw [Nat.zero_add]
  have hlt : i < xs.length := by omega
  rw [World.cell?_alloc_at (hn := rfl)]
  simp [hi, hlt]
theorem pack_Number.none_ (a0 a1 : Int) (h : a1 < 1 ∨ 8 < a1) (w : World) :
    Calls Tryd.prog 35 #[.int .u64 a0, .int .i64 a1] w fun e w' => e = .returned (.string ⟨#[]⟩) ∧ Below w.heap.size w w' := by
  rcases h with h | h
  · have b1 : decide (a1 < 1) = true := decide_eq_true h
    go_enter Tryd.func35, Tryd.ntmps35
    go_wp2
    go_ret
    exact ⟨rfl, Below.refl _ _⟩
  · have b1 : decide (a1 < 1) = false := decide_eq_false (by omega)
    have b2 : decide (8 < a1) = true := decide_eq_true h
    go_enter Tryd.func35, Tryd.ntmps35
    go_wp2
    go_ret
    exact ⟨rfl, Below.refl _ _⟩
set_option maxHeartbeats 4000000 in
theorem pack_Number.some_ (a0 : Int) (n : Nat) (h1 : 1 ≤ n) (h8 : n ≤ 8) (w : World) :
    Calls Tryd.prog 35 #[.int .u64 a0, .int .i64 (n : Int)] w fun e w' => e = .returned (.string (strOfNums (numL a0 n))) ∧ Below w.heap.size w w' := by
  have hcv := fun x0 x1 x2 x3 x4 x5 x6 x7 m (hm : m ≤ [x0, x1, x2, x3, x4, x5, x6, x7].length) => conv_arr Tryd.prog 88 9 5 100 Tryd.underlying88 Tryd.underlying5 Tryd.underlying9 w [x0, x1, x2, x3, x4, x5, x6, x7] m 8 hm
  simp only [List.map_cons, List.map_nil] at hcv
  obtain rfl | rfl | rfl | rfl | rfl | rfl | rfl | rfl : n = 1 ∨ n = 2 ∨ n = 3 ∨ n = 4 ∨ n = 5 ∨ n = 6 ∨ n = 7 ∨ n = 8 := by omega
  · replace hcv := fun x0 x1 x2 x3 x4 x5 x6 x7 => hcv x0 x1 x2 x3 x4 x5 x6 x7 1 (by simp)
    simp only [List.take] at hcv
    go_enter Tryd.func35, Tryd.ntmps35
    go_wp2
    refine wp_loop_rounds 2 ?_
    iterate 2 (rw [rounds_succ]; go_wp2)
    go_ret
    exact ⟨by simp [numL, List.range, List.range.loop], (Below.refl _ _).alloc (Nat.le_refl _) _⟩
  · replace hcv := fun x0 x1 x2 x3 x4 x5 x6 x7 => hcv x0 x1 x2 x3 x4 x5 x6 x7 2 (by simp)
    simp only [List.take] at hcv
    go_enter Tryd.func35, Tryd.ntmps35
    go_wp2
    refine wp_loop_rounds 3 ?_
    iterate 3 (rw [rounds_succ]; go_wp2)
    go_ret
    exact ⟨by simp [numL, List.range, List.range.loop], (Below.refl _ _).alloc (Nat.le_refl _) _⟩
  · replace hcv := fun x0 x1 x2 x3 x4 x5 x6 x7 => hcv x0 x1 x2 x3 x4 x5 x6 x7 3 (by simp)
    simp only [List.take] at hcv
    go_enter Tryd.func35, Tryd.ntmps35
    go_wp2
    refine wp_loop_rounds 4 ?_
    iterate 4 (rw [rounds_succ]; go_wp2)
    go_ret
    exact ⟨by simp [numL, List.range, List.range.loop], (Below.refl _ _).alloc (Nat.le_refl _) _⟩
  · replace hcv := fun x0 x1 x2 x3 x4 x5 x6 x7 => hcv x0 x1 x2 x3 x4 x5 x6 x7 4 (by simp)
    simp only [List.take] at hcv
    go_enter Tryd.func35, Tryd.ntmps35
    go_wp2
    refine wp_loop_rounds 5 ?_
    iterate 5 (rw [rounds_succ]; go_wp2)
    go_ret
    exact ⟨by simp [numL, List.range, List.range.loop], (Below.refl _ _).alloc (Nat.le_refl _) _⟩
  · replace hcv := fun x0 x1 x2 x3 x4 x5 x6 x7 => hcv x0 x1 x2 x3 x4 x5 x6 x7 5 (by simp)
    simp only [List.take] at hcv
    go_enter Tryd.func35, Tryd.ntmps35
    go_wp2
    refine wp_loop_rounds 6 ?_
    iterate 6 (rw [rounds_succ]; go_wp2)
    go_ret
    exact ⟨by simp [numL, List.range, List.range.loop], (Below.refl _ _).alloc (Nat.le_refl _) _⟩
  · replace hcv := fun x0 x1 x2 x3 x4 x5 x6 x7 => hcv x0 x1 x2 x3 x4 x5 x6 x7 6 (by simp)
    simp only [List.take] at hcv
    go_enter Tryd.func35, Tryd.ntmps35
    go_wp2
    refine wp_loop_rounds 7 ?_
    iterate 7 (rw [rounds_succ]; go_wp2)
    go_ret
    exact ⟨by simp [numL, List.range, List.range.loop], (Below.refl _ _).alloc (Nat.le_refl _) _⟩
  · replace hcv := fun x0 x1 x2 x3 x4 x5 x6 x7 => hcv x0 x1 x2 x3 x4 x5 x6 x7 7 (by simp)
    simp only [List.take] at hcv
    go_enter Tryd.func35, Tryd.ntmps35
    go_wp2
    refine wp_loop_rounds 8 ?_
    iterate 8 (rw [rounds_succ]; go_wp2)
    go_ret
    exact ⟨by simp [numL, List.range, List.range.loop], (Below.refl _ _).alloc (Nat.le_refl _) _⟩
  · replace hcv := fun x0 x1 x2 x3 x4 x5 x6 x7 => hcv x0 x1 x2 x3 x4 x5 x6 x7 8 (by simp)
    simp only [List.take] at hcv
    go_enter Tryd.func35, Tryd.ntmps35
    go_wp2
    refine wp_loop_rounds 9 ?_
    iterate 9 (rw [rounds_succ]; go_wp2)
    go_ret
    exact ⟨by simp [numL, List.range, List.range.loop], (Below.refl _ _).alloc (Nat.le_refl _) _⟩
theorem pack_Number.calls (a0 : Int) (a1 : Int) (r : ByteArray) (w : World) (h : pack_Number.f a0 a1 = some r) :
    Calls Tryd.prog 35 #[.int .u64 a0, .int .i64 a1] w fun e w' => e = .returned (.string r) ∧ Below w.heap.size w w' := by
  unfold pack_Number.f at h
  by_cases c1 : a1 < 1
  · rw [if_pos c1] at h
    obtain rfl := Option.some.inj h
    exact pack_Number.none_ a0 a1 (.inl c1) w
  · rw [if_neg c1] at h
    by_cases c2 : 8 < a1
    · rw [if_pos c2] at h
      obtain rfl := Option.some.inj h
      exact pack_Number.none_ a0 a1 (.inr c2) w
    · rw [if_neg c2] at h
      obtain rfl := Option.some.inj h
      obtain ⟨n, rfl⟩ := Int.eq_ofNat_of_zero_le (show 0 ≤ a1 by omega)
      rw [Int.toNat_natCast]
      exact pack_Number.some_ a0 n (by omega) (by omega) w


end Go.Proofs.YtdlagefpglhdoaaDoor.Q
