import Derived.Test.YtoogchgoiciggaaQx0
import Derived.Test.YtoogchgoiciggaaGItemShards0
-- Written by this session's own driver (wip/hybrid.py) of the kit's printer; contracts marked FOREIGN are by hand.
namespace Go.Proofs.Ytoogchgoiciggaa.Q
open Go.RowKit Go.Proofs.YtoogchgoiciggaaW.PrintWords Go.Proofs.YtoogchgoiciggaaW.PrintLast Go.Proofs.YtoogchgoiciggaaW.PrintMore
attribute [local go_sem] max2_int min2_int max_two min_two max_three min_three max_four min_four   -- for this text's walks alone
set_option linter.unusedVariables false
set_option linter.unusedSimpArgs false

/-! ### pack_Number: function 36 -/
-- FOREIGN: an array of eight bytes, filled round by round
def numL (a0 : Int) (n : Nat) : List Int := (List.range n).map fun k => a0 / (2 ^ (8 * (n - 1 - k)) : Nat) % 256
def pack_Number.f (a0 a1 : Int) : Option (ByteArray) := if a1 < 1 then some (⟨#[]⟩ : ByteArray) else if 8 < a1 then some (⟨#[]⟩ : ByteArray) else some (strOfNums (numL a0 a1.toNat))
theorem conv_arr (P : Program) (src dst e T : TypeId) (hs : P.underlying src = some (.slice e)) (he : P.underlying e = some (.int .u8)) (hd : P.underlying dst = some .string) (w : World) (xs : List Int) (n c : Nat) (hn : n ≤ xs.length) :
    (convert src dst (.slice (some ⟨w.heap.size, 0, none⟩) n c)).run P (w.alloc (.cells (xs.map (Value.int .u8)).toArray T)) = .ok (.string (strOfNums (xs.take n))) (w.alloc (.cells (xs.map (Value.int .u8)).toArray T)) := by
  refine run_convert_bytes_arg _ src e hs he w.heap.size 0 n c (xs.take n) (by simp; omega) (fun i hi => ?_) dst hd
  rw [Nat.zero_add]
  have hlt : i < xs.length := by omega
  rw [World.cell?_alloc_at (hn := rfl)]
  simp [hi, hlt]
theorem pack_Number.none_ (a0 a1 : Int) (h : a1 < 1 ∨ 8 < a1) (w : World) :
    Calls Try.prog 36 #[.int .u64 a0, .int .i64 a1] w fun e w' => e = .returned (.string ⟨#[]⟩) ∧ Below w.heap.size w w' := by
  rcases h with h | h
  · have b1 : decide (a1 < 1) = true := decide_eq_true h
    go_enter Try.func36, Try.ntmps36
    go_wp2
    go_ret
    exact ⟨rfl, Below.refl _ _⟩
  · have b1 : decide (a1 < 1) = false := decide_eq_false (by omega)
    have b2 : decide (8 < a1) = true := decide_eq_true h
    go_enter Try.func36, Try.ntmps36
    go_wp2
    go_ret
    exact ⟨rfl, Below.refl _ _⟩
set_option maxHeartbeats 4000000 in
theorem pack_Number.some_ (a0 : Int) (n : Nat) (h1 : 1 ≤ n) (h8 : n ≤ 8) (w : World) :
    Calls Try.prog 36 #[.int .u64 a0, .int .i64 (n : Int)] w fun e w' => e = .returned (.string (strOfNums (numL a0 n))) ∧ Below w.heap.size w w' := by
  have hcv := fun x0 x1 x2 x3 x4 x5 x6 x7 m (hm : m ≤ [x0, x1, x2, x3, x4, x5, x6, x7].length) => conv_arr Try.prog 76 9 5 113 Try.underlying76 Try.underlying5 Try.underlying9 w [x0, x1, x2, x3, x4, x5, x6, x7] m 8 hm
  simp only [List.map_cons, List.map_nil] at hcv
  obtain rfl | rfl | rfl | rfl | rfl | rfl | rfl | rfl : n = 1 ∨ n = 2 ∨ n = 3 ∨ n = 4 ∨ n = 5 ∨ n = 6 ∨ n = 7 ∨ n = 8 := by omega
  · replace hcv := fun x0 x1 x2 x3 x4 x5 x6 x7 => hcv x0 x1 x2 x3 x4 x5 x6 x7 1 (by simp)
    simp only [List.take] at hcv
    go_enter Try.func36, Try.ntmps36
    go_wp2
    refine wp_loop_rounds 2 ?_
    iterate 2 (rw [rounds_succ]; go_wp2)
    go_ret
    exact ⟨by simp [numL, List.range, List.range.loop], (Below.refl _ _).alloc (Nat.le_refl _) _⟩
  · replace hcv := fun x0 x1 x2 x3 x4 x5 x6 x7 => hcv x0 x1 x2 x3 x4 x5 x6 x7 2 (by simp)
    simp only [List.take] at hcv
    go_enter Try.func36, Try.ntmps36
    go_wp2
    refine wp_loop_rounds 3 ?_
    iterate 3 (rw [rounds_succ]; go_wp2)
    go_ret
    exact ⟨by simp [numL, List.range, List.range.loop], (Below.refl _ _).alloc (Nat.le_refl _) _⟩
  · replace hcv := fun x0 x1 x2 x3 x4 x5 x6 x7 => hcv x0 x1 x2 x3 x4 x5 x6 x7 3 (by simp)
    simp only [List.take] at hcv
    go_enter Try.func36, Try.ntmps36
    go_wp2
    refine wp_loop_rounds 4 ?_
    iterate 4 (rw [rounds_succ]; go_wp2)
    go_ret
    exact ⟨by simp [numL, List.range, List.range.loop], (Below.refl _ _).alloc (Nat.le_refl _) _⟩
  · replace hcv := fun x0 x1 x2 x3 x4 x5 x6 x7 => hcv x0 x1 x2 x3 x4 x5 x6 x7 4 (by simp)
    simp only [List.take] at hcv
    go_enter Try.func36, Try.ntmps36
    go_wp2
    refine wp_loop_rounds 5 ?_
    iterate 5 (rw [rounds_succ]; go_wp2)
    go_ret
    exact ⟨by simp [numL, List.range, List.range.loop], (Below.refl _ _).alloc (Nat.le_refl _) _⟩
  · replace hcv := fun x0 x1 x2 x3 x4 x5 x6 x7 => hcv x0 x1 x2 x3 x4 x5 x6 x7 5 (by simp)
    simp only [List.take] at hcv
    go_enter Try.func36, Try.ntmps36
    go_wp2
    refine wp_loop_rounds 6 ?_
    iterate 6 (rw [rounds_succ]; go_wp2)
    go_ret
    exact ⟨by simp [numL, List.range, List.range.loop], (Below.refl _ _).alloc (Nat.le_refl _) _⟩
  · replace hcv := fun x0 x1 x2 x3 x4 x5 x6 x7 => hcv x0 x1 x2 x3 x4 x5 x6 x7 6 (by simp)
    simp only [List.take] at hcv
    go_enter Try.func36, Try.ntmps36
    go_wp2
    refine wp_loop_rounds 7 ?_
    iterate 7 (rw [rounds_succ]; go_wp2)
    go_ret
    exact ⟨by simp [numL, List.range, List.range.loop], (Below.refl _ _).alloc (Nat.le_refl _) _⟩
  · replace hcv := fun x0 x1 x2 x3 x4 x5 x6 x7 => hcv x0 x1 x2 x3 x4 x5 x6 x7 7 (by simp)
    simp only [List.take] at hcv
    go_enter Try.func36, Try.ntmps36
    go_wp2
    refine wp_loop_rounds 8 ?_
    iterate 8 (rw [rounds_succ]; go_wp2)
    go_ret
    exact ⟨by simp [numL, List.range, List.range.loop], (Below.refl _ _).alloc (Nat.le_refl _) _⟩
  · replace hcv := fun x0 x1 x2 x3 x4 x5 x6 x7 => hcv x0 x1 x2 x3 x4 x5 x6 x7 8 (by simp)
    simp only [List.take] at hcv
    go_enter Try.func36, Try.ntmps36
    go_wp2
    refine wp_loop_rounds 9 ?_
    iterate 9 (rw [rounds_succ]; go_wp2)
    go_ret
    exact ⟨by simp [numL, List.range, List.range.loop], (Below.refl _ _).alloc (Nat.le_refl _) _⟩
theorem pack_Number.calls (a0 : Int) (a1 : Int) (r : ByteArray) (w : World) (h : pack_Number.f a0 a1 = some r) :
    Calls Try.prog 36 #[.int .u64 a0, .int .i64 a1] w fun e w' => e = .returned (.string r) ∧ Below w.heap.size w w' := by
  unfold pack_Number.f at h
  by_cases c1 : a1 < 1
  · rw [if_pos c1] at h
    obtain rfl := Option.some.inj h
    exact pack_Number.none_ a0 a1 (.inl c1) w
  · rw [if_neg c1] at h
    by_cases c2 : 8 < a1
    · rw [if_pos c2] at h
      obtain rfl := Option.some.inj h
      exact pack_Number.none_ a0 a1 (.inr c2) w
    · rw [if_neg c2] at h
      obtain rfl := Option.some.inj h
      obtain ⟨n, rfl⟩ := Int.eq_ofNat_of_zero_le (show 0 ≤ a1 by omega)
      rw [Int.toNat_natCast]
      exact pack_Number.some_ a0 n (by omega) (by omega) w


end Go.Proofs.Ytoogchgoiciggaa.Q

-- Written by this session's own driver (wip/hybrid.py) of the kit's printer; contracts marked FOREIGN are by hand.
namespace Go.Proofs.Ytoogchgoiciggaa.Q
open Go.RowKit Go.Proofs.YtoogchgoiciggaaW.PrintWords Go.Proofs.YtoogchgoiciggaaW.PrintLast Go.Proofs.YtoogchgoiciggaaW.PrintMore
attribute [local go_sem] max2_int min2_int max_two min_two max_three min_three max_four min_four   -- for this text's walks alone
set_option linter.unusedVariables false
set_option linter.unusedSimpArgs false

/-! ### vec_Put: function 59 -/
-- FOREIGN: a range over an array's copy
def vec_Put.f (k : Nat) (a0_0 a0_1 a0_2 a0_3 : Int) : Option ByteArray :=
  (pack_Vary.f k a0_0).bind fun t0 => (pack_Vary.f k a0_1).bind fun t1 => (pack_Vary.f k a0_2).bind fun t2 => (pack_Vary.f k a0_3).bind fun t3 =>
    if t0.size + t1.size + t2.size + t3.size ≤ 9223372036854775807 then some (t0 ++ t1 ++ t2 ++ t3) else none
theorem vec_Put.mono : ∀ a0 a1 a2 a3 k, LeO (vec_Put.f k a0 a1 a2 a3) (vec_Put.f (k + 1) a0 a1 a2 a3) := by
  intro a0 a1 a2 a3 k
  unfold vec_Put.f
  repeat' first
      | exact pack_Vary.mono _ _
      | exact LeO.refl _
      | exact LeO.none _
      | refine LeO.ite ?_ ?_
      | refine LeO.bind ?_ (fun _ => ?_)
theorem vec_Put.at_ (xs : Array Value) (hn : xs.size = 4) (i : Nat) (v : Value) (W : World) (h : xs[i]? = some v) :
    (Instr.index 28 (.agg xs) (.int .i64 (i : Int))).run Try.prog W = .ok v W := by
  have hu := Try.underlying28
  have hi : i < 4 := by
    have := (Array.getElem?_eq_some_iff.1 h).1
    omega
  have hs : (sizeOf 26).run Try.prog W = .ok 1 W := by go_simp
  have hp : (part 26 xs i).run Try.prog W = .ok v W := by
    unfold part
    go_simp
    exact (Array.getElem?_eq_some_iff.1 h).2
  simp [Instr.index, asIntOf, Sem.run_bind, run_underlying hu, hs, hp, hi]
set_option maxHeartbeats 8000000 in
set_option maxRecDepth 100000 in
theorem vec_Put.calls (k : Nat) (a0_0 a0_1 a0_2 a0_3 : Int) (r : ByteArray) (w : World) (h : vec_Put.f k a0_0 a0_1 a0_2 a0_3 = some r) :
    Calls Try.prog 59 #[.agg #[.int .u64 a0_0, .int .u64 a0_1, .int .u64 a0_2, .int .u64 a0_3]] w fun e w' => e = .returned (.string r) ∧ Below w.heap.size w w' := by
  unfold vec_Put.f at h
  obtain ⟨t0, A0, h⟩ := Option.bind_eq_some_iff.1 h
  obtain ⟨t1, A1, h⟩ := Option.bind_eq_some_iff.1 h
  obtain ⟨t2, A2, h⟩ := Option.bind_eq_some_iff.1 h
  obtain ⟨t3, A3, h⟩ := Option.bind_eq_some_iff.1 h
  by_cases hz : t0.size + t1.size + t2.size + t3.size ≤ 9223372036854775807
  · rw [if_pos hz] at h
    obtain rfl := Option.some.inj h
    have z0 : t0.size ≤ 9223372036854775807 := by omega
    have z1 : t0.size + t1.size ≤ 9223372036854775807 := by omega
    have z2 : t0.size + t1.size + t2.size ≤ 9223372036854775807 := by omega
    replace A0 := Aside0.mk A0
    replace A1 := Aside0.mk A1
    replace A2 := Aside0.mk A2
    replace A3 := Aside0.mk A3
    clear h
    have hu := Try.underlying28
    have hu2 := Try.underlying26
    have x0 := fun W => vec_Put.at_ #[.int .u64 a0_0, .int .u64 a0_1, .int .u64 a0_2, .int .u64 a0_3] rfl 0 (.int .u64 a0_0) W rfl
    have x1 := fun W => vec_Put.at_ #[.int .u64 a0_0, .int .u64 a0_1, .int .u64 a0_2, .int .u64 a0_3] rfl 1 (.int .u64 a0_1) W rfl
    have x2 := fun W => vec_Put.at_ #[.int .u64 a0_0, .int .u64 a0_1, .int .u64 a0_2, .int .u64 a0_3] rfl 2 (.int .u64 a0_2) W rfl
    have x3 := fun W => vec_Put.at_ #[.int .u64 a0_0, .int .u64 a0_1, .int .u64 a0_2, .int .u64 a0_3] rfl 3 (.int .u64 a0_3) W rfl
    simp only [Int.ofNat_eq_natCast, Int.cast_ofNat_Int] at x0 x1 x2 x3
    go_enter Try.func59, Try.ntmps59
    go_wp2
    generalize hW : (w.alloc (Obj.cells _ _)) = W0
    have HB : Below w.heap.size w W0 := by rw [← hW]; exact below_alloc (Below.refl _ _) _
    replace HB := Aside0.mk HB
    clear hW
    refine wp_loop_rounds 5 ?_
    rw [rounds_succ]
    go_wp2_with (go_at_call 60; refine (pack_Vary.calls k _ t0 _ A0.out).mono ?_; rintro e w1 ⟨rfl, hb⟩; have HB1 := Aside0.mk (below_step HB.out hb); clear hb)
    rw [rounds_succ]
    go_wp2_with (go_at_call 60; refine (pack_Vary.calls k _ t1 _ A1.out).mono ?_; rintro e w2 ⟨rfl, hb⟩; have HB2 := Aside0.mk (below_step HB1.out hb); clear hb)
    rw [rounds_succ]
    go_wp2_with (go_at_call 60; refine (pack_Vary.calls k _ t2 _ A2.out).mono ?_; rintro e w3 ⟨rfl, hb⟩; have HB3 := Aside0.mk (below_step HB2.out hb); clear hb)
    rw [rounds_succ]
    go_wp2_with (go_at_call 60; refine (pack_Vary.calls k _ t3 _ A3.out).mono ?_; rintro e w4 ⟨rfl, hb⟩; have HB4 := Aside0.mk (below_step HB3.out hb); clear hb)
    rw [rounds_succ]
    go_wp2
    go_ret
    exact ⟨by first | rfl | simp, HB4.out⟩
  · rw [if_neg hz] at h
    exact absurd h (by simp)


end Go.Proofs.Ytoogchgoiciggaa.Q

-- Written by this session's own driver (wip/hybrid.py) of the kit's printer; contracts marked FOREIGN are by hand.
namespace Go.Proofs.Ytoogchgoiciggaa.Q
open Go.RowKit Go.Proofs.YtoogchgoiciggaaW.PrintWords Go.Proofs.YtoogchgoiciggaaW.PrintLast Go.Proofs.YtoogchgoiciggaaW.PrintMore
attribute [local go_sem] max2_int min2_int max_two min_two max_three min_three max_four min_four   -- for this text's walks alone
set_option linter.unusedVariables false
set_option linter.unusedSimpArgs false

/-! ### stamp_Put: function 35 -/
def stamp_Put.f (k : Nat) (a0_0 : Int) (a0_1 : Int) (a0_2 : Int) (a0_3 : Int) (a0_4 : Int) : Option (ByteArray × Bool) := (stamp_Right.f a0_0 a0_1 a0_2 a0_3 a0_4).bind fun t121 => (if t121 = true then ((pack_Number.f (IntKind.u64.wrap (a0_4)) 1).bind fun t122 => ((vec_Put.f k a0_0 a0_1 a0_2 a0_3).bind fun t123 => (if t122.size + t123.size ≤ 9223372036854775807 then (some (t122 ++ t123, true)) else (none)))) else (some ((⟨#[]⟩ : ByteArray), false)))
theorem stamp_Put.mono : ∀ a0 a1 a2 a3 a4 k, LeO (stamp_Put.f k a0 a1 a2 a3 a4) (stamp_Put.f (k + 1) a0 a1 a2 a3 a4) := by
  intro a0 a1 a2 a3 a4 k
  unfold stamp_Put.f
  repeat' first
      | (with_reducible exact vec_Put.mono _ _ _ _ _)
      | (with_reducible exact LeO.refl _)
      | (with_reducible exact LeO.none _)
      | (with_reducible refine LeO.ite ?_ ?_)
      | (with_reducible refine LeO.bind ?_ (fun _ => ?_))
      | exact vec_Put.mono _ _ _ _ _
      | exact LeO.none _
      | refine LeO.ite ?_ ?_
      | refine LeO.bind ?_ (fun _ => ?_)
def stamp_Put.T3 : Bool × List (List Nat × List Nat) := (true, [([], []), ([0], [0]), ([1], [1]), ([2], [2]), ([], []), ([4], [4]), ([5, 3], [5]), ([3, 6], [3, 6]), ([7, 6, 0, 1, 2, 3, 4, 5, 6, 7], [7]), ([8, 0, 1, 2, 3, 4, 5, 6, 7, 8], [])])
def stamp_Put.B3 : List Nat := [0, 1, 3, 7, 0, 16, 63, 127, 255, 511]
theorem stamp_Put.tab3 : rtab .any (opsOf Try.f35 3) = stamp_Put.T3 := by kernel_rfl
theorem stamp_Put.bits3 : waitsOk stamp_Put.T3.2 stamp_Put.B3 = true := by kernel_rfl
set_option maxHeartbeats 8000000 in
set_option maxRecDepth 100000 in
theorem stamp_Put.calls (k : Nat) (a0_0 : Int) (a0_1 : Int) (a0_2 : Int) (a0_3 : Int) (a0_4 : Int) (r1 : ByteArray) (r2 : Bool) (w : World) (h : stamp_Put.f k a0_0 a0_1 a0_2 a0_3 a0_4 = some (r1, r2)) :
    Calls Try.prog 35 #[.agg #[.int .u64 a0_0, .int .u64 a0_1, .int .u64 a0_2, .int .u64 a0_3, .int .i64 a0_4]] w fun e w' => e = .returned (.tuple #[.string r1, .bool r2]) ∧ Below w.heap.size w w' := by
  have hu30 := Try.underlying30
  have hu28 := Try.underlying28
  have HB := Aside0.mk (Below.refl w.heap.size w)
  have H : ((stamp_Right.f a0_0 a0_1 a0_2 a0_3 a0_4).bind fun t121 => (if t121 = true then ((pack_Number.f (IntKind.u64.wrap (a0_4)) 1).bind fun t122 => ((vec_Put.f k a0_0 a0_1 a0_2 a0_3).bind fun t123 => (if t122.size + t123.size ≤ 9223372036854775807 then (some (t122 ++ t123, true)) else (none)))) else (some ((⟨#[]⟩ : ByteArray), false)))) = some (r1, r2) := h
  (try (have Hs_ := H; simp only [ByteArray.size_append, Int.natCast_add] at Hs_))
  clear h
  replace H := Option.bind_eq_some_iff.mp H
  obtain ⟨t121, A20, H⟩ := H
  replace H : (if t121 = true then ((pack_Number.f (IntKind.u64.wrap (a0_4)) 1).bind fun t122 => ((vec_Put.f k a0_0 a0_1 a0_2 a0_3).bind fun t123 => (if t122.size + t123.size ≤ 9223372036854775807 then (some (t122 ++ t123, true)) else (none)))) else (some ((⟨#[]⟩ : ByteArray), false))) = some (r1, r2) := H
  have A2 := Aside0.mk A20
  clear A20
  by_cases c3 : t121 = true
  rotate_left
  · replace c3 := Bool.eq_false_iff.mpr c3
    subst c3
    have H1 : (some ((⟨#[]⟩ : ByteArray), false)) = some (r1, r2) := by rw [if_neg (show ¬ (false = true) by decide)] at H; exact H
    clear H
    have H := H1
    clear H1
    simp only [Option.some.injEq, Prod.mk.injEq] at H
    obtain ⟨rfl, rfl⟩ := H
    go_enter Try.func35, Try.ntmps35
    go_wp2_with (first | ((with_reducible refine gate_dst (N := 1) rfl ?_); refine box_event ?hg (N := 1) ?hd (cs := #[.int .u64 a0_0, .int .u64 a0_1, .int .u64 a0_2, .int .u64 a0_3, .int .i64 a0_4]) (t := 30) ?hr ?_; (case hd => rfl); (case hg => rfl); (case hr => first | (go_simp; done) | (go_simp; rfl)); intro gb120 hg w13 hbox hb; have BK120 := Aside0.mk (hbox); have GW120 := Kw_ HB hg; have GE120 := GW120; replace HB := Ks_ HB hb; clear hb hbox hg; obtain ⟨hcz14_0, hcz14_1, hcz14_2, hcz14_3, hcz14_4, hfz14_0, hfz14_1, hfz14_2, hfz14_3, hfz14_4⟩ := Ke5_ BK120.out) | ((with_reducible refine gate_callee (f := 44) rfl ?_); refine goesL_ (some 5) rfl rfl Try.func44 (by kernel_rfl) rfl #[.agg #[.int .u64 a0_0, .int .u64 a0_1, .int .u64 a0_2, .int .u64 a0_3, .int .i64 a0_4]] rfl (by (try simp only [List.map_toArray, List.map_cons, List.map_nil]); first | done | rfl | (simp only [List.length_drop, List.length_take]; rfl)) ?_; (with_reducible refine (stamp_Right.calls a0_0 a0_1 a0_2 a0_3 a0_4 false _ A2.out).mono ?_); rintro e w15 ⟨rfl, hb⟩; refine ⟨_, rfl, ?_⟩; replace BK120 := Kb_ BK120 hb; replace HB := Ks_ HB hb; (try clear hb); (try clear hb2); (try clear hk); (try clear hi)))
    go_ret2
    exact ⟨by first | rfl | (simp [errW_none, errW_some] <;> rfl) | (simp [*, errW_none, errW_some] <;> rfl), Kz_ HB GE120⟩
  subst c3
  have H1 : ((pack_Number.f (IntKind.u64.wrap (a0_4)) 1).bind fun t122 => ((vec_Put.f k a0_0 a0_1 a0_2 a0_3).bind fun t123 => (if t122.size + t123.size ≤ 9223372036854775807 then (some (t122 ++ t123, true)) else (none)))) = some (r1, r2) := by rw [if_pos rfl] at H; exact H
  clear H
  have H := H1
  clear H1
  replace H := Option.bind_eq_some_iff.mp H
  obtain ⟨t122, A40, H⟩ := H
  replace H : ((vec_Put.f k a0_0 a0_1 a0_2 a0_3).bind fun t123 => (if t122.size + t123.size ≤ 9223372036854775807 then (some (t122 ++ t123, true)) else (none))) = some (r1, r2) := H
  have A4 := Aside0.mk A40
  clear A40
  replace H := Option.bind_eq_some_iff.mp H
  obtain ⟨t123, A50, H⟩ := H
  replace H : (if t122.size + t123.size ≤ 9223372036854775807 then (some (t122 ++ t123, true)) else (none)) = some (r1, r2) := H
  have A5 := Aside0.mk A50
  clear A50
  by_cases c6 : t122.size + t123.size ≤ 9223372036854775807
  rotate_left
  · rw [if_neg c6] at H
    exact absurd H (by simp)
  rw [if_pos c6] at H
  have c6b0 := eq_true c6
  have c6b1 : decide (t122.size + t123.size ≤ 9223372036854775807) = true := decide_eq_true c6
  try have c6b2 : (9223372036854775807 < t122.size + t123.size) = False := eq_false (Nat.not_lt.2 c6)
  simp only [Option.some.injEq, Prod.mk.injEq] at H
  obtain ⟨rfl, rfl⟩ := H
  go_enter Try.func35, Try.ntmps35
  try go_wp2_with (first | ((with_reducible refine gate_dst (N := 1) rfl ?_); refine box_event ?hg (N := 1) ?hd (cs := #[.int .u64 a0_0, .int .u64 a0_1, .int .u64 a0_2, .int .u64 a0_3, .int .i64 a0_4]) (t := 30) ?hr ?_; (case hd => rfl); (case hg => rfl); (case hr => first | (go_simp; done) | (go_simp; rfl)); intro gb120 hg w7 hbox hb; have BK120 := Aside0.mk (hbox); have GW120 := Kw_ HB hg; have GE120 := GW120; replace HB := Ks_ HB hb; clear hb hbox hg; obtain ⟨hcz8_0, hcz8_1, hcz8_2, hcz8_3, hcz8_4, hfz8_0, hfz8_1, hfz8_2, hfz8_3, hfz8_4⟩ := Ke5_ BK120.out) | ((with_reducible refine gate_callee (f := 44) rfl ?_); refine goesL_ (some 5) rfl rfl Try.func44 (by kernel_rfl) rfl #[.agg #[.int .u64 a0_0, .int .u64 a0_1, .int .u64 a0_2, .int .u64 a0_3, .int .i64 a0_4]] rfl (by (try simp only [List.map_toArray, List.map_cons, List.map_nil]); first | done | rfl | (simp only [List.length_drop, List.length_take]; rfl)) ?_; (with_reducible refine (stamp_Right.calls a0_0 a0_1 a0_2 a0_3 a0_4 true _ A2.out).mono ?_); rintro e w9 ⟨rfl, hb⟩; refine ⟨_, rfl, ?_⟩; replace BK120 := Kb_ BK120 hb; replace HB := Ks_ HB hb; (try clear hb); (try clear hb2); (try clear hk); (try clear hi)))
  replace BK120 := Kd_ BK120
  replace HB := Aside0.mk (below_drew1 HB.out)
  refine start_ (n := 10) (S := fun w' => w'.cell? ⟨gb120, 0, none⟩ = some (.int .u64 a0_0) ∧ w'.cell? ⟨gb120, 1, none⟩ = some (.int .u64 a0_1) ∧ w'.cell? ⟨gb120, 2, none⟩ = some (.int .u64 a0_2) ∧ w'.cell? ⟨gb120, 3, none⟩ = some (.int .u64 a0_3) ∧ w'.cell? ⟨gb120, 4, none⟩ = some (.int .i64 a0_4)) (ds := []) #[false, false, false, false, false, false, false, false, false, false] (by kernel_rfl) rfl rfl (Kc5_ BK120.out) (fun hHeld => ?_); refine with_tabW stamp_Put.tab3 stamp_Put.bits3 (fun HT_ HW_ => ?_)
  generalize w9.drew = w10 at BK120 HB hHeld ⊢
  refine pure_ (i := 0) (N := some 7) (v := ?_) (a' := ?_) #[true, false, false, false, false, false, false, false, false, false] rfl rfl (any_of HT_.out (by kernel_rfl)) (fun _ _ _ h => h) (Or.inl ⟨by rfl, ?_⟩) ?_ ?_
  rotate_left
  · intro w'
    go_simp
    with_reducible rfl
  rotate_left
  · simp only [Act.put, List.setIfInBounds_toArray, List.set_cons_zero, List.set_cons_succ, i64_w, i32_w]
    rfl
  refine pure_ (i := 4) (N := some 11) (v := ?_) (a' := ?_) #[true, false, false, false, true, false, false, false, false, false] rfl rfl (any_of HT_.out (by kernel_rfl)) (fun _ _ _ h => h) (Or.inl ⟨by rfl, ?_⟩) ?_ ?_
  rotate_left
  · intro w'
    go_simp
    with_reducible rfl
  rotate_left
  · simp only [Act.put, List.setIfInBounds_toArray, List.set_cons_zero, List.set_cons_succ, i64_w, i32_w]
    rfl
  refine take_ (i := 1) (N := some 8) (v := ?_) (a' := ?_) #[true, true, false, false, true, false, false, false, false, false] rfl rfl (take_ofW HT_.out HW_.out (by kernel_rfl)) (fun _ _ _ h => h) (Or.inl ⟨by rfl, ?_⟩) hHeld ?_ ?_
  rotate_left
  · rintro w' ⟨s0, s1, s2, s3, s4⟩
    go_simp
    with_reducible rfl
  rotate_left
  · simp only [Act.put, List.setIfInBounds_toArray, List.set_cons_zero, List.set_cons_succ, i64_w, i32_w]
    rfl
  refine pure_ (i := 2) (N := some 9) (v := ?_) (a' := ?_) #[true, true, true, false, true, false, false, false, false, false] rfl rfl (any_of HT_.out (by kernel_rfl)) (fun _ _ _ h => h) (Or.inl ⟨by rfl, ?_⟩) ?_ ?_
  rotate_left
  · intro w'
    go_simp
    with_reducible rfl
  rotate_left
  · simp only [Act.put, List.setIfInBounds_toArray, List.set_cons_zero, List.set_cons_succ, i64_w, i32_w]
    rfl
  refine take_ (i := 5) (N := some 12) (v := ?_) (a' := ?_) #[true, true, true, false, true, true, false, false, false, false] rfl rfl (take_ofW HT_.out HW_.out (by kernel_rfl)) (fun _ _ _ h => h) (Or.inl ⟨by rfl, ?_⟩) hHeld ?_ ?_
  rotate_left
  · rintro w' ⟨s0, s1, s2, s3, s4⟩
    go_simp
    with_reducible rfl
  rotate_left
  · simp only [Act.put, List.setIfInBounds_toArray, List.set_cons_zero, List.set_cons_succ, i64_w, i32_w]
    rfl
  refine one_ (i := 3) (N := some 10) #[true, true, true, true, true, true, false, false, false, false] rfl rfl (one_of HT_.out (by kernel_rfl)) (by decide) (fun K hK => ?_)
  refine goes_ Try.func36 (by kernel_rfl) rfl #[.int .u64 (IntKind.u64.wrap (a0_4)), .int .i64 1] (by rfl) rfl rfl (by (try simp only [List.map_toArray, List.map_cons, List.map_nil]); first | done | rfl | (simp only [List.length_drop, List.length_take]; rfl)) ?_
  with_reducible refine (pack_Number.calls (IntKind.u64.wrap (a0_4)) 1 t122 _ A4.out).mono ?_
  rintro e w11 ⟨rfl, hb⟩
  refine ⟨_, rfl, ?_⟩
  replace BK120 := Kb_ BK120 hb
  replace HB := Ks_ HB hb
  (try clear hb)
  (try clear hb2)
  (try clear hk)
  (try clear hi)
  refine hK.out _ _ (Kc5_ BK120.out) (fun hHeld => ?_)
  clear hK K
  refine norm_ (a' := ?_) ?_ ?_
  rotate_left
  · show Act.put _ (some 10) _ = _
    simp only [Act.put, List.setIfInBounds_toArray, List.set_cons_zero, List.set_cons_succ, i64_w, i32_w]
    rfl
  refine one_ (i := 6) (N := some 13) #[true, true, true, true, true, true, true, false, false, false] rfl rfl (one_of HT_.out (by kernel_rfl)) (by decide) (fun K hK => ?_)
  refine goes_ Try.func59 (by kernel_rfl) rfl #[.agg #[.int .u64 a0_0, .int .u64 a0_1, .int .u64 a0_2, .int .u64 a0_3]] (by rfl) rfl rfl (by (try simp only [List.map_toArray, List.map_cons, List.map_nil]); first | done | rfl | (simp only [List.length_drop, List.length_take]; rfl)) ?_
  with_reducible refine (vec_Put.calls k a0_0 a0_1 a0_2 a0_3 t123 _ A5.out).mono ?_
  rintro e w12 ⟨rfl, hb⟩
  refine ⟨_, rfl, ?_⟩
  replace BK120 := Kb_ BK120 hb
  replace HB := Ks_ HB hb
  (try clear hb)
  (try clear hb2)
  (try clear hk)
  (try clear hi)
  refine hK.out _ _ (Kc5_ BK120.out) (fun hHeld => ?_)
  clear hK K
  refine norm_ (a' := ?_) ?_ ?_
  rotate_left
  · show Act.put _ (some 13) _ = _
    simp only [Act.put, List.setIfInBounds_toArray, List.set_cons_zero, List.set_cons_succ, i64_w, i32_w]
    rfl
  refine pure_ (i := 7) (N := some 14) (v := ?_) (a' := ?_) #[true, true, true, true, true, true, true, true, false, false] rfl rfl (any_of HT_.out (by kernel_rfl)) (fun _ _ _ h => h) (Or.inl ⟨by rfl, ?_⟩) ?_ ?_
  rotate_left
  · intro w'
    go_simp
    with_reducible rfl
  rotate_left
  · simp only [Act.put, List.setIfInBounds_toArray, List.set_cons_zero, List.set_cons_succ, i64_w, i32_w]
    rfl
  refine pure_ (i := 8) (N := some 2) (v := ?_) (a' := ?_) #[true, true, true, true, true, true, true, true, true, false] rfl rfl (any_of HT_.out (by kernel_rfl)) (fun _ _ _ h => h) (Or.inl ⟨by rfl, ?_⟩) ?_ ?_
  rotate_left
  · intro w'
    go_simp
    with_reducible rfl
  rotate_left
  · simp only [Act.put, List.setIfInBounds_toArray, List.set_cons_zero, List.set_cons_succ, i64_w, i32_w]
    rfl
  refine pure_ (i := 9) (N := some 3) (v := ?_) (a' := ?_) #[true, true, true, true, true, true, true, true, true, true] rfl rfl (any_of HT_.out (by kernel_rfl)) (fun _ _ _ h => h) (Or.inl ⟨by rfl, ?_⟩) ?_ ?_
  rotate_left
  · intro w'
    go_simp
    with_reducible rfl
  rotate_left
  · simp only [Act.put, List.setIfInBounds_toArray, List.set_cons_zero, List.set_cons_succ, i64_w, i32_w]
    rfl
  refine done_ (done_of HT_.out (by kernel_rfl)) ?_
  try go_wp2
  go_ret2
  exact ⟨by first | rfl | (simp [errW_none, errW_some] <;> rfl) | (simp [*, errW_none, errW_some] <;> rfl), Kz_ HB GE120⟩

end Go.Proofs.Ytoogchgoiciggaa.Q

-- Written by this session's own driver (wip/hybrid.py) of the kit's printer; contracts marked FOREIGN are by hand.
namespace Go.Proofs.Ytoogchgoiciggaa.Q
open Go.RowKit Go.Proofs.YtoogchgoiciggaaW.PrintWords Go.Proofs.YtoogchgoiciggaaW.PrintLast Go.Proofs.YtoogchgoiciggaaW.PrintMore
attribute [local go_sem] max2_int min2_int max_two min_two max_three min_three max_four min_four   -- for this text's walks alone
set_option linter.unusedVariables false
set_option linter.unusedSimpArgs false

/-! ### item_Bytes: function 15 -/
def item_Bytes.l0 : Nat → ByteArray → List (S23) → Int → Int → Option (ByteArray × Bool)
  | 0, _, _, _, _ => none
  | k + 1, x4, x25, x26, x27 => if x27 < x26 then (if 0 ≤ x27 then (if x27 < (x25.length : Int) then ((pack_Text.f k ((rd_T23 x25 x27).f0)).bind fun t132 => ((pack_Text.f k ((rd_T23 x25 x27).f1)).bind fun t133 => (if t132.size + t133.size ≤ 9223372036854775807 then (if x4.size + (t132 ++ t133).size ≤ 9223372036854775807 then (if (rd_T23 x25 x27).f3 = true then ((pack_Number.f 1 1).bind fun t134 => (if (x4 ++ (t132 ++ t133)).size + t134.size ≤ 9223372036854775807 then (item_Bytes.l0 k ((x4 ++ (t132 ++ t133)) ++ t134) x25 x26 (wrap64 (x27 + 1))) else (none))) else ((pack_Number.f 0 1).bind fun t135 => ((pack_Text.f k ((rd_T23 x25 x27).f2)).bind fun t136 => (if t135.size + t136.size ≤ 9223372036854775807 then (if (x4 ++ (t132 ++ t133)).size + (t135 ++ t136).size ≤ 9223372036854775807 then (item_Bytes.l0 k ((x4 ++ (t132 ++ t133)) ++ (t135 ++ t136)) x25 x26 (wrap64 (x27 + 1))) else (none)) else (none))))) else (none)) else (none)))) else (none)) else (none)) else (some (x4, true))
def item_Bytes.f (k : Nat) (a0_0 : Int) (a0_1 : Int) (a0_2 : Int) (a0_3 : Int) (a0_4 : Int) (l0_5 : List (S23)) : Option (ByteArray × Bool) := (item_Whole.f a0_0 a0_1 a0_2 a0_3 a0_4 l0_5).bind fun t126 => (if t126 = true then ((stamp_Put.f k a0_0 a0_1 a0_2 a0_3 a0_4).bind fun bt127 => ((pack_Number.f (IntKind.u64.wrap ((l0_5.length : Int))) 1).bind fun t129 => (if bt127.1.size + t129.size ≤ 9223372036854775807 then (item_Bytes.l0 k (bt127.1 ++ t129) l0_5 (l0_5.length : Int) 0) else (none)))) else (some ((⟨#[]⟩ : ByteArray), false)))
theorem item_Bytes.mono_l : ∀ k, (∀ y0 y1 y2 y3, LeO (item_Bytes.l0 k y0 y1 y2 y3) (item_Bytes.l0 (k + 1) y0 y1 y2 y3))
  | 0 => fun _ _ _ _ r h => by simp [item_Bytes.l0] at h
  | k + 1 => by
    have ih0 := item_Bytes.mono_l k
    · intro y0 y1 y2 y3
      unfold item_Bytes.l0
      repeat' first
      | (with_reducible exact ih0 _ _ _ _)
      | (with_reducible exact pack_Text.mono _ _)
      | (with_reducible exact stamp_Put.mono _ _ _ _ _ _)
      | (with_reducible exact LeO.refl _)
      | (with_reducible exact LeO.none _)
      | (with_reducible refine LeO.ite ?_ ?_)
      | (with_reducible refine LeO.bind ?_ (fun _ => ?_))
      | exact ih0 _ _ _ _
      | exact pack_Text.mono _ _
      | exact stamp_Put.mono _ _ _ _ _ _
      | exact LeO.none _
      | refine LeO.ite ?_ ?_
      | refine LeO.bind ?_ (fun _ => ?_)
theorem item_Bytes.mono : ∀ a0 a1 a2 a3 a4 a5 k, LeO (item_Bytes.f k a0 a1 a2 a3 a4 a5) (item_Bytes.f (k + 1) a0 a1 a2 a3 a4 a5) := by
  intro a0 a1 a2 a3 a4 a5 k
  have ih0 := item_Bytes.mono_l k
  unfold item_Bytes.f
  repeat' first
      | (with_reducible exact ih0 _ _ _ _)
      | (with_reducible exact pack_Text.mono _ _)
      | (with_reducible exact stamp_Put.mono _ _ _ _ _ _)
      | (with_reducible exact LeO.refl _)
      | (with_reducible exact LeO.none _)
      | (with_reducible refine LeO.ite ?_ ?_)
      | (with_reducible refine LeO.bind ?_ (fun _ => ?_))
      | exact ih0 _ _ _ _
      | exact pack_Text.mono _ _
      | exact stamp_Put.mono _ _ _ _ _ _
      | exact LeO.none _
      | refine LeO.ite ?_ ?_
      | refine LeO.bind ?_ (fun _ => ?_)
def item_Bytes.T8 : Bool × List (List Nat × List Nat) := (true, [([], []), ([], []), ([1], [1]), ([2], [2]), ([], []), ([4], [4]), ([5, 3], [5]), ([3, 6], [3, 6]), ([0, 7], [0, 7]), ([8, 6, 0, 1, 2, 3, 4, 5, 6, 7, 8], [0, 8])])
def item_Bytes.B8 : List Nat := [0, 0, 2, 6, 0, 16, 62, 126, 255, 511]
theorem item_Bytes.tab8 : rtab .any (opsOf Try.f15 8) = item_Bytes.T8 := by kernel_rfl
theorem item_Bytes.bits8 : waitsOk item_Bytes.T8.2 item_Bytes.B8 = true := by kernel_rfl
def item_Bytes.T11 : Bool × List (List Nat × List Nat) := (true, [([], []), ([], []), ([], []), ([2], [2]), ([3, 1], [3]), ([1, 4], [1, 4]), ([0, 5], [0, 5]), ([6, 4, 0, 1, 2, 3, 4, 5, 6], [0, 6])])
def item_Bytes.B11 : List Nat := [0, 0, 0, 4, 14, 30, 63, 127]
theorem item_Bytes.tab11 : rtab .any (opsOf Try.f15 11) = item_Bytes.T11 := by kernel_rfl
theorem item_Bytes.bits11 : waitsOk item_Bytes.T11.2 item_Bytes.B11 = true := by kernel_rfl
set_option maxHeartbeats 8000000 in
set_option maxRecDepth 100000 in
theorem item_Bytes.calls (k : Nat) (a0_0 : Int) (a0_1 : Int) (a0_2 : Int) (a0_3 : Int) (a0_4 : Int) (A0_5 : Option Addr) (c0_5 : Nat) (l0_5 : List (S23)) (r1 : ByteArray) (r2 : Bool) (w : World) (hr0_5 : Kd.C k23 w A0_5 l0_5.length l0_5) (hc0_5 : l0_5.length ≤ c0_5) (h : item_Bytes.f k a0_0 a0_1 a0_2 a0_3 a0_4 l0_5 = some (r1, r2)) :
    Calls Try.prog 15 #[.agg #[.int .u64 a0_0, .int .u64 a0_1, .int .u64 a0_2, .int .u64 a0_3, .int .i64 a0_4, .slice A0_5 l0_5.length c0_5]] w fun e w' => e = .returned (.tuple #[.string r1, .bool r2]) ∧ Below w.heap.size w w' := by
  have hu43 := Try.underlying43
  have hu30 := Try.underlying30
  have hu23 := Try.underlying23
  have HR0_5 := Aside0.mk hr0_5
  have HC0_5 := Aside0.mk hc0_5
  clear hr0_5 hc0_5
  have HB := Aside0.mk (Below.refl w.heap.size w)
  have H : ((item_Whole.f a0_0 a0_1 a0_2 a0_3 a0_4 l0_5).bind fun t126 => (if t126 = true then ((stamp_Put.f k a0_0 a0_1 a0_2 a0_3 a0_4).bind fun bt127 => ((pack_Number.f (IntKind.u64.wrap ((l0_5.length : Int))) 1).bind fun t129 => (if bt127.1.size + t129.size ≤ 9223372036854775807 then (item_Bytes.l0 k (bt127.1 ++ t129) l0_5 (l0_5.length : Int) 0) else (none)))) else (some ((⟨#[]⟩ : ByteArray), false)))) = some (r1, r2) := h
  (try (have Hs_ := H; simp only [ByteArray.size_append, Int.natCast_add] at Hs_))
  clear h
  replace H := Option.bind_eq_some_iff.mp H
  obtain ⟨t126, A20, H⟩ := H
  replace H : (if t126 = true then ((stamp_Put.f k a0_0 a0_1 a0_2 a0_3 a0_4).bind fun bt127 => ((pack_Number.f (IntKind.u64.wrap ((l0_5.length : Int))) 1).bind fun t129 => (if bt127.1.size + t129.size ≤ 9223372036854775807 then (item_Bytes.l0 k (bt127.1 ++ t129) l0_5 (l0_5.length : Int) 0) else (none)))) else (some ((⟨#[]⟩ : ByteArray), false))) = some (r1, r2) := H
  have A2 := Aside0.mk A20
  clear A20
  by_cases c3 : t126 = true
  rotate_left
  · replace c3 := Bool.eq_false_iff.mpr c3
    subst c3
    have H1 : (some ((⟨#[]⟩ : ByteArray), false)) = some (r1, r2) := by rw [if_neg (show ¬ (false = true) by decide)] at H; exact H
    clear H
    have H := H1
    clear H1
    simp only [Option.some.injEq, Prod.mk.injEq] at H
    obtain ⟨rfl, rfl⟩ := H
    go_enter Try.func15, Try.ntmps15
    go_wp2_with (first | ((with_reducible refine gate_dst (N := 1) rfl ?_); refine box_event ?hg (N := 1) ?hd (cs := #[.int .u64 a0_0, .int .u64 a0_1, .int .u64 a0_2, .int .u64 a0_3, .int .i64 a0_4, .slice A0_5 l0_5.length c0_5]) (t := 43) ?hr ?_; (case hd => rfl); (case hg => rfl); (case hr => first | (go_simp; done) | (go_simp; rfl)); intro gb125 hg w50 hbox hb; have BK125 := Aside0.mk (hbox); have GW125 := Kw_ HB hg; have GE125 := GW125; replace HB := Ks_ HB hb; clear hb hbox hg; obtain ⟨hcz51_0, hcz51_1, hcz51_2, hcz51_3, hcz51_4, hcz51_5, hfz51_0, hfz51_1, hfz51_2, hfz51_3, hfz51_4, hfz51_5⟩ := Ke6_ BK125.out) | ((with_reducible refine gate_callee (f := 22) rfl ?_); refine goesL_ (some 9) rfl rfl Try.func22 (by kernel_rfl) rfl #[.agg #[.int .u64 a0_0, .int .u64 a0_1, .int .u64 a0_2, .int .u64 a0_3, .int .i64 a0_4, .slice A0_5 l0_5.length c0_5]] rfl (by (try simp only [List.map_toArray, List.map_cons, List.map_nil]); first | done | rfl | (simp only [List.length_drop, List.length_take]; rfl)) ?_; (with_reducible refine (item_Whole.calls a0_0 a0_1 a0_2 a0_3 a0_4 _ _ l0_5 false _ ?side1 ?side2 A2.out).mono ?_); (case side1 => repeat (first | exact (Kd.C_below HR0_5.out HB.out) | (with_reducible refine Kd.C_alloc ?_ _) | (with_reducible refine Kd.C_drewN ?_ _) | (with_reducible refine Kd.C_drew ?_))); (case side2 => exact HC0_5.out); rintro e w52 ⟨rfl, hb⟩; refine ⟨_, rfl, ?_⟩; replace BK125 := Kb_ BK125 hb; replace HB := Ks_ HB hb; (try clear hb); (try clear hb2); (try clear hk); (try clear hi)))
    go_ret2
    exact ⟨by first | rfl | (simp [errW_none, errW_some] <;> rfl) | (simp [*, errW_none, errW_some] <;> rfl), Kz_ HB GE125⟩
  subst c3
  have H1 : ((stamp_Put.f k a0_0 a0_1 a0_2 a0_3 a0_4).bind fun bt127 => ((pack_Number.f (IntKind.u64.wrap ((l0_5.length : Int))) 1).bind fun t129 => (if bt127.1.size + t129.size ≤ 9223372036854775807 then (item_Bytes.l0 k (bt127.1 ++ t129) l0_5 (l0_5.length : Int) 0) else (none)))) = some (r1, r2) := by rw [if_pos rfl] at H; exact H
  clear H
  have H := H1
  clear H1
  replace H := Option.bind_eq_some_iff.mp H
  obtain ⟨⟨t127, t128⟩, A40, H⟩ := H
  replace H : ((pack_Number.f (IntKind.u64.wrap ((l0_5.length : Int))) 1).bind fun t129 => (if t127.size + t129.size ≤ 9223372036854775807 then (item_Bytes.l0 k (t127 ++ t129) l0_5 (l0_5.length : Int) 0) else (none))) = some (r1, r2) := H
  have A4 := Aside0.mk A40
  clear A40
  replace H := Option.bind_eq_some_iff.mp H
  obtain ⟨t129, A50, H⟩ := H
  replace H : (if t127.size + t129.size ≤ 9223372036854775807 then (item_Bytes.l0 k (t127 ++ t129) l0_5 (l0_5.length : Int) 0) else (none)) = some (r1, r2) := H
  have A5 := Aside0.mk A50
  clear A50
  by_cases c6 : t127.size + t129.size ≤ 9223372036854775807
  rotate_left
  · rw [if_neg c6] at H
    exact absurd H (by simp)
  rw [if_pos c6] at H
  have c6b0 := eq_true c6
  have c6b1 : decide (t127.size + t129.size ≤ 9223372036854775807) = true := decide_eq_true c6
  try have c6b2 : (9223372036854775807 < t127.size + t129.size) = False := eq_false (Nat.not_lt.2 c6)
  have H' := Aside0.mk H
  clear H
  go_enter Try.func15, Try.ntmps15
  go_wp2_with (first | ((with_reducible refine gate_dst (N := 1) rfl ?_); refine box_event ?hg (N := 1) ?hd (cs := #[.int .u64 a0_0, .int .u64 a0_1, .int .u64 a0_2, .int .u64 a0_3, .int .i64 a0_4, .slice A0_5 l0_5.length c0_5]) (t := 43) ?hr ?_; (case hd => rfl); (case hg => rfl); (case hr => first | (go_simp; done) | (go_simp; rfl)); intro gb125 hg w7 hbox hb; have BK125 := Aside0.mk (hbox); have GW125 := Kw_ HB hg; have GE125 := GW125; replace HB := Ks_ HB hb; clear hb hbox hg; obtain ⟨hcz8_0, hcz8_1, hcz8_2, hcz8_3, hcz8_4, hcz8_5, hfz8_0, hfz8_1, hfz8_2, hfz8_3, hfz8_4, hfz8_5⟩ := Ke6_ BK125.out) | ((with_reducible refine gate_callee (f := 22) rfl ?_); refine goesL_ (some 9) rfl rfl Try.func22 (by kernel_rfl) rfl #[.agg #[.int .u64 a0_0, .int .u64 a0_1, .int .u64 a0_2, .int .u64 a0_3, .int .i64 a0_4, .slice A0_5 l0_5.length c0_5]] rfl (by (try simp only [List.map_toArray, List.map_cons, List.map_nil]); first | done | rfl | (simp only [List.length_drop, List.length_take]; rfl)) ?_; (with_reducible refine (item_Whole.calls a0_0 a0_1 a0_2 a0_3 a0_4 _ _ l0_5 true _ ?side1 ?side2 A2.out).mono ?_); (case side1 => repeat (first | exact (Kd.C_below HR0_5.out HB.out) | (with_reducible refine Kd.C_alloc ?_ _) | (with_reducible refine Kd.C_drewN ?_ _) | (with_reducible refine Kd.C_drew ?_))); (case side2 => exact HC0_5.out); rintro e w9 ⟨rfl, hb⟩; refine ⟨_, rfl, ?_⟩; replace BK125 := Kb_ BK125 hb; replace HB := Ks_ HB hb; (try clear hb); (try clear hb2); (try clear hk); (try clear hi); obtain ⟨hcz10_0, hcz10_1, hcz10_2, hcz10_3, hcz10_4, hcz10_5, hfz10_0, hfz10_1, hfz10_2, hfz10_3, hfz10_4, hfz10_5⟩ := Ke6_ BK125.out) | ((with_reducible refine gate_callee (f := 35) rfl ?_); refine goesL_ (some 14) rfl rfl Try.func35 (by kernel_rfl) rfl #[.agg #[.int .u64 a0_0, .int .u64 a0_1, .int .u64 a0_2, .int .u64 a0_3, .int .i64 a0_4]] rfl (by (try simp only [List.map_toArray, List.map_cons, List.map_nil]); first | done | rfl | (simp only [List.length_drop, List.length_take]; rfl)) ?_; (with_reducible refine (stamp_Put.calls k a0_0 a0_1 a0_2 a0_3 a0_4 t127 t128 _ A4.out).mono ?_); rintro e w11 ⟨rfl, hb⟩; refine ⟨_, rfl, ?_⟩; replace BK125 := Kb_ BK125 hb; replace HB := Ks_ HB hb; (try clear hb); (try clear hb2); (try clear hk); (try clear hi); obtain ⟨hcz12_0, hcz12_1, hcz12_2, hcz12_3, hcz12_4, hcz12_5, hfz12_0, hfz12_1, hfz12_2, hfz12_3, hfz12_4, hfz12_5⟩ := Ke6_ BK125.out) | ((with_reducible refine gate_callee (f := 36) rfl ?_); refine goesL_ (some 22) rfl rfl Try.func36 (by kernel_rfl) rfl #[.int .u64 (IntKind.u64.wrap ((l0_5.length : Int))), .int .i64 1] rfl (by (try simp only [List.map_toArray, List.map_cons, List.map_nil]); first | done | rfl | (simp only [List.length_drop, List.length_take]; rfl)) ?_; (with_reducible refine (pack_Number.calls (IntKind.u64.wrap ((l0_5.length : Int))) 1 t129 _ A5.out).mono ?_); rintro e w13 ⟨rfl, hb⟩; refine ⟨_, rfl, ?_⟩; replace BK125 := Kb_ BK125 hb; replace HB := Ks_ HB hb; (try clear hb); (try clear hb2); (try clear hk); (try clear hi); obtain ⟨hcz14_0, hcz14_1, hcz14_2, hcz14_3, hcz14_4, hcz14_5, hfz14_0, hfz14_1, hfz14_2, hfz14_3, hfz14_4, hfz14_5⟩ := Ke6_ BK125.out))
  go_loopg [4, 27] k (fun kq v4 v27 w' => ∃ (x4_1 : ByteArray) (x27_1 : Int), v4 = .string x4_1 ∧ v27 = .int .i64 x27_1 ∧ Aside0 (item_Bytes.l0 kq x4_1 l0_5 (l0_5.length : Int) x27_1 = some (r1, r2)) ∧ Aside0 (kq ≤ k) ∧ Aside0 (w'.heap[gb125]? = some (.cells #[.int .u64 a0_0, .int .u64 a0_1, .int .u64 a0_2, .int .u64 a0_3, .int .i64 a0_4, (.slice A0_5 l0_5.length c0_5)] 43 (0, 0))) ∧ Aside0 (Below w.heap.size w w'))
  case atStart => exact ⟨(t127 ++ t129), (0), (by first | rfl | (simp; done) | (simp [*]; done)), (by first | rfl | (simp; done) | (simp [*]; done)), H', ⟨Nat.le_refl _⟩, ⟨by (with_reducible repeat (first | refine blk_drewN ?_ _ | refine blk_drew ?_ | refine blk_alloc ?_ _)); exact BK125.out⟩, ⟨Kz_ HB GE125⟩⟩
  case round =>
    clear H'
    try clear c1
    try clear c2
    try clear p2
    try clear c3
    try clear c6
    try clear c6b0
    try clear c6b1
    try clear c6b2
    try clear hcz10_0
    try clear hcz10_1
    try clear hcz10_2
    try clear hcz10_3
    try clear hcz10_4
    try clear hcz10_5
    try clear hcz12_0
    try clear hcz12_1
    try clear hcz12_2
    try clear hcz12_3
    try clear hcz12_4
    try clear hcz12_5
    try clear hcz14_0
    try clear hcz14_1
    try clear hcz14_2
    try clear hcz14_3
    try clear hcz14_4
    try clear hcz14_5
    try clear hcz8_0
    try clear hcz8_1
    try clear hcz8_2
    try clear hcz8_3
    try clear hcz8_4
    try clear hcz8_5
    try clear hfz10_0
    try clear hfz10_1
    try clear hfz10_2
    try clear hfz10_3
    try clear hfz10_4
    try clear hfz10_5
    try clear hfz12_0
    try clear hfz12_1
    try clear hfz12_2
    try clear hfz12_3
    try clear hfz12_4
    try clear hfz12_5
    try clear hfz14_0
    try clear hfz14_1
    try clear hfz14_2
    try clear hfz14_3
    try clear hfz14_4
    try clear hfz14_5
    try clear hfz8_0
    try clear hfz8_1
    try clear hfz8_2
    try clear hfz8_3
    try clear hfz8_4
    try clear hfz8_5
    obtain ⟨x4_1, x27_1, rfl, rfl, HA, HK1, BK125, HB⟩ := hrel
    cases gk with
    | zero => exact absurd HA.out (by simp [item_Bytes.l0])
    | succ k1 =>
      have H := HA.out
      clear HA
      simp only [item_Bytes.l0] at H
      by_cases c15 : x27_1 < (l0_5.length : Int)
      rotate_left
      · rw [if_neg c15] at H
        have c15b0 : decide (x27_1 < (l0_5.length : Int)) = false := decide_eq_false c15
        clear c15
        simp only [Option.some.injEq, Prod.mk.injEq] at H
        obtain ⟨rfl, rfl⟩ := H
        go_wp2
        go_ret2
        exact ⟨by first | rfl | (simp [errW_none, errW_some] <;> rfl) | (simp [*, errW_none, errW_some] <;> rfl), Kz_ HB GE125⟩
      rw [if_pos c15] at H
      have c15b0 : decide (x27_1 < (l0_5.length : Int)) = true := decide_eq_true c15
      clear c15
      by_cases c16 : 0 ≤ x27_1
      rotate_left
      · rw [if_neg c16] at H
        exact absurd H (by simp)
      rw [if_pos c16] at H
      have c16b0 : decide (0 ≤ x27_1) = true := decide_eq_true c16
      clear c16
      by_cases c17 : x27_1 < (l0_5.length : Int)
      rotate_left
      · rw [if_neg c17] at H
        exact absurd H (by simp)
      rw [if_pos c17] at H
      have c17b0 : decide (x27_1 < (l0_5.length : Int)) = true := decide_eq_true c17
      clear c17
      replace H := Option.bind_eq_some_iff.mp H
      obtain ⟨t132, A180, H⟩ := H
      replace H : ((pack_Text.f k1 ((rd_T23 l0_5 x27_1).f1)).bind fun t133 => (if t132.size + t133.size ≤ 9223372036854775807 then (if x4_1.size + (t132 ++ t133).size ≤ 9223372036854775807 then (if (rd_T23 l0_5 x27_1).f3 = true then ((pack_Number.f 1 1).bind fun t134 => (if (x4_1 ++ (t132 ++ t133)).size + t134.size ≤ 9223372036854775807 then (item_Bytes.l0 k1 ((x4_1 ++ (t132 ++ t133)) ++ t134) l0_5 (l0_5.length : Int) (wrap64 (x27_1 + 1))) else (none))) else ((pack_Number.f 0 1).bind fun t135 => ((pack_Text.f k1 ((rd_T23 l0_5 x27_1).f2)).bind fun t136 => (if t135.size + t136.size ≤ 9223372036854775807 then (if (x4_1 ++ (t132 ++ t133)).size + (t135 ++ t136).size ≤ 9223372036854775807 then (item_Bytes.l0 k1 ((x4_1 ++ (t132 ++ t133)) ++ (t135 ++ t136)) l0_5 (l0_5.length : Int) (wrap64 (x27_1 + 1))) else (none)) else (none))))) else (none)) else (none))) = some (r1, r2) := H
      have A18 := Aside0.mk A180
      clear A180
      replace H := Option.bind_eq_some_iff.mp H
      obtain ⟨t133, A190, H⟩ := H
      replace H : (if t132.size + t133.size ≤ 9223372036854775807 then (if x4_1.size + (t132 ++ t133).size ≤ 9223372036854775807 then (if (rd_T23 l0_5 x27_1).f3 = true then ((pack_Number.f 1 1).bind fun t134 => (if (x4_1 ++ (t132 ++ t133)).size + t134.size ≤ 9223372036854775807 then (item_Bytes.l0 k1 ((x4_1 ++ (t132 ++ t133)) ++ t134) l0_5 (l0_5.length : Int) (wrap64 (x27_1 + 1))) else (none))) else ((pack_Number.f 0 1).bind fun t135 => ((pack_Text.f k1 ((rd_T23 l0_5 x27_1).f2)).bind fun t136 => (if t135.size + t136.size ≤ 9223372036854775807 then (if (x4_1 ++ (t132 ++ t133)).size + (t135 ++ t136).size ≤ 9223372036854775807 then (item_Bytes.l0 k1 ((x4_1 ++ (t132 ++ t133)) ++ (t135 ++ t136)) l0_5 (l0_5.length : Int) (wrap64 (x27_1 + 1))) else (none)) else (none))))) else (none)) else (none)) = some (r1, r2) := H
      have A19 := Aside0.mk A190
      clear A190
      by_cases c20 : t132.size + t133.size ≤ 9223372036854775807
      rotate_left
      · rw [if_neg c20] at H
        exact absurd H (by simp)
      rw [if_pos c20] at H
      have c20b0 := eq_true c20
      have c20b1 : decide (t132.size + t133.size ≤ 9223372036854775807) = true := decide_eq_true c20
      try have c20b2 : (9223372036854775807 < t132.size + t133.size) = False := eq_false (Nat.not_lt.2 c20)
      by_cases c21 : x4_1.size + (t132 ++ t133).size ≤ 9223372036854775807
      rotate_left
      · rw [if_neg c21] at H
        exact absurd H (by simp)
      rw [if_pos c21] at H
      have c21b0 := eq_true c21
      (try (have c21b0s_ := c21b0; simp only [ByteArray.size_append, Int.natCast_add] at c21b0s_))
      have c21b1 : decide (x4_1.size + (t132 ++ t133).size ≤ 9223372036854775807) = true := decide_eq_true c21
      (try (have c21b1s_ := c21b1; simp only [ByteArray.size_append, Int.natCast_add] at c21b1s_))
      try have c21b2 : (9223372036854775807 < x4_1.size + (t132 ++ t133).size) = False := eq_false (Nat.not_lt.2 c21)
      (try (have c21b2s_ := c21b2; simp only [ByteArray.size_append, Int.natCast_add] at c21b2s_))
      obtain ⟨bq22, hbq22⟩ : ∃ b_ : Bool, b_ = ((rd_T23 l0_5 x27_1).f3) := ⟨_, rfl⟩
      replace H : (if bq22 = true then ((pack_Number.f 1 1).bind fun t134 => (if (x4_1 ++ (t132 ++ t133)).size + t134.size ≤ 9223372036854775807 then (item_Bytes.l0 k1 ((x4_1 ++ (t132 ++ t133)) ++ t134) l0_5 (l0_5.length : Int) (wrap64 (x27_1 + 1))) else (none))) else ((pack_Number.f 0 1).bind fun t135 => ((pack_Text.f k1 ((rd_T23 l0_5 x27_1).f2)).bind fun t136 => (if t135.size + t136.size ≤ 9223372036854775807 then (if (x4_1 ++ (t132 ++ t133)).size + (t135 ++ t136).size ≤ 9223372036854775807 then (item_Bytes.l0 k1 ((x4_1 ++ (t132 ++ t133)) ++ (t135 ++ t136)) l0_5 (l0_5.length : Int) (wrap64 (x27_1 + 1))) else (none)) else (none))))) = some (r1, r2) := by rw [← hbq22] at H; exact H
      have Nbq22 := Aside0.mk hbq22
      clear hbq22
      by_cases c23 : bq22 = true
      · subst c23
        have H1 : ((pack_Number.f 1 1).bind fun t134 => (if (x4_1 ++ (t132 ++ t133)).size + t134.size ≤ 9223372036854775807 then (item_Bytes.l0 k1 ((x4_1 ++ (t132 ++ t133)) ++ t134) l0_5 (l0_5.length : Int) (wrap64 (x27_1 + 1))) else (none))) = some (r1, r2) := by rw [if_pos rfl] at H; exact H
        clear H
        have H := H1
        clear H1
        replace H := Option.bind_eq_some_iff.mp H
        obtain ⟨t134, A240, H⟩ := H
        replace H : (if (x4_1 ++ (t132 ++ t133)).size + t134.size ≤ 9223372036854775807 then (item_Bytes.l0 k1 ((x4_1 ++ (t132 ++ t133)) ++ t134) l0_5 (l0_5.length : Int) (wrap64 (x27_1 + 1))) else (none)) = some (r1, r2) := H
        have A24 := Aside0.mk A240
        clear A240
        by_cases c25 : (x4_1 ++ (t132 ++ t133)).size + t134.size ≤ 9223372036854775807
        rotate_left
        · rw [if_neg c25] at H
          exact absurd H (by simp)
        rw [if_pos c25] at H
        have c25b0 := eq_true c25
        (try (have c25b0s_ := c25b0; simp only [ByteArray.size_append, Int.natCast_add] at c25b0s_))
        have c25b1 : decide ((x4_1 ++ (t132 ++ t133)).size + t134.size ≤ 9223372036854775807) = true := decide_eq_true c25
        (try (have c25b1s_ := c25b1; simp only [ByteArray.size_append, Int.natCast_add] at c25b1s_))
        try have c25b2 : (9223372036854775807 < (x4_1 ++ (t132 ++ t133)).size + t134.size) = False := eq_false (Nat.not_lt.2 c25)
        (try (have c25b2s_ := c25b2; simp only [ByteArray.size_append, Int.natCast_add] at c25b2s_))
        have H' := Aside0.mk H
        clear H
        have p130 : 0 ≤ (x27_1 : Int) := of_decide_eq_true (by first | (with_reducible assumption) | assumption)
        have q130 : x27_1 < (l0_5.length : Int) := of_decide_eq_true (by first | (with_reducible assumption) | assumption)
        obtain ⟨ad130, e130, hx130_0, hx130_1, hx130_2, hx130_3⟩ := at_T23 HR0_5.out x27_1 p130 q130
        (try rw [← Nbq22.out] at hx130_3)
        cases e130
        replace hx130_0 := (HB.out.cell (World.block_lt_of_cell? w _ hx130_0)).trans hx130_0
        replace hx130_1 := (HB.out.cell (World.block_lt_of_cell? w _ hx130_1)).trans hx130_1
        replace hx130_2 := (HB.out.cell (World.block_lt_of_cell? w _ hx130_2)).trans hx130_2
        replace hx130_3 := (HB.out.cell (World.block_lt_of_cell? w _ hx130_3)).trans hx130_3
        replace p130 := eq_true p130
        replace q130 := eq_true q130
        try go_wp2_with (first | ((with_reducible refine gate_dst (N := 7) rfl ?_); refine box_event ?hg (N := 7) ?hd (cs := #[.string (⟨#[]⟩ : ByteArray), .string (⟨#[]⟩ : ByteArray), .string (⟨#[]⟩ : ByteArray), .bool false]) (t := 23) ?hr ?_; (case hd => rfl); (case hg => rfl); (case hr => first | (go_simp; done) | (go_simp; rfl)); intro gb131 hg w26 hbox hb; have BK131 := Aside0.mk (hbox); have GW131 := Kw_ HB hg; have GE131 := GW131; have NB125_131 := Kl_ BK125 hg; have NB131_125 := Kr_ BK125 hg; replace BK125 := Kb_ BK125 hb; replace HB := Ks_ HB hb; clear hb hbox hg; have hnb27 := NB131_125.out; have hnc27 := NB125_131.out; obtain ⟨hcz28_0, hcz28_1, hcz28_2, hcz28_3, hfz28_0, hfz28_1, hfz28_2, hfz28_3⟩ := Ke4_ BK131.out))
        have n0_ : Aside0 (((((w26.setCell ⟨gb131, 0, none⟩ (.string ((rd_T23 l0_5 x27_1).f0))).setCell ⟨gb131, 1, none⟩ (.string ((rd_T23 l0_5 x27_1).f1))).setCell ⟨gb131, 2, none⟩ (.string ((rd_T23 l0_5 x27_1).f2))).setCell ⟨gb131, 3, none⟩ (.bool true)).heap[gb125]? = some (.cells #[.int .u64 a0_0, .int .u64 a0_1, .int .u64 a0_2, .int .u64 a0_3, .int .i64 a0_4, .slice (some ad130) l0_5.length c0_5] 43 (0, 0))) := ⟨by (repeat (first | (with_reducible first | refine blk_drewN ?_ _ | refine blk_drew ?_ | refine blk_alloc ?_ _) | refine blk_far ?_ NB125_131.out _)); exact BK125.out⟩
        have n1_ : Aside0 (((((w26.setCell ⟨gb131, 0, none⟩ (.string ((rd_T23 l0_5 x27_1).f0))).setCell ⟨gb131, 1, none⟩ (.string ((rd_T23 l0_5 x27_1).f1))).setCell ⟨gb131, 2, none⟩ (.string ((rd_T23 l0_5 x27_1).f2))).setCell ⟨gb131, 3, none⟩ (.bool true)).heap[gb131]? = some (.cells #[.string ((rd_T23 l0_5 x27_1).f0), .string ((rd_T23 l0_5 x27_1).f1), .string ((rd_T23 l0_5 x27_1).f2), .bool true] 23 (0, 0))) := ⟨by (with_reducible repeat (first | refine blk_drewN ?_ _ | refine blk_drew ?_ | refine blk_alloc ?_ _)); refine blk_put (cs := #[.string ((rd_T23 l0_5 x27_1).f0), .string ((rd_T23 l0_5 x27_1).f1), .string ((rd_T23 l0_5 x27_1).f2), .bool false]) ?_ 3 _ rfl; (with_reducible repeat (first | refine blk_drewN ?_ _ | refine blk_drew ?_ | refine blk_alloc ?_ _)); refine blk_put (cs := #[.string ((rd_T23 l0_5 x27_1).f0), .string ((rd_T23 l0_5 x27_1).f1), .string (⟨#[]⟩ : ByteArray), .bool false]) ?_ 2 _ rfl; (with_reducible repeat (first | refine blk_drewN ?_ _ | refine blk_drew ?_ | refine blk_alloc ?_ _)); refine blk_put (cs := #[.string ((rd_T23 l0_5 x27_1).f0), .string (⟨#[]⟩ : ByteArray), .string (⟨#[]⟩ : ByteArray), .bool false]) ?_ 1 _ rfl; (with_reducible repeat (first | refine blk_drewN ?_ _ | refine blk_drew ?_ | refine blk_alloc ?_ _)); refine blk_put (cs := #[.string (⟨#[]⟩ : ByteArray), .string (⟨#[]⟩ : ByteArray), .string (⟨#[]⟩ : ByteArray), .bool false]) ?_ 0 _ rfl; (with_reducible repeat (first | refine blk_drewN ?_ _ | refine blk_drew ?_ | refine blk_alloc ?_ _)); exact BK131.out⟩
        have n2_ : Aside0 (Below w.heap.size w ((((w26.setCell ⟨gb131, 0, none⟩ (.string ((rd_T23 l0_5 x27_1).f0))).setCell ⟨gb131, 1, none⟩ (.string ((rd_T23 l0_5 x27_1).f1))).setCell ⟨gb131, 2, none⟩ (.string ((rd_T23 l0_5 x27_1).f2))).setCell ⟨gb131, 3, none⟩ (.bool true))) := ⟨by repeat (first | (with_reducible first | exact HB.out | apply below_alloc | apply pw_below_drewN | apply below_drew1 | refine below_set ?_ GE125.out | refine below_set ?_ GE131.out) | exact HB.out)⟩
        (try clear BK125)
        (try clear BK131)
        (try clear HB)
        generalize ((((w26.setCell ⟨gb131, 0, none⟩ (.string ((rd_T23 l0_5 x27_1).f0))).setCell ⟨gb131, 1, none⟩ (.string ((rd_T23 l0_5 x27_1).f1))).setCell ⟨gb131, 2, none⟩ (.string ((rd_T23 l0_5 x27_1).f2))).setCell ⟨gb131, 3, none⟩ (.bool true)) = w29 at n0_ n1_ n2_ ⊢
        have BK125 := n0_
        have BK131 := n1_
        have HB := n2_
        clear n0_ n1_ n2_
        replace BK125 := Kd_ BK125
        replace BK131 := Kd_ BK131
        replace HB := Aside0.mk (below_drew1 HB.out)
        refine start_ (n := 10) (S := fun w' => w'.cell? ⟨gb131, 0, none⟩ = some (.string ((rd_T23 l0_5 x27_1).f0)) ∧ w'.cell? ⟨gb131, 1, none⟩ = some (.string ((rd_T23 l0_5 x27_1).f1)) ∧ w'.cell? ⟨gb131, 2, none⟩ = some (.string ((rd_T23 l0_5 x27_1).f2)) ∧ w'.cell? ⟨gb131, 3, none⟩ = some (.bool true)) (ds := []) #[false, false, false, false, false, false, false, false, false, false] (by kernel_rfl) rfl rfl (Kc4_ BK131.out) (fun hHeld => ?_); refine with_tabW item_Bytes.tab8 item_Bytes.bits8 (fun HT_ HW_ => ?_)
        generalize w29.drew = w30 at BK125 BK131 HB hHeld ⊢
        refine pure_ (i := 0) (N := some 31) (v := ?_) (a' := ?_) #[true, false, false, false, false, false, false, false, false, false] rfl rfl (any_of HT_.out (by kernel_rfl)) (fun _ _ _ h => h) (Or.inl ⟨by rfl, ?_⟩) ?_ ?_
        rotate_left
        · intro w'
          go_simp
          with_reducible rfl
        rotate_left
        · simp only [Act.put, List.setIfInBounds_toArray, List.set_cons_zero, List.set_cons_succ, i64_w, i32_w]
          rfl
        refine pure_ (i := 1) (N := some 32) (v := ?_) (a' := ?_) #[true, true, false, false, false, false, false, false, false, false] rfl rfl (any_of HT_.out (by kernel_rfl)) (fun _ _ _ h => h) (Or.inl ⟨by rfl, ?_⟩) ?_ ?_
        rotate_left
        · intro w'
          go_simp
          with_reducible rfl
        rotate_left
        · simp only [Act.put, List.setIfInBounds_toArray, List.set_cons_zero, List.set_cons_succ, i64_w, i32_w]
          rfl
        refine pure_ (i := 4) (N := some 35) (v := ?_) (a' := ?_) #[true, true, false, false, true, false, false, false, false, false] rfl rfl (any_of HT_.out (by kernel_rfl)) (fun _ _ _ h => h) (Or.inl ⟨by rfl, ?_⟩) ?_ ?_
        rotate_left
        · intro w'
          go_simp
          with_reducible rfl
        rotate_left
        · simp only [Act.put, List.setIfInBounds_toArray, List.set_cons_zero, List.set_cons_succ, i64_w, i32_w]
          rfl
        refine take_ (i := 2) (N := some 33) (v := ?_) (a' := ?_) #[true, true, true, false, true, false, false, false, false, false] rfl rfl (take_ofW HT_.out HW_.out (by kernel_rfl)) (fun _ _ _ h => h) (Or.inl ⟨by rfl, ?_⟩) hHeld ?_ ?_
        rotate_left
        · rintro w' ⟨s0, s1, s2, s3⟩
          go_simp
          with_reducible rfl
        rotate_left
        · simp only [Act.put, List.setIfInBounds_toArray, List.set_cons_zero, List.set_cons_succ, i64_w, i32_w]
          rfl
        refine take_ (i := 5) (N := some 36) (v := ?_) (a' := ?_) #[true, true, true, false, true, true, false, false, false, false] rfl rfl (take_ofW HT_.out HW_.out (by kernel_rfl)) (fun _ _ _ h => h) (Or.inl ⟨by rfl, ?_⟩) hHeld ?_ ?_
        rotate_left
        · rintro w' ⟨s0, s1, s2, s3⟩
          go_simp
          with_reducible rfl
        rotate_left
        · simp only [Act.put, List.setIfInBounds_toArray, List.set_cons_zero, List.set_cons_succ, i64_w, i32_w]
          rfl
        refine one_ (i := 3) (N := some 34) #[true, true, true, true, true, true, false, false, false, false] rfl rfl (one_of HT_.out (by kernel_rfl)) (by decide) (fun K hK => ?_)
        refine goes_ Try.func37 (by kernel_rfl) rfl #[.string ((rd_T23 l0_5 x27_1).f0)] (by rfl) rfl rfl (by (try simp only [List.map_toArray, List.map_cons, List.map_nil]); first | done | rfl | (simp only [List.length_drop, List.length_take]; rfl)) ?_
        with_reducible refine (pack_Text.calls k1 ((rd_T23 l0_5 x27_1).f0) t132 _ A18.out).mono ?_
        rintro e w31 ⟨rfl, hb⟩
        refine ⟨_, rfl, ?_⟩
        replace BK125 := Kb_ BK125 hb
        replace BK131 := Kb_ BK131 hb
        replace HB := Ks_ HB hb
        (try clear hb)
        (try clear hb2)
        (try clear hk)
        (try clear hi)
        refine hK.out _ _ (Kc4_ BK131.out) (fun hHeld => ?_)
        clear hK K
        refine norm_ (a' := ?_) ?_ ?_
        rotate_left
        · show Act.put _ (some 34) _ = _
          simp only [Act.put, List.setIfInBounds_toArray, List.set_cons_zero, List.set_cons_succ, i64_w, i32_w]
          rfl
        refine one_ (i := 6) (N := some 37) #[true, true, true, true, true, true, true, false, false, false] rfl rfl (one_of HT_.out (by kernel_rfl)) (by decide) (fun K hK => ?_)
        refine goes_ Try.func37 (by kernel_rfl) rfl #[.string ((rd_T23 l0_5 x27_1).f1)] (by rfl) rfl rfl (by (try simp only [List.map_toArray, List.map_cons, List.map_nil]); first | done | rfl | (simp only [List.length_drop, List.length_take]; rfl)) ?_
        with_reducible refine (pack_Text.calls k1 ((rd_T23 l0_5 x27_1).f1) t133 _ A19.out).mono ?_
        rintro e w32 ⟨rfl, hb⟩
        refine ⟨_, rfl, ?_⟩
        replace BK125 := Kb_ BK125 hb
        replace BK131 := Kb_ BK131 hb
        replace HB := Ks_ HB hb
        (try clear hb)
        (try clear hb2)
        (try clear hk)
        (try clear hi)
        refine hK.out _ _ (Kc4_ BK131.out) (fun hHeld => ?_)
        clear hK K
        refine norm_ (a' := ?_) ?_ ?_
        rotate_left
        · show Act.put _ (some 37) _ = _
          simp only [Act.put, List.setIfInBounds_toArray, List.set_cons_zero, List.set_cons_succ, i64_w, i32_w]
          rfl
        refine pure_ (i := 7) (N := some 38) (v := ?_) (a' := ?_) #[true, true, true, true, true, true, true, true, false, false] rfl rfl (any_of HT_.out (by kernel_rfl)) (fun _ _ _ h => h) (Or.inl ⟨by rfl, ?_⟩) ?_ ?_
        rotate_left
        · intro w'
          go_simp
          with_reducible rfl
        rotate_left
        · simp only [Act.put, List.setIfInBounds_toArray, List.set_cons_zero, List.set_cons_succ, i64_w, i32_w]
          rfl
        refine pure_ (i := 8) (N := some 39) (v := ?_) (a' := ?_) #[true, true, true, true, true, true, true, true, true, false] rfl rfl (any_of HT_.out (by kernel_rfl)) (fun _ _ _ h => h) (Or.inl ⟨by rfl, ?_⟩) ?_ ?_
        rotate_left
        · intro w'
          go_simp
          with_reducible rfl
        rotate_left
        · simp only [Act.put, List.setIfInBounds_toArray, List.set_cons_zero, List.set_cons_succ, i64_w, i32_w]
          rfl
        refine pure_ (i := 9) (N := some 4) (v := ?_) (a' := ?_) #[true, true, true, true, true, true, true, true, true, true] rfl rfl (any_of HT_.out (by kernel_rfl)) (fun _ _ _ h => h) (Or.inl ⟨by rfl, ?_⟩) ?_ ?_
        rotate_left
        · intro w'
          go_simp
          with_reducible rfl
        rotate_left
        · simp only [Act.put, List.setIfInBounds_toArray, List.set_cons_zero, List.set_cons_succ, i64_w, i32_w]
          rfl
        refine done_ (done_of HT_.out (by kernel_rfl)) ?_
        obtain ⟨hcz33_0, hcz33_1, hcz33_2, hcz33_3, hfz33_0, hfz33_1, hfz33_2, hfz33_3⟩ := Ke4_ BK131.out
        try go_wp2_with (first | ((with_reducible refine gate_callee (f := 36) rfl ?_); refine goesL_ (some 43) rfl rfl Try.func36 (by kernel_rfl) rfl #[.int .u64 1, .int .i64 1] rfl (by (try simp only [List.map_toArray, List.map_cons, List.map_nil]); first | done | rfl | (simp only [List.length_drop, List.length_take]; rfl)) ?_; (with_reducible refine (pack_Number.calls 1 1 t134 _ A24.out).mono ?_); rintro e w34 ⟨rfl, hb⟩; refine ⟨_, rfl, ?_⟩; replace BK125 := Kb_ BK125 hb; replace BK131 := Kb_ BK131 hb; replace HB := Ks_ HB hb; (try clear hb); (try clear hb2); (try clear hk); (try clear hi)))
        go_roundg k1
        case measure => have := HK1.out; omega
        case rel => exact ⟨((x4_1 ++ (t132 ++ t133)) ++ t134), (wrap64 (x27_1 + 1)), (by first | rfl | (simp; done) | (simp [*]; done)), (by first | rfl | (simp; done) | (simp [*]; done)), H', ⟨by have := HK1.out; omega⟩, ⟨by (with_reducible repeat (first | refine blk_drewN ?_ _ | refine blk_drew ?_ | refine blk_alloc ?_ _)); exact BK125.out⟩, ⟨by repeat (first | (with_reducible first | exact HB.out | apply below_alloc | apply pw_below_drewN | apply below_drew1 | refine below_set ?_ GE125.out | refine below_set ?_ GE131.out) | exact HB.out)⟩⟩
      replace c23 := Bool.eq_false_iff.mpr c23
      subst c23
      have H1 : ((pack_Number.f 0 1).bind fun t135 => ((pack_Text.f k1 ((rd_T23 l0_5 x27_1).f2)).bind fun t136 => (if t135.size + t136.size ≤ 9223372036854775807 then (if (x4_1 ++ (t132 ++ t133)).size + (t135 ++ t136).size ≤ 9223372036854775807 then (item_Bytes.l0 k1 ((x4_1 ++ (t132 ++ t133)) ++ (t135 ++ t136)) l0_5 (l0_5.length : Int) (wrap64 (x27_1 + 1))) else (none)) else (none)))) = some (r1, r2) := by rw [if_neg (show ¬ (false = true) by decide)] at H; exact H
      clear H
      have H := H1
      clear H1
      replace H := Option.bind_eq_some_iff.mp H
      obtain ⟨t135, A350, H⟩ := H
      replace H : ((pack_Text.f k1 ((rd_T23 l0_5 x27_1).f2)).bind fun t136 => (if t135.size + t136.size ≤ 9223372036854775807 then (if (x4_1 ++ (t132 ++ t133)).size + (t135 ++ t136).size ≤ 9223372036854775807 then (item_Bytes.l0 k1 ((x4_1 ++ (t132 ++ t133)) ++ (t135 ++ t136)) l0_5 (l0_5.length : Int) (wrap64 (x27_1 + 1))) else (none)) else (none))) = some (r1, r2) := H
      have A35 := Aside0.mk A350
      clear A350
      replace H := Option.bind_eq_some_iff.mp H
      obtain ⟨t136, A360, H⟩ := H
      replace H : (if t135.size + t136.size ≤ 9223372036854775807 then (if (x4_1 ++ (t132 ++ t133)).size + (t135 ++ t136).size ≤ 9223372036854775807 then (item_Bytes.l0 k1 ((x4_1 ++ (t132 ++ t133)) ++ (t135 ++ t136)) l0_5 (l0_5.length : Int) (wrap64 (x27_1 + 1))) else (none)) else (none)) = some (r1, r2) := H
      have A36 := Aside0.mk A360
      clear A360
      by_cases c37 : t135.size + t136.size ≤ 9223372036854775807
      rotate_left
      · rw [if_neg c37] at H
        exact absurd H (by simp)
      rw [if_pos c37] at H
      have c37b0 := eq_true c37
      have c37b1 : decide (t135.size + t136.size ≤ 9223372036854775807) = true := decide_eq_true c37
      try have c37b2 : (9223372036854775807 < t135.size + t136.size) = False := eq_false (Nat.not_lt.2 c37)
      by_cases c38 : (x4_1 ++ (t132 ++ t133)).size + (t135 ++ t136).size ≤ 9223372036854775807
      rotate_left
      · rw [if_neg c38] at H
        exact absurd H (by simp)
      rw [if_pos c38] at H
      have c38b0 := eq_true c38
      (try (have c38b0s_ := c38b0; simp only [ByteArray.size_append, Int.natCast_add] at c38b0s_))
      have c38b1 : decide ((x4_1 ++ (t132 ++ t133)).size + (t135 ++ t136).size ≤ 9223372036854775807) = true := decide_eq_true c38
      (try (have c38b1s_ := c38b1; simp only [ByteArray.size_append, Int.natCast_add] at c38b1s_))
      try have c38b2 : (9223372036854775807 < (x4_1 ++ (t132 ++ t133)).size + (t135 ++ t136).size) = False := eq_false (Nat.not_lt.2 c38)
      (try (have c38b2s_ := c38b2; simp only [ByteArray.size_append, Int.natCast_add] at c38b2s_))
      have H' := Aside0.mk H
      clear H
      have p130 : 0 ≤ (x27_1 : Int) := of_decide_eq_true (by first | (with_reducible assumption) | assumption)
      have q130 : x27_1 < (l0_5.length : Int) := of_decide_eq_true (by first | (with_reducible assumption) | assumption)
      obtain ⟨ad130, e130, hx130_0, hx130_1, hx130_2, hx130_3⟩ := at_T23 HR0_5.out x27_1 p130 q130
      (try rw [← Nbq22.out] at hx130_3)
      cases e130
      replace hx130_0 := (HB.out.cell (World.block_lt_of_cell? w _ hx130_0)).trans hx130_0
      replace hx130_1 := (HB.out.cell (World.block_lt_of_cell? w _ hx130_1)).trans hx130_1
      replace hx130_2 := (HB.out.cell (World.block_lt_of_cell? w _ hx130_2)).trans hx130_2
      replace hx130_3 := (HB.out.cell (World.block_lt_of_cell? w _ hx130_3)).trans hx130_3
      replace p130 := eq_true p130
      replace q130 := eq_true q130
      try go_wp2_with (first | ((with_reducible refine gate_dst (N := 7) rfl ?_); refine box_event ?hg (N := 7) ?hd (cs := #[.string (⟨#[]⟩ : ByteArray), .string (⟨#[]⟩ : ByteArray), .string (⟨#[]⟩ : ByteArray), .bool false]) (t := 23) ?hr ?_; (case hd => rfl); (case hg => rfl); (case hr => first | (go_simp; done) | (go_simp; rfl)); intro gb131 hg w39 hbox hb; have BK131 := Aside0.mk (hbox); have GW131 := Kw_ HB hg; have GE131 := GW131; have NB125_131 := Kl_ BK125 hg; have NB131_125 := Kr_ BK125 hg; replace BK125 := Kb_ BK125 hb; replace HB := Ks_ HB hb; clear hb hbox hg; have hnb40 := NB131_125.out; have hnc40 := NB125_131.out; obtain ⟨hcz41_0, hcz41_1, hcz41_2, hcz41_3, hfz41_0, hfz41_1, hfz41_2, hfz41_3⟩ := Ke4_ BK131.out))
      have n0_ : Aside0 (((((w39.setCell ⟨gb131, 0, none⟩ (.string ((rd_T23 l0_5 x27_1).f0))).setCell ⟨gb131, 1, none⟩ (.string ((rd_T23 l0_5 x27_1).f1))).setCell ⟨gb131, 2, none⟩ (.string ((rd_T23 l0_5 x27_1).f2))).setCell ⟨gb131, 3, none⟩ (.bool false)).heap[gb125]? = some (.cells #[.int .u64 a0_0, .int .u64 a0_1, .int .u64 a0_2, .int .u64 a0_3, .int .i64 a0_4, .slice (some ad130) l0_5.length c0_5] 43 (0, 0))) := ⟨by (repeat (first | (with_reducible first | refine blk_drewN ?_ _ | refine blk_drew ?_ | refine blk_alloc ?_ _) | refine blk_far ?_ NB125_131.out _)); exact BK125.out⟩
      have n1_ : Aside0 (((((w39.setCell ⟨gb131, 0, none⟩ (.string ((rd_T23 l0_5 x27_1).f0))).setCell ⟨gb131, 1, none⟩ (.string ((rd_T23 l0_5 x27_1).f1))).setCell ⟨gb131, 2, none⟩ (.string ((rd_T23 l0_5 x27_1).f2))).setCell ⟨gb131, 3, none⟩ (.bool false)).heap[gb131]? = some (.cells #[.string ((rd_T23 l0_5 x27_1).f0), .string ((rd_T23 l0_5 x27_1).f1), .string ((rd_T23 l0_5 x27_1).f2), .bool false] 23 (0, 0))) := ⟨by (with_reducible repeat (first | refine blk_drewN ?_ _ | refine blk_drew ?_ | refine blk_alloc ?_ _)); refine blk_put (cs := #[.string ((rd_T23 l0_5 x27_1).f0), .string ((rd_T23 l0_5 x27_1).f1), .string ((rd_T23 l0_5 x27_1).f2), .bool false]) ?_ 3 _ rfl; (with_reducible repeat (first | refine blk_drewN ?_ _ | refine blk_drew ?_ | refine blk_alloc ?_ _)); refine blk_put (cs := #[.string ((rd_T23 l0_5 x27_1).f0), .string ((rd_T23 l0_5 x27_1).f1), .string (⟨#[]⟩ : ByteArray), .bool false]) ?_ 2 _ rfl; (with_reducible repeat (first | refine blk_drewN ?_ _ | refine blk_drew ?_ | refine blk_alloc ?_ _)); refine blk_put (cs := #[.string ((rd_T23 l0_5 x27_1).f0), .string (⟨#[]⟩ : ByteArray), .string (⟨#[]⟩ : ByteArray), .bool false]) ?_ 1 _ rfl; (with_reducible repeat (first | refine blk_drewN ?_ _ | refine blk_drew ?_ | refine blk_alloc ?_ _)); refine blk_put (cs := #[.string (⟨#[]⟩ : ByteArray), .string (⟨#[]⟩ : ByteArray), .string (⟨#[]⟩ : ByteArray), .bool false]) ?_ 0 _ rfl; (with_reducible repeat (first | refine blk_drewN ?_ _ | refine blk_drew ?_ | refine blk_alloc ?_ _)); exact BK131.out⟩
      have n2_ : Aside0 (Below w.heap.size w ((((w39.setCell ⟨gb131, 0, none⟩ (.string ((rd_T23 l0_5 x27_1).f0))).setCell ⟨gb131, 1, none⟩ (.string ((rd_T23 l0_5 x27_1).f1))).setCell ⟨gb131, 2, none⟩ (.string ((rd_T23 l0_5 x27_1).f2))).setCell ⟨gb131, 3, none⟩ (.bool false))) := ⟨by repeat (first | (with_reducible first | exact HB.out | apply below_alloc | apply pw_below_drewN | apply below_drew1 | refine below_set ?_ GE125.out | refine below_set ?_ GE131.out) | exact HB.out)⟩
      (try clear BK125)
      (try clear BK131)
      (try clear HB)
      generalize ((((w39.setCell ⟨gb131, 0, none⟩ (.string ((rd_T23 l0_5 x27_1).f0))).setCell ⟨gb131, 1, none⟩ (.string ((rd_T23 l0_5 x27_1).f1))).setCell ⟨gb131, 2, none⟩ (.string ((rd_T23 l0_5 x27_1).f2))).setCell ⟨gb131, 3, none⟩ (.bool false)) = w42 at n0_ n1_ n2_ ⊢
      have BK125 := n0_
      have BK131 := n1_
      have HB := n2_
      clear n0_ n1_ n2_
      replace BK125 := Kd_ BK125
      replace BK131 := Kd_ BK131
      replace HB := Aside0.mk (below_drew1 HB.out)
      refine start_ (n := 10) (S := fun w' => w'.cell? ⟨gb131, 0, none⟩ = some (.string ((rd_T23 l0_5 x27_1).f0)) ∧ w'.cell? ⟨gb131, 1, none⟩ = some (.string ((rd_T23 l0_5 x27_1).f1)) ∧ w'.cell? ⟨gb131, 2, none⟩ = some (.string ((rd_T23 l0_5 x27_1).f2)) ∧ w'.cell? ⟨gb131, 3, none⟩ = some (.bool false)) (ds := []) #[false, false, false, false, false, false, false, false, false, false] (by kernel_rfl) rfl rfl (Kc4_ BK131.out) (fun hHeld => ?_); refine with_tabW item_Bytes.tab8 item_Bytes.bits8 (fun HT_ HW_ => ?_)
      generalize w42.drew = w43 at BK125 BK131 HB hHeld ⊢
      refine pure_ (i := 0) (N := some 31) (v := ?_) (a' := ?_) #[true, false, false, false, false, false, false, false, false, false] rfl rfl (any_of HT_.out (by kernel_rfl)) (fun _ _ _ h => h) (Or.inl ⟨by rfl, ?_⟩) ?_ ?_
      rotate_left
      · intro w'
        go_simp
        with_reducible rfl
      rotate_left
      · simp only [Act.put, List.setIfInBounds_toArray, List.set_cons_zero, List.set_cons_succ, i64_w, i32_w]
        rfl
      refine pure_ (i := 1) (N := some 32) (v := ?_) (a' := ?_) #[true, true, false, false, false, false, false, false, false, false] rfl rfl (any_of HT_.out (by kernel_rfl)) (fun _ _ _ h => h) (Or.inl ⟨by rfl, ?_⟩) ?_ ?_
      rotate_left
      · intro w'
        go_simp
        with_reducible rfl
      rotate_left
      · simp only [Act.put, List.setIfInBounds_toArray, List.set_cons_zero, List.set_cons_succ, i64_w, i32_w]
        rfl
      refine pure_ (i := 4) (N := some 35) (v := ?_) (a' := ?_) #[true, true, false, false, true, false, false, false, false, false] rfl rfl (any_of HT_.out (by kernel_rfl)) (fun _ _ _ h => h) (Or.inl ⟨by rfl, ?_⟩) ?_ ?_
      rotate_left
      · intro w'
        go_simp
        with_reducible rfl
      rotate_left
      · simp only [Act.put, List.setIfInBounds_toArray, List.set_cons_zero, List.set_cons_succ, i64_w, i32_w]
        rfl
      refine take_ (i := 2) (N := some 33) (v := ?_) (a' := ?_) #[true, true, true, false, true, false, false, false, false, false] rfl rfl (take_ofW HT_.out HW_.out (by kernel_rfl)) (fun _ _ _ h => h) (Or.inl ⟨by rfl, ?_⟩) hHeld ?_ ?_
      rotate_left
      · rintro w' ⟨s0, s1, s2, s3⟩
        go_simp
        with_reducible rfl
      rotate_left
      · simp only [Act.put, List.setIfInBounds_toArray, List.set_cons_zero, List.set_cons_succ, i64_w, i32_w]
        rfl
      refine take_ (i := 5) (N := some 36) (v := ?_) (a' := ?_) #[true, true, true, false, true, true, false, false, false, false] rfl rfl (take_ofW HT_.out HW_.out (by kernel_rfl)) (fun _ _ _ h => h) (Or.inl ⟨by rfl, ?_⟩) hHeld ?_ ?_
      rotate_left
      · rintro w' ⟨s0, s1, s2, s3⟩
        go_simp
        with_reducible rfl
      rotate_left
      · simp only [Act.put, List.setIfInBounds_toArray, List.set_cons_zero, List.set_cons_succ, i64_w, i32_w]
        rfl
      refine one_ (i := 3) (N := some 34) #[true, true, true, true, true, true, false, false, false, false] rfl rfl (one_of HT_.out (by kernel_rfl)) (by decide) (fun K hK => ?_)
      refine goes_ Try.func37 (by kernel_rfl) rfl #[.string ((rd_T23 l0_5 x27_1).f0)] (by rfl) rfl rfl (by (try simp only [List.map_toArray, List.map_cons, List.map_nil]); first | done | rfl | (simp only [List.length_drop, List.length_take]; rfl)) ?_
      with_reducible refine (pack_Text.calls k1 ((rd_T23 l0_5 x27_1).f0) t132 _ A18.out).mono ?_
      rintro e w44 ⟨rfl, hb⟩
      refine ⟨_, rfl, ?_⟩
      replace BK125 := Kb_ BK125 hb
      replace BK131 := Kb_ BK131 hb
      replace HB := Ks_ HB hb
      (try clear hb)
      (try clear hb2)
      (try clear hk)
      (try clear hi)
      refine hK.out _ _ (Kc4_ BK131.out) (fun hHeld => ?_)
      clear hK K
      refine norm_ (a' := ?_) ?_ ?_
      rotate_left
      · show Act.put _ (some 34) _ = _
        simp only [Act.put, List.setIfInBounds_toArray, List.set_cons_zero, List.set_cons_succ, i64_w, i32_w]
        rfl
      refine one_ (i := 6) (N := some 37) #[true, true, true, true, true, true, true, false, false, false] rfl rfl (one_of HT_.out (by kernel_rfl)) (by decide) (fun K hK => ?_)
      refine goes_ Try.func37 (by kernel_rfl) rfl #[.string ((rd_T23 l0_5 x27_1).f1)] (by rfl) rfl rfl (by (try simp only [List.map_toArray, List.map_cons, List.map_nil]); first | done | rfl | (simp only [List.length_drop, List.length_take]; rfl)) ?_
      with_reducible refine (pack_Text.calls k1 ((rd_T23 l0_5 x27_1).f1) t133 _ A19.out).mono ?_
      rintro e w45 ⟨rfl, hb⟩
      refine ⟨_, rfl, ?_⟩
      replace BK125 := Kb_ BK125 hb
      replace BK131 := Kb_ BK131 hb
      replace HB := Ks_ HB hb
      (try clear hb)
      (try clear hb2)
      (try clear hk)
      (try clear hi)
      refine hK.out _ _ (Kc4_ BK131.out) (fun hHeld => ?_)
      clear hK K
      refine norm_ (a' := ?_) ?_ ?_
      rotate_left
      · show Act.put _ (some 37) _ = _
        simp only [Act.put, List.setIfInBounds_toArray, List.set_cons_zero, List.set_cons_succ, i64_w, i32_w]
        rfl
      refine pure_ (i := 7) (N := some 38) (v := ?_) (a' := ?_) #[true, true, true, true, true, true, true, true, false, false] rfl rfl (any_of HT_.out (by kernel_rfl)) (fun _ _ _ h => h) (Or.inl ⟨by rfl, ?_⟩) ?_ ?_
      rotate_left
      · intro w'
        go_simp
        with_reducible rfl
      rotate_left
      · simp only [Act.put, List.setIfInBounds_toArray, List.set_cons_zero, List.set_cons_succ, i64_w, i32_w]
        rfl
      refine pure_ (i := 8) (N := some 39) (v := ?_) (a' := ?_) #[true, true, true, true, true, true, true, true, true, false] rfl rfl (any_of HT_.out (by kernel_rfl)) (fun _ _ _ h => h) (Or.inl ⟨by rfl, ?_⟩) ?_ ?_
      rotate_left
      · intro w'
        go_simp
        with_reducible rfl
      rotate_left
      · simp only [Act.put, List.setIfInBounds_toArray, List.set_cons_zero, List.set_cons_succ, i64_w, i32_w]
        rfl
      refine pure_ (i := 9) (N := some 4) (v := ?_) (a' := ?_) #[true, true, true, true, true, true, true, true, true, true] rfl rfl (any_of HT_.out (by kernel_rfl)) (fun _ _ _ h => h) (Or.inl ⟨by rfl, ?_⟩) ?_ ?_
      rotate_left
      · intro w'
        go_simp
        with_reducible rfl
      rotate_left
      · simp only [Act.put, List.setIfInBounds_toArray, List.set_cons_zero, List.set_cons_succ, i64_w, i32_w]
        rfl
      refine done_ (done_of HT_.out (by kernel_rfl)) ?_
      obtain ⟨hcz46_0, hcz46_1, hcz46_2, hcz46_3, hfz46_0, hfz46_1, hfz46_2, hfz46_3⟩ := Ke4_ BK131.out
      try go_wp2
      replace BK125 := Kd_ BK125
      replace BK131 := Kd_ BK131
      replace HB := Aside0.mk (below_drew1 HB.out)
      refine start_ (n := 8) (S := fun w' => w'.cell? ⟨gb131, 0, none⟩ = some (.string ((rd_T23 l0_5 x27_1).f0)) ∧ w'.cell? ⟨gb131, 1, none⟩ = some (.string ((rd_T23 l0_5 x27_1).f1)) ∧ w'.cell? ⟨gb131, 2, none⟩ = some (.string ((rd_T23 l0_5 x27_1).f2)) ∧ w'.cell? ⟨gb131, 3, none⟩ = some (.bool false)) (ds := []) #[false, false, false, false, false, false, false, false] (by kernel_rfl) rfl rfl (Kc4_ BK131.out) (fun hHeld => ?_); refine with_tabW item_Bytes.tab11 item_Bytes.bits11 (fun HT_ HW_ => ?_)
      generalize w45.drew = w47 at BK125 BK131 HB hHeld ⊢
      refine pure_ (i := 0) (N := some 45) (v := ?_) (a' := ?_) #[true, false, false, false, false, false, false, false] rfl rfl (any_of HT_.out (by kernel_rfl)) (fun _ _ _ h => h) (Or.inl ⟨by rfl, ?_⟩) ?_ ?_
      rotate_left
      · intro w'
        go_simp
        with_reducible rfl
      rotate_left
      · simp only [Act.put, List.setIfInBounds_toArray, List.set_cons_zero, List.set_cons_succ, i64_w, i32_w]
        rfl
      refine pure_ (i := 2) (N := some 47) (v := ?_) (a' := ?_) #[true, false, true, false, false, false, false, false] rfl rfl (any_of HT_.out (by kernel_rfl)) (fun _ _ _ h => h) (Or.inl ⟨by rfl, ?_⟩) ?_ ?_
      rotate_left
      · intro w'
        go_simp
        with_reducible rfl
      rotate_left
      · simp only [Act.put, List.setIfInBounds_toArray, List.set_cons_zero, List.set_cons_succ, i64_w, i32_w]
        rfl
      refine take_ (i := 3) (N := some 48) (v := ?_) (a' := ?_) #[true, false, true, true, false, false, false, false] rfl rfl (take_ofW HT_.out HW_.out (by kernel_rfl)) (fun _ _ _ h => h) (Or.inl ⟨by rfl, ?_⟩) hHeld ?_ ?_
      rotate_left
      · rintro w' ⟨s0, s1, s2, s3⟩
        go_simp
        with_reducible rfl
      rotate_left
      · simp only [Act.put, List.setIfInBounds_toArray, List.set_cons_zero, List.set_cons_succ, i64_w, i32_w]
        rfl
      refine one_ (i := 1) (N := some 46) #[true, true, true, true, false, false, false, false] rfl rfl (one_of HT_.out (by kernel_rfl)) (by decide) (fun K hK => ?_)
      refine goes_ Try.func36 (by kernel_rfl) rfl #[.int .u64 0, .int .i64 1] (by rfl) rfl rfl (by (try simp only [List.map_toArray, List.map_cons, List.map_nil]); first | done | rfl | (simp only [List.length_drop, List.length_take]; rfl)) ?_
      with_reducible refine (pack_Number.calls 0 1 t135 _ A35.out).mono ?_
      rintro e w48 ⟨rfl, hb⟩
      refine ⟨_, rfl, ?_⟩
      replace BK125 := Kb_ BK125 hb
      replace BK131 := Kb_ BK131 hb
      replace HB := Ks_ HB hb
      (try clear hb)
      (try clear hb2)
      (try clear hk)
      (try clear hi)
      refine hK.out _ _ (Kc4_ BK131.out) (fun hHeld => ?_)
      clear hK K
      refine norm_ (a' := ?_) ?_ ?_
      rotate_left
      · show Act.put _ (some 46) _ = _
        simp only [Act.put, List.setIfInBounds_toArray, List.set_cons_zero, List.set_cons_succ, i64_w, i32_w]
        rfl
      refine one_ (i := 4) (N := some 49) #[true, true, true, true, true, false, false, false] rfl rfl (one_of HT_.out (by kernel_rfl)) (by decide) (fun K hK => ?_)
      refine goes_ Try.func37 (by kernel_rfl) rfl #[.string ((rd_T23 l0_5 x27_1).f2)] (by rfl) rfl rfl (by (try simp only [List.map_toArray, List.map_cons, List.map_nil]); first | done | rfl | (simp only [List.length_drop, List.length_take]; rfl)) ?_
      with_reducible refine (pack_Text.calls k1 ((rd_T23 l0_5 x27_1).f2) t136 _ A36.out).mono ?_
      rintro e w49 ⟨rfl, hb⟩
      refine ⟨_, rfl, ?_⟩
      replace BK125 := Kb_ BK125 hb
      replace BK131 := Kb_ BK131 hb
      replace HB := Ks_ HB hb
      (try clear hb)
      (try clear hb2)
      (try clear hk)
      (try clear hi)
      refine hK.out _ _ (Kc4_ BK131.out) (fun hHeld => ?_)
      clear hK K
      refine norm_ (a' := ?_) ?_ ?_
      rotate_left
      · show Act.put _ (some 49) _ = _
        simp only [Act.put, List.setIfInBounds_toArray, List.set_cons_zero, List.set_cons_succ, i64_w, i32_w]
        rfl
      refine pure_ (i := 5) (N := some 50) (v := ?_) (a' := ?_) #[true, true, true, true, true, true, false, false] rfl rfl (any_of HT_.out (by kernel_rfl)) (fun _ _ _ h => h) (Or.inl ⟨by rfl, ?_⟩) ?_ ?_
      rotate_left
      · intro w'
        go_simp
        with_reducible rfl
      rotate_left
      · simp only [Act.put, List.setIfInBounds_toArray, List.set_cons_zero, List.set_cons_succ, i64_w, i32_w]
        rfl
      refine pure_ (i := 6) (N := some 51) (v := ?_) (a' := ?_) #[true, true, true, true, true, true, true, false] rfl rfl (any_of HT_.out (by kernel_rfl)) (fun _ _ _ h => h) (Or.inl ⟨by rfl, ?_⟩) ?_ ?_
      rotate_left
      · intro w'
        go_simp
        with_reducible rfl
      rotate_left
      · simp only [Act.put, List.setIfInBounds_toArray, List.set_cons_zero, List.set_cons_succ, i64_w, i32_w]
        rfl
      refine pure_ (i := 7) (N := some 4) (v := ?_) (a' := ?_) #[true, true, true, true, true, true, true, true] rfl rfl (any_of HT_.out (by kernel_rfl)) (fun _ _ _ h => h) (Or.inl ⟨by rfl, ?_⟩) ?_ ?_
      rotate_left
      · intro w'
        go_simp
        with_reducible rfl
      rotate_left
      · simp only [Act.put, List.setIfInBounds_toArray, List.set_cons_zero, List.set_cons_succ, i64_w, i32_w]
        rfl
      refine done_ (done_of HT_.out (by kernel_rfl)) ?_
      try go_wp2
      go_roundg k1
      case measure => have := HK1.out; omega
      case rel => exact ⟨((x4_1 ++ (t132 ++ t133)) ++ (t135 ++ t136)), (wrap64 (x27_1 + 1)), (by first | rfl | (simp; done) | (simp [*]; done)), (by first | rfl | (simp; done) | (simp [*]; done)), H', ⟨by have := HK1.out; omega⟩, ⟨by (with_reducible repeat (first | refine blk_drewN ?_ _ | refine blk_drew ?_ | refine blk_alloc ?_ _)); exact BK125.out⟩, ⟨by repeat (first | (with_reducible first | exact HB.out | apply below_alloc | apply pw_below_drewN | apply below_drew1 | refine below_set ?_ GE125.out | refine below_set ?_ GE131.out) | exact HB.out)⟩⟩

end Go.Proofs.Ytoogchgoiciggaa.Q

-- Written by this session's own driver (wip/hybrid.py) of the kit's printer; contracts marked FOREIGN are by hand.
namespace Go.Proofs.Ytoogchgoiciggaa.Q
open Go.RowKit Go.Proofs.YtoogchgoiciggaaW.PrintWords Go.Proofs.YtoogchgoiciggaaW.PrintLast Go.Proofs.YtoogchgoiciggaaW.PrintMore
attribute [local go_sem] max2_int min2_int max_two min_two max_three min_three max_four min_four   -- for this text's walks alone
set_option linter.unusedVariables false
set_option linter.unusedSimpArgs false

/-! ### item_Size: function 20 -/
def item_Size.f (a0_0 : ByteArray) (a0_1 : ByteArray) (a0_2 : ByteArray) (a0_3 : Bool) : Option (Int) := if a0_3 = true then (some 0) else (some (wrap64 ((wrap64 ((a0_0.size : Int) + (a0_1.size : Int))) + (a0_2.size : Int))))
set_option maxHeartbeats 8000000 in
set_option maxRecDepth 100000 in
theorem item_Size.calls (a0_0 : ByteArray) (a0_1 : ByteArray) (a0_2 : ByteArray) (a0_3 : Bool) (r : Int) (w : World) (h : item_Size.f a0_0 a0_1 a0_2 a0_3 = some r) :
    Calls Try.prog 20 #[.agg #[.string a0_0, .string a0_1, .string a0_2, .bool a0_3]] w fun e w' => e = .returned (.int .i64 r) ∧ Below w.heap.size w w' := by
  have hu23 := Try.underlying23
  have HB := Aside0.mk (Below.refl w.heap.size w)
  have H : (if a0_3 = true then (some 0) else (some (wrap64 ((wrap64 ((a0_0.size : Int) + (a0_1.size : Int))) + (a0_2.size : Int))))) = some r := h
  clear h
  by_cases c2 : a0_3 = true
  · subst c2
    have H1 : (some 0) = some r := by rw [if_pos rfl] at H; exact H
    clear H
    have H := H1
    clear H1
    obtain rfl := Option.some.inj H
    go_enter Try.func20, Try.ntmps20
    go_wp2_with (first | ((with_reducible refine gate_dst (N := 1) rfl ?_); refine box_event ?hg (N := 1) ?hd (cs := #[.string a0_0, .string a0_1, .string a0_2, .bool true]) (t := 23) ?hr ?_; (case hd => rfl); (case hg => rfl); (case hr => first | (go_simp; done) | (go_simp; rfl)); intro gb140 hg w3 hbox hb; have BK140 := Aside0.mk (hbox); have GW140 := Kw_ HB hg; have GE140 := GW140; replace HB := Ks_ HB hb; clear hb hbox hg; obtain ⟨hcz4_0, hcz4_1, hcz4_2, hcz4_3, hfz4_0, hfz4_1, hfz4_2, hfz4_3⟩ := Ke4_ BK140.out))
    go_ret
    exact ⟨by first | rfl | (simp [errW_none, errW_some] <;> rfl) | (simp [*, errW_none, errW_some] <;> rfl), Kz_ HB GE140⟩
  replace c2 := Bool.eq_false_iff.mpr c2
  subst c2
  have H1 : (some (wrap64 ((wrap64 ((a0_0.size : Int) + (a0_1.size : Int))) + (a0_2.size : Int)))) = some r := by rw [if_neg (show ¬ (false = true) by decide)] at H; exact H
  clear H
  have H := H1
  clear H1
  obtain rfl := Option.some.inj H
  go_enter Try.func20, Try.ntmps20
  go_wp2_with (first | ((with_reducible refine gate_dst (N := 1) rfl ?_); refine box_event ?hg (N := 1) ?hd (cs := #[.string a0_0, .string a0_1, .string a0_2, .bool false]) (t := 23) ?hr ?_; (case hd => rfl); (case hg => rfl); (case hr => first | (go_simp; done) | (go_simp; rfl)); intro gb140 hg w5 hbox hb; have BK140 := Aside0.mk (hbox); have GW140 := Kw_ HB hg; have GE140 := GW140; replace HB := Ks_ HB hb; clear hb hbox hg; obtain ⟨hcz6_0, hcz6_1, hcz6_2, hcz6_3, hfz6_0, hfz6_1, hfz6_2, hfz6_3⟩ := Ke4_ BK140.out))
  go_ret
  exact ⟨by first | rfl | (simp [errW_none, errW_some] <;> rfl) | (simp [*, errW_none, errW_some] <;> rfl), Kz_ HB GE140⟩

end Go.Proofs.Ytoogchgoiciggaa.Q

-- Written by this session's own driver (wip/hybrid.py) of the kit's printer; contracts marked FOREIGN are by hand.
namespace Go.Proofs.Ytoogchgoiciggaa.Q
open Go.RowKit Go.Proofs.YtoogchgoiciggaaW.PrintWords Go.Proofs.YtoogchgoiciggaaW.PrintLast Go.Proofs.YtoogchgoiciggaaW.PrintMore
attribute [local go_sem] max2_int min2_int max_two min_two max_three min_three max_four min_four   -- for this text's walks alone
set_option linter.unusedVariables false
set_option linter.unusedSimpArgs false

attribute [local go_sem] ixA28_0 ixA28_1 ixA28_2 ixA28_3   -- for this text's walks alone
theorem eqA30 (d : Nat) (w : World) (x0 y0 : Int) (x1 y1 : Int) (x2 y2 : Int) (x3 y3 : Int) (x4 y4 : Int) :
    (Op.equalIn (d + 3) 30 (.agg #[.int .u64 x0, .int .u64 x1, .int .u64 x2, .int .u64 x3, .int .i64 x4]) (.agg #[.int .u64 y0, .int .u64 y1, .int .u64 y2, .int .u64 y3, .int .i64 y4])).run Try.prog w = .ok ((x0 == y0 && (x1 == y1 && (x2 == y2 && (x3 == y3)))) && (x4 == y4)) w := by
  refine eqA_of Try.underlying30 (by kernel_rfl) ?_
  refine eqf_cons (by rfl) (by go_simp) (by go_simp) (eqA28 (d + 0) w _ _ _ _ _ _ _ _) ?_
  exact eqf_last (by rfl) (by go_simp; rfl) (by go_simp; rfl) (by go_simp)
end Go.Proofs.Ytoogchgoiciggaa.Q

-- Written by this session's own driver (wip/hybrid.py) of the kit's printer; contracts marked FOREIGN are by hand.
namespace Go.Proofs.Ytoogchgoiciggaa.Q
open Go.RowKit Go.Proofs.YtoogchgoiciggaaW.PrintWords Go.Proofs.YtoogchgoiciggaaW.PrintLast Go.Proofs.YtoogchgoiciggaaW.PrintMore
attribute [local go_sem] max2_int min2_int max_two min_two max_three min_three max_four min_four   -- for this text's walks alone
set_option linter.unusedVariables false
set_option linter.unusedSimpArgs false

theorem eqA23 (d : Nat) (w : World) (x0 y0 : ByteArray) (x1 y1 : ByteArray) (x2 y2 : ByteArray) (x3 y3 : Bool) :
    (Op.equalIn (d + 2) 23 (.agg #[.string x0, .string x1, .string x2, .bool x3]) (.agg #[.string y0, .string y1, .string y2, .bool y3])).run Try.prog w = .ok (x0.toList == y0.toList && (x1.toList == y1.toList && (x2.toList == y2.toList && (x3 == y3)))) w := by
  refine eqA_of Try.underlying23 (by kernel_rfl) ?_
  refine eqf_cons (by rfl) (by go_simp; rfl) (by go_simp; rfl) (by go_simp) ?_
  refine eqf_cons (by rfl) (by go_simp; rfl) (by go_simp; rfl) (by go_simp) ?_
  refine eqf_cons (by rfl) (by go_simp; rfl) (by go_simp; rfl) (by go_simp) ?_
  exact eqf_last (by rfl) (by go_simp; rfl) (by go_simp; rfl) (by go_simp)
end Go.Proofs.Ytoogchgoiciggaa.Q

-- Written by this session's own driver (wip/hybrid.py) of the kit's printer; contracts marked FOREIGN are by hand.
namespace Go.Proofs.Ytoogchgoiciggaa.Q
open Go.RowKit Go.Proofs.YtoogchgoiciggaaW.PrintWords Go.Proofs.YtoogchgoiciggaaW.PrintLast Go.Proofs.YtoogchgoiciggaaW.PrintMore
attribute [local go_sem] max2_int min2_int max_two min_two max_three min_three max_four min_four   -- for this text's walks alone
set_option linter.unusedVariables false
set_option linter.unusedSimpArgs false

attribute [local go_sem high] eqA23
/-! ### item_Write_47: function 47 -/
def item_Write_47.l0 : Nat → List (S23) → List (S23) → Int → Int → Option (Bool)
  | 0, _, _, _, _ => none
  | k + 1, x0, x1, x12, x13 => if x13 < x12 then (if 0 ≤ x13 then (if x13 < (x0.length : Int) then (if x13 < (x1.length : Int) then (if (!((((rd_T23 x0 x13).f0).toList) == (((rd_T23 x1 x13).f0).toList)) || (!((((rd_T23 x0 x13).f1).toList) == (((rd_T23 x1 x13).f1).toList)) || (!((((rd_T23 x0 x13).f2).toList) == (((rd_T23 x1 x13).f2).toList)) || (!(((rd_T23 x0 x13).f3) == ((rd_T23 x1 x13).f3)))))) = true then (some false) else (item_Write_47.l0 k x0 x1 x12 (wrap64 (x13 + 1)))) else (none)) else (none)) else (none)) else (some true)
def item_Write_47.f (k : Nat) (l0 : List (S23)) (l1 : List (S23)) : Option (Bool) := if (l0.length : Int) = (l1.length : Int) then (item_Write_47.l0 k l0 l1 (l0.length : Int) 0) else (some false)
theorem item_Write_47.mono_l : ∀ k, (∀ y0 y1 y2 y3, LeO (item_Write_47.l0 k y0 y1 y2 y3) (item_Write_47.l0 (k + 1) y0 y1 y2 y3))
  | 0 => fun _ _ _ _ r h => by simp [item_Write_47.l0] at h
  | k + 1 => by
    have ih0 := item_Write_47.mono_l k
    · intro y0 y1 y2 y3
      unfold item_Write_47.l0
      repeat' first
      | (with_reducible exact ih0 _ _ _ _)
      | (with_reducible exact LeO.refl _)
      | (with_reducible exact LeO.none _)
      | (with_reducible refine LeO.ite ?_ ?_)
      | (with_reducible refine LeO.bind ?_ (fun _ => ?_))
      | exact ih0 _ _ _ _
      | exact LeO.none _
      | refine LeO.ite ?_ ?_
      | refine LeO.bind ?_ (fun _ => ?_)
theorem item_Write_47.mono : ∀ a0 a1 k, LeO (item_Write_47.f k a0 a1) (item_Write_47.f (k + 1) a0 a1) := by
  intro a0 a1 k
  have ih0 := item_Write_47.mono_l k
  unfold item_Write_47.f
  repeat' first
      | (with_reducible exact ih0 _ _ _ _)
      | (with_reducible exact LeO.refl _)
      | (with_reducible exact LeO.none _)
      | (with_reducible refine LeO.ite ?_ ?_)
      | (with_reducible refine LeO.bind ?_ (fun _ => ?_))
      | exact ih0 _ _ _ _
      | exact LeO.none _
      | refine LeO.ite ?_ ?_
      | refine LeO.bind ?_ (fun _ => ?_)
set_option maxHeartbeats 8000000 in
set_option maxRecDepth 100000 in
theorem item_Write_47.calls (k : Nat) (A0 : Option Addr) (c0 : Nat) (l0 : List (S23)) (A1 : Option Addr) (c1 : Nat) (l1 : List (S23)) (r : Bool) (w : World) (hr0 : Kd.C k23 w A0 l0.length l0) (hc0 : l0.length ≤ c0) (hr1 : Kd.C k23 w A1 l1.length l1) (hc1 : l1.length ≤ c1) (h : item_Write_47.f k l0 l1 = some r) :
    Calls Try.prog 47 #[.slice A0 l0.length c0, .slice A1 l1.length c1] w fun e w' => e = .returned (.bool r) ∧ Drawn0 w w' := by
  have hu23 := Try.underlying23
  have HR0 := Aside0.mk hr0
  have HC0 := Aside0.mk hc0
  clear hr0 hc0
  have HR1 := Aside0.mk hr1
  have HC1 := Aside0.mk hc1
  clear hr1 hc1
  have H : (if (l0.length : Int) = (l1.length : Int) then (item_Write_47.l0 k l0 l1 (l0.length : Int) 0) else (some false)) = some r := h
  clear h
  by_cases c3 : (l0.length : Int) = (l1.length : Int)
  rotate_left
  · rw [if_neg c3] at H
    have c3b0 : ((l0.length : Int) == (l1.length : Int)) = false := beq_eq_false_iff_ne.mpr c3
    have c3b1 : ((l0.length : Int) != (l1.length : Int)) = true := bne_iff_ne.mpr c3
    have c3b2 : (l0.length == l1.length) = false := by first | simpa using c3 | (simp at c3 ⊢; omega)
    obtain rfl := Option.some.inj H
    go_enter Try.func47, Try.ntmps47
    go_wp2
    repeat (go_quiet (fail); try go_wp2)
    go_ret
    exact ⟨by first | rfl | (simp; done) | (simp [*]; done), by repeat (first | exact Drawn0.refl _ | apply Drawn0.step)⟩
  rw [if_pos c3] at H
  have c3b0 : ((l0.length : Int) == (l1.length : Int)) = true := beq_iff_eq.mpr c3
  have c3b1 : ((l0.length : Int) != (l1.length : Int)) = false := bne_eq_false_iff_eq.mpr c3
  have c3b2 : (l0.length == l1.length) = true := by first | simpa using c3 | (simp at c3 ⊢; omega)
  clear c3
  have H' := Aside0.mk H
  clear H
  go_enter Try.func47, Try.ntmps47
  go_wp2
  repeat (go_quiet (fail); try go_wp2)
  go_loopg [13] k (fun kq v13 w' => ∃ (x13_1 : Int), v13 = .int .i64 x13_1 ∧ Aside0 (item_Write_47.l0 kq l0 l1 (l0.length : Int) x13_1 = some r) ∧ Aside0 (kq ≤ k) ∧ Drawn0 w w')
  case atStart => exact ⟨(0), (by first | rfl | (simp; done) | (simp [*]; done)), H', ⟨Nat.le_refl _⟩, by repeat (first | exact Drawn0.refl _ | apply Drawn0.step)⟩
  case round =>
    clear H'
    try clear c1
    try clear p2
    try clear c3
    try clear c3b0
    try clear c3b1
    try clear c3b2
    obtain ⟨x13_1, rfl, HA, HK1, ⟨m1, rfl⟩⟩ := hrel
    cases gk with
    | zero => exact absurd HA.out (by simp [item_Write_47.l0])
    | succ k1 =>
      have H := HA.out
      clear HA
      simp only [item_Write_47.l0] at H
      by_cases c4 : x13_1 < (l0.length : Int)
      rotate_left
      · rw [if_neg c4] at H
        have c4b0 : decide (x13_1 < (l0.length : Int)) = false := decide_eq_false c4
        clear c4
        obtain rfl := Option.some.inj H
        go_wp2
        repeat (go_quiet (fail); try go_wp2)
        go_ret
        exact ⟨by first | rfl | (simp; done) | (simp [*]; done), by repeat (first | exact Drawn0.refl _ | apply Drawn0.step)⟩
      rw [if_pos c4] at H
      have c4b0 : decide (x13_1 < (l0.length : Int)) = true := decide_eq_true c4
      clear c4
      by_cases c5 : 0 ≤ x13_1
      rotate_left
      · rw [if_neg c5] at H
        exact absurd H (by simp)
      rw [if_pos c5] at H
      have c5b0 : decide (0 ≤ x13_1) = true := decide_eq_true c5
      clear c5
      by_cases c6 : x13_1 < (l0.length : Int)
      rotate_left
      · rw [if_neg c6] at H
        exact absurd H (by simp)
      rw [if_pos c6] at H
      have c6b0 : decide (x13_1 < (l0.length : Int)) = true := decide_eq_true c6
      clear c6
      by_cases c7 : x13_1 < (l1.length : Int)
      rotate_left
      · rw [if_neg c7] at H
        exact absurd H (by simp)
      rw [if_pos c7] at H
      have c7b0 : decide (x13_1 < (l1.length : Int)) = true := decide_eq_true c7
      clear c7
      by_cases c8 : (!((((rd_T23 l0 x13_1).f0).toList) == (((rd_T23 l1 x13_1).f0).toList)) || (!((((rd_T23 l0 x13_1).f1).toList) == (((rd_T23 l1 x13_1).f1).toList)) || (!((((rd_T23 l0 x13_1).f2).toList) == (((rd_T23 l1 x13_1).f2).toList)) || (!(((rd_T23 l0 x13_1).f3) == ((rd_T23 l1 x13_1).f3)))))) = true
      · rw [if_pos c8] at H
        have c8b0 : (!((((rd_T23 l0 x13_1).f0).toList) == (((rd_T23 l1 x13_1).f0).toList)) || (!((((rd_T23 l0 x13_1).f1).toList) == (((rd_T23 l1 x13_1).f1).toList)) || (!((((rd_T23 l0 x13_1).f2).toList) == (((rd_T23 l1 x13_1).f2).toList)) || (!(((rd_T23 l0 x13_1).f3) == ((rd_T23 l1 x13_1).f3)))))) = true := c8
        clear c8
        obtain rfl := Option.some.inj H
        have p141 : 0 ≤ (x13_1 : Int) := of_decide_eq_true (by first | (with_reducible assumption) | assumption)
        have q141 : x13_1 < (l0.length : Int) := of_decide_eq_true (by first | (with_reducible assumption) | assumption)
        obtain ⟨ad141, e141, hx141_0, hx141_1, hx141_2, hx141_3⟩ := at_T23 HR0.out x13_1 p141 q141
        cases e141
        replace p141 := eq_true p141
        replace q141 := eq_true q141
        have p142 : 0 ≤ (x13_1 : Int) := of_decide_eq_true (by first | (with_reducible assumption) | assumption)
        have q142 : x13_1 < (l1.length : Int) := of_decide_eq_true (by first | (with_reducible assumption) | assumption)
        obtain ⟨ad142, e142, hx142_0, hx142_1, hx142_2, hx142_3⟩ := at_T23 HR1.out x13_1 p142 q142
        cases e142
        replace p142 := eq_true p142
        replace q142 := eq_true q142
        go_wp2
        repeat (go_quiet (fail); try go_wp2)
        go_ret
        exact ⟨by first | rfl | (simp; done) | (simp [*]; done), by repeat (first | exact Drawn0.refl _ | apply Drawn0.step)⟩
      rw [if_neg c8] at H
      have c8b0 : (!((((rd_T23 l0 x13_1).f0).toList) == (((rd_T23 l1 x13_1).f0).toList)) || (!((((rd_T23 l0 x13_1).f1).toList) == (((rd_T23 l1 x13_1).f1).toList)) || (!((((rd_T23 l0 x13_1).f2).toList) == (((rd_T23 l1 x13_1).f2).toList)) || (!(((rd_T23 l0 x13_1).f3) == ((rd_T23 l1 x13_1).f3)))))) = false := by simpa using c8
      clear c8
      have H' := Aside0.mk H
      clear H
      have p141 : 0 ≤ (x13_1 : Int) := of_decide_eq_true (by first | (with_reducible assumption) | assumption)
      have q141 : x13_1 < (l0.length : Int) := of_decide_eq_true (by first | (with_reducible assumption) | assumption)
      obtain ⟨ad141, e141, hx141_0, hx141_1, hx141_2, hx141_3⟩ := at_T23 HR0.out x13_1 p141 q141
      cases e141
      replace p141 := eq_true p141
      replace q141 := eq_true q141
      have p142 : 0 ≤ (x13_1 : Int) := of_decide_eq_true (by first | (with_reducible assumption) | assumption)
      have q142 : x13_1 < (l1.length : Int) := of_decide_eq_true (by first | (with_reducible assumption) | assumption)
      obtain ⟨ad142, e142, hx142_0, hx142_1, hx142_2, hx142_3⟩ := at_T23 HR1.out x13_1 p142 q142
      cases e142
      replace p142 := eq_true p142
      replace q142 := eq_true q142
      go_wp2
      repeat (go_quiet (fail); try go_wp2)
      go_roundg k1
      case measure => have := HK1.out; omega
      case rel => exact ⟨(wrap64 (x13_1 + 1)), (by first | rfl | (simp; done) | (simp [*]; done)), H', ⟨by have := HK1.out; omega⟩, by repeat (first | exact Drawn0.refl _ | apply Drawn0.step)⟩

end Go.Proofs.Ytoogchgoiciggaa.Q

-- Written by this session's own driver (wip/hybrid.py) of the kit's printer; contracts marked FOREIGN are by hand.
namespace Go.Proofs.Ytoogchgoiciggaa.Q
open Go.RowKit Go.Proofs.YtoogchgoiciggaaW.PrintWords Go.Proofs.YtoogchgoiciggaaW.PrintLast Go.Proofs.YtoogchgoiciggaaW.PrintMore
attribute [local go_sem] max2_int min2_int max_two min_two max_three min_three max_four min_four   -- for this text's walks alone
set_option linter.unusedVariables false
set_option linter.unusedSimpArgs false

attribute [local go_sem high] eqA30
/-! ### item_Same: function 24 -/
def item_Same.f (k : Nat) (a0_0 : Int) (a0_1 : Int) (a0_2 : Int) (a0_3 : Int) (a0_4 : Int) (l0_5 : List (S23)) (a1_0 : Int) (a1_1 : Int) (a1_2 : Int) (a1_3 : Int) (a1_4 : Int) (l1_5 : List (S23)) : Option (Bool) := if ((a0_0 == a1_0 && (a0_1 == a1_1 && (a0_2 == a1_2 && (a0_3 == a1_3)))) && (a0_4 == a1_4)) = true then ((item_Write_47.f k l0_5 l1_5).bind fun t145 => (some t145)) else (some false)
theorem item_Same.mono : ∀ a0 a1 a2 a3 a4 a5 a6 a7 a8 a9 a10 a11 k, LeO (item_Same.f k a0 a1 a2 a3 a4 a5 a6 a7 a8 a9 a10 a11) (item_Same.f (k + 1) a0 a1 a2 a3 a4 a5 a6 a7 a8 a9 a10 a11) := by
  intro a0 a1 a2 a3 a4 a5 a6 a7 a8 a9 a10 a11 k
  unfold item_Same.f
  repeat' first
      | (with_reducible exact item_Write_47.mono _ _ _)
      | (with_reducible exact LeO.refl _)
      | (with_reducible exact LeO.none _)
      | (with_reducible refine LeO.ite ?_ ?_)
      | (with_reducible refine LeO.bind ?_ (fun _ => ?_))
      | exact item_Write_47.mono _ _ _
      | exact LeO.none _
      | refine LeO.ite ?_ ?_
      | refine LeO.bind ?_ (fun _ => ?_)
set_option maxHeartbeats 8000000 in
set_option maxRecDepth 100000 in
theorem item_Same.calls (k : Nat) (a0_0 : Int) (a0_1 : Int) (a0_2 : Int) (a0_3 : Int) (a0_4 : Int) (A0_5 : Option Addr) (c0_5 : Nat) (l0_5 : List (S23)) (a1_0 : Int) (a1_1 : Int) (a1_2 : Int) (a1_3 : Int) (a1_4 : Int) (A1_5 : Option Addr) (c1_5 : Nat) (l1_5 : List (S23)) (r : Bool) (w : World) (hr0_5 : Kd.C k23 w A0_5 l0_5.length l0_5) (hc0_5 : l0_5.length ≤ c0_5) (hr1_5 : Kd.C k23 w A1_5 l1_5.length l1_5) (hc1_5 : l1_5.length ≤ c1_5) (h : item_Same.f k a0_0 a0_1 a0_2 a0_3 a0_4 l0_5 a1_0 a1_1 a1_2 a1_3 a1_4 l1_5 = some r) :
    Calls Try.prog 24 #[.agg #[.int .u64 a0_0, .int .u64 a0_1, .int .u64 a0_2, .int .u64 a0_3, .int .i64 a0_4, .slice A0_5 l0_5.length c0_5], .agg #[.int .u64 a1_0, .int .u64 a1_1, .int .u64 a1_2, .int .u64 a1_3, .int .i64 a1_4, .slice A1_5 l1_5.length c1_5]] w fun e w' => e = .returned (.bool r) ∧ Below w.heap.size w w' := by
  have hu43 := Try.underlying43
  have hu30 := Try.underlying30
  have HR0_5 := Aside0.mk hr0_5
  have HC0_5 := Aside0.mk hc0_5
  clear hr0_5 hc0_5
  have HR1_5 := Aside0.mk hr1_5
  have HC1_5 := Aside0.mk hc1_5
  clear hr1_5 hc1_5
  have HB := Aside0.mk (Below.refl w.heap.size w)
  have H : (if ((a0_0 == a1_0 && (a0_1 == a1_1 && (a0_2 == a1_2 && (a0_3 == a1_3)))) && (a0_4 == a1_4)) = true then ((item_Write_47.f k l0_5 l1_5).bind fun t145 => (some t145)) else (some false)) = some r := h
  clear h
  by_cases c3 : ((a0_0 == a1_0 && (a0_1 == a1_1 && (a0_2 == a1_2 && (a0_3 == a1_3)))) && (a0_4 == a1_4)) = true
  rotate_left
  · rw [if_neg c3] at H
    have c3b0 : ((a0_0 == a1_0 && (a0_1 == a1_1 && (a0_2 == a1_2 && (a0_3 == a1_3)))) && (a0_4 == a1_4)) = false := by simpa using c3
    clear c3
    obtain rfl := Option.some.inj H
    go_enter Try.func24, Try.ntmps24
    go_wp2_with (first | ((with_reducible refine gate_dst (N := 2) rfl ?_); refine box_event ?hg (N := 2) ?hd (cs := #[.int .u64 a0_0, .int .u64 a0_1, .int .u64 a0_2, .int .u64 a0_3, .int .i64 a0_4, .slice A0_5 l0_5.length c0_5]) (t := 43) ?hr ?_; (case hd => rfl); (case hg => rfl); (case hr => first | (go_simp; done) | (go_simp; rfl)); intro gb143 hg w10 hbox hb; have BK143 := Aside0.mk (hbox); have GW143 := Kw_ HB hg; have GE143 := GW143; replace HB := Ks_ HB hb; clear hb hbox hg) | ((with_reducible refine gate_dst (N := 3) rfl ?_); refine box_event ?hg (N := 3) ?hd (cs := #[.int .u64 a1_0, .int .u64 a1_1, .int .u64 a1_2, .int .u64 a1_3, .int .i64 a1_4, .slice A1_5 l1_5.length c1_5]) (t := 43) ?hr ?_; (case hd => rfl); (case hg => rfl); (case hr => first | (go_simp; done) | (go_simp; rfl)); intro gb144 hg w11 hbox hb; have BK144 := Aside0.mk (hbox); have GW144 := Kw_ HB hg; have GE144 := GW144; have NB143_144 := Kl_ BK143 hg; have NB144_143 := Kr_ BK143 hg; replace BK143 := Kb_ BK143 hb; replace HB := Ks_ HB hb; clear hb hbox hg; have hnb12 := NB143_144.out; have hnc12 := NB144_143.out; obtain ⟨hcz13_0, hcz13_1, hcz13_2, hcz13_3, hcz13_4, hcz13_5, hfz13_0, hfz13_1, hfz13_2, hfz13_3, hfz13_4, hfz13_5⟩ := Ke6_ BK143.out; obtain ⟨hcz14_0, hcz14_1, hcz14_2, hcz14_3, hcz14_4, hcz14_5, hfz14_0, hfz14_1, hfz14_2, hfz14_3, hfz14_4, hfz14_5⟩ := Ke6_ BK144.out))
    go_ret
    exact ⟨by first | rfl | (simp [errW_none, errW_some] <;> rfl) | (simp [*, errW_none, errW_some] <;> rfl), by repeat (first | (with_reducible first | exact HB.out | apply below_alloc | apply pw_below_drewN | apply below_drew1 | refine below_set ?_ GE143.out | refine below_set ?_ GE144.out) | exact HB.out)⟩
  rw [if_pos c3] at H
  have c3b0 : ((a0_0 == a1_0 && (a0_1 == a1_1 && (a0_2 == a1_2 && (a0_3 == a1_3)))) && (a0_4 == a1_4)) = true := c3
  clear c3
  replace H := Option.bind_eq_some_iff.mp H
  obtain ⟨t145, A40, H⟩ := H
  replace H : (some t145) = some r := H
  have A4 := Aside0.mk A40
  clear A40
  obtain rfl := Option.some.inj H
  go_enter Try.func24, Try.ntmps24
  go_wp2_with (first | ((with_reducible refine gate_dst (N := 2) rfl ?_); refine box_event ?hg (N := 2) ?hd (cs := #[.int .u64 a0_0, .int .u64 a0_1, .int .u64 a0_2, .int .u64 a0_3, .int .i64 a0_4, .slice A0_5 l0_5.length c0_5]) (t := 43) ?hr ?_; (case hd => rfl); (case hg => rfl); (case hr => first | (go_simp; done) | (go_simp; rfl)); intro gb143 hg w5 hbox hb; have BK143 := Aside0.mk (hbox); have GW143 := Kw_ HB hg; have GE143 := GW143; replace HB := Ks_ HB hb; clear hb hbox hg) | ((with_reducible refine gate_dst (N := 3) rfl ?_); refine box_event ?hg (N := 3) ?hd (cs := #[.int .u64 a1_0, .int .u64 a1_1, .int .u64 a1_2, .int .u64 a1_3, .int .i64 a1_4, .slice A1_5 l1_5.length c1_5]) (t := 43) ?hr ?_; (case hd => rfl); (case hg => rfl); (case hr => first | (go_simp; done) | (go_simp; rfl)); intro gb144 hg w6 hbox hb; have BK144 := Aside0.mk (hbox); have GW144 := Kw_ HB hg; have GE144 := GW144; have NB143_144 := Kl_ BK143 hg; have NB144_143 := Kr_ BK143 hg; replace BK143 := Kb_ BK143 hb; replace HB := Ks_ HB hb; clear hb hbox hg; have hnb7 := NB143_144.out; have hnc7 := NB144_143.out; obtain ⟨hcz8_0, hcz8_1, hcz8_2, hcz8_3, hcz8_4, hcz8_5, hfz8_0, hfz8_1, hfz8_2, hfz8_3, hfz8_4, hfz8_5⟩ := Ke6_ BK143.out; obtain ⟨hcz9_0, hcz9_1, hcz9_2, hcz9_3, hcz9_4, hcz9_5, hfz9_0, hfz9_1, hfz9_2, hfz9_3, hfz9_4, hfz9_5⟩ := Ke6_ BK144.out) | (go_at_call 47; (with_reducible refine (item_Write_47.calls k _ _ l0_5 _ _ l1_5 t145 _ ?side1 ?side2 ?side3 ?side4 A4.out).mono ?_); (case side1 => repeat (first | exact (Kd.C_below HR0_5.out HB.out) | (with_reducible refine Kd.C_alloc ?_ _) | (with_reducible refine Kd.C_drewN ?_ _) | (with_reducible refine Kd.C_drew ?_))); (case side2 => exact HC0_5.out); (case side3 => repeat (first | exact (Kd.C_below HR1_5.out HB.out) | (with_reducible refine Kd.C_alloc ?_ _) | (with_reducible refine Kd.C_drewN ?_ _) | (with_reducible refine Kd.C_drew ?_))); (case side4 => exact HC1_5.out); rintro e w' ⟨rfl, ⟨nd, rfl⟩⟩))
  go_ret
  exact ⟨by first | rfl | (simp [errW_none, errW_some] <;> rfl) | (simp [*, errW_none, errW_some] <;> rfl), by repeat (first | (with_reducible first | exact HB.out | apply below_alloc | apply pw_below_drewN | apply below_drew1 | refine below_set ?_ GE143.out | refine below_set ?_ GE144.out) | exact HB.out)⟩

end Go.Proofs.Ytoogchgoiciggaa.Q

-- Written by this session's own driver (wip/hybrid.py) of the kit's printer; contracts marked FOREIGN are by hand.
namespace Go.Proofs.Ytoogchgoiciggaa.Q
open Go.RowKit Go.Proofs.YtoogchgoiciggaaW.PrintWords Go.Proofs.YtoogchgoiciggaaW.PrintLast Go.Proofs.YtoogchgoiciggaaW.PrintMore
attribute [local go_sem] max2_int min2_int max_two min_two max_three min_three max_four min_four   -- for this text's walks alone
set_option linter.unusedVariables false
set_option linter.unusedSimpArgs false

/-! ### pack_Reader_Number: function 53 -/
-- FOREIGN: ranges over []byte(s)
theorem pack_Reader_Number.bytesWorld_frozen (w : World) (e : TypeId) (s : ByteArray) (a : Addr) (ha : a.block < w.heap.size) : (Lib.bytesWorld w e s).frozen? a = w.frozen? a :=
  (bytes_below (Below.refl _ _) (Nat.le_refl _) e s).frozen ha
theorem pack_Reader_Number.bt_extract0 (s : ByteArray) (n k : Nat) (hk : k < n) (hs : n ≤ s.size) : bt (s.extract 0 n) k = bt s k := by
  unfold bt
  rw [dif_pos (by simp; omega), dif_pos (by simp; omega)]
  simp [ByteArray.getElem_extract]
def rnum (s : ByteArray) : Nat → Int
  | 0 => 0
  | k + 1 => Go.bits .or .u64 (IntKind.u64.wrap (rnum s k * 256)) (IntKind.u64.wrap (bt s k))
def pack_Reader_Number.f (a0_0 : ByteArray) (a0_1 : Bool) (a1 : Int) : Option (Int × ByteArray × Bool) :=
  if a0_0.size ≤ 9223372036854775807 then
    (if a0_1 = true then some (0, (⟨#[]⟩ : ByteArray), true) else if a1 < 1 then some (0, (⟨#[]⟩ : ByteArray), true) else if 8 < a1 then some (0, (⟨#[]⟩ : ByteArray), true)
      else if (a0_0.size : Int) < a1 then some (0, (⟨#[]⟩ : ByteArray), true) else some (rnum a0_0 a1.toNat, a0_0.extract a1.toNat a0_0.size, false))
  else none
theorem pack_Reader_Number.some_ (s : ByteArray) (n : Nat) (h1 : 1 ≤ n) (h8 : n ≤ 8) (hs : n ≤ s.size) (hm : s.size ≤ 9223372036854775807) (w : World) :
    Calls Try.prog 53 #[.agg #[.string s, .bool false], .int .i64 n] w fun e w' => e = .returned (.tuple #[.int .u64 (rnum s n), .agg #[.string (s.extract n s.size), .bool false]]) ∧ Below w.heap.size w w' := by
  have hcv := fun W t => Lib.run_convert_string_bytes (P := Try.prog) W 9 76 5 t Try.underlying9 Try.underlying76 Try.underlying5
  have b1 : decide ((n : Int) < 1) = false := by simp; omega
  have b2 : decide ((8 : Int) < (n : Int)) = false := by simp; omega
  have b3 : decide (s.size < n) = false := by simp; omega
  go_enter Try.func53, Try.ntmps53
  go_wp2
  obtain ⟨W, hW⟩ : ∃ W, W = Lib.bytesWorld ((w.alloc (Obj.cells #[Value.string s, Value.bool false] 97)).alloc (Obj.cells #[Value.string { data := #[] }, Value.bool false] 97)) 5 (s.extract 0 n) := ⟨_, rfl⟩
  have hbel : Below w.heap.size w W := by
    rw [hW]
    exact bytes_below (((Below.refl _ _).alloc (Nat.le_refl _) _).alloc (by simp) _) (by simp; omega) _ _
  have hsz : W.heap.size = w.heap.size + 3 := by rw [hW, Lib.bytesWorld_size]; simp
  have hc0 : W.cell? ⟨w.heap.size, 0, none⟩ = some (.string s) := by
    rw [hW, Lib.bytesWorld_old _ _ _ _ (by simp; omega)]; simp [go_sem]
  have hc2 : W.cell? ⟨w.heap.size + 1, 0, none⟩ = some (.string ⟨#[]⟩) := by
    rw [hW, Lib.bytesWorld_old _ _ _ _ (by simp)]; simp [go_sem]
  have hc3 : W.cell? ⟨w.heap.size + 1, 1, none⟩ = some (.bool false) := by
    rw [hW, Lib.bytesWorld_old _ _ _ _ (by simp)]; simp [go_sem]
  have hf2 : W.frozen? ⟨w.heap.size + 1, 0, none⟩ = false := by
    rw [hW, pack_Reader_Number.bytesWorld_frozen _ _ _ _ (by simp)]; simp [go_sem]
  have hf3 : W.frozen? ⟨w.heap.size + 1, 1, none⟩ = false := by
    rw [hW, pack_Reader_Number.bytesWorld_frozen _ _ _ _ (by simp)]; simp [go_sem]
  have hel : ∀ k : Nat, k < n → W.cell? ⟨w.heap.size + 1 + 1, k, none⟩ = some (.int .u8 (bt s k)) := by
    intro k hk
    obtain ⟨_, _, hr⟩ := bytes_reads ((w.alloc (Obj.cells #[Value.string s, Value.bool false] 97)).alloc (Obj.cells #[Value.string { data := #[] }, Value.bool false] 97)) 5 (s.extract 0 n) (by simp; omega)
    rw [← hW] at hr
    obtain ⟨ad, had, hr⟩ := hr (by simp; omega)
    have hr := hr k (by simp; omega)
    simp at had
    subst had
    rw [add_plain] at hr
    rw [hr]
    have e1 : (bytesOf (s.extract 0 n)).getD k 0 = bt (s.extract 0 n) k := rd_bytesOf (s.extract 0 n) k
    rw [e1, pack_Reader_Number.bt_extract0 _ _ _ hk hs]
  rw [← hW]
  clear hW hcv
  go_loop [32, 4] (fun i v => ∃ k : Nat, k ≤ n ∧ i = .int .i64 k ∧ v = .int .u64 (rnum s k)) (fun i _ => n - (intOf i).toNat)
  case atStart => exact ⟨0, Nat.zero_le _, rfl, rfl⟩
  case round =>
    obtain ⟨k, hk, rfl, rfl⟩ := hrel
    by_cases hlt : k < n
    · have hcell := hel k hlt
      clear hel
      go_wp2
      go_round
      case rel => exact ⟨k + 1, by omega, by go_num, rfl⟩
      case measure => simp [intOf]; omega
    · obtain rfl : k = n := by omega
      clear hel
      go_wp2
      go_region
      all_goals go_wp2
      refine bodyPost_ret (v := .tuple #[.int .u64 (rnum s k), .agg #[.string (s.extract k s.size), .bool false]]) (by simp [results, Try.results53, go_sem, hc2, hc3, hf2, hf3]) rfl ⟨rfl, ?_⟩
      exact ((hbel.setCell (by simp) _).setCell (by simp) _).drew
theorem pack_Reader_Number.bad_ (s : ByteArray) (b : Bool) (a1 : Int) (h : b = true ∨ b = false ∧ (a1 < 1 ∨ 8 < a1 ∨ (s.size : Int) < a1)) (w : World) :
    Calls Try.prog 53 #[.agg #[.string s, .bool b], .int .i64 a1] w fun e w' => e = .returned (.tuple #[.int .u64 0, .agg #[.string ⟨#[]⟩, .bool true]]) ∧ Below w.heap.size w w' := by
  rcases h with rfl | ⟨rfl, h⟩
  · go_enter Try.func53, Try.ntmps53
    go_wp2
    refine bodyPost_ret (v := .agg #[.string ⟨#[]⟩, .bool true]) (by simp [results, Try.results71, go_sem]) rfl ?_
    go_wp2
    refine bodyPost_ret (v := .tuple #[.int .u64 0, .agg #[.string ⟨#[]⟩, .bool true]]) (by simp [results, Try.results53, go_sem]) rfl ⟨rfl, ?_⟩
    repeat (first | exact Below.refl _ _ | apply below_alloc | apply below_drew | refine Below.setCell ?_ (by simp) _)
  · rcases h with h | h | h
    · have b1 : decide (a1 < 1) = true := decide_eq_true h
      go_enter Try.func53, Try.ntmps53
      go_wp2
      refine bodyPost_ret (v := .agg #[.string ⟨#[]⟩, .bool true]) (by simp [results, Try.results71, go_sem]) rfl ?_
      go_wp2
      refine bodyPost_ret (v := .tuple #[.int .u64 0, .agg #[.string ⟨#[]⟩, .bool true]]) (by simp [results, Try.results53, go_sem]) rfl ⟨rfl, ?_⟩
      repeat (first | exact Below.refl _ _ | apply below_alloc | apply below_drew | refine Below.setCell ?_ (by simp) _)
    · have b1 : decide (8 < a1) = true := decide_eq_true h
      have b2 : decide (a1 < 1) = false := decide_eq_false (by omega)
      go_enter Try.func53, Try.ntmps53
      go_wp2
      refine bodyPost_ret (v := .agg #[.string ⟨#[]⟩, .bool true]) (by simp [results, Try.results71, go_sem]) rfl ?_
      go_wp2
      refine bodyPost_ret (v := .tuple #[.int .u64 0, .agg #[.string ⟨#[]⟩, .bool true]]) (by simp [results, Try.results53, go_sem]) rfl ⟨rfl, ?_⟩
      repeat (first | exact Below.refl _ _ | apply below_alloc | apply below_drew | refine Below.setCell ?_ (by simp) _)
    · by_cases h1 : a1 < 1
      · have b1 : decide (a1 < 1) = true := decide_eq_true h1
        clear h
        go_enter Try.func53, Try.ntmps53
        go_wp2
        refine bodyPost_ret (v := .agg #[.string ⟨#[]⟩, .bool true]) (by simp [results, Try.results71, go_sem]) rfl ?_
        go_wp2
        refine bodyPost_ret (v := .tuple #[.int .u64 0, .agg #[.string ⟨#[]⟩, .bool true]]) (by simp [results, Try.results53, go_sem]) rfl ⟨rfl, ?_⟩
        repeat (first | exact Below.refl _ _ | apply below_alloc | apply below_drew | refine Below.setCell ?_ (by simp) _)
      · by_cases h8 : 8 < a1
        · have b1 : decide (8 < a1) = true := decide_eq_true h8
          clear h
          have b2 : decide (a1 < 1) = false := decide_eq_false (by omega)
          go_enter Try.func53, Try.ntmps53
          go_wp2
          refine bodyPost_ret (v := .agg #[.string ⟨#[]⟩, .bool true]) (by simp [results, Try.results71, go_sem]) rfl ?_
          go_wp2
          refine bodyPost_ret (v := .tuple #[.int .u64 0, .agg #[.string ⟨#[]⟩, .bool true]]) (by simp [results, Try.results53, go_sem]) rfl ⟨rfl, ?_⟩
          repeat (first | exact Below.refl _ _ | apply below_alloc | apply below_drew | refine Below.setCell ?_ (by simp) _)
        · have b1 : decide (8 < a1) = false := decide_eq_false (by omega)
          have b2 : decide (a1 < 1) = false := decide_eq_false (by omega)
          have b3 : decide ((s.size : Int) < a1) = true := decide_eq_true h
          go_enter Try.func53, Try.ntmps53
          go_wp2
          refine bodyPost_ret (v := .agg #[.string ⟨#[]⟩, .bool true]) (by simp [results, Try.results71, go_sem]) rfl ?_
          go_wp2
          refine bodyPost_ret (v := .tuple #[.int .u64 0, .agg #[.string ⟨#[]⟩, .bool true]]) (by simp [results, Try.results53, go_sem]) rfl ⟨rfl, ?_⟩
          repeat (first | exact Below.refl _ _ | apply below_alloc | apply below_drew | refine Below.setCell ?_ (by simp) _)
theorem pack_Reader_Number.calls (a0_0 : ByteArray) (a0_1 : Bool) (a1 : Int) (r1 : Int) (r2 : ByteArray) (r3 : Bool) (w : World) (h : pack_Reader_Number.f a0_0 a0_1 a1 = some (r1, r2, r3)) :
    Calls Try.prog 53 #[.agg #[.string a0_0, .bool a0_1], .int .i64 a1] w fun e w' => e = .returned (.tuple #[.int .u64 r1, .agg #[.string r2, .bool r3]]) ∧ Below w.heap.size w w' := by
  unfold pack_Reader_Number.f at h
  by_cases hm : a0_0.size ≤ 9223372036854775807
  · rw [if_pos hm] at h
    by_cases c0 : a0_1 = true
    · rw [if_pos c0] at h
      simp only [Option.some.injEq, Prod.mk.injEq] at h
      obtain ⟨rfl, rfl, rfl⟩ := h
      exact pack_Reader_Number.bad_ _ _ _ (.inl c0) w
    · rw [if_neg c0] at h
      have c0' : a0_1 = false := by simpa using c0
      by_cases c1 : a1 < 1
      · rw [if_pos c1] at h
        simp only [Option.some.injEq, Prod.mk.injEq] at h
        obtain ⟨rfl, rfl, rfl⟩ := h
        exact pack_Reader_Number.bad_ _ _ _ (.inr ⟨c0', .inl c1⟩) w
      · rw [if_neg c1] at h
        by_cases c2 : 8 < a1
        · rw [if_pos c2] at h
          simp only [Option.some.injEq, Prod.mk.injEq] at h
          obtain ⟨rfl, rfl, rfl⟩ := h
          exact pack_Reader_Number.bad_ _ _ _ (.inr ⟨c0', .inr (.inl c2)⟩) w
        · rw [if_neg c2] at h
          by_cases c3 : (a0_0.size : Int) < a1
          · rw [if_pos c3] at h
            simp only [Option.some.injEq, Prod.mk.injEq] at h
            obtain ⟨rfl, rfl, rfl⟩ := h
            exact pack_Reader_Number.bad_ _ _ _ (.inr ⟨c0', .inr (.inr c3)⟩) w
          · rw [if_neg c3] at h
            simp only [Option.some.injEq, Prod.mk.injEq] at h
            obtain ⟨rfl, rfl, rfl⟩ := h
            obtain ⟨n, rfl⟩ := Int.eq_ofNat_of_zero_le (show 0 ≤ a1 by omega)
            subst c0'
            rw [Int.toNat_natCast]
            exact pack_Reader_Number.some_ a0_0 n (by omega) (by omega) (by omega) hm w
  · rw [if_neg hm] at h
    exact absurd h (by simp)


end Go.Proofs.Ytoogchgoiciggaa.Q
