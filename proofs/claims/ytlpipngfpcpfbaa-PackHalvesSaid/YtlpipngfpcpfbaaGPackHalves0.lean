import Derived.Test.YtlpipngfpcpfbaaQx0
namespace Go.Proofs.Ytlpipngfpcpfbaa.Q
open Go.RowKit Go.Proofs.YtlpipngfpcpfbaaW.PrintWords Go.Proofs.YtlpipngfpcpfbaaW.PrintLast Go.Proofs.YtlpipngfpcpfbaaW.PrintMore
attribute [local go_sem] max2_int min2_int max_two min_two max_three min_three max_four min_four   -- for this text's walks alone
set_option linter.unusedVariables false
set_option linter.unusedSimpArgs false
/-! ### pack_Number: function 12 -/
-- FOREIGN: an array of eight bytes, filled round by round
def numL (a0 : Int) (n : Nat) : List Int := (List.range n).map fun k => a0 / (2 ^ (8 * (n - 1 - k)) : Nat) % 256
def pack_Number.f (a0 a1 : Int) : Option (ByteArray) := if a1 < 1 then some (⟨#[]⟩ : ByteArray) else if 8 < a1 then some (⟨#[]⟩ : ByteArray) else some (strOfNums (numL a0 a1.toNat))
theorem conv_arr (P : Program) (src dst e T : TypeId) (hs : P.underlying src = some (.slice e)) (he : P.underlying e = some (.int .u8)) (hd : P.underlying dst = some .string) (w : World) (xs : List Int) (n c : Nat) (hn : n ≤ xs.length) :
    (convert src dst (.slice (some ⟨w.heap.size, 0, none⟩) n c)).run P (w.alloc (.cells (xs.map (Value.int .u8)).toArray T)) = .ok (.string (strOfNums (xs.take n))) (w.alloc (.cells (xs.map (Value.int .u8)).toArray T)) := by
  refine run_convert_bytes_arg _ src e hs he w.heap.size 0 n c (xs.take n) (by simp; omega) (fun i hi => ?_) dst hd
  rw [Nat.zero_add]
  have hlt : i < xs.length := by omega
  rw [World.cell?_alloc_at (hn := rfl)]
  simp [hi, hlt]
theorem pack_Number.none_ (a0 a1 : Int) (h : a1 < 1 ∨ 8 < a1) (w : World) :
    Calls Try.prog 12 #[.int .u64 a0, .int .i64 a1] w fun e w' => e = .returned (.string ⟨#[]⟩) ∧ Below w.heap.size w w' := by
  rcases h with h | h
  · have b1 : decide (a1 < 1) = true := decide_eq_true h
    go_enter Try.func12, Try.ntmps12
    go_wp2
    go_ret
    exact ⟨rfl, Below.refl _ _⟩
  · have b1 : decide (a1 < 1) = false := decide_eq_false (by omega)
    have b2 : decide (8 < a1) = true := decide_eq_true h
    go_enter Try.func12, Try.ntmps12
    go_wp2
    go_ret
    exact ⟨rfl, Below.refl _ _⟩
set_option maxHeartbeats 4000000 in
theorem pack_Number.some_ (a0 : Int) (n : Nat) (h1 : 1 ≤ n) (h8 : n ≤ 8) (w : World) :
    Calls Try.prog 12 #[.int .u64 a0, .int .i64 (n : Int)] w fun e w' => e = .returned (.string (strOfNums (numL a0 n))) ∧ Below w.heap.size w w' := by
  have hcv := fun x0 x1 x2 x3 x4 x5 x6 x7 m (hm : m ≤ [x0, x1, x2, x3, x4, x5, x6, x7].length) => conv_arr Try.prog 27 9 5 60 Try.underlying27 Try.underlying5 Try.underlying9 w [x0, x1, x2, x3, x4, x5, x6, x7] m 8 hm
  simp only [List.map_cons, List.map_nil] at hcv
  obtain rfl | rfl | rfl | rfl | rfl | rfl | rfl | rfl : n = 1 ∨ n = 2 ∨ n = 3 ∨ n = 4 ∨ n = 5 ∨ n = 6 ∨ n = 7 ∨ n = 8 := by omega
  · replace hcv := fun x0 x1 x2 x3 x4 x5 x6 x7 => hcv x0 x1 x2 x3 x4 x5 x6 x7 1 (by simp)
    simp only [List.take] at hcv
    go_enter Try.func12, Try.ntmps12
    go_wp2
    refine wp_loop_rounds 2 ?_
    iterate 2 (rw [rounds_succ]; go_wp2)
    go_ret
    exact ⟨by simp [numL, List.range, List.range.loop], (Below.refl _ _).alloc (Nat.le_refl _) _⟩
  · replace hcv := fun x0 x1 x2 x3 x4 x5 x6 x7 => hcv x0 x1 x2 x3 x4 x5 x6 x7 2 (by simp)
    simp only [List.take] at hcv
    go_enter Try.func12, Try.ntmps12
    go_wp2
    refine wp_loop_rounds 3 ?_
    iterate 3 (rw [rounds_succ]; go_wp2)
    go_ret
    exact ⟨by simp [numL, List.range, List.range.loop], (Below.refl _ _).alloc (Nat.le_refl _) _⟩
  · replace hcv := fun x0 x1 x2 x3 x4 x5 x6 x7 => hcv x0 x1 x2 x3 x4 x5 x6 x7 3 (by simp)
    simp only [List.take] at hcv
    go_enter Try.func12, Try.ntmps12
    go_wp2
    refine wp_loop_rounds 4 ?_
    iterate 4 (rw [rounds_succ]; go_wp2)
    go_ret
    exact ⟨by simp [numL, List.range, List.range.loop], (Below.refl _ _).alloc (Nat.le_refl _) _⟩
  · replace hcv := fun x0 x1 x2 x3 x4 x5 x6 x7 => hcv x0 x1 x2 x3 x4 x5 x6 x7 4 (by simp)
    simp only [List.take] at hcv
    go_enter Try.func12, Try.ntmps12
    go_wp2
    refine wp_loop_rounds 5 ?_
    iterate 5 (rw [rounds_succ]; go_wp2)
    go_ret
    exact ⟨by simp [numL, List.range, List.range.loop], (Below.refl _ _).alloc (Nat.le_refl _) _⟩
  · replace hcv := fun x0 x1 x2 x3 x4 x5 x6 x7 => hcv x0 x1 x2 x3 x4 x5 x6 x7 5 (by simp)
    simp only [List.take] at hcv
    go_enter Try.func12, Try.ntmps12
    go_wp2
    refine wp_loop_rounds 6 ?_
    iterate 6 (rw [rounds_succ]; go_wp2)
    go_ret
    exact ⟨by simp [numL, List.range, List.range.loop], (Below.refl _ _).alloc (Nat.le_refl _) _⟩
  · replace hcv := fun x0 x1 x2 x3 x4 x5 x6 x7 => hcv x0 x1 x2 x3 x4 x5 x6 x7 6 (by simp)
    simp only [List.take] at hcv
    go_enter Try.func12, Try.ntmps12
    go_wp2
    refine wp_loop_rounds 7 ?_
    iterate 7 (rw [rounds_succ]; go_wp2)
    go_ret
    exact ⟨by simp [numL, List.range, List.range.loop], (Below.refl _ _).alloc (Nat.le_refl _) _⟩
  · replace hcv := fun x0 x1 x2 x3 x4 x5 x6 x7 => hcv x0 x1 x2 x3 x4 x5 x6 x7 7 (by simp)
    simp only [List.take] at hcv
    go_enter Try.func12, Try.ntmps12
    go_wp2
    refine wp_loop_rounds 8 ?_
    iterate 8 (rw [rounds_succ]; go_wp2)
    go_ret
    exact ⟨by simp [numL, List.range, List.range.loop], (Below.refl _ _).alloc (Nat.le_refl _) _⟩
  · replace hcv := fun x0 x1 x2 x3 x4 x5 x6 x7 => hcv x0 x1 x2 x3 x4 x5 x6 x7 8 (by simp)
    simp only [List.take] at hcv
    go_enter Try.func12, Try.ntmps12
    go_wp2
    refine wp_loop_rounds 9 ?_
    iterate 9 (rw [rounds_succ]; go_wp2)
    go_ret
    exact ⟨by simp [numL, List.range, List.range.loop], (Below.refl _ _).alloc (Nat.le_refl _) _⟩
theorem pack_Number.calls (a0 : Int) (a1 : Int) (r : ByteArray) (w : World) (h : pack_Number.f a0 a1 = some r) :
    Calls Try.prog 12 #[.int .u64 a0, .int .i64 a1] w fun e w' => e = .returned (.string r) ∧ Below w.heap.size w w' := by
  unfold pack_Number.f at h
  by_cases c1 : a1 < 1
  · rw [if_pos c1] at h
    obtain rfl := Option.some.inj h
    exact pack_Number.none_ a0 a1 (.inl c1) w
  · rw [if_neg c1] at h
    by_cases c2 : 8 < a1
    · rw [if_pos c2] at h
      obtain rfl := Option.some.inj h
      exact pack_Number.none_ a0 a1 (.inr c2) w
    · rw [if_neg c2] at h
      obtain rfl := Option.some.inj h
      obtain ⟨n, rfl⟩ := Int.eq_ofNat_of_zero_le (show 0 ≤ a1 by omega)
      rw [Int.toNat_natCast]
      exact pack_Number.some_ a0 n (by omega) (by omega) w
/-! ### pack_Vary: function 23 -/
def pack_Vary.l0 : Nat → Int → List Int → Option (ByteArray)
  | 0, _, _ => none
  | k + 1, x0, x3 => if x0 ≥ 128 then (if x3.length < 140737488355328 then (pack_Vary.l0 k (x0 / 128) (x3 ++ [Go.bits .or .u8 ((x0) % 256) 128])) else (none)) else (if x3.length < 140737488355328 then (some (strOfNums (x3 ++ [(x0) % 256]))) else (none))
def pack_Vary.f (k : Nat) (a0 : Int) : Option (ByteArray) := pack_Vary.l0 k a0 ([] : List Int)
theorem pack_Vary.mono_l : ∀ k, (∀ y0 y1, LeO (pack_Vary.l0 k y0 y1) (pack_Vary.l0 (k + 1) y0 y1))
  | 0 => fun _ _ r h => by simp [pack_Vary.l0] at h
  | k + 1 => by
    have ih0 := pack_Vary.mono_l k
    · intro y0 y1
      unfold pack_Vary.l0
      repeat' first
      | (with_reducible exact ih0 _ _)
      | (with_reducible exact LeO.refl _)
      | (with_reducible exact LeO.none _)
      | (with_reducible refine LeO.ite ?_ ?_)
      | (with_reducible refine LeO.bind ?_ (fun _ => ?_))
      | exact ih0 _ _
      | exact LeO.none _
      | refine LeO.ite ?_ ?_
      | refine LeO.bind ?_ (fun _ => ?_)
theorem pack_Vary.mono : ∀ a0 k, LeO (pack_Vary.f k a0) (pack_Vary.f (k + 1) a0) := by
  intro a0 k
  have ih0 := pack_Vary.mono_l k
  unfold pack_Vary.f
  repeat' first
      | (with_reducible exact ih0 _ _)
      | (with_reducible exact LeO.refl _)
      | (with_reducible exact LeO.none _)
      | (with_reducible refine LeO.ite ?_ ?_)
      | (with_reducible refine LeO.bind ?_ (fun _ => ?_))
      | exact ih0 _ _
      | exact LeO.none _
      | refine LeO.ite ?_ ?_
      | refine LeO.bind ?_ (fun _ => ?_)
set_option maxHeartbeats 8000000 in
set_option maxRecDepth 100000 in
theorem pack_Vary.calls (k : Nat) (a0 : Int) (r : ByteArray) (w : World) (h : pack_Vary.f k a0 = some r) :
    Calls Try.prog 23 #[.int .u64 a0] w fun e w' => e = .returned (.string r) ∧ Below w.heap.size w w' := by
  have HB := Aside0.mk (Below.refl w.heap.size w)
  have H : (pack_Vary.l0 k a0 ([] : List Int)) = some r := h
  clear h
  have H' := Aside0.mk H
  clear H
  go_enter Try.func23, Try.ntmps23
  go_wp2
  go_loopg [0, 3] k (fun kq v0 v3 w' => ∃ (x0_1 : Int) (x3_1 : List Int), v0 = .int .u64 x0_1 ∧ Aside0 (pack_Vary.l0 kq x0_1 x3_1 = some r) ∧ Aside0 (kq ≤ k) ∧ Aside0 (Kd.R (Kd.int .u8) 5 w' w.heap.size (fun _ => True) v3 x3_1) ∧ Aside0 (Below w.heap.size w w'))
  case atStart => exact ⟨(a0), (([] : List Int)), (by first | rfl | (simp; done) | (simp [*]; done)), H', ⟨Nat.le_refl _⟩, ⟨by first | exact Kd.R_nil _ _ _ _ _ | exact Kd.N_nil _ _ _ _ _ | exact Kd.V_nil _ _ _ _ _ | exact Kd.Q_nil _ _ _ _ _ | exact Kd.S_nil _ _ _ _ _⟩, ⟨Ky_ HB⟩⟩
  case round =>
    clear H'
    obtain ⟨x0_1, x3_1, rfl, HA, HK1, HO_3, HB⟩ := hrel
    cases gk with
    | zero => exact absurd HA.out (by simp [pack_Vary.l0])
    | succ k1 =>
      have H := HA.out
      clear HA
      simp only [pack_Vary.l0] at H
      by_cases c2 : x0_1 ≥ 128
      rotate_left
      · rw [if_neg c2] at H
        have c2b0 : decide (128 ≤ x0_1) = false := decide_eq_false c2
        clear c2
        by_cases c5 : x3_1.length < 140737488355328
        rotate_left
        · rw [if_neg c5] at H
          exact absurd H (by simp)
        rw [if_pos c5] at H
        have LMc5 := Aside0.mk c5
        clear c5
        obtain ⟨y104, hy104⟩ : ∃ y_ : List Int, y_ = (x3_1 ++ [(x0_1) % 256]) := ⟨_, rfl⟩
        replace H : (some (strOfNums y104)) = some r := by first | (rw [hy104]; with_reducible exact H) | (have H2_ := (Option.bind_some _ _).symm.trans H; rw [hy104]; with_reducible exact H2_) | (have H2_ := (Option.bind_some _ _).symm.trans H; with_reducible exact H2_) | with_reducible exact H | (rw [hy104]; exact H) | exact H
        have Ny104 := Aside0.mk hy104
        clear hy104
        obtain rfl := Option.some.inj H
        go_wp2_with (first | ((with_reducible refine gate_builtin (b := .append) (xs := #[.tmp 14, .tmp 17]) rfl ?_); at_builtin; refine Kd.R_append (Kd.int .u8) (w0 := w) w.heap.size rfl (.tmp 14) (.tmp 17) 27 5 (.int .u8 0) 1 rfl Try.underlying27 info5 rfl (by decide) (by omega) u3 x3_1 ((x0_1) % 256) [.int .u8 ((x0_1) % 256)] (fun _ => True) (fun _ => False) rfl rfl ?aP (fun _ hk => hk.elim) ?aF ?aO ?aB ?aS ?aL ?_; (case aP => exact rfl); (case aB => exact (Ky_ HB)); (case aF => exact (fun _ _ => trivial)); (case aO => exact (Ku_ HO_3)); (case aS => exact (below_size (Ky_ HB))); (case aL => have := LMc5.out; omega); intro v105 w6 ho hb hg hat; rw [← Ny104.out] at ho; have HO106 := Aside0.mk (ho); replace HB := Aside0.mk (hb); clear HO_3; clear ho hb hg hat; have hcv7 := own_string (P := Try.prog) Try.underlying27 Try.underlying5 Try.underlying9 (Kd.own_of_R HO106.out)))
        go_ret
        exact ⟨Kh_, Ky_ HB⟩
      rw [if_pos c2] at H
      have c2b0 : decide (128 ≤ x0_1) = true := decide_eq_true c2
      clear c2
      by_cases c3 : x3_1.length < 140737488355328
      rotate_left
      · rw [if_neg c3] at H
        exact absurd H (by simp)
      rw [if_pos c3] at H
      have LMc3 := Aside0.mk c3
      clear c3
      obtain ⟨y101, hy101⟩ : ∃ y_ : List Int, y_ = (x3_1 ++ [Go.bits .or .u8 ((x0_1) % 256) 128]) := ⟨_, rfl⟩
      replace H : (pack_Vary.l0 k1 (x0_1 / 128) y101) = some r := by first | (rw [hy101]; with_reducible exact H) | (have H2_ := (Option.bind_some _ _).symm.trans H; rw [hy101]; with_reducible exact H2_) | (have H2_ := (Option.bind_some _ _).symm.trans H; with_reducible exact H2_) | with_reducible exact H | (rw [hy101]; exact H) | exact H
      have Ny101 := Aside0.mk hy101
      clear hy101
      have H' := Aside0.mk H
      clear H
      go_wp2_with (first | ((with_reducible refine gate_builtin (b := .append) (xs := #[.tmp 8, .tmp 12]) rfl ?_); at_builtin; refine Kd.R_append (Kd.int .u8) (w0 := w) w.heap.size rfl (.tmp 8) (.tmp 12) 27 5 (.int .u8 0) 1 rfl Try.underlying27 info5 rfl (by decide) (by omega) u3 x3_1 (Go.bits .or .u8 ((x0_1) % 256) 128) [.int .u8 (Go.bits .or .u8 ((x0_1) % 256) 128)] (fun _ => True) (fun _ => False) rfl rfl ?aP (fun _ hk => hk.elim) ?aF ?aO ?aB ?aS ?aL ?_; (case aP => exact rfl); (case aB => exact (Ky_ HB)); (case aF => exact (fun _ _ => trivial)); (case aO => exact (Ku_ HO_3)); (case aS => exact (below_size (Ky_ HB))); (case aL => have := LMc3.out; omega); intro v102 w4 ho hb hg hat; rw [← Ny101.out] at ho; have HO103 := Aside0.mk (ho); replace HB := Aside0.mk (hb); clear HO_3; clear ho hb hg hat))
      go_roundg k1
      case measure => have := HK1.out; omega
      case rel => exact ⟨(x0_1 / 128), (y101), (by first | rfl | (simp; done) | (simp [*]; done)), H', ⟨by have := HK1.out; omega⟩, ⟨by (with_reducible repeat (first | apply Kd.R_alloc | apply Kd.R_drewN | apply Kd.R_drew)); exact HO103.out⟩, ⟨Ky_ HB⟩⟩
/-! ### pack_Text: function 13 -/
def pack_Text.f (k : Nat) (a0 : ByteArray) : Option (ByteArray) := if a0.size ≤ 9223372036854775807 then ((pack_Vary.f k (a0.size : Int)).bind fun t107 => (if t107.size + a0.size ≤ 9223372036854775807 then (some (t107 ++ a0)) else (none))) else (none)
theorem pack_Text.mono : ∀ a0 k, LeO (pack_Text.f k a0) (pack_Text.f (k + 1) a0) := by
  intro a0 k
  unfold pack_Text.f
  repeat' first
      | (with_reducible exact pack_Vary.mono _ _)
      | (with_reducible exact LeO.refl _)
      | (with_reducible exact LeO.none _)
      | (with_reducible refine LeO.ite ?_ ?_)
      | (with_reducible refine LeO.bind ?_ (fun _ => ?_))
      | exact pack_Vary.mono _ _
      | exact LeO.none _
      | refine LeO.ite ?_ ?_
      | refine LeO.bind ?_ (fun _ => ?_)
set_option maxHeartbeats 8000000 in
set_option maxRecDepth 100000 in
theorem pack_Text.calls (k : Nat) (a0 : ByteArray) (r : ByteArray) (w : World) (h : pack_Text.f k a0 = some r) :
    Calls Try.prog 13 #[.string a0] w fun e w' => e = .returned (.string r) ∧ Below w.heap.size w w' := by
  have HB := Aside0.mk (Below.refl w.heap.size w)
  have H : (if a0.size ≤ 9223372036854775807 then ((pack_Vary.f k (a0.size : Int)).bind fun t107 => (if t107.size + a0.size ≤ 9223372036854775807 then (some (t107 ++ a0)) else (none))) else (none)) = some r := h
  (try (have Hs_ := H; simp only [ByteArray.size_append, Int.natCast_add] at Hs_))
  clear h
  by_cases c2 : a0.size ≤ 9223372036854775807
  rotate_left
  · rw [if_neg c2] at H
    exact absurd H (by simp)
  rw [if_pos c2] at H
  have c2b0 := eq_true c2
  have c2b1 : decide (a0.size ≤ 9223372036854775807) = true := decide_eq_true c2
  try have c2b2 : (9223372036854775807 < a0.size) = False := eq_false (Nat.not_lt.2 c2)
  replace H := Option.bind_eq_some_iff.mp H
  obtain ⟨t107, A30, H⟩ := H
  replace H : (if t107.size + a0.size ≤ 9223372036854775807 then (some (t107 ++ a0)) else (none)) = some r := H
  have A3 := Aside0.mk A30
  clear A30
  by_cases c4 : t107.size + a0.size ≤ 9223372036854775807
  rotate_left
  · rw [if_neg c4] at H
    exact absurd H (by simp)
  rw [if_pos c4] at H
  have c4b0 := eq_true c4
  have c4b1 : decide (t107.size + a0.size ≤ 9223372036854775807) = true := decide_eq_true c4
  try have c4b2 : (9223372036854775807 < t107.size + a0.size) = False := eq_false (Nat.not_lt.2 c4)
  obtain rfl := Option.some.inj H
  go_enter Try.func13, Try.ntmps13
  go_wp2_with (first | ((with_reducible refine gate_callee (f := 23) rfl ?_); refine Kg_ (some 6) rfl rfl Try.func23 (by kernel_rfl) rfl #[.int .u64 (a0.size : Int)] rfl ?_; (with_reducible refine (pack_Vary.calls k (a0.size : Int) t107 _ A3.out).mono ?_); rintro e w5 ⟨rfl, hb⟩; refine ⟨_, rfl, ?_⟩; replace HB := Ks_ HB hb; (try clear hb); (try clear hb2); (try clear hk); (try clear hi)))
  go_ret
  exact ⟨Kh_, Ky_ HB⟩
/-! ### pack_bad: function 27 -/
def pack_bad.f  : Option (ByteArray × Bool) := some ((⟨#[]⟩ : ByteArray), true)
set_option maxHeartbeats 8000000 in
set_option maxRecDepth 100000 in
theorem pack_bad.calls  (r1 : ByteArray) (r2 : Bool) (w : World) (h : pack_bad.f  = some (r1, r2)) :
    Calls Try.prog 27 #[] w fun e w' => e = .returned (.agg #[.string r1, .bool r2]) ∧ Below w.heap.size w w' := by
  have hu35 := Try.underlying35
  have HB := Aside0.mk (Below.refl w.heap.size w)
  have H : (some ((⟨#[]⟩ : ByteArray), true)) = some (r1, r2) := h
  clear h
  simp only [Option.some.injEq, Prod.mk.injEq] at H
  obtain ⟨rfl, rfl⟩ := H
  go_enter Try.func27, Try.ntmps27
  go_wp2_with (first | ((with_reducible refine gate_dst (N := 0) rfl ?_); refine Ka_ 0 #[.string (⟨#[]⟩ : ByteArray), .bool false] 35 ?_; intro gb108 hg w1 hbox hb; have BK108 := Aside0.mk (hbox); have GW108 := Kw_ HB hg; have GE108 := GW108; replace HB := Ks_ HB hb; clear hb hbox hg; obtain ⟨hcz2_0, hcz2_1, hfz2_0, hfz2_1⟩ := Ke2_ BK108.out))
  refine bodyPost_ret (results_cell_row rfl _ _ gb108 35 #[.string (⟨#[]⟩ : ByteArray), .bool true] (0, 0) _ rfl (by refine Kv_ ?_; refine blk_put (cs := #[.string (⟨#[]⟩ : ByteArray), .bool false]) ?_ 1 _ rfl; refine Kv_ ?_; refine blk_put (cs := #[.string (⟨#[]⟩ : ByteArray), .bool false]) ?_ 0 _ rfl; exact Kq_ BK108) Try.underlying35 rfl (by kernel_rfl)) rfl ?_
  exact ⟨Kh_, Kz_ HB GE108⟩
/-! ### pack_Reader_Vary: function 17 -/
def pack_Reader_Vary.l0 : Nat → Int → Int → Int → ByteArray → Bool → Option (Int × ByteArray × Bool)
  | 0, _, _, _, _, _ => none
  | k + 1, x4, x13, x14, x110000, x110001 => if x14 < x13 then (if 0 ≤ x14 then (if x14 < (x110000.size : Int) then (if 0 ≤ (wrap64 (7 * x14)) then (if (bt x110000 x14) ≥ 128 then (pack_Reader_Vary.l0 k (Go.bits .or .u64 x4 (shl .u64 (IntKind.u64.wrap (Go.bits .and .u8 (bt x110000 x14) 127)) (wrap64 (7 * x14)))) x13 (wrap64 (x14 + 1)) x110000 x110001) else (if 0 ≤ (wrap64 (x14 + 1)) then (if (wrap64 (x14 + 1)) ≤ (x110000.size : Int) then ((pack_Vary.f k (Go.bits .or .u64 x4 (shl .u64 (IntKind.u64.wrap (Go.bits .and .u8 (bt x110000 x14) 127)) (wrap64 (7 * x14))))).bind fun t115 => (if (x110000.extract 0 ((wrap64 (x14 + 1)) : Int).toNat).toList = t115.toList then (some (Go.bits .or .u64 x4 (shl .u64 (IntKind.u64.wrap (Go.bits .and .u8 (bt x110000 x14) 127)) (wrap64 (7 * x14))), x110000.extract ((wrap64 (x14 + 1)) : Int).toNat x110000.size, false)) else ((pack_bad.f).bind fun bt116 => (some (0, bt116.1, bt116.2))))) else (none)) else (none))) else (none)) else (none)) else (none)) else ((pack_bad.f).bind fun bt113 => (some (0, bt113.1, bt113.2)))
def pack_Reader_Vary.f (k : Nat) (a0_0 : ByteArray) (a0_1 : Bool) : Option (Int × ByteArray × Bool) := if a0_1 = true then ((pack_bad.f).bind fun bt111 => (some (0, bt111.1, bt111.2))) else (pack_Reader_Vary.l0 k 0 (mn (a0_0.size : Int) 10) 0 a0_0 a0_1)
theorem pack_Reader_Vary.mono_l : ∀ k, (∀ y0 y1 y2 y3 y4, LeO (pack_Reader_Vary.l0 k y0 y1 y2 y3 y4) (pack_Reader_Vary.l0 (k + 1) y0 y1 y2 y3 y4))
  | 0 => fun _ _ _ _ _ r h => by simp [pack_Reader_Vary.l0] at h
  | k + 1 => by
    have ih0 := pack_Reader_Vary.mono_l k
    · intro y0 y1 y2 y3 y4
      unfold pack_Reader_Vary.l0
      repeat' first
      | (with_reducible exact ih0 _ _ _ _ _)
      | (with_reducible exact pack_Vary.mono _ _)
      | (with_reducible exact LeO.refl _)
      | (with_reducible exact LeO.none _)
      | (with_reducible refine LeO.ite ?_ ?_)
      | (with_reducible refine LeO.bind ?_ (fun _ => ?_))
      | exact ih0 _ _ _ _ _
      | exact pack_Vary.mono _ _
      | exact LeO.none _
      | refine LeO.ite ?_ ?_
      | refine LeO.bind ?_ (fun _ => ?_)
theorem pack_Reader_Vary.mono : ∀ a0 a1 k, LeO (pack_Reader_Vary.f k a0 a1) (pack_Reader_Vary.f (k + 1) a0 a1) := by
  intro a0 a1 k
  have ih0 := pack_Reader_Vary.mono_l k
  unfold pack_Reader_Vary.f
  repeat' first
      | (with_reducible exact ih0 _ _ _ _ _)
      | (with_reducible exact pack_Vary.mono _ _)
      | (with_reducible exact LeO.refl _)
      | (with_reducible exact LeO.none _)
      | (with_reducible refine LeO.ite ?_ ?_)
      | (with_reducible refine LeO.bind ?_ (fun _ => ?_))
      | exact ih0 _ _ _ _ _
      | exact pack_Vary.mono _ _
      | exact LeO.none _
      | refine LeO.ite ?_ ?_
      | refine LeO.bind ?_ (fun _ => ?_)
def pack_Reader_Vary.T10 : Bool × List (List Nat × List Nat) := (true, [([], []), ([0], [0]), ([], []), ([2], [2]), ([1, 3], [1, 3]), ([], []), ([5], [5]), ([4, 6], [4, 6])])
def pack_Reader_Vary.B10 : List Nat := [0, 1, 0, 4, 15, 0, 32, 127]
theorem pack_Reader_Vary.tab10 : rtab .any (opsOf Try.f17 10) = pack_Reader_Vary.T10 := by kernel_rfl
theorem pack_Reader_Vary.bits10 : waitsOk pack_Reader_Vary.T10.2 pack_Reader_Vary.B10 = true := by kernel_rfl
def pack_Reader_Vary.T11 : Bool × List (List Nat × List Nat) := (true, [([], []), ([], []), ([1], [1]), ([], []), ([3], [3]), ([2, 4], [2, 4]), ([5], [5]), ([0, 0], [0]), ([6, 7, 0, 1, 2, 3, 4, 5, 6, 7], [6])])
def pack_Reader_Vary.B11 : List Nat := [0, 0, 2, 0, 8, 30, 62, 1, 255]
theorem pack_Reader_Vary.tab11 : rtab .any (opsOf Try.f17 11) = pack_Reader_Vary.T11 := by kernel_rfl
theorem pack_Reader_Vary.bits11 : waitsOk pack_Reader_Vary.T11.2 pack_Reader_Vary.B11 = true := by kernel_rfl
set_option maxHeartbeats 8000000 in
set_option maxRecDepth 100000 in
theorem pack_Reader_Vary.calls (k : Nat) (a0_0 : ByteArray) (a0_1 : Bool) (r1 : Int) (r2 : ByteArray) (r3 : Bool) (w : World) (h : pack_Reader_Vary.f k a0_0 a0_1 = some (r1, r2, r3)) :
    Calls Try.prog 17 #[.agg #[.string a0_0, .bool a0_1]] w fun e w' => e = .returned (.tuple #[.int .u64 r1, .agg #[.string r2, .bool r3]]) ∧ Below w.heap.size w w' := by
  have hu35 := Try.underlying35
  have HB := Aside0.mk (Below.refl w.heap.size w)
  have H : (if a0_1 = true then ((pack_bad.f).bind fun bt111 => (some (0, bt111.1, bt111.2))) else (pack_Reader_Vary.l0 k 0 (mn (a0_0.size : Int) 10) 0 a0_0 a0_1)) = some (r1, r2, r3) := h
  clear h
  by_cases c2 : a0_1 = true
  · subst c2
    have H1 : ((pack_bad.f).bind fun bt111 => (some (0, bt111.1, bt111.2))) = some (r1, r2, r3) := by rw [if_pos rfl] at H; exact H
    clear H
    have H := H1
    clear H1
    replace H := Option.bind_eq_some_iff.mp H
    obtain ⟨⟨t111, t112⟩, A30, H⟩ := H
    replace H : (some (0, t111, t112)) = some (r1, r2, r3) := H
    have A3 := Aside0.mk A30
    clear A30
    simp only [Option.some.injEq, Prod.mk.injEq] at H
    obtain ⟨rfl, rfl, rfl⟩ := H
    go_enter Try.func17, Try.ntmps17
    go_wp2_with (first | ((with_reducible refine gate_dst (N := 1) rfl ?_); refine Ka_ 1 #[.string a0_0, .bool true] 35 ?_; intro gb109 hg w4 hbox hb; have BK109 := Aside0.mk (hbox); have GW109 := Kw_ HB hg; have GE109 := GW109; replace HB := Ks_ HB hb; clear hb hbox hg) | ((with_reducible refine gate_dst (N := 3) rfl ?_); refine Ka_ 3 #[.string (⟨#[]⟩ : ByteArray), .bool false] 35 ?_; intro gb110 hg w5 hbox hb; have BK110 := Aside0.mk (hbox); have GW110 := Kw_ HB hg; have GE110 := GW110; have NB109_110 := Kl_ BK109 hg; have NB110_109 := Kr_ BK109 hg; replace BK109 := Kb_ BK109 hb; replace HB := Ks_ HB hb; clear hb hbox hg; have hnb6 := NB109_110.out; have hnc6 := NB110_109.out; obtain ⟨hcz7_0, hcz7_1, hfz7_0, hfz7_1⟩ := Ke2_ BK109.out) | ((with_reducible refine gate_callee (f := 27) rfl ?_); refine Kg_ (some 9) rfl rfl Try.func27 (by kernel_rfl) rfl #[] rfl ?_; (with_reducible refine (pack_bad.calls  t111 t112 _ A3.out).mono ?_); rintro e w8 ⟨rfl, hb⟩; refine ⟨_, rfl, ?_⟩; replace BK109 := Kb_ BK109 hb; replace BK110 := Kb_ BK110 hb; replace HB := Ks_ HB hb; (try clear hb); (try clear hb2); (try clear hk); (try clear hi); obtain ⟨hcz9_0, hcz9_1, hfz9_0, hfz9_1⟩ := Ke2_ BK110.out))
    refine bodyPost_ret (results_tc rfl _ _ gb110 35 #[.string t111, .bool t112] (0, 0) _ rfl (by refine Kv_ ?_; refine blk_put (cs := #[.string t111, .bool false]) ?_ 1 _ rfl; refine Kv_ ?_; refine blk_put (cs := #[.string (⟨#[]⟩ : ByteArray), .bool false]) ?_ 0 _ rfl; exact Kq_ BK110) Try.underlying35 rfl (by kernel_rfl)) rfl ?_
    exact ⟨Kh_, K2a_ HB GE109 GE110⟩
  replace c2 := Bool.eq_false_iff.mpr c2
  subst c2
  have H1 : (pack_Reader_Vary.l0 k 0 (mn (a0_0.size : Int) 10) 0 a0_0 false) = some (r1, r2, r3) := by rw [if_neg (show ¬ (false = true) by decide)] at H; exact H
  clear H
  have H := H1
  clear H1
  obtain ⟨ji10, hji10⟩ : ∃ j_ : Int, (mn (a0_0.size : Int) 10) = j_ := ⟨_, rfl⟩
  replace H : (pack_Reader_Vary.l0 k 0 ji10 0 a0_0 false) = some (r1, r2, r3) := by first | (rw [hji10] at H; exact H) | (simp only [hji10] at H ⊢; exact H)
  (try (have hji10h : ji10 ≤ 10 := by (rw [← hji10]; unfold mn; (repeat' split) <;> omega)))
  (try (have hji10g : ji10 ≤ 64 := by omega))
  (try (have hji10l : 0 ≤ ji10 := by (rw [← hji10]; unfold mn; (repeat' split) <;> omega)))
  (try (have hji10m : 0 ≤ ji10 := by omega))
  have hji10_ : (if 10 < (a0_0.size : Int) then 10 else (a0_0.size : Int)) = ji10 := hji10
  have H' := Aside0.mk H
  clear H
  go_enter Try.func17, Try.ntmps17
  go_wp2_with (first | ((with_reducible refine gate_dst (N := 1) rfl ?_); refine Ka_ 1 #[.string a0_0, .bool false] 35 ?_; intro gb109 hg w11 hbox hb; have BK109 := Aside0.mk (hbox); have GW109 := Kw_ HB hg; have GE109 := GW109; replace HB := Ks_ HB hb; clear hb hbox hg) | ((with_reducible refine gate_dst (N := 3) rfl ?_); refine Ka_ 3 #[.string (⟨#[]⟩ : ByteArray), .bool false] 35 ?_; intro gb110 hg w12 hbox hb; have BK110 := Aside0.mk (hbox); have GW110 := Kw_ HB hg; have GE110 := GW110; have NB109_110 := Kl_ BK109 hg; have NB110_109 := Kr_ BK109 hg; replace BK109 := Kb_ BK109 hb; replace HB := Ks_ HB hb; clear hb hbox hg; have hnb13 := NB109_110.out; have hnc13 := NB110_109.out; obtain ⟨hcz14_0, hcz14_1, hfz14_0, hfz14_1⟩ := Ke2_ BK109.out))
  go_loopg [4, 14] k (fun kq v4 v14 w' => ∃ (x4_1 : Int) (x14_1 : Int) (x111000_1 : ByteArray) (x111001_1 : Bool), v4 = .int .u64 x4_1 ∧ v14 = .int .i64 x14_1 ∧ Aside0 (pack_Reader_Vary.l0 kq x4_1 ji10 x14_1 a0_0 false = some (r1, r2, r3)) ∧ Aside0 (kq ≤ k) ∧ Aside0 (w'.heap[gb109]? = some (.cells #[.string a0_0, .bool false] 35 (0, 0))) ∧ Aside0 (w'.heap[gb110]? = some (.cells #[.string x111000_1, .bool x111001_1] 35 (0, 0))) ∧ Aside0 (Below w.heap.size w w'))
  case atStart => exact ⟨(0), (0), ((⟨#[]⟩ : ByteArray)), (false), (by first | rfl | (simp; done) | (simp [*]; done)), (by first | rfl | (simp; done) | (simp [*]; done)), H', ⟨Nat.le_refl _⟩, ⟨by exact Kq_ BK109⟩, ⟨by exact Kq_ BK110⟩, ⟨K2a_ HB GE109 GE110⟩⟩
  case round =>
    clear H'
    try clear c1
    try clear c2
    try clear p2
    try clear c6
    try clear c13
    try clear hcz14_0
    try clear hcz14_1
    try clear hcz7_0
    try clear hcz7_1
    try clear hcz9_0
    try clear hcz9_1
    try clear hfz14_0
    try clear hfz14_1
    try clear hfz7_0
    try clear hfz7_1
    try clear hfz9_0
    try clear hfz9_1
    obtain ⟨x4_1, x14_1, x111000_1, x111001_1, rfl, rfl, HA, HK1, BK109, BK110, HB⟩ := hrel
    cases gk with
    | zero => exact absurd HA.out (by simp [pack_Reader_Vary.l0])
    | succ k1 =>
      have H := HA.out
      clear HA
      simp only [pack_Reader_Vary.l0] at H
      by_cases c15 : x14_1 < ji10
      rotate_left
      · rw [if_neg c15] at H
        have c15b0 : decide (x14_1 < ji10) = false := decide_eq_false c15
        clear c15
        replace H := Option.bind_eq_some_iff.mp H
        obtain ⟨⟨t113, t114⟩, A460, H⟩ := H
        replace H : (some (0, t113, t114)) = some (r1, r2, r3) := H
        have A46 := Aside0.mk A460
        clear A460
        simp only [Option.some.injEq, Prod.mk.injEq] at H
        obtain ⟨rfl, rfl, rfl⟩ := H
        go_wp2_with (first | ((with_reducible refine gate_callee (f := 27) rfl ?_); refine Kg_ (some 47) rfl rfl Try.func27 (by kernel_rfl) rfl #[] rfl ?_; (with_reducible refine (pack_bad.calls  t113 t114 _ A46.out).mono ?_); rintro e w47 ⟨rfl, hb⟩; refine ⟨_, rfl, ?_⟩; replace BK109 := Kb_ BK109 hb; replace BK110 := Kb_ BK110 hb; replace HB := Ks_ HB hb; (try clear hb); (try clear hb2); (try clear hk); (try clear hi); have hnb48 := NB110_109.out; have hnc48 := NB109_110.out; obtain ⟨hcz49_0, hcz49_1, hfz49_0, hfz49_1⟩ := Ke2_ BK110.out))
        refine bodyPost_ret (results_tc rfl _ _ gb110 35 #[.string t113, .bool t114] (0, 0) _ rfl (by refine Kv_ ?_; refine blk_put (cs := #[.string t113, .bool x111001_1]) ?_ 1 _ rfl; refine Kv_ ?_; refine blk_put (cs := #[.string x111000_1, .bool x111001_1]) ?_ 0 _ rfl; exact Kq_ BK110) Try.underlying35 rfl (by kernel_rfl)) rfl ?_
        exact ⟨by first | rfl | (simp [errW_none, errW_some] <;> rfl) | (simp only [← hji10]; first | rfl | (simp [errW_none, errW_some] <;> rfl)) | (simp [*, errW_none, errW_some] <;> rfl), K2a_ HB GE109 GE110⟩
      rw [if_pos c15] at H
      have c15b0 : decide (x14_1 < ji10) = true := decide_eq_true c15
      clear c15
      by_cases c16 : 0 ≤ x14_1
      rotate_left
      · rw [if_neg c16] at H
        exact absurd H (by simp)
      rw [if_pos c16] at H
      have c16b0 : decide (0 ≤ x14_1) = true := decide_eq_true c16
      clear c16
      by_cases c17 : x14_1 < (a0_0.size : Int)
      rotate_left
      · rw [if_neg c17] at H
        exact absurd H (by simp)
      rw [if_pos c17] at H
      have c17b0 : decide (x14_1 < (a0_0.size : Int)) = true := decide_eq_true c17
      clear c17
      obtain ⟨ji19, hji19⟩ : ∃ j_ : Int, (wrap64 (7 * x14_1)) = j_ := ⟨_, rfl⟩
      replace H : (if 0 ≤ (ji19) then (if (bt a0_0 x14_1) ≥ 128 then (pack_Reader_Vary.l0 k1 (Go.bits .or .u64 x4_1 (shl .u64 (IntKind.u64.wrap (Go.bits .and .u8 (bt a0_0 x14_1) 127)) (ji19))) ji10 (wrap64 (x14_1 + 1)) a0_0 false) else (if 0 ≤ (wrap64 (x14_1 + 1)) then (if (wrap64 (x14_1 + 1)) ≤ (a0_0.size : Int) then ((pack_Vary.f k1 (Go.bits .or .u64 x4_1 (shl .u64 (IntKind.u64.wrap (Go.bits .and .u8 (bt a0_0 x14_1) 127)) (ji19)))).bind fun t115 => (if (a0_0.extract 0 ((wrap64 (x14_1 + 1)) : Int).toNat).toList = t115.toList then (some (Go.bits .or .u64 x4_1 (shl .u64 (IntKind.u64.wrap (Go.bits .and .u8 (bt a0_0 x14_1) 127)) (ji19)), a0_0.extract ((wrap64 (x14_1 + 1)) : Int).toNat a0_0.size, false)) else ((pack_bad.f).bind fun bt116 => (some (0, bt116.1, bt116.2))))) else (none)) else (none))) else (none)) = some (r1, r2, r3) := by first | (rw [hji19] at H; exact H) | (simp only [hji19] at H ⊢; exact H)
      have hji19w : (IntKind.i64.wrap (7 * x14_1)) = ji19 := (i64_w _).trans hji19
      by_cases c20 : 0 ≤ (ji19)
      rotate_left
      · rw [if_neg c20] at H
        exact absurd H (by simp)
      rw [if_pos c20] at H
      have c20b0 := eq_true c20
      have c20b1 : decide (0 ≤ (ji19)) = true := decide_eq_true c20
      clear c20
      obtain ⟨ji21, hji21⟩ : ∃ j_ : Int, (shl .u64 (IntKind.u64.wrap (Go.bits .and .u8 (bt a0_0 x14_1) 127)) (ji19)) = j_ := ⟨_, rfl⟩
      replace H : (if (bt a0_0 x14_1) ≥ 128 then (pack_Reader_Vary.l0 k1 (Go.bits .or .u64 x4_1 (ji21)) ji10 (wrap64 (x14_1 + 1)) a0_0 false) else (if 0 ≤ (wrap64 (x14_1 + 1)) then (if (wrap64 (x14_1 + 1)) ≤ (a0_0.size : Int) then ((pack_Vary.f k1 (Go.bits .or .u64 x4_1 (ji21))).bind fun t115 => (if (a0_0.extract 0 ((wrap64 (x14_1 + 1)) : Int).toNat).toList = t115.toList then (some (Go.bits .or .u64 x4_1 (ji21), a0_0.extract ((wrap64 (x14_1 + 1)) : Int).toNat a0_0.size, false)) else ((pack_bad.f).bind fun bt116 => (some (0, bt116.1, bt116.2))))) else (none)) else (none))) = some (r1, r2, r3) := by first | (rw [hji21] at H; exact H) | (simp only [hji21] at H ⊢; exact H)
      have hji21_ : (IntKind.u64.wrap ((IntKind.u64.wrap (Go.bits .and .u8 (bt a0_0 x14_1) 127)) * 2 ^ min (ji19).toNat 64)) = ji21 := hji21
      have hji21z : (ji19) ≤ 64 → (IntKind.u64.wrap ((IntKind.u64.wrap (Go.bits .and .u8 (bt a0_0 x14_1) 127)) * 2 ^ (ji19).toNat)) = ji21 := shl_small hji21
      by_cases c22 : (bt a0_0 x14_1) ≥ 128
      · rw [if_pos c22] at H
        have c22b0 : decide (128 ≤ (bt a0_0 x14_1)) = true := decide_eq_true c22
        clear c22
        have H' := Aside0.mk H
        clear H
        have hnb23 := NB109_110.out
        have hnc23 := NB110_109.out
        obtain ⟨hcz24_0, hcz24_1, hfz24_0, hfz24_1⟩ := Ke2_ BK109.out
        have p18 : 0 ≤ (x14_1 : Int) := of_decide_eq_true (by first | (with_reducible assumption) | assumption)
        have q18 : x14_1 < (a0_0.size : Int) := of_decide_eq_true (by first | (with_reducible assumption) | assumption)
        have hx18 := bt_at a0_0 x14_1
        replace p18 := eq_true p18
        replace q18 := eq_true q18
        go_wp2
        go_roundg k1
        case measure => have := HK1.out; omega
        case rel => exact ⟨(Go.bits .or .u64 x4_1 (ji21)), (wrap64 (x14_1 + 1)), (x111000_1), (x111001_1), (by first | rfl | (simp; done) | (simp only [← hji21] <;> (first | rfl | simp)) | (simp [*]; done)), (by first | rfl | (simp; done) | (simp [*]; done)), H', ⟨by have := HK1.out; omega⟩, ⟨by exact Kq_ BK109⟩, ⟨by exact Kq_ BK110⟩, ⟨K2a_ HB GE109 GE110⟩⟩
      rw [if_neg c22] at H
      have c22b0 : decide (128 ≤ (bt a0_0 x14_1)) = false := decide_eq_false c22
      clear c22
      obtain ⟨ji25, hji25⟩ : ∃ j_ : Int, (wrap64 (x14_1 + 1)) = j_ := ⟨_, rfl⟩
      replace H : (if 0 ≤ (ji25) then (if (ji25) ≤ (a0_0.size : Int) then ((pack_Vary.f k1 (Go.bits .or .u64 x4_1 (ji21))).bind fun t115 => (if (a0_0.extract 0 ((ji25) : Int).toNat).toList = t115.toList then (some (Go.bits .or .u64 x4_1 (ji21), a0_0.extract ((ji25) : Int).toNat a0_0.size, false)) else ((pack_bad.f).bind fun bt116 => (some (0, bt116.1, bt116.2))))) else (none)) else (none)) = some (r1, r2, r3) := by first | (rw [hji25] at H; exact H) | (simp only [hji25] at H ⊢; exact H)
      have hji25w : (IntKind.i64.wrap (x14_1 + 1)) = ji25 := (i64_w _).trans hji25
      by_cases c26 : 0 ≤ (ji25)
      rotate_left
      · rw [if_neg c26] at H
        exact absurd H (by simp)
      rw [if_pos c26] at H
      have c26b0 := eq_true c26
      have c26b1 : decide (0 ≤ (ji25)) = true := decide_eq_true c26
      clear c26
      by_cases c27 : (ji25) ≤ (a0_0.size : Int)
      rotate_left
      · rw [if_neg c27] at H
        exact absurd H (by simp)
      rw [if_pos c27] at H
      have c27b0 := eq_true c27
      have c27b1 : decide ((ji25) ≤ (a0_0.size : Int)) = true := decide_eq_true c27
      clear c27
      replace H := Option.bind_eq_some_iff.mp H
      obtain ⟨t115, A280, H⟩ := H
      replace H : (if (a0_0.extract 0 ((ji25) : Int).toNat).toList = t115.toList then (some (Go.bits .or .u64 x4_1 (ji21), a0_0.extract ((ji25) : Int).toNat a0_0.size, false)) else ((pack_bad.f).bind fun bt116 => (some (0, bt116.1, bt116.2)))) = some (r1, r2, r3) := H
      have A28 := Aside0.mk A280
      clear A280
      by_cases c29 : (a0_0.extract 0 ((ji25) : Int).toNat).toList = t115.toList
      rotate_left
      · rw [if_neg c29] at H
        have c29b0 : ((a0_0.extract 0 ((ji25) : Int).toNat).toList == t115.toList) = false := beq_eq_false_iff_ne.mpr c29
        have c29b1 : ((a0_0.extract 0 ((ji25) : Int).toNat).toList != t115.toList) = true := bne_iff_ne.mpr c29
        replace H := Option.bind_eq_some_iff.mp H
        obtain ⟨⟨t116, t117⟩, A390, H⟩ := H
        replace H : (some (0, t116, t117)) = some (r1, r2, r3) := H
        have A39 := Aside0.mk A390
        clear A390
        simp only [Option.some.injEq, Prod.mk.injEq] at H
        obtain ⟨rfl, rfl, rfl⟩ := H
        have hnb40 := NB109_110.out
        have hnc40 := NB110_109.out
        obtain ⟨hcz41_0, hcz41_1, hfz41_0, hfz41_1⟩ := Ke2_ BK109.out
        have p18 : 0 ≤ (x14_1 : Int) := of_decide_eq_true (by first | (with_reducible assumption) | assumption)
        have q18 : x14_1 < (a0_0.size : Int) := of_decide_eq_true (by first | (with_reducible assumption) | assumption)
        have hx18 := bt_at a0_0 x14_1
        replace p18 := eq_true p18
        replace q18 := eq_true q18
        try go_wp2
        replace BK109 := Kd_ BK109
        replace BK110 := Kd_ BK110
        replace HB := Aside0.mk (below_drew1 HB.out)
        refine start_ (n := 8) (S := fun w' => w'.cell? ⟨gb109, 0, none⟩ = some (.string a0_0) ∧ w'.cell? ⟨gb109, 1, none⟩ = some (.bool false)) (ds := []) #[false, false, false, false, false, false, false, false] (by kernel_rfl) rfl rfl (Kc2_ BK109.out) (fun hHeld => ?_); refine with_tabW pack_Reader_Vary.tab10 pack_Reader_Vary.bits10 (fun HT_ HW_ => ?_)
        generalize wr.drew = w42 at BK109 BK110 HB hHeld ⊢
        refine Kp_ 0 31 #[true, false, false, false, false, false, false, false] (any_of HT_.out (by kernel_rfl)) ?_
        refine Kp_ 2 33 #[true, false, true, false, false, false, false, false] (any_of HT_.out (by kernel_rfl)) ?_
        refine Kp_ 3 34 #[true, false, true, true, false, false, false, false] (any_of HT_.out (by kernel_rfl)) ?_
        refine Kp_ 5 36 #[true, false, true, true, false, true, false, false] (any_of HT_.out (by kernel_rfl)) ?_
        refine Ko_ 1 32 #[true, true, true, true, false, true, false, false] (take_ofW HT_.out HW_.out (by kernel_rfl)) hHeld ?_
        refine Kp_ 4 35 #[true, true, true, true, true, true, false, false] (any_of HT_.out (by kernel_rfl)) ?_
        refine one_ (i := 6) (N := some 37) #[true, true, true, true, true, true, true, false] rfl rfl (one_of HT_.out (by kernel_rfl)) (by decide) (fun K hK => ?_)
        refine goes_ Try.func23 (by kernel_rfl) rfl #[.int .u64 (Go.bits .or .u64 x4_1 (ji21))] (by rfl) rfl rfl (by (try simp only [List.map_toArray, List.map_cons, List.map_nil]); first | done | (simp only [hji21]; rfl) | rfl | (simp only [List.length_drop, List.length_take]; rfl)) ?_
        with_reducible refine (pack_Vary.calls k1 (Go.bits .or .u64 x4_1 (ji21)) t115 _ A28.out).mono ?_
        rintro e w43 ⟨rfl, hb⟩
        refine ⟨_, rfl, ?_⟩
        replace BK109 := Kb_ BK109 hb
        replace BK110 := Kb_ BK110 hb
        replace HB := Ks_ HB hb
        (try clear hb)
        (try clear hb2)
        (try clear hk)
        (try clear hi)
        refine hK.out _ _ (Kc2_ BK109.out) (fun hHeld => ?_)
        clear hK K
        refine Kn_ 37 ?_
        refine Kp_ 7 38 #[true, true, true, true, true, true, true, true] (any_of HT_.out (by kernel_rfl)) ?_
        refine done_ (done_of HT_.out (by kernel_rfl)) ?_
        try go_wp2_with (first | ((with_reducible refine gate_callee (f := 27) rfl ?_); refine Kg_ (some 47) rfl rfl Try.func27 (by kernel_rfl) rfl #[] rfl ?_; (with_reducible refine (pack_bad.calls  t116 t117 _ A39.out).mono ?_); rintro e w44 ⟨rfl, hb⟩; refine ⟨_, rfl, ?_⟩; replace BK109 := Kb_ BK109 hb; replace BK110 := Kb_ BK110 hb; replace HB := Ks_ HB hb; (try clear hb); (try clear hb2); (try clear hk); (try clear hi); obtain ⟨hcz45_0, hcz45_1, hfz45_0, hfz45_1⟩ := Ke2_ BK110.out))
        refine bodyPost_ret (results_tc rfl _ _ gb110 35 #[.string t116, .bool t117] (0, 0) _ rfl (by refine Kv_ ?_; refine blk_put (cs := #[.string t116, .bool x111001_1]) ?_ 1 _ rfl; refine Kv_ ?_; refine blk_put (cs := #[.string x111000_1, .bool x111001_1]) ?_ 0 _ rfl; exact Kq_ BK110) Try.underlying35 rfl (by kernel_rfl)) rfl ?_
        exact ⟨by first | rfl | (simp [errW_none, errW_some] <;> rfl) | (simp only [← hji10, ← hji19, ← hji21, ← hji25]; first | rfl | (simp [errW_none, errW_some] <;> rfl)) | (simp [*, errW_none, errW_some] <;> rfl), K2a_ HB GE109 GE110⟩
      rw [if_pos c29] at H
      have c29b0 : ((a0_0.extract 0 ((ji25) : Int).toNat).toList == t115.toList) = true := beq_iff_eq.mpr c29
      have c29b1 : ((a0_0.extract 0 ((ji25) : Int).toNat).toList != t115.toList) = false := bne_eq_false_iff_eq.mpr c29
      clear c29
      have c30b0 := eq_true (of_decide_eq_true (by first | (with_reducible assumption) | assumption) : 0 ≤ (ji25))
      have c31b0 := eq_true (of_decide_eq_true (by first | (with_reducible assumption) | assumption) : (ji25) ≤ (a0_0.size : Int))
      simp only [Option.some.injEq, Prod.mk.injEq] at H
      obtain ⟨rfl, rfl, rfl⟩ := H
      have hnb32 := NB109_110.out
      have hnc32 := NB110_109.out
      obtain ⟨hcz33_0, hcz33_1, hfz33_0, hfz33_1⟩ := Ke2_ BK109.out
      have p18 : 0 ≤ (x14_1 : Int) := of_decide_eq_true (by first | (with_reducible assumption) | assumption)
      have q18 : x14_1 < (a0_0.size : Int) := of_decide_eq_true (by first | (with_reducible assumption) | assumption)
      have hx18 := bt_at a0_0 x14_1
      replace p18 := eq_true p18
      replace q18 := eq_true q18
      try go_wp2
      replace BK109 := Kd_ BK109
      replace BK110 := Kd_ BK110
      replace HB := Aside0.mk (below_drew1 HB.out)
      refine start_ (n := 8) (S := fun w' => w'.cell? ⟨gb109, 0, none⟩ = some (.string a0_0) ∧ w'.cell? ⟨gb109, 1, none⟩ = some (.bool false)) (ds := []) #[false, false, false, false, false, false, false, false] (by kernel_rfl) rfl rfl (Kc2_ BK109.out) (fun hHeld => ?_); refine with_tabW pack_Reader_Vary.tab10 pack_Reader_Vary.bits10 (fun HT_ HW_ => ?_)
      generalize wr.drew = w34 at BK109 BK110 HB hHeld ⊢
      refine Kp_ 0 31 #[true, false, false, false, false, false, false, false] (any_of HT_.out (by kernel_rfl)) ?_
      refine Kp_ 2 33 #[true, false, true, false, false, false, false, false] (any_of HT_.out (by kernel_rfl)) ?_
      refine Kp_ 3 34 #[true, false, true, true, false, false, false, false] (any_of HT_.out (by kernel_rfl)) ?_
      refine Kp_ 5 36 #[true, false, true, true, false, true, false, false] (any_of HT_.out (by kernel_rfl)) ?_
      refine Ko_ 1 32 #[true, true, true, true, false, true, false, false] (take_ofW HT_.out HW_.out (by kernel_rfl)) hHeld ?_
      refine Kp_ 4 35 #[true, true, true, true, true, true, false, false] (any_of HT_.out (by kernel_rfl)) ?_
      refine one_ (i := 6) (N := some 37) #[true, true, true, true, true, true, true, false] rfl rfl (one_of HT_.out (by kernel_rfl)) (by decide) (fun K hK => ?_)
      refine goes_ Try.func23 (by kernel_rfl) rfl #[.int .u64 (Go.bits .or .u64 x4_1 (ji21))] (by rfl) rfl rfl (by (try simp only [List.map_toArray, List.map_cons, List.map_nil]); first | done | (simp only [hji21]; rfl) | rfl | (simp only [List.length_drop, List.length_take]; rfl)) ?_
      with_reducible refine (pack_Vary.calls k1 (Go.bits .or .u64 x4_1 (ji21)) t115 _ A28.out).mono ?_
      rintro e w35 ⟨rfl, hb⟩
      refine ⟨_, rfl, ?_⟩
      replace BK109 := Kb_ BK109 hb
      replace BK110 := Kb_ BK110 hb
      replace HB := Ks_ HB hb
      (try clear hb)
      (try clear hb2)
      (try clear hk)
      (try clear hi)
      refine hK.out _ _ (Kc2_ BK109.out) (fun hHeld => ?_)
      clear hK K
      refine Kn_ 37 ?_
      refine Kp_ 7 38 #[true, true, true, true, true, true, true, true] (any_of HT_.out (by kernel_rfl)) ?_
      refine done_ (done_of HT_.out (by kernel_rfl)) ?_
      try go_wp2
      replace BK109 := Kd_ BK109
      replace BK110 := Kd_ BK110
      replace HB := Aside0.mk (below_drew1 HB.out)
      refine start_ (n := 9) (S := fun w' => w'.cell? ⟨gb109, 0, none⟩ = some (.string a0_0) ∧ w'.cell? ⟨gb109, 1, none⟩ = some (.bool false)) (ds := []) #[false, false, false, false, false, false, false, false, false] (by kernel_rfl) rfl rfl (Kc2_ BK109.out) (fun hHeld => ?_); refine with_tabW pack_Reader_Vary.tab11 pack_Reader_Vary.bits11 (fun HT_ HW_ => ?_)
      generalize w35.drew = w36 at BK109 BK110 HB hHeld ⊢
      refine Kp_ 0 39 #[true, false, false, false, false, false, false, false, false] (any_of HT_.out (by kernel_rfl)) ?_
      refine Kp_ 1 40 #[true, true, false, false, false, false, false, false, false] (any_of HT_.out (by kernel_rfl)) ?_
      refine Kp_ 3 42 #[true, true, false, true, false, false, false, false, false] (any_of HT_.out (by kernel_rfl)) ?_
      refine Kp_ 4 43 #[true, true, false, true, true, false, false, false, false] (any_of HT_.out (by kernel_rfl)) ?_
      refine Kp_ 7 2 #[true, true, false, true, true, false, false, true, false] (any_of HT_.out (by kernel_rfl)) ?_
      refine Ko_ 2 41 #[true, true, true, true, true, false, false, true, false] (take_ofW HT_.out HW_.out (by kernel_rfl)) hHeld ?_
      refine Kp_ 5 44 #[true, true, true, true, true, true, false, true, false] (any_of HT_.out (by kernel_rfl)) ?_
      refine Kp_ 6 45 #[true, true, true, true, true, true, true, true, false] (any_of HT_.out (by kernel_rfl)) ?_
      refine one_ (i := 8) (N := none) #[true, true, true, true, true, true, true, true, true] rfl rfl (one_of HT_.out (by kernel_rfl)) (by decide) (fun K hK => ?_)
      have hs37 : w36.cell? ⟨gb110, 0, none⟩ = some (.string x111000_1) := (blk_cell BK110.out 0).trans rfl
      have hfs37 := blk_frozen BK110.out 0
      have hns37_0 := NB109_110.out
      have hms37_0 := NB110_109.out
      have hs38 : w36.cell? ⟨gb110, 1, none⟩ = some (.bool x111001_1) := (blk_cell BK110.out 1).trans rfl
      have hfs38 := blk_frozen BK110.out 1
      have hns38_0 := NB109_110.out
      have hms38_0 := NB110_109.out
      refine skip_ (w1 := ?_) (by rfl) rfl ?_ ?_
      rotate_left
      · go_simp
        rfl
      refine hK.out _ _ ⟨(Kj_ NB109_110 ((Kj_ NB109_110 (hHeld.1)))), (Kj_ NB109_110 ((Kj_ NB109_110 (hHeld.2))))⟩ (fun hHeld => ?_)
      clear hK K
      refine done_ (done_of HT_.out (by kernel_rfl)) ?_
      try go_wp2
      refine bodyPost_ret (results_tc rfl _ _ gb110 35 #[.string (a0_0.extract ((ji25) : Int).toNat a0_0.size), .bool false] (0, 0) _ rfl (by refine Kv_ ?_; refine blk_put (cs := #[.string (a0_0.extract ((ji25) : Int).toNat a0_0.size), .bool x111001_1]) ?_ 1 _ rfl; refine Kv_ ?_; refine blk_put (cs := #[.string x111000_1, .bool x111001_1]) ?_ 0 _ rfl; exact Kq_ BK110) Try.underlying35 rfl (by kernel_rfl)) rfl ?_
      exact ⟨by first | rfl | (simp [errW_none, errW_some] <;> rfl) | (simp only [← hji10, ← hji19, ← hji21, ← hji25]; first | rfl | (simp [errW_none, errW_some] <;> rfl)) | (simp [*, errW_none, errW_some] <;> rfl), K2a_ HB GE109 GE110⟩
/-! ### pack_Reader_Text: function 14 -/
def pack_Reader_Text.f (k : Nat) (a0_0 : ByteArray) (a0_1 : Bool) (a1 : Int) : Option (ByteArray × ByteArray × Bool) := (pack_Reader_Vary.f k a0_0 a0_1).bind fun bt120 => (if bt120.2.2 = true then ((pack_bad.f).bind fun bt123 => (some ((⟨#[]⟩ : ByteArray), bt123.1, bt123.2))) else (if a1 < 0 then ((pack_bad.f).bind fun bt125 => (some ((⟨#[]⟩ : ByteArray), bt125.1, bt125.2))) else (if bt120.1 > (IntKind.u64.wrap (mn a1 (bt120.2.1.size : Int))) then ((pack_bad.f).bind fun bt127 => (some ((⟨#[]⟩ : ByteArray), bt127.1, bt127.2))) else (if 0 ≤ bt120.1 then (if bt120.1 ≤ (bt120.2.1.size : Int) then (some (bt120.2.1.extract 0 (bt120.1 : Int).toNat, bt120.2.1.extract (bt120.1 : Int).toNat bt120.2.1.size, false)) else (none)) else (none)))))
theorem pack_Reader_Text.mono : ∀ a0 a1 a2 k, LeO (pack_Reader_Text.f k a0 a1 a2) (pack_Reader_Text.f (k + 1) a0 a1 a2) := by
  intro a0 a1 a2 k
  unfold pack_Reader_Text.f
  repeat' first
      | (with_reducible exact pack_Reader_Vary.mono _ _ _)
      | (with_reducible exact LeO.refl _)
      | (with_reducible exact LeO.none _)
      | (with_reducible refine LeO.ite ?_ ?_)
      | (with_reducible refine LeO.bind ?_ (fun _ => ?_))
      | exact pack_Reader_Vary.mono _ _ _
      | exact LeO.none _
      | refine LeO.ite ?_ ?_
      | refine LeO.bind ?_ (fun _ => ?_)
def pack_Reader_Text.T4 : Bool × List (List Nat × List Nat) := (true, [([], []), ([0], [0]), ([], []), ([1, 2], [1, 2]), ([], []), ([4], [4]), ([], []), ([5, 6], [5, 6]), ([7], [7]), ([3, 0, 1, 2, 3], [3]), ([8, 9, 0, 1, 2, 3, 4, 5, 6, 7, 8, 9], [8])])
def pack_Reader_Text.B4 : List Nat := [0, 1, 0, 7, 0, 16, 0, 112, 240, 15, 1023]
theorem pack_Reader_Text.tab4 : rtab .any (opsOf Try.f14 4) = pack_Reader_Text.T4 := by kernel_rfl
theorem pack_Reader_Text.bits4 : waitsOk pack_Reader_Text.T4.2 pack_Reader_Text.B4 = true := by kernel_rfl
set_option maxHeartbeats 8000000 in
set_option maxRecDepth 100000 in
theorem pack_Reader_Text.calls (k : Nat) (a0_0 : ByteArray) (a0_1 : Bool) (a1 : Int) (r1 : ByteArray) (r2 : ByteArray) (r3 : Bool) (w : World) (h : pack_Reader_Text.f k a0_0 a0_1 a1 = some (r1, r2, r3)) :
    Calls Try.prog 14 #[.agg #[.string a0_0, .bool a0_1], .int .i64 a1] w fun e w' => e = .returned (.tuple #[.string r1, .agg #[.string r2, .bool r3]]) ∧ Below w.heap.size w w' := by
  have hu35 := Try.underlying35
  have HB := Aside0.mk (Below.refl w.heap.size w)
  have H : ((pack_Reader_Vary.f k a0_0 a0_1).bind fun bt120 => (if bt120.2.2 = true then ((pack_bad.f).bind fun bt123 => (some ((⟨#[]⟩ : ByteArray), bt123.1, bt123.2))) else (if a1 < 0 then ((pack_bad.f).bind fun bt125 => (some ((⟨#[]⟩ : ByteArray), bt125.1, bt125.2))) else (if bt120.1 > (IntKind.u64.wrap (mn a1 (bt120.2.1.size : Int))) then ((pack_bad.f).bind fun bt127 => (some ((⟨#[]⟩ : ByteArray), bt127.1, bt127.2))) else (if 0 ≤ bt120.1 then (if bt120.1 ≤ (bt120.2.1.size : Int) then (some (bt120.2.1.extract 0 (bt120.1 : Int).toNat, bt120.2.1.extract (bt120.1 : Int).toNat bt120.2.1.size, false)) else (none)) else (none)))))) = some (r1, r2, r3) := h
  clear h
  replace H := Option.bind_eq_some_iff.mp H
  obtain ⟨⟨t120, t121, t122⟩, A30, H⟩ := H
  replace H : (if t122 = true then ((pack_bad.f).bind fun bt123 => (some ((⟨#[]⟩ : ByteArray), bt123.1, bt123.2))) else (if a1 < 0 then ((pack_bad.f).bind fun bt125 => (some ((⟨#[]⟩ : ByteArray), bt125.1, bt125.2))) else (if t120 > (IntKind.u64.wrap (mn a1 (t121.size : Int))) then ((pack_bad.f).bind fun bt127 => (some ((⟨#[]⟩ : ByteArray), bt127.1, bt127.2))) else (if 0 ≤ t120 then (if t120 ≤ (t121.size : Int) then (some (t121.extract 0 (t120 : Int).toNat, t121.extract (t120 : Int).toNat t121.size, false)) else (none)) else (none))))) = some (r1, r2, r3) := H
  have A3 := Aside0.mk A30
  clear A30
  by_cases c4 : t122 = true
  · subst c4
    have H1 : ((pack_bad.f).bind fun bt123 => (some ((⟨#[]⟩ : ByteArray), bt123.1, bt123.2))) = some (r1, r2, r3) := by rw [if_pos rfl] at H; exact H
    clear H
    have H := H1
    clear H1
    replace H := Option.bind_eq_some_iff.mp H
    obtain ⟨⟨t123, t124⟩, A50, H⟩ := H
    replace H : (some ((⟨#[]⟩ : ByteArray), t123, t124)) = some (r1, r2, r3) := H
    have A5 := Aside0.mk A50
    clear A50
    simp only [Option.some.injEq, Prod.mk.injEq] at H
    obtain ⟨rfl, rfl, rfl⟩ := H
    go_enter Try.func14, Try.ntmps14
    go_wp2_with (first | ((with_reducible refine gate_dst (N := 2) rfl ?_); refine Ka_ 2 #[.string a0_0, .bool a0_1] 35 ?_; intro gb118 hg w6 hbox hb; have BK118 := Aside0.mk (hbox); have GW118 := Kw_ HB hg; have GE118 := GW118; replace HB := Ks_ HB hb; clear hb hbox hg) | ((with_reducible refine gate_dst (N := 5) rfl ?_); refine Ka_ 5 #[.string (⟨#[]⟩ : ByteArray), .bool false] 35 ?_; intro gb119 hg w7 hbox hb; have BK119 := Aside0.mk (hbox); have GW119 := Kw_ HB hg; have GE119 := GW119; have NB118_119 := Kl_ BK118 hg; have NB119_118 := Kr_ BK118 hg; replace BK118 := Kb_ BK118 hb; replace HB := Ks_ HB hb; clear hb hbox hg; have hnb8 := NB118_119.out; have hnc8 := NB119_118.out; obtain ⟨hcz9_0, hcz9_1, hfz9_0, hfz9_1⟩ := Ke2_ BK118.out) | ((with_reducible refine gate_callee (f := 17) rfl ?_); refine Kg_ (some 9) rfl rfl Try.func17 (by kernel_rfl) rfl #[.agg #[.string a0_0, .bool a0_1]] rfl ?_; (with_reducible refine (pack_Reader_Vary.calls k a0_0 a0_1 t120 t121 true _ A3.out).mono ?_); rintro e w10 ⟨rfl, hb⟩; refine ⟨_, rfl, ?_⟩; replace BK118 := Kb_ BK118 hb; replace BK119 := Kb_ BK119 hb; replace HB := Ks_ HB hb; (try clear hb); (try clear hb2); (try clear hk); (try clear hi); obtain ⟨hcz11_0, hcz11_1, hfz11_0, hfz11_1⟩ := Ke2_ BK118.out) | ((with_reducible refine gate_callee (f := 27) rfl ?_); refine Kg_ (some 28) rfl rfl Try.func27 (by kernel_rfl) rfl #[] rfl ?_; (with_reducible refine (pack_bad.calls  t123 t124 _ A5.out).mono ?_); rintro e w12 ⟨rfl, hb⟩; refine ⟨_, rfl, ?_⟩; replace BK118 := Aside0.mk (blk_below (g := gb118) (o := .cells #[.string t121, .bool true] 35 (0, 0)) (by refine Kv_ ?_; refine blk_put (cs := #[.string t121, .bool a0_1]) ?_ 1 _ rfl; refine Kv_ ?_; refine blk_put (cs := #[.string a0_0, .bool a0_1]) ?_ 0 _ rfl; exact Kq_ BK118) hb); replace BK119 := Kf_ BK119 NB119_118 hb; replace HB := Kt_ HB GE118 hb; (try clear hb); (try clear hb2); (try clear hk); (try clear hi); obtain ⟨hcz13_0, hcz13_1, hfz13_0, hfz13_1⟩ := Ke2_ BK119.out))
    refine bodyPost_ret (results_tc rfl _ _ gb119 35 #[.string t123, .bool t124] (0, 0) _ rfl (by refine Kv_ ?_; refine blk_put (cs := #[.string t123, .bool false]) ?_ 1 _ rfl; refine Kv_ ?_; refine blk_put (cs := #[.string (⟨#[]⟩ : ByteArray), .bool false]) ?_ 0 _ rfl; exact Kq_ BK119) Try.underlying35 rfl (by kernel_rfl)) rfl ?_
    exact ⟨Kh_, K2a_ HB GE118 GE119⟩
  replace c4 := Bool.eq_false_iff.mpr c4
  subst c4
  have H1 : (if a1 < 0 then ((pack_bad.f).bind fun bt125 => (some ((⟨#[]⟩ : ByteArray), bt125.1, bt125.2))) else (if t120 > (IntKind.u64.wrap (mn a1 (t121.size : Int))) then ((pack_bad.f).bind fun bt127 => (some ((⟨#[]⟩ : ByteArray), bt127.1, bt127.2))) else (if 0 ≤ t120 then (if t120 ≤ (t121.size : Int) then (some (t121.extract 0 (t120 : Int).toNat, t121.extract (t120 : Int).toNat t121.size, false)) else (none)) else (none)))) = some (r1, r2, r3) := by rw [if_neg (show ¬ (false = true) by decide)] at H; exact H
  clear H
  have H := H1
  clear H1
  by_cases c14 : a1 < 0
  · rw [if_pos c14] at H
    have c14b0 : decide (a1 < 0) = true := decide_eq_true c14
    clear c14
    replace H := Option.bind_eq_some_iff.mp H
    obtain ⟨⟨t125, t126⟩, A150, H⟩ := H
    replace H : (some ((⟨#[]⟩ : ByteArray), t125, t126)) = some (r1, r2, r3) := H
    have A15 := Aside0.mk A150
    clear A150
    simp only [Option.some.injEq, Prod.mk.injEq] at H
    obtain ⟨rfl, rfl, rfl⟩ := H
    go_enter Try.func14, Try.ntmps14
    go_wp2_with (first | ((with_reducible refine gate_dst (N := 2) rfl ?_); refine Ka_ 2 #[.string a0_0, .bool a0_1] 35 ?_; intro gb118 hg w16 hbox hb; have BK118 := Aside0.mk (hbox); have GW118 := Kw_ HB hg; have GE118 := GW118; replace HB := Ks_ HB hb; clear hb hbox hg) | ((with_reducible refine gate_dst (N := 5) rfl ?_); refine Ka_ 5 #[.string (⟨#[]⟩ : ByteArray), .bool false] 35 ?_; intro gb119 hg w17 hbox hb; have BK119 := Aside0.mk (hbox); have GW119 := Kw_ HB hg; have GE119 := GW119; have NB118_119 := Kl_ BK118 hg; have NB119_118 := Kr_ BK118 hg; replace BK118 := Kb_ BK118 hb; replace HB := Ks_ HB hb; clear hb hbox hg; have hnb18 := NB118_119.out; have hnc18 := NB119_118.out; obtain ⟨hcz19_0, hcz19_1, hfz19_0, hfz19_1⟩ := Ke2_ BK118.out) | ((with_reducible refine gate_callee (f := 17) rfl ?_); refine Kg_ (some 9) rfl rfl Try.func17 (by kernel_rfl) rfl #[.agg #[.string a0_0, .bool a0_1]] rfl ?_; (with_reducible refine (pack_Reader_Vary.calls k a0_0 a0_1 t120 t121 false _ A3.out).mono ?_); rintro e w20 ⟨rfl, hb⟩; refine ⟨_, rfl, ?_⟩; replace BK118 := Kb_ BK118 hb; replace BK119 := Kb_ BK119 hb; replace HB := Ks_ HB hb; (try clear hb); (try clear hb2); (try clear hk); (try clear hi); obtain ⟨hcz21_0, hcz21_1, hfz21_0, hfz21_1⟩ := Ke2_ BK118.out) | ((with_reducible refine gate_callee (f := 27) rfl ?_); refine Kg_ (some 28) rfl rfl Try.func27 (by kernel_rfl) rfl #[] rfl ?_; (with_reducible refine (pack_bad.calls  t125 t126 _ A15.out).mono ?_); rintro e w22 ⟨rfl, hb⟩; refine ⟨_, rfl, ?_⟩; replace BK118 := Aside0.mk (blk_below (g := gb118) (o := .cells #[.string t121, .bool false] 35 (0, 0)) (by refine Kv_ ?_; refine blk_put (cs := #[.string t121, .bool a0_1]) ?_ 1 _ rfl; refine Kv_ ?_; refine blk_put (cs := #[.string a0_0, .bool a0_1]) ?_ 0 _ rfl; exact Kq_ BK118) hb); replace BK119 := Kf_ BK119 NB119_118 hb; replace HB := Kt_ HB GE118 hb; (try clear hb); (try clear hb2); (try clear hk); (try clear hi); obtain ⟨hcz23_0, hcz23_1, hfz23_0, hfz23_1⟩ := Ke2_ BK119.out))
    refine bodyPost_ret (results_tc rfl _ _ gb119 35 #[.string t125, .bool t126] (0, 0) _ rfl (by refine Kv_ ?_; refine blk_put (cs := #[.string t125, .bool false]) ?_ 1 _ rfl; refine Kv_ ?_; refine blk_put (cs := #[.string (⟨#[]⟩ : ByteArray), .bool false]) ?_ 0 _ rfl; exact Kq_ BK119) Try.underlying35 rfl (by kernel_rfl)) rfl ?_
    exact ⟨Kh_, K2a_ HB GE118 GE119⟩
  rw [if_neg c14] at H
  have c14b0 : decide (a1 < 0) = false := decide_eq_false c14
  clear c14
  obtain ⟨ji24, hji24⟩ : ∃ j_ : Int, (mn a1 (t121.size : Int)) = j_ := ⟨_, rfl⟩
  replace H : (if t120 > (IntKind.u64.wrap (ji24)) then ((pack_bad.f).bind fun bt127 => (some ((⟨#[]⟩ : ByteArray), bt127.1, bt127.2))) else (if 0 ≤ t120 then (if t120 ≤ (t121.size : Int) then (some (t121.extract 0 (t120 : Int).toNat, t121.extract (t120 : Int).toNat t121.size, false)) else (none)) else (none))) = some (r1, r2, r3) := by first | (rw [hji24] at H; exact H) | (simp only [hji24] at H ⊢; exact H)
  (try rw [hji24] at A3)
  have hji24_ : (if (t121.size : Int) < a1 then (t121.size : Int) else a1) = ji24 := hji24
  by_cases c25 : t120 > (IntKind.u64.wrap (ji24))
  · rw [if_pos c25] at H
    have c25b0 : decide ((IntKind.u64.wrap (ji24)) < t120) = true := decide_eq_true c25
    clear c25
    replace H := Option.bind_eq_some_iff.mp H
    obtain ⟨⟨t127, t128⟩, A260, H⟩ := H
    replace H : (some ((⟨#[]⟩ : ByteArray), t127, t128)) = some (r1, r2, r3) := H
    have A26 := Aside0.mk A260
    clear A260
    simp only [Option.some.injEq, Prod.mk.injEq] at H
    obtain ⟨rfl, rfl, rfl⟩ := H
    go_enter Try.func14, Try.ntmps14
    go_wp2_with (first | ((with_reducible refine gate_dst (N := 2) rfl ?_); refine Ka_ 2 #[.string a0_0, .bool a0_1] 35 ?_; intro gb118 hg w27 hbox hb; have BK118 := Aside0.mk (hbox); have GW118 := Kw_ HB hg; have GE118 := GW118; replace HB := Ks_ HB hb; clear hb hbox hg) | ((with_reducible refine gate_dst (N := 5) rfl ?_); refine Ka_ 5 #[.string (⟨#[]⟩ : ByteArray), .bool false] 35 ?_; intro gb119 hg w28 hbox hb; have BK119 := Aside0.mk (hbox); have GW119 := Kw_ HB hg; have GE119 := GW119; have NB118_119 := Kl_ BK118 hg; have NB119_118 := Kr_ BK118 hg; replace BK118 := Kb_ BK118 hb; replace HB := Ks_ HB hb; clear hb hbox hg; have hnb29 := NB118_119.out; have hnc29 := NB119_118.out; obtain ⟨hcz30_0, hcz30_1, hfz30_0, hfz30_1⟩ := Ke2_ BK118.out) | ((with_reducible refine gate_callee (f := 17) rfl ?_); refine Kg_ (some 9) rfl rfl Try.func17 (by kernel_rfl) rfl #[.agg #[.string a0_0, .bool a0_1]] rfl ?_; (with_reducible refine (pack_Reader_Vary.calls k a0_0 a0_1 t120 t121 false _ A3.out).mono ?_); rintro e w31 ⟨rfl, hb⟩; refine ⟨_, rfl, ?_⟩; replace BK118 := Kb_ BK118 hb; replace BK119 := Kb_ BK119 hb; replace HB := Ks_ HB hb; (try clear hb); (try clear hb2); (try clear hk); (try clear hi); obtain ⟨hcz32_0, hcz32_1, hfz32_0, hfz32_1⟩ := Ke2_ BK118.out) | ((with_reducible refine gate_callee (f := 27) rfl ?_); refine Kg_ (some 28) rfl rfl Try.func27 (by kernel_rfl) rfl #[] rfl ?_; (with_reducible refine (pack_bad.calls  t127 t128 _ A26.out).mono ?_); rintro e w33 ⟨rfl, hb⟩; refine ⟨_, rfl, ?_⟩; replace BK118 := Aside0.mk (blk_below (g := gb118) (o := .cells #[.string t121, .bool false] 35 (0, 0)) (by refine Kv_ ?_; refine blk_put (cs := #[.string t121, .bool a0_1]) ?_ 1 _ rfl; refine Kv_ ?_; refine blk_put (cs := #[.string a0_0, .bool a0_1]) ?_ 0 _ rfl; exact Kq_ BK118) hb); replace BK119 := Kf_ BK119 NB119_118 hb; replace HB := Kt_ HB GE118 hb; (try clear hb); (try clear hb2); (try clear hk); (try clear hi); obtain ⟨hcz34_0, hcz34_1, hfz34_0, hfz34_1⟩ := Ke2_ BK119.out))
    refine bodyPost_ret (results_tc rfl _ _ gb119 35 #[.string t127, .bool t128] (0, 0) _ rfl (by refine Kv_ ?_; refine blk_put (cs := #[.string t127, .bool false]) ?_ 1 _ rfl; refine Kv_ ?_; refine blk_put (cs := #[.string (⟨#[]⟩ : ByteArray), .bool false]) ?_ 0 _ rfl; exact Kq_ BK119) Try.underlying35 rfl (by kernel_rfl)) rfl ?_
    exact ⟨by first | rfl | (simp [errW_none, errW_some] <;> rfl) | (simp only [← hji24]; first | rfl | (simp [errW_none, errW_some] <;> rfl)) | (simp [*, errW_none, errW_some] <;> rfl), K2a_ HB GE118 GE119⟩
  rw [if_neg c25] at H
  have c25b0 : decide ((IntKind.u64.wrap (ji24)) < t120) = false := decide_eq_false c25
  clear c25
  by_cases c35 : 0 ≤ t120
  rotate_left
  · rw [if_neg c35] at H
    exact absurd H (by simp)
  rw [if_pos c35] at H
  have c35b0 := eq_true c35
  have c35b1 : decide (0 ≤ t120) = true := decide_eq_true c35
  clear c35
  by_cases c36 : t120 ≤ (t121.size : Int)
  rotate_left
  · rw [if_neg c36] at H
    exact absurd H (by simp)
  rw [if_pos c36] at H
  have c36b0 := eq_true c36
  have c36b1 : decide (t120 ≤ (t121.size : Int)) = true := decide_eq_true c36
  clear c36
  have c37b0 := eq_true (of_decide_eq_true (by first | (with_reducible assumption) | assumption) : 0 ≤ t120)
  have c38b0 := eq_true (of_decide_eq_true (by first | (with_reducible assumption) | assumption) : t120 ≤ (t121.size : Int))
  simp only [Option.some.injEq, Prod.mk.injEq] at H
  obtain ⟨rfl, rfl, rfl⟩ := H
  go_enter Try.func14, Try.ntmps14
  try go_wp2_with (first | ((with_reducible refine gate_dst (N := 2) rfl ?_); refine Ka_ 2 #[.string a0_0, .bool a0_1] 35 ?_; intro gb118 hg w39 hbox hb; have BK118 := Aside0.mk (hbox); have GW118 := Kw_ HB hg; have GE118 := GW118; replace HB := Ks_ HB hb; clear hb hbox hg) | ((with_reducible refine gate_dst (N := 5) rfl ?_); refine Ka_ 5 #[.string (⟨#[]⟩ : ByteArray), .bool false] 35 ?_; intro gb119 hg w40 hbox hb; have BK119 := Aside0.mk (hbox); have GW119 := Kw_ HB hg; have GE119 := GW119; have NB118_119 := Kl_ BK118 hg; have NB119_118 := Kr_ BK118 hg; replace BK118 := Kb_ BK118 hb; replace HB := Ks_ HB hb; clear hb hbox hg; have hnb41 := NB118_119.out; have hnc41 := NB119_118.out; obtain ⟨hcz42_0, hcz42_1, hfz42_0, hfz42_1⟩ := Ke2_ BK118.out) | ((with_reducible refine gate_callee (f := 17) rfl ?_); refine Kg_ (some 9) rfl rfl Try.func17 (by kernel_rfl) rfl #[.agg #[.string a0_0, .bool a0_1]] rfl ?_; (with_reducible refine (pack_Reader_Vary.calls k a0_0 a0_1 t120 t121 false _ A3.out).mono ?_); rintro e w43 ⟨rfl, hb⟩; refine ⟨_, rfl, ?_⟩; replace BK118 := Kb_ BK118 hb; replace BK119 := Kb_ BK119 hb; replace HB := Ks_ HB hb; (try clear hb); (try clear hb2); (try clear hk); (try clear hi); obtain ⟨hcz44_0, hcz44_1, hfz44_0, hfz44_1⟩ := Ke2_ BK118.out))
  have n0_ : Aside0 (((w43.setCell ⟨gb118, 0, none⟩ (.string t121)).setCell ⟨gb118, 1, none⟩ (.bool false)).heap[gb118]? = some (.cells #[.string t121, .bool false] 35 (0, 0))) := ⟨by refine Kv_ ?_; refine blk_put (cs := #[.string t121, .bool a0_1]) ?_ 1 _ rfl; refine Kv_ ?_; refine blk_put (cs := #[.string a0_0, .bool a0_1]) ?_ 0 _ rfl; exact Kq_ BK118⟩
  have n1_ : Aside0 (((w43.setCell ⟨gb118, 0, none⟩ (.string t121)).setCell ⟨gb118, 1, none⟩ (.bool false)).heap[gb119]? = some (.cells #[.string (⟨#[]⟩ : ByteArray), .bool false] 35 (0, 0))) := ⟨by exact K1b_ BK119 NB119_118⟩
  have n2_ : Aside0 (Below w.heap.size w ((w43.setCell ⟨gb118, 0, none⟩ (.string t121)).setCell ⟨gb118, 1, none⟩ (.bool false))) := ⟨K2a_ HB GE118 GE119⟩
  (try clear BK118)
  (try clear BK119)
  (try clear HB)
  generalize ((w43.setCell ⟨gb118, 0, none⟩ (.string t121)).setCell ⟨gb118, 1, none⟩ (.bool false)) = w45 at n0_ n1_ n2_ ⊢
  have BK118 := n0_
  have BK119 := n1_
  have HB := n2_
  clear n0_ n1_ n2_
  replace BK118 := Kd_ BK118
  replace BK119 := Kd_ BK119
  replace HB := Aside0.mk (below_drew1 HB.out)
  refine start_ (n := 11) (S := fun w' => w'.cell? ⟨gb118, 0, none⟩ = some (.string t121) ∧ w'.cell? ⟨gb118, 1, none⟩ = some (.bool false)) (ds := []) #[false, false, false, false, false, false, false, false, false, false, false] (by kernel_rfl) rfl rfl (Kc2_ BK118.out) (fun hHeld => ?_); refine with_tabW pack_Reader_Text.tab4 pack_Reader_Text.bits4 (fun HT_ HW_ => ?_)
  generalize w45.drew = w46 at BK118 BK119 HB hHeld ⊢
  refine Kp_ 0 29 #[true, false, false, false, false, false, false, false, false, false, false] (any_of HT_.out (by kernel_rfl)) ?_
  refine Kp_ 2 31 #[true, false, true, false, false, false, false, false, false, false, false] (any_of HT_.out (by kernel_rfl)) ?_
  refine Kp_ 4 33 #[true, false, true, false, true, false, false, false, false, false, false] (any_of HT_.out (by kernel_rfl)) ?_
  refine Kp_ 6 35 #[true, false, true, false, true, false, true, false, false, false, false] (any_of HT_.out (by kernel_rfl)) ?_
  refine Ko_ 1 30 #[true, true, true, false, true, false, true, false, false, false, false] (take_ofW HT_.out HW_.out (by kernel_rfl)) hHeld ?_
  refine Kp_ 3 32 #[true, true, true, true, true, false, true, false, false, false, false] (any_of HT_.out (by kernel_rfl)) ?_
  refine Kp_ 9 4 #[true, true, true, true, true, false, true, false, false, true, false] (any_of HT_.out (by kernel_rfl)) ?_
  refine Ko_ 5 34 #[true, true, true, true, true, true, true, false, false, true, false] (take_ofW HT_.out HW_.out (by kernel_rfl)) hHeld ?_
  refine Kp_ 7 36 #[true, true, true, true, true, true, true, true, false, true, false] (any_of HT_.out (by kernel_rfl)) ?_
  refine Kp_ 8 37 #[true, true, true, true, true, true, true, true, true, true, false] (any_of HT_.out (by kernel_rfl)) ?_
  refine one_ (i := 10) (N := none) #[true, true, true, true, true, true, true, true, true, true, true] rfl rfl (one_of HT_.out (by kernel_rfl)) (by decide) (fun K hK => ?_)
  have hs47 : w46.cell? ⟨gb119, 0, none⟩ = some (.string (⟨#[]⟩ : ByteArray)) := (blk_cell BK119.out 0).trans rfl
  have hfs47 := blk_frozen BK119.out 0
  have hns47_0 := NB118_119.out
  have hms47_0 := NB119_118.out
  have hs48 : w46.cell? ⟨gb119, 1, none⟩ = some (.bool false) := (blk_cell BK119.out 1).trans rfl
  have hfs48 := blk_frozen BK119.out 1
  have hns48_0 := NB118_119.out
  have hms48_0 := NB119_118.out
  refine skip_ (w1 := ?_) (by rfl) rfl ?_ ?_
  rotate_left
  · go_simp
    rfl
  refine hK.out _ _ ⟨(Kj_ NB118_119 ((Kj_ NB118_119 (hHeld.1)))), (Kj_ NB118_119 ((Kj_ NB118_119 (hHeld.2))))⟩ (fun hHeld => ?_)
  clear hK K
  refine done_ (done_of HT_.out (by kernel_rfl)) ?_
  try go_wp2
  refine bodyPost_ret (results_tc rfl _ _ gb119 35 #[.string (t121.extract (t120 : Int).toNat t121.size), .bool false] (0, 0) _ rfl (by refine Kv_ ?_; refine blk_put (cs := #[.string (t121.extract (t120 : Int).toNat t121.size), .bool false]) ?_ 1 _ rfl; refine Kv_ ?_; refine blk_put (cs := #[.string (⟨#[]⟩ : ByteArray), .bool false]) ?_ 0 _ rfl; exact Kq_ BK119) Try.underlying35 rfl (by kernel_rfl)) rfl ?_
  exact ⟨by first | rfl | (simp [errW_none, errW_some] <;> rfl) | (simp only [← hji24]; first | rfl | (simp [errW_none, errW_some] <;> rfl)) | (simp [*, errW_none, errW_some] <;> rfl), K2a_ HB GE118 GE119⟩
/-! ### pack_Reader_Number: function 15 -/
-- FOREIGN: ranges over []byte(s)
theorem pack_Reader_Number.bytesWorld_frozen (w : World) (e : TypeId) (s : ByteArray) (a : Addr) (ha : a.block < w.heap.size) : (Lib.bytesWorld w e s).frozen? a = w.frozen? a :=
  (bytes_below (Below.refl _ _) (Nat.le_refl _) e s).frozen ha
theorem pack_Reader_Number.bt_extract0 (s : ByteArray) (n k : Nat) (hk : k < n) (hs : n ≤ s.size) : bt (s.extract 0 n) k = bt s k := by
  unfold bt
  rw [dif_pos (by simp; omega), dif_pos (by simp; omega)]
  simp [ByteArray.getElem_extract]
def rnum (s : ByteArray) : Nat → Int
  | 0 => 0
  | k + 1 => Go.bits .or .u64 (IntKind.u64.wrap (rnum s k * 256)) (IntKind.u64.wrap (bt s k))
def pack_Reader_Number.f (a0_0 : ByteArray) (a0_1 : Bool) (a1 : Int) : Option (Int × ByteArray × Bool) :=
  if a0_0.size ≤ 9223372036854775807 then
    (if a0_1 = true then some (0, (⟨#[]⟩ : ByteArray), true) else if a1 < 1 then some (0, (⟨#[]⟩ : ByteArray), true) else if 8 < a1 then some (0, (⟨#[]⟩ : ByteArray), true)
      else if (a0_0.size : Int) < a1 then some (0, (⟨#[]⟩ : ByteArray), true) else some (rnum a0_0 a1.toNat, a0_0.extract a1.toNat a0_0.size, false))
  else none
theorem pack_Reader_Number.some_ (s : ByteArray) (n : Nat) (h1 : 1 ≤ n) (h8 : n ≤ 8) (hs : n ≤ s.size) (hm : s.size ≤ 9223372036854775807) (w : World) :
    Calls Try.prog 15 #[.agg #[.string s, .bool false], .int .i64 n] w fun e w' => e = .returned (.tuple #[.int .u64 (rnum s n), .agg #[.string (s.extract n s.size), .bool false]]) ∧ Below w.heap.size w w' := by
  have hcv := fun W t => Lib.run_convert_string_bytes (P := Try.prog) W 9 27 5 t Try.underlying9 Try.underlying27 Try.underlying5
  have b1 : decide ((n : Int) < 1) = false := by simp; omega
  have b2 : decide ((8 : Int) < (n : Int)) = false := by simp; omega
  have b3 : decide (s.size < n) = false := by simp; omega
  go_enter Try.func15, Try.ntmps15
  go_wp2
  obtain ⟨W, hW⟩ : ∃ W, W = Lib.bytesWorld ((w.alloc (Obj.cells #[Value.string s, Value.bool false] 35)).alloc (Obj.cells #[Value.string { data := #[] }, Value.bool false] 35)) 5 (s.extract 0 n) := ⟨_, rfl⟩
  have hbel : Below w.heap.size w W := by
    rw [hW]
    exact bytes_below (((Below.refl _ _).alloc (Nat.le_refl _) _).alloc (by simp) _) (by simp; omega) _ _
  have hsz : W.heap.size = w.heap.size + 3 := by rw [hW, Lib.bytesWorld_size]; simp
  have hc0 : W.cell? ⟨w.heap.size, 0, none⟩ = some (.string s) := by
    rw [hW, Lib.bytesWorld_old _ _ _ _ (by simp; omega)]; simp [go_sem]
  have hc2 : W.cell? ⟨w.heap.size + 1, 0, none⟩ = some (.string ⟨#[]⟩) := by
    rw [hW, Lib.bytesWorld_old _ _ _ _ (by simp)]; simp [go_sem]
  have hc3 : W.cell? ⟨w.heap.size + 1, 1, none⟩ = some (.bool false) := by
    rw [hW, Lib.bytesWorld_old _ _ _ _ (by simp)]; simp [go_sem]
  have hf2 : W.frozen? ⟨w.heap.size + 1, 0, none⟩ = false := by
    rw [hW, pack_Reader_Number.bytesWorld_frozen _ _ _ _ (by simp)]; simp [go_sem]
  have hf3 : W.frozen? ⟨w.heap.size + 1, 1, none⟩ = false := by
    rw [hW, pack_Reader_Number.bytesWorld_frozen _ _ _ _ (by simp)]; simp [go_sem]
  have hel : ∀ k : Nat, k < n → W.cell? ⟨w.heap.size + 1 + 1, k, none⟩ = some (.int .u8 (bt s k)) := by
    intro k hk
    obtain ⟨_, _, hr⟩ := bytes_reads ((w.alloc (Obj.cells #[Value.string s, Value.bool false] 35)).alloc (Obj.cells #[Value.string { data := #[] }, Value.bool false] 35)) 5 (s.extract 0 n) (by simp; omega)
    rw [← hW] at hr
    obtain ⟨ad, had, hr⟩ := hr (by simp; omega)
    have hr := hr k (by simp; omega)
    simp at had
    subst had
    rw [add_plain] at hr
    rw [hr]
    have e1 : (bytesOf (s.extract 0 n)).getD k 0 = bt (s.extract 0 n) k := rd_bytesOf (s.extract 0 n) k
    rw [e1, pack_Reader_Number.bt_extract0 _ _ _ hk hs]
  rw [← hW]
  clear hW hcv
  go_loop [32, 4] (fun i v => ∃ k : Nat, k ≤ n ∧ i = .int .i64 k ∧ v = .int .u64 (rnum s k)) (fun i _ => n - (intOf i).toNat)
  case atStart => exact ⟨0, Nat.zero_le _, rfl, rfl⟩
  case round =>
    obtain ⟨k, hk, rfl, rfl⟩ := hrel
    by_cases hlt : k < n
    · have hcell := hel k hlt
      clear hel
      go_wp2
      go_round
      case rel => exact ⟨k + 1, by omega, by go_num, rfl⟩
      case measure => simp [intOf]; omega
    · obtain rfl : k = n := by omega
      clear hel
      go_wp2
      go_region
      all_goals go_wp2
      refine bodyPost_ret (v := .tuple #[.int .u64 (rnum s k), .agg #[.string (s.extract k s.size), .bool false]]) (by simp [results, Try.results15, go_sem, hc2, hc3, hf2, hf3]) rfl ⟨rfl, ?_⟩
      exact ((hbel.setCell (by simp) _).setCell (by simp) _).drew
theorem pack_Reader_Number.bad_ (s : ByteArray) (b : Bool) (a1 : Int) (h : b = true ∨ b = false ∧ (a1 < 1 ∨ 8 < a1 ∨ (s.size : Int) < a1)) (w : World) :
    Calls Try.prog 15 #[.agg #[.string s, .bool b], .int .i64 a1] w fun e w' => e = .returned (.tuple #[.int .u64 0, .agg #[.string ⟨#[]⟩, .bool true]]) ∧ Below w.heap.size w w' := by
  rcases h with rfl | ⟨rfl, h⟩
  · go_enter Try.func15, Try.ntmps15
    go_wp2
    refine bodyPost_ret (v := .agg #[.string ⟨#[]⟩, .bool true]) (by simp [results, Try.results27, go_sem]) rfl ?_
    go_wp2
    refine bodyPost_ret (v := .tuple #[.int .u64 0, .agg #[.string ⟨#[]⟩, .bool true]]) (by simp [results, Try.results15, go_sem]) rfl ⟨rfl, ?_⟩
    repeat (first | exact Below.refl _ _ | apply below_alloc | apply below_drew | refine Below.setCell ?_ (by simp) _)
  · rcases h with h | h | h
    · have b1 : decide (a1 < 1) = true := decide_eq_true h
      go_enter Try.func15, Try.ntmps15
      go_wp2
      refine bodyPost_ret (v := .agg #[.string ⟨#[]⟩, .bool true]) (by simp [results, Try.results27, go_sem]) rfl ?_
      go_wp2
      refine bodyPost_ret (v := .tuple #[.int .u64 0, .agg #[.string ⟨#[]⟩, .bool true]]) (by simp [results, Try.results15, go_sem]) rfl ⟨rfl, ?_⟩
      repeat (first | exact Below.refl _ _ | apply below_alloc | apply below_drew | refine Below.setCell ?_ (by simp) _)
    · have b1 : decide (8 < a1) = true := decide_eq_true h
      have b2 : decide (a1 < 1) = false := decide_eq_false (by omega)
      go_enter Try.func15, Try.ntmps15
      go_wp2
      refine bodyPost_ret (v := .agg #[.string ⟨#[]⟩, .bool true]) (by simp [results, Try.results27, go_sem]) rfl ?_
      go_wp2
      refine bodyPost_ret (v := .tuple #[.int .u64 0, .agg #[.string ⟨#[]⟩, .bool true]]) (by simp [results, Try.results15, go_sem]) rfl ⟨rfl, ?_⟩
      repeat (first | exact Below.refl _ _ | apply below_alloc | apply below_drew | refine Below.setCell ?_ (by simp) _)
    · by_cases h1 : a1 < 1
      · have b1 : decide (a1 < 1) = true := decide_eq_true h1
        clear h
        go_enter Try.func15, Try.ntmps15
        go_wp2
        refine bodyPost_ret (v := .agg #[.string ⟨#[]⟩, .bool true]) (by simp [results, Try.results27, go_sem]) rfl ?_
        go_wp2
        refine bodyPost_ret (v := .tuple #[.int .u64 0, .agg #[.string ⟨#[]⟩, .bool true]]) (by simp [results, Try.results15, go_sem]) rfl ⟨rfl, ?_⟩
        repeat (first | exact Below.refl _ _ | apply below_alloc | apply below_drew | refine Below.setCell ?_ (by simp) _)
      · by_cases h8 : 8 < a1
        · have b1 : decide (8 < a1) = true := decide_eq_true h8
          clear h
          have b2 : decide (a1 < 1) = false := decide_eq_false (by omega)
          go_enter Try.func15, Try.ntmps15
          go_wp2
          refine bodyPost_ret (v := .agg #[.string ⟨#[]⟩, .bool true]) (by simp [results, Try.results27, go_sem]) rfl ?_
          go_wp2
          refine bodyPost_ret (v := .tuple #[.int .u64 0, .agg #[.string ⟨#[]⟩, .bool true]]) (by simp [results, Try.results15, go_sem]) rfl ⟨rfl, ?_⟩
          repeat (first | exact Below.refl _ _ | apply below_alloc | apply below_drew | refine Below.setCell ?_ (by simp) _)
        · have b1 : decide (8 < a1) = false := decide_eq_false (by omega)
          have b2 : decide (a1 < 1) = false := decide_eq_false (by omega)
          have b3 : decide ((s.size : Int) < a1) = true := decide_eq_true h
          go_enter Try.func15, Try.ntmps15
          go_wp2
          refine bodyPost_ret (v := .agg #[.string ⟨#[]⟩, .bool true]) (by simp [results, Try.results27, go_sem]) rfl ?_
          go_wp2
          refine bodyPost_ret (v := .tuple #[.int .u64 0, .agg #[.string ⟨#[]⟩, .bool true]]) (by simp [results, Try.results15, go_sem]) rfl ⟨rfl, ?_⟩
          repeat (first | exact Below.refl _ _ | apply below_alloc | apply below_drew | refine Below.setCell ?_ (by simp) _)
theorem pack_Reader_Number.calls (a0_0 : ByteArray) (a0_1 : Bool) (a1 : Int) (r1 : Int) (r2 : ByteArray) (r3 : Bool) (w : World) (h : pack_Reader_Number.f a0_0 a0_1 a1 = some (r1, r2, r3)) :
    Calls Try.prog 15 #[.agg #[.string a0_0, .bool a0_1], .int .i64 a1] w fun e w' => e = .returned (.tuple #[.int .u64 r1, .agg #[.string r2, .bool r3]]) ∧ Below w.heap.size w w' := by
  unfold pack_Reader_Number.f at h
  by_cases hm : a0_0.size ≤ 9223372036854775807
  · rw [if_pos hm] at h
    by_cases c0 : a0_1 = true
    · rw [if_pos c0] at h
      simp only [Option.some.injEq, Prod.mk.injEq] at h
      obtain ⟨rfl, rfl, rfl⟩ := h
      exact pack_Reader_Number.bad_ _ _ _ (.inl c0) w
    · rw [if_neg c0] at h
      have c0' : a0_1 = false := by simpa using c0
      by_cases c1 : a1 < 1
      · rw [if_pos c1] at h
        simp only [Option.some.injEq, Prod.mk.injEq] at h
        obtain ⟨rfl, rfl, rfl⟩ := h
        exact pack_Reader_Number.bad_ _ _ _ (.inr ⟨c0', .inl c1⟩) w
      · rw [if_neg c1] at h
        by_cases c2 : 8 < a1
        · rw [if_pos c2] at h
          simp only [Option.some.injEq, Prod.mk.injEq] at h
          obtain ⟨rfl, rfl, rfl⟩ := h
          exact pack_Reader_Number.bad_ _ _ _ (.inr ⟨c0', .inr (.inl c2)⟩) w
        · rw [if_neg c2] at h
          by_cases c3 : (a0_0.size : Int) < a1
          · rw [if_pos c3] at h
            simp only [Option.some.injEq, Prod.mk.injEq] at h
            obtain ⟨rfl, rfl, rfl⟩ := h
            exact pack_Reader_Number.bad_ _ _ _ (.inr ⟨c0', .inr (.inr c3)⟩) w
          · rw [if_neg c3] at h
            simp only [Option.some.injEq, Prod.mk.injEq] at h
            obtain ⟨rfl, rfl, rfl⟩ := h
            obtain ⟨n, rfl⟩ := Int.eq_ofNat_of_zero_le (show 0 ≤ a1 by omega)
            subst c0'
            rw [Int.toNat_natCast]
            exact pack_Reader_Number.some_ a0_0 n (by omega) (by omega) (by omega) hm w
  · rw [if_neg hm] at h
    exact absurd h (by simp)
/-! ### pack_Halves_int: function 26 -/
def pack_Halves_int.f (l0 : List Int) : Option (List Int × List Int) := if 0 ≤ (wrap64 (Int.tdiv (wrap64 ((l0.length : Int) + 1)) 2)) then (if (wrap64 (Int.tdiv (wrap64 ((l0.length : Int) + 1)) 2)) ≤ (l0.length : Int) then (if ([] : List Int).length + (l0.take ((wrap64 (Int.tdiv (wrap64 ((l0.length : Int) + 1)) 2)) : Int).toNat).length < 17592186044416 then (if ([] : List Int).length + (l0.drop ((wrap64 (Int.tdiv (wrap64 ((l0.length : Int) + 1)) 2)) : Int).toNat).length < 17592186044416 then (some ((([] : List Int) ++ (l0.take ((wrap64 (Int.tdiv (wrap64 ((l0.length : Int) + 1)) 2)) : Int).toNat)), (([] : List Int) ++ (l0.drop ((wrap64 (Int.tdiv (wrap64 ((l0.length : Int) + 1)) 2)) : Int).toNat)))) else (none)) else (none)) else (none)) else (none)
def pack_Halves_int.T2 : Bool × List (List Nat × List Nat) := (true, [([], []), ([], []), ([], []), ([1, 2], [1, 2]), ([0, 3], [0, 3]), ([], []), ([], []), ([], []), ([6, 7], [6, 7]), ([5, 8, 4], [5, 8]), ([4, 9, 0, 1, 2, 3, 4], [0, 4]), ([9, 10, 0, 1, 2, 3, 4, 5, 6, 7, 8, 9, 10], [5, 9])])
def pack_Halves_int.B2 : List Nat := [0, 0, 0, 6, 15, 0, 0, 0, 192, 511, 1023, 2047]
theorem pack_Halves_int.tab2 : rtab .any (opsOf Try.f26 2) = pack_Halves_int.T2 := by kernel_rfl
theorem pack_Halves_int.bits2 : waitsOk pack_Halves_int.T2.2 pack_Halves_int.B2 = true := by kernel_rfl
set_option maxHeartbeats 8000000 in
set_option maxRecDepth 100000 in
theorem pack_Halves_int.calls (A0 : Option Addr) (c0 : Nat) (l0 : List Int) (r1 : List Int) (r2 : List Int) (w : World) (hr0 : Kd.C (Kd.int .i64) w A0 l0.length l0) (hc0 : l0.length ≤ c0) (h : pack_Halves_int.f l0 = some (r1, r2)) :
    Calls Try.prog 26 #[.slice A0 l0.length c0] w fun e w' => ∃ v0_ v1_ : Value, e = .returned (.tuple #[v0_, v1_]) ∧ Kd.R (Kd.int .i64) 3 w' w.heap.size (fun k_ => some k_ ≠ (v1_ : Value).ownBlock) v0_ r1 ∧ Kd.R (Kd.int .i64) 3 w' w.heap.size (fun k_ => some k_ ≠ (v0_ : Value).ownBlock) v1_ r2 ∧ Below w.heap.size w w' := by
  have HR0 := Aside0.mk hr0
  have HC0 := Aside0.mk hc0
  clear hr0 hc0
  have HB := Aside0.mk (Below.refl w.heap.size w)
  have H : (if 0 ≤ (wrap64 (Int.tdiv (wrap64 ((l0.length : Int) + 1)) 2)) then (if (wrap64 (Int.tdiv (wrap64 ((l0.length : Int) + 1)) 2)) ≤ (l0.length : Int) then (if ([] : List Int).length + (l0.take ((wrap64 (Int.tdiv (wrap64 ((l0.length : Int) + 1)) 2)) : Int).toNat).length < 17592186044416 then (if ([] : List Int).length + (l0.drop ((wrap64 (Int.tdiv (wrap64 ((l0.length : Int) + 1)) 2)) : Int).toNat).length < 17592186044416 then (some ((([] : List Int) ++ (l0.take ((wrap64 (Int.tdiv (wrap64 ((l0.length : Int) + 1)) 2)) : Int).toNat)), (([] : List Int) ++ (l0.drop ((wrap64 (Int.tdiv (wrap64 ((l0.length : Int) + 1)) 2)) : Int).toNat)))) else (none)) else (none)) else (none)) else (none)) = some (r1, r2) := h
  clear h
  obtain ⟨ji2, hji2⟩ : ∃ j_ : Int, (wrap64 (Int.tdiv (wrap64 ((l0.length : Int) + 1)) 2)) = j_ := ⟨_, rfl⟩
  replace H : (if 0 ≤ (ji2) then (if (ji2) ≤ (l0.length : Int) then (if ([] : List Int).length + (l0.take ((ji2) : Int).toNat).length < 17592186044416 then (if ([] : List Int).length + (l0.drop ((ji2) : Int).toNat).length < 17592186044416 then (some ((([] : List Int) ++ (l0.take ((ji2) : Int).toNat)), (([] : List Int) ++ (l0.drop ((ji2) : Int).toNat)))) else (none)) else (none)) else (none)) else (none)) = some (r1, r2) := by first | (rw [hji2] at H; exact H) | (simp only [hji2] at H ⊢; exact H)
  have hji2w : (IntKind.i64.wrap (Int.tdiv (wrap64 ((l0.length : Int) + 1)) 2)) = ji2 := (i64_w _).trans hji2
  by_cases c3 : 0 ≤ (ji2)
  rotate_left
  · rw [if_neg c3] at H
    exact absurd H (by simp)
  rw [if_pos c3] at H
  have c3b0 := eq_true c3
  have c3b1 : decide (0 ≤ (ji2)) = true := decide_eq_true c3
  clear c3
  by_cases c4 : (ji2) ≤ (l0.length : Int)
  rotate_left
  · rw [if_neg c4] at H
    exact absurd H (by simp)
  rw [if_pos c4] at H
  have c4b0 := eq_true c4
  have c4b1 : decide ((ji2) ≤ (l0.length : Int)) = true := decide_eq_true c4
  clear c4
  by_cases c5 : ([] : List Int).length + (l0.take ((ji2) : Int).toNat).length < 17592186044416
  rotate_left
  · rw [if_neg c5] at H
    exact absurd H (by simp)
  rw [if_pos c5] at H
  have LMc5 := Aside0.mk c5
  clear c5
  obtain ⟨y130, hy130⟩ : ∃ y_ : List Int, y_ = (([] : List Int) ++ (l0.take ((ji2) : Int).toNat)) := ⟨_, rfl⟩
  replace H : (if ([] : List Int).length + (l0.drop ((ji2) : Int).toNat).length < 17592186044416 then (some (y130, (([] : List Int) ++ (l0.drop ((ji2) : Int).toNat)))) else (none)) = some (r1, r2) := by first | (rw [hy130]; with_reducible exact H) | (have H2_ := (Option.bind_some _ _).symm.trans H; rw [hy130]; with_reducible exact H2_) | (have H2_ := (Option.bind_some _ _).symm.trans H; with_reducible exact H2_) | with_reducible exact H | (rw [hy130]; exact H) | exact H
  have Ny130 := Aside0.mk hy130
  clear hy130
  have c6b0 := eq_true (of_decide_eq_true (by first | (with_reducible assumption) | assumption) : 0 ≤ (ji2))
  have c7b0 := eq_true (of_decide_eq_true (by first | (with_reducible assumption) | assumption) : (ji2) ≤ (l0.length : Int))
  by_cases c8 : ([] : List Int).length + (l0.drop ((ji2) : Int).toNat).length < 17592186044416
  rotate_left
  · rw [if_neg c8] at H
    exact absurd H (by simp)
  rw [if_pos c8] at H
  have LMc8 := Aside0.mk c8
  clear c8
  obtain ⟨y134, hy134⟩ : ∃ y_ : List Int, y_ = (([] : List Int) ++ (l0.drop ((ji2) : Int).toNat)) := ⟨_, rfl⟩
  replace H : (some (y130, y134)) = some (r1, r2) := by first | (rw [hy134]; with_reducible exact H) | (have H2_ := (Option.bind_some _ _).symm.trans H; rw [hy134]; with_reducible exact H2_) | (have H2_ := (Option.bind_some _ _).symm.trans H; with_reducible exact H2_) | with_reducible exact H | (rw [hy134]; exact H) | exact H
  have Ny134 := Aside0.mk hy134
  clear hy134
  simp only [Option.some.injEq, Prod.mk.injEq] at H
  obtain ⟨rfl, rfl⟩ := H
  go_enter Try.func26, Try.ntmps26
  try go_wp2
  replace HB := Aside0.mk (below_drew1 HB.out)
  obtain ⟨i010, hi010, _, hsz10, _⟩ := info_parts info3
  obtain ⟨hcut10, hA10, hC10⟩ := print_take_of (P := Try.prog) (Value.int .i64) 0 57 3 .i64 Try.underlying57 hi010 hsz10 A0 c0 l0 (ji2) (of_decide_eq_true (by first | (with_reducible assumption) | assumption)) (of_decide_eq_true (by first | (with_reducible assumption) | assumption)) HC0.out
  have HR129 := Aside0.mk (Kd.C_of_reads (h1 := fun _ => rfl) (hA10 _ (Kd.reads_of_C HR0.out)))
  have HC129 := Aside0.mk hC10
  clear hA10 hC10 hi010 hsz10
  obtain ⟨i011, hi011, _, hsz11, _⟩ := info_parts info3
  obtain ⟨A11, hcut11, hA11, hC11⟩ := print_drop_of (P := Try.prog) (Value.int .i64) 0 57 3 .i64 Try.underlying57 hi011 hsz11 A0 c0 l0 (ji2) (of_decide_eq_true (by first | (with_reducible assumption) | assumption)) (of_decide_eq_true (by first | (with_reducible assumption) | assumption)) HC0.out
  have HR133 := Aside0.mk (Kd.C_of_reads (h1 := fun _ => rfl) (hA11 _ (Kd.reads_of_C HR0.out)))
  have HC133 := Aside0.mk hC11
  clear hA11 hC11 hi011 hsz11
  refine start_ (n := 12) (S := fun w' => True) (ds := []) #[false, false, false, false, false, false, false, false, false, false, false, false] (by kernel_rfl) rfl rfl trivial (fun hHeld => ?_); refine with_tabW pack_Halves_int.tab2 pack_Halves_int.bits2 (fun HT_ HW_ => ?_)
  generalize w.drew = w9 at HB HR129 HR133 hHeld ⊢
  refine Kp_ 0 9 #[true, false, false, false, false, false, false, false, false, false, false, false] (any_of HT_.out (by kernel_rfl)) ?_
  refine Kp_ 1 10 #[true, true, false, false, false, false, false, false, false, false, false, false] (any_of HT_.out (by kernel_rfl)) ?_
  refine Kp_ 2 11 #[true, true, true, false, false, false, false, false, false, false, false, false] (any_of HT_.out (by kernel_rfl)) ?_
  refine Kp_ 3 12 #[true, true, true, true, false, false, false, false, false, false, false, false] (any_of HT_.out (by kernel_rfl)) ?_
  refine Kp_ 5 14 #[true, true, true, true, false, true, false, false, false, false, false, false] (any_of HT_.out (by kernel_rfl)) ?_
  refine Kp_ 6 15 #[true, true, true, true, false, true, true, false, false, false, false, false] (any_of HT_.out (by kernel_rfl)) ?_
  refine Kp_ 7 16 #[true, true, true, true, false, true, true, true, false, false, false, false] (any_of HT_.out (by kernel_rfl)) ?_
  refine Kp_ 8 17 #[true, true, true, true, false, true, true, true, true, false, false, false] (any_of HT_.out (by kernel_rfl)) ?_
  refine one_ (i := 4) (N := some 13) #[true, true, true, true, true, true, true, true, true, false, false, false] rfl rfl (one_of HT_.out (by kernel_rfl)) (by decide) (fun K hK => ?_)
  refine Kd.R_append_rows_step (Kd.int .i64) (w0 := w) w.heap.size (by rfl) (.tmp 9) (.tmp 12) 57 3 (.int .i64 0) 8 rfl Try.underlying57 info3 rfl (by decide) (by omega) (.slice none 0 0) ([] : List Int) (l0.take ((ji2) : Int).toNat) _ _ _ (fun _ => True) (fun _ => False) rfl rfl ?aO ?aR (fun _ _ h => h) (fun _ h => h.elim) ?aF ?aB ?aS ?aL ?_
  (case aR => first | (have hE_ := (show (l0.take ((ji2) : Int).toNat).length = (ji2).toNat from (by rw [List.length_take]; have h_ : ((ji2) : Int) ≤ (l0.length : Int) := of_decide_eq_true (by first | (with_reducible assumption) | assumption); omega)); (repeat (first | (have hC_ := (Kd.C_below HR129.out HB.out); rw [hE_] at hC_; exact hC_) | (with_reducible refine Kd.C_alloc ?_ _) | (with_reducible refine Kd.C_drewN ?_ _) | (with_reducible refine Kd.C_drew ?_))); done) | (rw [← show (l0.take ((ji2) : Int).toNat).length = (ji2).toNat from (by rw [List.length_take]; have h_ : ((ji2) : Int) ≤ (l0.length : Int) := of_decide_eq_true (by first | (with_reducible assumption) | assumption); omega)]; repeat (first | exact (Kd.C_below HR129.out HB.out) | (with_reducible refine Kd.C_alloc ?_ _) | (with_reducible refine Kd.C_drewN ?_ _) | (with_reducible refine Kd.C_drew ?_))) | (repeat (first | exact (Kd.C_below HR129.out HB.out) | (with_reducible refine Kd.C_alloc ?_ _) | (with_reducible refine Kd.C_drewN ?_ _) | (with_reducible refine Kd.C_drew ?_))))
  (case aB => exact (Ky_ HB))
  (case aF => exact (fun _ _ => trivial))
  (case aO => exact ((Kd.R_nil _ _ _ _ (fun _ => True))))
  (case aS => exact (below_size (Ky_ HB)))
  (case aL => have := LMc5.out; have hlx_ := (show (l0.take ((ji2) : Int).toNat).length = (ji2).toNat from (by rw [List.length_take]; have h_ : ((ji2) : Int) ≤ (l0.length : Int) := of_decide_eq_true (by first | (with_reducible assumption) | assumption); omega)); omega)
  intro v131 w12 ho hb hg hat
  rw [← Ny130.out] at ho
  have HO132 := Aside0.mk (ho)
  replace HB := Aside0.mk (hb)
  clear ho hb hg hat
  refine hK.out _ _ trivial (fun hHeld => ?_)
  clear hK K
  refine Kn_ 13 ?_
  refine one_ (i := 9) (N := some 18) #[true, true, true, true, true, true, true, true, true, true, false, false] rfl rfl (one_of HT_.out (by kernel_rfl)) (by decide) (fun K hK => ?_)
  refine Kd.R_append_rows_step (Kd.int .i64) (w0 := w) w.heap.size (by rfl) (.tmp 14) (.tmp 17) 57 3 (.int .i64 0) 8 rfl Try.underlying57 info3 rfl (by decide) (by omega) (.slice none 0 0) ([] : List Int) (l0.drop ((ji2) : Int).toNat) _ _ _ (fun k_ => some k_ ≠ (v131 : Value).ownBlock) (fun _ => False) rfl rfl ?aO ?aR (fun _ _ h => h) (fun _ h => h.elim) ?aF ?aB ?aS ?aL ?_
  (case aR => first | (rw [← show (l0.drop ((ji2) : Int).toNat).length = (l0.length - (ji2).toNat) from List.length_drop]; repeat (first | exact (Kd.C_below HR133.out HB.out) | (with_reducible refine Kd.C_alloc ?_ _) | (with_reducible refine Kd.C_drewN ?_ _) | (with_reducible refine Kd.C_drew ?_))) | (repeat (first | exact (Kd.C_below HR133.out HB.out) | (with_reducible refine Kd.C_alloc ?_ _) | (with_reducible refine Kd.C_drewN ?_ _) | (with_reducible refine Kd.C_drew ?_))))
  (case aB => exact (Ky_ HB))
  (case aF => exact (fun k_ hk => Kd.fresh' (Kd.R_lt (Ku_ HO132)) k_ hk))
  (case aO => exact ((Kd.R_nil _ _ _ _ (fun k_ => some k_ ≠ (v131 : Value).ownBlock))))
  (case aS => exact (below_size (Ky_ HB)))
  (case aL => have := LMc8.out; have hlx_ := (show (l0.drop ((ji2) : Int).toNat).length = (l0.length - (ji2).toNat) from List.length_drop); omega)
  intro v135 w13 ho hb hg hat
  rw [← Ny134.out] at ho
  have HO136 := Aside0.mk (ho)
  replace HO132 := Aside0.mk (Kd.R_after (Kd.R_apart_nil (Ku_ HO132)) hg hat)
  replace HB := Aside0.mk (hb)
  clear ho hb hg hat
  refine hK.out _ _ trivial (fun hHeld => ?_)
  clear hK K
  refine Kn_ 18 ?_
  refine Kp_ 10 2 #[true, true, true, true, true, true, true, true, true, true, true, false] (any_of HT_.out (by kernel_rfl)) ?_
  refine Kp_ 11 3 #[true, true, true, true, true, true, true, true, true, true, true, true] (any_of HT_.out (by kernel_rfl)) ?_
  refine done_ (done_of HT_.out (by kernel_rfl)) ?_
  try go_wp2
  go_ret2
  exact ⟨_, _, by first | rfl | (simp [errW_none, errW_some] <;> rfl) | (simp only [← hji2]; first | rfl | (simp [errW_none, errW_some] <;> rfl)) | (simp [*, errW_none, errW_some] <;> rfl), by (with_reducible repeat (first | apply Kd.R_alloc | apply Kd.R_drewN | apply Kd.R_drew)); exact Kd.R_mono HO132.out (fun _ hk => hk.2), by (with_reducible repeat (first | apply Kd.R_alloc | apply Kd.R_drewN | apply Kd.R_drew)); exact HO136.out, Ky_ HB⟩
/-! ### tenementlaw02_examples: function 9 -/
def tenementlaw02_examples.f (k : Nat)  : Option (Bool) := (pack_Reader_Number.f (⟨#[1, 2, 120]⟩ : ByteArray) false 2).bind fun bt137 => ((pack_Reader_Vary.f k (⟨#[172, 2, 121]⟩ : ByteArray) false).bind fun bt141 => ((pack_Reader_Text.f k (⟨#[2, 97, 98, 99]⟩ : ByteArray) false 2).bind fun bt145 => ((pack_Reader_Text.f k (⟨#[2, 97, 98]⟩ : ByteArray) false 1).bind fun bt149 => ((pack_Reader_Vary.f k (⟨#[128, 0]⟩ : ByteArray) false).bind fun bt153 => ((pack_Halves_int.f (([1, 2, 3] : List Int))).bind fun bt160 => ((pack_Number.f 258 2).bind fun t166 => (if t166.toList = ([1, 2] : List UInt8) then ((pack_Vary.f k 300).bind fun t167 => (if t167.toList = ([172, 2] : List UInt8) then ((pack_Text.f k (⟨#[97, 98]⟩ : ByteArray)).bind fun t168 => (if t168.toList = ([2, 97, 98] : List UInt8) then (if bt137.1 = 258 then (if bt137.2.1.toList = ([120] : List UInt8) then (if bt141.1 = 300 then (if bt141.2.1.toList = ([121] : List UInt8) then (if bt145.1.toList = ([97, 98] : List UInt8) then (if bt145.2.1.toList = ([99] : List UInt8) then (if bt149.2.2 = true then (if bt153.2.2 = true then (if (bt160.1.length : Int) = 2 then (if (bt160.2.length : Int) = 1 then (if 0 < (bt160.2.length : Int) then (if (rd bt160.2 0) = 3 then (some true) else (none)) else (none)) else (none)) else (none)) else (none)) else (none)) else (none)) else (none)) else (none)) else (none)) else (none)) else (none)) else (none))) else (none))) else (none))))))))
theorem tenementlaw02_examples.mono : ∀ k, LeO (tenementlaw02_examples.f k ) (tenementlaw02_examples.f (k + 1) ) := by
  intro  k
  unfold tenementlaw02_examples.f
  repeat' first
      | (with_reducible exact pack_Reader_Text.mono _ _ _ _)
      | (with_reducible exact pack_Reader_Vary.mono _ _ _)
      | (with_reducible exact pack_Text.mono _ _)
      | (with_reducible exact pack_Vary.mono _ _)
      | (with_reducible exact LeO.refl _)
      | (with_reducible exact LeO.none _)
      | (with_reducible refine LeO.ite ?_ ?_)
      | (with_reducible refine LeO.bind ?_ (fun _ => ?_))
      | exact pack_Reader_Text.mono _ _ _ _
      | exact pack_Reader_Vary.mono _ _ _
      | exact pack_Text.mono _ _
      | exact pack_Vary.mono _ _
      | exact LeO.none _
      | refine LeO.ite ?_ ?_
      | refine LeO.bind ?_ (fun _ => ?_)
set_option maxHeartbeats 8000000 in
set_option maxRecDepth 100000 in
theorem tenementlaw02_examples.calls (k : Nat)  (r : Bool) (w : World) (h : tenementlaw02_examples.f k  = some r) :
    Calls Try.prog 9 #[] w fun e w' => e = .returned (.bool r) ∧ Below w.heap.size w w' := by
  have hu35 := Try.underlying35
  have HB := Aside0.mk (Below.refl w.heap.size w)
  have H : ((pack_Reader_Number.f (⟨#[1, 2, 120]⟩ : ByteArray) false 2).bind fun bt137 => ((pack_Reader_Vary.f k (⟨#[172, 2, 121]⟩ : ByteArray) false).bind fun bt141 => ((pack_Reader_Text.f k (⟨#[2, 97, 98, 99]⟩ : ByteArray) false 2).bind fun bt145 => ((pack_Reader_Text.f k (⟨#[2, 97, 98]⟩ : ByteArray) false 1).bind fun bt149 => ((pack_Reader_Vary.f k (⟨#[128, 0]⟩ : ByteArray) false).bind fun bt153 => ((pack_Halves_int.f (([1, 2, 3] : List Int))).bind fun bt160 => ((pack_Number.f 258 2).bind fun t166 => (if t166.toList = ([1, 2] : List UInt8) then ((pack_Vary.f k 300).bind fun t167 => (if t167.toList = ([172, 2] : List UInt8) then ((pack_Text.f k (⟨#[97, 98]⟩ : ByteArray)).bind fun t168 => (if t168.toList = ([2, 97, 98] : List UInt8) then (if bt137.1 = 258 then (if bt137.2.1.toList = ([120] : List UInt8) then (if bt141.1 = 300 then (if bt141.2.1.toList = ([121] : List UInt8) then (if bt145.1.toList = ([97, 98] : List UInt8) then (if bt145.2.1.toList = ([99] : List UInt8) then (if bt149.2.2 = true then (if bt153.2.2 = true then (if (bt160.1.length : Int) = 2 then (if (bt160.2.length : Int) = 1 then (if 0 < (bt160.2.length : Int) then (if (rd bt160.2 0) = 3 then (some true) else (none)) else (none)) else (none)) else (none)) else (none)) else (none)) else (none)) else (none)) else (none)) else (none)) else (none)) else (none)) else (none))) else (none))) else (none))))))))) = some r := h
  clear h
  replace H := Option.bind_eq_some_iff.mp H
  obtain ⟨⟨t137, t138, t139⟩, A10, H⟩ := H
  replace H : ((pack_Reader_Vary.f k (⟨#[172, 2, 121]⟩ : ByteArray) false).bind fun bt141 => ((pack_Reader_Text.f k (⟨#[2, 97, 98, 99]⟩ : ByteArray) false 2).bind fun bt145 => ((pack_Reader_Text.f k (⟨#[2, 97, 98]⟩ : ByteArray) false 1).bind fun bt149 => ((pack_Reader_Vary.f k (⟨#[128, 0]⟩ : ByteArray) false).bind fun bt153 => ((pack_Halves_int.f (([1, 2, 3] : List Int))).bind fun bt160 => ((pack_Number.f 258 2).bind fun t166 => (if t166.toList = ([1, 2] : List UInt8) then ((pack_Vary.f k 300).bind fun t167 => (if t167.toList = ([172, 2] : List UInt8) then ((pack_Text.f k (⟨#[97, 98]⟩ : ByteArray)).bind fun t168 => (if t168.toList = ([2, 97, 98] : List UInt8) then (if t137 = 258 then (if t138.toList = ([120] : List UInt8) then (if bt141.1 = 300 then (if bt141.2.1.toList = ([121] : List UInt8) then (if bt145.1.toList = ([97, 98] : List UInt8) then (if bt145.2.1.toList = ([99] : List UInt8) then (if bt149.2.2 = true then (if bt153.2.2 = true then (if (bt160.1.length : Int) = 2 then (if (bt160.2.length : Int) = 1 then (if 0 < (bt160.2.length : Int) then (if (rd bt160.2 0) = 3 then (some true) else (none)) else (none)) else (none)) else (none)) else (none)) else (none)) else (none)) else (none)) else (none)) else (none)) else (none)) else (none)) else (none))) else (none))) else (none)))))))) = some r := H
  have A1 := Aside0.mk A10
  clear A10
  replace H := Option.bind_eq_some_iff.mp H
  obtain ⟨⟨t141, t142, t143⟩, A20, H⟩ := H
  replace H : ((pack_Reader_Text.f k (⟨#[2, 97, 98, 99]⟩ : ByteArray) false 2).bind fun bt145 => ((pack_Reader_Text.f k (⟨#[2, 97, 98]⟩ : ByteArray) false 1).bind fun bt149 => ((pack_Reader_Vary.f k (⟨#[128, 0]⟩ : ByteArray) false).bind fun bt153 => ((pack_Halves_int.f (([1, 2, 3] : List Int))).bind fun bt160 => ((pack_Number.f 258 2).bind fun t166 => (if t166.toList = ([1, 2] : List UInt8) then ((pack_Vary.f k 300).bind fun t167 => (if t167.toList = ([172, 2] : List UInt8) then ((pack_Text.f k (⟨#[97, 98]⟩ : ByteArray)).bind fun t168 => (if t168.toList = ([2, 97, 98] : List UInt8) then (if t137 = 258 then (if t138.toList = ([120] : List UInt8) then (if t141 = 300 then (if t142.toList = ([121] : List UInt8) then (if bt145.1.toList = ([97, 98] : List UInt8) then (if bt145.2.1.toList = ([99] : List UInt8) then (if bt149.2.2 = true then (if bt153.2.2 = true then (if (bt160.1.length : Int) = 2 then (if (bt160.2.length : Int) = 1 then (if 0 < (bt160.2.length : Int) then (if (rd bt160.2 0) = 3 then (some true) else (none)) else (none)) else (none)) else (none)) else (none)) else (none)) else (none)) else (none)) else (none)) else (none)) else (none)) else (none)) else (none))) else (none))) else (none))))))) = some r := H
  have A2 := Aside0.mk A20
  clear A20
  replace H := Option.bind_eq_some_iff.mp H
  obtain ⟨⟨t145, t146, t147⟩, A30, H⟩ := H
  replace H : ((pack_Reader_Text.f k (⟨#[2, 97, 98]⟩ : ByteArray) false 1).bind fun bt149 => ((pack_Reader_Vary.f k (⟨#[128, 0]⟩ : ByteArray) false).bind fun bt153 => ((pack_Halves_int.f (([1, 2, 3] : List Int))).bind fun bt160 => ((pack_Number.f 258 2).bind fun t166 => (if t166.toList = ([1, 2] : List UInt8) then ((pack_Vary.f k 300).bind fun t167 => (if t167.toList = ([172, 2] : List UInt8) then ((pack_Text.f k (⟨#[97, 98]⟩ : ByteArray)).bind fun t168 => (if t168.toList = ([2, 97, 98] : List UInt8) then (if t137 = 258 then (if t138.toList = ([120] : List UInt8) then (if t141 = 300 then (if t142.toList = ([121] : List UInt8) then (if t145.toList = ([97, 98] : List UInt8) then (if t146.toList = ([99] : List UInt8) then (if bt149.2.2 = true then (if bt153.2.2 = true then (if (bt160.1.length : Int) = 2 then (if (bt160.2.length : Int) = 1 then (if 0 < (bt160.2.length : Int) then (if (rd bt160.2 0) = 3 then (some true) else (none)) else (none)) else (none)) else (none)) else (none)) else (none)) else (none)) else (none)) else (none)) else (none)) else (none)) else (none)) else (none))) else (none))) else (none)))))) = some r := H
  have A3 := Aside0.mk A30
  clear A30
  replace H := Option.bind_eq_some_iff.mp H
  obtain ⟨⟨t149, t150, t151⟩, A40, H⟩ := H
  replace H : ((pack_Reader_Vary.f k (⟨#[128, 0]⟩ : ByteArray) false).bind fun bt153 => ((pack_Halves_int.f (([1, 2, 3] : List Int))).bind fun bt160 => ((pack_Number.f 258 2).bind fun t166 => (if t166.toList = ([1, 2] : List UInt8) then ((pack_Vary.f k 300).bind fun t167 => (if t167.toList = ([172, 2] : List UInt8) then ((pack_Text.f k (⟨#[97, 98]⟩ : ByteArray)).bind fun t168 => (if t168.toList = ([2, 97, 98] : List UInt8) then (if t137 = 258 then (if t138.toList = ([120] : List UInt8) then (if t141 = 300 then (if t142.toList = ([121] : List UInt8) then (if t145.toList = ([97, 98] : List UInt8) then (if t146.toList = ([99] : List UInt8) then (if t151 = true then (if bt153.2.2 = true then (if (bt160.1.length : Int) = 2 then (if (bt160.2.length : Int) = 1 then (if 0 < (bt160.2.length : Int) then (if (rd bt160.2 0) = 3 then (some true) else (none)) else (none)) else (none)) else (none)) else (none)) else (none)) else (none)) else (none)) else (none)) else (none)) else (none)) else (none)) else (none))) else (none))) else (none))))) = some r := H
  have A4 := Aside0.mk A40
  clear A40
  replace H := Option.bind_eq_some_iff.mp H
  obtain ⟨⟨t153, t154, t155⟩, A50, H⟩ := H
  replace H : ((pack_Halves_int.f (([1, 2, 3] : List Int))).bind fun bt160 => ((pack_Number.f 258 2).bind fun t166 => (if t166.toList = ([1, 2] : List UInt8) then ((pack_Vary.f k 300).bind fun t167 => (if t167.toList = ([172, 2] : List UInt8) then ((pack_Text.f k (⟨#[97, 98]⟩ : ByteArray)).bind fun t168 => (if t168.toList = ([2, 97, 98] : List UInt8) then (if t137 = 258 then (if t138.toList = ([120] : List UInt8) then (if t141 = 300 then (if t142.toList = ([121] : List UInt8) then (if t145.toList = ([97, 98] : List UInt8) then (if t146.toList = ([99] : List UInt8) then (if t151 = true then (if t155 = true then (if (bt160.1.length : Int) = 2 then (if (bt160.2.length : Int) = 1 then (if 0 < (bt160.2.length : Int) then (if (rd bt160.2 0) = 3 then (some true) else (none)) else (none)) else (none)) else (none)) else (none)) else (none)) else (none)) else (none)) else (none)) else (none)) else (none)) else (none)) else (none))) else (none))) else (none)))) = some r := H
  have A5 := Aside0.mk A50
  clear A50
  obtain ⟨y157, hy157⟩ : ∃ y_ : List Int, y_ = (([1, 2, 3] : List Int)) := ⟨_, rfl⟩
  replace H : ((pack_Halves_int.f y157).bind fun bt160 => ((pack_Number.f 258 2).bind fun t166 => (if t166.toList = ([1, 2] : List UInt8) then ((pack_Vary.f k 300).bind fun t167 => (if t167.toList = ([172, 2] : List UInt8) then ((pack_Text.f k (⟨#[97, 98]⟩ : ByteArray)).bind fun t168 => (if t168.toList = ([2, 97, 98] : List UInt8) then (if t137 = 258 then (if t138.toList = ([120] : List UInt8) then (if t141 = 300 then (if t142.toList = ([121] : List UInt8) then (if t145.toList = ([97, 98] : List UInt8) then (if t146.toList = ([99] : List UInt8) then (if t151 = true then (if t155 = true then (if (bt160.1.length : Int) = 2 then (if (bt160.2.length : Int) = 1 then (if 0 < (bt160.2.length : Int) then (if (rd bt160.2 0) = 3 then (some true) else (none)) else (none)) else (none)) else (none)) else (none)) else (none)) else (none)) else (none)) else (none)) else (none)) else (none)) else (none)) else (none))) else (none))) else (none)))) = some r := by first | (rw [hy157]; with_reducible exact H) | (have H2_ := (Option.bind_some _ _).symm.trans H; rw [hy157]; with_reducible exact H2_) | (have H2_ := (Option.bind_some _ _).symm.trans H; with_reducible exact H2_) | with_reducible exact H | (rw [hy157]; exact H) | exact H
  have Ny157 := Aside0.mk hy157
  clear hy157
  replace H := Option.bind_eq_some_iff.mp H
  obtain ⟨⟨t160, t161⟩, A60, H⟩ := H
  replace H : ((pack_Number.f 258 2).bind fun t166 => (if t166.toList = ([1, 2] : List UInt8) then ((pack_Vary.f k 300).bind fun t167 => (if t167.toList = ([172, 2] : List UInt8) then ((pack_Text.f k (⟨#[97, 98]⟩ : ByteArray)).bind fun t168 => (if t168.toList = ([2, 97, 98] : List UInt8) then (if t137 = 258 then (if t138.toList = ([120] : List UInt8) then (if t141 = 300 then (if t142.toList = ([121] : List UInt8) then (if t145.toList = ([97, 98] : List UInt8) then (if t146.toList = ([99] : List UInt8) then (if t151 = true then (if t155 = true then (if (t160.length : Int) = 2 then (if (t161.length : Int) = 1 then (if 0 < (t161.length : Int) then (if (rd t161 0) = 3 then (some true) else (none)) else (none)) else (none)) else (none)) else (none)) else (none)) else (none)) else (none)) else (none)) else (none)) else (none)) else (none)) else (none))) else (none))) else (none))) = some r := H
  have A6 := Aside0.mk A60
  clear A60
  replace H := Option.bind_eq_some_iff.mp H
  obtain ⟨t166, A70, H⟩ := H
  replace H : (if t166.toList = ([1, 2] : List UInt8) then ((pack_Vary.f k 300).bind fun t167 => (if t167.toList = ([172, 2] : List UInt8) then ((pack_Text.f k (⟨#[97, 98]⟩ : ByteArray)).bind fun t168 => (if t168.toList = ([2, 97, 98] : List UInt8) then (if t137 = 258 then (if t138.toList = ([120] : List UInt8) then (if t141 = 300 then (if t142.toList = ([121] : List UInt8) then (if t145.toList = ([97, 98] : List UInt8) then (if t146.toList = ([99] : List UInt8) then (if t151 = true then (if t155 = true then (if (t160.length : Int) = 2 then (if (t161.length : Int) = 1 then (if 0 < (t161.length : Int) then (if (rd t161 0) = 3 then (some true) else (none)) else (none)) else (none)) else (none)) else (none)) else (none)) else (none)) else (none)) else (none)) else (none)) else (none)) else (none)) else (none))) else (none))) else (none)) = some r := H
  have A7 := Aside0.mk A70
  clear A70
  by_cases c8 : t166.toList = ([1, 2] : List UInt8)
  rotate_left
  · rw [if_neg c8] at H
    exact absurd H (by simp)
  rw [if_pos c8] at H
  have c8b0 : (t166.toList == ([1, 2] : List UInt8)) = true := beq_iff_eq.mpr c8
  have c8b1 : (t166.toList != ([1, 2] : List UInt8)) = false := bne_eq_false_iff_eq.mpr c8
  clear c8
  replace H := Option.bind_eq_some_iff.mp H
  obtain ⟨t167, A90, H⟩ := H
  replace H : (if t167.toList = ([172, 2] : List UInt8) then ((pack_Text.f k (⟨#[97, 98]⟩ : ByteArray)).bind fun t168 => (if t168.toList = ([2, 97, 98] : List UInt8) then (if t137 = 258 then (if t138.toList = ([120] : List UInt8) then (if t141 = 300 then (if t142.toList = ([121] : List UInt8) then (if t145.toList = ([97, 98] : List UInt8) then (if t146.toList = ([99] : List UInt8) then (if t151 = true then (if t155 = true then (if (t160.length : Int) = 2 then (if (t161.length : Int) = 1 then (if 0 < (t161.length : Int) then (if (rd t161 0) = 3 then (some true) else (none)) else (none)) else (none)) else (none)) else (none)) else (none)) else (none)) else (none)) else (none)) else (none)) else (none)) else (none)) else (none))) else (none)) = some r := H
  have A9 := Aside0.mk A90
  clear A90
  by_cases c10 : t167.toList = ([172, 2] : List UInt8)
  rotate_left
  · rw [if_neg c10] at H
    exact absurd H (by simp)
  rw [if_pos c10] at H
  have c10b0 : (t167.toList == ([172, 2] : List UInt8)) = true := beq_iff_eq.mpr c10
  have c10b1 : (t167.toList != ([172, 2] : List UInt8)) = false := bne_eq_false_iff_eq.mpr c10
  clear c10
  replace H := Option.bind_eq_some_iff.mp H
  obtain ⟨t168, A110, H⟩ := H
  replace H : (if t168.toList = ([2, 97, 98] : List UInt8) then (if t137 = 258 then (if t138.toList = ([120] : List UInt8) then (if t141 = 300 then (if t142.toList = ([121] : List UInt8) then (if t145.toList = ([97, 98] : List UInt8) then (if t146.toList = ([99] : List UInt8) then (if t151 = true then (if t155 = true then (if (t160.length : Int) = 2 then (if (t161.length : Int) = 1 then (if 0 < (t161.length : Int) then (if (rd t161 0) = 3 then (some true) else (none)) else (none)) else (none)) else (none)) else (none)) else (none)) else (none)) else (none)) else (none)) else (none)) else (none)) else (none)) else (none)) = some r := H
  have A11 := Aside0.mk A110
  clear A110
  by_cases c12 : t168.toList = ([2, 97, 98] : List UInt8)
  rotate_left
  · rw [if_neg c12] at H
    exact absurd H (by simp)
  rw [if_pos c12] at H
  have c12b0 : (t168.toList == ([2, 97, 98] : List UInt8)) = true := beq_iff_eq.mpr c12
  have c12b1 : (t168.toList != ([2, 97, 98] : List UInt8)) = false := bne_eq_false_iff_eq.mpr c12
  clear c12
  by_cases c13 : t137 = 258
  rotate_left
  · rw [if_neg c13] at H
    exact absurd H (by simp)
  rw [if_pos c13] at H
  have c13b0 : (t137 == 258) = true := beq_iff_eq.mpr c13
  have c13b1 : (t137 != 258) = false := bne_eq_false_iff_eq.mpr c13
  clear c13
  by_cases c14 : t138.toList = ([120] : List UInt8)
  rotate_left
  · rw [if_neg c14] at H
    exact absurd H (by simp)
  rw [if_pos c14] at H
  have c14b0 : (t138.toList == ([120] : List UInt8)) = true := beq_iff_eq.mpr c14
  have c14b1 : (t138.toList != ([120] : List UInt8)) = false := bne_eq_false_iff_eq.mpr c14
  clear c14
  by_cases c15 : t141 = 300
  rotate_left
  · rw [if_neg c15] at H
    exact absurd H (by simp)
  rw [if_pos c15] at H
  have c15b0 : (t141 == 300) = true := beq_iff_eq.mpr c15
  have c15b1 : (t141 != 300) = false := bne_eq_false_iff_eq.mpr c15
  clear c15
  by_cases c16 : t142.toList = ([121] : List UInt8)
  rotate_left
  · rw [if_neg c16] at H
    exact absurd H (by simp)
  rw [if_pos c16] at H
  have c16b0 : (t142.toList == ([121] : List UInt8)) = true := beq_iff_eq.mpr c16
  have c16b1 : (t142.toList != ([121] : List UInt8)) = false := bne_eq_false_iff_eq.mpr c16
  clear c16
  by_cases c17 : t145.toList = ([97, 98] : List UInt8)
  rotate_left
  · rw [if_neg c17] at H
    exact absurd H (by simp)
  rw [if_pos c17] at H
  have c17b0 : (t145.toList == ([97, 98] : List UInt8)) = true := beq_iff_eq.mpr c17
  have c17b1 : (t145.toList != ([97, 98] : List UInt8)) = false := bne_eq_false_iff_eq.mpr c17
  clear c17
  by_cases c18 : t146.toList = ([99] : List UInt8)
  rotate_left
  · rw [if_neg c18] at H
    exact absurd H (by simp)
  rw [if_pos c18] at H
  have c18b0 : (t146.toList == ([99] : List UInt8)) = true := beq_iff_eq.mpr c18
  have c18b1 : (t146.toList != ([99] : List UInt8)) = false := bne_eq_false_iff_eq.mpr c18
  clear c18
  by_cases c19 : t151 = true
  rotate_left
  · replace c19 := Bool.eq_false_iff.mpr c19
    subst c19
    have H1 : (none) = some r := by rw [if_neg (show ¬ (false = true) by decide)] at H; exact H
    clear H
    have H := H1
    clear H1
    exact absurd H (by simp)
  subst c19
  have H1 : (if t155 = true then (if (t160.length : Int) = 2 then (if (t161.length : Int) = 1 then (if 0 < (t161.length : Int) then (if (rd t161 0) = 3 then (some true) else (none)) else (none)) else (none)) else (none)) else (none)) = some r := by rw [if_pos rfl] at H; exact H
  clear H
  have H := H1
  clear H1
  by_cases c20 : t155 = true
  rotate_left
  · replace c20 := Bool.eq_false_iff.mpr c20
    subst c20
    have H1 : (none) = some r := by rw [if_neg (show ¬ (false = true) by decide)] at H; exact H
    clear H
    have H := H1
    clear H1
    exact absurd H (by simp)
  subst c20
  have H1 : (if (t160.length : Int) = 2 then (if (t161.length : Int) = 1 then (if 0 < (t161.length : Int) then (if (rd t161 0) = 3 then (some true) else (none)) else (none)) else (none)) else (none)) = some r := by rw [if_pos rfl] at H; exact H
  clear H
  have H := H1
  clear H1
  by_cases c21 : (t160.length : Int) = 2
  rotate_left
  · rw [if_neg c21] at H
    exact absurd H (by simp)
  rw [if_pos c21] at H
  have c21b0 : ((t160.length : Int) == 2) = true := beq_iff_eq.mpr c21
  have c21b1 : ((t160.length : Int) != 2) = false := bne_eq_false_iff_eq.mpr c21
  clear c21
  by_cases c22 : (t161.length : Int) = 1
  rotate_left
  · rw [if_neg c22] at H
    exact absurd H (by simp)
  rw [if_pos c22] at H
  have c22b0 : ((t161.length : Int) == 1) = true := beq_iff_eq.mpr c22
  have c22b1 : ((t161.length : Int) != 1) = false := bne_eq_false_iff_eq.mpr c22
  clear c22
  by_cases c23 : 0 < (t161.length : Int)
  rotate_left
  · rw [if_neg c23] at H
    exact absurd H (by simp)
  rw [if_pos c23] at H
  have c23b0 : decide (0 < (t161.length : Int)) = true := decide_eq_true c23
  have c23b1 : decide (0 < t161.length) = true := decide_eq_true (by omega)
  clear c23
  by_cases c24 : (rd t161 0) = 3
  rotate_left
  · rw [if_neg c24] at H
    exact absurd H (by simp)
  rw [if_pos c24] at H
  have c24b0 : ((rd t161 0) == 3) = true := beq_iff_eq.mpr c24
  have c24b1 : ((rd t161 0) != 3) = false := bne_eq_false_iff_eq.mpr c24
  clear c24
  obtain rfl := Option.some.inj H
  go_enter Try.func9, Try.ntmps9
  go_wp2_with (first | ((with_reducible refine gate_callee (f := 15) rfl ?_); refine Kg_ (some 15) rfl rfl Try.func15 (by kernel_rfl) rfl #[.agg #[.string (⟨#[1, 2, 120]⟩ : ByteArray), .bool false], .int .i64 2] rfl ?_; (with_reducible refine (pack_Reader_Number.calls (⟨#[1, 2, 120]⟩ : ByteArray) false 2 t137 t138 t139 _ A1.out).mono ?_); rintro e w25 ⟨rfl, hb⟩; refine ⟨_, rfl, ?_⟩; replace HB := Ks_ HB hb; (try clear hb); (try clear hb2); (try clear hk); (try clear hi)) | ((with_reducible refine gate_dst (N := 2) rfl ?_); refine Ka_ 2 #[.string (⟨#[]⟩ : ByteArray), .bool false] 35 ?_; intro gb140 hg w26 hbox hb; have BK140 := Aside0.mk (hbox); have GW140 := Kw_ HB hg; have GE140 := GW140; replace HB := Ks_ HB hb; clear hb hbox hg; obtain ⟨hcz27_0, hcz27_1, hfz27_0, hfz27_1⟩ := Ke2_ BK140.out) | ((with_reducible refine gate_callee (f := 17) rfl ?_); refine Kg_ (some 20) rfl rfl Try.func17 (by kernel_rfl) rfl #[.agg #[.string (⟨#[172, 2, 121]⟩ : ByteArray), .bool false]] rfl ?_; (with_reducible refine (pack_Reader_Vary.calls k (⟨#[172, 2, 121]⟩ : ByteArray) false t141 t142 t143 _ A2.out).mono ?_); rintro e w28 ⟨rfl, hb⟩; refine ⟨_, rfl, ?_⟩; replace BK140 := Aside0.mk (blk_below (g := gb140) (o := .cells #[.string t138, .bool t139] 35 (0, 0)) (by refine Kv_ ?_; refine blk_put (cs := #[.string t138, .bool false]) ?_ 1 _ rfl; refine Kv_ ?_; refine blk_put (cs := #[.string (⟨#[]⟩ : ByteArray), .bool false]) ?_ 0 _ rfl; exact Kq_ BK140) hb); replace HB := Kt_ HB GE140 hb; (try clear hb); (try clear hb2); (try clear hk); (try clear hi)) | ((with_reducible refine gate_dst (N := 4) rfl ?_); refine Ka_ 4 #[.string (⟨#[]⟩ : ByteArray), .bool false] 35 ?_; intro gb144 hg w29 hbox hb; have BK144 := Aside0.mk (hbox); have GW144 := Kw_ HB hg; have GE144 := GW144; have NB140_144 := Kl_ BK140 hg; have NB144_140 := Kr_ BK140 hg; replace BK140 := Kb_ BK140 hb; replace HB := Ks_ HB hb; clear hb hbox hg; have hnb30 := NB144_140.out; have hnc30 := NB140_144.out; obtain ⟨hcz31_0, hcz31_1, hfz31_0, hfz31_1⟩ := Ke2_ BK144.out) | ((with_reducible refine gate_callee (f := 14) rfl ?_); refine Kg_ (some 25) rfl rfl Try.func14 (by kernel_rfl) rfl #[.agg #[.string (⟨#[2, 97, 98, 99]⟩ : ByteArray), .bool false], .int .i64 2] rfl ?_; (with_reducible refine (pack_Reader_Text.calls k (⟨#[2, 97, 98, 99]⟩ : ByteArray) false 2 t145 t146 t147 _ A3.out).mono ?_); rintro e w32 ⟨rfl, hb⟩; refine ⟨_, rfl, ?_⟩; replace BK140 := Kf_ BK140 NB140_144 hb; replace BK144 := Aside0.mk (blk_below (g := gb144) (o := .cells #[.string t142, .bool t143] 35 (0, 0)) (by refine Kv_ ?_; refine blk_put (cs := #[.string t142, .bool false]) ?_ 1 _ rfl; refine Kv_ ?_; refine blk_put (cs := #[.string (⟨#[]⟩ : ByteArray), .bool false]) ?_ 0 _ rfl; exact Kq_ BK144) hb); replace HB := Kt_ HB GE144 hb; (try clear hb); (try clear hb2); (try clear hk); (try clear hi)) | ((with_reducible refine gate_dst (N := 6) rfl ?_); refine Ka_ 6 #[.string (⟨#[]⟩ : ByteArray), .bool false] 35 ?_; intro gb148 hg w33 hbox hb; have BK148 := Aside0.mk (hbox); have GW148 := Kw_ HB hg; have GE148 := GW148; have NB140_148 := Kl_ BK140 hg; have NB148_140 := Kr_ BK140 hg; have NB144_148 := Kl_ BK144 hg; have NB148_144 := Kr_ BK144 hg; replace BK140 := Kb_ BK140 hb; replace BK144 := Kb_ BK144 hb; replace HB := Ks_ HB hb; clear hb hbox hg; have hnb34 := NB148_140.out; have hnc34 := NB140_148.out; have hnb35 := NB148_144.out; have hnc35 := NB144_148.out; obtain ⟨hcz36_0, hcz36_1, hfz36_0, hfz36_1⟩ := Ke2_ BK148.out) | ((with_reducible refine gate_callee (f := 14) rfl ?_); refine Kg_ (some 30) rfl rfl Try.func14 (by kernel_rfl) rfl #[.agg #[.string (⟨#[2, 97, 98]⟩ : ByteArray), .bool false], .int .i64 1] rfl ?_; (with_reducible refine (pack_Reader_Text.calls k (⟨#[2, 97, 98]⟩ : ByteArray) false 1 t149 t150 true _ A4.out).mono ?_); rintro e w37 ⟨rfl, hb⟩; refine ⟨_, rfl, ?_⟩; replace BK140 := Kf_ BK140 NB140_148 hb; replace BK144 := Kf_ BK144 NB144_148 hb; replace BK148 := Aside0.mk (blk_below (g := gb148) (o := .cells #[.string t146, .bool t147] 35 (0, 0)) (by refine Kv_ ?_; refine blk_put (cs := #[.string t146, .bool false]) ?_ 1 _ rfl; refine Kv_ ?_; refine blk_put (cs := #[.string (⟨#[]⟩ : ByteArray), .bool false]) ?_ 0 _ rfl; exact Kq_ BK148) hb); replace HB := Kt_ HB GE148 hb; (try clear hb); (try clear hb2); (try clear hk); (try clear hi)) | ((with_reducible refine gate_dst (N := 8) rfl ?_); refine Ka_ 8 #[.string (⟨#[]⟩ : ByteArray), .bool false] 35 ?_; intro gb152 hg w38 hbox hb; have BK152 := Aside0.mk (hbox); have GW152 := Kw_ HB hg; have GE152 := GW152; have NB140_152 := Kl_ BK140 hg; have NB152_140 := Kr_ BK140 hg; have NB144_152 := Kl_ BK144 hg; have NB152_144 := Kr_ BK144 hg; have NB148_152 := Kl_ BK148 hg; have NB152_148 := Kr_ BK148 hg; replace BK140 := Kb_ BK140 hb; replace BK144 := Kb_ BK144 hb; replace BK148 := Kb_ BK148 hb; replace HB := Ks_ HB hb; clear hb hbox hg; have hnb39 := NB152_140.out; have hnc39 := NB140_152.out; have hnb40 := NB152_144.out; have hnc40 := NB144_152.out; have hnb41 := NB152_148.out; have hnc41 := NB148_152.out; obtain ⟨hcz42_0, hcz42_1, hfz42_0, hfz42_1⟩ := Ke2_ BK152.out) | ((with_reducible refine gate_callee (f := 17) rfl ?_); refine Kg_ (some 35) rfl rfl Try.func17 (by kernel_rfl) rfl #[.agg #[.string (⟨#[128, 0]⟩ : ByteArray), .bool false]] rfl ?_; (with_reducible refine (pack_Reader_Vary.calls k (⟨#[128, 0]⟩ : ByteArray) false t153 t154 true _ A5.out).mono ?_); rintro e w43 ⟨rfl, hb⟩; refine ⟨_, rfl, ?_⟩; replace BK140 := Kf_ BK140 NB140_152 hb; replace BK144 := Kf_ BK144 NB144_152 hb; replace BK148 := Kf_ BK148 NB148_152 hb; replace BK152 := Aside0.mk (blk_below (g := gb152) (o := .cells #[.string t150, .bool true] 35 (0, 0)) (by refine Kv_ ?_; refine blk_put (cs := #[.string t150, .bool false]) ?_ 1 _ rfl; refine Kv_ ?_; refine blk_put (cs := #[.string (⟨#[]⟩ : ByteArray), .bool false]) ?_ 0 _ rfl; exact Kq_ BK152) hb); replace HB := Kt_ HB GE152 hb; (try clear hb); (try clear hb2); (try clear hk); (try clear hi)) | ((with_reducible refine gate_dst (N := 10) rfl ?_); refine Ka_ 10 #[.string (⟨#[]⟩ : ByteArray), .bool false] 35 ?_; intro gb156 hg w44 hbox hb; have BK156 := Aside0.mk (hbox); have GW156 := Kw_ HB hg; have GE156 := GW156; have NB140_156 := Kl_ BK140 hg; have NB156_140 := Kr_ BK140 hg; have NB144_156 := Kl_ BK144 hg; have NB156_144 := Kr_ BK144 hg; have NB148_156 := Kl_ BK148 hg; have NB156_148 := Kr_ BK148 hg; have NB152_156 := Kl_ BK152 hg; have NB156_152 := Kr_ BK152 hg; replace BK140 := Kb_ BK140 hb; replace BK144 := Kb_ BK144 hb; replace BK148 := Kb_ BK148 hb; replace BK152 := Kb_ BK152 hb; replace HB := Ks_ HB hb; clear hb hbox hg; have hnb45 := NB156_140.out; have hnc45 := NB140_156.out; have hnb46 := NB156_144.out; have hnc46 := NB144_156.out; have hnb47 := NB156_148.out; have hnc47 := NB148_156.out; have hnb48 := NB156_152.out; have hnc48 := NB152_156.out; obtain ⟨hcz49_0, hcz49_1, hfz49_0, hfz49_1⟩ := Ke2_ BK156.out) | ((with_reducible refine gate_dst (N := 39) rfl ?_); refine Kd.R_lit (Kd.int .i64) _ 3 ?hg (N := 39) ?hd (xs := ([1, 2, 3] : List Int)) (inner := [.int .i64 1, .int .i64 2, .int .i64 3]) (ok := fun _ => True) (okp := fun _ => True) ?hr ?hp (fun _ hk => hk) trivial (Below.refl _ _) (Nat.le_refl _) (by simp) ?_; (case hd => rfl); (case hg => rfl); (case hr => first | (go_simp; done) | (go_simp; rfl)); (case hp => exact (Reps.one (show Kd.M (Kd.int .i64) _ _ _ 1 [.int .i64 1] from rfl) (Reps.one (show Kd.M (Kd.int .i64) _ _ _ 2 [.int .i64 2] from rfl) (Reps.one (show Kd.M (Kd.int .i64) _ _ _ 3 [.int .i64 3] from rfl) (Reps.none _ _))))); intro v158 w50 ho51 hb hg_ hnew_; clear hg_ hnew_; (first | rw [← Ny157.out] at ho51 | (simp only [Int.reduceToNat] at ho51; rw [← Ny157.out] at ho51)); have HO159 := Aside0.mk (Kd.R_lower ho51 (below_size (by repeat (first | (with_reducible first | exact HB.out | apply below_alloc | apply pw_below_drewN | apply below_drew1 | refine below_set ?_ GE140.out | refine below_set ?_ GE144.out | refine below_set ?_ GE148.out | refine below_set ?_ GE152.out | refine below_set ?_ GE156.out) | exact HB.out)))); replace BK140 := Kf_ BK140 NB140_156 hb; replace BK144 := Kf_ BK144 NB144_156 hb; replace BK148 := Kf_ BK148 NB148_156 hb; replace BK152 := Kf_ BK152 NB152_156 hb; replace BK156 := Aside0.mk (blk_below (g := gb156) (o := .cells #[.string t154, .bool true] 35 (0, 0)) (by refine Kv_ ?_; refine blk_put (cs := #[.string t154, .bool false]) ?_ 1 _ rfl; refine Kv_ ?_; refine blk_put (cs := #[.string (⟨#[]⟩ : ByteArray), .bool false]) ?_ 0 _ rfl; exact Kq_ BK156) hb); replace HB := Kt_ HB GE156 hb; clear hb ho51; obtain ⟨Ao52, co52, eo52⟩ := Kd.R_slice HO159.out; subst eo52) | ((with_reducible refine gate_callee (f := 26) rfl ?_); refine Kg_ (some 40) rfl rfl Try.func26 (by kernel_rfl) rfl #[.slice Ao52 y157.length co52] rfl ?_; (with_reducible refine (pack_Halves_int.calls _ _ y157 t160 t161 _ ?side1 ?side2 A6.out).mono ?_); (case side1 => repeat (first | exact (Kd.R_reads' HO159.out).2.2 | (with_reducible refine Kd.C_alloc ?_ _) | (with_reducible refine Kd.C_drewN ?_ _) | (with_reducible refine Kd.C_drew ?_))); (case side2 => exact (Kd.R_reads' HO159.out).2.1); rintro e w53 ⟨v162, v164, rfl, ho0, ho1, hb⟩; refine ⟨_, rfl, ?_⟩; have HO163 := Aside0.mk (Kd.R_lower (Kd.R_new' ho0 (Kd.R_lt (Ku_ HO159))) (below_size (by repeat (first | (with_reducible first | exact HB.out | apply below_alloc | apply pw_below_drewN | apply below_drew1 | refine below_set ?_ GE140.out | refine below_set ?_ GE144.out | refine below_set ?_ GE148.out | refine below_set ?_ GE152.out | refine below_set ?_ GE156.out) | exact HB.out)))); have HO165 := Aside0.mk (Kd.R_lower (Kd.R_new' ho1 (Kd.R_lt (Ku_ HO159))) (below_size (by repeat (first | (with_reducible first | exact HB.out | apply below_alloc | apply pw_below_drewN | apply below_drew1 | refine below_set ?_ GE140.out | refine below_set ?_ GE144.out | refine below_set ?_ GE148.out | refine below_set ?_ GE152.out | refine below_set ?_ GE156.out) | exact HB.out)))); replace HO159 := Aside0.mk (Kd.R_mono (Kd.R_told (Kd.R_told (Kd.R_old (Ku_ HO159) hb) (Kd.R_base ho0)) (Kd.R_base ho1)) (fun _ h_ => h_.1)); replace BK140 := Kb_ BK140 hb; replace BK144 := Kb_ BK144 hb; replace BK148 := Kb_ BK148 hb; replace BK152 := Kb_ BK152 hb; replace BK156 := Kb_ BK156 hb; replace HB := Ks_ HB hb; (try clear hb); (try clear hb2); (try clear hk); (try clear hi); (try clear ho0); (try clear ho1)) | ((with_reducible refine gate_callee (f := 12) rfl ?_); refine Kg_ (some 43) rfl rfl Try.func12 (by kernel_rfl) rfl #[.int .u64 258, .int .i64 2] rfl ?_; (with_reducible refine (pack_Number.calls 258 2 t166 _ A7.out).mono ?_); rintro e w54 ⟨rfl, hb⟩; refine ⟨_, rfl, ?_⟩; replace HO159 := Aside0.mk (Kd.R_below (Ku_ HO159) hb); replace HO163 := Aside0.mk (Kd.R_below (Ku_ HO163) hb); replace HO165 := Aside0.mk (Kd.R_below (Ku_ HO165) hb); replace BK140 := Kb_ BK140 hb; replace BK144 := Kb_ BK144 hb; replace BK148 := Kb_ BK148 hb; replace BK152 := Kb_ BK152 hb; replace BK156 := Kb_ BK156 hb; replace HB := Ks_ HB hb; (try clear hb); (try clear hb2); (try clear hk); (try clear hi)) | (go_at_call 23; (with_reducible refine (pack_Vary.calls k 300 t167 _ A9.out).mono ?_); rintro e w55 ⟨rfl, hb⟩; replace HO159 := Aside0.mk (Kd.R_below (Ku_ HO159) hb); replace HO163 := Aside0.mk (Kd.R_below (Ku_ HO163) hb); replace HO165 := Aside0.mk (Kd.R_below (Ku_ HO165) hb); replace BK140 := Kb_ BK140 hb; replace BK144 := Kb_ BK144 hb; replace BK148 := Kb_ BK148 hb; replace BK152 := Kb_ BK152 hb; replace BK156 := Kb_ BK156 hb; replace HB := Ks_ HB hb; (try clear hb); (try clear hb2); (try clear hk); (try clear hi)) | (go_at_call 13; (with_reducible refine (pack_Text.calls k (⟨#[97, 98]⟩ : ByteArray) t168 _ A11.out).mono ?_); rintro e w56 ⟨rfl, hb⟩; replace HO159 := Aside0.mk (Kd.R_below (Ku_ HO159) hb); replace HO163 := Aside0.mk (Kd.R_below (Ku_ HO163) hb); replace HO165 := Aside0.mk (Kd.R_below (Ku_ HO165) hb); replace BK140 := Kb_ BK140 hb; replace BK144 := Kb_ BK144 hb; replace BK148 := Kb_ BK148 hb; replace BK152 := Kb_ BK152 hb; replace BK156 := Kb_ BK156 hb; replace HB := Ks_ HB hb; (try clear hb); (try clear hb2); (try clear hk); (try clear hi); obtain ⟨hcz57_0, hcz57_1, hfz57_0, hfz57_1⟩ := Ke2_ BK140.out; obtain ⟨hcz58_0, hcz58_1, hfz58_0, hfz58_1⟩ := Ke2_ BK144.out; obtain ⟨hcz59_0, hcz59_1, hfz59_0, hfz59_1⟩ := Ke2_ BK148.out; obtain ⟨hcz60_0, hcz60_1, hfz60_0, hfz60_1⟩ := Ke2_ BK152.out; obtain ⟨hcz61_0, hcz61_1, hfz61_0, hfz61_1⟩ := Ke2_ BK156.out; obtain ⟨Ao62, co62, eo62⟩ := Kd.R_slice HO163.out; subst eo62; obtain ⟨Ao63, co63, eo63⟩ := Kd.R_slice HO165.out; subst eo63; have p169 : 0 ≤ (0 : Int) := (by omega); have q169 : 0 < (t161.length : Int) := of_decide_eq_true (by first | (with_reducible assumption) | assumption); obtain ⟨ad169, e169, hx169_0⟩ := Kd.at_int (Kd.R_reads' HO165.out).2.2 0 p169 q169; cases e169; have qi169 : (0 < t161.length) = True := eq_true (by omega); (try rw [show ((0 : Int)).toNat = 0 from rfl] at hx169_0); (try rw [Addr.add_zero'] at hx169_0); replace p169 := eq_true p169; replace q169 := eq_true q169))
  go_ret
  exact ⟨Kh_, by repeat (first | (with_reducible first | exact HB.out | apply below_alloc | apply pw_below_drewN | apply below_drew1 | refine below_set ?_ GE140.out | refine below_set ?_ GE144.out | refine below_set ?_ GE148.out | refine below_set ?_ GE152.out | refine below_set ?_ GE156.out) | exact HB.out)⟩
end Go.Proofs.Ytlpipngfpcpfbaa.Q
