import Derived.Test.YtoagfdpgnfinhaaGStreamSends2
namespace Go.Proofs.Ytoagfdpgnfinhaa.Q
open Go.RowKit Go.Proofs.YtoagfdpgnfinhaaW.PrintWords Go.Proofs.YtoagfdpgnfinhaaW.PrintLast Go.Proofs.YtoagfdpgnfinhaaW.PrintMore
attribute [local go_sem] max2_int min2_int max_two min_two max_three min_three max_four min_four   -- for this text's walks alone
set_option linter.unusedVariables false
set_option linter.unusedSimpArgs false
def numL (a0 : Int) (n : Nat) : List Int := (List.range n).map fun k => a0 / (2 ^ (8 * (n - 1 - k)) : Nat) % 256
def pack_Number.f (a0 a1 : Int) : Option (ByteArray) := if a1 < 1 then some (⟨#[]⟩ : ByteArray) else if 8 < a1 then some (⟨#[]⟩ : ByteArray) else some (strOfNums (numL a0 a1.toNat))
theorem conv_arr (P : Program) (src dst e T : TypeId) (hs : P.underlying src = some (.slice e)) (he : P.underlying e = some (.int .u8)) (hd : P.underlying dst = some .string) (w : World) (xs : List Int) (n c : Nat) (hn : n ≤ xs.length) :
  (convert src dst (.slice (some ⟨w.heap.size, 0, none⟩) n c)).run P (w.alloc (.cells (xs.map (Value.int .u8)).toArray T)) = .ok (.string (strOfNums (xs.take n))) (w.alloc (.cells (xs.map (Value.int .u8)).toArray T)) := by
 refine run_convert_bytes_arg _ src e hs he w.heap.size 0 n c (xs.take n) (by simp; omega) (fun i hi => ?_) dst hd
 rw [Nat.zero_add]
 have hlt : i < xs.length := by omega
 rw [World.cell?_alloc_at (hn := rfl)]
 simp [hi, hlt]
theorem pack_Number.none_ (a0 a1 : Int) (h : a1 < 1 ∨ 8 < a1) (w : World) :
  Calls Try.prog 59 #[.int .u64 a0, .int .i64 a1] w fun e w' => e = .returned (.string ⟨#[]⟩) ∧ Below w.heap.size w w' := by
 rcases h with h | h
 ·have b1 : decide (a1 < 1) = true := decide_eq_true h
  go_enter Try.func59, Try.ntmps59
  go_wp2
  go_ret
  exact ⟨rfl, Below.refl _ _⟩
 ·have b1 : decide (a1 < 1) = false := decide_eq_false (by omega)
  have b2 : decide (8 < a1) = true := decide_eq_true h
  go_enter Try.func59, Try.ntmps59
  go_wp2
  go_ret
  exact ⟨rfl, Below.refl _ _⟩
set_option maxHeartbeats 4000000 in
theorem pack_Number.some_ (a0 : Int) (n : Nat) (h1 : 1 ≤ n) (h8 : n ≤ 8) (w : World) :
  Calls Try.prog 59 #[.int .u64 a0, .int .i64 (n : Int)] w fun e w' => e = .returned (.string (strOfNums (numL a0 n))) ∧ Below w.heap.size w w' := by
 have hcv := fun x0 x1 x2 x3 x4 x5 x6 x7 m (hm : m ≤ [x0, x1, x2, x3, x4, x5, x6, x7].length) => conv_arr Try.prog 91 9 5 161 Try.underlying91 Try.underlying5 Try.underlying9 w [x0, x1, x2, x3, x4, x5, x6, x7] m 8 hm
 simp only [List.map_cons, List.map_nil] at hcv
 obtain rfl | rfl | rfl | rfl | rfl | rfl | rfl | rfl : n = 1 ∨ n = 2 ∨ n = 3 ∨ n = 4 ∨ n = 5 ∨ n = 6 ∨ n = 7 ∨ n = 8 := by omega
 ·replace hcv := fun x0 x1 x2 x3 x4 x5 x6 x7 => hcv x0 x1 x2 x3 x4 x5 x6 x7 1 (by simp)
  simp only [List.take] at hcv
  go_enter Try.func59, Try.ntmps59
  go_wp2
  refine wp_loop_rounds 2 ?_
  iterate 2 (rw [rounds_succ]; go_wp2)
  go_ret
  exact ⟨by simp [numL, List.range, List.range.loop], (Below.refl _ _).alloc (Nat.le_refl _) _⟩
 ·replace hcv := fun x0 x1 x2 x3 x4 x5 x6 x7 => hcv x0 x1 x2 x3 x4 x5 x6 x7 2 (by simp)
  simp only [List.take] at hcv
  go_enter Try.func59, Try.ntmps59
  go_wp2
  refine wp_loop_rounds 3 ?_
  iterate 3 (rw [rounds_succ]; go_wp2)
  go_ret
  exact ⟨by simp [numL, List.range, List.range.loop], (Below.refl _ _).alloc (Nat.le_refl _) _⟩
 ·replace hcv := fun x0 x1 x2 x3 x4 x5 x6 x7 => hcv x0 x1 x2 x3 x4 x5 x6 x7 3 (by simp)
  simp only [List.take] at hcv
  go_enter Try.func59, Try.ntmps59
  go_wp2
  refine wp_loop_rounds 4 ?_
  iterate 4 (rw [rounds_succ]; go_wp2)
  go_ret
  exact ⟨by simp [numL, List.range, List.range.loop], (Below.refl _ _).alloc (Nat.le_refl _) _⟩
 ·replace hcv := fun x0 x1 x2 x3 x4 x5 x6 x7 => hcv x0 x1 x2 x3 x4 x5 x6 x7 4 (by simp)
  simp only [List.take] at hcv
  go_enter Try.func59, Try.ntmps59
  go_wp2
  refine wp_loop_rounds 5 ?_
  iterate 5 (rw [rounds_succ]; go_wp2)
  go_ret
  exact ⟨by simp [numL, List.range, List.range.loop], (Below.refl _ _).alloc (Nat.le_refl _) _⟩
 ·replace hcv := fun x0 x1 x2 x3 x4 x5 x6 x7 => hcv x0 x1 x2 x3 x4 x5 x6 x7 5 (by simp)
  simp only [List.take] at hcv
  go_enter Try.func59, Try.ntmps59
  go_wp2
  refine wp_loop_rounds 6 ?_
  iterate 6 (rw [rounds_succ]; go_wp2)
  go_ret
  exact ⟨by simp [numL, List.range, List.range.loop], (Below.refl _ _).alloc (Nat.le_refl _) _⟩
 ·replace hcv := fun x0 x1 x2 x3 x4 x5 x6 x7 => hcv x0 x1 x2 x3 x4 x5 x6 x7 6 (by simp)
  simp only [List.take] at hcv
  go_enter Try.func59, Try.ntmps59
  go_wp2
  refine wp_loop_rounds 7 ?_
  iterate 7 (rw [rounds_succ]; go_wp2)
  go_ret
  exact ⟨by simp [numL, List.range, List.range.loop], (Below.refl _ _).alloc (Nat.le_refl _) _⟩
 ·replace hcv := fun x0 x1 x2 x3 x4 x5 x6 x7 => hcv x0 x1 x2 x3 x4 x5 x6 x7 7 (by simp)
  simp only [List.take] at hcv
  go_enter Try.func59, Try.ntmps59
  go_wp2
  refine wp_loop_rounds 8 ?_
  iterate 8 (rw [rounds_succ]; go_wp2)
  go_ret
  exact ⟨by simp [numL, List.range, List.range.loop], (Below.refl _ _).alloc (Nat.le_refl _) _⟩
 ·replace hcv := fun x0 x1 x2 x3 x4 x5 x6 x7 => hcv x0 x1 x2 x3 x4 x5 x6 x7 8 (by simp)
  simp only [List.take] at hcv
  go_enter Try.func59, Try.ntmps59
  go_wp2
  refine wp_loop_rounds 9 ?_
  iterate 9 (rw [rounds_succ]; go_wp2)
  go_ret
  exact ⟨by simp [numL, List.range, List.range.loop], (Below.refl _ _).alloc (Nat.le_refl _) _⟩
theorem pack_Number.calls (a0 : Int) (a1 : Int) (r : ByteArray) (w : World) (h : pack_Number.f a0 a1 = some r) :
  Calls Try.prog 59 #[.int .u64 a0, .int .i64 a1] w fun e w' => e = .returned (.string r) ∧ Below w.heap.size w w' := by
 unfold pack_Number.f at h
 by_cases c1 : a1 < 1
 ·rw [if_pos c1] at h
  obtain rfl := Option.some.inj h
  exact pack_Number.none_ a0 a1 (.inl c1) w
 ·rw [if_neg c1] at h
  by_cases c2 : 8 < a1
  ·rw [if_pos c2] at h
   obtain rfl := Option.some.inj h
   exact pack_Number.none_ a0 a1 (.inr c2) w
  ·rw [if_neg c2] at h
   obtain rfl := Option.some.inj h
   obtain ⟨n, rfl⟩ := Int.eq_ofNat_of_zero_le (show 0 ≤ a1 by omega)
   rw [Int.toNat_natCast]
   exact pack_Number.some_ a0 n (by omega) (by omega) w
def pack_Vary.l0 : Nat → Int → List Int → Option (ByteArray)
 | 0, _, _ => none
 | k + 1, x0, x3 => if x0 ≥ 128 then (if x3.length < 140737488355328 then (pack_Vary.l0 k (x0 / 128) (x3 ++ [Go.bits .or .u8 ((x0) % 256) 128])) else (none)) else (if x3.length < 140737488355328 then (some (strOfNums (x3 ++ [(x0) % 256]))) else (none))
def pack_Vary.f (k : Nat) (a0 : Int) : Option (ByteArray) := pack_Vary.l0 k a0 ([] : List Int)
set_option maxHeartbeats 8000000 in
set_option maxRecDepth 100000 in
theorem pack_Vary.calls (k : Nat) (a0 : Int) (r : ByteArray) (w : World) (h : pack_Vary.f k a0 = some r) :
  Calls Try.prog 60 #[.int .u64 a0] w fun e w' => e = .returned (.string r) ∧ Below w.heap.size w w' := by
 have HB := Aside0.mk (Below.refl w.heap.size w)
 have H : (pack_Vary.l0 k a0 ([] : List Int)) = some r := h
 clear h
 have H' := Aside0.mk H
 clear H
 go_enter Try.func60, Try.ntmps60
 go_wp2
 go_loopg [0, 3] k (fun kq v0 v3 w' => ∃ (x0_1 : Int) (x3_1 : List Int), v0 = .int .u64 x0_1 ∧ Aside0 (pack_Vary.l0 kq x0_1 x3_1 = some r) ∧ Aside0 (kq ≤ k) ∧ Aside0 (Kd.R (Kd.int .u8) 5 w' w.heap.size (fun _ => True) v3 x3_1) ∧ Aside0 (Below w.heap.size w w'))
 case atStart => exact ⟨(a0), (([] : List Int)), (by first | rfl | (simp; done) | (simp [*]; done)), H', ⟨Nat.le_refl _⟩, ⟨by first | exact Kd.R_nil _ _ _ _ _ | exact Kd.N_nil _ _ _ _ _ | exact Kd.V_nil _ _ _ _ _ | exact Kd.Q_nil _ _ _ _ _ | exact Kd.S_nil _ _ _ _ _⟩, ⟨Ky_ HB⟩⟩
 case round =>
  clear H'
  obtain ⟨x0_1, x3_1, rfl, HA, HK1, HO_3, HB⟩ := hrel
  cases gk with
  | zero => exact absurd HA.out (by simp [pack_Vary.l0])
  | succ k1 =>
   have H := HA.out
   clear HA
   simp only [pack_Vary.l0] at H
   by_cases c2 : x0_1 ≥ 128
   rotate_left
   ·rw [if_neg c2] at H
    have c2b0 : decide (128 ≤ x0_1) = false := decide_eq_false c2
    clear c2
    by_cases c5 : x3_1.length < 140737488355328
    rotate_left
    ·rw [if_neg c5] at H
     exact absurd H (by simp)
    rw [if_pos c5] at H
    have LMc5 := Aside0.mk c5
    clear c5
    obtain ⟨y129, hy129⟩ : ∃ y_ : List Int, y_ = (x3_1 ++ [(x0_1) % 256]) := ⟨_, rfl⟩
    replace H : (some (strOfNums y129)) = some r := by first | (rw [hy129]; with_reducible exact H) | (have H2_ := (Option.bind_some _ _).symm.trans H; rw [hy129]; with_reducible exact H2_) | (have H2_ := (Option.bind_some _ _).symm.trans H; with_reducible exact H2_) | with_reducible exact H | (rw [hy129]; exact H) | exact H
    have Ny129 := Aside0.mk hy129
    clear hy129
    obtain rfl := Option.some.inj H
    go_wp2_with (first | ((with_reducible refine gate_builtin (b := .append) (xs := #[.tmp 14, .tmp 17]) rfl ?_); at_builtin; refine Kd.R_append (Kd.int .u8) (w0 := w) w.heap.size rfl (.tmp 14) (.tmp 17) 91 5 (.int .u8 0) 1 rfl Try.underlying91 info5 rfl (by decide) (by omega) u3 x3_1 ((x0_1) % 256) [.int .u8 ((x0_1) % 256)] (fun _ => True) (fun _ => False) rfl rfl ?aP (fun _ hk => hk.elim) ?aF ?aO ?aB ?aS ?aL ?_; (case aP => exact rfl); (case aB => exact (Ky_ HB)); (case aF => exact (fun _ _ => trivial)); (case aO => exact (Ku_ HO_3)); (case aS => exact (below_size (Ky_ HB))); (case aL => have := LMc5.out; omega); intro v130 w6 ho hb hg hat; rw [← Ny129.out] at ho; have HO131 := Aside0.mk (ho); replace HB := Aside0.mk (hb); clear HO_3; clear ho hb hg hat; have hcv7 := own_string (P := Try.prog) Try.underlying91 Try.underlying5 Try.underlying9 (Kd.own_of_R HO131.out)))
    go_ret
    exact ⟨Kh_, Ky_ HB⟩
   rw [if_pos c2] at H
   have c2b0 : decide (128 ≤ x0_1) = true := decide_eq_true c2
   clear c2
   by_cases c3 : x3_1.length < 140737488355328
   rotate_left
   ·rw [if_neg c3] at H
    exact absurd H (by simp)
   rw [if_pos c3] at H
   have LMc3 := Aside0.mk c3
   clear c3
   obtain ⟨y126, hy126⟩ : ∃ y_ : List Int, y_ = (x3_1 ++ [Go.bits .or .u8 ((x0_1) % 256) 128]) := ⟨_, rfl⟩
   replace H : (pack_Vary.l0 k1 (x0_1 / 128) y126) = some r := by first | (rw [hy126]; with_reducible exact H) | (have H2_ := (Option.bind_some _ _).symm.trans H; rw [hy126]; with_reducible exact H2_) | (have H2_ := (Option.bind_some _ _).symm.trans H; with_reducible exact H2_) | with_reducible exact H | (rw [hy126]; exact H) | exact H
   have Ny126 := Aside0.mk hy126
   clear hy126
   have H' := Aside0.mk H
   clear H
   go_wp2_with (first | ((with_reducible refine gate_builtin (b := .append) (xs := #[.tmp 8, .tmp 12]) rfl ?_); at_builtin; refine Kd.R_append (Kd.int .u8) (w0 := w) w.heap.size rfl (.tmp 8) (.tmp 12) 91 5 (.int .u8 0) 1 rfl Try.underlying91 info5 rfl (by decide) (by omega) u3 x3_1 (Go.bits .or .u8 ((x0_1) % 256) 128) [.int .u8 (Go.bits .or .u8 ((x0_1) % 256) 128)] (fun _ => True) (fun _ => False) rfl rfl ?aP (fun _ hk => hk.elim) ?aF ?aO ?aB ?aS ?aL ?_; (case aP => exact rfl); (case aB => exact (Ky_ HB)); (case aF => exact (fun _ _ => trivial)); (case aO => exact (Ku_ HO_3)); (case aS => exact (below_size (Ky_ HB))); (case aL => have := LMc3.out; omega); intro v127 w4 ho hb hg hat; rw [← Ny126.out] at ho; have HO128 := Aside0.mk (ho); replace HB := Aside0.mk (hb); clear HO_3; clear ho hb hg hat))
   go_roundg k1
   case measure => have := HK1.out; omega
   case rel => exact ⟨(x0_1 / 128), (y126), (by first | rfl | (simp; done) | (simp [*]; done)), H', ⟨by have := HK1.out; omega⟩, ⟨by (with_reducible repeat (first | apply Kd.R_alloc | apply Kd.R_drewN | apply Kd.R_drew)); exact HO128.out⟩, ⟨Ky_ HB⟩⟩
def pack_Text.f (k : Nat) (a0 : ByteArray) : Option (ByteArray) := if a0.size ≤ 9223372036854775807 then ((pack_Vary.f k (a0.size : Int)).bind fun t132 => (if t132.size + a0.size ≤ 9223372036854775807 then (some (t132 ++ a0)) else (none))) else (none)
set_option maxHeartbeats 8000000 in
set_option maxRecDepth 100000 in
theorem pack_Text.calls (k : Nat) (a0 : ByteArray) (r : ByteArray) (w : World) (h : pack_Text.f k a0 = some r) :
  Calls Try.prog 62 #[.string a0] w fun e w' => e = .returned (.string r) ∧ Below w.heap.size w w' := by
 have HB := Aside0.mk (Below.refl w.heap.size w)
 have H : (if a0.size ≤ 9223372036854775807 then ((pack_Vary.f k (a0.size : Int)).bind fun t132 => (if t132.size + a0.size ≤ 9223372036854775807 then (some (t132 ++ a0)) else (none))) else (none)) = some r := h
 (try (have Hs_ := H; simp only [ByteArray.size_append, Int.natCast_add] at Hs_))
 clear h
 by_cases c2 : a0.size ≤ 9223372036854775807
 rotate_left
 ·rw [if_neg c2] at H
  exact absurd H (by simp)
 rw [if_pos c2] at H
 have c2b0 := eq_true c2
 have c2b1 : decide (a0.size ≤ 9223372036854775807) = true := decide_eq_true c2
 try have c2b2 : (9223372036854775807 < a0.size) = False := eq_false (Nat.not_lt.2 c2)
 replace H := Option.bind_eq_some_iff.mp H
 obtain ⟨t132, A30, H⟩ := H
 replace H : (if t132.size + a0.size ≤ 9223372036854775807 then (some (t132 ++ a0)) else (none)) = some r := H
 have A3 := Aside0.mk A30
 clear A30
 by_cases c4 : t132.size + a0.size ≤ 9223372036854775807
 rotate_left
 ·rw [if_neg c4] at H
  exact absurd H (by simp)
 rw [if_pos c4] at H
 have c4b0 := eq_true c4
 have c4b1 : decide (t132.size + a0.size ≤ 9223372036854775807) = true := decide_eq_true c4
 try have c4b2 : (9223372036854775807 < t132.size + a0.size) = False := eq_false (Nat.not_lt.2 c4)
 obtain rfl := Option.some.inj H
 go_enter Try.func62, Try.ntmps62
 go_wp2_with (first | ((with_reducible refine gate_callee (f := 60) rfl ?_); refine Kg_ (some 6) rfl rfl Try.func60 (by kernel_rfl) rfl #[.int .u64 (a0.size : Int)] rfl ?_; (with_reducible refine (pack_Vary.calls k (a0.size : Int) t132 _ A3.out).mono ?_); rintro e w5 ⟨rfl, hb⟩; refine ⟨_, rfl, ?_⟩; replace HB := Ks_ HB hb; (try clear hb); (try clear hb2); (try clear hk); (try clear hi)))
 go_ret
 exact ⟨Kh_, Ky_ HB⟩
def vec_Put.f (k : Nat) (a0_0 a0_1 a0_2 a0_3 : Int) : Option ByteArray :=
 (pack_Vary.f k a0_0).bind fun t0 => (pack_Vary.f k a0_1).bind fun t1 => (pack_Vary.f k a0_2).bind fun t2 => (pack_Vary.f k a0_3).bind fun t3 =>
  if t0.size + t1.size + t2.size + t3.size ≤ 9223372036854775807 then some (t0 ++ t1 ++ t2 ++ t3) else none
theorem vec_Put.at_ (xs : Array Value) (hn : xs.size = 4) (i : Nat) (v : Value) (W : World) (h : xs[i]? = some v) :
  (Instr.index 28 (.agg xs) (.int .i64 (i : Int))).run Try.prog W = .ok v W := by
 have hu := Try.underlying28
 have hi : i < 4 := by
  have := (Array.getElem?_eq_some_iff.1 h).1
  omega
 have hs : (sizeOf 26).run Try.prog W = .ok 1 W := by go_simp
 have hp : (part 26 xs i).run Try.prog W = .ok v W := by
  unfold part
  go_simp
  exact (Array.getElem?_eq_some_iff.1 h).2
 simp [Instr.index, asIntOf, Sem.run_bind, run_underlying hu, hs, hp, hi]
set_option maxHeartbeats 8000000 in
set_option maxRecDepth 100000 in
theorem vec_Put.calls (k : Nat) (a0_0 a0_1 a0_2 a0_3 : Int) (r : ByteArray) (w : World) (h : vec_Put.f k a0_0 a0_1 a0_2 a0_3 = some r) :
  Calls Try.prog 102 #[.agg #[.int .u64 a0_0, .int .u64 a0_1, .int .u64 a0_2, .int .u64 a0_3]] w fun e w' => e = .returned (.string r) ∧ Below w.heap.size w w' := by
 unfold vec_Put.f at h
 obtain ⟨t0, A0, h⟩ := Option.bind_eq_some_iff.1 h
 obtain ⟨t1, A1, h⟩ := Option.bind_eq_some_iff.1 h
 obtain ⟨t2, A2, h⟩ := Option.bind_eq_some_iff.1 h
 obtain ⟨t3, A3, h⟩ := Option.bind_eq_some_iff.1 h
 by_cases hz : t0.size + t1.size + t2.size + t3.size ≤ 9223372036854775807
 ·rw [if_pos hz] at h
  obtain rfl := Option.some.inj h
  have z0 : t0.size ≤ 9223372036854775807 := by omega
  have z1 : t0.size + t1.size ≤ 9223372036854775807 := by omega
  have z2 : t0.size + t1.size + t2.size ≤ 9223372036854775807 := by omega
  replace A0 := Aside0.mk A0
  replace A1 := Aside0.mk A1
  replace A2 := Aside0.mk A2
  replace A3 := Aside0.mk A3
  clear h
  have hu := Try.underlying28
  have hu2 := Try.underlying26
  have x0 := fun W => vec_Put.at_ #[.int .u64 a0_0, .int .u64 a0_1, .int .u64 a0_2, .int .u64 a0_3] rfl 0 (.int .u64 a0_0) W rfl
  have x1 := fun W => vec_Put.at_ #[.int .u64 a0_0, .int .u64 a0_1, .int .u64 a0_2, .int .u64 a0_3] rfl 1 (.int .u64 a0_1) W rfl
  have x2 := fun W => vec_Put.at_ #[.int .u64 a0_0, .int .u64 a0_1, .int .u64 a0_2, .int .u64 a0_3] rfl 2 (.int .u64 a0_2) W rfl
  have x3 := fun W => vec_Put.at_ #[.int .u64 a0_0, .int .u64 a0_1, .int .u64 a0_2, .int .u64 a0_3] rfl 3 (.int .u64 a0_3) W rfl
  simp only [Int.ofNat_eq_natCast, Int.cast_ofNat_Int] at x0 x1 x2 x3
  go_enter Try.func102, Try.ntmps102
  go_wp2
  generalize hW : (w.alloc (Obj.cells _ _)) = W0
  have HB : Below w.heap.size w W0 := by rw [← hW]; exact below_alloc (Below.refl _ _) _
  replace HB := Aside0.mk HB
  clear hW
  refine wp_loop_rounds 5 ?_
  rw [rounds_succ]
  go_wp2_with (go_at_call 60; refine (pack_Vary.calls k _ t0 _ A0.out).mono ?_; rintro e w1 ⟨rfl, hb⟩; have HB1 := Aside0.mk (below_step HB.out hb); clear hb)
  rw [rounds_succ]
  go_wp2_with (go_at_call 60; refine (pack_Vary.calls k _ t1 _ A1.out).mono ?_; rintro e w2 ⟨rfl, hb⟩; have HB2 := Aside0.mk (below_step HB1.out hb); clear hb)
  rw [rounds_succ]
  go_wp2_with (go_at_call 60; refine (pack_Vary.calls k _ t2 _ A2.out).mono ?_; rintro e w3 ⟨rfl, hb⟩; have HB3 := Aside0.mk (below_step HB2.out hb); clear hb)
  rw [rounds_succ]
  go_wp2_with (go_at_call 60; refine (pack_Vary.calls k _ t3 _ A3.out).mono ?_; rintro e w4 ⟨rfl, hb⟩; have HB4 := Aside0.mk (below_step HB3.out hb); clear hb)
  rw [rounds_succ]
  go_wp2
  go_ret
  exact ⟨by first | rfl | simp, HB4.out⟩
 ·rw [if_neg hz] at h
  exact absurd h (by simp)
def stamp_Put.f (k : Nat) (a0_0 : Int) (a0_1 : Int) (a0_2 : Int) (a0_3 : Int) (a0_4 : Int) : Option (ByteArray × Bool) := (stamp_Right.f a0_0 a0_1 a0_2 a0_3 a0_4).bind fun t134 => (if t134 = true then ((pack_Number.f (IntKind.u64.wrap (a0_4)) 1).bind fun t135 => ((vec_Put.f k a0_0 a0_1 a0_2 a0_3).bind fun t136 => (if t135.size + t136.size ≤ 9223372036854775807 then (some (t135 ++ t136, true)) else (none)))) else (some ((⟨#[]⟩ : ByteArray), false)))
def stamp_Put.T3 : Bool × List (List Nat × List Nat) := (true, [([], []), ([0], [0]), ([1], [1]), ([2], [2]), ([], []), ([4], [4]), ([5, 3], [5]), ([3, 6], [3, 6]), ([7, 6, 0, 1, 2, 3, 4, 5, 6, 7], [7]), ([8, 0, 1, 2, 3, 4, 5, 6, 7, 8], [])])
def stamp_Put.B3 : List Nat := [0, 1, 3, 7, 0, 16, 63, 127, 255, 511]
theorem stamp_Put.tab3 : rtab .any (opsOf Try.f88 3) = stamp_Put.T3 := by kernel_rfl
theorem stamp_Put.bits3 : waitsOk stamp_Put.T3.2 stamp_Put.B3 = true := by kernel_rfl
set_option maxHeartbeats 8000000 in
set_option maxRecDepth 100000 in
theorem stamp_Put.calls (k : Nat) (a0_0 : Int) (a0_1 : Int) (a0_2 : Int) (a0_3 : Int) (a0_4 : Int) (r1 : ByteArray) (r2 : Bool) (w : World) (h : stamp_Put.f k a0_0 a0_1 a0_2 a0_3 a0_4 = some (r1, r2)) :
  Calls Try.prog 88 #[.agg #[.int .u64 a0_0, .int .u64 a0_1, .int .u64 a0_2, .int .u64 a0_3, .int .i64 a0_4]] w fun e w' => e = .returned (.tuple #[.string r1, .bool r2]) ∧ Below w.heap.size w w' := by
 have hu30 := Try.underlying30
 have hu28 := Try.underlying28
 have HB := Aside0.mk (Below.refl w.heap.size w)
 have H : ((stamp_Right.f a0_0 a0_1 a0_2 a0_3 a0_4).bind fun t134 => (if t134 = true then ((pack_Number.f (IntKind.u64.wrap (a0_4)) 1).bind fun t135 => ((vec_Put.f k a0_0 a0_1 a0_2 a0_3).bind fun t136 => (if t135.size + t136.size ≤ 9223372036854775807 then (some (t135 ++ t136, true)) else (none)))) else (some ((⟨#[]⟩ : ByteArray), false)))) = some (r1, r2) := h
 (try (have Hs_ := H; simp only [ByteArray.size_append, Int.natCast_add] at Hs_))
 clear h
 replace H := Option.bind_eq_some_iff.mp H
 obtain ⟨t134, A20, H⟩ := H
 replace H : (if t134 = true then ((pack_Number.f (IntKind.u64.wrap (a0_4)) 1).bind fun t135 => ((vec_Put.f k a0_0 a0_1 a0_2 a0_3).bind fun t136 => (if t135.size + t136.size ≤ 9223372036854775807 then (some (t135 ++ t136, true)) else (none)))) else (some ((⟨#[]⟩ : ByteArray), false))) = some (r1, r2) := H
 have A2 := Aside0.mk A20
 clear A20
 by_cases c3 : t134 = true
 rotate_left
 ·replace c3 := Bool.eq_false_iff.mpr c3
  subst c3
  have H1 : (some ((⟨#[]⟩ : ByteArray), false)) = some (r1, r2) := by rw [if_neg (show ¬ (false = true) by decide)] at H; exact H
  clear H
  have H := H1
  clear H1
  simp only [Option.some.injEq, Prod.mk.injEq] at H
  obtain ⟨rfl, rfl⟩ := H
  go_enter Try.func88, Try.ntmps88
  go_wp2_with (first | ((with_reducible refine gate_dst (N := 1) rfl ?_); refine Ka_ 1 #[.int .u64 a0_0, .int .u64 a0_1, .int .u64 a0_2, .int .u64 a0_3, .int .i64 a0_4] 30 ?_; intro gb133 hg w13 hbox hb; have BK133 := Aside0.mk (hbox); have GW133 := Kw_ HB hg; have GE133 := GW133; replace HB := Ks_ HB hb; clear hb hbox hg; obtain ⟨hcz14_0, hcz14_1, hcz14_2, hcz14_3, hcz14_4, hfz14_0, hfz14_1, hfz14_2, hfz14_3, hfz14_4⟩ := Ke5_ BK133.out) | ((with_reducible refine gate_callee (f := 69) rfl ?_); refine Kg_ (some 5) rfl rfl Try.func69 (by kernel_rfl) rfl #[.agg #[.int .u64 a0_0, .int .u64 a0_1, .int .u64 a0_2, .int .u64 a0_3, .int .i64 a0_4]] rfl ?_; (with_reducible refine (stamp_Right.calls a0_0 a0_1 a0_2 a0_3 a0_4 false _ A2.out).mono ?_); rintro e w15 ⟨rfl, hb⟩; refine ⟨_, rfl, ?_⟩; replace BK133 := Kb_ BK133 hb; replace HB := Ks_ HB hb; (try clear hb); (try clear hb2); (try clear hk); (try clear hi)))
  go_ret2
  exact ⟨Kh_, Kz_ HB GE133⟩
 subst c3
 have H1 : ((pack_Number.f (IntKind.u64.wrap (a0_4)) 1).bind fun t135 => ((vec_Put.f k a0_0 a0_1 a0_2 a0_3).bind fun t136 => (if t135.size + t136.size ≤ 9223372036854775807 then (some (t135 ++ t136, true)) else (none)))) = some (r1, r2) := by rw [if_pos rfl] at H; exact H
 clear H
 have H := H1
 clear H1
 replace H := Option.bind_eq_some_iff.mp H
 obtain ⟨t135, A40, H⟩ := H
 replace H : ((vec_Put.f k a0_0 a0_1 a0_2 a0_3).bind fun t136 => (if t135.size + t136.size ≤ 9223372036854775807 then (some (t135 ++ t136, true)) else (none))) = some (r1, r2) := H
 have A4 := Aside0.mk A40
 clear A40
 replace H := Option.bind_eq_some_iff.mp H
 obtain ⟨t136, A50, H⟩ := H
 replace H : (if t135.size + t136.size ≤ 9223372036854775807 then (some (t135 ++ t136, true)) else (none)) = some (r1, r2) := H
 have A5 := Aside0.mk A50
 clear A50
 by_cases c6 : t135.size + t136.size ≤ 9223372036854775807
 rotate_left
 ·rw [if_neg c6] at H
  exact absurd H (by simp)
 rw [if_pos c6] at H
 have c6b0 := eq_true c6
 have c6b1 : decide (t135.size + t136.size ≤ 9223372036854775807) = true := decide_eq_true c6
 try have c6b2 : (9223372036854775807 < t135.size + t136.size) = False := eq_false (Nat.not_lt.2 c6)
 simp only [Option.some.injEq, Prod.mk.injEq] at H
 obtain ⟨rfl, rfl⟩ := H
 go_enter Try.func88, Try.ntmps88
 try go_wp2_with (first | ((with_reducible refine gate_dst (N := 1) rfl ?_); refine Ka_ 1 #[.int .u64 a0_0, .int .u64 a0_1, .int .u64 a0_2, .int .u64 a0_3, .int .i64 a0_4] 30 ?_; intro gb133 hg w7 hbox hb; have BK133 := Aside0.mk (hbox); have GW133 := Kw_ HB hg; have GE133 := GW133; replace HB := Ks_ HB hb; clear hb hbox hg; obtain ⟨hcz8_0, hcz8_1, hcz8_2, hcz8_3, hcz8_4, hfz8_0, hfz8_1, hfz8_2, hfz8_3, hfz8_4⟩ := Ke5_ BK133.out) | ((with_reducible refine gate_callee (f := 69) rfl ?_); refine Kg_ (some 5) rfl rfl Try.func69 (by kernel_rfl) rfl #[.agg #[.int .u64 a0_0, .int .u64 a0_1, .int .u64 a0_2, .int .u64 a0_3, .int .i64 a0_4]] rfl ?_; (with_reducible refine (stamp_Right.calls a0_0 a0_1 a0_2 a0_3 a0_4 true _ A2.out).mono ?_); rintro e w9 ⟨rfl, hb⟩; refine ⟨_, rfl, ?_⟩; replace BK133 := Kb_ BK133 hb; replace HB := Ks_ HB hb; (try clear hb); (try clear hb2); (try clear hk); (try clear hi)))
 replace BK133 := Kd_ BK133
 replace HB := Aside0.mk (below_drew1 HB.out)
 refine start_ (n := 10) (S := fun w' => w'.cell? ⟨gb133, 0, none⟩ = some (.int .u64 a0_0) ∧ w'.cell? ⟨gb133, 1, none⟩ = some (.int .u64 a0_1) ∧ w'.cell? ⟨gb133, 2, none⟩ = some (.int .u64 a0_2) ∧ w'.cell? ⟨gb133, 3, none⟩ = some (.int .u64 a0_3) ∧ w'.cell? ⟨gb133, 4, none⟩ = some (.int .i64 a0_4)) (ds := []) (mB_ 10 0) (by kernel_rfl) rfl rfl (Kc5_ BK133.out) (fun hHeld => ?_); refine with_tabW stamp_Put.tab3 stamp_Put.bits3 (fun HT_ HW_ => ?_)
 generalize w9.drew = w10 at BK133 HB hHeld ⊢
 refine Kp_ 0 7 (mB_ 10 1) (any_of HT_.out (by kernel_rfl)) ?_
 refine Kp_ 4 11 (mB_ 10 17) (any_of HT_.out (by kernel_rfl)) ?_
 refine Ko_ 1 8 (mB_ 10 19) (take_ofW HT_.out HW_.out (by kernel_rfl)) hHeld ?_
 refine Kp_ 2 9 (mB_ 10 23) (any_of HT_.out (by kernel_rfl)) ?_
 refine Ko_ 5 12 (mB_ 10 55) (take_ofW HT_.out HW_.out (by kernel_rfl)) hHeld ?_
 refine one_ (i := 3) (N := some 10) (mB_ 10 63) rfl rfl (one_of HT_.out (by kernel_rfl)) (by decide) (fun K hK => ?_)
 refine goes_ Try.func59 (by kernel_rfl) rfl #[.int .u64 (IntKind.u64.wrap (a0_4)), .int .i64 1] (by rfl) rfl rfl (by (try simp only [List.map_toArray, List.map_cons, List.map_nil]); first | done | rfl | (simp only [List.length_drop, List.length_take]; rfl)) ?_
 with_reducible refine (pack_Number.calls (IntKind.u64.wrap (a0_4)) 1 t135 _ A4.out).mono ?_
 rintro e w11 ⟨rfl, hb⟩
 refine ⟨_, rfl, ?_⟩
 replace BK133 := Kb_ BK133 hb
 replace HB := Ks_ HB hb
 (try clear hb)
 (try clear hb2)
 (try clear hk)
 (try clear hi)
 refine hK.out _ _ (Kc5_ BK133.out) (fun hHeld => ?_)
 clear hK K
 refine Kn_ 10 ?_
 refine one_ (i := 6) (N := some 13) (mB_ 10 127) rfl rfl (one_of HT_.out (by kernel_rfl)) (by decide) (fun K hK => ?_)
 refine goes_ Try.func102 (by kernel_rfl) rfl #[.agg #[.int .u64 a0_0, .int .u64 a0_1, .int .u64 a0_2, .int .u64 a0_3]] (by rfl) rfl rfl (by (try simp only [List.map_toArray, List.map_cons, List.map_nil]); first | done | rfl | (simp only [List.length_drop, List.length_take]; rfl)) ?_
 with_reducible refine (vec_Put.calls k a0_0 a0_1 a0_2 a0_3 t136 _ A5.out).mono ?_
 rintro e w12 ⟨rfl, hb⟩
 refine ⟨_, rfl, ?_⟩
 replace BK133 := Kb_ BK133 hb
 replace HB := Ks_ HB hb
 (try clear hb)
 (try clear hb2)
 (try clear hk)
 (try clear hi)
 refine hK.out _ _ (Kc5_ BK133.out) (fun hHeld => ?_)
 clear hK K
 refine Kn_ 13 ?_
 refine Kp_ 7 14 (mB_ 10 255) (any_of HT_.out (by kernel_rfl)) ?_
 refine Kp_ 8 2 (mB_ 10 511) (any_of HT_.out (by kernel_rfl)) ?_
 refine Kp_ 9 3 (mB_ 10 1023) (any_of HT_.out (by kernel_rfl)) ?_
 refine done_ (done_of HT_.out (by kernel_rfl)) ?_
 try go_wp2
 go_ret2
 exact ⟨Kh_, Kz_ HB GE133⟩
def item_Bytes.l0 : Nat → ByteArray → List (S107) → Int → Int → Option (ByteArray × Bool)
 | 0, _, _, _, _ => none
 | k + 1, x4, x25, x26, x27 => if x27 < x26 then (if 0 ≤ x27 then (if x27 < (x25.length : Int) then ((pack_Text.f k ((rd_T107 x25 x27).f0)).bind fun t144 => ((pack_Text.f k ((rd_T107 x25 x27).f1)).bind fun t145 => (if t144.size + t145.size ≤ 9223372036854775807 then (if x4.size + (t144 ++ t145).size ≤ 9223372036854775807 then (if (rd_T107 x25 x27).f3 = true then ((pack_Number.f 1 1).bind fun t146 => (if (x4 ++ (t144 ++ t145)).size + t146.size ≤ 9223372036854775807 then (item_Bytes.l0 k ((x4 ++ (t144 ++ t145)) ++ t146) x25 x26 (wrap64 (x27 + 1))) else (none))) else ((pack_Number.f 0 1).bind fun t147 => ((pack_Text.f k ((rd_T107 x25 x27).f2)).bind fun t148 => (if t147.size + t148.size ≤ 9223372036854775807 then (if (x4 ++ (t144 ++ t145)).size + (t147 ++ t148).size ≤ 9223372036854775807 then (item_Bytes.l0 k ((x4 ++ (t144 ++ t145)) ++ (t147 ++ t148)) x25 x26 (wrap64 (x27 + 1))) else (none)) else (none))))) else (none)) else (none)))) else (none)) else (none)) else (some (x4, true))
def item_Bytes.f (k : Nat) (a0_0 : Int) (a0_1 : Int) (a0_2 : Int) (a0_3 : Int) (a0_4 : Int) (l0_5 : List (S107)) : Option (ByteArray × Bool) := (item_Whole.f a0_0 a0_1 a0_2 a0_3 a0_4 l0_5).bind fun t138 => (if t138 = true then ((stamp_Put.f k a0_0 a0_1 a0_2 a0_3 a0_4).bind fun bt139 => ((pack_Number.f (IntKind.u64.wrap ((l0_5.length : Int))) 1).bind fun t141 => (if bt139.1.size + t141.size ≤ 9223372036854775807 then (item_Bytes.l0 k (bt139.1 ++ t141) l0_5 (l0_5.length : Int) 0) else (none)))) else (some ((⟨#[]⟩ : ByteArray), false)))
def item_Bytes.T8 : Bool × List (List Nat × List Nat) := (true, [([], []), ([], []), ([1], [1]), ([2], [2]), ([], []), ([4], [4]), ([5, 3], [5]), ([3, 6], [3, 6]), ([0, 7], [0, 7]), ([8, 6, 0, 1, 2, 3, 4, 5, 6, 7, 8], [0, 8])])
def item_Bytes.B8 : List Nat := [0, 0, 2, 6, 0, 16, 62, 126, 255, 511]
theorem item_Bytes.tab8 : rtab .any (opsOf Try.f61 8) = item_Bytes.T8 := by kernel_rfl
theorem item_Bytes.bits8 : waitsOk item_Bytes.T8.2 item_Bytes.B8 = true := by kernel_rfl
def item_Bytes.T11 : Bool × List (List Nat × List Nat) := (true, [([], []), ([], []), ([], []), ([2], [2]), ([3, 1], [3]), ([1, 4], [1, 4]), ([0, 5], [0, 5]), ([6, 4, 0, 1, 2, 3, 4, 5, 6], [0, 6])])
def item_Bytes.B11 : List Nat := [0, 0, 0, 4, 14, 30, 63, 127]
theorem item_Bytes.tab11 : rtab .any (opsOf Try.f61 11) = item_Bytes.T11 := by kernel_rfl
theorem item_Bytes.bits11 : waitsOk item_Bytes.T11.2 item_Bytes.B11 = true := by kernel_rfl
set_option maxHeartbeats 8000000 in
set_option maxRecDepth 100000 in
theorem item_Bytes.calls (k : Nat) (a0_0 : Int) (a0_1 : Int) (a0_2 : Int) (a0_3 : Int) (a0_4 : Int) (A0_5 : Option Addr) (c0_5 : Nat) (l0_5 : List (S107)) (r1 : ByteArray) (r2 : Bool) (w : World) (hr0_5 : Kd.C k107 w A0_5 l0_5.length l0_5) (hc0_5 : l0_5.length ≤ c0_5) (h : item_Bytes.f k a0_0 a0_1 a0_2 a0_3 a0_4 l0_5 = some (r1, r2)) :
  Calls Try.prog 61 #[.agg #[.int .u64 a0_0, .int .u64 a0_1, .int .u64 a0_2, .int .u64 a0_3, .int .i64 a0_4, .slice A0_5 l0_5.length c0_5]] w fun e w' => e = .returned (.tuple #[.string r1, .bool r2]) ∧ Below w.heap.size w w' := by
 have hu33 := Try.underlying33
 have hu30 := Try.underlying30
 have hu107 := Try.underlying107
 have HR0_5 := Aside0.mk hr0_5
 have HC0_5 := Aside0.mk hc0_5
 clear hr0_5 hc0_5
 have HB := Aside0.mk (Below.refl w.heap.size w)
 have H : ((item_Whole.f a0_0 a0_1 a0_2 a0_3 a0_4 l0_5).bind fun t138 => (if t138 = true then ((stamp_Put.f k a0_0 a0_1 a0_2 a0_3 a0_4).bind fun bt139 => ((pack_Number.f (IntKind.u64.wrap ((l0_5.length : Int))) 1).bind fun t141 => (if bt139.1.size + t141.size ≤ 9223372036854775807 then (item_Bytes.l0 k (bt139.1 ++ t141) l0_5 (l0_5.length : Int) 0) else (none)))) else (some ((⟨#[]⟩ : ByteArray), false)))) = some (r1, r2) := h
 (try (have Hs_ := H; simp only [ByteArray.size_append, Int.natCast_add] at Hs_))
 clear h
 replace H := Option.bind_eq_some_iff.mp H
 obtain ⟨t138, A20, H⟩ := H
 replace H : (if t138 = true then ((stamp_Put.f k a0_0 a0_1 a0_2 a0_3 a0_4).bind fun bt139 => ((pack_Number.f (IntKind.u64.wrap ((l0_5.length : Int))) 1).bind fun t141 => (if bt139.1.size + t141.size ≤ 9223372036854775807 then (item_Bytes.l0 k (bt139.1 ++ t141) l0_5 (l0_5.length : Int) 0) else (none)))) else (some ((⟨#[]⟩ : ByteArray), false))) = some (r1, r2) := H
 have A2 := Aside0.mk A20
 clear A20
 by_cases c3 : t138 = true
 rotate_left
 ·replace c3 := Bool.eq_false_iff.mpr c3
  subst c3
  have H1 : (some ((⟨#[]⟩ : ByteArray), false)) = some (r1, r2) := by rw [if_neg (show ¬ (false = true) by decide)] at H; exact H
  clear H
  have H := H1
  clear H1
  simp only [Option.some.injEq, Prod.mk.injEq] at H
  obtain ⟨rfl, rfl⟩ := H
  go_enter Try.func61, Try.ntmps61
  go_wp2_with (first | ((with_reducible refine gate_dst (N := 1) rfl ?_); refine Ka_ 1 #[.int .u64 a0_0, .int .u64 a0_1, .int .u64 a0_2, .int .u64 a0_3, .int .i64 a0_4, .slice A0_5 l0_5.length c0_5] 33 ?_; intro gb137 hg w50 hbox hb; have BK137 := Aside0.mk (hbox); have GW137 := Kw_ HB hg; have GE137 := GW137; replace HB := Ks_ HB hb; clear hb hbox hg; obtain ⟨hcz51_0, hcz51_1, hcz51_2, hcz51_3, hcz51_4, hcz51_5, hfz51_0, hfz51_1, hfz51_2, hfz51_3, hfz51_4, hfz51_5⟩ := Ke6_ BK137.out) | ((with_reducible refine gate_callee (f := 73) rfl ?_); refine Kg_ (some 9) rfl rfl Try.func73 (by kernel_rfl) rfl #[.agg #[.int .u64 a0_0, .int .u64 a0_1, .int .u64 a0_2, .int .u64 a0_3, .int .i64 a0_4, .slice A0_5 l0_5.length c0_5]] rfl ?_; (with_reducible refine (item_Whole.calls a0_0 a0_1 a0_2 a0_3 a0_4 _ _ l0_5 false _ ?side1 ?side2 A2.out).mono ?_); (case side1 => repeat (first | exact (Kd.C_below HR0_5.out HB.out) | (with_reducible refine Kd.C_alloc ?_ _) | (with_reducible refine Kd.C_drewN ?_ _) | (with_reducible refine Kd.C_drew ?_))); (case side2 => exact HC0_5.out); rintro e w52 ⟨rfl, hb⟩; refine ⟨_, rfl, ?_⟩; replace BK137 := Kb_ BK137 hb; replace HB := Ks_ HB hb; (try clear hb); (try clear hb2); (try clear hk); (try clear hi)))
  go_ret2
  exact ⟨Kh_, Kz_ HB GE137⟩
 subst c3
 have H1 : ((stamp_Put.f k a0_0 a0_1 a0_2 a0_3 a0_4).bind fun bt139 => ((pack_Number.f (IntKind.u64.wrap ((l0_5.length : Int))) 1).bind fun t141 => (if bt139.1.size + t141.size ≤ 9223372036854775807 then (item_Bytes.l0 k (bt139.1 ++ t141) l0_5 (l0_5.length : Int) 0) else (none)))) = some (r1, r2) := by rw [if_pos rfl] at H; exact H
 clear H
 have H := H1
 clear H1
 replace H := Option.bind_eq_some_iff.mp H
 obtain ⟨⟨t139, t140⟩, A40, H⟩ := H
 replace H : ((pack_Number.f (IntKind.u64.wrap ((l0_5.length : Int))) 1).bind fun t141 => (if t139.size + t141.size ≤ 9223372036854775807 then (item_Bytes.l0 k (t139 ++ t141) l0_5 (l0_5.length : Int) 0) else (none))) = some (r1, r2) := H
 have A4 := Aside0.mk A40
 clear A40
 replace H := Option.bind_eq_some_iff.mp H
 obtain ⟨t141, A50, H⟩ := H
 replace H : (if t139.size + t141.size ≤ 9223372036854775807 then (item_Bytes.l0 k (t139 ++ t141) l0_5 (l0_5.length : Int) 0) else (none)) = some (r1, r2) := H
 have A5 := Aside0.mk A50
 clear A50
 by_cases c6 : t139.size + t141.size ≤ 9223372036854775807
 rotate_left
 ·rw [if_neg c6] at H
  exact absurd H (by simp)
 rw [if_pos c6] at H
 have c6b0 := eq_true c6
 have c6b1 : decide (t139.size + t141.size ≤ 9223372036854775807) = true := decide_eq_true c6
 try have c6b2 : (9223372036854775807 < t139.size + t141.size) = False := eq_false (Nat.not_lt.2 c6)
 have H' := Aside0.mk H
 clear H
 go_enter Try.func61, Try.ntmps61
 go_wp2_with (first | ((with_reducible refine gate_dst (N := 1) rfl ?_); refine Ka_ 1 #[.int .u64 a0_0, .int .u64 a0_1, .int .u64 a0_2, .int .u64 a0_3, .int .i64 a0_4, .slice A0_5 l0_5.length c0_5] 33 ?_; intro gb137 hg w7 hbox hb; have BK137 := Aside0.mk (hbox); have GW137 := Kw_ HB hg; have GE137 := GW137; replace HB := Ks_ HB hb; clear hb hbox hg; obtain ⟨hcz8_0, hcz8_1, hcz8_2, hcz8_3, hcz8_4, hcz8_5, hfz8_0, hfz8_1, hfz8_2, hfz8_3, hfz8_4, hfz8_5⟩ := Ke6_ BK137.out) | ((with_reducible refine gate_callee (f := 73) rfl ?_); refine Kg_ (some 9) rfl rfl Try.func73 (by kernel_rfl) rfl #[.agg #[.int .u64 a0_0, .int .u64 a0_1, .int .u64 a0_2, .int .u64 a0_3, .int .i64 a0_4, .slice A0_5 l0_5.length c0_5]] rfl ?_; (with_reducible refine (item_Whole.calls a0_0 a0_1 a0_2 a0_3 a0_4 _ _ l0_5 true _ ?side1 ?side2 A2.out).mono ?_); (case side1 => repeat (first | exact (Kd.C_below HR0_5.out HB.out) | (with_reducible refine Kd.C_alloc ?_ _) | (with_reducible refine Kd.C_drewN ?_ _) | (with_reducible refine Kd.C_drew ?_))); (case side2 => exact HC0_5.out); rintro e w9 ⟨rfl, hb⟩; refine ⟨_, rfl, ?_⟩; replace BK137 := Kb_ BK137 hb; replace HB := Ks_ HB hb; (try clear hb); (try clear hb2); (try clear hk); (try clear hi); obtain ⟨hcz10_0, hcz10_1, hcz10_2, hcz10_3, hcz10_4, hcz10_5, hfz10_0, hfz10_1, hfz10_2, hfz10_3, hfz10_4, hfz10_5⟩ := Ke6_ BK137.out) | ((with_reducible refine gate_callee (f := 88) rfl ?_); refine Kg_ (some 14) rfl rfl Try.func88 (by kernel_rfl) rfl #[.agg #[.int .u64 a0_0, .int .u64 a0_1, .int .u64 a0_2, .int .u64 a0_3, .int .i64 a0_4]] rfl ?_; (with_reducible refine (stamp_Put.calls k a0_0 a0_1 a0_2 a0_3 a0_4 t139 t140 _ A4.out).mono ?_); rintro e w11 ⟨rfl, hb⟩; refine ⟨_, rfl, ?_⟩; replace BK137 := Kb_ BK137 hb; replace HB := Ks_ HB hb; (try clear hb); (try clear hb2); (try clear hk); (try clear hi); obtain ⟨hcz12_0, hcz12_1, hcz12_2, hcz12_3, hcz12_4, hcz12_5, hfz12_0, hfz12_1, hfz12_2, hfz12_3, hfz12_4, hfz12_5⟩ := Ke6_ BK137.out) | ((with_reducible refine gate_callee (f := 59) rfl ?_); refine Kg_ (some 22) rfl rfl Try.func59 (by kernel_rfl) rfl #[.int .u64 (IntKind.u64.wrap ((l0_5.length : Int))), .int .i64 1] rfl ?_; (with_reducible refine (pack_Number.calls (IntKind.u64.wrap ((l0_5.length : Int))) 1 t141 _ A5.out).mono ?_); rintro e w13 ⟨rfl, hb⟩; refine ⟨_, rfl, ?_⟩; replace BK137 := Kb_ BK137 hb; replace HB := Ks_ HB hb; (try clear hb); (try clear hb2); (try clear hk); (try clear hi); obtain ⟨hcz14_0, hcz14_1, hcz14_2, hcz14_3, hcz14_4, hcz14_5, hfz14_0, hfz14_1, hfz14_2, hfz14_3, hfz14_4, hfz14_5⟩ := Ke6_ BK137.out))
 go_loopg [4, 27] k (fun kq v4 v27 w' => ∃ (x4_1 : ByteArray) (x27_1 : Int), v4 = .string x4_1 ∧ v27 = .int .i64 x27_1 ∧ Aside0 (item_Bytes.l0 kq x4_1 l0_5 (l0_5.length : Int) x27_1 = some (r1, r2)) ∧ Aside0 (kq ≤ k) ∧ Aside0 (w'.heap[gb137]? = some (.cells #[.int .u64 a0_0, .int .u64 a0_1, .int .u64 a0_2, .int .u64 a0_3, .int .i64 a0_4, (.slice A0_5 l0_5.length c0_5)] 33 (0, 0))) ∧ Aside0 (Below w.heap.size w w'))
 case atStart => exact ⟨(t139 ++ t141), (0), (by first | rfl | (simp; done) | (simp [*]; done)), (by first | rfl | (simp; done) | (simp [*]; done)), H', ⟨Nat.le_refl _⟩, ⟨by exact Kq_ BK137⟩, ⟨Kz_ HB GE137⟩⟩
 case round =>
  clear H'
  try clear p2
  try clear c3
  try clear c5
  try clear c6
  try clear c6b0
  try clear c6b1
  try clear c6b2
  try clear c7
  try clear c8
  try clear hcz10_0
  try clear hcz10_1
  try clear hcz10_2
  try clear hcz10_3
  try clear hcz10_4
  try clear hcz10_5
  try clear hcz12_0
  try clear hcz12_1
  try clear hcz12_2
  try clear hcz12_3
  try clear hcz12_4
  try clear hcz12_5
  try clear hcz14_0
  try clear hcz14_1
  try clear hcz14_2
  try clear hcz14_3
  try clear hcz14_4
  try clear hcz14_5
  try clear hcz8_0
  try clear hcz8_1
  try clear hcz8_2
  try clear hcz8_3
  try clear hcz8_4
  try clear hcz8_5
  try clear hfz10_0
  try clear hfz10_1
  try clear hfz10_2
  try clear hfz10_3
  try clear hfz10_4
  try clear hfz10_5
  try clear hfz12_0
  try clear hfz12_1
  try clear hfz12_2
  try clear hfz12_3
  try clear hfz12_4
  try clear hfz12_5
  try clear hfz14_0
  try clear hfz14_1
  try clear hfz14_2
  try clear hfz14_3
  try clear hfz14_4
  try clear hfz14_5
  try clear hfz8_0
  try clear hfz8_1
  try clear hfz8_2
  try clear hfz8_3
  try clear hfz8_4
  try clear hfz8_5
  obtain ⟨x4_1, x27_1, rfl, rfl, HA, HK1, BK137, HB⟩ := hrel
  cases gk with
  | zero => exact absurd HA.out (by simp [item_Bytes.l0])
  | succ k1 =>
   have H := HA.out
   clear HA
   simp only [item_Bytes.l0] at H
   by_cases c15 : x27_1 < (l0_5.length : Int)
   rotate_left
   ·rw [if_neg c15] at H
    have c15b0 : decide (x27_1 < (l0_5.length : Int)) = false := decide_eq_false c15
    clear c15
    simp only [Option.some.injEq, Prod.mk.injEq] at H
    obtain ⟨rfl, rfl⟩ := H
    go_wp2
    go_ret2
    exact ⟨Kh_, Kz_ HB GE137⟩
   rw [if_pos c15] at H
   have c15b0 : decide (x27_1 < (l0_5.length : Int)) = true := decide_eq_true c15
   clear c15
   by_cases c16 : 0 ≤ x27_1
   rotate_left
   ·rw [if_neg c16] at H
    exact absurd H (by simp)
   rw [if_pos c16] at H
   have c16b0 : decide (0 ≤ x27_1) = true := decide_eq_true c16
   clear c16
   by_cases c17 : x27_1 < (l0_5.length : Int)
   rotate_left
   ·rw [if_neg c17] at H
    exact absurd H (by simp)
   rw [if_pos c17] at H
   have c17b0 : decide (x27_1 < (l0_5.length : Int)) = true := decide_eq_true c17
   clear c17
   replace H := Option.bind_eq_some_iff.mp H
   obtain ⟨t144, A180, H⟩ := H
   replace H : ((pack_Text.f k1 ((rd_T107 l0_5 x27_1).f1)).bind fun t145 => (if t144.size + t145.size ≤ 9223372036854775807 then (if x4_1.size + (t144 ++ t145).size ≤ 9223372036854775807 then (if (rd_T107 l0_5 x27_1).f3 = true then ((pack_Number.f 1 1).bind fun t146 => (if (x4_1 ++ (t144 ++ t145)).size + t146.size ≤ 9223372036854775807 then (item_Bytes.l0 k1 ((x4_1 ++ (t144 ++ t145)) ++ t146) l0_5 (l0_5.length : Int) (wrap64 (x27_1 + 1))) else (none))) else ((pack_Number.f 0 1).bind fun t147 => ((pack_Text.f k1 ((rd_T107 l0_5 x27_1).f2)).bind fun t148 => (if t147.size + t148.size ≤ 9223372036854775807 then (if (x4_1 ++ (t144 ++ t145)).size + (t147 ++ t148).size ≤ 9223372036854775807 then (item_Bytes.l0 k1 ((x4_1 ++ (t144 ++ t145)) ++ (t147 ++ t148)) l0_5 (l0_5.length : Int) (wrap64 (x27_1 + 1))) else (none)) else (none))))) else (none)) else (none))) = some (r1, r2) := H
   have A18 := Aside0.mk A180
   clear A180
   replace H := Option.bind_eq_some_iff.mp H
   obtain ⟨t145, A190, H⟩ := H
   replace H : (if t144.size + t145.size ≤ 9223372036854775807 then (if x4_1.size + (t144 ++ t145).size ≤ 9223372036854775807 then (if (rd_T107 l0_5 x27_1).f3 = true then ((pack_Number.f 1 1).bind fun t146 => (if (x4_1 ++ (t144 ++ t145)).size + t146.size ≤ 9223372036854775807 then (item_Bytes.l0 k1 ((x4_1 ++ (t144 ++ t145)) ++ t146) l0_5 (l0_5.length : Int) (wrap64 (x27_1 + 1))) else (none))) else ((pack_Number.f 0 1).bind fun t147 => ((pack_Text.f k1 ((rd_T107 l0_5 x27_1).f2)).bind fun t148 => (if t147.size + t148.size ≤ 9223372036854775807 then (if (x4_1 ++ (t144 ++ t145)).size + (t147 ++ t148).size ≤ 9223372036854775807 then (item_Bytes.l0 k1 ((x4_1 ++ (t144 ++ t145)) ++ (t147 ++ t148)) l0_5 (l0_5.length : Int) (wrap64 (x27_1 + 1))) else (none)) else (none))))) else (none)) else (none)) = some (r1, r2) := H
   have A19 := Aside0.mk A190
   clear A190
   by_cases c20 : t144.size + t145.size ≤ 9223372036854775807
   rotate_left
   ·rw [if_neg c20] at H
    exact absurd H (by simp)
   rw [if_pos c20] at H
   have c20b0 := eq_true c20
   have c20b1 : decide (t144.size + t145.size ≤ 9223372036854775807) = true := decide_eq_true c20
   try have c20b2 : (9223372036854775807 < t144.size + t145.size) = False := eq_false (Nat.not_lt.2 c20)
   by_cases c21 : x4_1.size + (t144 ++ t145).size ≤ 9223372036854775807
   rotate_left
   ·rw [if_neg c21] at H
    exact absurd H (by simp)
   rw [if_pos c21] at H
   have c21b0 := eq_true c21
   (try (have c21b0s_ := c21b0; simp only [ByteArray.size_append, Int.natCast_add] at c21b0s_))
   have c21b1 : decide (x4_1.size + (t144 ++ t145).size ≤ 9223372036854775807) = true := decide_eq_true c21
   (try (have c21b1s_ := c21b1; simp only [ByteArray.size_append, Int.natCast_add] at c21b1s_))
   try have c21b2 : (9223372036854775807 < x4_1.size + (t144 ++ t145).size) = False := eq_false (Nat.not_lt.2 c21)
   (try (have c21b2s_ := c21b2; simp only [ByteArray.size_append, Int.natCast_add] at c21b2s_))
   obtain ⟨bq22, hbq22⟩ : ∃ b_ : Bool, b_ = ((rd_T107 l0_5 x27_1).f3) := ⟨_, rfl⟩
   replace H : (if bq22 = true then ((pack_Number.f 1 1).bind fun t146 => (if (x4_1 ++ (t144 ++ t145)).size + t146.size ≤ 9223372036854775807 then (item_Bytes.l0 k1 ((x4_1 ++ (t144 ++ t145)) ++ t146) l0_5 (l0_5.length : Int) (wrap64 (x27_1 + 1))) else (none))) else ((pack_Number.f 0 1).bind fun t147 => ((pack_Text.f k1 ((rd_T107 l0_5 x27_1).f2)).bind fun t148 => (if t147.size + t148.size ≤ 9223372036854775807 then (if (x4_1 ++ (t144 ++ t145)).size + (t147 ++ t148).size ≤ 9223372036854775807 then (item_Bytes.l0 k1 ((x4_1 ++ (t144 ++ t145)) ++ (t147 ++ t148)) l0_5 (l0_5.length : Int) (wrap64 (x27_1 + 1))) else (none)) else (none))))) = some (r1, r2) := by rw [← hbq22] at H; exact H
   have Nbq22 := Aside0.mk hbq22
   clear hbq22
   by_cases c23 : bq22 = true
   ·subst c23
    have H1 : ((pack_Number.f 1 1).bind fun t146 => (if (x4_1 ++ (t144 ++ t145)).size + t146.size ≤ 9223372036854775807 then (item_Bytes.l0 k1 ((x4_1 ++ (t144 ++ t145)) ++ t146) l0_5 (l0_5.length : Int) (wrap64 (x27_1 + 1))) else (none))) = some (r1, r2) := by rw [if_pos rfl] at H; exact H
    clear H
    have H := H1
    clear H1
    replace H := Option.bind_eq_some_iff.mp H
    obtain ⟨t146, A240, H⟩ := H
    replace H : (if (x4_1 ++ (t144 ++ t145)).size + t146.size ≤ 9223372036854775807 then (item_Bytes.l0 k1 ((x4_1 ++ (t144 ++ t145)) ++ t146) l0_5 (l0_5.length : Int) (wrap64 (x27_1 + 1))) else (none)) = some (r1, r2) := H
    have A24 := Aside0.mk A240
    clear A240
    by_cases c25 : (x4_1 ++ (t144 ++ t145)).size + t146.size ≤ 9223372036854775807
    rotate_left
    ·rw [if_neg c25] at H
     exact absurd H (by simp)
    rw [if_pos c25] at H
    have c25b0 := eq_true c25
    (try (have c25b0s_ := c25b0; simp only [ByteArray.size_append, Int.natCast_add] at c25b0s_))
    have c25b1 : decide ((x4_1 ++ (t144 ++ t145)).size + t146.size ≤ 9223372036854775807) = true := decide_eq_true c25
    (try (have c25b1s_ := c25b1; simp only [ByteArray.size_append, Int.natCast_add] at c25b1s_))
    try have c25b2 : (9223372036854775807 < (x4_1 ++ (t144 ++ t145)).size + t146.size) = False := eq_false (Nat.not_lt.2 c25)
    (try (have c25b2s_ := c25b2; simp only [ByteArray.size_append, Int.natCast_add] at c25b2s_))
    have H' := Aside0.mk H
    clear H
    have p142 : 0 ≤ (x27_1 : Int) := of_decide_eq_true (by first | (with_reducible assumption) | assumption)
    have q142 : x27_1 < (l0_5.length : Int) := of_decide_eq_true (by first | (with_reducible assumption) | assumption)
    obtain ⟨ad142, e142, hx142_0, hx142_1, hx142_2, hx142_3⟩ := at_T107 HR0_5.out x27_1 p142 q142
    (try rw [← Nbq22.out] at hx142_3)
    cases e142
    replace hx142_0 := (HB.out.cell (World.block_lt_of_cell? w _ hx142_0)).trans hx142_0
    replace hx142_1 := (HB.out.cell (World.block_lt_of_cell? w _ hx142_1)).trans hx142_1
    replace hx142_2 := (HB.out.cell (World.block_lt_of_cell? w _ hx142_2)).trans hx142_2
    replace hx142_3 := (HB.out.cell (World.block_lt_of_cell? w _ hx142_3)).trans hx142_3
    replace p142 := eq_true p142
    replace q142 := eq_true q142
    try go_wp2_with (first | ((with_reducible refine gate_dst (N := 7) rfl ?_); refine Ka_ 7 #[.string (⟨#[]⟩ : ByteArray), .string (⟨#[]⟩ : ByteArray), .string (⟨#[]⟩ : ByteArray), .bool false] 107 ?_; intro gb143 hg w26 hbox hb; have BK143 := Aside0.mk (hbox); have GW143 := Kw_ HB hg; have GE143 := GW143; have NB137_143 := Kl_ BK137 hg; have NB143_137 := Kr_ BK137 hg; replace BK137 := Kb_ BK137 hb; replace HB := Ks_ HB hb; clear hb hbox hg; have hnb27 := NB143_137.out; have hnc27 := NB137_143.out; obtain ⟨hcz28_0, hcz28_1, hcz28_2, hcz28_3, hfz28_0, hfz28_1, hfz28_2, hfz28_3⟩ := Ke4_ BK143.out))
    have n0_ : Aside0 (((((w26.setCell ⟨gb143, 0, none⟩ (.string ((rd_T107 l0_5 x27_1).f0))).setCell ⟨gb143, 1, none⟩ (.string ((rd_T107 l0_5 x27_1).f1))).setCell ⟨gb143, 2, none⟩ (.string ((rd_T107 l0_5 x27_1).f2))).setCell ⟨gb143, 3, none⟩ (.bool true)).heap[gb137]? = some (.cells #[.int .u64 a0_0, .int .u64 a0_1, .int .u64 a0_2, .int .u64 a0_3, .int .i64 a0_4, .slice (some ad142) l0_5.length c0_5] 33 (0, 0))) := ⟨by exact K1b_ BK137 NB137_143⟩
    have n1_ : Aside0 (((((w26.setCell ⟨gb143, 0, none⟩ (.string ((rd_T107 l0_5 x27_1).f0))).setCell ⟨gb143, 1, none⟩ (.string ((rd_T107 l0_5 x27_1).f1))).setCell ⟨gb143, 2, none⟩ (.string ((rd_T107 l0_5 x27_1).f2))).setCell ⟨gb143, 3, none⟩ (.bool true)).heap[gb143]? = some (.cells #[.string ((rd_T107 l0_5 x27_1).f0), .string ((rd_T107 l0_5 x27_1).f1), .string ((rd_T107 l0_5 x27_1).f2), .bool true] 107 (0, 0))) := ⟨by refine Kv_ ?_; refine blk_put (cs := #[.string ((rd_T107 l0_5 x27_1).f0), .string ((rd_T107 l0_5 x27_1).f1), .string ((rd_T107 l0_5 x27_1).f2), .bool false]) ?_ 3 _ rfl; refine Kv_ ?_; refine blk_put (cs := #[.string ((rd_T107 l0_5 x27_1).f0), .string ((rd_T107 l0_5 x27_1).f1), .string (⟨#[]⟩ : ByteArray), .bool false]) ?_ 2 _ rfl; refine Kv_ ?_; refine blk_put (cs := #[.string ((rd_T107 l0_5 x27_1).f0), .string (⟨#[]⟩ : ByteArray), .string (⟨#[]⟩ : ByteArray), .bool false]) ?_ 1 _ rfl; refine Kv_ ?_; refine blk_put (cs := #[.string (⟨#[]⟩ : ByteArray), .string (⟨#[]⟩ : ByteArray), .string (⟨#[]⟩ : ByteArray), .bool false]) ?_ 0 _ rfl; exact Kq_ BK143⟩
    have n2_ : Aside0 (Below w.heap.size w ((((w26.setCell ⟨gb143, 0, none⟩ (.string ((rd_T107 l0_5 x27_1).f0))).setCell ⟨gb143, 1, none⟩ (.string ((rd_T107 l0_5 x27_1).f1))).setCell ⟨gb143, 2, none⟩ (.string ((rd_T107 l0_5 x27_1).f2))).setCell ⟨gb143, 3, none⟩ (.bool true))) := ⟨K2a_ HB GE137 GE143⟩
    (try clear BK137)
    (try clear BK143)
    (try clear HB)
    generalize ((((w26.setCell ⟨gb143, 0, none⟩ (.string ((rd_T107 l0_5 x27_1).f0))).setCell ⟨gb143, 1, none⟩ (.string ((rd_T107 l0_5 x27_1).f1))).setCell ⟨gb143, 2, none⟩ (.string ((rd_T107 l0_5 x27_1).f2))).setCell ⟨gb143, 3, none⟩ (.bool true)) = w29 at n0_ n1_ n2_ ⊢
    have BK137 := n0_
    have BK143 := n1_
    have HB := n2_
    clear n0_ n1_ n2_
    replace BK137 := Kd_ BK137
    replace BK143 := Kd_ BK143
    replace HB := Aside0.mk (below_drew1 HB.out)
    refine start_ (n := 10) (S := fun w' => w'.cell? ⟨gb143, 0, none⟩ = some (.string ((rd_T107 l0_5 x27_1).f0)) ∧ w'.cell? ⟨gb143, 1, none⟩ = some (.string ((rd_T107 l0_5 x27_1).f1)) ∧ w'.cell? ⟨gb143, 2, none⟩ = some (.string ((rd_T107 l0_5 x27_1).f2)) ∧ w'.cell? ⟨gb143, 3, none⟩ = some (.bool true)) (ds := []) (mB_ 10 0) (by kernel_rfl) rfl rfl (Kc4_ BK143.out) (fun hHeld => ?_); refine with_tabW item_Bytes.tab8 item_Bytes.bits8 (fun HT_ HW_ => ?_)
    generalize w29.drew = w30 at BK137 BK143 HB hHeld ⊢
    refine Kp_ 0 31 (mB_ 10 1) (any_of HT_.out (by kernel_rfl)) ?_
    refine Kp_ 1 32 (mB_ 10 3) (any_of HT_.out (by kernel_rfl)) ?_
    refine Kp_ 4 35 (mB_ 10 19) (any_of HT_.out (by kernel_rfl)) ?_
    refine Ko_ 2 33 (mB_ 10 23) (take_ofW HT_.out HW_.out (by kernel_rfl)) hHeld ?_
    refine Ko_ 5 36 (mB_ 10 55) (take_ofW HT_.out HW_.out (by kernel_rfl)) hHeld ?_
    refine one_ (i := 3) (N := some 34) (mB_ 10 63) rfl rfl (one_of HT_.out (by kernel_rfl)) (by decide) (fun K hK => ?_)
    refine goes_ Try.func62 (by kernel_rfl) rfl #[.string ((rd_T107 l0_5 x27_1).f0)] (by rfl) rfl rfl (by (try simp only [List.map_toArray, List.map_cons, List.map_nil]); first | done | rfl | (simp only [List.length_drop, List.length_take]; rfl)) ?_
    with_reducible refine (pack_Text.calls k1 ((rd_T107 l0_5 x27_1).f0) t144 _ A18.out).mono ?_
    rintro e w31 ⟨rfl, hb⟩
    refine ⟨_, rfl, ?_⟩
    replace BK137 := Kb_ BK137 hb
    replace BK143 := Kb_ BK143 hb
    replace HB := Ks_ HB hb
    (try clear hb)
    (try clear hb2)
    (try clear hk)
    (try clear hi)
    refine hK.out _ _ (Kc4_ BK143.out) (fun hHeld => ?_)
    clear hK K
    refine Kn_ 34 ?_
    refine one_ (i := 6) (N := some 37) (mB_ 10 127) rfl rfl (one_of HT_.out (by kernel_rfl)) (by decide) (fun K hK => ?_)
    refine goes_ Try.func62 (by kernel_rfl) rfl #[.string ((rd_T107 l0_5 x27_1).f1)] (by rfl) rfl rfl (by (try simp only [List.map_toArray, List.map_cons, List.map_nil]); first | done | rfl | (simp only [List.length_drop, List.length_take]; rfl)) ?_
    with_reducible refine (pack_Text.calls k1 ((rd_T107 l0_5 x27_1).f1) t145 _ A19.out).mono ?_
    rintro e w32 ⟨rfl, hb⟩
    refine ⟨_, rfl, ?_⟩
    replace BK137 := Kb_ BK137 hb
    replace BK143 := Kb_ BK143 hb
    replace HB := Ks_ HB hb
    (try clear hb)
    (try clear hb2)
    (try clear hk)
    (try clear hi)
    refine hK.out _ _ (Kc4_ BK143.out) (fun hHeld => ?_)
    clear hK K
    refine Kn_ 37 ?_
    refine Kp_ 7 38 (mB_ 10 255) (any_of HT_.out (by kernel_rfl)) ?_
    refine Kp_ 8 39 (mB_ 10 511) (any_of HT_.out (by kernel_rfl)) ?_
    refine Kp_ 9 4 (mB_ 10 1023) (any_of HT_.out (by kernel_rfl)) ?_
    refine done_ (done_of HT_.out (by kernel_rfl)) ?_
    obtain ⟨hcz33_0, hcz33_1, hcz33_2, hcz33_3, hfz33_0, hfz33_1, hfz33_2, hfz33_3⟩ := Ke4_ BK143.out
    try go_wp2_with (first | ((with_reducible refine gate_callee (f := 59) rfl ?_); refine Kg_ (some 43) rfl rfl Try.func59 (by kernel_rfl) rfl #[.int .u64 1, .int .i64 1] rfl ?_; (with_reducible refine (pack_Number.calls 1 1 t146 _ A24.out).mono ?_); rintro e w34 ⟨rfl, hb⟩; refine ⟨_, rfl, ?_⟩; replace BK137 := Kb_ BK137 hb; replace BK143 := Kb_ BK143 hb; replace HB := Ks_ HB hb; (try clear hb); (try clear hb2); (try clear hk); (try clear hi)))
    go_roundg k1
    case measure => have := HK1.out; omega
    case rel => exact ⟨((x4_1 ++ (t144 ++ t145)) ++ t146), (wrap64 (x27_1 + 1)), (by first | rfl | (simp; done) | (simp [*]; done)), (by first | rfl | (simp; done) | (simp [*]; done)), H', ⟨by have := HK1.out; omega⟩, ⟨by exact Kq_ BK137⟩, ⟨K2a_ HB GE137 GE143⟩⟩
   replace c23 := Bool.eq_false_iff.mpr c23
   subst c23
   have H1 : ((pack_Number.f 0 1).bind fun t147 => ((pack_Text.f k1 ((rd_T107 l0_5 x27_1).f2)).bind fun t148 => (if t147.size + t148.size ≤ 9223372036854775807 then (if (x4_1 ++ (t144 ++ t145)).size + (t147 ++ t148).size ≤ 9223372036854775807 then (item_Bytes.l0 k1 ((x4_1 ++ (t144 ++ t145)) ++ (t147 ++ t148)) l0_5 (l0_5.length : Int) (wrap64 (x27_1 + 1))) else (none)) else (none)))) = some (r1, r2) := by rw [if_neg (show ¬ (false = true) by decide)] at H; exact H
   clear H
   have H := H1
   clear H1
   replace H := Option.bind_eq_some_iff.mp H
   obtain ⟨t147, A350, H⟩ := H
   replace H : ((pack_Text.f k1 ((rd_T107 l0_5 x27_1).f2)).bind fun t148 => (if t147.size + t148.size ≤ 9223372036854775807 then (if (x4_1 ++ (t144 ++ t145)).size + (t147 ++ t148).size ≤ 9223372036854775807 then (item_Bytes.l0 k1 ((x4_1 ++ (t144 ++ t145)) ++ (t147 ++ t148)) l0_5 (l0_5.length : Int) (wrap64 (x27_1 + 1))) else (none)) else (none))) = some (r1, r2) := H
   have A35 := Aside0.mk A350
   clear A350
   replace H := Option.bind_eq_some_iff.mp H
   obtain ⟨t148, A360, H⟩ := H
   replace H : (if t147.size + t148.size ≤ 9223372036854775807 then (if (x4_1 ++ (t144 ++ t145)).size + (t147 ++ t148).size ≤ 9223372036854775807 then (item_Bytes.l0 k1 ((x4_1 ++ (t144 ++ t145)) ++ (t147 ++ t148)) l0_5 (l0_5.length : Int) (wrap64 (x27_1 + 1))) else (none)) else (none)) = some (r1, r2) := H
   have A36 := Aside0.mk A360
   clear A360
   by_cases c37 : t147.size + t148.size ≤ 9223372036854775807
   rotate_left
   ·rw [if_neg c37] at H
    exact absurd H (by simp)
   rw [if_pos c37] at H
   have c37b0 := eq_true c37
   have c37b1 : decide (t147.size + t148.size ≤ 9223372036854775807) = true := decide_eq_true c37
   try have c37b2 : (9223372036854775807 < t147.size + t148.size) = False := eq_false (Nat.not_lt.2 c37)
   by_cases c38 : (x4_1 ++ (t144 ++ t145)).size + (t147 ++ t148).size ≤ 9223372036854775807
   rotate_left
   ·rw [if_neg c38] at H
    exact absurd H (by simp)
   rw [if_pos c38] at H
   have c38b0 := eq_true c38
   (try (have c38b0s_ := c38b0; simp only [ByteArray.size_append, Int.natCast_add] at c38b0s_))
   have c38b1 : decide ((x4_1 ++ (t144 ++ t145)).size + (t147 ++ t148).size ≤ 9223372036854775807) = true := decide_eq_true c38
   (try (have c38b1s_ := c38b1; simp only [ByteArray.size_append, Int.natCast_add] at c38b1s_))
   try have c38b2 : (9223372036854775807 < (x4_1 ++ (t144 ++ t145)).size + (t147 ++ t148).size) = False := eq_false (Nat.not_lt.2 c38)
   (try (have c38b2s_ := c38b2; simp only [ByteArray.size_append, Int.natCast_add] at c38b2s_))
   have H' := Aside0.mk H
   clear H
   have p142 : 0 ≤ (x27_1 : Int) := of_decide_eq_true (by first | (with_reducible assumption) | assumption)
   have q142 : x27_1 < (l0_5.length : Int) := of_decide_eq_true (by first | (with_reducible assumption) | assumption)
   obtain ⟨ad142, e142, hx142_0, hx142_1, hx142_2, hx142_3⟩ := at_T107 HR0_5.out x27_1 p142 q142
   (try rw [← Nbq22.out] at hx142_3)
   cases e142
   replace hx142_0 := (HB.out.cell (World.block_lt_of_cell? w _ hx142_0)).trans hx142_0
   replace hx142_1 := (HB.out.cell (World.block_lt_of_cell? w _ hx142_1)).trans hx142_1
   replace hx142_2 := (HB.out.cell (World.block_lt_of_cell? w _ hx142_2)).trans hx142_2
   replace hx142_3 := (HB.out.cell (World.block_lt_of_cell? w _ hx142_3)).trans hx142_3
   replace p142 := eq_true p142
   replace q142 := eq_true q142
   try go_wp2_with (first | ((with_reducible refine gate_dst (N := 7) rfl ?_); refine Ka_ 7 #[.string (⟨#[]⟩ : ByteArray), .string (⟨#[]⟩ : ByteArray), .string (⟨#[]⟩ : ByteArray), .bool false] 107 ?_; intro gb143 hg w39 hbox hb; have BK143 := Aside0.mk (hbox); have GW143 := Kw_ HB hg; have GE143 := GW143; have NB137_143 := Kl_ BK137 hg; have NB143_137 := Kr_ BK137 hg; replace BK137 := Kb_ BK137 hb; replace HB := Ks_ HB hb; clear hb hbox hg; have hnb40 := NB143_137.out; have hnc40 := NB137_143.out; obtain ⟨hcz41_0, hcz41_1, hcz41_2, hcz41_3, hfz41_0, hfz41_1, hfz41_2, hfz41_3⟩ := Ke4_ BK143.out))
   have n0_ : Aside0 (((((w39.setCell ⟨gb143, 0, none⟩ (.string ((rd_T107 l0_5 x27_1).f0))).setCell ⟨gb143, 1, none⟩ (.string ((rd_T107 l0_5 x27_1).f1))).setCell ⟨gb143, 2, none⟩ (.string ((rd_T107 l0_5 x27_1).f2))).setCell ⟨gb143, 3, none⟩ (.bool false)).heap[gb137]? = some (.cells #[.int .u64 a0_0, .int .u64 a0_1, .int .u64 a0_2, .int .u64 a0_3, .int .i64 a0_4, .slice (some ad142) l0_5.length c0_5] 33 (0, 0))) := ⟨by exact K1b_ BK137 NB137_143⟩
   have n1_ : Aside0 (((((w39.setCell ⟨gb143, 0, none⟩ (.string ((rd_T107 l0_5 x27_1).f0))).setCell ⟨gb143, 1, none⟩ (.string ((rd_T107 l0_5 x27_1).f1))).setCell ⟨gb143, 2, none⟩ (.string ((rd_T107 l0_5 x27_1).f2))).setCell ⟨gb143, 3, none⟩ (.bool false)).heap[gb143]? = some (.cells #[.string ((rd_T107 l0_5 x27_1).f0), .string ((rd_T107 l0_5 x27_1).f1), .string ((rd_T107 l0_5 x27_1).f2), .bool false] 107 (0, 0))) := ⟨by refine Kv_ ?_; refine blk_put (cs := #[.string ((rd_T107 l0_5 x27_1).f0), .string ((rd_T107 l0_5 x27_1).f1), .string ((rd_T107 l0_5 x27_1).f2), .bool false]) ?_ 3 _ rfl; refine Kv_ ?_; refine blk_put (cs := #[.string ((rd_T107 l0_5 x27_1).f0), .string ((rd_T107 l0_5 x27_1).f1), .string (⟨#[]⟩ : ByteArray), .bool false]) ?_ 2 _ rfl; refine Kv_ ?_; refine blk_put (cs := #[.string ((rd_T107 l0_5 x27_1).f0), .string (⟨#[]⟩ : ByteArray), .string (⟨#[]⟩ : ByteArray), .bool false]) ?_ 1 _ rfl; refine Kv_ ?_; refine blk_put (cs := #[.string (⟨#[]⟩ : ByteArray), .string (⟨#[]⟩ : ByteArray), .string (⟨#[]⟩ : ByteArray), .bool false]) ?_ 0 _ rfl; exact Kq_ BK143⟩
   have n2_ : Aside0 (Below w.heap.size w ((((w39.setCell ⟨gb143, 0, none⟩ (.string ((rd_T107 l0_5 x27_1).f0))).setCell ⟨gb143, 1, none⟩ (.string ((rd_T107 l0_5 x27_1).f1))).setCell ⟨gb143, 2, none⟩ (.string ((rd_T107 l0_5 x27_1).f2))).setCell ⟨gb143, 3, none⟩ (.bool false))) := ⟨K2a_ HB GE137 GE143⟩
   (try clear BK137)
   (try clear BK143)
   (try clear HB)
   generalize ((((w39.setCell ⟨gb143, 0, none⟩ (.string ((rd_T107 l0_5 x27_1).f0))).setCell ⟨gb143, 1, none⟩ (.string ((rd_T107 l0_5 x27_1).f1))).setCell ⟨gb143, 2, none⟩ (.string ((rd_T107 l0_5 x27_1).f2))).setCell ⟨gb143, 3, none⟩ (.bool false)) = w42 at n0_ n1_ n2_ ⊢
   have BK137 := n0_
   have BK143 := n1_
   have HB := n2_
   clear n0_ n1_ n2_
   replace BK137 := Kd_ BK137
   replace BK143 := Kd_ BK143
   replace HB := Aside0.mk (below_drew1 HB.out)
   refine start_ (n := 10) (S := fun w' => w'.cell? ⟨gb143, 0, none⟩ = some (.string ((rd_T107 l0_5 x27_1).f0)) ∧ w'.cell? ⟨gb143, 1, none⟩ = some (.string ((rd_T107 l0_5 x27_1).f1)) ∧ w'.cell? ⟨gb143, 2, none⟩ = some (.string ((rd_T107 l0_5 x27_1).f2)) ∧ w'.cell? ⟨gb143, 3, none⟩ = some (.bool false)) (ds := []) (mB_ 10 0) (by kernel_rfl) rfl rfl (Kc4_ BK143.out) (fun hHeld => ?_); refine with_tabW item_Bytes.tab8 item_Bytes.bits8 (fun HT_ HW_ => ?_)
   generalize w42.drew = w43 at BK137 BK143 HB hHeld ⊢
   refine Kp_ 0 31 (mB_ 10 1) (any_of HT_.out (by kernel_rfl)) ?_
   refine Kp_ 1 32 (mB_ 10 3) (any_of HT_.out (by kernel_rfl)) ?_
   refine Kp_ 4 35 (mB_ 10 19) (any_of HT_.out (by kernel_rfl)) ?_
   refine Ko_ 2 33 (mB_ 10 23) (take_ofW HT_.out HW_.out (by kernel_rfl)) hHeld ?_
   refine Ko_ 5 36 (mB_ 10 55) (take_ofW HT_.out HW_.out (by kernel_rfl)) hHeld ?_
   refine one_ (i := 3) (N := some 34) (mB_ 10 63) rfl rfl (one_of HT_.out (by kernel_rfl)) (by decide) (fun K hK => ?_)
   refine goes_ Try.func62 (by kernel_rfl) rfl #[.string ((rd_T107 l0_5 x27_1).f0)] (by rfl) rfl rfl (by (try simp only [List.map_toArray, List.map_cons, List.map_nil]); first | done | rfl | (simp only [List.length_drop, List.length_take]; rfl)) ?_
   with_reducible refine (pack_Text.calls k1 ((rd_T107 l0_5 x27_1).f0) t144 _ A18.out).mono ?_
   rintro e w44 ⟨rfl, hb⟩
   refine ⟨_, rfl, ?_⟩
   replace BK137 := Kb_ BK137 hb
   replace BK143 := Kb_ BK143 hb
   replace HB := Ks_ HB hb
   (try clear hb)
   (try clear hb2)
   (try clear hk)
   (try clear hi)
   refine hK.out _ _ (Kc4_ BK143.out) (fun hHeld => ?_)
   clear hK K
   refine Kn_ 34 ?_
   refine one_ (i := 6) (N := some 37) (mB_ 10 127) rfl rfl (one_of HT_.out (by kernel_rfl)) (by decide) (fun K hK => ?_)
   refine goes_ Try.func62 (by kernel_rfl) rfl #[.string ((rd_T107 l0_5 x27_1).f1)] (by rfl) rfl rfl (by (try simp only [List.map_toArray, List.map_cons, List.map_nil]); first | done | rfl | (simp only [List.length_drop, List.length_take]; rfl)) ?_
   with_reducible refine (pack_Text.calls k1 ((rd_T107 l0_5 x27_1).f1) t145 _ A19.out).mono ?_
   rintro e w45 ⟨rfl, hb⟩
   refine ⟨_, rfl, ?_⟩
   replace BK137 := Kb_ BK137 hb
   replace BK143 := Kb_ BK143 hb
   replace HB := Ks_ HB hb
   (try clear hb)
   (try clear hb2)
   (try clear hk)
   (try clear hi)
   refine hK.out _ _ (Kc4_ BK143.out) (fun hHeld => ?_)
   clear hK K
   refine Kn_ 37 ?_
   refine Kp_ 7 38 (mB_ 10 255) (any_of HT_.out (by kernel_rfl)) ?_
   refine Kp_ 8 39 (mB_ 10 511) (any_of HT_.out (by kernel_rfl)) ?_
   refine Kp_ 9 4 (mB_ 10 1023) (any_of HT_.out (by kernel_rfl)) ?_
   refine done_ (done_of HT_.out (by kernel_rfl)) ?_
   obtain ⟨hcz46_0, hcz46_1, hcz46_2, hcz46_3, hfz46_0, hfz46_1, hfz46_2, hfz46_3⟩ := Ke4_ BK143.out
   try go_wp2
   replace BK137 := Kd_ BK137
   replace BK143 := Kd_ BK143
   replace HB := Aside0.mk (below_drew1 HB.out)
   refine start_ (n := 8) (S := fun w' => w'.cell? ⟨gb143, 0, none⟩ = some (.string ((rd_T107 l0_5 x27_1).f0)) ∧ w'.cell? ⟨gb143, 1, none⟩ = some (.string ((rd_T107 l0_5 x27_1).f1)) ∧ w'.cell? ⟨gb143, 2, none⟩ = some (.string ((rd_T107 l0_5 x27_1).f2)) ∧ w'.cell? ⟨gb143, 3, none⟩ = some (.bool false)) (ds := []) (mB_ 8 0) (by kernel_rfl) rfl rfl (Kc4_ BK143.out) (fun hHeld => ?_); refine with_tabW item_Bytes.tab11 item_Bytes.bits11 (fun HT_ HW_ => ?_)
   generalize w45.drew = w47 at BK137 BK143 HB hHeld ⊢
   refine Kp_ 0 45 (mB_ 8 1) (any_of HT_.out (by kernel_rfl)) ?_
   refine Kp_ 2 47 (mB_ 8 5) (any_of HT_.out (by kernel_rfl)) ?_
   refine Ko_ 3 48 (mB_ 8 13) (take_ofW HT_.out HW_.out (by kernel_rfl)) hHeld ?_
   refine one_ (i := 1) (N := some 46) (mB_ 8 15) rfl rfl (one_of HT_.out (by kernel_rfl)) (by decide) (fun K hK => ?_)
   refine goes_ Try.func59 (by kernel_rfl) rfl #[.int .u64 0, .int .i64 1] (by rfl) rfl rfl (by (try simp only [List.map_toArray, List.map_cons, List.map_nil]); first | done | rfl | (simp only [List.length_drop, List.length_take]; rfl)) ?_
   with_reducible refine (pack_Number.calls 0 1 t147 _ A35.out).mono ?_
   rintro e w48 ⟨rfl, hb⟩
   refine ⟨_, rfl, ?_⟩
   replace BK137 := Kb_ BK137 hb
   replace BK143 := Kb_ BK143 hb
   replace HB := Ks_ HB hb
   (try clear hb)
   (try clear hb2)
   (try clear hk)
   (try clear hi)
   refine hK.out _ _ (Kc4_ BK143.out) (fun hHeld => ?_)
   clear hK K
   refine Kn_ 46 ?_
   refine one_ (i := 4) (N := some 49) (mB_ 8 31) rfl rfl (one_of HT_.out (by kernel_rfl)) (by decide) (fun K hK => ?_)
   refine goes_ Try.func62 (by kernel_rfl) rfl #[.string ((rd_T107 l0_5 x27_1).f2)] (by rfl) rfl rfl (by (try simp only [List.map_toArray, List.map_cons, List.map_nil]); first | done | rfl | (simp only [List.length_drop, List.length_take]; rfl)) ?_
   with_reducible refine (pack_Text.calls k1 ((rd_T107 l0_5 x27_1).f2) t148 _ A36.out).mono ?_
   rintro e w49 ⟨rfl, hb⟩
   refine ⟨_, rfl, ?_⟩
   replace BK137 := Kb_ BK137 hb
   replace BK143 := Kb_ BK143 hb
   replace HB := Ks_ HB hb
   (try clear hb)
   (try clear hb2)
   (try clear hk)
   (try clear hi)
   refine hK.out _ _ (Kc4_ BK143.out) (fun hHeld => ?_)
   clear hK K
   refine Kn_ 49 ?_
   refine Kp_ 5 50 (mB_ 8 63) (any_of HT_.out (by kernel_rfl)) ?_
   refine Kp_ 6 51 (mB_ 8 127) (any_of HT_.out (by kernel_rfl)) ?_
   refine Kp_ 7 4 (mB_ 8 255) (any_of HT_.out (by kernel_rfl)) ?_
   refine done_ (done_of HT_.out (by kernel_rfl)) ?_
   try go_wp2
   go_roundg k1
   case measure => have := HK1.out; omega
   case rel => exact ⟨((x4_1 ++ (t144 ++ t145)) ++ (t147 ++ t148)), (wrap64 (x27_1 + 1)), (by first | rfl | (simp; done) | (simp [*]; done)), (by first | rfl | (simp; done) | (simp [*]; done)), H', ⟨by have := HK1.out; omega⟩, ⟨by exact Kq_ BK137⟩, ⟨K2a_ HB GE137 GE143⟩⟩
def crc_next.l0 : Nat → Int → Int → Option (Int)
 | 0, _, _ => none
 | k + 1, x0, x9 => if x9 < 8 then (crc_next.l0 k (Go.bits .xor .u32 (x0 / 2) (Go.bits .and .u32 3988292384 ((-(Go.bits .and .u32 x0 1)) % 4294967296))) (wrap64 (x9 + 1))) else (some x0)
def crc_next.f (k : Nat) (a0 : Int) (a1 : Int) : Option (Int) := crc_next.l0 k (Go.bits .xor .u32 a0 ((a1) % 4294967296)) 0
set_option maxHeartbeats 8000000 in
set_option maxRecDepth 100000 in
theorem crc_next.calls (k : Nat) (a0 : Int) (a1 : Int) (r : Int) (w : World) (h : crc_next.f k a0 a1 = some r) :
  Calls Try.prog 89 #[.int .u32 a0, .int .u8 a1] w fun e w' => e = .returned (.int .u32 r) ∧ Drawn0 w w' := by
 have H : (crc_next.l0 k (Go.bits .xor .u32 a0 ((a1) % 4294967296)) 0) = some r := h
 clear h
 have H' := Aside0.mk H
 clear H
 go_enter Try.func89, Try.ntmps89
 go_wp2
 go_loopg [0, 9] k (fun kq v0 v9 w' => ∃ (x0_1 : Int) (x9_1 : Int), v0 = .int .u32 x0_1 ∧ v9 = .int .i64 x9_1 ∧ Aside0 (crc_next.l0 kq x0_1 x9_1 = some r) ∧ Aside0 (kq ≤ k) ∧ Drawn0 w w')
 case atStart => exact ⟨(Go.bits .xor .u32 a0 ((a1) % 4294967296)), (0), (by first | rfl | (simp; done) | (simp [*]; done)), (by first | rfl | (simp; done) | (simp [*]; done)), H', ⟨Nat.le_refl _⟩, by repeat (first | exact Drawn0.refl _ | apply Drawn0.step)⟩
 case round =>
  clear H'
  try clear p2
  obtain ⟨x0_1, x9_1, rfl, rfl, HA, HK1, ⟨m1, rfl⟩⟩ := hrel
  cases gk with
  | zero => exact absurd HA.out (by simp [crc_next.l0])
  | succ k1 =>
   have H := HA.out
   clear HA
   simp only [crc_next.l0] at H
   by_cases c3 : x9_1 < 8
   rotate_left
   ·rw [if_neg c3] at H
    have c3b0 : decide (x9_1 < 8) = false := decide_eq_false c3
    clear c3
    obtain rfl := Option.some.inj H
    go_wp2
    go_ret
    exact ⟨by first | rfl | (simp; done) | (simp [*]; done), by repeat (first | exact Drawn0.refl _ | apply Drawn0.step)⟩
   rw [if_pos c3] at H
   have c3b0 : decide (x9_1 < 8) = true := decide_eq_true c3
   clear c3
   have H' := Aside0.mk H
   clear H
   go_wp2
   go_roundg k1
   case measure => have := HK1.out; omega
   case rel => exact ⟨(Go.bits .xor .u32 (x0_1 / 2) (Go.bits .and .u32 3988292384 ((-(Go.bits .and .u32 x0_1 1)) % 4294967296))), (wrap64 (x9_1 + 1)), (by first | rfl | (simp; done) | (simp [*]; done)), (by first | rfl | (simp; done) | (simp [*]; done)), H', ⟨by have := HK1.out; omega⟩, by repeat (first | exact Drawn0.refl _ | apply Drawn0.step)⟩
def crc_Sum.fold (k : Nat) (s : ByteArray) : Nat → Option (Int)
 | 0 => some 4294967295
 | i + 1 => (crc_Sum.fold k s i).bind fun c => crc_next.f k c (bt s (i : Int))
def crc_Sum.f (k : Nat) (a0 : ByteArray) : Option (Int) :=
 if a0.size ≤ 9223372036854775807 then (crc_Sum.fold k a0 a0.size).bind fun c => some (Go.bits .xor .u32 4294967295 c) else none
theorem crc_Sum.fold_some {k : Nat} {s : ByteArray} : ∀ {n : Nat} {c : Int}, crc_Sum.fold k s n = some c → ∀ i, i ≤ n → ∃ d, crc_Sum.fold k s i = some d
 | 0, c, h, i, hi => by
  obtain rfl : i = 0 := by omega
  exact ⟨c, h⟩
 | n + 1, c, h, i, hi => by
  by_cases e : i = n + 1
  ·subst e; exact ⟨c, h⟩
  ·obtain ⟨d, hd, _⟩ := Option.bind_eq_some_iff.1 h
   exact crc_Sum.fold_some hd i (by omega)
set_option maxHeartbeats 1000000 in
theorem crc_Sum.calls (k : Nat) (a0 : ByteArray) (r : Int) (w : World) (h : crc_Sum.f k a0 = some r) :
  Calls Try.prog 63 #[.string a0] w fun e w' => e = .returned (.int .u32 r) ∧ Below w.heap.size w w' := by
 unfold crc_Sum.f at h
 by_cases hm : a0.size ≤ 9223372036854775807
 ·rw [if_pos hm] at h
  obtain ⟨c, hc0, hr0⟩ := Option.bind_eq_some_iff.1 h
  obtain rfl := Option.some.inj hr0
  have HC := Aside0.mk hc0
  clear h hr0 hc0
  have hcv := fun W t => Lib.run_convert_string_bytes (P := Try.prog) W 9 91 5 t Try.underlying9 Try.underlying91 Try.underlying5
  go_enter Try.func63, Try.ntmps63
  go_wp2
  obtain ⟨W, hW⟩ : ∃ W, W = Lib.bytesWorld w 5 a0 := ⟨_, rfl⟩
  have HB := Aside0.mk (show Below w.heap.size w W by rw [hW]; exact bytes_below (Below.refl _ _) (Nat.le_refl _) _ _)
  have HE := Aside0.mk (show ∀ j : Nat, j < a0.size → W.cell? ⟨w.heap.size, j, none⟩ = some (.int .u8 (bt a0 j)) by
   intro j hj
   obtain ⟨_, _, hr⟩ := bytes_reads w 5 a0 hm
   rw [← hW] at hr
   obtain ⟨ad, had, hr⟩ := hr (by omega)
   have hr := hr j hj
   simp at had
   subst had
   rw [add_plain] at hr
   rw [hr]
   have e1 : (bytesOf a0).getD j 0 = bt a0 j := rd_bytesOf a0 j
   rw [e1])
  have HS := Aside0.mk (show w.heap.size < W.heap.size by rw [hW, Lib.bytesWorld_size]; omega)
  rw [← hW]
  clear hW hcv
  go_loopw [9, 3] (fun i v wr => ∃ (j : Nat) (d : Int), j ≤ a0.size ∧ i = .int .i64 j ∧ v = .int .u32 d ∧ Aside0 (crc_Sum.fold k a0 j = some d) ∧ Aside0 (Below W.heap.size W wr)) (fun i _ _ => a0.size - (intOf i).toNat)
  case atStart => exact ⟨0, _, Nat.zero_le _, rfl, rfl, ⟨rfl⟩, ⟨Below.refl _ _⟩⟩
  case round =>
   obtain ⟨j, d, hj, rfl, rfl, HD, HW⟩ := hrel
   by_cases hlt : j < a0.size
   ·obtain ⟨d', hd'⟩ := crc_Sum.fold_some HC.out (j + 1) hlt
    have hn : crc_next.f k d (bt a0 j) = some d' := by
     have := hd'
     simp only [crc_Sum.fold] at this
     rw [HD.out] at this
     exact this
    have HN := Aside0.mk hn
    have HD' := Aside0.mk hd'
    clear hn hd'
    have hcell := (HW.out.cell (p := ⟨w.heap.size, j, none⟩) HS.out).trans (HE.out j hlt)
    go_wp2_with (go_at_call 89; refine (crc_next.calls k d (bt a0 j) d' _ HN.out).mono ?_; rintro e w1 ⟨rfl, hb1⟩; have HW1 := Aside0.mk (HW.out.trans (hb1.below.mono HW.out.size)); clear hb1)
    go_roundw
    case rel => exact ⟨j + 1, d', by omega, by go_num, rfl, HD', HW1⟩
    case measure => simp [intOf]; omega
   ·obtain rfl : j = a0.size := by omega
    obtain rfl : d = c := Option.some.inj (HD.out.symm.trans HC.out)
    go_wp2
    go_ret
    exact ⟨rfl, HB.out.trans (HW.out.mono (Nat.le_of_lt HS.out))⟩
 ·rw [if_neg hm] at h
  exact absurd h (by simp)
def stream_Put.f (k : Nat) (a0_0 : Int) (a0_1 : Int) (a0_2 : Int) (a0_3 : Int) (a0_4 : Int) (a0_5 : Int) (a0_6 : Int) (a0_7 : Int) (l0_8 : List (S107)) : Option (ByteArray × Bool) := (stream_Right.f k a0_0 a0_1 a0_2 a0_3 a0_4 a0_5 a0_6 a0_7 l0_8).bind fun t150 => (if t150 = true then ((pack_Number.f (IntKind.u64.wrap (a0_0)) 1).bind fun t151 => ((pack_Number.f (IntKind.u64.wrap (a0_1)) 1).bind fun t152 => (if t151.size + t152.size ≤ 9223372036854775807 then ((pack_Vary.f k a0_2).bind fun t153 => (if (t151 ++ t152).size + t153.size ≤ 9223372036854775807 then ((item_Bytes.f k a0_3 a0_4 a0_5 a0_6 a0_7 l0_8).bind fun bt154 => (if bt154.2 = true then ((pack_Text.f k bt154.1).bind fun t156 => (if ((t151 ++ t152) ++ t153).size + t156.size ≤ 9223372036854775807 then ((crc_Sum.f k (((t151 ++ t152) ++ t153) ++ t156)).bind fun t157 => ((pack_Number.f (IntKind.u64.wrap (t157)) 4).bind fun t158 => (if (((t151 ++ t152) ++ t153) ++ t156).size + t158.size ≤ 9223372036854775807 then (some ((((t151 ++ t152) ++ t153) ++ t156) ++ t158, true)) else (none)))) else (none))) else ((crc_Sum.f k ((t151 ++ t152) ++ t153)).bind fun t159 => ((pack_Number.f (IntKind.u64.wrap (t159)) 4).bind fun t160 => (if ((t151 ++ t152) ++ t153).size + t160.size ≤ 9223372036854775807 then (some (((t151 ++ t152) ++ t153) ++ t160, true)) else (none)))))) else (none))) else (none)))) else (some ((⟨#[]⟩ : ByteArray), false)))
def stream_Put.T3 : Bool × List (List Nat × List Nat) := (true, [([], []), ([0], [0]), ([1], [1]), ([2], [2]), ([], []), ([4], [4]), ([5], [5]), ([6, 3], [6]), ([3, 7], [3, 7]), ([], []), ([9], [9]), ([10, 7], [10]), ([8, 11], [8, 11]), ([12, 11, 0, 1, 2, 3, 4, 5, 6, 7, 8, 9, 10, 11, 12], [12])])
def stream_Put.B3 : List Nat := [0, 1, 3, 7, 0, 16, 48, 127, 255, 0, 512, 1791, 4095, 8191]
theorem stream_Put.tab3 : rtab .any (opsOf Try.f27 3) = stream_Put.T3 := by kernel_rfl
theorem stream_Put.bits3 : waitsOk stream_Put.T3.2 stream_Put.B3 = true := by kernel_rfl
set_option maxHeartbeats 8000000 in
set_option maxRecDepth 100000 in
theorem stream_Put.calls (k : Nat) (a0_0 : Int) (a0_1 : Int) (a0_2 : Int) (a0_3 : Int) (a0_4 : Int) (a0_5 : Int) (a0_6 : Int) (a0_7 : Int) (A0_8 : Option Addr) (c0_8 : Nat) (l0_8 : List (S107)) (r1 : ByteArray) (r2 : Bool) (w : World) (hr0_8 : Kd.C k107 w A0_8 l0_8.length l0_8) (hc0_8 : l0_8.length ≤ c0_8) (h : stream_Put.f k a0_0 a0_1 a0_2 a0_3 a0_4 a0_5 a0_6 a0_7 l0_8 = some (r1, r2)) :
  Calls Try.prog 27 #[.agg #[.int .i64 a0_0, .int .i64 a0_1, .int .u64 a0_2, .int .u64 a0_3, .int .u64 a0_4, .int .u64 a0_5, .int .u64 a0_6, .int .i64 a0_7, .slice A0_8 l0_8.length c0_8]] w fun e w' => e = .returned (.tuple #[.string r1, .bool r2]) ∧ Below w.heap.size w w' := by
 have hu69 := Try.underlying69
 have hu33 := Try.underlying33
 have HR0_8 := Aside0.mk hr0_8
 have HC0_8 := Aside0.mk hc0_8
 clear hr0_8 hc0_8
 have HB := Aside0.mk (Below.refl w.heap.size w)
 have H : ((stream_Right.f k a0_0 a0_1 a0_2 a0_3 a0_4 a0_5 a0_6 a0_7 l0_8).bind fun t150 => (if t150 = true then ((pack_Number.f (IntKind.u64.wrap (a0_0)) 1).bind fun t151 => ((pack_Number.f (IntKind.u64.wrap (a0_1)) 1).bind fun t152 => (if t151.size + t152.size ≤ 9223372036854775807 then ((pack_Vary.f k a0_2).bind fun t153 => (if (t151 ++ t152).size + t153.size ≤ 9223372036854775807 then ((item_Bytes.f k a0_3 a0_4 a0_5 a0_6 a0_7 l0_8).bind fun bt154 => (if bt154.2 = true then ((pack_Text.f k bt154.1).bind fun t156 => (if ((t151 ++ t152) ++ t153).size + t156.size ≤ 9223372036854775807 then ((crc_Sum.f k (((t151 ++ t152) ++ t153) ++ t156)).bind fun t157 => ((pack_Number.f (IntKind.u64.wrap (t157)) 4).bind fun t158 => (if (((t151 ++ t152) ++ t153) ++ t156).size + t158.size ≤ 9223372036854775807 then (some ((((t151 ++ t152) ++ t153) ++ t156) ++ t158, true)) else (none)))) else (none))) else ((crc_Sum.f k ((t151 ++ t152) ++ t153)).bind fun t159 => ((pack_Number.f (IntKind.u64.wrap (t159)) 4).bind fun t160 => (if ((t151 ++ t152) ++ t153).size + t160.size ≤ 9223372036854775807 then (some (((t151 ++ t152) ++ t153) ++ t160, true)) else (none)))))) else (none))) else (none)))) else (some ((⟨#[]⟩ : ByteArray), false)))) = some (r1, r2) := h
 (try (have Hs_ := H; simp only [ByteArray.size_append, Int.natCast_add] at Hs_))
 clear h
 replace H := Option.bind_eq_some_iff.mp H
 obtain ⟨t150, A20, H⟩ := H
 replace H : (if t150 = true then ((pack_Number.f (IntKind.u64.wrap (a0_0)) 1).bind fun t151 => ((pack_Number.f (IntKind.u64.wrap (a0_1)) 1).bind fun t152 => (if t151.size + t152.size ≤ 9223372036854775807 then ((pack_Vary.f k a0_2).bind fun t153 => (if (t151 ++ t152).size + t153.size ≤ 9223372036854775807 then ((item_Bytes.f k a0_3 a0_4 a0_5 a0_6 a0_7 l0_8).bind fun bt154 => (if bt154.2 = true then ((pack_Text.f k bt154.1).bind fun t156 => (if ((t151 ++ t152) ++ t153).size + t156.size ≤ 9223372036854775807 then ((crc_Sum.f k (((t151 ++ t152) ++ t153) ++ t156)).bind fun t157 => ((pack_Number.f (IntKind.u64.wrap (t157)) 4).bind fun t158 => (if (((t151 ++ t152) ++ t153) ++ t156).size + t158.size ≤ 9223372036854775807 then (some ((((t151 ++ t152) ++ t153) ++ t156) ++ t158, true)) else (none)))) else (none))) else ((crc_Sum.f k ((t151 ++ t152) ++ t153)).bind fun t159 => ((pack_Number.f (IntKind.u64.wrap (t159)) 4).bind fun t160 => (if ((t151 ++ t152) ++ t153).size + t160.size ≤ 9223372036854775807 then (some (((t151 ++ t152) ++ t153) ++ t160, true)) else (none)))))) else (none))) else (none)))) else (some ((⟨#[]⟩ : ByteArray), false))) = some (r1, r2) := H
 have A2 := Aside0.mk A20
 clear A20
 by_cases c3 : t150 = true
 rotate_left
 ·replace c3 := Bool.eq_false_iff.mpr c3
  subst c3
  have H1 : (some ((⟨#[]⟩ : ByteArray), false)) = some (r1, r2) := by rw [if_neg (show ¬ (false = true) by decide)] at H; exact H
  clear H
  have H := H1
  clear H1
  simp only [Option.some.injEq, Prod.mk.injEq] at H
  obtain ⟨rfl, rfl⟩ := H
  go_enter Try.func27, Try.ntmps27
  go_wp2_with (first | ((with_reducible refine gate_dst (N := 1) rfl ?_); refine Ka_ 1 #[.int .i64 a0_0, .int .i64 a0_1, .int .u64 a0_2, .int .u64 a0_3, .int .u64 a0_4, .int .u64 a0_5, .int .u64 a0_6, .int .i64 a0_7, .slice A0_8 l0_8.length c0_8] 69 ?_; intro gb149 hg w42 hbox hb; have BK149 := Aside0.mk (hbox); have GW149 := Kw_ HB hg; have GE149 := GW149; replace HB := Ks_ HB hb; clear hb hbox hg; obtain ⟨hcz43_0, hcz43_1, hcz43_2, hcz43_3, hcz43_4, hcz43_5, hcz43_6, hcz43_7, hcz43_8, hfz43_0, hfz43_1, hfz43_2, hfz43_3, hfz43_4, hfz43_5, hfz43_6, hfz43_7, hfz43_8⟩ := Ke9_ BK149.out) | ((with_reducible refine gate_callee (f := 33) rfl ?_); refine Kg_ (some 8) rfl rfl Try.func33 (by kernel_rfl) rfl #[.agg #[.int .i64 a0_0, .int .i64 a0_1, .int .u64 a0_2, .int .u64 a0_3, .int .u64 a0_4, .int .u64 a0_5, .int .u64 a0_6, .int .i64 a0_7, .slice A0_8 l0_8.length c0_8]] rfl ?_; (with_reducible refine (stream_Right.calls k a0_0 a0_1 a0_2 a0_3 a0_4 a0_5 a0_6 a0_7 _ _ l0_8 false _ ?side1 ?side2 A2.out).mono ?_); (case side1 => repeat (first | exact (Kd.C_below HR0_8.out HB.out) | (with_reducible refine Kd.C_alloc ?_ _) | (with_reducible refine Kd.C_drewN ?_ _) | (with_reducible refine Kd.C_drew ?_))); (case side2 => exact HC0_8.out); rintro e w44 ⟨rfl, hb⟩; refine ⟨_, rfl, ?_⟩; replace BK149 := Kb_ BK149 hb; replace HB := Ks_ HB hb; (try clear hb); (try clear hb2); (try clear hk); (try clear hi)))
  go_ret2
  exact ⟨Kh_, Kz_ HB GE149⟩
 subst c3
 have H1 : ((pack_Number.f (IntKind.u64.wrap (a0_0)) 1).bind fun t151 => ((pack_Number.f (IntKind.u64.wrap (a0_1)) 1).bind fun t152 => (if t151.size + t152.size ≤ 9223372036854775807 then ((pack_Vary.f k a0_2).bind fun t153 => (if (t151 ++ t152).size + t153.size ≤ 9223372036854775807 then ((item_Bytes.f k a0_3 a0_4 a0_5 a0_6 a0_7 l0_8).bind fun bt154 => (if bt154.2 = true then ((pack_Text.f k bt154.1).bind fun t156 => (if ((t151 ++ t152) ++ t153).size + t156.size ≤ 9223372036854775807 then ((crc_Sum.f k (((t151 ++ t152) ++ t153) ++ t156)).bind fun t157 => ((pack_Number.f (IntKind.u64.wrap (t157)) 4).bind fun t158 => (if (((t151 ++ t152) ++ t153) ++ t156).size + t158.size ≤ 9223372036854775807 then (some ((((t151 ++ t152) ++ t153) ++ t156) ++ t158, true)) else (none)))) else (none))) else ((crc_Sum.f k ((t151 ++ t152) ++ t153)).bind fun t159 => ((pack_Number.f (IntKind.u64.wrap (t159)) 4).bind fun t160 => (if ((t151 ++ t152) ++ t153).size + t160.size ≤ 9223372036854775807 then (some (((t151 ++ t152) ++ t153) ++ t160, true)) else (none)))))) else (none))) else (none)))) = some (r1, r2) := by rw [if_pos rfl] at H; exact H
 clear H
 have H := H1
 clear H1
 replace H := Option.bind_eq_some_iff.mp H
 obtain ⟨t151, A40, H⟩ := H
 replace H : ((pack_Number.f (IntKind.u64.wrap (a0_1)) 1).bind fun t152 => (if t151.size + t152.size ≤ 9223372036854775807 then ((pack_Vary.f k a0_2).bind fun t153 => (if (t151 ++ t152).size + t153.size ≤ 9223372036854775807 then ((item_Bytes.f k a0_3 a0_4 a0_5 a0_6 a0_7 l0_8).bind fun bt154 => (if bt154.2 = true then ((pack_Text.f k bt154.1).bind fun t156 => (if ((t151 ++ t152) ++ t153).size + t156.size ≤ 9223372036854775807 then ((crc_Sum.f k (((t151 ++ t152) ++ t153) ++ t156)).bind fun t157 => ((pack_Number.f (IntKind.u64.wrap (t157)) 4).bind fun t158 => (if (((t151 ++ t152) ++ t153) ++ t156).size + t158.size ≤ 9223372036854775807 then (some ((((t151 ++ t152) ++ t153) ++ t156) ++ t158, true)) else (none)))) else (none))) else ((crc_Sum.f k ((t151 ++ t152) ++ t153)).bind fun t159 => ((pack_Number.f (IntKind.u64.wrap (t159)) 4).bind fun t160 => (if ((t151 ++ t152) ++ t153).size + t160.size ≤ 9223372036854775807 then (some (((t151 ++ t152) ++ t153) ++ t160, true)) else (none)))))) else (none))) else (none))) = some (r1, r2) := H
 have A4 := Aside0.mk A40
 clear A40
 replace H := Option.bind_eq_some_iff.mp H
 obtain ⟨t152, A50, H⟩ := H
 replace H : (if t151.size + t152.size ≤ 9223372036854775807 then ((pack_Vary.f k a0_2).bind fun t153 => (if (t151 ++ t152).size + t153.size ≤ 9223372036854775807 then ((item_Bytes.f k a0_3 a0_4 a0_5 a0_6 a0_7 l0_8).bind fun bt154 => (if bt154.2 = true then ((pack_Text.f k bt154.1).bind fun t156 => (if ((t151 ++ t152) ++ t153).size + t156.size ≤ 9223372036854775807 then ((crc_Sum.f k (((t151 ++ t152) ++ t153) ++ t156)).bind fun t157 => ((pack_Number.f (IntKind.u64.wrap (t157)) 4).bind fun t158 => (if (((t151 ++ t152) ++ t153) ++ t156).size + t158.size ≤ 9223372036854775807 then (some ((((t151 ++ t152) ++ t153) ++ t156) ++ t158, true)) else (none)))) else (none))) else ((crc_Sum.f k ((t151 ++ t152) ++ t153)).bind fun t159 => ((pack_Number.f (IntKind.u64.wrap (t159)) 4).bind fun t160 => (if ((t151 ++ t152) ++ t153).size + t160.size ≤ 9223372036854775807 then (some (((t151 ++ t152) ++ t153) ++ t160, true)) else (none)))))) else (none))) else (none)) = some (r1, r2) := H
 have A5 := Aside0.mk A50
 clear A50
 by_cases c6 : t151.size + t152.size ≤ 9223372036854775807
 rotate_left
 ·rw [if_neg c6] at H
  exact absurd H (by simp)
 rw [if_pos c6] at H
 have c6b0 := eq_true c6
 have c6b1 : decide (t151.size + t152.size ≤ 9223372036854775807) = true := decide_eq_true c6
 try have c6b2 : (9223372036854775807 < t151.size + t152.size) = False := eq_false (Nat.not_lt.2 c6)
 replace H := Option.bind_eq_some_iff.mp H
 obtain ⟨t153, A70, H⟩ := H
 replace H : (if (t151 ++ t152).size + t153.size ≤ 9223372036854775807 then ((item_Bytes.f k a0_3 a0_4 a0_5 a0_6 a0_7 l0_8).bind fun bt154 => (if bt154.2 = true then ((pack_Text.f k bt154.1).bind fun t156 => (if ((t151 ++ t152) ++ t153).size + t156.size ≤ 9223372036854775807 then ((crc_Sum.f k (((t151 ++ t152) ++ t153) ++ t156)).bind fun t157 => ((pack_Number.f (IntKind.u64.wrap (t157)) 4).bind fun t158 => (if (((t151 ++ t152) ++ t153) ++ t156).size + t158.size ≤ 9223372036854775807 then (some ((((t151 ++ t152) ++ t153) ++ t156) ++ t158, true)) else (none)))) else (none))) else ((crc_Sum.f k ((t151 ++ t152) ++ t153)).bind fun t159 => ((pack_Number.f (IntKind.u64.wrap (t159)) 4).bind fun t160 => (if ((t151 ++ t152) ++ t153).size + t160.size ≤ 9223372036854775807 then (some (((t151 ++ t152) ++ t153) ++ t160, true)) else (none)))))) else (none)) = some (r1, r2) := H
 have A7 := Aside0.mk A70
 clear A70
 by_cases c8 : (t151 ++ t152).size + t153.size ≤ 9223372036854775807
 rotate_left
 ·rw [if_neg c8] at H
  exact absurd H (by simp)
 rw [if_pos c8] at H
 have c8b0 := eq_true c8
 (try (have c8b0s_ := c8b0; simp only [ByteArray.size_append, Int.natCast_add] at c8b0s_))
 have c8b1 : decide ((t151 ++ t152).size + t153.size ≤ 9223372036854775807) = true := decide_eq_true c8
 (try (have c8b1s_ := c8b1; simp only [ByteArray.size_append, Int.natCast_add] at c8b1s_))
 try have c8b2 : (9223372036854775807 < (t151 ++ t152).size + t153.size) = False := eq_false (Nat.not_lt.2 c8)
 (try (have c8b2s_ := c8b2; simp only [ByteArray.size_append, Int.natCast_add] at c8b2s_))
 replace H := Option.bind_eq_some_iff.mp H
 obtain ⟨⟨t154, t155⟩, A90, H⟩ := H
 replace H : (if t155 = true then ((pack_Text.f k t154).bind fun t156 => (if ((t151 ++ t152) ++ t153).size + t156.size ≤ 9223372036854775807 then ((crc_Sum.f k (((t151 ++ t152) ++ t153) ++ t156)).bind fun t157 => ((pack_Number.f (IntKind.u64.wrap (t157)) 4).bind fun t158 => (if (((t151 ++ t152) ++ t153) ++ t156).size + t158.size ≤ 9223372036854775807 then (some ((((t151 ++ t152) ++ t153) ++ t156) ++ t158, true)) else (none)))) else (none))) else ((crc_Sum.f k ((t151 ++ t152) ++ t153)).bind fun t159 => ((pack_Number.f (IntKind.u64.wrap (t159)) 4).bind fun t160 => (if ((t151 ++ t152) ++ t153).size + t160.size ≤ 9223372036854775807 then (some (((t151 ++ t152) ++ t153) ++ t160, true)) else (none))))) = some (r1, r2) := H
 have A9 := Aside0.mk A90
 clear A90
 by_cases c10 : t155 = true
 rotate_left
 ·replace c10 := Bool.eq_false_iff.mpr c10
  subst c10
  have H1 : ((crc_Sum.f k ((t151 ++ t152) ++ t153)).bind fun t159 => ((pack_Number.f (IntKind.u64.wrap (t159)) 4).bind fun t160 => (if ((t151 ++ t152) ++ t153).size + t160.size ≤ 9223372036854775807 then (some (((t151 ++ t152) ++ t153) ++ t160, true)) else (none)))) = some (r1, r2) := by rw [if_neg (show ¬ (false = true) by decide)] at H; exact H
  clear H
  have H := H1
  clear H1
  replace H := Option.bind_eq_some_iff.mp H
  obtain ⟨t159, A280, H⟩ := H
  replace H : ((pack_Number.f (IntKind.u64.wrap (t159)) 4).bind fun t160 => (if ((t151 ++ t152) ++ t153).size + t160.size ≤ 9223372036854775807 then (some (((t151 ++ t152) ++ t153) ++ t160, true)) else (none))) = some (r1, r2) := H
  have A28 := Aside0.mk A280
  clear A280
  replace H := Option.bind_eq_some_iff.mp H
  obtain ⟨t160, A290, H⟩ := H
  replace H : (if ((t151 ++ t152) ++ t153).size + t160.size ≤ 9223372036854775807 then (some (((t151 ++ t152) ++ t153) ++ t160, true)) else (none)) = some (r1, r2) := H
  have A29 := Aside0.mk A290
  clear A290
  by_cases c30 : ((t151 ++ t152) ++ t153).size + t160.size ≤ 9223372036854775807
  rotate_left
  ·rw [if_neg c30] at H
   exact absurd H (by simp)
  rw [if_pos c30] at H
  have c30b0 := eq_true c30
  (try (have c30b0s_ := c30b0; simp only [ByteArray.size_append, Int.natCast_add] at c30b0s_))
  have c30b1 : decide (((t151 ++ t152) ++ t153).size + t160.size ≤ 9223372036854775807) = true := decide_eq_true c30
  (try (have c30b1s_ := c30b1; simp only [ByteArray.size_append, Int.natCast_add] at c30b1s_))
  try have c30b2 : (9223372036854775807 < ((t151 ++ t152) ++ t153).size + t160.size) = False := eq_false (Nat.not_lt.2 c30)
  (try (have c30b2s_ := c30b2; simp only [ByteArray.size_append, Int.natCast_add] at c30b2s_))
  simp only [Option.some.injEq, Prod.mk.injEq] at H
  obtain ⟨rfl, rfl⟩ := H
  go_enter Try.func27, Try.ntmps27
  try go_wp2_with (first | ((with_reducible refine gate_dst (N := 1) rfl ?_); refine Ka_ 1 #[.int .i64 a0_0, .int .i64 a0_1, .int .u64 a0_2, .int .u64 a0_3, .int .u64 a0_4, .int .u64 a0_5, .int .u64 a0_6, .int .i64 a0_7, .slice A0_8 l0_8.length c0_8] 69 ?_; intro gb149 hg w31 hbox hb; have BK149 := Aside0.mk (hbox); have GW149 := Kw_ HB hg; have GE149 := GW149; replace HB := Ks_ HB hb; clear hb hbox hg; obtain ⟨hcz32_0, hcz32_1, hcz32_2, hcz32_3, hcz32_4, hcz32_5, hcz32_6, hcz32_7, hcz32_8, hfz32_0, hfz32_1, hfz32_2, hfz32_3, hfz32_4, hfz32_5, hfz32_6, hfz32_7, hfz32_8⟩ := Ke9_ BK149.out) | ((with_reducible refine gate_callee (f := 33) rfl ?_); refine Kg_ (some 8) rfl rfl Try.func33 (by kernel_rfl) rfl #[.agg #[.int .i64 a0_0, .int .i64 a0_1, .int .u64 a0_2, .int .u64 a0_3, .int .u64 a0_4, .int .u64 a0_5, .int .u64 a0_6, .int .i64 a0_7, .slice A0_8 l0_8.length c0_8]] rfl ?_; (with_reducible refine (stream_Right.calls k a0_0 a0_1 a0_2 a0_3 a0_4 a0_5 a0_6 a0_7 _ _ l0_8 true _ ?side1 ?side2 A2.out).mono ?_); (case side1 => repeat (first | exact (Kd.C_below HR0_8.out HB.out) | (with_reducible refine Kd.C_alloc ?_ _) | (with_reducible refine Kd.C_drewN ?_ _) | (with_reducible refine Kd.C_drew ?_))); (case side2 => exact HC0_8.out); rintro e w33 ⟨rfl, hb⟩; refine ⟨_, rfl, ?_⟩; replace BK149 := Kb_ BK149 hb; replace HB := Ks_ HB hb; (try clear hb); (try clear hb2); (try clear hk); (try clear hi)))
  replace BK149 := Kd_ BK149
  replace HB := Aside0.mk (below_drew1 HB.out)
  refine start_ (n := 14) (S := fun w' => w'.cell? ⟨gb149, 0, none⟩ = some (.int .i64 a0_0) ∧ w'.cell? ⟨gb149, 1, none⟩ = some (.int .i64 a0_1) ∧ w'.cell? ⟨gb149, 2, none⟩ = some (.int .u64 a0_2) ∧ w'.cell? ⟨gb149, 3, none⟩ = some (.int .u64 a0_3) ∧ w'.cell? ⟨gb149, 4, none⟩ = some (.int .u64 a0_4) ∧ w'.cell? ⟨gb149, 5, none⟩ = some (.int .u64 a0_5) ∧ w'.cell? ⟨gb149, 6, none⟩ = some (.int .u64 a0_6) ∧ w'.cell? ⟨gb149, 7, none⟩ = some (.int .i64 a0_7) ∧ w'.cell? ⟨gb149, 8, none⟩ = some (.slice A0_8 l0_8.length c0_8)) (ds := []) (mB_ 14 0) (by kernel_rfl) rfl rfl (Kc9_ BK149.out) (fun hHeld => ?_); refine with_tabW stream_Put.tab3 stream_Put.bits3 (fun HT_ HW_ => ?_)
  generalize w33.drew = w34 at BK149 HB hHeld ⊢
  refine Kp_ 0 10 (mB_ 14 1) (any_of HT_.out (by kernel_rfl)) ?_
  refine Kp_ 4 14 (mB_ 14 17) (any_of HT_.out (by kernel_rfl)) ?_
  refine Kp_ 9 19 (mB_ 14 529) (any_of HT_.out (by kernel_rfl)) ?_
  refine Ko_ 1 11 (mB_ 14 531) (take_ofW HT_.out HW_.out (by kernel_rfl)) hHeld ?_
  refine Kp_ 2 12 (mB_ 14 535) (any_of HT_.out (by kernel_rfl)) ?_
  refine Ko_ 5 15 (mB_ 14 567) (take_ofW HT_.out HW_.out (by kernel_rfl)) hHeld ?_
  refine Kp_ 6 16 (mB_ 14 631) (any_of HT_.out (by kernel_rfl)) ?_
  refine Ko_ 10 20 (mB_ 14 1655) (take_ofW HT_.out HW_.out (by kernel_rfl)) hHeld ?_
  refine one_ (i := 3) (N := some 13) (mB_ 14 1663) rfl rfl (one_of HT_.out (by kernel_rfl)) (by decide) (fun K hK => ?_)
  refine goes_ Try.func59 (by kernel_rfl) rfl #[.int .u64 (IntKind.u64.wrap (a0_0)), .int .i64 1] (by rfl) rfl rfl (by (try simp only [List.map_toArray, List.map_cons, List.map_nil]); first | done | rfl | (simp only [List.length_drop, List.length_take]; rfl)) ?_
  with_reducible refine (pack_Number.calls (IntKind.u64.wrap (a0_0)) 1 t151 _ A4.out).mono ?_
  rintro e w35 ⟨rfl, hb⟩
  refine ⟨_, rfl, ?_⟩
  replace BK149 := Kb_ BK149 hb
  replace HB := Ks_ HB hb
  (try clear hb)
  (try clear hb2)
  (try clear hk)
  (try clear hi)
  refine hK.out _ _ (Kc9_ BK149.out) (fun hHeld => ?_)
  clear hK K
  refine Kn_ 13 ?_
  refine one_ (i := 7) (N := some 17) (mB_ 14 1791) rfl rfl (one_of HT_.out (by kernel_rfl)) (by decide) (fun K hK => ?_)
  refine goes_ Try.func59 (by kernel_rfl) rfl #[.int .u64 (IntKind.u64.wrap (a0_1)), .int .i64 1] (by rfl) rfl rfl (by (try simp only [List.map_toArray, List.map_cons, List.map_nil]); first | done | rfl | (simp only [List.length_drop, List.length_take]; rfl)) ?_
  with_reducible refine (pack_Number.calls (IntKind.u64.wrap (a0_1)) 1 t152 _ A5.out).mono ?_
  rintro e w36 ⟨rfl, hb⟩
  refine ⟨_, rfl, ?_⟩
  replace BK149 := Kb_ BK149 hb
  replace HB := Ks_ HB hb
  (try clear hb)
  (try clear hb2)
  (try clear hk)
  (try clear hi)
  refine hK.out _ _ (Kc9_ BK149.out) (fun hHeld => ?_)
  clear hK K
  refine Kn_ 17 ?_
  refine Kp_ 8 18 (mB_ 14 2047) (any_of HT_.out (by kernel_rfl)) ?_
  refine one_ (i := 11) (N := some 21) (mB_ 14 4095) rfl rfl (one_of HT_.out (by kernel_rfl)) (by decide) (fun K hK => ?_)
  refine goes_ Try.func60 (by kernel_rfl) rfl #[.int .u64 a0_2] (by rfl) rfl rfl (by (try simp only [List.map_toArray, List.map_cons, List.map_nil]); first | done | rfl | (simp only [List.length_drop, List.length_take]; rfl)) ?_
  with_reducible refine (pack_Vary.calls k a0_2 t153 _ A7.out).mono ?_
  rintro e w37 ⟨rfl, hb⟩
  refine ⟨_, rfl, ?_⟩
  replace BK149 := Kb_ BK149 hb
  replace HB := Ks_ HB hb
  (try clear hb)
  (try clear hb2)
  (try clear hk)
  (try clear hi)
  refine hK.out _ _ (Kc9_ BK149.out) (fun hHeld => ?_)
  clear hK K
  refine Kn_ 21 ?_
  refine Kp_ 12 22 (mB_ 14 8191) (any_of HT_.out (by kernel_rfl)) ?_
  refine Kp_ 13 4 (mB_ 14 16383) (any_of HT_.out (by kernel_rfl)) ?_
  refine done_ (done_of HT_.out (by kernel_rfl)) ?_
  obtain ⟨hcz38_0, hcz38_1, hcz38_2, hcz38_3, hcz38_4, hcz38_5, hcz38_6, hcz38_7, hcz38_8, hfz38_0, hfz38_1, hfz38_2, hfz38_3, hfz38_4, hfz38_5, hfz38_6, hfz38_7, hfz38_8⟩ := Ke9_ BK149.out
  try go_wp2_with (first | ((with_reducible refine gate_callee (f := 61) rfl ?_); refine Kg_ (some 26) rfl rfl Try.func61 (by kernel_rfl) rfl #[.agg #[.int .u64 a0_3, .int .u64 a0_4, .int .u64 a0_5, .int .u64 a0_6, .int .i64 a0_7, .slice A0_8 l0_8.length c0_8]] rfl ?_; (with_reducible refine (item_Bytes.calls k a0_3 a0_4 a0_5 a0_6 a0_7 _ _ l0_8 t154 false _ ?side1 ?side2 A9.out).mono ?_); (case side1 => repeat (first | exact (Kd.C_below HR0_8.out HB.out) | (with_reducible refine Kd.C_alloc ?_ _) | (with_reducible refine Kd.C_drewN ?_ _) | (with_reducible refine Kd.C_drew ?_))); (case side2 => exact HC0_8.out); rintro e w39 ⟨rfl, hb⟩; refine ⟨_, rfl, ?_⟩; replace BK149 := Kb_ BK149 hb; replace HB := Ks_ HB hb; (try clear hb); (try clear hb2); (try clear hk); (try clear hi)) | ((with_reducible refine gate_callee (f := 63) rfl ?_); refine Kg_ (some 36) rfl rfl Try.func63 (by kernel_rfl) rfl #[.string ((t151 ++ t152) ++ t153)] rfl ?_; (with_reducible refine (crc_Sum.calls k ((t151 ++ t152) ++ t153) t159 _ A28.out).mono ?_); rintro e w40 ⟨rfl, hb⟩; refine ⟨_, rfl, ?_⟩; replace BK149 := Kb_ BK149 hb; replace HB := Ks_ HB hb; (try clear hb); (try clear hb2); (try clear hk); (try clear hi)) | ((with_reducible refine gate_callee (f := 59) rfl ?_); refine Kg_ (some 38) rfl rfl Try.func59 (by kernel_rfl) rfl #[.int .u64 (IntKind.u64.wrap (t159)), .int .i64 4] rfl ?_; (with_reducible refine (pack_Number.calls (IntKind.u64.wrap (t159)) 4 t160 _ A29.out).mono ?_); rintro e w41 ⟨rfl, hb⟩; refine ⟨_, rfl, ?_⟩; replace BK149 := Kb_ BK149 hb; replace HB := Ks_ HB hb; (try clear hb); (try clear hb2); (try clear hk); (try clear hi)))
  go_ret2
  exact ⟨Kh_, Kz_ HB GE149⟩
 subst c10
 have H1 : ((pack_Text.f k t154).bind fun t156 => (if ((t151 ++ t152) ++ t153).size + t156.size ≤ 9223372036854775807 then ((crc_Sum.f k (((t151 ++ t152) ++ t153) ++ t156)).bind fun t157 => ((pack_Number.f (IntKind.u64.wrap (t157)) 4).bind fun t158 => (if (((t151 ++ t152) ++ t153) ++ t156).size + t158.size ≤ 9223372036854775807 then (some ((((t151 ++ t152) ++ t153) ++ t156) ++ t158, true)) else (none)))) else (none))) = some (r1, r2) := by rw [if_pos rfl] at H; exact H
 clear H
 have H := H1
 clear H1
 replace H := Option.bind_eq_some_iff.mp H
 obtain ⟨t156, A110, H⟩ := H
 replace H : (if ((t151 ++ t152) ++ t153).size + t156.size ≤ 9223372036854775807 then ((crc_Sum.f k (((t151 ++ t152) ++ t153) ++ t156)).bind fun t157 => ((pack_Number.f (IntKind.u64.wrap (t157)) 4).bind fun t158 => (if (((t151 ++ t152) ++ t153) ++ t156).size + t158.size ≤ 9223372036854775807 then (some ((((t151 ++ t152) ++ t153) ++ t156) ++ t158, true)) else (none)))) else (none)) = some (r1, r2) := H
 have A11 := Aside0.mk A110
 clear A110
 by_cases c12 : ((t151 ++ t152) ++ t153).size + t156.size ≤ 9223372036854775807
 rotate_left
 ·rw [if_neg c12] at H
  exact absurd H (by simp)
 rw [if_pos c12] at H
 have c12b0 := eq_true c12
 (try (have c12b0s_ := c12b0; simp only [ByteArray.size_append, Int.natCast_add] at c12b0s_))
 have c12b1 : decide (((t151 ++ t152) ++ t153).size + t156.size ≤ 9223372036854775807) = true := decide_eq_true c12
 (try (have c12b1s_ := c12b1; simp only [ByteArray.size_append, Int.natCast_add] at c12b1s_))
 try have c12b2 : (9223372036854775807 < ((t151 ++ t152) ++ t153).size + t156.size) = False := eq_false (Nat.not_lt.2 c12)
 (try (have c12b2s_ := c12b2; simp only [ByteArray.size_append, Int.natCast_add] at c12b2s_))
 replace H := Option.bind_eq_some_iff.mp H
 obtain ⟨t157, A130, H⟩ := H
 replace H : ((pack_Number.f (IntKind.u64.wrap (t157)) 4).bind fun t158 => (if (((t151 ++ t152) ++ t153) ++ t156).size + t158.size ≤ 9223372036854775807 then (some ((((t151 ++ t152) ++ t153) ++ t156) ++ t158, true)) else (none))) = some (r1, r2) := H
 have A13 := Aside0.mk A130
 clear A130
 replace H := Option.bind_eq_some_iff.mp H
 obtain ⟨t158, A140, H⟩ := H
 replace H : (if (((t151 ++ t152) ++ t153) ++ t156).size + t158.size ≤ 9223372036854775807 then (some ((((t151 ++ t152) ++ t153) ++ t156) ++ t158, true)) else (none)) = some (r1, r2) := H
 have A14 := Aside0.mk A140
 clear A140
 by_cases c15 : (((t151 ++ t152) ++ t153) ++ t156).size + t158.size ≤ 9223372036854775807
 rotate_left
 ·rw [if_neg c15] at H
  exact absurd H (by simp)
 rw [if_pos c15] at H
 have c15b0 := eq_true c15
 (try (have c15b0s_ := c15b0; simp only [ByteArray.size_append, Int.natCast_add] at c15b0s_))
 have c15b1 : decide ((((t151 ++ t152) ++ t153) ++ t156).size + t158.size ≤ 9223372036854775807) = true := decide_eq_true c15
 (try (have c15b1s_ := c15b1; simp only [ByteArray.size_append, Int.natCast_add] at c15b1s_))
 try have c15b2 : (9223372036854775807 < (((t151 ++ t152) ++ t153) ++ t156).size + t158.size) = False := eq_false (Nat.not_lt.2 c15)
 (try (have c15b2s_ := c15b2; simp only [ByteArray.size_append, Int.natCast_add] at c15b2s_))
 simp only [Option.some.injEq, Prod.mk.injEq] at H
 obtain ⟨rfl, rfl⟩ := H
 go_enter Try.func27, Try.ntmps27
 try go_wp2_with (first | ((with_reducible refine gate_dst (N := 1) rfl ?_); refine Ka_ 1 #[.int .i64 a0_0, .int .i64 a0_1, .int .u64 a0_2, .int .u64 a0_3, .int .u64 a0_4, .int .u64 a0_5, .int .u64 a0_6, .int .i64 a0_7, .slice A0_8 l0_8.length c0_8] 69 ?_; intro gb149 hg w16 hbox hb; have BK149 := Aside0.mk (hbox); have GW149 := Kw_ HB hg; have GE149 := GW149; replace HB := Ks_ HB hb; clear hb hbox hg; obtain ⟨hcz17_0, hcz17_1, hcz17_2, hcz17_3, hcz17_4, hcz17_5, hcz17_6, hcz17_7, hcz17_8, hfz17_0, hfz17_1, hfz17_2, hfz17_3, hfz17_4, hfz17_5, hfz17_6, hfz17_7, hfz17_8⟩ := Ke9_ BK149.out) | ((with_reducible refine gate_callee (f := 33) rfl ?_); refine Kg_ (some 8) rfl rfl Try.func33 (by kernel_rfl) rfl #[.agg #[.int .i64 a0_0, .int .i64 a0_1, .int .u64 a0_2, .int .u64 a0_3, .int .u64 a0_4, .int .u64 a0_5, .int .u64 a0_6, .int .i64 a0_7, .slice A0_8 l0_8.length c0_8]] rfl ?_; (with_reducible refine (stream_Right.calls k a0_0 a0_1 a0_2 a0_3 a0_4 a0_5 a0_6 a0_7 _ _ l0_8 true _ ?side1 ?side2 A2.out).mono ?_); (case side1 => repeat (first | exact (Kd.C_below HR0_8.out HB.out) | (with_reducible refine Kd.C_alloc ?_ _) | (with_reducible refine Kd.C_drewN ?_ _) | (with_reducible refine Kd.C_drew ?_))); (case side2 => exact HC0_8.out); rintro e w18 ⟨rfl, hb⟩; refine ⟨_, rfl, ?_⟩; replace BK149 := Kb_ BK149 hb; replace HB := Ks_ HB hb; (try clear hb); (try clear hb2); (try clear hk); (try clear hi)))
 replace BK149 := Kd_ BK149
 replace HB := Aside0.mk (below_drew1 HB.out)
 refine start_ (n := 14) (S := fun w' => w'.cell? ⟨gb149, 0, none⟩ = some (.int .i64 a0_0) ∧ w'.cell? ⟨gb149, 1, none⟩ = some (.int .i64 a0_1) ∧ w'.cell? ⟨gb149, 2, none⟩ = some (.int .u64 a0_2) ∧ w'.cell? ⟨gb149, 3, none⟩ = some (.int .u64 a0_3) ∧ w'.cell? ⟨gb149, 4, none⟩ = some (.int .u64 a0_4) ∧ w'.cell? ⟨gb149, 5, none⟩ = some (.int .u64 a0_5) ∧ w'.cell? ⟨gb149, 6, none⟩ = some (.int .u64 a0_6) ∧ w'.cell? ⟨gb149, 7, none⟩ = some (.int .i64 a0_7) ∧ w'.cell? ⟨gb149, 8, none⟩ = some (.slice A0_8 l0_8.length c0_8)) (ds := []) (mB_ 14 0) (by kernel_rfl) rfl rfl (Kc9_ BK149.out) (fun hHeld => ?_); refine with_tabW stream_Put.tab3 stream_Put.bits3 (fun HT_ HW_ => ?_)
 generalize w18.drew = w19 at BK149 HB hHeld ⊢
 refine Kp_ 0 10 (mB_ 14 1) (any_of HT_.out (by kernel_rfl)) ?_
 refine Kp_ 4 14 (mB_ 14 17) (any_of HT_.out (by kernel_rfl)) ?_
 refine Kp_ 9 19 (mB_ 14 529) (any_of HT_.out (by kernel_rfl)) ?_
 refine Ko_ 1 11 (mB_ 14 531) (take_ofW HT_.out HW_.out (by kernel_rfl)) hHeld ?_
 refine Kp_ 2 12 (mB_ 14 535) (any_of HT_.out (by kernel_rfl)) ?_
 refine Ko_ 5 15 (mB_ 14 567) (take_ofW HT_.out HW_.out (by kernel_rfl)) hHeld ?_
 refine Kp_ 6 16 (mB_ 14 631) (any_of HT_.out (by kernel_rfl)) ?_
 refine Ko_ 10 20 (mB_ 14 1655) (take_ofW HT_.out HW_.out (by kernel_rfl)) hHeld ?_
 refine one_ (i := 3) (N := some 13) (mB_ 14 1663) rfl rfl (one_of HT_.out (by kernel_rfl)) (by decide) (fun K hK => ?_)
 refine goes_ Try.func59 (by kernel_rfl) rfl #[.int .u64 (IntKind.u64.wrap (a0_0)), .int .i64 1] (by rfl) rfl rfl (by (try simp only [List.map_toArray, List.map_cons, List.map_nil]); first | done | rfl | (simp only [List.length_drop, List.length_take]; rfl)) ?_
 with_reducible refine (pack_Number.calls (IntKind.u64.wrap (a0_0)) 1 t151 _ A4.out).mono ?_
 rintro e w20 ⟨rfl, hb⟩
 refine ⟨_, rfl, ?_⟩
 replace BK149 := Kb_ BK149 hb
 replace HB := Ks_ HB hb
 (try clear hb)
 (try clear hb2)
 (try clear hk)
 (try clear hi)
 refine hK.out _ _ (Kc9_ BK149.out) (fun hHeld => ?_)
 clear hK K
 refine Kn_ 13 ?_
 refine one_ (i := 7) (N := some 17) (mB_ 14 1791) rfl rfl (one_of HT_.out (by kernel_rfl)) (by decide) (fun K hK => ?_)
 refine goes_ Try.func59 (by kernel_rfl) rfl #[.int .u64 (IntKind.u64.wrap (a0_1)), .int .i64 1] (by rfl) rfl rfl (by (try simp only [List.map_toArray, List.map_cons, List.map_nil]); first | done | rfl | (simp only [List.length_drop, List.length_take]; rfl)) ?_
 with_reducible refine (pack_Number.calls (IntKind.u64.wrap (a0_1)) 1 t152 _ A5.out).mono ?_
 rintro e w21 ⟨rfl, hb⟩
 refine ⟨_, rfl, ?_⟩
 replace BK149 := Kb_ BK149 hb
 replace HB := Ks_ HB hb
 (try clear hb)
 (try clear hb2)
 (try clear hk)
 (try clear hi)
 refine hK.out _ _ (Kc9_ BK149.out) (fun hHeld => ?_)
 clear hK K
 refine Kn_ 17 ?_
 refine Kp_ 8 18 (mB_ 14 2047) (any_of HT_.out (by kernel_rfl)) ?_
 refine one_ (i := 11) (N := some 21) (mB_ 14 4095) rfl rfl (one_of HT_.out (by kernel_rfl)) (by decide) (fun K hK => ?_)
 refine goes_ Try.func60 (by kernel_rfl) rfl #[.int .u64 a0_2] (by rfl) rfl rfl (by (try simp only [List.map_toArray, List.map_cons, List.map_nil]); first | done | rfl | (simp only [List.length_drop, List.length_take]; rfl)) ?_
 with_reducible refine (pack_Vary.calls k a0_2 t153 _ A7.out).mono ?_
 rintro e w22 ⟨rfl, hb⟩
 refine ⟨_, rfl, ?_⟩
 replace BK149 := Kb_ BK149 hb
 replace HB := Ks_ HB hb
 (try clear hb)
 (try clear hb2)
 (try clear hk)
 (try clear hi)
 refine hK.out _ _ (Kc9_ BK149.out) (fun hHeld => ?_)
 clear hK K
 refine Kn_ 21 ?_
 refine Kp_ 12 22 (mB_ 14 8191) (any_of HT_.out (by kernel_rfl)) ?_
 refine Kp_ 13 4 (mB_ 14 16383) (any_of HT_.out (by kernel_rfl)) ?_
 refine done_ (done_of HT_.out (by kernel_rfl)) ?_
 obtain ⟨hcz23_0, hcz23_1, hcz23_2, hcz23_3, hcz23_4, hcz23_5, hcz23_6, hcz23_7, hcz23_8, hfz23_0, hfz23_1, hfz23_2, hfz23_3, hfz23_4, hfz23_5, hfz23_6, hfz23_7, hfz23_8⟩ := Ke9_ BK149.out
 try go_wp2_with (first | ((with_reducible refine gate_callee (f := 61) rfl ?_); refine Kg_ (some 26) rfl rfl Try.func61 (by kernel_rfl) rfl #[.agg #[.int .u64 a0_3, .int .u64 a0_4, .int .u64 a0_5, .int .u64 a0_6, .int .i64 a0_7, .slice A0_8 l0_8.length c0_8]] rfl ?_; (with_reducible refine (item_Bytes.calls k a0_3 a0_4 a0_5 a0_6 a0_7 _ _ l0_8 t154 true _ ?side1 ?side2 A9.out).mono ?_); (case side1 => repeat (first | exact (Kd.C_below HR0_8.out HB.out) | (with_reducible refine Kd.C_alloc ?_ _) | (with_reducible refine Kd.C_drewN ?_ _) | (with_reducible refine Kd.C_drew ?_))); (case side2 => exact HC0_8.out); rintro e w24 ⟨rfl, hb⟩; refine ⟨_, rfl, ?_⟩; replace BK149 := Kb_ BK149 hb; replace HB := Ks_ HB hb; (try clear hb); (try clear hb2); (try clear hk); (try clear hi)) | ((with_reducible refine gate_callee (f := 62) rfl ?_); refine Kg_ (some 32) rfl rfl Try.func62 (by kernel_rfl) rfl #[.string t154] rfl ?_; (with_reducible refine (pack_Text.calls k t154 t156 _ A11.out).mono ?_); rintro e w25 ⟨rfl, hb⟩; refine ⟨_, rfl, ?_⟩; replace BK149 := Kb_ BK149 hb; replace HB := Ks_ HB hb; (try clear hb); (try clear hb2); (try clear hk); (try clear hi)) | ((with_reducible refine gate_callee (f := 63) rfl ?_); refine Kg_ (some 36) rfl rfl Try.func63 (by kernel_rfl) rfl #[.string (((t151 ++ t152) ++ t153) ++ t156)] rfl ?_; (with_reducible refine (crc_Sum.calls k (((t151 ++ t152) ++ t153) ++ t156) t157 _ A13.out).mono ?_); rintro e w26 ⟨rfl, hb⟩; refine ⟨_, rfl, ?_⟩; replace BK149 := Kb_ BK149 hb; replace HB := Ks_ HB hb; (try clear hb); (try clear hb2); (try clear hk); (try clear hi)) | ((with_reducible refine gate_callee (f := 59) rfl ?_); refine Kg_ (some 38) rfl rfl Try.func59 (by kernel_rfl) rfl #[.int .u64 (IntKind.u64.wrap (t157)), .int .i64 4] rfl ?_; (with_reducible refine (pack_Number.calls (IntKind.u64.wrap (t157)) 4 t158 _ A14.out).mono ?_); rintro e w27 ⟨rfl, hb⟩; refine ⟨_, rfl, ?_⟩; replace BK149 := Kb_ BK149 hb; replace HB := Ks_ HB hb; (try clear hb); (try clear hb2); (try clear hk); (try clear hi)))
 go_ret2
 exact ⟨Kh_, Kz_ HB GE149⟩
end Go.Proofs.Ytoagfdpgnfinhaa.Q
