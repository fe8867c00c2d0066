import Derived.Test.YtplgbkobpanbfaaQx0
-- Written by this session's own driver (wip/hybrid.py) of the kit's printer; contracts marked FOREIGN are by hand.
namespace Go.Proofs.Ytplgbkobpanbfaa.Q
open Go.RowKit Go.Proofs.YtplgbkobpanbfaaW.PrintWords Go.Proofs.YtplgbkobpanbfaaW.PrintLast Go.Proofs.YtplgbkobpanbfaaW.PrintMore
attribute [local go_sem] max2_int min2_int max_two min_two max_three min_three max_four min_four   -- for this text's walks alone
set_option linter.unusedVariables false
set_option linter.unusedSimpArgs false

theorem eqA36 (d : Nat) (w : World) (x0 y0 : ByteArray) (x1 y1 : Int) (x2 y2 : Int) (x3 y3 : Int) (x4 y4 : Int) (x5 y5 : ByteArray) (x6 y6 : ByteArray) (x7 y7 : ByteArray) :
    (Op.equalIn (d + 2) 36 (.agg #[.string x0, .int .i64 x1, .int .i64 x2, .int .i64 x3, .int .i64 x4, .string x5, .string x6, .string x7]) (.agg #[.string y0, .int .i64 y1, .int .i64 y2, .int .i64 y3, .int .i64 y4, .string y5, .string y6, .string y7])).run Try.prog w = .ok (x0.toList == y0.toList && (x1 == y1 && (x2 == y2 && (x3 == y3 && (x4 == y4 && (x5.toList == y5.toList && (x6.toList == y6.toList && (x7.toList == y7.toList)))))))) w := by
  refine eqA_of Try.underlying36 (by kernel_rfl) ?_
  refine eqf_cons (by rfl) (by go_simp; rfl) (by go_simp; rfl) (by go_simp) ?_
  refine eqf_cons (by rfl) (by go_simp; rfl) (by go_simp; rfl) (by go_simp) ?_
  refine eqf_cons (by rfl) (by go_simp; rfl) (by go_simp; rfl) (by go_simp) ?_
  refine eqf_cons (by rfl) (by go_simp; rfl) (by go_simp; rfl) (by go_simp) ?_
  refine eqf_cons (by rfl) (by go_simp; rfl) (by go_simp; rfl) (by go_simp) ?_
  refine eqf_cons (by rfl) (by go_simp; rfl) (by go_simp; rfl) (by go_simp) ?_
  refine eqf_cons (by rfl) (by go_simp; rfl) (by go_simp; rfl) (by go_simp) ?_
  exact eqf_last (by rfl) (by go_simp; rfl) (by go_simp; rfl) (by go_simp)
end Go.Proofs.Ytplgbkobpanbfaa.Q

-- Written by this session's own driver (wip/hybrid.py) of the kit's printer; contracts marked FOREIGN are by hand.
namespace Go.Proofs.Ytplgbkobpanbfaa.Q
open Go.RowKit Go.Proofs.YtplgbkobpanbfaaW.PrintWords Go.Proofs.YtplgbkobpanbfaaW.PrintLast Go.Proofs.YtplgbkobpanbfaaW.PrintMore
attribute [local go_sem] max2_int min2_int max_two min_two max_three min_three max_four min_four   -- for this text's walks alone
set_option linter.unusedVariables false
set_option linter.unusedSimpArgs false

theorem eqA46 (d : Nat) (w : World) (x0 y0 : Int) (x1 y1 : Int) (x2 y2 : Int) (x3 y3 : Int) :
    (Op.equalIn (d + 2) 46 (.agg #[.int .u64 x0, .int .u64 x1, .int .u64 x2, .int .u64 x3]) (.agg #[.int .u64 y0, .int .u64 y1, .int .u64 y2, .int .u64 y3])).run Try.prog w = .ok (x0 == y0 && (x1 == y1 && (x2 == y2 && (x3 == y3)))) w := by
  have hu := Try.underlying46
  have hs : (sizeOf 26).run Try.prog w = .ok 1 w := by go_simp
  have hp : ∀ (xs : Array Value) (i : Nat) (v : Value), xs[i]? = some v → (part 26 xs i).run Try.prog w = .ok v w := by
    intro xs i v h
    unfold part
    go_simp
  have hE : ∀ a b : Int, (Op.equalIn (d + 1) 26 (.int .u64 a) (.int .u64 b)).run Try.prog w = .ok (a == b) w := by intro a b; go_simp
  obtain ⟨X, hX⟩ : ∃ X, X = (#[.int .u64 x0, .int .u64 x1, .int .u64 x2, .int .u64 x3] : Array Value) := ⟨_, rfl⟩
  obtain ⟨Y, hY⟩ : ∃ Y, Y = (#[.int .u64 y0, .int .u64 y1, .int .u64 y2, .int .u64 y3] : Array Value) := ⟨_, rfl⟩
  rw [← hX, ← hY]
  have a0 : (part 26 X 0).run Try.prog w = .ok (.int .u64 x0) w := by rw [hX]; exact hp _ 0 _ rfl
  have b0 : (part 26 Y 0).run Try.prog w = .ok (.int .u64 y0) w := by rw [hY]; exact hp _ 0 _ rfl
  have a1 : (part 26 X 1).run Try.prog w = .ok (.int .u64 x1) w := by rw [hX]; exact hp _ 1 _ rfl
  have b1 : (part 26 Y 1).run Try.prog w = .ok (.int .u64 y1) w := by rw [hY]; exact hp _ 1 _ rfl
  have a2 : (part 26 X 2).run Try.prog w = .ok (.int .u64 x2) w := by rw [hX]; exact hp _ 2 _ rfl
  have b2 : (part 26 Y 2).run Try.prog w = .ok (.int .u64 y2) w := by rw [hY]; exact hp _ 2 _ rfl
  have a3 : (part 26 X 3).run Try.prog w = .ok (.int .u64 x3) w := by rw [hX]; exact hp _ 3 _ rfl
  have b3 : (part 26 Y 3).run Try.prog w = .ok (.int .u64 y3) w := by rw [hY]; exact hp _ 3 _ rfl
  clear hX hY hp
  obtain ⟨m, hm⟩ : ∃ m, d + 1 = m := ⟨_, rfl⟩
  rw [hm] at hE
  rw [show d + 2 = m + 1 by omega]
  clear hm
  unfold Op.equalIn
  simp only [Sem.run_bind, run_underlying hu, Result.andThen_ok, hs, Nat.mul_one]
  have hfor : ∀ (f : Nat → Option Bool × Unit → Sem (ForInStep (Option Bool × Unit))), forIn (m := Sem) [:4] ((none, ()) : Option Bool × Unit) f = forIn (m := Sem) [0, 1, 2, 3] ((none, ()) : Option Bool × Unit) f := by
    intro f
    simp
    rfl
  rw [hfor]
  simp only [List.forIn_cons, List.forIn_nil, Sem.run_bind, a0, b0, a1, b1, a2, b2, a3, b3, Result.andThen_ok, hE]
  by_cases h0 : x0 = y0 <;> by_cases h1 : x1 = y1 <;> by_cases h2 : x2 = y2 <;> by_cases h3 : x3 = y3 <;> simp [Sem.run_bind, a0, b0, a1, b1, a2, b2, a3, b3, hE, h0, h1, h2, h3]
theorem ixA46_0 (x0 : Int) (x1 : Int) (x2 : Int) (x3 : Int) (W : World) :
    (Instr.index 46 (.agg #[.int .u64 x0, .int .u64 x1, .int .u64 x2, .int .u64 x3]) (.int .i64 0)).run Try.prog W = .ok (.int .u64 x0) W := by
  have hu := Try.underlying46
  have hs : (sizeOf 26).run Try.prog W = .ok 1 W := by go_simp
  have hp : (part 26 #[.int .u64 x0, .int .u64 x1, .int .u64 x2, .int .u64 x3] 0).run Try.prog W = .ok (.int .u64 x0) W := by
    unfold part
    go_simp
  simp [Instr.index, asIntOf, Sem.run_bind, run_underlying hu, hs, hp]
theorem ixA46_1 (x0 : Int) (x1 : Int) (x2 : Int) (x3 : Int) (W : World) :
    (Instr.index 46 (.agg #[.int .u64 x0, .int .u64 x1, .int .u64 x2, .int .u64 x3]) (.int .i64 1)).run Try.prog W = .ok (.int .u64 x1) W := by
  have hu := Try.underlying46
  have hs : (sizeOf 26).run Try.prog W = .ok 1 W := by go_simp
  have hp : (part 26 #[.int .u64 x0, .int .u64 x1, .int .u64 x2, .int .u64 x3] 1).run Try.prog W = .ok (.int .u64 x1) W := by
    unfold part
    go_simp
  simp [Instr.index, asIntOf, Sem.run_bind, run_underlying hu, hs, hp]
theorem ixA46_2 (x0 : Int) (x1 : Int) (x2 : Int) (x3 : Int) (W : World) :
    (Instr.index 46 (.agg #[.int .u64 x0, .int .u64 x1, .int .u64 x2, .int .u64 x3]) (.int .i64 2)).run Try.prog W = .ok (.int .u64 x2) W := by
  have hu := Try.underlying46
  have hs : (sizeOf 26).run Try.prog W = .ok 1 W := by go_simp
  have hp : (part 26 #[.int .u64 x0, .int .u64 x1, .int .u64 x2, .int .u64 x3] 2).run Try.prog W = .ok (.int .u64 x2) W := by
    unfold part
    go_simp
  simp [Instr.index, asIntOf, Sem.run_bind, run_underlying hu, hs, hp]
theorem ixA46_3 (x0 : Int) (x1 : Int) (x2 : Int) (x3 : Int) (W : World) :
    (Instr.index 46 (.agg #[.int .u64 x0, .int .u64 x1, .int .u64 x2, .int .u64 x3]) (.int .i64 3)).run Try.prog W = .ok (.int .u64 x3) W := by
  have hu := Try.underlying46
  have hs : (sizeOf 26).run Try.prog W = .ok 1 W := by go_simp
  have hp : (part 26 #[.int .u64 x0, .int .u64 x1, .int .u64 x2, .int .u64 x3] 3).run Try.prog W = .ok (.int .u64 x3) W := by
    unfold part
    go_simp
  simp [Instr.index, asIntOf, Sem.run_bind, run_underlying hu, hs, hp]
theorem eqA48 (d : Nat) (w : World) (x0 y0 : Int) (x1 y1 : ByteArray) (x2 y2 : Bool) (x3 y3 : Int) (x4 y4 : Int) (x5 y5 : Int) (x6 y6 : Int) :
    (Op.equalIn (d + 3) 48 (.agg #[.int .i64 x0, .string x1, .bool x2, .int .u64 x3, .int .u64 x4, .int .u64 x5, .int .u64 x6]) (.agg #[.int .i64 y0, .string y1, .bool y2, .int .u64 y3, .int .u64 y4, .int .u64 y5, .int .u64 y6])).run Try.prog w = .ok (x0 == y0 && (x1.toList == y1.toList && (x2 == y2 && ((x3 == y3 && (x4 == y4 && (x5 == y5 && (x6 == y6)))))))) w := by
  refine eqA_of Try.underlying48 (by kernel_rfl) ?_
  refine eqf_cons (by rfl) (by go_simp; rfl) (by go_simp; rfl) (by go_simp) ?_
  refine eqf_cons (by rfl) (by go_simp; rfl) (by go_simp; rfl) (by go_simp) ?_
  refine eqf_cons (by rfl) (by go_simp; rfl) (by go_simp; rfl) (by go_simp) ?_
  exact eqf_last (by rfl) (by go_simp) (by go_simp) (eqA46 (d + 0) w _ _ _ _ _ _ _ _)
end Go.Proofs.Ytplgbkobpanbfaa.Q

-- Written by this session's own driver (wip/hybrid.py) of the kit's printer; contracts marked FOREIGN are by hand.
namespace Go.Proofs.Ytplgbkobpanbfaa.Q
open Go.RowKit Go.Proofs.YtplgbkobpanbfaaW.PrintWords Go.Proofs.YtplgbkobpanbfaaW.PrintLast Go.Proofs.YtplgbkobpanbfaaW.PrintMore
attribute [local go_sem] max2_int min2_int max_two min_two max_three min_three max_four min_four   -- for this text's walks alone
set_option linter.unusedVariables false
set_option linter.unusedSimpArgs false

/-! ### pack_bad: function 52 -/
def pack_bad.f  : Option (ByteArray × Bool) := some ((⟨#[]⟩ : ByteArray), true)
set_option maxHeartbeats 8000000 in
set_option maxRecDepth 100000 in
theorem pack_bad.calls  (r1 : ByteArray) (r2 : Bool) (w : World) (h : pack_bad.f  = some (r1, r2)) :
    Calls Try.prog 52 #[] w fun e w' => e = .returned (.agg #[.string r1, .bool r2]) ∧ Below w.heap.size w w' := by
  have hu81 := Try.underlying81
  have HB := Aside0.mk (Below.refl w.heap.size w)
  have H : (some ((⟨#[]⟩ : ByteArray), true)) = some (r1, r2) := h
  clear h
  simp only [Option.some.injEq, Prod.mk.injEq] at H
  obtain ⟨rfl, rfl⟩ := H
  go_enter Try.func52, Try.ntmps52
  go_wp2_with (first | ((with_reducible refine gate_dst (N := 0) rfl ?_); refine box_event ?hg (N := 0) ?hd (cs := #[.string (⟨#[]⟩ : ByteArray), .bool false]) (t := 81) ?hr ?_; (case hd => rfl); (case hg => rfl); (case hr => first | (go_simp; done) | (go_simp; rfl)); intro gb126 hg w1 hbox hb; have BK126 := Aside0.mk (hbox); have GW126 := Kw_ HB hg; have GE126 := GW126; replace HB := Ks_ HB hb; clear hb hbox hg; obtain ⟨hcz2_0, hcz2_1, hfz2_0, hfz2_1⟩ := Ke2_ BK126.out))
  refine bodyPost_ret (results_cell_row rfl _ _ gb126 81 #[.string (⟨#[]⟩ : ByteArray), .bool true] (0, 0) _ rfl (by (with_reducible repeat (first | refine blk_drewN ?_ _ | refine blk_drew ?_ | refine blk_alloc ?_ _)); refine blk_put (cs := #[.string (⟨#[]⟩ : ByteArray), .bool false]) ?_ 1 _ rfl; (with_reducible repeat (first | refine blk_drewN ?_ _ | refine blk_drew ?_ | refine blk_alloc ?_ _)); refine blk_put (cs := #[.string (⟨#[]⟩ : ByteArray), .bool false]) ?_ 0 _ rfl; (with_reducible repeat (first | refine blk_drewN ?_ _ | refine blk_drew ?_ | refine blk_alloc ?_ _)); exact BK126.out) Try.underlying81 rfl (by kernel_rfl)) rfl ?_
  exact ⟨by first | rfl | (simp [errW_none, errW_some] <;> rfl) | (simp [*, errW_none, errW_some] <;> rfl), Kz_ HB GE126⟩

end Go.Proofs.Ytplgbkobpanbfaa.Q

-- Written by this session's own driver (wip/hybrid.py) of the kit's printer; contracts marked FOREIGN are by hand.
namespace Go.Proofs.Ytplgbkobpanbfaa.Q
open Go.RowKit Go.Proofs.YtplgbkobpanbfaaW.PrintWords Go.Proofs.YtplgbkobpanbfaaW.PrintLast Go.Proofs.YtplgbkobpanbfaaW.PrintMore
attribute [local go_sem] max2_int min2_int max_two min_two max_three min_three max_four min_four   -- for this text's walks alone
set_option linter.unusedVariables false
set_option linter.unusedSimpArgs false

/-! ### pack_Vary: function 45 -/
def pack_Vary.l0 : Nat → Int → List Int → Option (ByteArray)
  | 0, _, _ => none
  | k + 1, x0, x3 => if x0 ≥ 128 then (if x3.length < 140737488355328 then (pack_Vary.l0 k (x0 / 128) (x3 ++ [Go.bits .or .u8 ((x0) % 256) 128])) else (none)) else (if x3.length < 140737488355328 then (some (strOfNums (x3 ++ [(x0) % 256]))) else (none))
def pack_Vary.f (k : Nat) (a0 : Int) : Option (ByteArray) := pack_Vary.l0 k a0 ([] : List Int)
theorem pack_Vary.mono_l : ∀ k, (∀ y0 y1, LeO (pack_Vary.l0 k y0 y1) (pack_Vary.l0 (k + 1) y0 y1))
  | 0 => fun _ _ r h => by simp [pack_Vary.l0] at h
  | k + 1 => by
    have ih0 := pack_Vary.mono_l k
    · intro y0 y1
      unfold pack_Vary.l0
      repeat' first
      | (with_reducible exact ih0 _ _)
      | (with_reducible exact LeO.refl _)
      | (with_reducible exact LeO.none _)
      | (with_reducible refine LeO.ite ?_ ?_)
      | (with_reducible refine LeO.bind ?_ (fun _ => ?_))
      | exact ih0 _ _
      | exact LeO.none _
      | refine LeO.ite ?_ ?_
      | refine LeO.bind ?_ (fun _ => ?_)
theorem pack_Vary.mono : ∀ a0 k, LeO (pack_Vary.f k a0) (pack_Vary.f (k + 1) a0) := by
  intro a0 k
  have ih0 := pack_Vary.mono_l k
  unfold pack_Vary.f
  repeat' first
      | (with_reducible exact ih0 _ _)
      | (with_reducible exact LeO.refl _)
      | (with_reducible exact LeO.none _)
      | (with_reducible refine LeO.ite ?_ ?_)
      | (with_reducible refine LeO.bind ?_ (fun _ => ?_))
      | exact ih0 _ _
      | exact LeO.none _
      | refine LeO.ite ?_ ?_
      | refine LeO.bind ?_ (fun _ => ?_)
set_option maxHeartbeats 8000000 in
set_option maxRecDepth 100000 in
theorem pack_Vary.calls (k : Nat) (a0 : Int) (r : ByteArray) (w : World) (h : pack_Vary.f k a0 = some r) :
    Calls Try.prog 45 #[.int .u64 a0] w fun e w' => e = .returned (.string r) ∧ Below w.heap.size w w' := by
  have HB := Aside0.mk (Below.refl w.heap.size w)
  have H : (pack_Vary.l0 k a0 ([] : List Int)) = some r := h
  clear h
  have H' := Aside0.mk H
  clear H
  go_enter Try.func45, Try.ntmps45
  go_wp2
  go_loopg [0, 3] k (fun kq v0 v3 w' => ∃ (x0_1 : Int) (x3_1 : List Int), v0 = .int .u64 x0_1 ∧ Aside0 (pack_Vary.l0 kq x0_1 x3_1 = some r) ∧ Aside0 (kq ≤ k) ∧ Aside0 (Kd.R (Kd.int .u8) 5 w' w.heap.size (fun _ => True) v3 x3_1) ∧ Aside0 (Below w.heap.size w w'))
  case atStart => exact ⟨(a0), (([] : List Int)), (by first | rfl | (simp; done) | (simp [*]; done)), H', ⟨Nat.le_refl _⟩, ⟨by first | exact Kd.R_nil _ _ _ _ _ | exact Kd.N_nil _ _ _ _ _ | exact Kd.V_nil _ _ _ _ _ | exact Kd.Q_nil _ _ _ _ _ | exact Kd.S_nil _ _ _ _ _⟩, ⟨Ky_ HB⟩⟩
  case round =>
    clear H'
    obtain ⟨x0_1, x3_1, rfl, HA, HK1, HO_3, HB⟩ := hrel
    cases gk with
    | zero => exact absurd HA.out (by simp [pack_Vary.l0])
    | succ k1 =>
      have H := HA.out
      clear HA
      simp only [pack_Vary.l0] at H
      by_cases c2 : x0_1 ≥ 128
      rotate_left
      · rw [if_neg c2] at H
        have c2b0 : decide (128 ≤ x0_1) = false := decide_eq_false c2
        clear c2
        by_cases c5 : x3_1.length < 140737488355328
        rotate_left
        · rw [if_neg c5] at H
          exact absurd H (by simp)
        rw [if_pos c5] at H
        have LMc5 := Aside0.mk c5
        clear c5
        obtain ⟨y104, hy104⟩ : ∃ y_ : List Int, y_ = (x3_1 ++ [(x0_1) % 256]) := ⟨_, rfl⟩
        replace H : (some (strOfNums y104)) = some r := by first | (rw [hy104]; with_reducible exact H) | (have H2_ := (Option.bind_some _ _).symm.trans H; rw [hy104]; with_reducible exact H2_) | (have H2_ := (Option.bind_some _ _).symm.trans H; with_reducible exact H2_) | with_reducible exact H | (rw [hy104]; exact H) | exact H
        have Ny104 := Aside0.mk hy104
        clear hy104
        obtain rfl := Option.some.inj H
        go_wp2_with (first | ((with_reducible refine gate_builtin (b := .append) (xs := #[.tmp 14, .tmp 17]) rfl ?_); at_builtin; refine Kd.R_append (Kd.int .u8) (w0 := w) w.heap.size rfl (.tmp 14) (.tmp 17) 66 5 (.int .u8 0) 1 rfl Try.underlying66 info5 rfl (by decide) (by omega) u3 x3_1 ((x0_1) % 256) [.int .u8 ((x0_1) % 256)] (fun _ => True) (fun _ => False) rfl rfl ?aP (fun _ hk => hk.elim) ?aF ?aO ?aB ?aS ?aL ?_; (case aP => exact rfl); (case aB => exact (Ky_ HB)); (case aF => exact (fun _ _ => trivial)); (case aO => exact (by (with_reducible repeat (first | apply Kd.R_alloc | apply Kd.R_drewN | apply Kd.R_drew)); exact HO_3.out)); (case aS => exact (below_size (Ky_ HB))); (case aL => have := LMc5.out; omega); intro v105 w6 ho hb hg hat; rw [← Ny104.out] at ho; have HO106 := Aside0.mk (ho); replace HB := Aside0.mk (hb); clear HO_3; clear ho hb hg hat; have hcv7 := own_string (P := Try.prog) Try.underlying66 Try.underlying5 Try.underlying9 (Kd.own_of_R HO106.out)))
        go_ret
        exact ⟨by first | rfl | (simp [errW_none, errW_some] <;> rfl) | (simp [*, errW_none, errW_some] <;> rfl), Ky_ HB⟩
      rw [if_pos c2] at H
      have c2b0 : decide (128 ≤ x0_1) = true := decide_eq_true c2
      clear c2
      by_cases c3 : x3_1.length < 140737488355328
      rotate_left
      · rw [if_neg c3] at H
        exact absurd H (by simp)
      rw [if_pos c3] at H
      have LMc3 := Aside0.mk c3
      clear c3
      obtain ⟨y101, hy101⟩ : ∃ y_ : List Int, y_ = (x3_1 ++ [Go.bits .or .u8 ((x0_1) % 256) 128]) := ⟨_, rfl⟩
      replace H : (pack_Vary.l0 k1 (x0_1 / 128) y101) = some r := by first | (rw [hy101]; with_reducible exact H) | (have H2_ := (Option.bind_some _ _).symm.trans H; rw [hy101]; with_reducible exact H2_) | (have H2_ := (Option.bind_some _ _).symm.trans H; with_reducible exact H2_) | with_reducible exact H | (rw [hy101]; exact H) | exact H
      have Ny101 := Aside0.mk hy101
      clear hy101
      have H' := Aside0.mk H
      clear H
      go_wp2_with (first | ((with_reducible refine gate_builtin (b := .append) (xs := #[.tmp 8, .tmp 12]) rfl ?_); at_builtin; refine Kd.R_append (Kd.int .u8) (w0 := w) w.heap.size rfl (.tmp 8) (.tmp 12) 66 5 (.int .u8 0) 1 rfl Try.underlying66 info5 rfl (by decide) (by omega) u3 x3_1 (Go.bits .or .u8 ((x0_1) % 256) 128) [.int .u8 (Go.bits .or .u8 ((x0_1) % 256) 128)] (fun _ => True) (fun _ => False) rfl rfl ?aP (fun _ hk => hk.elim) ?aF ?aO ?aB ?aS ?aL ?_; (case aP => exact rfl); (case aB => exact (Ky_ HB)); (case aF => exact (fun _ _ => trivial)); (case aO => exact (by (with_reducible repeat (first | apply Kd.R_alloc | apply Kd.R_drewN | apply Kd.R_drew)); exact HO_3.out)); (case aS => exact (below_size (Ky_ HB))); (case aL => have := LMc3.out; omega); intro v102 w4 ho hb hg hat; rw [← Ny101.out] at ho; have HO103 := Aside0.mk (ho); replace HB := Aside0.mk (hb); clear HO_3; clear ho hb hg hat))
      go_roundg k1
      case measure => have := HK1.out; omega
      case rel => exact ⟨(x0_1 / 128), (y101), (by first | rfl | (simp; done) | (simp [*]; done)), H', ⟨by have := HK1.out; omega⟩, ⟨by (with_reducible repeat (first | apply Kd.R_alloc | apply Kd.R_drewN | apply Kd.R_drew)); exact HO103.out⟩, ⟨Ky_ HB⟩⟩

end Go.Proofs.Ytplgbkobpanbfaa.Q

-- Written by this session's own driver (wip/hybrid.py) of the kit's printer; contracts marked FOREIGN are by hand.
namespace Go.Proofs.Ytplgbkobpanbfaa.Q
open Go.RowKit Go.Proofs.YtplgbkobpanbfaaW.PrintWords Go.Proofs.YtplgbkobpanbfaaW.PrintLast Go.Proofs.YtplgbkobpanbfaaW.PrintMore
attribute [local go_sem] max2_int min2_int max_two min_two max_three min_three max_four min_four   -- for this text's walks alone
set_option linter.unusedVariables false
set_option linter.unusedSimpArgs false

/-! ### pack_Reader_Vary: function 51 -/
def pack_Reader_Vary.l0 : Nat → Int → Int → Int → ByteArray → Bool → Option (Int × ByteArray × Bool)
  | 0, _, _, _, _, _ => none
  | k + 1, x4, x13, x14, x128000, x128001 => if x14 < x13 then (if 0 ≤ x14 then (if x14 < (x128000.size : Int) then (if 0 ≤ (wrap64 (7 * x14)) then (if (bt x128000 x14) ≥ 128 then (pack_Reader_Vary.l0 k (Go.bits .or .u64 x4 (shl .u64 (IntKind.u64.wrap (Go.bits .and .u8 (bt x128000 x14) 127)) (wrap64 (7 * x14)))) x13 (wrap64 (x14 + 1)) x128000 x128001) else (if 0 ≤ (wrap64 (x14 + 1)) then (if (wrap64 (x14 + 1)) ≤ (x128000.size : Int) then ((pack_Vary.f k (Go.bits .or .u64 x4 (shl .u64 (IntKind.u64.wrap (Go.bits .and .u8 (bt x128000 x14) 127)) (wrap64 (7 * x14))))).bind fun t133 => (if (x128000.extract 0 ((wrap64 (x14 + 1)) : Int).toNat).toList = t133.toList then (some (Go.bits .or .u64 x4 (shl .u64 (IntKind.u64.wrap (Go.bits .and .u8 (bt x128000 x14) 127)) (wrap64 (7 * x14))), x128000.extract ((wrap64 (x14 + 1)) : Int).toNat x128000.size, false)) else ((pack_bad.f).bind fun bt134 => (some (0, bt134.1, bt134.2))))) else (none)) else (none))) else (none)) else (none)) else (none)) else ((pack_bad.f).bind fun bt131 => (some (0, bt131.1, bt131.2)))
def pack_Reader_Vary.f (k : Nat) (a0_0 : ByteArray) (a0_1 : Bool) : Option (Int × ByteArray × Bool) := if a0_1 = true then ((pack_bad.f).bind fun bt129 => (some (0, bt129.1, bt129.2))) else (pack_Reader_Vary.l0 k 0 (mn (a0_0.size : Int) 10) 0 a0_0 a0_1)
theorem pack_Reader_Vary.mono_l : ∀ k, (∀ y0 y1 y2 y3 y4, LeO (pack_Reader_Vary.l0 k y0 y1 y2 y3 y4) (pack_Reader_Vary.l0 (k + 1) y0 y1 y2 y3 y4))
  | 0 => fun _ _ _ _ _ r h => by simp [pack_Reader_Vary.l0] at h
  | k + 1 => by
    have ih0 := pack_Reader_Vary.mono_l k
    · intro y0 y1 y2 y3 y4
      unfold pack_Reader_Vary.l0
      repeat' first
      | (with_reducible exact ih0 _ _ _ _ _)
      | (with_reducible exact pack_Vary.mono _ _)
      | (with_reducible exact LeO.refl _)
      | (with_reducible exact LeO.none _)
      | (with_reducible refine LeO.ite ?_ ?_)
      | (with_reducible refine LeO.bind ?_ (fun _ => ?_))
      | exact ih0 _ _ _ _ _
      | exact pack_Vary.mono _ _
      | exact LeO.none _
      | refine LeO.ite ?_ ?_
      | refine LeO.bind ?_ (fun _ => ?_)
theorem pack_Reader_Vary.mono : ∀ a0 a1 k, LeO (pack_Reader_Vary.f k a0 a1) (pack_Reader_Vary.f (k + 1) a0 a1) := by
  intro a0 a1 k
  have ih0 := pack_Reader_Vary.mono_l k
  unfold pack_Reader_Vary.f
  repeat' first
      | (with_reducible exact ih0 _ _ _ _ _)
      | (with_reducible exact pack_Vary.mono _ _)
      | (with_reducible exact LeO.refl _)
      | (with_reducible exact LeO.none _)
      | (with_reducible refine LeO.ite ?_ ?_)
      | (with_reducible refine LeO.bind ?_ (fun _ => ?_))
      | exact ih0 _ _ _ _ _
      | exact pack_Vary.mono _ _
      | exact LeO.none _
      | refine LeO.ite ?_ ?_
      | refine LeO.bind ?_ (fun _ => ?_)
def pack_Reader_Vary.T10 : Bool × List (List Nat × List Nat) := (true, [([], []), ([0], [0]), ([], []), ([2], [2]), ([1, 3], [1, 3]), ([], []), ([5], [5]), ([4, 6], [4, 6])])
def pack_Reader_Vary.B10 : List Nat := [0, 1, 0, 4, 15, 0, 32, 127]
theorem pack_Reader_Vary.tab10 : rtab .any (opsOf Try.f51 10) = pack_Reader_Vary.T10 := by kernel_rfl
theorem pack_Reader_Vary.bits10 : waitsOk pack_Reader_Vary.T10.2 pack_Reader_Vary.B10 = true := by kernel_rfl
def pack_Reader_Vary.T11 : Bool × List (List Nat × List Nat) := (true, [([], []), ([], []), ([1], [1]), ([], []), ([3], [3]), ([2, 4], [2, 4]), ([5], [5]), ([0, 0], [0]), ([6, 7, 0, 1, 2, 3, 4, 5, 6, 7], [6])])
def pack_Reader_Vary.B11 : List Nat := [0, 0, 2, 0, 8, 30, 62, 1, 255]
theorem pack_Reader_Vary.tab11 : rtab .any (opsOf Try.f51 11) = pack_Reader_Vary.T11 := by kernel_rfl
theorem pack_Reader_Vary.bits11 : waitsOk pack_Reader_Vary.T11.2 pack_Reader_Vary.B11 = true := by kernel_rfl
set_option maxHeartbeats 8000000 in
set_option maxRecDepth 100000 in
theorem pack_Reader_Vary.calls (k : Nat) (a0_0 : ByteArray) (a0_1 : Bool) (r1 : Int) (r2 : ByteArray) (r3 : Bool) (w : World) (h : pack_Reader_Vary.f k a0_0 a0_1 = some (r1, r2, r3)) :
    Calls Try.prog 51 #[.agg #[.string a0_0, .bool a0_1]] w fun e w' => e = .returned (.tuple #[.int .u64 r1, .agg #[.string r2, .bool r3]]) ∧ Below w.heap.size w w' := by
  have hu81 := Try.underlying81
  have HB := Aside0.mk (Below.refl w.heap.size w)
  have H : (if a0_1 = true then ((pack_bad.f).bind fun bt129 => (some (0, bt129.1, bt129.2))) else (pack_Reader_Vary.l0 k 0 (mn (a0_0.size : Int) 10) 0 a0_0 a0_1)) = some (r1, r2, r3) := h
  clear h
  by_cases c2 : a0_1 = true
  · subst c2
    have H1 : ((pack_bad.f).bind fun bt129 => (some (0, bt129.1, bt129.2))) = some (r1, r2, r3) := by rw [if_pos rfl] at H; exact H
    clear H
    have H := H1
    clear H1
    replace H := Option.bind_eq_some_iff.mp H
    obtain ⟨⟨t129, t130⟩, A30, H⟩ := H
    replace H : (some (0, t129, t130)) = some (r1, r2, r3) := H
    have A3 := Aside0.mk A30
    clear A30
    simp only [Option.some.injEq, Prod.mk.injEq] at H
    obtain ⟨rfl, rfl, rfl⟩ := H
    go_enter Try.func51, Try.ntmps51
    go_wp2_with (first | ((with_reducible refine gate_dst (N := 1) rfl ?_); refine box_event ?hg (N := 1) ?hd (cs := #[.string a0_0, .bool true]) (t := 81) ?hr ?_; (case hd => rfl); (case hg => rfl); (case hr => first | (go_simp; done) | (go_simp; rfl)); intro gb127 hg w4 hbox hb; have BK127 := Aside0.mk (hbox); have GW127 := Kw_ HB hg; have GE127 := GW127; replace HB := Ks_ HB hb; clear hb hbox hg) | ((with_reducible refine gate_dst (N := 3) rfl ?_); refine box_event ?hg (N := 3) ?hd (cs := #[.string (⟨#[]⟩ : ByteArray), .bool false]) (t := 81) ?hr ?_; (case hd => rfl); (case hg => rfl); (case hr => first | (go_simp; done) | (go_simp; rfl)); intro gb128 hg w5 hbox hb; have BK128 := Aside0.mk (hbox); have GW128 := Kw_ HB hg; have GE128 := GW128; have NB127_128 := Kl_ BK127 hg; have NB128_127 := Kr_ BK127 hg; replace BK127 := Kb_ BK127 hb; replace HB := Ks_ HB hb; clear hb hbox hg; have hnb6 := NB127_128.out; have hnc6 := NB128_127.out; obtain ⟨hcz7_0, hcz7_1, hfz7_0, hfz7_1⟩ := Ke2_ BK127.out) | ((with_reducible refine gate_callee (f := 52) rfl ?_); refine goesL_ (some 9) rfl rfl Try.func52 (by kernel_rfl) rfl #[] rfl (by (try simp only [List.map_toArray, List.map_cons, List.map_nil]); first | done | rfl | (simp only [List.length_drop, List.length_take]; rfl)) ?_; (with_reducible refine (pack_bad.calls  t129 t130 _ A3.out).mono ?_); rintro e w8 ⟨rfl, hb⟩; refine ⟨_, rfl, ?_⟩; replace BK127 := Kb_ BK127 hb; replace BK128 := Kb_ BK128 hb; replace HB := Ks_ HB hb; (try clear hb); (try clear hb2); (try clear hk); (try clear hi); obtain ⟨hcz9_0, hcz9_1, hfz9_0, hfz9_1⟩ := Ke2_ BK128.out))
    refine bodyPost_ret (results_tc rfl _ _ gb128 81 #[.string t129, .bool t130] (0, 0) _ rfl (by (with_reducible repeat (first | refine blk_drewN ?_ _ | refine blk_drew ?_ | refine blk_alloc ?_ _)); refine blk_put (cs := #[.string t129, .bool false]) ?_ 1 _ rfl; (with_reducible repeat (first | refine blk_drewN ?_ _ | refine blk_drew ?_ | refine blk_alloc ?_ _)); refine blk_put (cs := #[.string (⟨#[]⟩ : ByteArray), .bool false]) ?_ 0 _ rfl; (with_reducible repeat (first | refine blk_drewN ?_ _ | refine blk_drew ?_ | refine blk_alloc ?_ _)); exact BK128.out) Try.underlying81 rfl (by kernel_rfl)) rfl ?_
    exact ⟨by first | rfl | (simp [errW_none, errW_some] <;> rfl) | (simp [*, errW_none, errW_some] <;> rfl), by repeat (first | (with_reducible first | exact HB.out | apply below_alloc | apply pw_below_drewN | apply below_drew1 | refine below_set ?_ GE127.out | refine below_set ?_ GE128.out) | exact HB.out)⟩
  replace c2 := Bool.eq_false_iff.mpr c2
  subst c2
  have H1 : (pack_Reader_Vary.l0 k 0 (mn (a0_0.size : Int) 10) 0 a0_0 false) = some (r1, r2, r3) := by rw [if_neg (show ¬ (false = true) by decide)] at H; exact H
  clear H
  have H := H1
  clear H1
  obtain ⟨ji10, hji10⟩ : ∃ j_ : Int, (mn (a0_0.size : Int) 10) = j_ := ⟨_, rfl⟩
  replace H : (pack_Reader_Vary.l0 k 0 ji10 0 a0_0 false) = some (r1, r2, r3) := by first | (rw [hji10] at H; exact H) | (simp only [hji10] at H ⊢; exact H)
  (try (have hji10h : ji10 ≤ 10 := by (rw [← hji10]; unfold mn; (repeat' split) <;> omega)))
  (try (have hji10g : ji10 ≤ 64 := by omega))
  (try (have hji10l : 0 ≤ ji10 := by (rw [← hji10]; unfold mn; (repeat' split) <;> omega)))
  (try (have hji10m : 0 ≤ ji10 := by omega))
  have hji10_ : (if 10 < (a0_0.size : Int) then 10 else (a0_0.size : Int)) = ji10 := hji10
  have H' := Aside0.mk H
  clear H
  go_enter Try.func51, Try.ntmps51
  go_wp2_with (first | ((with_reducible refine gate_dst (N := 1) rfl ?_); refine box_event ?hg (N := 1) ?hd (cs := #[.string a0_0, .bool false]) (t := 81) ?hr ?_; (case hd => rfl); (case hg => rfl); (case hr => first | (go_simp; done) | (go_simp; rfl)); intro gb127 hg w11 hbox hb; have BK127 := Aside0.mk (hbox); have GW127 := Kw_ HB hg; have GE127 := GW127; replace HB := Ks_ HB hb; clear hb hbox hg) | ((with_reducible refine gate_dst (N := 3) rfl ?_); refine box_event ?hg (N := 3) ?hd (cs := #[.string (⟨#[]⟩ : ByteArray), .bool false]) (t := 81) ?hr ?_; (case hd => rfl); (case hg => rfl); (case hr => first | (go_simp; done) | (go_simp; rfl)); intro gb128 hg w12 hbox hb; have BK128 := Aside0.mk (hbox); have GW128 := Kw_ HB hg; have GE128 := GW128; have NB127_128 := Kl_ BK127 hg; have NB128_127 := Kr_ BK127 hg; replace BK127 := Kb_ BK127 hb; replace HB := Ks_ HB hb; clear hb hbox hg; have hnb13 := NB127_128.out; have hnc13 := NB128_127.out; obtain ⟨hcz14_0, hcz14_1, hfz14_0, hfz14_1⟩ := Ke2_ BK127.out))
  go_loopg [4, 14] k (fun kq v4 v14 w' => ∃ (x4_1 : Int) (x14_1 : Int) (x129000_1 : ByteArray) (x129001_1 : Bool), v4 = .int .u64 x4_1 ∧ v14 = .int .i64 x14_1 ∧ Aside0 (pack_Reader_Vary.l0 kq x4_1 ji10 x14_1 a0_0 false = some (r1, r2, r3)) ∧ Aside0 (kq ≤ k) ∧ Aside0 (w'.heap[gb127]? = some (.cells #[.string a0_0, .bool false] 81 (0, 0))) ∧ Aside0 (w'.heap[gb128]? = some (.cells #[.string x129000_1, .bool x129001_1] 81 (0, 0))) ∧ Aside0 (Below w.heap.size w w'))
  case atStart => exact ⟨(0), (0), ((⟨#[]⟩ : ByteArray)), (false), (by first | rfl | (simp; done) | (simp [*]; done)), (by first | rfl | (simp; done) | (simp [*]; done)), H', ⟨Nat.le_refl _⟩, ⟨by (with_reducible repeat (first | refine blk_drewN ?_ _ | refine blk_drew ?_ | refine blk_alloc ?_ _)); exact BK127.out⟩, ⟨by (with_reducible repeat (first | refine blk_drewN ?_ _ | refine blk_drew ?_ | refine blk_alloc ?_ _)); exact BK128.out⟩, ⟨by repeat (first | (with_reducible first | exact HB.out | apply below_alloc | apply pw_below_drewN | apply below_drew1 | refine below_set ?_ GE127.out | refine below_set ?_ GE128.out) | exact HB.out)⟩⟩
  case round =>
    clear H'
    try clear c1
    try clear c2
    try clear p2
    try clear c5
    try clear c6
    try clear c13
    try clear hcz14_0
    try clear hcz14_1
    try clear hcz7_0
    try clear hcz7_1
    try clear hcz9_0
    try clear hcz9_1
    try clear hfz14_0
    try clear hfz14_1
    try clear hfz7_0
    try clear hfz7_1
    try clear hfz9_0
    try clear hfz9_1
    obtain ⟨x4_1, x14_1, x129000_1, x129001_1, rfl, rfl, HA, HK1, BK127, BK128, HB⟩ := hrel
    cases gk with
    | zero => exact absurd HA.out (by simp [pack_Reader_Vary.l0])
    | succ k1 =>
      have H := HA.out
      clear HA
      simp only [pack_Reader_Vary.l0] at H
      by_cases c15 : x14_1 < ji10
      rotate_left
      · rw [if_neg c15] at H
        have c15b0 : decide (x14_1 < ji10) = false := decide_eq_false c15
        clear c15
        replace H := Option.bind_eq_some_iff.mp H
        obtain ⟨⟨t131, t132⟩, A460, H⟩ := H
        replace H : (some (0, t131, t132)) = some (r1, r2, r3) := H
        have A46 := Aside0.mk A460
        clear A460
        simp only [Option.some.injEq, Prod.mk.injEq] at H
        obtain ⟨rfl, rfl, rfl⟩ := H
        go_wp2_with (first | ((with_reducible refine gate_callee (f := 52) rfl ?_); refine goesL_ (some 47) rfl rfl Try.func52 (by kernel_rfl) rfl #[] rfl (by (try simp only [List.map_toArray, List.map_cons, List.map_nil]); first | done | rfl | (simp only [List.length_drop, List.length_take]; rfl)) ?_; (with_reducible refine (pack_bad.calls  t131 t132 _ A46.out).mono ?_); rintro e w47 ⟨rfl, hb⟩; refine ⟨_, rfl, ?_⟩; replace BK127 := Kb_ BK127 hb; replace BK128 := Kb_ BK128 hb; replace HB := Ks_ HB hb; (try clear hb); (try clear hb2); (try clear hk); (try clear hi); have hnb48 := NB128_127.out; have hnc48 := NB127_128.out; obtain ⟨hcz49_0, hcz49_1, hfz49_0, hfz49_1⟩ := Ke2_ BK128.out))
        refine bodyPost_ret (results_tc rfl _ _ gb128 81 #[.string t131, .bool t132] (0, 0) _ rfl (by (with_reducible repeat (first | refine blk_drewN ?_ _ | refine blk_drew ?_ | refine blk_alloc ?_ _)); refine blk_put (cs := #[.string t131, .bool x129001_1]) ?_ 1 _ rfl; (with_reducible repeat (first | refine blk_drewN ?_ _ | refine blk_drew ?_ | refine blk_alloc ?_ _)); refine blk_put (cs := #[.string x129000_1, .bool x129001_1]) ?_ 0 _ rfl; (with_reducible repeat (first | refine blk_drewN ?_ _ | refine blk_drew ?_ | refine blk_alloc ?_ _)); exact BK128.out) Try.underlying81 rfl (by kernel_rfl)) rfl ?_
        exact ⟨by first | rfl | (simp [errW_none, errW_some] <;> rfl) | (simp only [← hji10]; first | rfl | (simp [errW_none, errW_some] <;> rfl)) | (simp [*, errW_none, errW_some] <;> rfl), by repeat (first | (with_reducible first | exact HB.out | apply below_alloc | apply pw_below_drewN | apply below_drew1 | refine below_set ?_ GE127.out | refine below_set ?_ GE128.out) | exact HB.out)⟩
      rw [if_pos c15] at H
      have c15b0 : decide (x14_1 < ji10) = true := decide_eq_true c15
      clear c15
      by_cases c16 : 0 ≤ x14_1
      rotate_left
      · rw [if_neg c16] at H
        exact absurd H (by simp)
      rw [if_pos c16] at H
      have c16b0 : decide (0 ≤ x14_1) = true := decide_eq_true c16
      clear c16
      by_cases c17 : x14_1 < (a0_0.size : Int)
      rotate_left
      · rw [if_neg c17] at H
        exact absurd H (by simp)
      rw [if_pos c17] at H
      have c17b0 : decide (x14_1 < (a0_0.size : Int)) = true := decide_eq_true c17
      clear c17
      obtain ⟨ji19, hji19⟩ : ∃ j_ : Int, (wrap64 (7 * x14_1)) = j_ := ⟨_, rfl⟩
      replace H : (if 0 ≤ (ji19) then (if (bt a0_0 x14_1) ≥ 128 then (pack_Reader_Vary.l0 k1 (Go.bits .or .u64 x4_1 (shl .u64 (IntKind.u64.wrap (Go.bits .and .u8 (bt a0_0 x14_1) 127)) (ji19))) ji10 (wrap64 (x14_1 + 1)) a0_0 false) else (if 0 ≤ (wrap64 (x14_1 + 1)) then (if (wrap64 (x14_1 + 1)) ≤ (a0_0.size : Int) then ((pack_Vary.f k1 (Go.bits .or .u64 x4_1 (shl .u64 (IntKind.u64.wrap (Go.bits .and .u8 (bt a0_0 x14_1) 127)) (ji19)))).bind fun t133 => (if (a0_0.extract 0 ((wrap64 (x14_1 + 1)) : Int).toNat).toList = t133.toList then (some (Go.bits .or .u64 x4_1 (shl .u64 (IntKind.u64.wrap (Go.bits .and .u8 (bt a0_0 x14_1) 127)) (ji19)), a0_0.extract ((wrap64 (x14_1 + 1)) : Int).toNat a0_0.size, false)) else ((pack_bad.f).bind fun bt134 => (some (0, bt134.1, bt134.2))))) else (none)) else (none))) else (none)) = some (r1, r2, r3) := by first | (rw [hji19] at H; exact H) | (simp only [hji19] at H ⊢; exact H)
      have hji19w : (IntKind.i64.wrap (7 * x14_1)) = ji19 := (i64_w _).trans hji19
      by_cases c20 : 0 ≤ (ji19)
      rotate_left
      · rw [if_neg c20] at H
        exact absurd H (by simp)
      rw [if_pos c20] at H
      have c20b0 := eq_true c20
      have c20b1 : decide (0 ≤ (ji19)) = true := decide_eq_true c20
      clear c20
      obtain ⟨ji21, hji21⟩ : ∃ j_ : Int, (shl .u64 (IntKind.u64.wrap (Go.bits .and .u8 (bt a0_0 x14_1) 127)) (ji19)) = j_ := ⟨_, rfl⟩
      replace H : (if (bt a0_0 x14_1) ≥ 128 then (pack_Reader_Vary.l0 k1 (Go.bits .or .u64 x4_1 (ji21)) ji10 (wrap64 (x14_1 + 1)) a0_0 false) else (if 0 ≤ (wrap64 (x14_1 + 1)) then (if (wrap64 (x14_1 + 1)) ≤ (a0_0.size : Int) then ((pack_Vary.f k1 (Go.bits .or .u64 x4_1 (ji21))).bind fun t133 => (if (a0_0.extract 0 ((wrap64 (x14_1 + 1)) : Int).toNat).toList = t133.toList then (some (Go.bits .or .u64 x4_1 (ji21), a0_0.extract ((wrap64 (x14_1 + 1)) : Int).toNat a0_0.size, false)) else ((pack_bad.f).bind fun bt134 => (some (0, bt134.1, bt134.2))))) else (none)) else (none))) = some (r1, r2, r3) := by first | (rw [hji21] at H; exact H) | (simp only [hji21] at H ⊢; exact H)
      have hji21_ : (IntKind.u64.wrap ((IntKind.u64.wrap (Go.bits .and .u8 (bt a0_0 x14_1) 127)) * 2 ^ min (ji19).toNat 64)) = ji21 := hji21
      have hji21z : (ji19) ≤ 64 → (IntKind.u64.wrap ((IntKind.u64.wrap (Go.bits .and .u8 (bt a0_0 x14_1) 127)) * 2 ^ (ji19).toNat)) = ji21 := shl_small hji21
      by_cases c22 : (bt a0_0 x14_1) ≥ 128
      · rw [if_pos c22] at H
        have c22b0 : decide (128 ≤ (bt a0_0 x14_1)) = true := decide_eq_true c22
        clear c22
        have H' := Aside0.mk H
        clear H
        have hnb23 := NB127_128.out
        have hnc23 := NB128_127.out
        have hcz24_0 : wr.cell? ⟨gb127, 0, none⟩ = some (.string a0_0) := (blk_cell BK127.out 0).trans rfl
        have hcz24_1 : wr.cell? ⟨gb127, 1, none⟩ = some (.bool false) := (blk_cell BK127.out 1).trans rfl
        have hfz24_0 := blk_frozen BK127.out 0
        have hfz24_1 := blk_frozen BK127.out 1
        have p18 : 0 ≤ (x14_1 : Int) := of_decide_eq_true (by first | (with_reducible assumption) | assumption)
        have q18 : x14_1 < (a0_0.size : Int) := of_decide_eq_true (by first | (with_reducible assumption) | assumption)
        have hx18 := bt_at a0_0 x14_1
        replace p18 := eq_true p18
        replace q18 := eq_true q18
        go_wp2
        go_roundg k1
        case measure => have := HK1.out; omega
        case rel => exact ⟨(Go.bits .or .u64 x4_1 (ji21)), (wrap64 (x14_1 + 1)), (x129000_1), (x129001_1), (by first | rfl | (simp; done) | (simp only [← hji21] <;> (first | rfl | simp)) | (simp [*]; done)), (by first | rfl | (simp; done) | (simp [*]; done)), H', ⟨by have := HK1.out; omega⟩, ⟨by (with_reducible repeat (first | refine blk_drewN ?_ _ | refine blk_drew ?_ | refine blk_alloc ?_ _)); exact BK127.out⟩, ⟨by (with_reducible repeat (first | refine blk_drewN ?_ _ | refine blk_drew ?_ | refine blk_alloc ?_ _)); exact BK128.out⟩, ⟨by repeat (first | (with_reducible first | exact HB.out | apply below_alloc | apply pw_below_drewN | apply below_drew1 | refine below_set ?_ GE127.out | refine below_set ?_ GE128.out) | exact HB.out)⟩⟩
      rw [if_neg c22] at H
      have c22b0 : decide (128 ≤ (bt a0_0 x14_1)) = false := decide_eq_false c22
      clear c22
      obtain ⟨ji25, hji25⟩ : ∃ j_ : Int, (wrap64 (x14_1 + 1)) = j_ := ⟨_, rfl⟩
      replace H : (if 0 ≤ (ji25) then (if (ji25) ≤ (a0_0.size : Int) then ((pack_Vary.f k1 (Go.bits .or .u64 x4_1 (ji21))).bind fun t133 => (if (a0_0.extract 0 ((ji25) : Int).toNat).toList = t133.toList then (some (Go.bits .or .u64 x4_1 (ji21), a0_0.extract ((ji25) : Int).toNat a0_0.size, false)) else ((pack_bad.f).bind fun bt134 => (some (0, bt134.1, bt134.2))))) else (none)) else (none)) = some (r1, r2, r3) := by first | (rw [hji25] at H; exact H) | (simp only [hji25] at H ⊢; exact H)
      have hji25w : (IntKind.i64.wrap (x14_1 + 1)) = ji25 := (i64_w _).trans hji25
      by_cases c26 : 0 ≤ (ji25)
      rotate_left
      · rw [if_neg c26] at H
        exact absurd H (by simp)
      rw [if_pos c26] at H
      have c26b0 := eq_true c26
      have c26b1 : decide (0 ≤ (ji25)) = true := decide_eq_true c26
      clear c26
      by_cases c27 : (ji25) ≤ (a0_0.size : Int)
      rotate_left
      · rw [if_neg c27] at H
        exact absurd H (by simp)
      rw [if_pos c27] at H
      have c27b0 := eq_true c27
      have c27b1 : decide ((ji25) ≤ (a0_0.size : Int)) = true := decide_eq_true c27
      clear c27
      replace H := Option.bind_eq_some_iff.mp H
      obtain ⟨t133, A280, H⟩ := H
      replace H : (if (a0_0.extract 0 ((ji25) : Int).toNat).toList = t133.toList then (some (Go.bits .or .u64 x4_1 (ji21), a0_0.extract ((ji25) : Int).toNat a0_0.size, false)) else ((pack_bad.f).bind fun bt134 => (some (0, bt134.1, bt134.2)))) = some (r1, r2, r3) := H
      have A28 := Aside0.mk A280
      clear A280
      by_cases c29 : (a0_0.extract 0 ((ji25) : Int).toNat).toList = t133.toList
      rotate_left
      · rw [if_neg c29] at H
        have c29b0 : ((a0_0.extract 0 ((ji25) : Int).toNat).toList == t133.toList) = false := beq_eq_false_iff_ne.mpr c29
        have c29b1 : ((a0_0.extract 0 ((ji25) : Int).toNat).toList != t133.toList) = true := bne_iff_ne.mpr c29
        replace H := Option.bind_eq_some_iff.mp H
        obtain ⟨⟨t134, t135⟩, A390, H⟩ := H
        replace H : (some (0, t134, t135)) = some (r1, r2, r3) := H
        have A39 := Aside0.mk A390
        clear A390
        simp only [Option.some.injEq, Prod.mk.injEq] at H
        obtain ⟨rfl, rfl, rfl⟩ := H
        have hnb40 := NB127_128.out
        have hnc40 := NB128_127.out
        have hcz41_0 : wr.cell? ⟨gb127, 0, none⟩ = some (.string a0_0) := (blk_cell BK127.out 0).trans rfl
        have hcz41_1 : wr.cell? ⟨gb127, 1, none⟩ = some (.bool false) := (blk_cell BK127.out 1).trans rfl
        have hfz41_0 := blk_frozen BK127.out 0
        have hfz41_1 := blk_frozen BK127.out 1
        have p18 : 0 ≤ (x14_1 : Int) := of_decide_eq_true (by first | (with_reducible assumption) | assumption)
        have q18 : x14_1 < (a0_0.size : Int) := of_decide_eq_true (by first | (with_reducible assumption) | assumption)
        have hx18 := bt_at a0_0 x14_1
        replace p18 := eq_true p18
        replace q18 := eq_true q18
        try go_wp2
        replace BK127 := Kd_ BK127
        replace BK128 := Kd_ BK128
        replace HB := Aside0.mk (below_drew1 HB.out)
        refine start_ (n := 8) (S := fun w' => w'.cell? ⟨gb127, 0, none⟩ = some (.string a0_0) ∧ w'.cell? ⟨gb127, 1, none⟩ = some (.bool false)) (ds := []) #[false, false, false, false, false, false, false, false] (by kernel_rfl) rfl rfl (Kc2_ BK127.out) (fun hHeld => ?_); refine with_tabW pack_Reader_Vary.tab10 pack_Reader_Vary.bits10 (fun HT_ HW_ => ?_)
        generalize wr.drew = w42 at BK127 BK128 HB hHeld ⊢
        refine pure_ (i := 0) (N := some 31) (v := ?_) (a' := ?_) #[true, false, false, false, false, false, false, false] rfl rfl (any_of HT_.out (by kernel_rfl)) (fun _ _ _ h => h) (Or.inl ⟨by rfl, ?_⟩) ?_ ?_
        rotate_left
        · intro w'
          go_simp
          with_reducible rfl
        rotate_left
        · simp only [Act.put, List.setIfInBounds_toArray, List.set_cons_zero, List.set_cons_succ, i64_w, i32_w]
          rfl
        refine pure_ (i := 2) (N := some 33) (v := ?_) (a' := ?_) #[true, false, true, false, false, false, false, false] rfl rfl (any_of HT_.out (by kernel_rfl)) (fun _ _ _ h => h) (Or.inl ⟨by rfl, ?_⟩) ?_ ?_
        rotate_left
        · intro w'
          go_simp
          with_reducible rfl
        rotate_left
        · simp only [Act.put, List.setIfInBounds_toArray, List.set_cons_zero, List.set_cons_succ, i64_w, i32_w]
          rfl
        refine pure_ (i := 3) (N := some 34) (v := ?_) (a' := ?_) #[true, false, true, true, false, false, false, false] rfl rfl (any_of HT_.out (by kernel_rfl)) (fun _ _ _ h => h) (Or.inl ⟨by rfl, ?_⟩) ?_ ?_
        rotate_left
        · intro w'
          go_simp
          with_reducible rfl
        rotate_left
        · simp only [Act.put, List.setIfInBounds_toArray, List.set_cons_zero, List.set_cons_succ, i64_w, i32_w]
          rfl
        refine pure_ (i := 5) (N := some 36) (v := ?_) (a' := ?_) #[true, false, true, true, false, true, false, false] rfl rfl (any_of HT_.out (by kernel_rfl)) (fun _ _ _ h => h) (Or.inl ⟨by rfl, ?_⟩) ?_ ?_
        rotate_left
        · intro w'
          go_simp
          with_reducible rfl
        rotate_left
        · simp only [Act.put, List.setIfInBounds_toArray, List.set_cons_zero, List.set_cons_succ, i64_w, i32_w]
          rfl
        refine take_ (i := 1) (N := some 32) (v := ?_) (a' := ?_) #[true, true, true, true, false, true, false, false] rfl rfl (take_ofW HT_.out HW_.out (by kernel_rfl)) (fun _ _ _ h => h) (Or.inl ⟨by rfl, ?_⟩) hHeld ?_ ?_
        rotate_left
        · rintro w' ⟨s0, s1⟩
          go_simp
          with_reducible rfl
        rotate_left
        · simp only [Act.put, List.setIfInBounds_toArray, List.set_cons_zero, List.set_cons_succ, i64_w, i32_w]
          rfl
        refine pure_ (i := 4) (N := some 35) (v := ?_) (a' := ?_) #[true, true, true, true, true, true, false, false] rfl rfl (any_of HT_.out (by kernel_rfl)) (fun _ _ _ h => h) (Or.inl ⟨by rfl, ?_⟩) ?_ ?_
        rotate_left
        · intro w'
          go_simp
          with_reducible rfl
        rotate_left
        · simp only [Act.put, List.setIfInBounds_toArray, List.set_cons_zero, List.set_cons_succ, i64_w, i32_w]
          rfl
        refine one_ (i := 6) (N := some 37) #[true, true, true, true, true, true, true, false] rfl rfl (one_of HT_.out (by kernel_rfl)) (by decide) (fun K hK => ?_)
        refine goes_ Try.func45 (by kernel_rfl) rfl #[.int .u64 (Go.bits .or .u64 x4_1 (ji21))] (by rfl) rfl rfl (by (try simp only [List.map_toArray, List.map_cons, List.map_nil]); first | done | (simp only [hji21]; rfl) | rfl | (simp only [List.length_drop, List.length_take]; rfl)) ?_
        with_reducible refine (pack_Vary.calls k1 (Go.bits .or .u64 x4_1 (ji21)) t133 _ A28.out).mono ?_
        rintro e w43 ⟨rfl, hb⟩
        refine ⟨_, rfl, ?_⟩
        replace BK127 := Kb_ BK127 hb
        replace BK128 := Kb_ BK128 hb
        replace HB := Ks_ HB hb
        (try clear hb)
        (try clear hb2)
        (try clear hk)
        (try clear hi)
        refine hK.out _ _ (Kc2_ BK127.out) (fun hHeld => ?_)
        clear hK K
        refine norm_ (a' := ?_) ?_ ?_
        rotate_left
        · show Act.put _ (some 37) _ = _
          simp only [Act.put, List.setIfInBounds_toArray, List.set_cons_zero, List.set_cons_succ, i64_w, i32_w]
          rfl
        refine pure_ (i := 7) (N := some 38) (v := ?_) (a' := ?_) #[true, true, true, true, true, true, true, true] rfl rfl (any_of HT_.out (by kernel_rfl)) (fun _ _ _ h => h) (Or.inl ⟨by rfl, ?_⟩) ?_ ?_
        rotate_left
        · intro w'
          go_simp
          with_reducible rfl
        rotate_left
        · simp only [Act.put, List.setIfInBounds_toArray, List.set_cons_zero, List.set_cons_succ, i64_w, i32_w]
          rfl
        refine done_ (done_of HT_.out (by kernel_rfl)) ?_
        try go_wp2_with (first | ((with_reducible refine gate_callee (f := 52) rfl ?_); refine goesL_ (some 47) rfl rfl Try.func52 (by kernel_rfl) rfl #[] rfl (by (try simp only [List.map_toArray, List.map_cons, List.map_nil]); first | done | rfl | (simp only [List.length_drop, List.length_take]; rfl)) ?_; (with_reducible refine (pack_bad.calls  t134 t135 _ A39.out).mono ?_); rintro e w44 ⟨rfl, hb⟩; refine ⟨_, rfl, ?_⟩; replace BK127 := Kb_ BK127 hb; replace BK128 := Kb_ BK128 hb; replace HB := Ks_ HB hb; (try clear hb); (try clear hb2); (try clear hk); (try clear hi); obtain ⟨hcz45_0, hcz45_1, hfz45_0, hfz45_1⟩ := Ke2_ BK128.out))
        refine bodyPost_ret (results_tc rfl _ _ gb128 81 #[.string t134, .bool t135] (0, 0) _ rfl (by (with_reducible repeat (first | refine blk_drewN ?_ _ | refine blk_drew ?_ | refine blk_alloc ?_ _)); refine blk_put (cs := #[.string t134, .bool x129001_1]) ?_ 1 _ rfl; (with_reducible repeat (first | refine blk_drewN ?_ _ | refine blk_drew ?_ | refine blk_alloc ?_ _)); refine blk_put (cs := #[.string x129000_1, .bool x129001_1]) ?_ 0 _ rfl; (with_reducible repeat (first | refine blk_drewN ?_ _ | refine blk_drew ?_ | refine blk_alloc ?_ _)); exact BK128.out) Try.underlying81 rfl (by kernel_rfl)) rfl ?_
        exact ⟨by first | rfl | (simp [errW_none, errW_some] <;> rfl) | (simp only [← hji10, ← hji19, ← hji21, ← hji25]; first | rfl | (simp [errW_none, errW_some] <;> rfl)) | (simp [*, errW_none, errW_some] <;> rfl), by repeat (first | (with_reducible first | exact HB.out | apply below_alloc | apply pw_below_drewN | apply below_drew1 | refine below_set ?_ GE127.out | refine below_set ?_ GE128.out) | exact HB.out)⟩
      rw [if_pos c29] at H
      have c29b0 : ((a0_0.extract 0 ((ji25) : Int).toNat).toList == t133.toList) = true := beq_iff_eq.mpr c29
      have c29b1 : ((a0_0.extract 0 ((ji25) : Int).toNat).toList != t133.toList) = false := bne_eq_false_iff_eq.mpr c29
      clear c29
      have c30b0 := eq_true (of_decide_eq_true (by first | (with_reducible assumption) | assumption) : 0 ≤ (ji25))
      have c31b0 := eq_true (of_decide_eq_true (by first | (with_reducible assumption) | assumption) : (ji25) ≤ (a0_0.size : Int))
      simp only [Option.some.injEq, Prod.mk.injEq] at H
      obtain ⟨rfl, rfl, rfl⟩ := H
      have hnb32 := NB127_128.out
      have hnc32 := NB128_127.out
      have hcz33_0 : wr.cell? ⟨gb127, 0, none⟩ = some (.string a0_0) := (blk_cell BK127.out 0).trans rfl
      have hcz33_1 : wr.cell? ⟨gb127, 1, none⟩ = some (.bool false) := (blk_cell BK127.out 1).trans rfl
      have hfz33_0 := blk_frozen BK127.out 0
      have hfz33_1 := blk_frozen BK127.out 1
      have p18 : 0 ≤ (x14_1 : Int) := of_decide_eq_true (by first | (with_reducible assumption) | assumption)
      have q18 : x14_1 < (a0_0.size : Int) := of_decide_eq_true (by first | (with_reducible assumption) | assumption)
      have hx18 := bt_at a0_0 x14_1
      replace p18 := eq_true p18
      replace q18 := eq_true q18
      try go_wp2
      replace BK127 := Kd_ BK127
      replace BK128 := Kd_ BK128
      replace HB := Aside0.mk (below_drew1 HB.out)
      refine start_ (n := 8) (S := fun w' => w'.cell? ⟨gb127, 0, none⟩ = some (.string a0_0) ∧ w'.cell? ⟨gb127, 1, none⟩ = some (.bool false)) (ds := []) #[false, false, false, false, false, false, false, false] (by kernel_rfl) rfl rfl (Kc2_ BK127.out) (fun hHeld => ?_); refine with_tabW pack_Reader_Vary.tab10 pack_Reader_Vary.bits10 (fun HT_ HW_ => ?_)
      generalize wr.drew = w34 at BK127 BK128 HB hHeld ⊢
      refine pure_ (i := 0) (N := some 31) (v := ?_) (a' := ?_) #[true, false, false, false, false, false, false, false] rfl rfl (any_of HT_.out (by kernel_rfl)) (fun _ _ _ h => h) (Or.inl ⟨by rfl, ?_⟩) ?_ ?_
      rotate_left
      · intro w'
        go_simp
        with_reducible rfl
      rotate_left
      · simp only [Act.put, List.setIfInBounds_toArray, List.set_cons_zero, List.set_cons_succ, i64_w, i32_w]
        rfl
      refine pure_ (i := 2) (N := some 33) (v := ?_) (a' := ?_) #[true, false, true, false, false, false, false, false] rfl rfl (any_of HT_.out (by kernel_rfl)) (fun _ _ _ h => h) (Or.inl ⟨by rfl, ?_⟩) ?_ ?_
      rotate_left
      · intro w'
        go_simp
        with_reducible rfl
      rotate_left
      · simp only [Act.put, List.setIfInBounds_toArray, List.set_cons_zero, List.set_cons_succ, i64_w, i32_w]
        rfl
      refine pure_ (i := 3) (N := some 34) (v := ?_) (a' := ?_) #[true, false, true, true, false, false, false, false] rfl rfl (any_of HT_.out (by kernel_rfl)) (fun _ _ _ h => h) (Or.inl ⟨by rfl, ?_⟩) ?_ ?_
      rotate_left
      · intro w'
        go_simp
        with_reducible rfl
      rotate_left
      · simp only [Act.put, List.setIfInBounds_toArray, List.set_cons_zero, List.set_cons_succ, i64_w, i32_w]
        rfl
      refine pure_ (i := 5) (N := some 36) (v := ?_) (a' := ?_) #[true, false, true, true, false, true, false, false] rfl rfl (any_of HT_.out (by kernel_rfl)) (fun _ _ _ h => h) (Or.inl ⟨by rfl, ?_⟩) ?_ ?_
      rotate_left
      · intro w'
        go_simp
        with_reducible rfl
      rotate_left
      · simp only [Act.put, List.setIfInBounds_toArray, List.set_cons_zero, List.set_cons_succ, i64_w, i32_w]
        rfl
      refine take_ (i := 1) (N := some 32) (v := ?_) (a' := ?_) #[true, true, true, true, false, true, false, false] rfl rfl (take_ofW HT_.out HW_.out (by kernel_rfl)) (fun _ _ _ h => h) (Or.inl ⟨by rfl, ?_⟩) hHeld ?_ ?_
      rotate_left
      · rintro w' ⟨s0, s1⟩
        go_simp
        with_reducible rfl
      rotate_left
      · simp only [Act.put, List.setIfInBounds_toArray, List.set_cons_zero, List.set_cons_succ, i64_w, i32_w]
        rfl
      refine pure_ (i := 4) (N := some 35) (v := ?_) (a' := ?_) #[true, true, true, true, true, true, false, false] rfl rfl (any_of HT_.out (by kernel_rfl)) (fun _ _ _ h => h) (Or.inl ⟨by rfl, ?_⟩) ?_ ?_
      rotate_left
      · intro w'
        go_simp
        with_reducible rfl
      rotate_left
      · simp only [Act.put, List.setIfInBounds_toArray, List.set_cons_zero, List.set_cons_succ, i64_w, i32_w]
        rfl
      refine one_ (i := 6) (N := some 37) #[true, true, true, true, true, true, true, false] rfl rfl (one_of HT_.out (by kernel_rfl)) (by decide) (fun K hK => ?_)
      refine goes_ Try.func45 (by kernel_rfl) rfl #[.int .u64 (Go.bits .or .u64 x4_1 (ji21))] (by rfl) rfl rfl (by (try simp only [List.map_toArray, List.map_cons, List.map_nil]); first | done | (simp only [hji21]; rfl) | rfl | (simp only [List.length_drop, List.length_take]; rfl)) ?_
      with_reducible refine (pack_Vary.calls k1 (Go.bits .or .u64 x4_1 (ji21)) t133 _ A28.out).mono ?_
      rintro e w35 ⟨rfl, hb⟩
      refine ⟨_, rfl, ?_⟩
      replace BK127 := Kb_ BK127 hb
      replace BK128 := Kb_ BK128 hb
      replace HB := Ks_ HB hb
      (try clear hb)
      (try clear hb2)
      (try clear hk)
      (try clear hi)
      refine hK.out _ _ (Kc2_ BK127.out) (fun hHeld => ?_)
      clear hK K
      refine norm_ (a' := ?_) ?_ ?_
      rotate_left
      · show Act.put _ (some 37) _ = _
        simp only [Act.put, List.setIfInBounds_toArray, List.set_cons_zero, List.set_cons_succ, i64_w, i32_w]
        rfl
      refine pure_ (i := 7) (N := some 38) (v := ?_) (a' := ?_) #[true, true, true, true, true, true, true, true] rfl rfl (any_of HT_.out (by kernel_rfl)) (fun _ _ _ h => h) (Or.inl ⟨by rfl, ?_⟩) ?_ ?_
      rotate_left
      · intro w'
        go_simp
        with_reducible rfl
      rotate_left
      · simp only [Act.put, List.setIfInBounds_toArray, List.set_cons_zero, List.set_cons_succ, i64_w, i32_w]
        rfl
      refine done_ (done_of HT_.out (by kernel_rfl)) ?_
      try go_wp2
      replace BK127 := Kd_ BK127
      replace BK128 := Kd_ BK128
      replace HB := Aside0.mk (below_drew1 HB.out)
      refine start_ (n := 9) (S := fun w' => w'.cell? ⟨gb127, 0, none⟩ = some (.string a0_0) ∧ w'.cell? ⟨gb127, 1, none⟩ = some (.bool false)) (ds := []) #[false, false, false, false, false, false, false, false, false] (by kernel_rfl) rfl rfl (Kc2_ BK127.out) (fun hHeld => ?_); refine with_tabW pack_Reader_Vary.tab11 pack_Reader_Vary.bits11 (fun HT_ HW_ => ?_)
      generalize w35.drew = w36 at BK127 BK128 HB hHeld ⊢
      refine pure_ (i := 0) (N := some 39) (v := ?_) (a' := ?_) #[true, false, false, false, false, false, false, false, false] rfl rfl (any_of HT_.out (by kernel_rfl)) (fun _ _ _ h => h) (Or.inl ⟨by rfl, ?_⟩) ?_ ?_
      rotate_left
      · intro w'
        go_simp
        with_reducible rfl
      rotate_left
      · simp only [Act.put, List.setIfInBounds_toArray, List.set_cons_zero, List.set_cons_succ, i64_w, i32_w]
        rfl
      refine pure_ (i := 1) (N := some 40) (v := ?_) (a' := ?_) #[true, true, false, false, false, false, false, false, false] rfl rfl (any_of HT_.out (by kernel_rfl)) (fun _ _ _ h => h) (Or.inl ⟨by rfl, ?_⟩) ?_ ?_
      rotate_left
      · intro w'
        go_simp
        with_reducible rfl
      rotate_left
      · simp only [Act.put, List.setIfInBounds_toArray, List.set_cons_zero, List.set_cons_succ, i64_w, i32_w]
        rfl
      refine pure_ (i := 3) (N := some 42) (v := ?_) (a' := ?_) #[true, true, false, true, false, false, false, false, false] rfl rfl (any_of HT_.out (by kernel_rfl)) (fun _ _ _ h => h) (Or.inl ⟨by rfl, ?_⟩) ?_ ?_
      rotate_left
      · intro w'
        go_simp
        with_reducible rfl
      rotate_left
      · simp only [Act.put, List.setIfInBounds_toArray, List.set_cons_zero, List.set_cons_succ, i64_w, i32_w]
        rfl
      refine pure_ (i := 4) (N := some 43) (v := ?_) (a' := ?_) #[true, true, false, true, true, false, false, false, false] rfl rfl (any_of HT_.out (by kernel_rfl)) (fun _ _ _ h => h) (Or.inl ⟨by rfl, ?_⟩) ?_ ?_
      rotate_left
      · intro w'
        go_simp
        with_reducible rfl
      rotate_left
      · simp only [Act.put, List.setIfInBounds_toArray, List.set_cons_zero, List.set_cons_succ, i64_w, i32_w]
        rfl
      refine pure_ (i := 7) (N := some 2) (v := ?_) (a' := ?_) #[true, true, false, true, true, false, false, true, false] rfl rfl (any_of HT_.out (by kernel_rfl)) (fun _ _ _ h => h) (Or.inl ⟨by rfl, ?_⟩) ?_ ?_
      rotate_left
      · intro w'
        go_simp
        with_reducible rfl
      rotate_left
      · simp only [Act.put, List.setIfInBounds_toArray, List.set_cons_zero, List.set_cons_succ, i64_w, i32_w]
        rfl
      refine take_ (i := 2) (N := some 41) (v := ?_) (a' := ?_) #[true, true, true, true, true, false, false, true, false] rfl rfl (take_ofW HT_.out HW_.out (by kernel_rfl)) (fun _ _ _ h => h) (Or.inl ⟨by rfl, ?_⟩) hHeld ?_ ?_
      rotate_left
      · rintro w' ⟨s0, s1⟩
        go_simp
        with_reducible rfl
      rotate_left
      · simp only [Act.put, List.setIfInBounds_toArray, List.set_cons_zero, List.set_cons_succ, i64_w, i32_w]
        rfl
      refine pure_ (i := 5) (N := some 44) (v := ?_) (a' := ?_) #[true, true, true, true, true, true, false, true, false] rfl rfl (any_of HT_.out (by kernel_rfl)) (fun _ _ _ h => h) (Or.inl ⟨by rfl, ?_⟩) ?_ ?_
      rotate_left
      · intro w'
        go_simp
        with_reducible rfl
      rotate_left
      · simp only [Act.put, List.setIfInBounds_toArray, List.set_cons_zero, List.set_cons_succ, i64_w, i32_w]
        rfl
      refine pure_ (i := 6) (N := some 45) (v := ?_) (a' := ?_) #[true, true, true, true, true, true, true, true, false] rfl rfl (any_of HT_.out (by kernel_rfl)) (fun _ _ _ h => h) (Or.inl ⟨by rfl, ?_⟩) ?_ ?_
      rotate_left
      · intro w'
        go_simp
        with_reducible rfl
      rotate_left
      · simp only [Act.put, List.setIfInBounds_toArray, List.set_cons_zero, List.set_cons_succ, i64_w, i32_w]
        rfl
      refine one_ (i := 8) (N := none) #[true, true, true, true, true, true, true, true, true] rfl rfl (one_of HT_.out (by kernel_rfl)) (by decide) (fun K hK => ?_)
      have hs37 : w36.cell? ⟨gb128, 0, none⟩ = some (.string x129000_1) := (blk_cell BK128.out 0).trans rfl
      have hfs37 := blk_frozen BK128.out 0
      have hns37_0 := NB127_128.out
      have hms37_0 := NB128_127.out
      have hs38 : w36.cell? ⟨gb128, 1, none⟩ = some (.bool x129001_1) := (blk_cell BK128.out 1).trans rfl
      have hfs38 := blk_frozen BK128.out 1
      have hns38_0 := NB127_128.out
      have hms38_0 := NB128_127.out
      refine skip_ (w1 := ?_) (by rfl) rfl ?_ ?_
      rotate_left
      · go_simp
        rfl
      refine hK.out _ _ ⟨((cell_far (p := ⟨gb128, _, none⟩) NB127_128.out _).trans (((cell_far (p := ⟨gb128, _, none⟩) NB127_128.out _).trans (hHeld.1)))), ((cell_far (p := ⟨gb128, _, none⟩) NB127_128.out _).trans (((cell_far (p := ⟨gb128, _, none⟩) NB127_128.out _).trans (hHeld.2))))⟩ (fun hHeld => ?_)
      clear hK K
      refine done_ (done_of HT_.out (by kernel_rfl)) ?_
      try go_wp2
      refine bodyPost_ret (results_tc rfl _ _ gb128 81 #[.string (a0_0.extract ((ji25) : Int).toNat a0_0.size), .bool false] (0, 0) _ rfl (by (with_reducible repeat (first | refine blk_drewN ?_ _ | refine blk_drew ?_ | refine blk_alloc ?_ _)); refine blk_put (cs := #[.string (a0_0.extract ((ji25) : Int).toNat a0_0.size), .bool x129001_1]) ?_ 1 _ rfl; (with_reducible repeat (first | refine blk_drewN ?_ _ | refine blk_drew ?_ | refine blk_alloc ?_ _)); refine blk_put (cs := #[.string x129000_1, .bool x129001_1]) ?_ 0 _ rfl; (with_reducible repeat (first | refine blk_drewN ?_ _ | refine blk_drew ?_ | refine blk_alloc ?_ _)); exact BK128.out) Try.underlying81 rfl (by kernel_rfl)) rfl ?_
      exact ⟨by first | rfl | (simp [errW_none, errW_some] <;> rfl) | (simp only [← hji10, ← hji19, ← hji21, ← hji25]; first | rfl | (simp [errW_none, errW_some] <;> rfl)) | (simp [*, errW_none, errW_some] <;> rfl), by repeat (first | (with_reducible first | exact HB.out | apply below_alloc | apply pw_below_drewN | apply below_drew1 | refine below_set ?_ GE127.out | refine below_set ?_ GE128.out) | exact HB.out)⟩

end Go.Proofs.Ytplgbkobpanbfaa.Q

-- Written by this session's own driver (wip/hybrid.py) of the kit's printer; contracts marked FOREIGN are by hand.
namespace Go.Proofs.Ytplgbkobpanbfaa.Q
open Go.RowKit Go.Proofs.YtplgbkobpanbfaaW.PrintWords Go.Proofs.YtplgbkobpanbfaaW.PrintLast Go.Proofs.YtplgbkobpanbfaaW.PrintMore
attribute [local go_sem] max2_int min2_int max_two min_two max_three min_three max_four min_four   -- for this text's walks alone
set_option linter.unusedVariables false
set_option linter.unusedSimpArgs false

/-! ### pack_Reader_Text: function 36 -/
def pack_Reader_Text.f (k : Nat) (a0_0 : ByteArray) (a0_1 : Bool) (a1 : Int) : Option (ByteArray × ByteArray × Bool) := (pack_Reader_Vary.f k a0_0 a0_1).bind fun bt138 => (if bt138.2.2 = true then ((pack_bad.f).bind fun bt141 => (some ((⟨#[]⟩ : ByteArray), bt141.1, bt141.2))) else (if a1 < 0 then ((pack_bad.f).bind fun bt143 => (some ((⟨#[]⟩ : ByteArray), bt143.1, bt143.2))) else (if bt138.1 > (IntKind.u64.wrap (mn a1 (bt138.2.1.size : Int))) then ((pack_bad.f).bind fun bt145 => (some ((⟨#[]⟩ : ByteArray), bt145.1, bt145.2))) else (if 0 ≤ bt138.1 then (if bt138.1 ≤ (bt138.2.1.size : Int) then (some (bt138.2.1.extract 0 (bt138.1 : Int).toNat, bt138.2.1.extract (bt138.1 : Int).toNat bt138.2.1.size, false)) else (none)) else (none)))))
theorem pack_Reader_Text.mono : ∀ a0 a1 a2 k, LeO (pack_Reader_Text.f k a0 a1 a2) (pack_Reader_Text.f (k + 1) a0 a1 a2) := by
  intro a0 a1 a2 k
  unfold pack_Reader_Text.f
  repeat' first
      | (with_reducible exact pack_Reader_Vary.mono _ _ _)
      | (with_reducible exact LeO.refl _)
      | (with_reducible exact LeO.none _)
      | (with_reducible refine LeO.ite ?_ ?_)
      | (with_reducible refine LeO.bind ?_ (fun _ => ?_))
      | exact pack_Reader_Vary.mono _ _ _
      | exact LeO.none _
      | refine LeO.ite ?_ ?_
      | refine LeO.bind ?_ (fun _ => ?_)
def pack_Reader_Text.T4 : Bool × List (List Nat × List Nat) := (true, [([], []), ([0], [0]), ([], []), ([1, 2], [1, 2]), ([], []), ([4], [4]), ([], []), ([5, 6], [5, 6]), ([7], [7]), ([3, 0, 1, 2, 3], [3]), ([8, 9, 0, 1, 2, 3, 4, 5, 6, 7, 8, 9], [8])])
def pack_Reader_Text.B4 : List Nat := [0, 1, 0, 7, 0, 16, 0, 112, 240, 15, 1023]
theorem pack_Reader_Text.tab4 : rtab .any (opsOf Try.f36 4) = pack_Reader_Text.T4 := by kernel_rfl
theorem pack_Reader_Text.bits4 : waitsOk pack_Reader_Text.T4.2 pack_Reader_Text.B4 = true := by kernel_rfl
set_option maxHeartbeats 8000000 in
set_option maxRecDepth 100000 in
theorem pack_Reader_Text.calls (k : Nat) (a0_0 : ByteArray) (a0_1 : Bool) (a1 : Int) (r1 : ByteArray) (r2 : ByteArray) (r3 : Bool) (w : World) (h : pack_Reader_Text.f k a0_0 a0_1 a1 = some (r1, r2, r3)) :
    Calls Try.prog 36 #[.agg #[.string a0_0, .bool a0_1], .int .i64 a1] w fun e w' => e = .returned (.tuple #[.string r1, .agg #[.string r2, .bool r3]]) ∧ Below w.heap.size w w' := by
  have hu81 := Try.underlying81
  have HB := Aside0.mk (Below.refl w.heap.size w)
  have H : ((pack_Reader_Vary.f k a0_0 a0_1).bind fun bt138 => (if bt138.2.2 = true then ((pack_bad.f).bind fun bt141 => (some ((⟨#[]⟩ : ByteArray), bt141.1, bt141.2))) else (if a1 < 0 then ((pack_bad.f).bind fun bt143 => (some ((⟨#[]⟩ : ByteArray), bt143.1, bt143.2))) else (if bt138.1 > (IntKind.u64.wrap (mn a1 (bt138.2.1.size : Int))) then ((pack_bad.f).bind fun bt145 => (some ((⟨#[]⟩ : ByteArray), bt145.1, bt145.2))) else (if 0 ≤ bt138.1 then (if bt138.1 ≤ (bt138.2.1.size : Int) then (some (bt138.2.1.extract 0 (bt138.1 : Int).toNat, bt138.2.1.extract (bt138.1 : Int).toNat bt138.2.1.size, false)) else (none)) else (none)))))) = some (r1, r2, r3) := h
  clear h
  replace H := Option.bind_eq_some_iff.mp H
  obtain ⟨⟨t138, t139, t140⟩, A30, H⟩ := H
  replace H : (if t140 = true then ((pack_bad.f).bind fun bt141 => (some ((⟨#[]⟩ : ByteArray), bt141.1, bt141.2))) else (if a1 < 0 then ((pack_bad.f).bind fun bt143 => (some ((⟨#[]⟩ : ByteArray), bt143.1, bt143.2))) else (if t138 > (IntKind.u64.wrap (mn a1 (t139.size : Int))) then ((pack_bad.f).bind fun bt145 => (some ((⟨#[]⟩ : ByteArray), bt145.1, bt145.2))) else (if 0 ≤ t138 then (if t138 ≤ (t139.size : Int) then (some (t139.extract 0 (t138 : Int).toNat, t139.extract (t138 : Int).toNat t139.size, false)) else (none)) else (none))))) = some (r1, r2, r3) := H
  have A3 := Aside0.mk A30
  clear A30
  by_cases c4 : t140 = true
  · subst c4
    have H1 : ((pack_bad.f).bind fun bt141 => (some ((⟨#[]⟩ : ByteArray), bt141.1, bt141.2))) = some (r1, r2, r3) := by rw [if_pos rfl] at H; exact H
    clear H
    have H := H1
    clear H1
    replace H := Option.bind_eq_some_iff.mp H
    obtain ⟨⟨t141, t142⟩, A50, H⟩ := H
    replace H : (some ((⟨#[]⟩ : ByteArray), t141, t142)) = some (r1, r2, r3) := H
    have A5 := Aside0.mk A50
    clear A50
    simp only [Option.some.injEq, Prod.mk.injEq] at H
    obtain ⟨rfl, rfl, rfl⟩ := H
    go_enter Try.func36, Try.ntmps36
    go_wp2_with (first | ((with_reducible refine gate_dst (N := 2) rfl ?_); refine box_event ?hg (N := 2) ?hd (cs := #[.string a0_0, .bool a0_1]) (t := 81) ?hr ?_; (case hd => rfl); (case hg => rfl); (case hr => first | (go_simp; done) | (go_simp; rfl)); intro gb136 hg w6 hbox hb; have BK136 := Aside0.mk (hbox); have GW136 := Kw_ HB hg; have GE136 := GW136; replace HB := Ks_ HB hb; clear hb hbox hg) | ((with_reducible refine gate_dst (N := 5) rfl ?_); refine box_event ?hg (N := 5) ?hd (cs := #[.string (⟨#[]⟩ : ByteArray), .bool false]) (t := 81) ?hr ?_; (case hd => rfl); (case hg => rfl); (case hr => first | (go_simp; done) | (go_simp; rfl)); intro gb137 hg w7 hbox hb; have BK137 := Aside0.mk (hbox); have GW137 := Kw_ HB hg; have GE137 := GW137; have NB136_137 := Kl_ BK136 hg; have NB137_136 := Kr_ BK136 hg; replace BK136 := Kb_ BK136 hb; replace HB := Ks_ HB hb; clear hb hbox hg; have hnb8 := NB136_137.out; have hnc8 := NB137_136.out; obtain ⟨hcz9_0, hcz9_1, hfz9_0, hfz9_1⟩ := Ke2_ BK136.out) | ((with_reducible refine gate_callee (f := 51) rfl ?_); refine goesL_ (some 9) rfl rfl Try.func51 (by kernel_rfl) rfl #[.agg #[.string a0_0, .bool a0_1]] rfl (by (try simp only [List.map_toArray, List.map_cons, List.map_nil]); first | done | rfl | (simp only [List.length_drop, List.length_take]; rfl)) ?_; (with_reducible refine (pack_Reader_Vary.calls k a0_0 a0_1 t138 t139 true _ A3.out).mono ?_); rintro e w10 ⟨rfl, hb⟩; refine ⟨_, rfl, ?_⟩; replace BK136 := Kb_ BK136 hb; replace BK137 := Kb_ BK137 hb; replace HB := Ks_ HB hb; (try clear hb); (try clear hb2); (try clear hk); (try clear hi); obtain ⟨hcz11_0, hcz11_1, hfz11_0, hfz11_1⟩ := Ke2_ BK136.out) | ((with_reducible refine gate_callee (f := 52) rfl ?_); refine goesL_ (some 28) rfl rfl Try.func52 (by kernel_rfl) rfl #[] rfl (by (try simp only [List.map_toArray, List.map_cons, List.map_nil]); first | done | rfl | (simp only [List.length_drop, List.length_take]; rfl)) ?_; (with_reducible refine (pack_bad.calls  t141 t142 _ A5.out).mono ?_); rintro e w12 ⟨rfl, hb⟩; refine ⟨_, rfl, ?_⟩; replace BK136 := Aside0.mk (blk_below (g := gb136) (o := .cells #[.string t139, .bool true] 81 (0, 0)) (by (with_reducible repeat (first | refine blk_drewN ?_ _ | refine blk_drew ?_ | refine blk_alloc ?_ _)); refine blk_put (cs := #[.string t139, .bool a0_1]) ?_ 1 _ rfl; (with_reducible repeat (first | refine blk_drewN ?_ _ | refine blk_drew ?_ | refine blk_alloc ?_ _)); refine blk_put (cs := #[.string a0_0, .bool a0_1]) ?_ 0 _ rfl; (with_reducible repeat (first | refine blk_drewN ?_ _ | refine blk_drew ?_ | refine blk_alloc ?_ _)); exact BK136.out) hb); replace BK137 := Kf_ BK137 NB137_136 hb; replace HB := Kt_ HB GE136 hb; (try clear hb); (try clear hb2); (try clear hk); (try clear hi); obtain ⟨hcz13_0, hcz13_1, hfz13_0, hfz13_1⟩ := Ke2_ BK137.out))
    refine bodyPost_ret (results_tc rfl _ _ gb137 81 #[.string t141, .bool t142] (0, 0) _ rfl (by (with_reducible repeat (first | refine blk_drewN ?_ _ | refine blk_drew ?_ | refine blk_alloc ?_ _)); refine blk_put (cs := #[.string t141, .bool false]) ?_ 1 _ rfl; (with_reducible repeat (first | refine blk_drewN ?_ _ | refine blk_drew ?_ | refine blk_alloc ?_ _)); refine blk_put (cs := #[.string (⟨#[]⟩ : ByteArray), .bool false]) ?_ 0 _ rfl; (with_reducible repeat (first | refine blk_drewN ?_ _ | refine blk_drew ?_ | refine blk_alloc ?_ _)); exact BK137.out) Try.underlying81 rfl (by kernel_rfl)) rfl ?_
    exact ⟨by first | rfl | (simp [errW_none, errW_some] <;> rfl) | (simp [*, errW_none, errW_some] <;> rfl), by repeat (first | (with_reducible first | exact HB.out | apply below_alloc | apply pw_below_drewN | apply below_drew1 | refine below_set ?_ GE136.out | refine below_set ?_ GE137.out) | exact HB.out)⟩
  replace c4 := Bool.eq_false_iff.mpr c4
  subst c4
  have H1 : (if a1 < 0 then ((pack_bad.f).bind fun bt143 => (some ((⟨#[]⟩ : ByteArray), bt143.1, bt143.2))) else (if t138 > (IntKind.u64.wrap (mn a1 (t139.size : Int))) then ((pack_bad.f).bind fun bt145 => (some ((⟨#[]⟩ : ByteArray), bt145.1, bt145.2))) else (if 0 ≤ t138 then (if t138 ≤ (t139.size : Int) then (some (t139.extract 0 (t138 : Int).toNat, t139.extract (t138 : Int).toNat t139.size, false)) else (none)) else (none)))) = some (r1, r2, r3) := by rw [if_neg (show ¬ (false = true) by decide)] at H; exact H
  clear H
  have H := H1
  clear H1
  by_cases c14 : a1 < 0
  · rw [if_pos c14] at H
    have c14b0 : decide (a1 < 0) = true := decide_eq_true c14
    clear c14
    replace H := Option.bind_eq_some_iff.mp H
    obtain ⟨⟨t143, t144⟩, A150, H⟩ := H
    replace H : (some ((⟨#[]⟩ : ByteArray), t143, t144)) = some (r1, r2, r3) := H
    have A15 := Aside0.mk A150
    clear A150
    simp only [Option.some.injEq, Prod.mk.injEq] at H
    obtain ⟨rfl, rfl, rfl⟩ := H
    go_enter Try.func36, Try.ntmps36
    go_wp2_with (first | ((with_reducible refine gate_dst (N := 2) rfl ?_); refine box_event ?hg (N := 2) ?hd (cs := #[.string a0_0, .bool a0_1]) (t := 81) ?hr ?_; (case hd => rfl); (case hg => rfl); (case hr => first | (go_simp; done) | (go_simp; rfl)); intro gb136 hg w16 hbox hb; have BK136 := Aside0.mk (hbox); have GW136 := Kw_ HB hg; have GE136 := GW136; replace HB := Ks_ HB hb; clear hb hbox hg) | ((with_reducible refine gate_dst (N := 5) rfl ?_); refine box_event ?hg (N := 5) ?hd (cs := #[.string (⟨#[]⟩ : ByteArray), .bool false]) (t := 81) ?hr ?_; (case hd => rfl); (case hg => rfl); (case hr => first | (go_simp; done) | (go_simp; rfl)); intro gb137 hg w17 hbox hb; have BK137 := Aside0.mk (hbox); have GW137 := Kw_ HB hg; have GE137 := GW137; have NB136_137 := Kl_ BK136 hg; have NB137_136 := Kr_ BK136 hg; replace BK136 := Kb_ BK136 hb; replace HB := Ks_ HB hb; clear hb hbox hg; have hnb18 := NB136_137.out; have hnc18 := NB137_136.out; obtain ⟨hcz19_0, hcz19_1, hfz19_0, hfz19_1⟩ := Ke2_ BK136.out) | ((with_reducible refine gate_callee (f := 51) rfl ?_); refine goesL_ (some 9) rfl rfl Try.func51 (by kernel_rfl) rfl #[.agg #[.string a0_0, .bool a0_1]] rfl (by (try simp only [List.map_toArray, List.map_cons, List.map_nil]); first | done | rfl | (simp only [List.length_drop, List.length_take]; rfl)) ?_; (with_reducible refine (pack_Reader_Vary.calls k a0_0 a0_1 t138 t139 false _ A3.out).mono ?_); rintro e w20 ⟨rfl, hb⟩; refine ⟨_, rfl, ?_⟩; replace BK136 := Kb_ BK136 hb; replace BK137 := Kb_ BK137 hb; replace HB := Ks_ HB hb; (try clear hb); (try clear hb2); (try clear hk); (try clear hi); obtain ⟨hcz21_0, hcz21_1, hfz21_0, hfz21_1⟩ := Ke2_ BK136.out) | ((with_reducible refine gate_callee (f := 52) rfl ?_); refine goesL_ (some 28) rfl rfl Try.func52 (by kernel_rfl) rfl #[] rfl (by (try simp only [List.map_toArray, List.map_cons, List.map_nil]); first | done | rfl | (simp only [List.length_drop, List.length_take]; rfl)) ?_; (with_reducible refine (pack_bad.calls  t143 t144 _ A15.out).mono ?_); rintro e w22 ⟨rfl, hb⟩; refine ⟨_, rfl, ?_⟩; replace BK136 := Aside0.mk (blk_below (g := gb136) (o := .cells #[.string t139, .bool false] 81 (0, 0)) (by (with_reducible repeat (first | refine blk_drewN ?_ _ | refine blk_drew ?_ | refine blk_alloc ?_ _)); refine blk_put (cs := #[.string t139, .bool a0_1]) ?_ 1 _ rfl; (with_reducible repeat (first | refine blk_drewN ?_ _ | refine blk_drew ?_ | refine blk_alloc ?_ _)); refine blk_put (cs := #[.string a0_0, .bool a0_1]) ?_ 0 _ rfl; (with_reducible repeat (first | refine blk_drewN ?_ _ | refine blk_drew ?_ | refine blk_alloc ?_ _)); exact BK136.out) hb); replace BK137 := Kf_ BK137 NB137_136 hb; replace HB := Kt_ HB GE136 hb; (try clear hb); (try clear hb2); (try clear hk); (try clear hi); obtain ⟨hcz23_0, hcz23_1, hfz23_0, hfz23_1⟩ := Ke2_ BK137.out))
    refine bodyPost_ret (results_tc rfl _ _ gb137 81 #[.string t143, .bool t144] (0, 0) _ rfl (by (with_reducible repeat (first | refine blk_drewN ?_ _ | refine blk_drew ?_ | refine blk_alloc ?_ _)); refine blk_put (cs := #[.string t143, .bool false]) ?_ 1 _ rfl; (with_reducible repeat (first | refine blk_drewN ?_ _ | refine blk_drew ?_ | refine blk_alloc ?_ _)); refine blk_put (cs := #[.string (⟨#[]⟩ : ByteArray), .bool false]) ?_ 0 _ rfl; (with_reducible repeat (first | refine blk_drewN ?_ _ | refine blk_drew ?_ | refine blk_alloc ?_ _)); exact BK137.out) Try.underlying81 rfl (by kernel_rfl)) rfl ?_
    exact ⟨by first | rfl | (simp [errW_none, errW_some] <;> rfl) | (simp [*, errW_none, errW_some] <;> rfl), by repeat (first | (with_reducible first | exact HB.out | apply below_alloc | apply pw_below_drewN | apply below_drew1 | refine below_set ?_ GE136.out | refine below_set ?_ GE137.out) | exact HB.out)⟩
  rw [if_neg c14] at H
  have c14b0 : decide (a1 < 0) = false := decide_eq_false c14
  clear c14
  obtain ⟨ji24, hji24⟩ : ∃ j_ : Int, (mn a1 (t139.size : Int)) = j_ := ⟨_, rfl⟩
  replace H : (if t138 > (IntKind.u64.wrap (ji24)) then ((pack_bad.f).bind fun bt145 => (some ((⟨#[]⟩ : ByteArray), bt145.1, bt145.2))) else (if 0 ≤ t138 then (if t138 ≤ (t139.size : Int) then (some (t139.extract 0 (t138 : Int).toNat, t139.extract (t138 : Int).toNat t139.size, false)) else (none)) else (none))) = some (r1, r2, r3) := by first | (rw [hji24] at H; exact H) | (simp only [hji24] at H ⊢; exact H)
  (try rw [hji24] at A3)
  have hji24_ : (if (t139.size : Int) < a1 then (t139.size : Int) else a1) = ji24 := hji24
  by_cases c25 : t138 > (IntKind.u64.wrap (ji24))
  · rw [if_pos c25] at H
    have c25b0 : decide ((IntKind.u64.wrap (ji24)) < t138) = true := decide_eq_true c25
    clear c25
    replace H := Option.bind_eq_some_iff.mp H
    obtain ⟨⟨t145, t146⟩, A260, H⟩ := H
    replace H : (some ((⟨#[]⟩ : ByteArray), t145, t146)) = some (r1, r2, r3) := H
    have A26 := Aside0.mk A260
    clear A260
    simp only [Option.some.injEq, Prod.mk.injEq] at H
    obtain ⟨rfl, rfl, rfl⟩ := H
    go_enter Try.func36, Try.ntmps36
    go_wp2_with (first | ((with_reducible refine gate_dst (N := 2) rfl ?_); refine box_event ?hg (N := 2) ?hd (cs := #[.string a0_0, .bool a0_1]) (t := 81) ?hr ?_; (case hd => rfl); (case hg => rfl); (case hr => first | (go_simp; done) | (go_simp; rfl)); intro gb136 hg w27 hbox hb; have BK136 := Aside0.mk (hbox); have GW136 := Kw_ HB hg; have GE136 := GW136; replace HB := Ks_ HB hb; clear hb hbox hg) | ((with_reducible refine gate_dst (N := 5) rfl ?_); refine box_event ?hg (N := 5) ?hd (cs := #[.string (⟨#[]⟩ : ByteArray), .bool false]) (t := 81) ?hr ?_; (case hd => rfl); (case hg => rfl); (case hr => first | (go_simp; done) | (go_simp; rfl)); intro gb137 hg w28 hbox hb; have BK137 := Aside0.mk (hbox); have GW137 := Kw_ HB hg; have GE137 := GW137; have NB136_137 := Kl_ BK136 hg; have NB137_136 := Kr_ BK136 hg; replace BK136 := Kb_ BK136 hb; replace HB := Ks_ HB hb; clear hb hbox hg; have hnb29 := NB136_137.out; have hnc29 := NB137_136.out; obtain ⟨hcz30_0, hcz30_1, hfz30_0, hfz30_1⟩ := Ke2_ BK136.out) | ((with_reducible refine gate_callee (f := 51) rfl ?_); refine goesL_ (some 9) rfl rfl Try.func51 (by kernel_rfl) rfl #[.agg #[.string a0_0, .bool a0_1]] rfl (by (try simp only [List.map_toArray, List.map_cons, List.map_nil]); first | done | rfl | (simp only [List.length_drop, List.length_take]; rfl)) ?_; (with_reducible refine (pack_Reader_Vary.calls k a0_0 a0_1 t138 t139 false _ A3.out).mono ?_); rintro e w31 ⟨rfl, hb⟩; refine ⟨_, rfl, ?_⟩; replace BK136 := Kb_ BK136 hb; replace BK137 := Kb_ BK137 hb; replace HB := Ks_ HB hb; (try clear hb); (try clear hb2); (try clear hk); (try clear hi); obtain ⟨hcz32_0, hcz32_1, hfz32_0, hfz32_1⟩ := Ke2_ BK136.out) | ((with_reducible refine gate_callee (f := 52) rfl ?_); refine goesL_ (some 28) rfl rfl Try.func52 (by kernel_rfl) rfl #[] rfl (by (try simp only [List.map_toArray, List.map_cons, List.map_nil]); first | done | rfl | (simp only [List.length_drop, List.length_take]; rfl)) ?_; (with_reducible refine (pack_bad.calls  t145 t146 _ A26.out).mono ?_); rintro e w33 ⟨rfl, hb⟩; refine ⟨_, rfl, ?_⟩; replace BK136 := Aside0.mk (blk_below (g := gb136) (o := .cells #[.string t139, .bool false] 81 (0, 0)) (by (with_reducible repeat (first | refine blk_drewN ?_ _ | refine blk_drew ?_ | refine blk_alloc ?_ _)); refine blk_put (cs := #[.string t139, .bool a0_1]) ?_ 1 _ rfl; (with_reducible repeat (first | refine blk_drewN ?_ _ | refine blk_drew ?_ | refine blk_alloc ?_ _)); refine blk_put (cs := #[.string a0_0, .bool a0_1]) ?_ 0 _ rfl; (with_reducible repeat (first | refine blk_drewN ?_ _ | refine blk_drew ?_ | refine blk_alloc ?_ _)); exact BK136.out) hb); replace BK137 := Kf_ BK137 NB137_136 hb; replace HB := Kt_ HB GE136 hb; (try clear hb); (try clear hb2); (try clear hk); (try clear hi); obtain ⟨hcz34_0, hcz34_1, hfz34_0, hfz34_1⟩ := Ke2_ BK137.out))
    refine bodyPost_ret (results_tc rfl _ _ gb137 81 #[.string t145, .bool t146] (0, 0) _ rfl (by (with_reducible repeat (first | refine blk_drewN ?_ _ | refine blk_drew ?_ | refine blk_alloc ?_ _)); refine blk_put (cs := #[.string t145, .bool false]) ?_ 1 _ rfl; (with_reducible repeat (first | refine blk_drewN ?_ _ | refine blk_drew ?_ | refine blk_alloc ?_ _)); refine blk_put (cs := #[.string (⟨#[]⟩ : ByteArray), .bool false]) ?_ 0 _ rfl; (with_reducible repeat (first | refine blk_drewN ?_ _ | refine blk_drew ?_ | refine blk_alloc ?_ _)); exact BK137.out) Try.underlying81 rfl (by kernel_rfl)) rfl ?_
    exact ⟨by first | rfl | (simp [errW_none, errW_some] <;> rfl) | (simp only [← hji24]; first | rfl | (simp [errW_none, errW_some] <;> rfl)) | (simp [*, errW_none, errW_some] <;> rfl), by repeat (first | (with_reducible first | exact HB.out | apply below_alloc | apply pw_below_drewN | apply below_drew1 | refine below_set ?_ GE136.out | refine below_set ?_ GE137.out) | exact HB.out)⟩
  rw [if_neg c25] at H
  have c25b0 : decide ((IntKind.u64.wrap (ji24)) < t138) = false := decide_eq_false c25
  clear c25
  by_cases c35 : 0 ≤ t138
  rotate_left
  · rw [if_neg c35] at H
    exact absurd H (by simp)
  rw [if_pos c35] at H
  have c35b0 := eq_true c35
  have c35b1 : decide (0 ≤ t138) = true := decide_eq_true c35
  clear c35
  by_cases c36 : t138 ≤ (t139.size : Int)
  rotate_left
  · rw [if_neg c36] at H
    exact absurd H (by simp)
  rw [if_pos c36] at H
  have c36b0 := eq_true c36
  have c36b1 : decide (t138 ≤ (t139.size : Int)) = true := decide_eq_true c36
  clear c36
  have c37b0 := eq_true (of_decide_eq_true (by first | (with_reducible assumption) | assumption) : 0 ≤ t138)
  have c38b0 := eq_true (of_decide_eq_true (by first | (with_reducible assumption) | assumption) : t138 ≤ (t139.size : Int))
  simp only [Option.some.injEq, Prod.mk.injEq] at H
  obtain ⟨rfl, rfl, rfl⟩ := H
  go_enter Try.func36, Try.ntmps36
  try go_wp2_with (first | ((with_reducible refine gate_dst (N := 2) rfl ?_); refine box_event ?hg (N := 2) ?hd (cs := #[.string a0_0, .bool a0_1]) (t := 81) ?hr ?_; (case hd => rfl); (case hg => rfl); (case hr => first | (go_simp; done) | (go_simp; rfl)); intro gb136 hg w39 hbox hb; have BK136 := Aside0.mk (hbox); have GW136 := Kw_ HB hg; have GE136 := GW136; replace HB := Ks_ HB hb; clear hb hbox hg) | ((with_reducible refine gate_dst (N := 5) rfl ?_); refine box_event ?hg (N := 5) ?hd (cs := #[.string (⟨#[]⟩ : ByteArray), .bool false]) (t := 81) ?hr ?_; (case hd => rfl); (case hg => rfl); (case hr => first | (go_simp; done) | (go_simp; rfl)); intro gb137 hg w40 hbox hb; have BK137 := Aside0.mk (hbox); have GW137 := Kw_ HB hg; have GE137 := GW137; have NB136_137 := Kl_ BK136 hg; have NB137_136 := Kr_ BK136 hg; replace BK136 := Kb_ BK136 hb; replace HB := Ks_ HB hb; clear hb hbox hg; have hnb41 := NB136_137.out; have hnc41 := NB137_136.out; obtain ⟨hcz42_0, hcz42_1, hfz42_0, hfz42_1⟩ := Ke2_ BK136.out) | ((with_reducible refine gate_callee (f := 51) rfl ?_); refine goesL_ (some 9) rfl rfl Try.func51 (by kernel_rfl) rfl #[.agg #[.string a0_0, .bool a0_1]] rfl (by (try simp only [List.map_toArray, List.map_cons, List.map_nil]); first | done | rfl | (simp only [List.length_drop, List.length_take]; rfl)) ?_; (with_reducible refine (pack_Reader_Vary.calls k a0_0 a0_1 t138 t139 false _ A3.out).mono ?_); rintro e w43 ⟨rfl, hb⟩; refine ⟨_, rfl, ?_⟩; replace BK136 := Kb_ BK136 hb; replace BK137 := Kb_ BK137 hb; replace HB := Ks_ HB hb; (try clear hb); (try clear hb2); (try clear hk); (try clear hi); obtain ⟨hcz44_0, hcz44_1, hfz44_0, hfz44_1⟩ := Ke2_ BK136.out))
  have n0_ : Aside0 (((w43.setCell ⟨gb136, 0, none⟩ (.string t139)).setCell ⟨gb136, 1, none⟩ (.bool false)).heap[gb136]? = some (.cells #[.string t139, .bool false] 81 (0, 0))) := ⟨by (with_reducible repeat (first | refine blk_drewN ?_ _ | refine blk_drew ?_ | refine blk_alloc ?_ _)); refine blk_put (cs := #[.string t139, .bool a0_1]) ?_ 1 _ rfl; (with_reducible repeat (first | refine blk_drewN ?_ _ | refine blk_drew ?_ | refine blk_alloc ?_ _)); refine blk_put (cs := #[.string a0_0, .bool a0_1]) ?_ 0 _ rfl; (with_reducible repeat (first | refine blk_drewN ?_ _ | refine blk_drew ?_ | refine blk_alloc ?_ _)); exact BK136.out⟩
  have n1_ : Aside0 (((w43.setCell ⟨gb136, 0, none⟩ (.string t139)).setCell ⟨gb136, 1, none⟩ (.bool false)).heap[gb137]? = some (.cells #[.string (⟨#[]⟩ : ByteArray), .bool false] 81 (0, 0))) := ⟨by (repeat (first | (with_reducible first | refine blk_drewN ?_ _ | refine blk_drew ?_ | refine blk_alloc ?_ _) | refine blk_far ?_ NB137_136.out _)); exact BK137.out⟩
  have n2_ : Aside0 (Below w.heap.size w ((w43.setCell ⟨gb136, 0, none⟩ (.string t139)).setCell ⟨gb136, 1, none⟩ (.bool false))) := ⟨by repeat (first | (with_reducible first | exact HB.out | apply below_alloc | apply pw_below_drewN | apply below_drew1 | refine below_set ?_ GE136.out | refine below_set ?_ GE137.out) | exact HB.out)⟩
  (try clear BK136)
  (try clear BK137)
  (try clear HB)
  generalize ((w43.setCell ⟨gb136, 0, none⟩ (.string t139)).setCell ⟨gb136, 1, none⟩ (.bool false)) = w45 at n0_ n1_ n2_ ⊢
  have BK136 := n0_
  have BK137 := n1_
  have HB := n2_
  clear n0_ n1_ n2_
  replace BK136 := Kd_ BK136
  replace BK137 := Kd_ BK137
  replace HB := Aside0.mk (below_drew1 HB.out)
  refine start_ (n := 11) (S := fun w' => w'.cell? ⟨gb136, 0, none⟩ = some (.string t139) ∧ w'.cell? ⟨gb136, 1, none⟩ = some (.bool false)) (ds := []) #[false, false, false, false, false, false, false, false, false, false, false] (by kernel_rfl) rfl rfl (Kc2_ BK136.out) (fun hHeld => ?_); refine with_tabW pack_Reader_Text.tab4 pack_Reader_Text.bits4 (fun HT_ HW_ => ?_)
  generalize w45.drew = w46 at BK136 BK137 HB hHeld ⊢
  refine pure_ (i := 0) (N := some 29) (v := ?_) (a' := ?_) #[true, false, false, false, false, false, false, false, false, false, false] rfl rfl (any_of HT_.out (by kernel_rfl)) (fun _ _ _ h => h) (Or.inl ⟨by rfl, ?_⟩) ?_ ?_
  rotate_left
  · intro w'
    go_simp
    with_reducible rfl
  rotate_left
  · simp only [Act.put, List.setIfInBounds_toArray, List.set_cons_zero, List.set_cons_succ, i64_w, i32_w]
    rfl
  refine pure_ (i := 2) (N := some 31) (v := ?_) (a' := ?_) #[true, false, true, false, false, false, false, false, false, false, false] rfl rfl (any_of HT_.out (by kernel_rfl)) (fun _ _ _ h => h) (Or.inl ⟨by rfl, ?_⟩) ?_ ?_
  rotate_left
  · intro w'
    go_simp
    with_reducible rfl
  rotate_left
  · simp only [Act.put, List.setIfInBounds_toArray, List.set_cons_zero, List.set_cons_succ, i64_w, i32_w]
    rfl
  refine pure_ (i := 4) (N := some 33) (v := ?_) (a' := ?_) #[true, false, true, false, true, false, false, false, false, false, false] rfl rfl (any_of HT_.out (by kernel_rfl)) (fun _ _ _ h => h) (Or.inl ⟨by rfl, ?_⟩) ?_ ?_
  rotate_left
  · intro w'
    go_simp
    with_reducible rfl
  rotate_left
  · simp only [Act.put, List.setIfInBounds_toArray, List.set_cons_zero, List.set_cons_succ, i64_w, i32_w]
    rfl
  refine pure_ (i := 6) (N := some 35) (v := ?_) (a' := ?_) #[true, false, true, false, true, false, true, false, false, false, false] rfl rfl (any_of HT_.out (by kernel_rfl)) (fun _ _ _ h => h) (Or.inl ⟨by rfl, ?_⟩) ?_ ?_
  rotate_left
  · intro w'
    go_simp
    with_reducible rfl
  rotate_left
  · simp only [Act.put, List.setIfInBounds_toArray, List.set_cons_zero, List.set_cons_succ, i64_w, i32_w]
    rfl
  refine take_ (i := 1) (N := some 30) (v := ?_) (a' := ?_) #[true, true, true, false, true, false, true, false, false, false, false] rfl rfl (take_ofW HT_.out HW_.out (by kernel_rfl)) (fun _ _ _ h => h) (Or.inl ⟨by rfl, ?_⟩) hHeld ?_ ?_
  rotate_left
  · rintro w' ⟨s0, s1⟩
    go_simp
    with_reducible rfl
  rotate_left
  · simp only [Act.put, List.setIfInBounds_toArray, List.set_cons_zero, List.set_cons_succ, i64_w, i32_w]
    rfl
  refine pure_ (i := 3) (N := some 32) (v := ?_) (a' := ?_) #[true, true, true, true, true, false, true, false, false, false, false] rfl rfl (any_of HT_.out (by kernel_rfl)) (fun _ _ _ h => h) (Or.inl ⟨by rfl, ?_⟩) ?_ ?_
  rotate_left
  · intro w'
    go_simp
    with_reducible rfl
  rotate_left
  · simp only [Act.put, List.setIfInBounds_toArray, List.set_cons_zero, List.set_cons_succ, i64_w, i32_w]
    rfl
  refine pure_ (i := 9) (N := some 4) (v := ?_) (a' := ?_) #[true, true, true, true, true, false, true, false, false, true, false] rfl rfl (any_of HT_.out (by kernel_rfl)) (fun _ _ _ h => h) (Or.inl ⟨by rfl, ?_⟩) ?_ ?_
  rotate_left
  · intro w'
    go_simp
    with_reducible rfl
  rotate_left
  · simp only [Act.put, List.setIfInBounds_toArray, List.set_cons_zero, List.set_cons_succ, i64_w, i32_w]
    rfl
  refine take_ (i := 5) (N := some 34) (v := ?_) (a' := ?_) #[true, true, true, true, true, true, true, false, false, true, false] rfl rfl (take_ofW HT_.out HW_.out (by kernel_rfl)) (fun _ _ _ h => h) (Or.inl ⟨by rfl, ?_⟩) hHeld ?_ ?_
  rotate_left
  · rintro w' ⟨s0, s1⟩
    go_simp
    with_reducible rfl
  rotate_left
  · simp only [Act.put, List.setIfInBounds_toArray, List.set_cons_zero, List.set_cons_succ, i64_w, i32_w]
    rfl
  refine pure_ (i := 7) (N := some 36) (v := ?_) (a' := ?_) #[true, true, true, true, true, true, true, true, false, true, false] rfl rfl (any_of HT_.out (by kernel_rfl)) (fun _ _ _ h => h) (Or.inl ⟨by rfl, ?_⟩) ?_ ?_
  rotate_left
  · intro w'
    go_simp
    with_reducible rfl
  rotate_left
  · simp only [Act.put, List.setIfInBounds_toArray, List.set_cons_zero, List.set_cons_succ, i64_w, i32_w]
    rfl
  refine pure_ (i := 8) (N := some 37) (v := ?_) (a' := ?_) #[true, true, true, true, true, true, true, true, true, true, false] rfl rfl (any_of HT_.out (by kernel_rfl)) (fun _ _ _ h => h) (Or.inl ⟨by rfl, ?_⟩) ?_ ?_
  rotate_left
  · intro w'
    go_simp
    with_reducible rfl
  rotate_left
  · simp only [Act.put, List.setIfInBounds_toArray, List.set_cons_zero, List.set_cons_succ, i64_w, i32_w]
    rfl
  refine one_ (i := 10) (N := none) #[true, true, true, true, true, true, true, true, true, true, true] rfl rfl (one_of HT_.out (by kernel_rfl)) (by decide) (fun K hK => ?_)
  have hs47 : w46.cell? ⟨gb137, 0, none⟩ = some (.string (⟨#[]⟩ : ByteArray)) := (blk_cell BK137.out 0).trans rfl
  have hfs47 := blk_frozen BK137.out 0
  have hns47_0 := NB136_137.out
  have hms47_0 := NB137_136.out
  have hs48 : w46.cell? ⟨gb137, 1, none⟩ = some (.bool false) := (blk_cell BK137.out 1).trans rfl
  have hfs48 := blk_frozen BK137.out 1
  have hns48_0 := NB136_137.out
  have hms48_0 := NB137_136.out
  refine skip_ (w1 := ?_) (by rfl) rfl ?_ ?_
  rotate_left
  · go_simp
    rfl
  refine hK.out _ _ ⟨((cell_far (p := ⟨gb137, _, none⟩) NB136_137.out _).trans (((cell_far (p := ⟨gb137, _, none⟩) NB136_137.out _).trans (hHeld.1)))), ((cell_far (p := ⟨gb137, _, none⟩) NB136_137.out _).trans (((cell_far (p := ⟨gb137, _, none⟩) NB136_137.out _).trans (hHeld.2))))⟩ (fun hHeld => ?_)
  clear hK K
  refine done_ (done_of HT_.out (by kernel_rfl)) ?_
  try go_wp2
  refine bodyPost_ret (results_tc rfl _ _ gb137 81 #[.string (t139.extract (t138 : Int).toNat t139.size), .bool false] (0, 0) _ rfl (by (with_reducible repeat (first | refine blk_drewN ?_ _ | refine blk_drew ?_ | refine blk_alloc ?_ _)); refine blk_put (cs := #[.string (t139.extract (t138 : Int).toNat t139.size), .bool false]) ?_ 1 _ rfl; (with_reducible repeat (first | refine blk_drewN ?_ _ | refine blk_drew ?_ | refine blk_alloc ?_ _)); refine blk_put (cs := #[.string (⟨#[]⟩ : ByteArray), .bool false]) ?_ 0 _ rfl; (with_reducible repeat (first | refine blk_drewN ?_ _ | refine blk_drew ?_ | refine blk_alloc ?_ _)); exact BK137.out) Try.underlying81 rfl (by kernel_rfl)) rfl ?_
  exact ⟨by first | rfl | (simp [errW_none, errW_some] <;> rfl) | (simp only [← hji24]; first | rfl | (simp [errW_none, errW_some] <;> rfl)) | (simp [*, errW_none, errW_some] <;> rfl), by repeat (first | (with_reducible first | exact HB.out | apply below_alloc | apply pw_below_drewN | apply below_drew1 | refine below_set ?_ GE136.out | refine below_set ?_ GE137.out) | exact HB.out)⟩

end Go.Proofs.Ytplgbkobpanbfaa.Q

-- Written by this session's own driver (wip/hybrid.py) of the kit's printer; contracts marked FOREIGN are by hand.
namespace Go.Proofs.Ytplgbkobpanbfaa.Q
open Go.RowKit Go.Proofs.YtplgbkobpanbfaaW.PrintWords Go.Proofs.YtplgbkobpanbfaaW.PrintLast Go.Proofs.YtplgbkobpanbfaaW.PrintMore
attribute [local go_sem] max2_int min2_int max_two min_two max_three min_three max_four min_four   -- for this text's walks alone
set_option linter.unusedVariables false
set_option linter.unusedSimpArgs false

/-! ### pack_Reader_Number: function 37 -/
-- FOREIGN: ranges over []byte(s)
theorem pack_Reader_Number.bytesWorld_frozen (w : World) (e : TypeId) (s : ByteArray) (a : Addr) (ha : a.block < w.heap.size) : (Lib.bytesWorld w e s).frozen? a = w.frozen? a :=
  (bytes_below (Below.refl _ _) (Nat.le_refl _) e s).frozen ha
theorem pack_Reader_Number.bt_extract0 (s : ByteArray) (n k : Nat) (hk : k < n) (hs : n ≤ s.size) : bt (s.extract 0 n) k = bt s k := by
  unfold bt
  rw [dif_pos (by simp; omega), dif_pos (by simp; omega)]
  simp [ByteArray.getElem_extract]
def rnum (s : ByteArray) : Nat → Int
  | 0 => 0
  | k + 1 => Go.bits .or .u64 (IntKind.u64.wrap (rnum s k * 256)) (IntKind.u64.wrap (bt s k))
def pack_Reader_Number.f (a0_0 : ByteArray) (a0_1 : Bool) (a1 : Int) : Option (Int × ByteArray × Bool) :=
  if a0_0.size ≤ 9223372036854775807 then
    (if a0_1 = true then some (0, (⟨#[]⟩ : ByteArray), true) else if a1 < 1 then some (0, (⟨#[]⟩ : ByteArray), true) else if 8 < a1 then some (0, (⟨#[]⟩ : ByteArray), true)
      else if (a0_0.size : Int) < a1 then some (0, (⟨#[]⟩ : ByteArray), true) else some (rnum a0_0 a1.toNat, a0_0.extract a1.toNat a0_0.size, false))
  else none
theorem pack_Reader_Number.some_ (s : ByteArray) (n : Nat) (h1 : 1 ≤ n) (h8 : n ≤ 8) (hs : n ≤ s.size) (hm : s.size ≤ 9223372036854775807) (w : World) :
    Calls Try.prog 37 #[.agg #[.string s, .bool false], .int .i64 n] w fun e w' => e = .returned (.tuple #[.int .u64 (rnum s n), .agg #[.string (s.extract n s.size), .bool false]]) ∧ Below w.heap.size w w' := by
  have hcv := fun W t => Lib.run_convert_string_bytes (P := Try.prog) W 9 66 5 t Try.underlying9 Try.underlying66 Try.underlying5
  have b1 : decide ((n : Int) < 1) = false := by simp; omega
  have b2 : decide ((8 : Int) < (n : Int)) = false := by simp; omega
  have b3 : decide (s.size < n) = false := by simp; omega
  go_enter Try.func37, Try.ntmps37
  go_wp2
  obtain ⟨W, hW⟩ : ∃ W, W = Lib.bytesWorld ((w.alloc (Obj.cells #[Value.string s, Value.bool false] 81)).alloc (Obj.cells #[Value.string { data := #[] }, Value.bool false] 81)) 5 (s.extract 0 n) := ⟨_, rfl⟩
  have hbel : Below w.heap.size w W := by
    rw [hW]
    exact bytes_below (((Below.refl _ _).alloc (Nat.le_refl _) _).alloc (by simp) _) (by simp; omega) _ _
  have hsz : W.heap.size = w.heap.size + 3 := by rw [hW, Lib.bytesWorld_size]; simp
  have hc0 : W.cell? ⟨w.heap.size, 0, none⟩ = some (.string s) := by
    rw [hW, Lib.bytesWorld_old _ _ _ _ (by simp; omega)]; simp [go_sem]
  have hc2 : W.cell? ⟨w.heap.size + 1, 0, none⟩ = some (.string ⟨#[]⟩) := by
    rw [hW, Lib.bytesWorld_old _ _ _ _ (by simp)]; simp [go_sem]
  have hc3 : W.cell? ⟨w.heap.size + 1, 1, none⟩ = some (.bool false) := by
    rw [hW, Lib.bytesWorld_old _ _ _ _ (by simp)]; simp [go_sem]
  have hf2 : W.frozen? ⟨w.heap.size + 1, 0, none⟩ = false := by
    rw [hW, pack_Reader_Number.bytesWorld_frozen _ _ _ _ (by simp)]; simp [go_sem]
  have hf3 : W.frozen? ⟨w.heap.size + 1, 1, none⟩ = false := by
    rw [hW, pack_Reader_Number.bytesWorld_frozen _ _ _ _ (by simp)]; simp [go_sem]
  have hel : ∀ k : Nat, k < n → W.cell? ⟨w.heap.size + 1 + 1, k, none⟩ = some (.int .u8 (bt s k)) := by
    intro k hk
    obtain ⟨_, _, hr⟩ := bytes_reads ((w.alloc (Obj.cells #[Value.string s, Value.bool false] 81)).alloc (Obj.cells #[Value.string { data := #[] }, Value.bool false] 81)) 5 (s.extract 0 n) (by simp; omega)
    rw [← hW] at hr
    obtain ⟨ad, had, hr⟩ := hr (by simp; omega)
    have hr := hr k (by simp; omega)
    simp at had
    subst had
    rw [add_plain] at hr
    rw [hr]
    have e1 : (bytesOf (s.extract 0 n)).getD k 0 = bt (s.extract 0 n) k := rd_bytesOf (s.extract 0 n) k
    rw [e1, pack_Reader_Number.bt_extract0 _ _ _ hk hs]
  rw [← hW]
  clear hW hcv
  go_loop [32, 4] (fun i v => ∃ k : Nat, k ≤ n ∧ i = .int .i64 k ∧ v = .int .u64 (rnum s k)) (fun i _ => n - (intOf i).toNat)
  case atStart => exact ⟨0, Nat.zero_le _, rfl, rfl⟩
  case round =>
    obtain ⟨k, hk, rfl, rfl⟩ := hrel
    by_cases hlt : k < n
    · have hcell := hel k hlt
      clear hel
      go_wp2
      go_round
      case rel => exact ⟨k + 1, by omega, by go_num, rfl⟩
      case measure => simp [intOf]; omega
    · obtain rfl : k = n := by omega
      clear hel
      go_wp2
      go_region
      all_goals go_wp2
      refine bodyPost_ret (v := .tuple #[.int .u64 (rnum s k), .agg #[.string (s.extract k s.size), .bool false]]) (by simp [results, Try.results37, go_sem, hc2, hc3, hf2, hf3]) rfl ⟨rfl, ?_⟩
      exact ((hbel.setCell (by simp) _).setCell (by simp) _).drew
theorem pack_Reader_Number.bad_ (s : ByteArray) (b : Bool) (a1 : Int) (h : b = true ∨ b = false ∧ (a1 < 1 ∨ 8 < a1 ∨ (s.size : Int) < a1)) (w : World) :
    Calls Try.prog 37 #[.agg #[.string s, .bool b], .int .i64 a1] w fun e w' => e = .returned (.tuple #[.int .u64 0, .agg #[.string ⟨#[]⟩, .bool true]]) ∧ Below w.heap.size w w' := by
  rcases h with rfl | ⟨rfl, h⟩
  · go_enter Try.func37, Try.ntmps37
    go_wp2
    refine bodyPost_ret (v := .agg #[.string ⟨#[]⟩, .bool true]) (by simp [results, Try.results52, go_sem]) rfl ?_
    go_wp2
    refine bodyPost_ret (v := .tuple #[.int .u64 0, .agg #[.string ⟨#[]⟩, .bool true]]) (by simp [results, Try.results37, go_sem]) rfl ⟨rfl, ?_⟩
    repeat (first | exact Below.refl _ _ | apply below_alloc | apply below_drew | refine Below.setCell ?_ (by simp) _)
  · rcases h with h | h | h
    · have b1 : decide (a1 < 1) = true := decide_eq_true h
      go_enter Try.func37, Try.ntmps37
      go_wp2
      refine bodyPost_ret (v := .agg #[.string ⟨#[]⟩, .bool true]) (by simp [results, Try.results52, go_sem]) rfl ?_
      go_wp2
      refine bodyPost_ret (v := .tuple #[.int .u64 0, .agg #[.string ⟨#[]⟩, .bool true]]) (by simp [results, Try.results37, go_sem]) rfl ⟨rfl, ?_⟩
      repeat (first | exact Below.refl _ _ | apply below_alloc | apply below_drew | refine Below.setCell ?_ (by simp) _)
    · have b1 : decide (8 < a1) = true := decide_eq_true h
      have b2 : decide (a1 < 1) = false := decide_eq_false (by omega)
      go_enter Try.func37, Try.ntmps37
      go_wp2
      refine bodyPost_ret (v := .agg #[.string ⟨#[]⟩, .bool true]) (by simp [results, Try.results52, go_sem]) rfl ?_
      go_wp2
      refine bodyPost_ret (v := .tuple #[.int .u64 0, .agg #[.string ⟨#[]⟩, .bool true]]) (by simp [results, Try.results37, go_sem]) rfl ⟨rfl, ?_⟩
      repeat (first | exact Below.refl _ _ | apply below_alloc | apply below_drew | refine Below.setCell ?_ (by simp) _)
    · by_cases h1 : a1 < 1
      · have b1 : decide (a1 < 1) = true := decide_eq_true h1
        clear h
        go_enter Try.func37, Try.ntmps37
        go_wp2
        refine bodyPost_ret (v := .agg #[.string ⟨#[]⟩, .bool true]) (by simp [results, Try.results52, go_sem]) rfl ?_
        go_wp2
        refine bodyPost_ret (v := .tuple #[.int .u64 0, .agg #[.string ⟨#[]⟩, .bool true]]) (by simp [results, Try.results37, go_sem]) rfl ⟨rfl, ?_⟩
        repeat (first | exact Below.refl _ _ | apply below_alloc | apply below_drew | refine Below.setCell ?_ (by simp) _)
      · by_cases h8 : 8 < a1
        · have b1 : decide (8 < a1) = true := decide_eq_true h8
          clear h
          have b2 : decide (a1 < 1) = false := decide_eq_false (by omega)
          go_enter Try.func37, Try.ntmps37
          go_wp2
          refine bodyPost_ret (v := .agg #[.string ⟨#[]⟩, .bool true]) (by simp [results, Try.results52, go_sem]) rfl ?_
          go_wp2
          refine bodyPost_ret (v := .tuple #[.int .u64 0, .agg #[.string ⟨#[]⟩, .bool true]]) (by simp [results, Try.results37, go_sem]) rfl ⟨rfl, ?_⟩
          repeat (first | exact Below.refl _ _ | apply below_alloc | apply below_drew | refine Below.setCell ?_ (by simp) _)
        · have b1 : decide (8 < a1) = false := decide_eq_false (by omega)
          have b2 : decide (a1 < 1) = false := decide_eq_false (by omega)
          have b3 : decide ((s.size : Int) < a1) = true := decide_eq_true h
          go_enter Try.func37, Try.ntmps37
          go_wp2
          refine bodyPost_ret (v := .agg #[.string ⟨#[]⟩, .bool true]) (by simp [results, Try.results52, go_sem]) rfl ?_
          go_wp2
          refine bodyPost_ret (v := .tuple #[.int .u64 0, .agg #[.string ⟨#[]⟩, .bool true]]) (by simp [results, Try.results37, go_sem]) rfl ⟨rfl, ?_⟩
          repeat (first | exact Below.refl _ _ | apply below_alloc | apply below_drew | refine Below.setCell ?_ (by simp) _)
theorem pack_Reader_Number.calls (a0_0 : ByteArray) (a0_1 : Bool) (a1 : Int) (r1 : Int) (r2 : ByteArray) (r3 : Bool) (w : World) (h : pack_Reader_Number.f a0_0 a0_1 a1 = some (r1, r2, r3)) :
    Calls Try.prog 37 #[.agg #[.string a0_0, .bool a0_1], .int .i64 a1] w fun e w' => e = .returned (.tuple #[.int .u64 r1, .agg #[.string r2, .bool r3]]) ∧ Below w.heap.size w w' := by
  unfold pack_Reader_Number.f at h
  by_cases hm : a0_0.size ≤ 9223372036854775807
  · rw [if_pos hm] at h
    by_cases c0 : a0_1 = true
    · rw [if_pos c0] at h
      simp only [Option.some.injEq, Prod.mk.injEq] at h
      obtain ⟨rfl, rfl, rfl⟩ := h
      exact pack_Reader_Number.bad_ _ _ _ (.inl c0) w
    · rw [if_neg c0] at h
      have c0' : a0_1 = false := by simpa using c0
      by_cases c1 : a1 < 1
      · rw [if_pos c1] at h
        simp only [Option.some.injEq, Prod.mk.injEq] at h
        obtain ⟨rfl, rfl, rfl⟩ := h
        exact pack_Reader_Number.bad_ _ _ _ (.inr ⟨c0', .inl c1⟩) w
      · rw [if_neg c1] at h
        by_cases c2 : 8 < a1
        · rw [if_pos c2] at h
          simp only [Option.some.injEq, Prod.mk.injEq] at h
          obtain ⟨rfl, rfl, rfl⟩ := h
          exact pack_Reader_Number.bad_ _ _ _ (.inr ⟨c0', .inr (.inl c2)⟩) w
        · rw [if_neg c2] at h
          by_cases c3 : (a0_0.size : Int) < a1
          · rw [if_pos c3] at h
            simp only [Option.some.injEq, Prod.mk.injEq] at h
            obtain ⟨rfl, rfl, rfl⟩ := h
            exact pack_Reader_Number.bad_ _ _ _ (.inr ⟨c0', .inr (.inr c3)⟩) w
          · rw [if_neg c3] at h
            simp only [Option.some.injEq, Prod.mk.injEq] at h
            obtain ⟨rfl, rfl, rfl⟩ := h
            obtain ⟨n, rfl⟩ := Int.eq_ofNat_of_zero_le (show 0 ≤ a1 by omega)
            subst c0'
            rw [Int.toNat_natCast]
            exact pack_Reader_Number.some_ a0_0 n (by omega) (by omega) (by omega) hm w
  · rw [if_neg hm] at h
    exact absurd h (by simp)


end Go.Proofs.Ytplgbkobpanbfaa.Q

-- Written by this session's own driver (wip/hybrid.py) of the kit's printer; contracts marked FOREIGN are by hand.
namespace Go.Proofs.Ytplgbkobpanbfaa.Q
open Go.RowKit Go.Proofs.YtplgbkobpanbfaaW.PrintWords Go.Proofs.YtplgbkobpanbfaaW.PrintLast Go.Proofs.YtplgbkobpanbfaaW.PrintMore
attribute [local go_sem] max2_int min2_int max_two min_two max_three min_three max_four min_four   -- for this text's walks alone
set_option linter.unusedVariables false
set_option linter.unusedSimpArgs false

/-! ### pack_Reader_Done: function 38 -/
def pack_Reader_Done.f (a0_0 : ByteArray) (a0_1 : Bool) : Option (Bool) := if a0_1 = true then (some false) else (some (a0_0.toList == ([] : List UInt8)))
set_option maxHeartbeats 8000000 in
set_option maxRecDepth 100000 in
theorem pack_Reader_Done.calls (a0_0 : ByteArray) (a0_1 : Bool) (r : Bool) (w : World) (h : pack_Reader_Done.f a0_0 a0_1 = some r) :
    Calls Try.prog 38 #[.agg #[.string a0_0, .bool a0_1]] w fun e w' => e = .returned (.bool r) ∧ Below w.heap.size w w' := by
  have hu81 := Try.underlying81
  have HB := Aside0.mk (Below.refl w.heap.size w)
  have H : (if a0_1 = true then (some false) else (some (a0_0.toList == ([] : List UInt8)))) = some r := h
  clear h
  by_cases c2 : a0_1 = true
  · subst c2
    have H1 : (some false) = some r := by rw [if_pos rfl] at H; exact H
    clear H
    have H := H1
    clear H1
    obtain rfl := Option.some.inj H
    go_enter Try.func38, Try.ntmps38
    go_wp2_with (first | ((with_reducible refine gate_dst (N := 1) rfl ?_); refine box_event ?hg (N := 1) ?hd (cs := #[.string a0_0, .bool true]) (t := 81) ?hr ?_; (case hd => rfl); (case hg => rfl); (case hr => first | (go_simp; done) | (go_simp; rfl)); intro gb147 hg w3 hbox hb; have BK147 := Aside0.mk (hbox); have GW147 := Kw_ HB hg; have GE147 := GW147; replace HB := Ks_ HB hb; clear hb hbox hg; obtain ⟨hcz4_0, hcz4_1, hfz4_0, hfz4_1⟩ := Ke2_ BK147.out))
    go_ret
    exact ⟨by first | rfl | (simp [errW_none, errW_some] <;> rfl) | (simp [*, errW_none, errW_some] <;> rfl), Kz_ HB GE147⟩
  replace c2 := Bool.eq_false_iff.mpr c2
  subst c2
  have H1 : (some (a0_0.toList == ([] : List UInt8))) = some r := by rw [if_neg (show ¬ (false = true) by decide)] at H; exact H
  clear H
  have H := H1
  clear H1
  obtain rfl := Option.some.inj H
  go_enter Try.func38, Try.ntmps38
  go_wp2_with (first | ((with_reducible refine gate_dst (N := 1) rfl ?_); refine box_event ?hg (N := 1) ?hd (cs := #[.string a0_0, .bool false]) (t := 81) ?hr ?_; (case hd => rfl); (case hg => rfl); (case hr => first | (go_simp; done) | (go_simp; rfl)); intro gb147 hg w5 hbox hb; have BK147 := Aside0.mk (hbox); have GW147 := Kw_ HB hg; have GE147 := GW147; replace HB := Ks_ HB hb; clear hb hbox hg; obtain ⟨hcz6_0, hcz6_1, hfz6_0, hfz6_1⟩ := Ke2_ BK147.out))
  go_ret
  exact ⟨by first | rfl | (simp [errW_none, errW_some] <;> rfl) | (simp [*, errW_none, errW_some] <;> rfl), Kz_ HB GE147⟩

end Go.Proofs.Ytplgbkobpanbfaa.Q

-- Written by this session's own driver (wip/hybrid.py) of the kit's printer; contracts marked FOREIGN are by hand.
namespace Go.Proofs.Ytplgbkobpanbfaa.Q
open Go.RowKit Go.Proofs.YtplgbkobpanbfaaW.PrintWords Go.Proofs.YtplgbkobpanbfaaW.PrintLast Go.Proofs.YtplgbkobpanbfaaW.PrintMore
attribute [local go_sem] max2_int min2_int max_two min_two max_three min_three max_four min_four   -- for this text's walks alone
set_option linter.unusedVariables false
set_option linter.unusedSimpArgs false

/-! ### gate_Get: function 21 -/
-- FOREIGN: rows of pointers to a record's fields
def gate_Get.f (k : Nat) (a0 : ByteArray) : Option (ByteArray × Int × Int × Int × Int × ByteArray × ByteArray × ByteArray × Int) :=
  (pack_Reader_Text.f k a0 false 128).bind fun t0 => (pack_Reader_Number.f t0.2.1 t0.2.2 1).bind fun t1 => (pack_Reader_Number.f t1.2.1 t1.2.2 1).bind fun t2 => (pack_Reader_Number.f t2.2.1 t2.2.2 1).bind fun t3 => (pack_Reader_Number.f t3.2.1 t3.2.2 1).bind fun t4 =>
  (pack_Reader_Text.f k t4.2.1 t4.2.2 64).bind fun t5 => (pack_Reader_Text.f k t5.2.1 t5.2.2 64).bind fun t6 => (pack_Reader_Text.f k t6.2.1 t6.2.2 64).bind fun t7 => (pack_Reader_Done.f t7.2.1 t7.2.2).bind fun d =>
    if d = true then some (t0.1, wrap64 t1.1, wrap64 t2.1, wrap64 t3.1, wrap64 t4.1, t5.1, t6.1, t7.1, 0) else some ((⟨#[]⟩ : ByteArray), 0, 0, 0, 0, (⟨#[]⟩ : ByteArray), (⟨#[]⟩ : ByteArray), (⟨#[]⟩ : ByteArray), 2)
theorem gate_Get.mono : ∀ a0 k, LeO (gate_Get.f k a0) (gate_Get.f (k + 1) a0) := by
  intro a0 k
  unfold gate_Get.f
  repeat' first
      | exact pack_Reader_Text.mono _ _ _ _
      | exact LeO.refl _
      | exact LeO.none _
      | refine LeO.ite ?_ ?_
      | refine LeO.bind ?_ (fun _ => ?_)
theorem gate_Get.boxes2 (w : World) (xs ys : Array Value) (t1 t2 : TypeId) (W : World) (h : (w.alloc (.cells xs t1)).alloc (.cells ys t2) = W) :
    W.heap[w.heap.size]? = some (.cells xs t1 (0,0)) ∧ W.heap[w.heap.size+1]? = some (.cells ys t2 (0,0)) ∧ Below w.heap.size w W := by
  subst h
  have s1 : (w.alloc (.cells xs t1)).heap.size = w.heap.size + 1 := by simp [World.alloc, -World.alloc_eq]
  refine ⟨blk_alloc (blk_new _ _) _, ?_, below_alloc (below_alloc (Below.refl _ _) _) _⟩
  rw [← s1]; exact blk_new _ _
set_option maxHeartbeats 16000000 in
set_option maxRecDepth 100000 in
theorem gate_Get.calls (k : Nat) (a0 : ByteArray) (r1 : ByteArray) (r2 r3 r4 r5 : Int) (r6 r7 r8 : ByteArray) (r9 : Int) (w : World) (h : gate_Get.f k a0 = some (r1, r2, r3, r4, r5, r6, r7, r8, r9)) :
    Calls Try.prog 21 #[.string a0] w fun e w' => e = .returned (.tuple #[.agg #[.string r1, .int .i64 r2, .int .i64 r3, .int .i64 r4, .int .i64 r5, .string r6, .string r7, .string r8], .int .i64 r9]) ∧ Below w.heap.size w w' := by
  unfold gate_Get.f at h
  obtain ⟨⟨v0, s0, b0⟩, A0, h⟩ := Option.bind_eq_some_iff.1 h
  obtain ⟨⟨v1, s1, b1⟩, A1, h⟩ := Option.bind_eq_some_iff.1 h
  obtain ⟨⟨v2, s2, b2⟩, A2, h⟩ := Option.bind_eq_some_iff.1 h
  obtain ⟨⟨v3, s3, b3⟩, A3, h⟩ := Option.bind_eq_some_iff.1 h
  obtain ⟨⟨v4, s4, b4⟩, A4, h⟩ := Option.bind_eq_some_iff.1 h
  obtain ⟨⟨v5, s5, b5⟩, A5, h⟩ := Option.bind_eq_some_iff.1 h
  obtain ⟨⟨v6, s6, b6⟩, A6, h⟩ := Option.bind_eq_some_iff.1 h
  obtain ⟨⟨v7, s7, b7⟩, A7, h⟩ := Option.bind_eq_some_iff.1 h
  obtain ⟨d, A8, h⟩ := Option.bind_eq_some_iff.1 h
  replace A0 := Aside0.mk A0
  replace A1 := Aside0.mk A1
  replace A2 := Aside0.mk A2
  replace A3 := Aside0.mk A3
  replace A4 := Aside0.mk A4
  replace A5 := Aside0.mk A5
  replace A6 := Aside0.mk A6
  replace A7 := Aside0.mk A7
  replace A8 := Aside0.mk A8
  simp only at h
  have HH := Aside0.mk h
  clear h
  have hu := Try.underlying23
  have hu3 := Try.underlying81
  go_enter Try.func21, Try.ntmps21
  obtain ⟨hQ0, hR0, HB0⟩ := gate_Get.boxes2 w #[.string (⟨#[]⟩ : ByteArray), .int .i64 0, .int .i64 0, .int .i64 0, .int .i64 0, .string (⟨#[]⟩ : ByteArray), .string (⟨#[]⟩ : ByteArray), .string (⟨#[]⟩ : ByteArray)] #[.string (⟨#[]⟩ : ByteArray), .bool false] 23 81 _ rfl
  have HQ0 := Aside0.mk hQ0
  have HR0 := Aside0.mk hR0
  have HBB0 := Aside0.mk HB0
  clear hQ0 hR0 HB0
  go_wp2_with (go_at_call 36; refine (pack_Reader_Text.calls k a0 false 128 v0 s0 b0 _ A0.out).mono ?_; rintro e w1 ⟨rfl, hb⟩; have hQ := Aside0.mk (blk_below HQ0.out hb); have hR := Aside0.mk (blk_below HR0.out hb); have HB := Aside0.mk (below_step HBB0.out hb); clear hb; have fQ0 := blk_frozen hQ.out 0; have cQ0 := (blk_cell hQ.out 0).trans rfl; have fQ1 := blk_frozen hQ.out 1; have cQ1 := (blk_cell hQ.out 1).trans rfl; have fQ2 := blk_frozen hQ.out 2; have cQ2 := (blk_cell hQ.out 2).trans rfl; have fQ3 := blk_frozen hQ.out 3; have cQ3 := (blk_cell hQ.out 3).trans rfl; have fQ4 := blk_frozen hQ.out 4; have cQ4 := (blk_cell hQ.out 4).trans rfl; have fQ5 := blk_frozen hQ.out 5; have cQ5 := (blk_cell hQ.out 5).trans rfl; have fQ6 := blk_frozen hQ.out 6; have cQ6 := (blk_cell hQ.out 6).trans rfl; have fQ7 := blk_frozen hQ.out 7; have cQ7 := (blk_cell hQ.out 7).trans rfl; have fR0 := blk_frozen hR.out 0; have cR0 := (blk_cell hR.out 0).trans rfl; have fR1 := blk_frozen hR.out 1; have cR1 := (blk_cell hR.out 1).trans rfl)
  obtain ⟨B0, hB0⟩ : ∃ B0, B0 = w.heap.size := ⟨_, rfl⟩
  obtain ⟨B1, hB1⟩ : ∃ B1, B1 = w.heap.size + 1 := ⟨_, rfl⟩
  clear fQ0 cQ0 fQ1 cQ1 fQ2 cQ2 fQ3 cQ3 fQ4 cQ4 fQ5 cQ5 fQ6 cQ6 fQ7 cQ7 fR0 cR0 fR1 cR1
  clear HQ0 HR0 HBB0
  replace hQ := hQ.out
  replace hR := hR.out
  rw [← hB1, ← hB0]
  rw [← hB0] at hQ
  rw [← hB1] at hR
  replace hQ := Aside0.mk hQ
  replace hR := Aside0.mk hR
  have gQR : B0 ≠ B1 := by omega
  have GQ := Aside0.mk (show w.heap.size ≤ B0 by omega)
  have GR := Aside0.mk (show w.heap.size ≤ B1 by omega)
  clear hB0 hB1
  have hlQ := blk_lt hQ.out
  have hlR := blk_lt hR.out
  have hQ1 := Aside0.mk (blk_alloc (blk_far (blk_far (blk_put hQ.out 0 (.string v0) (cs' := #[.string v0, .int .i64 0, .int .i64 0, .int .i64 0, .int .i64 0, .string (⟨#[]⟩ : ByteArray), .string (⟨#[]⟩ : ByteArray), .string (⟨#[]⟩ : ByteArray)]) rfl) (p := ⟨B1, 0, none⟩) gQR (.string s0)) (p := ⟨B1, 1, none⟩) gQR (.bool b0)) (.cells #[.pointer (some ⟨B0, 1, none⟩), .pointer (some ⟨B0, 2, none⟩), .pointer (some ⟨B0, 3, none⟩), .pointer (some ⟨B0, 4, none⟩)] 84))
  have hR1 := Aside0.mk (blk_alloc (blk_put (blk_put (blk_far hR.out (p := ⟨B0, 0, none⟩) (Ne.symm gQR) (.string v0)) 0 (.string s0) (cs' := #[.string s0, .bool false]) rfl) 1 (.bool b0) (cs' := #[.string s0, .bool b0]) rfl) (.cells #[.pointer (some ⟨B0, 1, none⟩), .pointer (some ⟨B0, 2, none⟩), .pointer (some ⟨B0, 3, none⟩), .pointer (some ⟨B0, 4, none⟩)] 84))
  have HB1 := Aside0.mk (below_alloc (below_set (j := 1) (v := .bool b0) (below_set (j := 0) (v := .string s0) (below_set (j := 0) (v := .string v0) HB.out GQ.out) GR.out) GR.out) (.cells #[.pointer (some ⟨B0, 1, none⟩), .pointer (some ⟨B0, 2, none⟩), .pointer (some ⟨B0, 3, none⟩), .pointer (some ⟨B0, 4, none⟩)] 84))
  have hz_ : (((w1.setCell ⟨B0, 0, none⟩ (.string v0)).setCell ⟨B1, 0, none⟩ (.string s0)).setCell ⟨B1, 1, none⟩ (.bool b0)).heap.size = w1.heap.size := by simp
  have hP1 := blk_new (((w1.setCell ⟨B0, 0, none⟩ (.string v0)).setCell ⟨B1, 0, none⟩ (.string s0)).setCell ⟨B1, 1, none⟩ (.bool b0)) (.cells #[.pointer (some ⟨B0, 1, none⟩), .pointer (some ⟨B0, 2, none⟩), .pointer (some ⟨B0, 3, none⟩), .pointer (some ⟨B0, 4, none⟩)] 84)
  rw [hz_] at hP1
  clear hz_
  have gz_ := HB.out.size
  obtain ⟨B2, hB_⟩ : ∃ B, B = w1.heap.size := ⟨_, rfl⟩
  rw [← hB_] at hP1
  rw [← hB_]
  have hP1 := Aside0.mk hP1
  have gQP : B0 ≠ B2 := by omega
  have gRP : B1 ≠ B2 := by omega
  have GP := Aside0.mk (show w.heap.size ≤ B2 by omega)
  clear hB_ gz_ hlQ hlR
  clear HB hQ hR
  generalize hW_ : (((w1.setCell ⟨B0, 0, none⟩ (.string v0)).setCell ⟨B1, 0, none⟩ (.string s0)).setCell ⟨B1, 1, none⟩ (.bool b0)).alloc (.cells #[.pointer (some ⟨B0, 1, none⟩), .pointer (some ⟨B0, 2, none⟩), .pointer (some ⟨B0, 3, none⟩), .pointer (some ⟨B0, 4, none⟩)] 84) = W0 at *
  clear hW_
  have hQ := hQ1
  have hR := hR1
  have hP := hP1
  have HB := HB1
  clear HB1 hQ1 hR1 hP1
  refine wp_loop_rounds 5 ?_
  rw [rounds_succ]
  have fQ0 := blk_frozen hQ.out 0
  have cQ0 := (blk_cell hQ.out 0).trans rfl
  have fQ1 := blk_frozen hQ.out 1
  have cQ1 := (blk_cell hQ.out 1).trans rfl
  have fQ2 := blk_frozen hQ.out 2
  have cQ2 := (blk_cell hQ.out 2).trans rfl
  have fQ3 := blk_frozen hQ.out 3
  have cQ3 := (blk_cell hQ.out 3).trans rfl
  have fQ4 := blk_frozen hQ.out 4
  have cQ4 := (blk_cell hQ.out 4).trans rfl
  have fQ5 := blk_frozen hQ.out 5
  have cQ5 := (blk_cell hQ.out 5).trans rfl
  have fQ6 := blk_frozen hQ.out 6
  have cQ6 := (blk_cell hQ.out 6).trans rfl
  have fQ7 := blk_frozen hQ.out 7
  have cQ7 := (blk_cell hQ.out 7).trans rfl
  have fR0 := blk_frozen hR.out 0
  have cR0 := (blk_cell hR.out 0).trans rfl
  have fR1 := blk_frozen hR.out 1
  have cR1 := (blk_cell hR.out 1).trans rfl
  have fP0 := blk_frozen hP.out 0
  have cP0 := (blk_cell hP.out 0).trans rfl
  have fP1 := blk_frozen hP.out 1
  have cP1 := (blk_cell hP.out 1).trans rfl
  have fP2 := blk_frozen hP.out 2
  have cP2 := (blk_cell hP.out 2).trans rfl
  have fP3 := blk_frozen hP.out 3
  have cP3 := (blk_cell hP.out 3).trans rfl
  go_wp2_with (go_at_call 37; refine (pack_Reader_Number.calls s0 b0 1 v1 s1 b1 _ A1.out).mono ?_; rintro e w2 ⟨rfl, hb⟩; clear fQ0 cQ0 fQ1 cQ1 fQ2 cQ2 fQ3 cQ3 fQ4 cQ4 fQ5 cQ5 fQ6 cQ6 fQ7 cQ7 fR0 cR0 fR1 cR1 fP0 cP0 fP1 cP1 fP2 cP2 fP3 cP3; have hQ1 := Aside0.mk (blk_below hQ.out hb); have hR1 := Aside0.mk (blk_below hR.out hb); have hP1 := Aside0.mk (blk_below hP.out hb); have HB1 := Aside0.mk (below_step HB.out hb); clear hb; clear HB hQ hR hP; have hQ := hQ1; have hR := hR1; have hP := hP1; have HB := HB1; clear HB1 hQ1 hR1 hP1; have fQ0 := blk_frozen hQ.out 0; have cQ0 := (blk_cell hQ.out 0).trans rfl; have fQ1 := blk_frozen hQ.out 1; have cQ1 := (blk_cell hQ.out 1).trans rfl; have fQ2 := blk_frozen hQ.out 2; have cQ2 := (blk_cell hQ.out 2).trans rfl; have fQ3 := blk_frozen hQ.out 3; have cQ3 := (blk_cell hQ.out 3).trans rfl; have fQ4 := blk_frozen hQ.out 4; have cQ4 := (blk_cell hQ.out 4).trans rfl; have fQ5 := blk_frozen hQ.out 5; have cQ5 := (blk_cell hQ.out 5).trans rfl; have fQ6 := blk_frozen hQ.out 6; have cQ6 := (blk_cell hQ.out 6).trans rfl; have fQ7 := blk_frozen hQ.out 7; have cQ7 := (blk_cell hQ.out 7).trans rfl; have fR0 := blk_frozen hR.out 0; have cR0 := (blk_cell hR.out 0).trans rfl; have fR1 := blk_frozen hR.out 1; have cR1 := (blk_cell hR.out 1).trans rfl; have fP0 := blk_frozen hP.out 0; have cP0 := (blk_cell hP.out 0).trans rfl; have fP1 := blk_frozen hP.out 1; have cP1 := (blk_cell hP.out 1).trans rfl; have fP2 := blk_frozen hP.out 2; have cP2 := (blk_cell hP.out 2).trans rfl; have fP3 := blk_frozen hP.out 3; have cP3 := (blk_cell hP.out 3).trans rfl)
  clear fQ0 cQ0 fQ1 cQ1 fQ2 cQ2 fQ3 cQ3 fQ4 cQ4 fQ5 cQ5 fQ6 cQ6 fQ7 cQ7 fR0 cR0 fR1 cR1 fP0 cP0 fP1 cP1 fP2 cP2 fP3 cP3
  have hQ1 := Aside0.mk (blk_put (blk_far (blk_far hQ.out (p := ⟨B1, 0, none⟩) gQR (.string s1)) (p := ⟨B1, 1, none⟩) gQR (.bool b1)) 1 (.int .i64 (wrap64 v1)) (cs' := #[.string v0, .int .i64 (wrap64 v1), .int .i64 0, .int .i64 0, .int .i64 0, .string (⟨#[]⟩ : ByteArray), .string (⟨#[]⟩ : ByteArray), .string (⟨#[]⟩ : ByteArray)]) rfl)
  have hR1 := Aside0.mk (blk_far (blk_put (blk_put hR.out 0 (.string s1) (cs' := #[.string s1, .bool b0]) rfl) 1 (.bool b1) (cs' := #[.string s1, .bool b1]) rfl) (p := ⟨B0, 1, none⟩) (Ne.symm gQR) (.int .i64 (wrap64 v1)))
  have hP1 := Aside0.mk (blk_far (blk_far (blk_far hP.out (p := ⟨B1, 0, none⟩) (Ne.symm gRP) (.string s1)) (p := ⟨B1, 1, none⟩) (Ne.symm gRP) (.bool b1)) (p := ⟨B0, 1, none⟩) (Ne.symm gQP) (.int .i64 (wrap64 v1)))
  have HB1 := Aside0.mk (below_set (j := 1) (v := .int .i64 (wrap64 v1)) (below_set (j := 1) (v := .bool b1) (below_set (j := 0) (v := .string s1) HB.out GR.out) GR.out) GQ.out)
  clear HB hQ hR hP
  generalize hW_ : (((w2.setCell ⟨B1, 0, none⟩ (.string s1)).setCell ⟨B1, 1, none⟩ (.bool b1)).setCell ⟨B0, 1, none⟩ (.int .i64 (wrap64 v1))) = W1 at *
  clear hW_
  have hQ := hQ1
  have hR := hR1
  have hP := hP1
  have HB := HB1
  clear HB1 hQ1 hR1 hP1
  rw [rounds_succ]
  have fQ0 := blk_frozen hQ.out 0
  have cQ0 := (blk_cell hQ.out 0).trans rfl
  have fQ1 := blk_frozen hQ.out 1
  have cQ1 := (blk_cell hQ.out 1).trans rfl
  have fQ2 := blk_frozen hQ.out 2
  have cQ2 := (blk_cell hQ.out 2).trans rfl
  have fQ3 := blk_frozen hQ.out 3
  have cQ3 := (blk_cell hQ.out 3).trans rfl
  have fQ4 := blk_frozen hQ.out 4
  have cQ4 := (blk_cell hQ.out 4).trans rfl
  have fQ5 := blk_frozen hQ.out 5
  have cQ5 := (blk_cell hQ.out 5).trans rfl
  have fQ6 := blk_frozen hQ.out 6
  have cQ6 := (blk_cell hQ.out 6).trans rfl
  have fQ7 := blk_frozen hQ.out 7
  have cQ7 := (blk_cell hQ.out 7).trans rfl
  have fR0 := blk_frozen hR.out 0
  have cR0 := (blk_cell hR.out 0).trans rfl
  have fR1 := blk_frozen hR.out 1
  have cR1 := (blk_cell hR.out 1).trans rfl
  have fP0 := blk_frozen hP.out 0
  have cP0 := (blk_cell hP.out 0).trans rfl
  have fP1 := blk_frozen hP.out 1
  have cP1 := (blk_cell hP.out 1).trans rfl
  have fP2 := blk_frozen hP.out 2
  have cP2 := (blk_cell hP.out 2).trans rfl
  have fP3 := blk_frozen hP.out 3
  have cP3 := (blk_cell hP.out 3).trans rfl
  go_wp2_with (go_at_call 37; refine (pack_Reader_Number.calls s1 b1 1 v2 s2 b2 _ A2.out).mono ?_; rintro e w3 ⟨rfl, hb⟩; clear fQ0 cQ0 fQ1 cQ1 fQ2 cQ2 fQ3 cQ3 fQ4 cQ4 fQ5 cQ5 fQ6 cQ6 fQ7 cQ7 fR0 cR0 fR1 cR1 fP0 cP0 fP1 cP1 fP2 cP2 fP3 cP3; have hQ1 := Aside0.mk (blk_below hQ.out hb); have hR1 := Aside0.mk (blk_below hR.out hb); have hP1 := Aside0.mk (blk_below hP.out hb); have HB1 := Aside0.mk (below_step HB.out hb); clear hb; clear HB hQ hR hP; have hQ := hQ1; have hR := hR1; have hP := hP1; have HB := HB1; clear HB1 hQ1 hR1 hP1; have fQ0 := blk_frozen hQ.out 0; have cQ0 := (blk_cell hQ.out 0).trans rfl; have fQ1 := blk_frozen hQ.out 1; have cQ1 := (blk_cell hQ.out 1).trans rfl; have fQ2 := blk_frozen hQ.out 2; have cQ2 := (blk_cell hQ.out 2).trans rfl; have fQ3 := blk_frozen hQ.out 3; have cQ3 := (blk_cell hQ.out 3).trans rfl; have fQ4 := blk_frozen hQ.out 4; have cQ4 := (blk_cell hQ.out 4).trans rfl; have fQ5 := blk_frozen hQ.out 5; have cQ5 := (blk_cell hQ.out 5).trans rfl; have fQ6 := blk_frozen hQ.out 6; have cQ6 := (blk_cell hQ.out 6).trans rfl; have fQ7 := blk_frozen hQ.out 7; have cQ7 := (blk_cell hQ.out 7).trans rfl; have fR0 := blk_frozen hR.out 0; have cR0 := (blk_cell hR.out 0).trans rfl; have fR1 := blk_frozen hR.out 1; have cR1 := (blk_cell hR.out 1).trans rfl; have fP0 := blk_frozen hP.out 0; have cP0 := (blk_cell hP.out 0).trans rfl; have fP1 := blk_frozen hP.out 1; have cP1 := (blk_cell hP.out 1).trans rfl; have fP2 := blk_frozen hP.out 2; have cP2 := (blk_cell hP.out 2).trans rfl; have fP3 := blk_frozen hP.out 3; have cP3 := (blk_cell hP.out 3).trans rfl)
  clear fQ0 cQ0 fQ1 cQ1 fQ2 cQ2 fQ3 cQ3 fQ4 cQ4 fQ5 cQ5 fQ6 cQ6 fQ7 cQ7 fR0 cR0 fR1 cR1 fP0 cP0 fP1 cP1 fP2 cP2 fP3 cP3
  have hQ1 := Aside0.mk (blk_put (blk_far (blk_far hQ.out (p := ⟨B1, 0, none⟩) gQR (.string s2)) (p := ⟨B1, 1, none⟩) gQR (.bool b2)) 2 (.int .i64 (wrap64 v2)) (cs' := #[.string v0, .int .i64 (wrap64 v1), .int .i64 (wrap64 v2), .int .i64 0, .int .i64 0, .string (⟨#[]⟩ : ByteArray), .string (⟨#[]⟩ : ByteArray), .string (⟨#[]⟩ : ByteArray)]) rfl)
  have hR1 := Aside0.mk (blk_far (blk_put (blk_put hR.out 0 (.string s2) (cs' := #[.string s2, .bool b1]) rfl) 1 (.bool b2) (cs' := #[.string s2, .bool b2]) rfl) (p := ⟨B0, 2, none⟩) (Ne.symm gQR) (.int .i64 (wrap64 v2)))
  have hP1 := Aside0.mk (blk_far (blk_far (blk_far hP.out (p := ⟨B1, 0, none⟩) (Ne.symm gRP) (.string s2)) (p := ⟨B1, 1, none⟩) (Ne.symm gRP) (.bool b2)) (p := ⟨B0, 2, none⟩) (Ne.symm gQP) (.int .i64 (wrap64 v2)))
  have HB1 := Aside0.mk (below_set (j := 2) (v := .int .i64 (wrap64 v2)) (below_set (j := 1) (v := .bool b2) (below_set (j := 0) (v := .string s2) HB.out GR.out) GR.out) GQ.out)
  clear HB hQ hR hP
  generalize hW_ : (((w3.setCell ⟨B1, 0, none⟩ (.string s2)).setCell ⟨B1, 1, none⟩ (.bool b2)).setCell ⟨B0, 2, none⟩ (.int .i64 (wrap64 v2))) = W2 at *
  clear hW_
  have hQ := hQ1
  have hR := hR1
  have hP := hP1
  have HB := HB1
  clear HB1 hQ1 hR1 hP1
  rw [rounds_succ]
  have fQ0 := blk_frozen hQ.out 0
  have cQ0 := (blk_cell hQ.out 0).trans rfl
  have fQ1 := blk_frozen hQ.out 1
  have cQ1 := (blk_cell hQ.out 1).trans rfl
  have fQ2 := blk_frozen hQ.out 2
  have cQ2 := (blk_cell hQ.out 2).trans rfl
  have fQ3 := blk_frozen hQ.out 3
  have cQ3 := (blk_cell hQ.out 3).trans rfl
  have fQ4 := blk_frozen hQ.out 4
  have cQ4 := (blk_cell hQ.out 4).trans rfl
  have fQ5 := blk_frozen hQ.out 5
  have cQ5 := (blk_cell hQ.out 5).trans rfl
  have fQ6 := blk_frozen hQ.out 6
  have cQ6 := (blk_cell hQ.out 6).trans rfl
  have fQ7 := blk_frozen hQ.out 7
  have cQ7 := (blk_cell hQ.out 7).trans rfl
  have fR0 := blk_frozen hR.out 0
  have cR0 := (blk_cell hR.out 0).trans rfl
  have fR1 := blk_frozen hR.out 1
  have cR1 := (blk_cell hR.out 1).trans rfl
  have fP0 := blk_frozen hP.out 0
  have cP0 := (blk_cell hP.out 0).trans rfl
  have fP1 := blk_frozen hP.out 1
  have cP1 := (blk_cell hP.out 1).trans rfl
  have fP2 := blk_frozen hP.out 2
  have cP2 := (blk_cell hP.out 2).trans rfl
  have fP3 := blk_frozen hP.out 3
  have cP3 := (blk_cell hP.out 3).trans rfl
  go_wp2_with (go_at_call 37; refine (pack_Reader_Number.calls s2 b2 1 v3 s3 b3 _ A3.out).mono ?_; rintro e w4 ⟨rfl, hb⟩; clear fQ0 cQ0 fQ1 cQ1 fQ2 cQ2 fQ3 cQ3 fQ4 cQ4 fQ5 cQ5 fQ6 cQ6 fQ7 cQ7 fR0 cR0 fR1 cR1 fP0 cP0 fP1 cP1 fP2 cP2 fP3 cP3; have hQ1 := Aside0.mk (blk_below hQ.out hb); have hR1 := Aside0.mk (blk_below hR.out hb); have hP1 := Aside0.mk (blk_below hP.out hb); have HB1 := Aside0.mk (below_step HB.out hb); clear hb; clear HB hQ hR hP; have hQ := hQ1; have hR := hR1; have hP := hP1; have HB := HB1; clear HB1 hQ1 hR1 hP1; have fQ0 := blk_frozen hQ.out 0; have cQ0 := (blk_cell hQ.out 0).trans rfl; have fQ1 := blk_frozen hQ.out 1; have cQ1 := (blk_cell hQ.out 1).trans rfl; have fQ2 := blk_frozen hQ.out 2; have cQ2 := (blk_cell hQ.out 2).trans rfl; have fQ3 := blk_frozen hQ.out 3; have cQ3 := (blk_cell hQ.out 3).trans rfl; have fQ4 := blk_frozen hQ.out 4; have cQ4 := (blk_cell hQ.out 4).trans rfl; have fQ5 := blk_frozen hQ.out 5; have cQ5 := (blk_cell hQ.out 5).trans rfl; have fQ6 := blk_frozen hQ.out 6; have cQ6 := (blk_cell hQ.out 6).trans rfl; have fQ7 := blk_frozen hQ.out 7; have cQ7 := (blk_cell hQ.out 7).trans rfl; have fR0 := blk_frozen hR.out 0; have cR0 := (blk_cell hR.out 0).trans rfl; have fR1 := blk_frozen hR.out 1; have cR1 := (blk_cell hR.out 1).trans rfl; have fP0 := blk_frozen hP.out 0; have cP0 := (blk_cell hP.out 0).trans rfl; have fP1 := blk_frozen hP.out 1; have cP1 := (blk_cell hP.out 1).trans rfl; have fP2 := blk_frozen hP.out 2; have cP2 := (blk_cell hP.out 2).trans rfl; have fP3 := blk_frozen hP.out 3; have cP3 := (blk_cell hP.out 3).trans rfl)
  clear fQ0 cQ0 fQ1 cQ1 fQ2 cQ2 fQ3 cQ3 fQ4 cQ4 fQ5 cQ5 fQ6 cQ6 fQ7 cQ7 fR0 cR0 fR1 cR1 fP0 cP0 fP1 cP1 fP2 cP2 fP3 cP3
  have hQ1 := Aside0.mk (blk_put (blk_far (blk_far hQ.out (p := ⟨B1, 0, none⟩) gQR (.string s3)) (p := ⟨B1, 1, none⟩) gQR (.bool b3)) 3 (.int .i64 (wrap64 v3)) (cs' := #[.string v0, .int .i64 (wrap64 v1), .int .i64 (wrap64 v2), .int .i64 (wrap64 v3), .int .i64 0, .string (⟨#[]⟩ : ByteArray), .string (⟨#[]⟩ : ByteArray), .string (⟨#[]⟩ : ByteArray)]) rfl)
  have hR1 := Aside0.mk (blk_far (blk_put (blk_put hR.out 0 (.string s3) (cs' := #[.string s3, .bool b2]) rfl) 1 (.bool b3) (cs' := #[.string s3, .bool b3]) rfl) (p := ⟨B0, 3, none⟩) (Ne.symm gQR) (.int .i64 (wrap64 v3)))
  have hP1 := Aside0.mk (blk_far (blk_far (blk_far hP.out (p := ⟨B1, 0, none⟩) (Ne.symm gRP) (.string s3)) (p := ⟨B1, 1, none⟩) (Ne.symm gRP) (.bool b3)) (p := ⟨B0, 3, none⟩) (Ne.symm gQP) (.int .i64 (wrap64 v3)))
  have HB1 := Aside0.mk (below_set (j := 3) (v := .int .i64 (wrap64 v3)) (below_set (j := 1) (v := .bool b3) (below_set (j := 0) (v := .string s3) HB.out GR.out) GR.out) GQ.out)
  clear HB hQ hR hP
  generalize hW_ : (((w4.setCell ⟨B1, 0, none⟩ (.string s3)).setCell ⟨B1, 1, none⟩ (.bool b3)).setCell ⟨B0, 3, none⟩ (.int .i64 (wrap64 v3))) = W3 at *
  clear hW_
  have hQ := hQ1
  have hR := hR1
  have hP := hP1
  have HB := HB1
  clear HB1 hQ1 hR1 hP1
  rw [rounds_succ]
  have fQ0 := blk_frozen hQ.out 0
  have cQ0 := (blk_cell hQ.out 0).trans rfl
  have fQ1 := blk_frozen hQ.out 1
  have cQ1 := (blk_cell hQ.out 1).trans rfl
  have fQ2 := blk_frozen hQ.out 2
  have cQ2 := (blk_cell hQ.out 2).trans rfl
  have fQ3 := blk_frozen hQ.out 3
  have cQ3 := (blk_cell hQ.out 3).trans rfl
  have fQ4 := blk_frozen hQ.out 4
  have cQ4 := (blk_cell hQ.out 4).trans rfl
  have fQ5 := blk_frozen hQ.out 5
  have cQ5 := (blk_cell hQ.out 5).trans rfl
  have fQ6 := blk_frozen hQ.out 6
  have cQ6 := (blk_cell hQ.out 6).trans rfl
  have fQ7 := blk_frozen hQ.out 7
  have cQ7 := (blk_cell hQ.out 7).trans rfl
  have fR0 := blk_frozen hR.out 0
  have cR0 := (blk_cell hR.out 0).trans rfl
  have fR1 := blk_frozen hR.out 1
  have cR1 := (blk_cell hR.out 1).trans rfl
  have fP0 := blk_frozen hP.out 0
  have cP0 := (blk_cell hP.out 0).trans rfl
  have fP1 := blk_frozen hP.out 1
  have cP1 := (blk_cell hP.out 1).trans rfl
  have fP2 := blk_frozen hP.out 2
  have cP2 := (blk_cell hP.out 2).trans rfl
  have fP3 := blk_frozen hP.out 3
  have cP3 := (blk_cell hP.out 3).trans rfl
  go_wp2_with (go_at_call 37; refine (pack_Reader_Number.calls s3 b3 1 v4 s4 b4 _ A4.out).mono ?_; rintro e w5 ⟨rfl, hb⟩; clear fQ0 cQ0 fQ1 cQ1 fQ2 cQ2 fQ3 cQ3 fQ4 cQ4 fQ5 cQ5 fQ6 cQ6 fQ7 cQ7 fR0 cR0 fR1 cR1 fP0 cP0 fP1 cP1 fP2 cP2 fP3 cP3; have hQ1 := Aside0.mk (blk_below hQ.out hb); have hR1 := Aside0.mk (blk_below hR.out hb); have hP1 := Aside0.mk (blk_below hP.out hb); have HB1 := Aside0.mk (below_step HB.out hb); clear hb; clear HB hQ hR hP; have hQ := hQ1; have hR := hR1; have hP := hP1; have HB := HB1; clear HB1 hQ1 hR1 hP1; have fQ0 := blk_frozen hQ.out 0; have cQ0 := (blk_cell hQ.out 0).trans rfl; have fQ1 := blk_frozen hQ.out 1; have cQ1 := (blk_cell hQ.out 1).trans rfl; have fQ2 := blk_frozen hQ.out 2; have cQ2 := (blk_cell hQ.out 2).trans rfl; have fQ3 := blk_frozen hQ.out 3; have cQ3 := (blk_cell hQ.out 3).trans rfl; have fQ4 := blk_frozen hQ.out 4; have cQ4 := (blk_cell hQ.out 4).trans rfl; have fQ5 := blk_frozen hQ.out 5; have cQ5 := (blk_cell hQ.out 5).trans rfl; have fQ6 := blk_frozen hQ.out 6; have cQ6 := (blk_cell hQ.out 6).trans rfl; have fQ7 := blk_frozen hQ.out 7; have cQ7 := (blk_cell hQ.out 7).trans rfl; have fR0 := blk_frozen hR.out 0; have cR0 := (blk_cell hR.out 0).trans rfl; have fR1 := blk_frozen hR.out 1; have cR1 := (blk_cell hR.out 1).trans rfl; have fP0 := blk_frozen hP.out 0; have cP0 := (blk_cell hP.out 0).trans rfl; have fP1 := blk_frozen hP.out 1; have cP1 := (blk_cell hP.out 1).trans rfl; have fP2 := blk_frozen hP.out 2; have cP2 := (blk_cell hP.out 2).trans rfl; have fP3 := blk_frozen hP.out 3; have cP3 := (blk_cell hP.out 3).trans rfl)
  clear fQ0 cQ0 fQ1 cQ1 fQ2 cQ2 fQ3 cQ3 fQ4 cQ4 fQ5 cQ5 fQ6 cQ6 fQ7 cQ7 fR0 cR0 fR1 cR1 fP0 cP0 fP1 cP1 fP2 cP2 fP3 cP3
  have hQ1 := Aside0.mk (blk_put (blk_far (blk_far hQ.out (p := ⟨B1, 0, none⟩) gQR (.string s4)) (p := ⟨B1, 1, none⟩) gQR (.bool b4)) 4 (.int .i64 (wrap64 v4)) (cs' := #[.string v0, .int .i64 (wrap64 v1), .int .i64 (wrap64 v2), .int .i64 (wrap64 v3), .int .i64 (wrap64 v4), .string (⟨#[]⟩ : ByteArray), .string (⟨#[]⟩ : ByteArray), .string (⟨#[]⟩ : ByteArray)]) rfl)
  have hR1 := Aside0.mk (blk_far (blk_put (blk_put hR.out 0 (.string s4) (cs' := #[.string s4, .bool b3]) rfl) 1 (.bool b4) (cs' := #[.string s4, .bool b4]) rfl) (p := ⟨B0, 4, none⟩) (Ne.symm gQR) (.int .i64 (wrap64 v4)))
  have hP1 := Aside0.mk (blk_far (blk_far (blk_far hP.out (p := ⟨B1, 0, none⟩) (Ne.symm gRP) (.string s4)) (p := ⟨B1, 1, none⟩) (Ne.symm gRP) (.bool b4)) (p := ⟨B0, 4, none⟩) (Ne.symm gQP) (.int .i64 (wrap64 v4)))
  have HB1 := Aside0.mk (below_set (j := 4) (v := .int .i64 (wrap64 v4)) (below_set (j := 1) (v := .bool b4) (below_set (j := 0) (v := .string s4) HB.out GR.out) GR.out) GQ.out)
  clear HB hQ hR hP
  generalize hW_ : (((w5.setCell ⟨B1, 0, none⟩ (.string s4)).setCell ⟨B1, 1, none⟩ (.bool b4)).setCell ⟨B0, 4, none⟩ (.int .i64 (wrap64 v4))) = W4 at *
  clear hW_
  have hQ := hQ1
  have hR := hR1
  have hP := hP1
  have HB := HB1
  clear HB1 hQ1 hR1 hP1
  rw [rounds_succ]
  go_wp2
  have hlQ := blk_lt hQ.out
  have hlR := blk_lt hR.out
  have hlP := blk_lt hP.out
  have hQ1 := Aside0.mk (blk_alloc hQ.out (.cells #[.pointer (some ⟨B0, 5, none⟩), .pointer (some ⟨B0, 6, none⟩), .pointer (some ⟨B0, 7, none⟩)] 88))
  have hR1 := Aside0.mk (blk_alloc hR.out (.cells #[.pointer (some ⟨B0, 5, none⟩), .pointer (some ⟨B0, 6, none⟩), .pointer (some ⟨B0, 7, none⟩)] 88))
  have hP1 := Aside0.mk (blk_alloc hP.out (.cells #[.pointer (some ⟨B0, 5, none⟩), .pointer (some ⟨B0, 6, none⟩), .pointer (some ⟨B0, 7, none⟩)] 88))
  have HB1 := Aside0.mk (below_alloc HB.out (.cells #[.pointer (some ⟨B0, 5, none⟩), .pointer (some ⟨B0, 6, none⟩), .pointer (some ⟨B0, 7, none⟩)] 88))
  have hS1 := blk_new W4 (.cells #[.pointer (some ⟨B0, 5, none⟩), .pointer (some ⟨B0, 6, none⟩), .pointer (some ⟨B0, 7, none⟩)] 88)
  have gz_ := HB.out.size
  obtain ⟨B3, hB_⟩ : ∃ B, B = W4.heap.size := ⟨_, rfl⟩
  rw [← hB_] at hS1
  rw [← hB_]
  have hS1 := Aside0.mk hS1
  have gQS : B0 ≠ B3 := by omega
  have gRS : B1 ≠ B3 := by omega
  have gPS : B2 ≠ B3 := by omega
  have GS := Aside0.mk (show w.heap.size ≤ B3 by omega)
  clear hB_ gz_ hlQ hlR hlP
  clear HB hQ hR hP
  generalize hW_ : W4.alloc (.cells #[.pointer (some ⟨B0, 5, none⟩), .pointer (some ⟨B0, 6, none⟩), .pointer (some ⟨B0, 7, none⟩)] 88) = W5 at *
  clear hW_
  have hQ := hQ1
  have hR := hR1
  have hP := hP1
  have hS := hS1
  have HB := HB1
  clear HB1 hQ1 hR1 hP1 hS1
  refine wp_loop_rounds 4 ?_
  rw [rounds_succ]
  have fQ0 := blk_frozen hQ.out 0
  have cQ0 := (blk_cell hQ.out 0).trans rfl
  have fQ1 := blk_frozen hQ.out 1
  have cQ1 := (blk_cell hQ.out 1).trans rfl
  have fQ2 := blk_frozen hQ.out 2
  have cQ2 := (blk_cell hQ.out 2).trans rfl
  have fQ3 := blk_frozen hQ.out 3
  have cQ3 := (blk_cell hQ.out 3).trans rfl
  have fQ4 := blk_frozen hQ.out 4
  have cQ4 := (blk_cell hQ.out 4).trans rfl
  have fQ5 := blk_frozen hQ.out 5
  have cQ5 := (blk_cell hQ.out 5).trans rfl
  have fQ6 := blk_frozen hQ.out 6
  have cQ6 := (blk_cell hQ.out 6).trans rfl
  have fQ7 := blk_frozen hQ.out 7
  have cQ7 := (blk_cell hQ.out 7).trans rfl
  have fR0 := blk_frozen hR.out 0
  have cR0 := (blk_cell hR.out 0).trans rfl
  have fR1 := blk_frozen hR.out 1
  have cR1 := (blk_cell hR.out 1).trans rfl
  have fP0 := blk_frozen hP.out 0
  have cP0 := (blk_cell hP.out 0).trans rfl
  have fP1 := blk_frozen hP.out 1
  have cP1 := (blk_cell hP.out 1).trans rfl
  have fP2 := blk_frozen hP.out 2
  have cP2 := (blk_cell hP.out 2).trans rfl
  have fP3 := blk_frozen hP.out 3
  have cP3 := (blk_cell hP.out 3).trans rfl
  have fS0 := blk_frozen hS.out 0
  have cS0 := (blk_cell hS.out 0).trans rfl
  have fS1 := blk_frozen hS.out 1
  have cS1 := (blk_cell hS.out 1).trans rfl
  have fS2 := blk_frozen hS.out 2
  have cS2 := (blk_cell hS.out 2).trans rfl
  go_wp2_with (go_at_call 36; refine (pack_Reader_Text.calls k s4 b4 64 v5 s5 b5 _ A5.out).mono ?_; rintro e w6 ⟨rfl, hb⟩; clear fQ0 cQ0 fQ1 cQ1 fQ2 cQ2 fQ3 cQ3 fQ4 cQ4 fQ5 cQ5 fQ6 cQ6 fQ7 cQ7 fR0 cR0 fR1 cR1 fP0 cP0 fP1 cP1 fP2 cP2 fP3 cP3 fS0 cS0 fS1 cS1 fS2 cS2; have hQ1 := Aside0.mk (blk_below hQ.out hb); have hR1 := Aside0.mk (blk_below hR.out hb); have hP1 := Aside0.mk (blk_below hP.out hb); have hS1 := Aside0.mk (blk_below hS.out hb); have HB1 := Aside0.mk (below_step HB.out hb); clear hb; clear HB hQ hR hP hS; have hQ := hQ1; have hR := hR1; have hP := hP1; have hS := hS1; have HB := HB1; clear HB1 hQ1 hR1 hP1 hS1; have fQ0 := blk_frozen hQ.out 0; have cQ0 := (blk_cell hQ.out 0).trans rfl; have fQ1 := blk_frozen hQ.out 1; have cQ1 := (blk_cell hQ.out 1).trans rfl; have fQ2 := blk_frozen hQ.out 2; have cQ2 := (blk_cell hQ.out 2).trans rfl; have fQ3 := blk_frozen hQ.out 3; have cQ3 := (blk_cell hQ.out 3).trans rfl; have fQ4 := blk_frozen hQ.out 4; have cQ4 := (blk_cell hQ.out 4).trans rfl; have fQ5 := blk_frozen hQ.out 5; have cQ5 := (blk_cell hQ.out 5).trans rfl; have fQ6 := blk_frozen hQ.out 6; have cQ6 := (blk_cell hQ.out 6).trans rfl; have fQ7 := blk_frozen hQ.out 7; have cQ7 := (blk_cell hQ.out 7).trans rfl; have fR0 := blk_frozen hR.out 0; have cR0 := (blk_cell hR.out 0).trans rfl; have fR1 := blk_frozen hR.out 1; have cR1 := (blk_cell hR.out 1).trans rfl; have fP0 := blk_frozen hP.out 0; have cP0 := (blk_cell hP.out 0).trans rfl; have fP1 := blk_frozen hP.out 1; have cP1 := (blk_cell hP.out 1).trans rfl; have fP2 := blk_frozen hP.out 2; have cP2 := (blk_cell hP.out 2).trans rfl; have fP3 := blk_frozen hP.out 3; have cP3 := (blk_cell hP.out 3).trans rfl; have fS0 := blk_frozen hS.out 0; have cS0 := (blk_cell hS.out 0).trans rfl; have fS1 := blk_frozen hS.out 1; have cS1 := (blk_cell hS.out 1).trans rfl; have fS2 := blk_frozen hS.out 2; have cS2 := (blk_cell hS.out 2).trans rfl)
  clear fQ0 cQ0 fQ1 cQ1 fQ2 cQ2 fQ3 cQ3 fQ4 cQ4 fQ5 cQ5 fQ6 cQ6 fQ7 cQ7 fR0 cR0 fR1 cR1 fP0 cP0 fP1 cP1 fP2 cP2 fP3 cP3 fS0 cS0 fS1 cS1 fS2 cS2
  have hQ1 := Aside0.mk (blk_far (blk_far (blk_put hQ.out 5 (.string v5) (cs' := #[.string v0, .int .i64 (wrap64 v1), .int .i64 (wrap64 v2), .int .i64 (wrap64 v3), .int .i64 (wrap64 v4), .string v5, .string (⟨#[]⟩ : ByteArray), .string (⟨#[]⟩ : ByteArray)]) rfl) (p := ⟨B1, 0, none⟩) gQR (.string s5)) (p := ⟨B1, 1, none⟩) gQR (.bool b5))
  have hR1 := Aside0.mk (blk_put (blk_put (blk_far hR.out (p := ⟨B0, 5, none⟩) (Ne.symm gQR) (.string v5)) 0 (.string s5) (cs' := #[.string s5, .bool b4]) rfl) 1 (.bool b5) (cs' := #[.string s5, .bool b5]) rfl)
  have hP1 := Aside0.mk (blk_far (blk_far (blk_far hP.out (p := ⟨B0, 5, none⟩) (Ne.symm gQP) (.string v5)) (p := ⟨B1, 0, none⟩) (Ne.symm gRP) (.string s5)) (p := ⟨B1, 1, none⟩) (Ne.symm gRP) (.bool b5))
  have hS1 := Aside0.mk (blk_far (blk_far (blk_far hS.out (p := ⟨B0, 5, none⟩) (Ne.symm gQS) (.string v5)) (p := ⟨B1, 0, none⟩) (Ne.symm gRS) (.string s5)) (p := ⟨B1, 1, none⟩) (Ne.symm gRS) (.bool b5))
  have HB1 := Aside0.mk (below_set (j := 1) (v := .bool b5) (below_set (j := 0) (v := .string s5) (below_set (j := 5) (v := .string v5) HB.out GQ.out) GR.out) GR.out)
  clear HB hQ hR hP hS
  generalize hW_ : (((w6.setCell ⟨B0, 5, none⟩ (.string v5)).setCell ⟨B1, 0, none⟩ (.string s5)).setCell ⟨B1, 1, none⟩ (.bool b5)) = W6 at *
  clear hW_
  have hQ := hQ1
  have hR := hR1
  have hP := hP1
  have hS := hS1
  have HB := HB1
  clear HB1 hQ1 hR1 hP1 hS1
  rw [rounds_succ]
  have fQ0 := blk_frozen hQ.out 0
  have cQ0 := (blk_cell hQ.out 0).trans rfl
  have fQ1 := blk_frozen hQ.out 1
  have cQ1 := (blk_cell hQ.out 1).trans rfl
  have fQ2 := blk_frozen hQ.out 2
  have cQ2 := (blk_cell hQ.out 2).trans rfl
  have fQ3 := blk_frozen hQ.out 3
  have cQ3 := (blk_cell hQ.out 3).trans rfl
  have fQ4 := blk_frozen hQ.out 4
  have cQ4 := (blk_cell hQ.out 4).trans rfl
  have fQ5 := blk_frozen hQ.out 5
  have cQ5 := (blk_cell hQ.out 5).trans rfl
  have fQ6 := blk_frozen hQ.out 6
  have cQ6 := (blk_cell hQ.out 6).trans rfl
  have fQ7 := blk_frozen hQ.out 7
  have cQ7 := (blk_cell hQ.out 7).trans rfl
  have fR0 := blk_frozen hR.out 0
  have cR0 := (blk_cell hR.out 0).trans rfl
  have fR1 := blk_frozen hR.out 1
  have cR1 := (blk_cell hR.out 1).trans rfl
  have fP0 := blk_frozen hP.out 0
  have cP0 := (blk_cell hP.out 0).trans rfl
  have fP1 := blk_frozen hP.out 1
  have cP1 := (blk_cell hP.out 1).trans rfl
  have fP2 := blk_frozen hP.out 2
  have cP2 := (blk_cell hP.out 2).trans rfl
  have fP3 := blk_frozen hP.out 3
  have cP3 := (blk_cell hP.out 3).trans rfl
  have fS0 := blk_frozen hS.out 0
  have cS0 := (blk_cell hS.out 0).trans rfl
  have fS1 := blk_frozen hS.out 1
  have cS1 := (blk_cell hS.out 1).trans rfl
  have fS2 := blk_frozen hS.out 2
  have cS2 := (blk_cell hS.out 2).trans rfl
  go_wp2_with (go_at_call 36; refine (pack_Reader_Text.calls k s5 b5 64 v6 s6 b6 _ A6.out).mono ?_; rintro e w7 ⟨rfl, hb⟩; clear fQ0 cQ0 fQ1 cQ1 fQ2 cQ2 fQ3 cQ3 fQ4 cQ4 fQ5 cQ5 fQ6 cQ6 fQ7 cQ7 fR0 cR0 fR1 cR1 fP0 cP0 fP1 cP1 fP2 cP2 fP3 cP3 fS0 cS0 fS1 cS1 fS2 cS2; have hQ1 := Aside0.mk (blk_below hQ.out hb); have hR1 := Aside0.mk (blk_below hR.out hb); have hP1 := Aside0.mk (blk_below hP.out hb); have hS1 := Aside0.mk (blk_below hS.out hb); have HB1 := Aside0.mk (below_step HB.out hb); clear hb; clear HB hQ hR hP hS; have hQ := hQ1; have hR := hR1; have hP := hP1; have hS := hS1; have HB := HB1; clear HB1 hQ1 hR1 hP1 hS1; have fQ0 := blk_frozen hQ.out 0; have cQ0 := (blk_cell hQ.out 0).trans rfl; have fQ1 := blk_frozen hQ.out 1; have cQ1 := (blk_cell hQ.out 1).trans rfl; have fQ2 := blk_frozen hQ.out 2; have cQ2 := (blk_cell hQ.out 2).trans rfl; have fQ3 := blk_frozen hQ.out 3; have cQ3 := (blk_cell hQ.out 3).trans rfl; have fQ4 := blk_frozen hQ.out 4; have cQ4 := (blk_cell hQ.out 4).trans rfl; have fQ5 := blk_frozen hQ.out 5; have cQ5 := (blk_cell hQ.out 5).trans rfl; have fQ6 := blk_frozen hQ.out 6; have cQ6 := (blk_cell hQ.out 6).trans rfl; have fQ7 := blk_frozen hQ.out 7; have cQ7 := (blk_cell hQ.out 7).trans rfl; have fR0 := blk_frozen hR.out 0; have cR0 := (blk_cell hR.out 0).trans rfl; have fR1 := blk_frozen hR.out 1; have cR1 := (blk_cell hR.out 1).trans rfl; have fP0 := blk_frozen hP.out 0; have cP0 := (blk_cell hP.out 0).trans rfl; have fP1 := blk_frozen hP.out 1; have cP1 := (blk_cell hP.out 1).trans rfl; have fP2 := blk_frozen hP.out 2; have cP2 := (blk_cell hP.out 2).trans rfl; have fP3 := blk_frozen hP.out 3; have cP3 := (blk_cell hP.out 3).trans rfl; have fS0 := blk_frozen hS.out 0; have cS0 := (blk_cell hS.out 0).trans rfl; have fS1 := blk_frozen hS.out 1; have cS1 := (blk_cell hS.out 1).trans rfl; have fS2 := blk_frozen hS.out 2; have cS2 := (blk_cell hS.out 2).trans rfl)
  clear fQ0 cQ0 fQ1 cQ1 fQ2 cQ2 fQ3 cQ3 fQ4 cQ4 fQ5 cQ5 fQ6 cQ6 fQ7 cQ7 fR0 cR0 fR1 cR1 fP0 cP0 fP1 cP1 fP2 cP2 fP3 cP3 fS0 cS0 fS1 cS1 fS2 cS2
  have hQ1 := Aside0.mk (blk_far (blk_far (blk_put hQ.out 6 (.string v6) (cs' := #[.string v0, .int .i64 (wrap64 v1), .int .i64 (wrap64 v2), .int .i64 (wrap64 v3), .int .i64 (wrap64 v4), .string v5, .string v6, .string (⟨#[]⟩ : ByteArray)]) rfl) (p := ⟨B1, 0, none⟩) gQR (.string s6)) (p := ⟨B1, 1, none⟩) gQR (.bool b6))
  have hR1 := Aside0.mk (blk_put (blk_put (blk_far hR.out (p := ⟨B0, 6, none⟩) (Ne.symm gQR) (.string v6)) 0 (.string s6) (cs' := #[.string s6, .bool b5]) rfl) 1 (.bool b6) (cs' := #[.string s6, .bool b6]) rfl)
  have hP1 := Aside0.mk (blk_far (blk_far (blk_far hP.out (p := ⟨B0, 6, none⟩) (Ne.symm gQP) (.string v6)) (p := ⟨B1, 0, none⟩) (Ne.symm gRP) (.string s6)) (p := ⟨B1, 1, none⟩) (Ne.symm gRP) (.bool b6))
  have hS1 := Aside0.mk (blk_far (blk_far (blk_far hS.out (p := ⟨B0, 6, none⟩) (Ne.symm gQS) (.string v6)) (p := ⟨B1, 0, none⟩) (Ne.symm gRS) (.string s6)) (p := ⟨B1, 1, none⟩) (Ne.symm gRS) (.bool b6))
  have HB1 := Aside0.mk (below_set (j := 1) (v := .bool b6) (below_set (j := 0) (v := .string s6) (below_set (j := 6) (v := .string v6) HB.out GQ.out) GR.out) GR.out)
  clear HB hQ hR hP hS
  generalize hW_ : (((w7.setCell ⟨B0, 6, none⟩ (.string v6)).setCell ⟨B1, 0, none⟩ (.string s6)).setCell ⟨B1, 1, none⟩ (.bool b6)) = W7 at *
  clear hW_
  have hQ := hQ1
  have hR := hR1
  have hP := hP1
  have hS := hS1
  have HB := HB1
  clear HB1 hQ1 hR1 hP1 hS1
  rw [rounds_succ]
  have fQ0 := blk_frozen hQ.out 0
  have cQ0 := (blk_cell hQ.out 0).trans rfl
  have fQ1 := blk_frozen hQ.out 1
  have cQ1 := (blk_cell hQ.out 1).trans rfl
  have fQ2 := blk_frozen hQ.out 2
  have cQ2 := (blk_cell hQ.out 2).trans rfl
  have fQ3 := blk_frozen hQ.out 3
  have cQ3 := (blk_cell hQ.out 3).trans rfl
  have fQ4 := blk_frozen hQ.out 4
  have cQ4 := (blk_cell hQ.out 4).trans rfl
  have fQ5 := blk_frozen hQ.out 5
  have cQ5 := (blk_cell hQ.out 5).trans rfl
  have fQ6 := blk_frozen hQ.out 6
  have cQ6 := (blk_cell hQ.out 6).trans rfl
  have fQ7 := blk_frozen hQ.out 7
  have cQ7 := (blk_cell hQ.out 7).trans rfl
  have fR0 := blk_frozen hR.out 0
  have cR0 := (blk_cell hR.out 0).trans rfl
  have fR1 := blk_frozen hR.out 1
  have cR1 := (blk_cell hR.out 1).trans rfl
  have fP0 := blk_frozen hP.out 0
  have cP0 := (blk_cell hP.out 0).trans rfl
  have fP1 := blk_frozen hP.out 1
  have cP1 := (blk_cell hP.out 1).trans rfl
  have fP2 := blk_frozen hP.out 2
  have cP2 := (blk_cell hP.out 2).trans rfl
  have fP3 := blk_frozen hP.out 3
  have cP3 := (blk_cell hP.out 3).trans rfl
  have fS0 := blk_frozen hS.out 0
  have cS0 := (blk_cell hS.out 0).trans rfl
  have fS1 := blk_frozen hS.out 1
  have cS1 := (blk_cell hS.out 1).trans rfl
  have fS2 := blk_frozen hS.out 2
  have cS2 := (blk_cell hS.out 2).trans rfl
  go_wp2_with (go_at_call 36; refine (pack_Reader_Text.calls k s6 b6 64 v7 s7 b7 _ A7.out).mono ?_; rintro e w8 ⟨rfl, hb⟩; clear fQ0 cQ0 fQ1 cQ1 fQ2 cQ2 fQ3 cQ3 fQ4 cQ4 fQ5 cQ5 fQ6 cQ6 fQ7 cQ7 fR0 cR0 fR1 cR1 fP0 cP0 fP1 cP1 fP2 cP2 fP3 cP3 fS0 cS0 fS1 cS1 fS2 cS2; have hQ1 := Aside0.mk (blk_below hQ.out hb); have hR1 := Aside0.mk (blk_below hR.out hb); have hP1 := Aside0.mk (blk_below hP.out hb); have hS1 := Aside0.mk (blk_below hS.out hb); have HB1 := Aside0.mk (below_step HB.out hb); clear hb; clear HB hQ hR hP hS; have hQ := hQ1; have hR := hR1; have hP := hP1; have hS := hS1; have HB := HB1; clear HB1 hQ1 hR1 hP1 hS1; have fQ0 := blk_frozen hQ.out 0; have cQ0 := (blk_cell hQ.out 0).trans rfl; have fQ1 := blk_frozen hQ.out 1; have cQ1 := (blk_cell hQ.out 1).trans rfl; have fQ2 := blk_frozen hQ.out 2; have cQ2 := (blk_cell hQ.out 2).trans rfl; have fQ3 := blk_frozen hQ.out 3; have cQ3 := (blk_cell hQ.out 3).trans rfl; have fQ4 := blk_frozen hQ.out 4; have cQ4 := (blk_cell hQ.out 4).trans rfl; have fQ5 := blk_frozen hQ.out 5; have cQ5 := (blk_cell hQ.out 5).trans rfl; have fQ6 := blk_frozen hQ.out 6; have cQ6 := (blk_cell hQ.out 6).trans rfl; have fQ7 := blk_frozen hQ.out 7; have cQ7 := (blk_cell hQ.out 7).trans rfl; have fR0 := blk_frozen hR.out 0; have cR0 := (blk_cell hR.out 0).trans rfl; have fR1 := blk_frozen hR.out 1; have cR1 := (blk_cell hR.out 1).trans rfl; have fP0 := blk_frozen hP.out 0; have cP0 := (blk_cell hP.out 0).trans rfl; have fP1 := blk_frozen hP.out 1; have cP1 := (blk_cell hP.out 1).trans rfl; have fP2 := blk_frozen hP.out 2; have cP2 := (blk_cell hP.out 2).trans rfl; have fP3 := blk_frozen hP.out 3; have cP3 := (blk_cell hP.out 3).trans rfl; have fS0 := blk_frozen hS.out 0; have cS0 := (blk_cell hS.out 0).trans rfl; have fS1 := blk_frozen hS.out 1; have cS1 := (blk_cell hS.out 1).trans rfl; have fS2 := blk_frozen hS.out 2; have cS2 := (blk_cell hS.out 2).trans rfl)
  clear fQ0 cQ0 fQ1 cQ1 fQ2 cQ2 fQ3 cQ3 fQ4 cQ4 fQ5 cQ5 fQ6 cQ6 fQ7 cQ7 fR0 cR0 fR1 cR1 fP0 cP0 fP1 cP1 fP2 cP2 fP3 cP3 fS0 cS0 fS1 cS1 fS2 cS2
  have hQ1 := Aside0.mk (blk_far (blk_far (blk_put hQ.out 7 (.string v7) (cs' := #[.string v0, .int .i64 (wrap64 v1), .int .i64 (wrap64 v2), .int .i64 (wrap64 v3), .int .i64 (wrap64 v4), .string v5, .string v6, .string v7]) rfl) (p := ⟨B1, 0, none⟩) gQR (.string s7)) (p := ⟨B1, 1, none⟩) gQR (.bool b7))
  have hR1 := Aside0.mk (blk_put (blk_put (blk_far hR.out (p := ⟨B0, 7, none⟩) (Ne.symm gQR) (.string v7)) 0 (.string s7) (cs' := #[.string s7, .bool b6]) rfl) 1 (.bool b7) (cs' := #[.string s7, .bool b7]) rfl)
  have hP1 := Aside0.mk (blk_far (blk_far (blk_far hP.out (p := ⟨B0, 7, none⟩) (Ne.symm gQP) (.string v7)) (p := ⟨B1, 0, none⟩) (Ne.symm gRP) (.string s7)) (p := ⟨B1, 1, none⟩) (Ne.symm gRP) (.bool b7))
  have hS1 := Aside0.mk (blk_far (blk_far (blk_far hS.out (p := ⟨B0, 7, none⟩) (Ne.symm gQS) (.string v7)) (p := ⟨B1, 0, none⟩) (Ne.symm gRS) (.string s7)) (p := ⟨B1, 1, none⟩) (Ne.symm gRS) (.bool b7))
  have HB1 := Aside0.mk (below_set (j := 1) (v := .bool b7) (below_set (j := 0) (v := .string s7) (below_set (j := 7) (v := .string v7) HB.out GQ.out) GR.out) GR.out)
  clear HB hQ hR hP hS
  generalize hW_ : (((w8.setCell ⟨B0, 7, none⟩ (.string v7)).setCell ⟨B1, 0, none⟩ (.string s7)).setCell ⟨B1, 1, none⟩ (.bool b7)) = W8 at *
  clear hW_
  have hQ := hQ1
  have hR := hR1
  have hP := hP1
  have hS := hS1
  have HB := HB1
  clear HB1 hQ1 hR1 hP1 hS1
  rw [rounds_succ]
  have fQ0 := blk_frozen hQ.out 0
  have cQ0 := (blk_cell hQ.out 0).trans rfl
  have fQ1 := blk_frozen hQ.out 1
  have cQ1 := (blk_cell hQ.out 1).trans rfl
  have fQ2 := blk_frozen hQ.out 2
  have cQ2 := (blk_cell hQ.out 2).trans rfl
  have fQ3 := blk_frozen hQ.out 3
  have cQ3 := (blk_cell hQ.out 3).trans rfl
  have fQ4 := blk_frozen hQ.out 4
  have cQ4 := (blk_cell hQ.out 4).trans rfl
  have fQ5 := blk_frozen hQ.out 5
  have cQ5 := (blk_cell hQ.out 5).trans rfl
  have fQ6 := blk_frozen hQ.out 6
  have cQ6 := (blk_cell hQ.out 6).trans rfl
  have fQ7 := blk_frozen hQ.out 7
  have cQ7 := (blk_cell hQ.out 7).trans rfl
  have fR0 := blk_frozen hR.out 0
  have cR0 := (blk_cell hR.out 0).trans rfl
  have fR1 := blk_frozen hR.out 1
  have cR1 := (blk_cell hR.out 1).trans rfl
  have fP0 := blk_frozen hP.out 0
  have cP0 := (blk_cell hP.out 0).trans rfl
  have fP1 := blk_frozen hP.out 1
  have cP1 := (blk_cell hP.out 1).trans rfl
  have fP2 := blk_frozen hP.out 2
  have cP2 := (blk_cell hP.out 2).trans rfl
  have fP3 := blk_frozen hP.out 3
  have cP3 := (blk_cell hP.out 3).trans rfl
  have fS0 := blk_frozen hS.out 0
  have cS0 := (blk_cell hS.out 0).trans rfl
  have fS1 := blk_frozen hS.out 1
  have cS1 := (blk_cell hS.out 1).trans rfl
  have fS2 := blk_frozen hS.out 2
  have cS2 := (blk_cell hS.out 2).trans rfl
  cases d with
  | true =>
    have h := HH.out
    rw [if_pos rfl] at h
    simp only [Option.some.injEq, Prod.mk.injEq] at h
    obtain ⟨rfl, rfl, rfl, rfl, rfl, rfl, rfl, rfl, rfl⟩ := h
    clear HH
    go_wp2_with (go_at_call 38; refine (pack_Reader_Done.calls s7 b7 true _ A8.out).mono ?_; rintro e w9 ⟨rfl, hb⟩; clear fQ0 cQ0 fQ1 cQ1 fQ2 cQ2 fQ3 cQ3 fQ4 cQ4 fQ5 cQ5 fQ6 cQ6 fQ7 cQ7 fR0 cR0 fR1 cR1 fP0 cP0 fP1 cP1 fP2 cP2 fP3 cP3 fS0 cS0 fS1 cS1 fS2 cS2; have hQ1 := Aside0.mk (blk_below hQ.out hb); have hR1 := Aside0.mk (blk_below hR.out hb); have hP1 := Aside0.mk (blk_below hP.out hb); have hS1 := Aside0.mk (blk_below hS.out hb); have HB1 := Aside0.mk (below_step HB.out hb); clear hb; clear HB hQ hR hP hS; have hQ := hQ1; have hR := hR1; have hP := hP1; have hS := hS1; have HB := HB1; clear HB1 hQ1 hR1 hP1 hS1; have fQ0 := blk_frozen hQ.out 0; have cQ0 := (blk_cell hQ.out 0).trans rfl; have fQ1 := blk_frozen hQ.out 1; have cQ1 := (blk_cell hQ.out 1).trans rfl; have fQ2 := blk_frozen hQ.out 2; have cQ2 := (blk_cell hQ.out 2).trans rfl; have fQ3 := blk_frozen hQ.out 3; have cQ3 := (blk_cell hQ.out 3).trans rfl; have fQ4 := blk_frozen hQ.out 4; have cQ4 := (blk_cell hQ.out 4).trans rfl; have fQ5 := blk_frozen hQ.out 5; have cQ5 := (blk_cell hQ.out 5).trans rfl; have fQ6 := blk_frozen hQ.out 6; have cQ6 := (blk_cell hQ.out 6).trans rfl; have fQ7 := blk_frozen hQ.out 7; have cQ7 := (blk_cell hQ.out 7).trans rfl; have fR0 := blk_frozen hR.out 0; have cR0 := (blk_cell hR.out 0).trans rfl; have fR1 := blk_frozen hR.out 1; have cR1 := (blk_cell hR.out 1).trans rfl; have fP0 := blk_frozen hP.out 0; have cP0 := (blk_cell hP.out 0).trans rfl; have fP1 := blk_frozen hP.out 1; have cP1 := (blk_cell hP.out 1).trans rfl; have fP2 := blk_frozen hP.out 2; have cP2 := (blk_cell hP.out 2).trans rfl; have fP3 := blk_frozen hP.out 3; have cP3 := (blk_cell hP.out 3).trans rfl; have fS0 := blk_frozen hS.out 0; have cS0 := (blk_cell hS.out 0).trans rfl; have fS1 := blk_frozen hS.out 1; have cS1 := (blk_cell hS.out 1).trans rfl; have fS2 := blk_frozen hS.out 2; have cS2 := (blk_cell hS.out 2).trans rfl)
    clear fQ0 cQ0 fQ1 cQ1 fQ2 cQ2 fQ3 cQ3 fQ4 cQ4 fQ5 cQ5 fQ6 cQ6 fQ7 cQ7 fR0 cR0 fR1 cR1 fP0 cP0 fP1 cP1 fP2 cP2 fP3 cP3 fS0 cS0 fS1 cS1 fS2 cS2
    have hQ1 := Aside0.mk (blk_put (blk_put (blk_put (blk_put (blk_put (blk_put (blk_put (blk_put hQ.out 0 (.string v0) (cs' := #[.string v0, .int .i64 (wrap64 v1), .int .i64 (wrap64 v2), .int .i64 (wrap64 v3), .int .i64 (wrap64 v4), .string v5, .string v6, .string v7]) rfl) 1 (.int .i64 (wrap64 v1)) (cs' := #[.string v0, .int .i64 (wrap64 v1), .int .i64 (wrap64 v2), .int .i64 (wrap64 v3), .int .i64 (wrap64 v4), .string v5, .string v6, .string v7]) rfl) 2 (.int .i64 (wrap64 v2)) (cs' := #[.string v0, .int .i64 (wrap64 v1), .int .i64 (wrap64 v2), .int .i64 (wrap64 v3), .int .i64 (wrap64 v4), .string v5, .string v6, .string v7]) rfl) 3 (.int .i64 (wrap64 v3)) (cs' := #[.string v0, .int .i64 (wrap64 v1), .int .i64 (wrap64 v2), .int .i64 (wrap64 v3), .int .i64 (wrap64 v4), .string v5, .string v6, .string v7]) rfl) 4 (.int .i64 (wrap64 v4)) (cs' := #[.string v0, .int .i64 (wrap64 v1), .int .i64 (wrap64 v2), .int .i64 (wrap64 v3), .int .i64 (wrap64 v4), .string v5, .string v6, .string v7]) rfl) 5 (.string v5) (cs' := #[.string v0, .int .i64 (wrap64 v1), .int .i64 (wrap64 v2), .int .i64 (wrap64 v3), .int .i64 (wrap64 v4), .string v5, .string v6, .string v7]) rfl) 6 (.string v6) (cs' := #[.string v0, .int .i64 (wrap64 v1), .int .i64 (wrap64 v2), .int .i64 (wrap64 v3), .int .i64 (wrap64 v4), .string v5, .string v6, .string v7]) rfl) 7 (.string v7) (cs' := #[.string v0, .int .i64 (wrap64 v1), .int .i64 (wrap64 v2), .int .i64 (wrap64 v3), .int .i64 (wrap64 v4), .string v5, .string v6, .string v7]) rfl)
    have hR1 := Aside0.mk (blk_far (blk_far (blk_far (blk_far (blk_far (blk_far (blk_far (blk_far hR.out (p := ⟨B0, 0, none⟩) (Ne.symm gQR) (.string v0)) (p := ⟨B0, 1, none⟩) (Ne.symm gQR) (.int .i64 (wrap64 v1))) (p := ⟨B0, 2, none⟩) (Ne.symm gQR) (.int .i64 (wrap64 v2))) (p := ⟨B0, 3, none⟩) (Ne.symm gQR) (.int .i64 (wrap64 v3))) (p := ⟨B0, 4, none⟩) (Ne.symm gQR) (.int .i64 (wrap64 v4))) (p := ⟨B0, 5, none⟩) (Ne.symm gQR) (.string v5)) (p := ⟨B0, 6, none⟩) (Ne.symm gQR) (.string v6)) (p := ⟨B0, 7, none⟩) (Ne.symm gQR) (.string v7))
    have hP1 := Aside0.mk (blk_far (blk_far (blk_far (blk_far (blk_far (blk_far (blk_far (blk_far hP.out (p := ⟨B0, 0, none⟩) (Ne.symm gQP) (.string v0)) (p := ⟨B0, 1, none⟩) (Ne.symm gQP) (.int .i64 (wrap64 v1))) (p := ⟨B0, 2, none⟩) (Ne.symm gQP) (.int .i64 (wrap64 v2))) (p := ⟨B0, 3, none⟩) (Ne.symm gQP) (.int .i64 (wrap64 v3))) (p := ⟨B0, 4, none⟩) (Ne.symm gQP) (.int .i64 (wrap64 v4))) (p := ⟨B0, 5, none⟩) (Ne.symm gQP) (.string v5)) (p := ⟨B0, 6, none⟩) (Ne.symm gQP) (.string v6)) (p := ⟨B0, 7, none⟩) (Ne.symm gQP) (.string v7))
    have hS1 := Aside0.mk (blk_far (blk_far (blk_far (blk_far (blk_far (blk_far (blk_far (blk_far hS.out (p := ⟨B0, 0, none⟩) (Ne.symm gQS) (.string v0)) (p := ⟨B0, 1, none⟩) (Ne.symm gQS) (.int .i64 (wrap64 v1))) (p := ⟨B0, 2, none⟩) (Ne.symm gQS) (.int .i64 (wrap64 v2))) (p := ⟨B0, 3, none⟩) (Ne.symm gQS) (.int .i64 (wrap64 v3))) (p := ⟨B0, 4, none⟩) (Ne.symm gQS) (.int .i64 (wrap64 v4))) (p := ⟨B0, 5, none⟩) (Ne.symm gQS) (.string v5)) (p := ⟨B0, 6, none⟩) (Ne.symm gQS) (.string v6)) (p := ⟨B0, 7, none⟩) (Ne.symm gQS) (.string v7))
    have HB1 := Aside0.mk (below_set (j := 7) (v := .string v7) (below_set (j := 6) (v := .string v6) (below_set (j := 5) (v := .string v5) (below_set (j := 4) (v := .int .i64 (wrap64 v4)) (below_set (j := 3) (v := .int .i64 (wrap64 v3)) (below_set (j := 2) (v := .int .i64 (wrap64 v2)) (below_set (j := 1) (v := .int .i64 (wrap64 v1)) (below_set (j := 0) (v := .string v0) HB.out GQ.out) GQ.out) GQ.out) GQ.out) GQ.out) GQ.out) GQ.out) GQ.out)
    clear HB hQ hR hP hS
    generalize hW_ : ((((((((w9.setCell ⟨B0, 0, none⟩ (.string v0)).setCell ⟨B0, 1, none⟩ (.int .i64 (wrap64 v1))).setCell ⟨B0, 2, none⟩ (.int .i64 (wrap64 v2))).setCell ⟨B0, 3, none⟩ (.int .i64 (wrap64 v3))).setCell ⟨B0, 4, none⟩ (.int .i64 (wrap64 v4))).setCell ⟨B0, 5, none⟩ (.string v5)).setCell ⟨B0, 6, none⟩ (.string v6)).setCell ⟨B0, 7, none⟩ (.string v7)) = W9 at *
    clear hW_
    have hQ := hQ1
    have hR := hR1
    have hP := hP1
    have hS := hS1
    have HB := HB1
    clear HB1 hQ1 hR1 hP1 hS1
    have d0 := (blk_cell hQ.out 0).trans rfl
    have d1 := (blk_cell hQ.out 1).trans rfl
    have d2 := (blk_cell hQ.out 2).trans rfl
    have d3 := (blk_cell hQ.out 3).trans rfl
    have d4 := (blk_cell hQ.out 4).trans rfl
    have d5 := (blk_cell hQ.out 5).trans rfl
    have d6 := (blk_cell hQ.out 6).trans rfl
    have d7 := (blk_cell hQ.out 7).trans rfl
    refine bodyPost_ret (v := .tuple #[.agg #[.string v0, .int .i64 (wrap64 v1), .int .i64 (wrap64 v2), .int .i64 (wrap64 v3), .int .i64 (wrap64 v4), .string v5, .string v6, .string v7], .int .i64 0]) (by simp [results, Try.results21, go_sem, hu, d0, d1, d2, d3, d4, d5, d6, d7]) rfl ⟨rfl, HB.out⟩
  | false =>
    have h := HH.out
    rw [if_neg (by simp)] at h
    simp only [Option.some.injEq, Prod.mk.injEq] at h
    obtain ⟨rfl, rfl, rfl, rfl, rfl, rfl, rfl, rfl, rfl⟩ := h
    clear HH
    go_wp2_with (go_at_call 38; refine (pack_Reader_Done.calls s7 b7 false _ A8.out).mono ?_; rintro e w9 ⟨rfl, hb⟩; clear fQ0 cQ0 fQ1 cQ1 fQ2 cQ2 fQ3 cQ3 fQ4 cQ4 fQ5 cQ5 fQ6 cQ6 fQ7 cQ7 fR0 cR0 fR1 cR1 fP0 cP0 fP1 cP1 fP2 cP2 fP3 cP3 fS0 cS0 fS1 cS1 fS2 cS2; have hQ1 := Aside0.mk (blk_below hQ.out hb); have hR1 := Aside0.mk (blk_below hR.out hb); have hP1 := Aside0.mk (blk_below hP.out hb); have hS1 := Aside0.mk (blk_below hS.out hb); have HB1 := Aside0.mk (below_step HB.out hb); clear hb; clear HB hQ hR hP hS; have hQ := hQ1; have hR := hR1; have hP := hP1; have hS := hS1; have HB := HB1; clear HB1 hQ1 hR1 hP1 hS1; have fQ0 := blk_frozen hQ.out 0; have cQ0 := (blk_cell hQ.out 0).trans rfl; have fQ1 := blk_frozen hQ.out 1; have cQ1 := (blk_cell hQ.out 1).trans rfl; have fQ2 := blk_frozen hQ.out 2; have cQ2 := (blk_cell hQ.out 2).trans rfl; have fQ3 := blk_frozen hQ.out 3; have cQ3 := (blk_cell hQ.out 3).trans rfl; have fQ4 := blk_frozen hQ.out 4; have cQ4 := (blk_cell hQ.out 4).trans rfl; have fQ5 := blk_frozen hQ.out 5; have cQ5 := (blk_cell hQ.out 5).trans rfl; have fQ6 := blk_frozen hQ.out 6; have cQ6 := (blk_cell hQ.out 6).trans rfl; have fQ7 := blk_frozen hQ.out 7; have cQ7 := (blk_cell hQ.out 7).trans rfl; have fR0 := blk_frozen hR.out 0; have cR0 := (blk_cell hR.out 0).trans rfl; have fR1 := blk_frozen hR.out 1; have cR1 := (blk_cell hR.out 1).trans rfl; have fP0 := blk_frozen hP.out 0; have cP0 := (blk_cell hP.out 0).trans rfl; have fP1 := blk_frozen hP.out 1; have cP1 := (blk_cell hP.out 1).trans rfl; have fP2 := blk_frozen hP.out 2; have cP2 := (blk_cell hP.out 2).trans rfl; have fP3 := blk_frozen hP.out 3; have cP3 := (blk_cell hP.out 3).trans rfl; have fS0 := blk_frozen hS.out 0; have cS0 := (blk_cell hS.out 0).trans rfl; have fS1 := blk_frozen hS.out 1; have cS1 := (blk_cell hS.out 1).trans rfl; have fS2 := blk_frozen hS.out 2; have cS2 := (blk_cell hS.out 2).trans rfl)
    clear fQ0 cQ0 fQ1 cQ1 fQ2 cQ2 fQ3 cQ3 fQ4 cQ4 fQ5 cQ5 fQ6 cQ6 fQ7 cQ7 fR0 cR0 fR1 cR1 fP0 cP0 fP1 cP1 fP2 cP2 fP3 cP3 fS0 cS0 fS1 cS1 fS2 cS2
    have hQ1 := Aside0.mk (blk_put (blk_put (blk_put (blk_put (blk_put (blk_put (blk_put (blk_put hQ.out 0 (.string (⟨#[]⟩ : ByteArray)) (cs' := #[.string (⟨#[]⟩ : ByteArray), .int .i64 (wrap64 v1), .int .i64 (wrap64 v2), .int .i64 (wrap64 v3), .int .i64 (wrap64 v4), .string v5, .string v6, .string v7]) rfl) 1 (.int .i64 0) (cs' := #[.string (⟨#[]⟩ : ByteArray), .int .i64 0, .int .i64 (wrap64 v2), .int .i64 (wrap64 v3), .int .i64 (wrap64 v4), .string v5, .string v6, .string v7]) rfl) 2 (.int .i64 0) (cs' := #[.string (⟨#[]⟩ : ByteArray), .int .i64 0, .int .i64 0, .int .i64 (wrap64 v3), .int .i64 (wrap64 v4), .string v5, .string v6, .string v7]) rfl) 3 (.int .i64 0) (cs' := #[.string (⟨#[]⟩ : ByteArray), .int .i64 0, .int .i64 0, .int .i64 0, .int .i64 (wrap64 v4), .string v5, .string v6, .string v7]) rfl) 4 (.int .i64 0) (cs' := #[.string (⟨#[]⟩ : ByteArray), .int .i64 0, .int .i64 0, .int .i64 0, .int .i64 0, .string v5, .string v6, .string v7]) rfl) 5 (.string (⟨#[]⟩ : ByteArray)) (cs' := #[.string (⟨#[]⟩ : ByteArray), .int .i64 0, .int .i64 0, .int .i64 0, .int .i64 0, .string (⟨#[]⟩ : ByteArray), .string v6, .string v7]) rfl) 6 (.string (⟨#[]⟩ : ByteArray)) (cs' := #[.string (⟨#[]⟩ : ByteArray), .int .i64 0, .int .i64 0, .int .i64 0, .int .i64 0, .string (⟨#[]⟩ : ByteArray), .string (⟨#[]⟩ : ByteArray), .string v7]) rfl) 7 (.string (⟨#[]⟩ : ByteArray)) (cs' := #[.string (⟨#[]⟩ : ByteArray), .int .i64 0, .int .i64 0, .int .i64 0, .int .i64 0, .string (⟨#[]⟩ : ByteArray), .string (⟨#[]⟩ : ByteArray), .string (⟨#[]⟩ : ByteArray)]) rfl)
    have hR1 := Aside0.mk (blk_far (blk_far (blk_far (blk_far (blk_far (blk_far (blk_far (blk_far hR.out (p := ⟨B0, 0, none⟩) (Ne.symm gQR) (.string (⟨#[]⟩ : ByteArray))) (p := ⟨B0, 1, none⟩) (Ne.symm gQR) (.int .i64 0)) (p := ⟨B0, 2, none⟩) (Ne.symm gQR) (.int .i64 0)) (p := ⟨B0, 3, none⟩) (Ne.symm gQR) (.int .i64 0)) (p := ⟨B0, 4, none⟩) (Ne.symm gQR) (.int .i64 0)) (p := ⟨B0, 5, none⟩) (Ne.symm gQR) (.string (⟨#[]⟩ : ByteArray))) (p := ⟨B0, 6, none⟩) (Ne.symm gQR) (.string (⟨#[]⟩ : ByteArray))) (p := ⟨B0, 7, none⟩) (Ne.symm gQR) (.string (⟨#[]⟩ : ByteArray)))
    have hP1 := Aside0.mk (blk_far (blk_far (blk_far (blk_far (blk_far (blk_far (blk_far (blk_far hP.out (p := ⟨B0, 0, none⟩) (Ne.symm gQP) (.string (⟨#[]⟩ : ByteArray))) (p := ⟨B0, 1, none⟩) (Ne.symm gQP) (.int .i64 0)) (p := ⟨B0, 2, none⟩) (Ne.symm gQP) (.int .i64 0)) (p := ⟨B0, 3, none⟩) (Ne.symm gQP) (.int .i64 0)) (p := ⟨B0, 4, none⟩) (Ne.symm gQP) (.int .i64 0)) (p := ⟨B0, 5, none⟩) (Ne.symm gQP) (.string (⟨#[]⟩ : ByteArray))) (p := ⟨B0, 6, none⟩) (Ne.symm gQP) (.string (⟨#[]⟩ : ByteArray))) (p := ⟨B0, 7, none⟩) (Ne.symm gQP) (.string (⟨#[]⟩ : ByteArray)))
    have hS1 := Aside0.mk (blk_far (blk_far (blk_far (blk_far (blk_far (blk_far (blk_far (blk_far hS.out (p := ⟨B0, 0, none⟩) (Ne.symm gQS) (.string (⟨#[]⟩ : ByteArray))) (p := ⟨B0, 1, none⟩) (Ne.symm gQS) (.int .i64 0)) (p := ⟨B0, 2, none⟩) (Ne.symm gQS) (.int .i64 0)) (p := ⟨B0, 3, none⟩) (Ne.symm gQS) (.int .i64 0)) (p := ⟨B0, 4, none⟩) (Ne.symm gQS) (.int .i64 0)) (p := ⟨B0, 5, none⟩) (Ne.symm gQS) (.string (⟨#[]⟩ : ByteArray))) (p := ⟨B0, 6, none⟩) (Ne.symm gQS) (.string (⟨#[]⟩ : ByteArray))) (p := ⟨B0, 7, none⟩) (Ne.symm gQS) (.string (⟨#[]⟩ : ByteArray)))
    have HB1 := Aside0.mk (below_set (j := 7) (v := .string (⟨#[]⟩ : ByteArray)) (below_set (j := 6) (v := .string (⟨#[]⟩ : ByteArray)) (below_set (j := 5) (v := .string (⟨#[]⟩ : ByteArray)) (below_set (j := 4) (v := .int .i64 0) (below_set (j := 3) (v := .int .i64 0) (below_set (j := 2) (v := .int .i64 0) (below_set (j := 1) (v := .int .i64 0) (below_set (j := 0) (v := .string (⟨#[]⟩ : ByteArray)) HB.out GQ.out) GQ.out) GQ.out) GQ.out) GQ.out) GQ.out) GQ.out) GQ.out)
    clear HB hQ hR hP hS
    generalize hW_ : ((((((((w9.setCell ⟨B0, 0, none⟩ (.string (⟨#[]⟩ : ByteArray))).setCell ⟨B0, 1, none⟩ (.int .i64 0)).setCell ⟨B0, 2, none⟩ (.int .i64 0)).setCell ⟨B0, 3, none⟩ (.int .i64 0)).setCell ⟨B0, 4, none⟩ (.int .i64 0)).setCell ⟨B0, 5, none⟩ (.string (⟨#[]⟩ : ByteArray))).setCell ⟨B0, 6, none⟩ (.string (⟨#[]⟩ : ByteArray))).setCell ⟨B0, 7, none⟩ (.string (⟨#[]⟩ : ByteArray))) = W9 at *
    clear hW_
    have hQ := hQ1
    have hR := hR1
    have hP := hP1
    have hS := hS1
    have HB := HB1
    clear HB1 hQ1 hR1 hP1 hS1
    have d0 := (blk_cell hQ.out 0).trans rfl
    have d1 := (blk_cell hQ.out 1).trans rfl
    have d2 := (blk_cell hQ.out 2).trans rfl
    have d3 := (blk_cell hQ.out 3).trans rfl
    have d4 := (blk_cell hQ.out 4).trans rfl
    have d5 := (blk_cell hQ.out 5).trans rfl
    have d6 := (blk_cell hQ.out 6).trans rfl
    have d7 := (blk_cell hQ.out 7).trans rfl
    refine bodyPost_ret (v := .tuple #[.agg #[.string (⟨#[]⟩ : ByteArray), .int .i64 0, .int .i64 0, .int .i64 0, .int .i64 0, .string (⟨#[]⟩ : ByteArray), .string (⟨#[]⟩ : ByteArray), .string (⟨#[]⟩ : ByteArray)], .int .i64 2]) (by simp [results, Try.results21, go_sem, hu, d0, d1, d2, d3, d4, d5, d6, d7]) rfl ⟨rfl, HB.out⟩


end Go.Proofs.Ytplgbkobpanbfaa.Q
