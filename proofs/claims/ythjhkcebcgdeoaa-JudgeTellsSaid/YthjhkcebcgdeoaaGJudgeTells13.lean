import Derived.Test.YthjhkcebcgdeoaaGJudgeTells2
import Derived.Test.YthjhkcebcgdeoaaGJudgeTells7
namespace Go.Proofs.Ythjhkcebcgdeoaa.Q
open Go.RowKit Go.Proofs.YthjhkcebcgdeoaaW.PrintWords Go.Proofs.YthjhkcebcgdeoaaW.PrintLast Go.Proofs.YthjhkcebcgdeoaaW.PrintMore
attribute [local go_sem] max2_int min2_int max_two min_two max_three min_three max_four min_four   -- for this text's walks alone
set_option linter.unusedVariables false
set_option linter.unusedSimpArgs false
mutual
def tenementref22_Order.l0 : Nat → List (S81) → List Int → Int → Option (List Int)
 | 0, _, _, _ => none
 | k + 1, x0, x3, x4 => if x4 < (x0.length : Int) then (tenementref22_Order.l1 k x0 x3 x4 (x3.length : Int)) else (some x3)
def tenementref22_Order.l1 : Nat → List (S81) → List Int → Int → Int → Option (List Int)
 | 0, _, _, _, _ => none
 | k + 1, x0, x3, x4, x5 => if x5 > 0 then (if 0 ≤ (wrap64 (x5 - 1)) then (if (wrap64 (x5 - 1)) < (x3.length : Int) then (if 0 ≤ (rd x3 (wrap64 (x5 - 1))) then (if (rd x3 (wrap64 (x5 - 1))) < (x0.length : Int) then (if 0 ≤ x4 then (if x4 < (x0.length : Int) then ((tenementref07_Order.f k ((rd_T81 x0 (rd x3 (wrap64 (x5 - 1)))).f0.f0.f0) ((rd_T81 x0 (rd x3 (wrap64 (x5 - 1)))).f0.f0.f1) ((rd_T81 x0 (rd x3 (wrap64 (x5 - 1)))).f0.f0.f2) ((rd_T81 x0 (rd x3 (wrap64 (x5 - 1)))).f0.f0.f3) ((rd_T81 x0 (rd x3 (wrap64 (x5 - 1)))).f0.f1) ((rd_T81 x0 x4).f0.f0.f0) ((rd_T81 x0 x4).f0.f0.f1) ((rd_T81 x0 x4).f0.f0.f2) ((rd_T81 x0 x4).f0.f0.f3) ((rd_T81 x0 x4).f0.f1)).bind fun t251 => (if t251 > 0 then (tenementref22_Order.l1 k x0 x3 x4 (wrap64 (x5 - 1))) else (if 0 ≤ x5 then (if x5 ≤ (x3.length : Int) then ((some (x3.take (x5 : Int).toNat : List Int)).bind fun y252 => (if ([] : List Int).length + y252.length < 17592186044416 then ((some (([] : List Int) ++ y252 : List Int)).bind fun y256 => (if y256.length < 17592186044416 then ((some (y256 ++ [x4] : List Int)).bind fun y259 => ((some (x3.drop (x5 : Int).toNat : List Int)).bind fun y262 => (if y259.length + y262.length < 17592186044416 then (tenementref22_Order.l0 k x0 (y259 ++ y262) (wrap64 (x4 + 1))) else (none)))) else (none))) else (none))) else (none)) else (none)))) else (none)) else (none)) else (none)) else (none)) else (none)) else (none)) else (if 0 ≤ x5 then (if x5 ≤ (x3.length : Int) then ((some (x3.take (x5 : Int).toNat : List Int)).bind fun y269 => (if ([] : List Int).length + y269.length < 17592186044416 then ((some (([] : List Int) ++ y269 : List Int)).bind fun y273 => (if y273.length < 17592186044416 then ((some (y273 ++ [x4] : List Int)).bind fun y276 => ((some (x3.drop (x5 : Int).toNat : List Int)).bind fun y279 => (if y276.length + y279.length < 17592186044416 then (tenementref22_Order.l0 k x0 (y276 ++ y279) (wrap64 (x4 + 1))) else (none)))) else (none))) else (none))) else (none)) else (none))
end
def tenementref22_Order.f (k : Nat) (l0 : List (S81)) : Option (List Int) := tenementref22_Order.l0 k l0 ([] : List Int) 0
def tenementref22_Order.T6 : Bool × List (List Nat × List Nat) := (true, [([], []), ([0], [0]), ([1], [1]), ([2], [2]), ([2], [2]), ([2], [2]), ([5, 2], [2, 5]), ([4, 6, 2], [2, 4, 6]), ([7, 2], [2, 7]), ([3, 8, 2], [2, 3, 8]), ([9, 2], [2, 9]), ([10, 2], [2, 10]), ([2], [2]), ([2], [2]), ([12, 13, 2], [2, 12, 13]), ([14, 2], [2, 14]), ([15, 2], [2, 15]), ([11, 16, 2, 2], [2, 11, 16]), ([17, 2], [2, 17]), ([2, 18], [2, 18])])
def tenementref22_Order.B6 : List Nat := [0, 1, 3, 7, 7, 7, 39, 119, 247, 511, 1023, 2047, 7, 7, 12295, 28679, 61447, 131071, 262143, 524287]
theorem tenementref22_Order.tab6 : rtab .any (opsOf Try.f19 6) = tenementref22_Order.T6 := by kernel_rfl
theorem tenementref22_Order.bits6 : waitsOk tenementref22_Order.T6.2 tenementref22_Order.B6 = true := by kernel_rfl
set_option maxHeartbeats 8000000 in
set_option maxRecDepth 100000 in
theorem tenementref22_Order.calls (k : Nat) (A0 : Option Addr) (c0 : Nat) (l0 : List (S81)) (r : List Int) (w : World) (hr0 : Kd.C k81 w A0 l0.length l0) (hc0 : l0.length ≤ c0) (h : tenementref22_Order.f k l0 = some r) :
  Calls Try.prog 19 #[.slice A0 l0.length c0] w fun e w' => ∃ v0_ : Value, e = .returned (v0_) ∧ Kd.R (Kd.int .i64) 3 w' w.heap.size (fun _ => True) v0_ r ∧ Below w.heap.size w w' := by
 have hu78 := Try.underlying78
 have HR0 := Aside0.mk hr0
 have HC0 := Aside0.mk hc0
 clear hr0 hc0
 have HB := Aside0.mk (Below.refl w.heap.size w)
 have H : (tenementref22_Order.l0 k l0 ([] : List Int) 0) = some r := h
 clear h
 have H' := Aside0.mk H
 clear H
 go_enter Try.func19, Try.ntmps19
 go_wp2
 go_loopg [3, 4] k (fun kq v3 v4 w' => ∃ (x3_1 : List Int) (x4_1 : Int), v4 = .int .i64 x4_1 ∧ Aside0 (tenementref22_Order.l0 kq l0 x3_1 x4_1 = some r) ∧ Aside0 (kq ≤ k) ∧ Aside0 (Kd.R (Kd.int .i64) 3 w' w.heap.size (fun _ => True) v3 x3_1) ∧ Aside0 (Below w.heap.size w w'))
 case atStart => exact ⟨(([] : List Int)), (0), (by first | rfl | (simp; done) | (simp [*]; done)), H', ⟨Nat.le_refl _⟩, ⟨by first | exact Kd.R_nil _ _ _ _ _ | exact Kd.N_nil _ _ _ _ _ | exact Kd.V_nil _ _ _ _ _ | exact Kd.Q_nil _ _ _ _ _ | exact Kd.S_nil _ _ _ _ _⟩, ⟨Ky_ HB⟩⟩
 case round =>
  clear H'
  try clear c1
  obtain ⟨x3_1, x4_1, rfl, HA, HK1, HO_3, HB⟩ := hrel
  cases gk with
  | zero => exact absurd HA.out (by simp [tenementref22_Order.l0])
  | succ k1 =>
   have H := HA.out
   clear HA
   simp only [tenementref22_Order.l0] at H
   by_cases c2 : x4_1 < (l0.length : Int)
   rotate_left
   ·rw [if_neg c2] at H
    have c2b0 : decide (x4_1 < (l0.length : Int)) = false := decide_eq_false c2
    clear c2
    obtain rfl := Option.some.inj H
    go_wp2
    go_ret
    exact ⟨_, by first | rfl | (simp [errW_none, errW_some] <;> rfl) | (simp [*, errW_none, errW_some] <;> rfl), by (with_reducible repeat (first | apply Kd.R_alloc | apply Kd.R_drewN | apply Kd.R_drew)); exact HO_3.out, Ky_ HB⟩
   rw [if_pos c2] at H
   have c2b0 : decide (x4_1 < (l0.length : Int)) = true := decide_eq_true c2
   clear c2
   have H' := Aside0.mk H
   clear H
   obtain ⟨Ao3, co3, eo3⟩ := Kd.R_slice HO_3.out
   subst eo3
   go_wp2
   go_loopg [5] k1 (fun kq v5 w' => ∃ (x5_2 : Int), v5 = .int .i64 x5_2 ∧ Aside0 (tenementref22_Order.l1 kq l0 x3_1 x4_1 x5_2 = some r) ∧ Aside0 (kq ≤ k1) ∧ Aside0 (Kd.R (Kd.int .i64) 3 w' w.heap.size (fun _ => True) (.slice Ao3 x3_1.length co3) x3_1) ∧ Aside0 (Below w.heap.size w w'))
   case atStart => exact ⟨((x3_1.length : Int)), (by first | rfl | (simp; done) | (simp [*]; done)), H', ⟨Nat.le_refl _⟩, ⟨by (with_reducible repeat (first | apply Kd.R_alloc | apply Kd.R_drewN | apply Kd.R_drew)); exact HO_3.out⟩, ⟨Ky_ HB⟩⟩
   case round =>
    clear H'
    try clear c1
    try clear c2
    try clear c2b0
    try clear p2
    obtain ⟨x5_2, rfl, HA, HK2, HO_3, HB⟩ := hrel
    cases gk with
    | zero => exact absurd HA.out (by simp [tenementref22_Order.l1])
    | succ k2 =>
     have H := HA.out
     clear HA
     simp only [tenementref22_Order.l1] at H
     by_cases c4 : x5_2 > 0
     rotate_left
     ·rw [if_neg c4] at H
      have c4b0 : decide (0 < x5_2) = false := decide_eq_false c4
      clear c4
      by_cases c30 : 0 ≤ x5_2
      rotate_left
      ·rw [if_neg c30] at H
       exact absurd H (by simp)
      rw [if_pos c30] at H
      have c30b0 := eq_true c30
      have c30b1 : decide (0 ≤ x5_2) = true := decide_eq_true c30
      clear c30
      by_cases c31 : x5_2 ≤ (x3_1.length : Int)
      rotate_left
      ·rw [if_neg c31] at H
       exact absurd H (by simp)
      rw [if_pos c31] at H
      have c31b0 := eq_true c31
      have c31b1 : decide (x5_2 ≤ (x3_1.length : Int)) = true := decide_eq_true c31
      clear c31
      obtain ⟨y269, hy269⟩ : ∃ y_ : List Int, y_ = (x3_1.take (x5_2 : Int).toNat) := ⟨_, rfl⟩
      replace H : (if ([] : List Int).length + y269.length < 17592186044416 then ((some (([] : List Int) ++ y269 : List Int)).bind fun y273 => (if y273.length < 17592186044416 then ((some (y273 ++ [x4_1] : List Int)).bind fun y276 => ((some (x3_1.drop (x5_2 : Int).toNat : List Int)).bind fun y279 => (if y276.length + y279.length < 17592186044416 then (tenementref22_Order.l0 k2 l0 (y276 ++ y279) (wrap64 (x4_1 + 1))) else (none)))) else (none))) else (none)) = some r := by first | (rw [hy269]; with_reducible exact H) | (have H2_ := (Option.bind_some _ _).symm.trans H; rw [hy269]; with_reducible exact H2_) | (have H2_ := (Option.bind_some _ _).symm.trans H; with_reducible exact H2_) | with_reducible exact H | (rw [hy269]; exact H) | exact H
      have Ny269 := Aside0.mk hy269
      clear hy269
      by_cases c32 : ([] : List Int).length + y269.length < 17592186044416
      rotate_left
      ·rw [if_neg c32] at H
       exact absurd H (by simp)
      rw [if_pos c32] at H
      have LMc32 := Aside0.mk c32
      clear c32
      obtain ⟨y273, hy273⟩ : ∃ y_ : List Int, y_ = (([] : List Int) ++ y269) := ⟨_, rfl⟩
      replace H : (if y273.length < 17592186044416 then ((some (y273 ++ [x4_1] : List Int)).bind fun y276 => ((some (x3_1.drop (x5_2 : Int).toNat : List Int)).bind fun y279 => (if y276.length + y279.length < 17592186044416 then (tenementref22_Order.l0 k2 l0 (y276 ++ y279) (wrap64 (x4_1 + 1))) else (none)))) else (none)) = some r := by first | (rw [hy273]; with_reducible exact H) | (have H2_ := (Option.bind_some _ _).symm.trans H; rw [hy273]; with_reducible exact H2_) | (have H2_ := (Option.bind_some _ _).symm.trans H; with_reducible exact H2_) | with_reducible exact H | (rw [hy273]; exact H) | exact H
      have Ny273 := Aside0.mk hy273
      clear hy273
      by_cases c33 : y273.length < 17592186044416
      rotate_left
      ·rw [if_neg c33] at H
       exact absurd H (by simp)
      rw [if_pos c33] at H
      have LMc33 := Aside0.mk c33
      clear c33
      obtain ⟨y276, hy276⟩ : ∃ y_ : List Int, y_ = (y273 ++ [x4_1]) := ⟨_, rfl⟩
      replace H : ((some (x3_1.drop (x5_2 : Int).toNat : List Int)).bind fun y279 => (if y276.length + y279.length < 17592186044416 then (tenementref22_Order.l0 k2 l0 (y276 ++ y279) (wrap64 (x4_1 + 1))) else (none))) = some r := by first | (rw [hy276]; with_reducible exact H) | (have H2_ := (Option.bind_some _ _).symm.trans H; rw [hy276]; with_reducible exact H2_) | (have H2_ := (Option.bind_some _ _).symm.trans H; with_reducible exact H2_) | with_reducible exact H | (rw [hy276]; exact H) | exact H
      have Ny276 := Aside0.mk hy276
      clear hy276
      have c34b0 := eq_true (of_decide_eq_true (by first | (with_reducible assumption) | assumption) : 0 ≤ x5_2)
      have c35b0 := eq_true (of_decide_eq_true (by first | (with_reducible assumption) | assumption) : x5_2 ≤ (x3_1.length : Int))
      obtain ⟨y279, hy279⟩ : ∃ y_ : List Int, y_ = (x3_1.drop (x5_2 : Int).toNat) := ⟨_, rfl⟩
      replace H : (if y276.length + y279.length < 17592186044416 then (tenementref22_Order.l0 k2 l0 (y276 ++ y279) (wrap64 (x4_1 + 1))) else (none)) = some r := by first | (rw [hy279]; with_reducible exact H) | (have H2_ := (Option.bind_some _ _).symm.trans H; rw [hy279]; with_reducible exact H2_) | (have H2_ := (Option.bind_some _ _).symm.trans H; with_reducible exact H2_) | with_reducible exact H | (rw [hy279]; exact H) | exact H
      have Ny279 := Aside0.mk hy279
      clear hy279
      by_cases c36 : y276.length + y279.length < 17592186044416
      rotate_left
      ·rw [if_neg c36] at H
       exact absurd H (by simp)
      rw [if_pos c36] at H
      have LMc36 := Aside0.mk c36
      clear c36
      obtain ⟨y283, hy283⟩ : ∃ y_ : List Int, y_ = (y276 ++ y279) := ⟨_, rfl⟩
      replace H : (tenementref22_Order.l0 k2 l0 y283 (wrap64 (x4_1 + 1))) = some r := by first | (rw [hy283]; with_reducible exact H) | (have H2_ := (Option.bind_some _ _).symm.trans H; rw [hy283]; with_reducible exact H2_) | (have H2_ := (Option.bind_some _ _).symm.trans H; with_reducible exact H2_) | with_reducible exact H | (rw [hy283]; exact H) | exact H
      have Ny283 := Aside0.mk hy283
      clear hy283
      have H' := Aside0.mk H
      clear H
      try go_wp2
      replace HO_3 := Aside0.mk (Kd.R_drew HO_3.out)
      replace HB := Aside0.mk (below_drew1 HB.out)
      refine start_ (n := 20) (S := fun w' => True) (ds := []) (mB_ 20 0) (by kernel_rfl) rfl rfl trivial (fun hHeld => ?_); refine with_tabW tenementref22_Order.tab6 tenementref22_Order.bits6 (fun HT_ HW_ => ?_)
      generalize wr.drew = w37 at HO_3 HB hHeld ⊢
      refine Kp_ 0 15 (Bz 20 1) (any_of HT_.out (by kernel_rfl)) ?_
      refine Kp_ 1 16 (Bz 20 3) (any_of HT_.out (by kernel_rfl)) ?_
      refine Kp_ 2 17 (Bz 20 7) (any_of HT_.out (by kernel_rfl)) ?_
      refine pure_ (i := 3) (N := some 18) (v := undef) (a' := ?_) (mB_ 20 15) rfl rfl (any_of HT_.out (by kernel_rfl)) (fun _ _ _ h => h) (Or.inr ⟨by rfl, rfl⟩) ?_ ?_
      rotate_left
      ·simp only [Act.put, List.setIfInBounds_toArray, List.set_cons_zero, List.set_cons_succ, i64_w, i32_w]
       rfl
      refine pure_ (i := 4) (N := some 19) (v := undef) (a' := ?_) (mB_ 20 31) rfl rfl (any_of HT_.out (by kernel_rfl)) (fun _ _ _ h => h) (Or.inr ⟨by rfl, rfl⟩) ?_ ?_
      rotate_left
      ·simp only [Act.put, List.setIfInBounds_toArray, List.set_cons_zero, List.set_cons_succ, i64_w, i32_w]
       rfl
      refine pure_ (i := 5) (N := some 20) (v := undef) (a' := ?_) (mB_ 20 63) rfl rfl (any_of HT_.out (by kernel_rfl)) (fun _ _ _ h => h) (Or.inr ⟨by rfl, rfl⟩) ?_ ?_
      rotate_left
      ·simp only [Act.put, List.setIfInBounds_toArray, List.set_cons_zero, List.set_cons_succ, i64_w, i32_w]
       rfl
      refine pure_ (i := 6) (N := some 21) (v := undef) (a' := ?_) (mB_ 20 127) rfl rfl (any_of HT_.out (by kernel_rfl)) (fun _ _ _ h => h) (Or.inr ⟨by rfl, rfl⟩) ?_ ?_
      rotate_left
      ·simp only [Act.put, List.setIfInBounds_toArray, List.set_cons_zero, List.set_cons_succ, i64_w, i32_w]
       rfl
      refine pure_ (i := 7) (N := some 22) (v := undef) (a' := ?_) (mB_ 20 255) rfl rfl (any_of HT_.out (by kernel_rfl)) (fun _ _ _ h => h) (Or.inr ⟨by rfl, rfl⟩) ?_ ?_
      rotate_left
      ·simp only [Act.put, List.setIfInBounds_toArray, List.set_cons_zero, List.set_cons_succ, i64_w, i32_w]
       rfl
      refine pure_ (i := 8) (N := some 23) (v := undef) (a' := ?_) (mB_ 20 511) rfl rfl (any_of HT_.out (by kernel_rfl)) (fun _ _ _ h => h) (Or.inr ⟨by rfl, rfl⟩) ?_ ?_
      rotate_left
      ·simp only [Act.put, List.setIfInBounds_toArray, List.set_cons_zero, List.set_cons_succ, i64_w, i32_w]
       rfl
      refine pure_ (i := 9) (N := some 24) (v := undef) (a' := ?_) (mB_ 20 1023) rfl rfl (any_of HT_.out (by kernel_rfl)) (fun _ _ _ h => h) (Or.inr ⟨by rfl, rfl⟩) ?_ ?_
      rotate_left
      ·simp only [Act.put, List.setIfInBounds_toArray, List.set_cons_zero, List.set_cons_succ, i64_w, i32_w]
       rfl
      refine pure_ (i := 10) (N := some 25) (v := undef) (a' := ?_) (mB_ 20 2047) rfl rfl (any_of HT_.out (by kernel_rfl)) (fun _ _ _ h => h) (Or.inr ⟨by rfl, rfl⟩) ?_ ?_
      rotate_left
      ·simp only [Act.put, List.setIfInBounds_toArray, List.set_cons_zero, List.set_cons_succ, i64_w, i32_w]
       rfl
      refine pure_ (i := 11) (N := some 26) (v := undef) (a' := ?_) (mB_ 20 4095) rfl rfl (any_of HT_.out (by kernel_rfl)) (fun _ _ _ h => h) (Or.inr ⟨by rfl, rfl⟩) ?_ ?_
      rotate_left
      ·simp only [Act.put, List.setIfInBounds_toArray, List.set_cons_zero, List.set_cons_succ, i64_w, i32_w]
       rfl
      refine pure_ (i := 12) (N := some 27) (v := undef) (a' := ?_) (mB_ 20 8191) rfl rfl (any_of HT_.out (by kernel_rfl)) (fun _ _ _ h => h) (Or.inr ⟨by rfl, rfl⟩) ?_ ?_
      rotate_left
      ·simp only [Act.put, List.setIfInBounds_toArray, List.set_cons_zero, List.set_cons_succ, i64_w, i32_w]
       rfl
      refine pure_ (i := 13) (N := some 28) (v := undef) (a' := ?_) (mB_ 20 16383) rfl rfl (any_of HT_.out (by kernel_rfl)) (fun _ _ _ h => h) (Or.inr ⟨by rfl, rfl⟩) ?_ ?_
      rotate_left
      ·simp only [Act.put, List.setIfInBounds_toArray, List.set_cons_zero, List.set_cons_succ, i64_w, i32_w]
       rfl
      refine pure_ (i := 14) (N := some 29) (v := undef) (a' := ?_) (mB_ 20 32767) rfl rfl (any_of HT_.out (by kernel_rfl)) (fun _ _ _ h => h) (Or.inr ⟨by rfl, rfl⟩) ?_ ?_
      rotate_left
      ·simp only [Act.put, List.setIfInBounds_toArray, List.set_cons_zero, List.set_cons_succ, i64_w, i32_w]
       rfl
      refine pure_ (i := 15) (N := some 30) (v := undef) (a' := ?_) (mB_ 20 65535) rfl rfl (any_of HT_.out (by kernel_rfl)) (fun _ _ _ h => h) (Or.inr ⟨by rfl, rfl⟩) ?_ ?_
      rotate_left
      ·simp only [Act.put, List.setIfInBounds_toArray, List.set_cons_zero, List.set_cons_succ, i64_w, i32_w]
       rfl
      refine pure_ (i := 16) (N := some 31) (v := undef) (a' := ?_) (mB_ 20 131071) rfl rfl (any_of HT_.out (by kernel_rfl)) (fun _ _ _ h => h) (Or.inr ⟨by rfl, rfl⟩) ?_ ?_
      rotate_left
      ·simp only [Act.put, List.setIfInBounds_toArray, List.set_cons_zero, List.set_cons_succ, i64_w, i32_w]
       rfl
      refine pure_ (i := 17) (N := some 32) (v := undef) (a' := ?_) (mB_ 20 262143) rfl rfl (any_of HT_.out (by kernel_rfl)) (fun _ _ _ h => h) (Or.inr ⟨by rfl, rfl⟩) ?_ ?_
      rotate_left
      ·simp only [Act.put, List.setIfInBounds_toArray, List.set_cons_zero, List.set_cons_succ, i64_w, i32_w]
       rfl
      refine pure_ (i := 18) (N := some 33) (v := undef) (a' := ?_) (mB_ 20 524287) rfl rfl (any_of HT_.out (by kernel_rfl)) (fun _ _ _ h => h) (Or.inr ⟨by rfl, rfl⟩) ?_ ?_
      rotate_left
      ·simp only [Act.put, List.setIfInBounds_toArray, List.set_cons_zero, List.set_cons_succ, i64_w, i32_w]
       rfl
      refine Kp_ 19 34 (Bz 20 1048575) (any_of HT_.out (by kernel_rfl)) ?_
      refine done_ (done_of HT_.out (by kernel_rfl)) ?_
      have q38 : (x5_2 : Int) ≤ ((x3_1.length : Int) : Int) := of_decide_eq_true (by first | (with_reducible assumption) | assumption)
      obtain ⟨i038, hi038, _, hsz38, _⟩ := info_parts info3
      have hroom38 : x3_1.length ≤ co3 := (Kd.R_reads' HO_3.out).2.1
      have hC38 : Kd.C (Kd.int .i64) _ Ao3 x3_1.length x3_1 := (Kd.R_reads' HO_3.out).2.2
      have hcut38 := cut_to (P := Try.prog) 45 3 .i64 Try.underlying45 hi038 Ao3 x3_1.length co3 x5_2 (of_decide_eq_true (by first | (with_reducible assumption) | assumption)) q38 hroom38
      have hr38 := Kd.C_take (m := (x5_2 : Int).toNat) hC38 (by omega)
      have hy38 : y269.length = (x5_2 : Int).toNat := (by rw [Ny269.out, List.length_take]; omega)
      rw [← Ny269.out] at hr38
      rw [← hy38] at hcut38
      have HR272 := Aside0.mk hr38
      have HC272 := Aside0.mk (show y269.length ≤ co3 from by omega)
      clear hr38 hC38 hroom38 hi038 hsz38
      have KY38 := Aside0.mk hy38
      clear hy38
      have KL38 := Aside0.mk (show (x5_2 : Int).toNat ≤ x3_1.length from by omega)
      replace q38 := eq_true q38
      try go_wp2_with (first | ((with_reducible refine gate_builtin (b := .append) (xs := #[(.tmp 37), .tmp 40]) rfl ?_); at_builtin; refine Kd.R_append_rows (Kd.int .i64) (w0 := w) w.heap.size rfl (.tmp 37) (.tmp 40) 45 3 (.int .i64 0) 8 rfl Try.underlying45 info3 rfl (by decide) (by omega) (.slice none 0 0) ([] : List Int) y269 _ _ _ (fun k_ => some k_ ≠ (.slice Ao3 x3_1.length co3 : Value).ownBlock) (fun _ => False) rfl rfl ?aO ?aR (fun _ _ h => h) (fun _ h => h.elim) ?aF ?aB ?aS ?aL ?_; (case aR => repeat (first | exact (by repeat (first | (with_reducible exact HR272.out) | (with_reducible refine Kd.C_alloc ?_ _) | (with_reducible refine Kd.C_drewN ?_ _) | (with_reducible refine Kd.C_drew ?_) | exact HR272.out)) | (with_reducible refine Kd.C_alloc ?_ _) | (with_reducible refine Kd.C_drewN ?_ _) | (with_reducible refine Kd.C_drew ?_))); (case aB => exact (Ky_ HB)); (case aF => exact (fun k_ hk => Kd.fresh' (Kd.R_lt (Ku_ HO_3)) k_ hk)); (case aO => exact ((Kd.R_nil _ _ _ _ (fun k_ => some k_ ≠ (.slice Ao3 x3_1.length co3 : Value).ownBlock)))); (case aS => exact (below_size (Ky_ HB))); (case aL => have := LMc32.out; omega); intro v274 w39 ho hb hg hat; rw [← Ny273.out] at ho; have n0_ := Aside0.mk (Kd.R_after (Kd.R_apart_nil (Ku_ HO_3)) hg hat); have n1_ := Aside0.mk (hb); have n2_ := Aside0.mk ((show Kd.C (Kd.int .i64) w39 Ao3 y269.length y269 from by rw [Ny269.out]; exact Kd.C_take (m := (x5_2 : Int).toNat) ((Kd.R_reads' (Kd.R_after (Kd.R_apart_nil (Ku_ HO_3)) hg hat)).2.2) KL38.out)); have n3_ := Aside0.mk (ho); clear HO_3; clear HB; clear HR272; have HO_3 := n0_; have HB := n1_; have HR272 := n2_; have HO275 := n3_; clear n0_ n1_ n2_ n3_; clear ho hb hg hat) | ((with_reducible refine gate_builtin (b := .append) (xs := #[.tmp 42, .tmp 44]) rfl ?_); at_builtin; refine Kd.R_append (Kd.int .i64) (w0 := w) w.heap.size rfl (.tmp 42) (.tmp 44) 45 3 (.int .i64 0) 8 rfl Try.underlying45 info3 rfl (by decide) (by omega) v274 y273 x4_1 [.int .i64 x4_1] (fun k_ => some k_ ≠ (.slice Ao3 x3_1.length co3 : Value).ownBlock) (fun _ => False) rfl rfl ?aP (fun _ hk => hk.elim) ?aF ?aO ?aB ?aS ?aL ?_; (case aP => exact rfl); (case aB => exact (Ky_ HB)); (case aF => exact (fun k_ hk => Kd.fresh' (Kd.R_lt (Ku_ HO_3)) k_ hk)); (case aO => exact (Ku_ HO275)); (case aS => exact (below_size (Ky_ HB))); (case aL => have := LMc33.out; omega); intro v277 w40 ho hb hg hat; rw [← Ny276.out] at ho; have n0_ := Aside0.mk (Kd.R_after (ok := (fun _ => True)) (Ku_ HO_3) hg hat); have n1_ := Aside0.mk (hb); have n2_ := Aside0.mk ((show Kd.C (Kd.int .i64) w40 Ao3 y269.length y269 from by rw [Ny269.out]; exact Kd.C_take (m := (x5_2 : Int).toNat) ((Kd.R_reads' (Kd.R_after (ok := (fun _ => True)) (Ku_ HO_3) hg hat)).2.2) KL38.out)); have n3_ := Aside0.mk (ho); clear HO_3; clear HB; clear HR272; clear HO275; have HO_3 := n0_; have HB := n1_; have HR272 := n2_; have HO278 := n3_; clear n0_ n1_ n2_ n3_; clear ho hb hg hat; have q41 : (x5_2 : Int) ≤ ((x3_1.length : Int) : Int) := of_decide_eq_true (by first | (with_reducible assumption) | assumption); obtain ⟨i041, hi041, _, hsz41, _⟩ := info_parts info3; have hroom41 : x3_1.length ≤ co3 := (Kd.R_reads' HO_3.out).2.1; have hC41 : Kd.C (Kd.int .i64) _ Ao3 x3_1.length x3_1 := (Kd.R_reads' HO_3.out).2.2; have q041 : (0 : Int) ≤ (x5_2 : Int) := of_decide_eq_true (by first | (with_reducible assumption) | assumption); have hcut41 := cut_from (P := Try.prog) 45 3 .i64 Try.underlying45 hi041 1 hsz41 Ao3 x3_1.length co3 x5_2 q041 q41; have hr41 := Kd.C_drop (m := (x5_2 : Int).toNat) (c := co3) hC41 (by omega) hroom41; obtain ⟨A41, hA41⟩ : ∃ A1, A1 = (if co3 = (x5_2 : Int).toNat then Ao3 else (Ao3 : Option Addr).map (·.add ((x5_2 : Int).toNat * 1))) := ⟨_, rfl⟩; obtain ⟨c41, hc41⟩ : ∃ c1, c1 = co3 - (x5_2 : Int).toNat := ⟨_, rfl⟩; have hy41 : y279.length = x3_1.length - (x5_2 : Int).toNat := (by rw [Ny279.out, List.length_drop] <;> omega); rw [show (x3_1).drop (x5_2 : Int).toNat = y279 from Ny279.out.symm] at hr41; replace hr41 : Kd.C (Kd.int .i64) _ A41 y279.length y279 := (by rw [hA41]; exact hr41); rw [← hy41, ← hA41, ← hc41] at hcut41; have HR282 := Aside0.mk hr41; have HC282 := Aside0.mk (show y279.length ≤ c41 from by rw [hy41, hc41]; exact Nat.sub_le_sub_right hroom41 _); clear hr41 hC41 hroom41 hi041 hsz41 hc41; have KY41 := Aside0.mk hy41; have KA41 := Aside0.mk hA41; clear hy41 hA41; have KL41 := Aside0.mk (show (x5_2 : Int).toNat ≤ x3_1.length from by omega); replace q41 := eq_true q41) | ((with_reducible refine gate_builtin (b := .append) (xs := #[(.tmp 46), .tmp 49]) rfl ?_); at_builtin; refine Kd.R_append_rows (Kd.int .i64) (w0 := w) w.heap.size rfl (.tmp 46) (.tmp 49) 45 3 (.int .i64 0) 8 rfl Try.underlying45 info3 rfl (by decide) (by omega) v277 y276 y279 _ _ _ (fun k_ => some k_ ≠ (.slice Ao3 x3_1.length co3 : Value).ownBlock) (fun _ => False) rfl rfl ?aO ?aR (fun _ _ h => h) (fun _ h => h.elim) ?aF ?aB ?aS ?aL ?_; (case aR => repeat (first | exact (by repeat (first | (with_reducible exact HR282.out) | (with_reducible refine Kd.C_alloc ?_ _) | (with_reducible refine Kd.C_drewN ?_ _) | (with_reducible refine Kd.C_drew ?_) | exact HR282.out)) | (with_reducible refine Kd.C_alloc ?_ _) | (with_reducible refine Kd.C_drewN ?_ _) | (with_reducible refine Kd.C_drew ?_))); (case aB => exact (Ky_ HB)); (case aF => exact (fun k_ hk => Kd.fresh' (Kd.R_lt (Ku_ HO_3)) k_ hk)); (case aO => exact (Ku_ HO278)); (case aS => exact (below_size (Ky_ HB))); (case aL => have := LMc36.out; omega); intro v284 w42 ho hb hg hat; rw [← Ny283.out] at ho; have n0_ := Aside0.mk (Kd.R_after (ok := (fun _ => True)) (Ku_ HO_3) hg hat); have n1_ := Aside0.mk (hb); have n2_ := Aside0.mk ((show Kd.C (Kd.int .i64) w42 Ao3 y269.length y269 from by rw [Ny269.out]; exact Kd.C_take (m := (x5_2 : Int).toNat) ((Kd.R_reads' (Kd.R_after (ok := (fun _ => True)) (Ku_ HO_3) hg hat)).2.2) KL38.out)); have n3_ := Aside0.mk ((show Kd.C (Kd.int .i64) w42 A41 y279.length y279 from by rw [Ny279.out, KA41.out]; exact Kd.C_drop (m := (x5_2 : Int).toNat) (c := co3) ((Kd.R_reads' (Kd.R_after (ok := (fun _ => True)) (Ku_ HO_3) hg hat)).2.2) KL41.out ((Kd.R_reads' (Kd.R_after (ok := (fun _ => True)) (Ku_ HO_3) hg hat)).2.1))); have n4_ := Aside0.mk (ho); clear HO_3; clear HB; clear HR272; clear HR282; clear HO278; have HO_3 := n0_; have HB := n1_; have HR272 := n2_; have HR282 := n3_; have HO285 := n4_; clear n0_ n1_ n2_ n3_ n4_; clear ho hb hg hat))
      go_roundg k2
      case measure => have := HK1.out; have := HK2.out; omega
      case rel => exact ⟨(y283), (wrap64 (x4_1 + 1)), (by first | rfl | (simp; done) | (simp [*]; done)), H', ⟨by have := HK1.out; have := HK2.out; omega⟩, ⟨by (with_reducible repeat (first | apply Kd.R_alloc | apply Kd.R_drewN | apply Kd.R_drew)); exact Kd.R_mono HO285.out (fun _ hk => trivial)⟩, ⟨Ky_ HB⟩⟩
     rw [if_pos c4] at H
     have c4b0 : decide (0 < x5_2) = true := decide_eq_true c4
     clear c4
     obtain ⟨ji5, hji5⟩ : ∃ j_ : Int, (wrap64 (x5_2 - 1)) = j_ := ⟨_, rfl⟩
     replace H : (if 0 ≤ (ji5) then (if (ji5) < (x3_1.length : Int) then (if 0 ≤ (rd x3_1 (ji5)) then (if (rd x3_1 (ji5)) < (l0.length : Int) then (if 0 ≤ x4_1 then (if x4_1 < (l0.length : Int) then ((tenementref07_Order.f k2 ((rd_T81 l0 (rd x3_1 (ji5))).f0.f0.f0) ((rd_T81 l0 (rd x3_1 (ji5))).f0.f0.f1) ((rd_T81 l0 (rd x3_1 (ji5))).f0.f0.f2) ((rd_T81 l0 (rd x3_1 (ji5))).f0.f0.f3) ((rd_T81 l0 (rd x3_1 (ji5))).f0.f1) ((rd_T81 l0 x4_1).f0.f0.f0) ((rd_T81 l0 x4_1).f0.f0.f1) ((rd_T81 l0 x4_1).f0.f0.f2) ((rd_T81 l0 x4_1).f0.f0.f3) ((rd_T81 l0 x4_1).f0.f1)).bind fun t251 => (if t251 > 0 then (tenementref22_Order.l1 k2 l0 x3_1 x4_1 ji5) else (if 0 ≤ x5_2 then (if x5_2 ≤ (x3_1.length : Int) then ((some (x3_1.take (x5_2 : Int).toNat : List Int)).bind fun y252 => (if ([] : List Int).length + y252.length < 17592186044416 then ((some (([] : List Int) ++ y252 : List Int)).bind fun y256 => (if y256.length < 17592186044416 then ((some (y256 ++ [x4_1] : List Int)).bind fun y259 => ((some (x3_1.drop (x5_2 : Int).toNat : List Int)).bind fun y262 => (if y259.length + y262.length < 17592186044416 then (tenementref22_Order.l0 k2 l0 (y259 ++ y262) (wrap64 (x4_1 + 1))) else (none)))) else (none))) else (none))) else (none)) else (none)))) else (none)) else (none)) else (none)) else (none)) else (none)) else (none)) = some r := by first | (rw [hji5] at H; exact H) | (simp only [hji5] at H ⊢; exact H)
     have hji5w : (IntKind.i64.wrap (x5_2 - 1)) = ji5 := (i64_w _).trans hji5
     by_cases c6 : 0 ≤ (ji5)
     rotate_left
     ·rw [if_neg c6] at H
      exact absurd H (by simp)
     rw [if_pos c6] at H
     have c6b0 : decide (0 ≤ (ji5)) = true := decide_eq_true c6
     clear c6
     by_cases c7 : (ji5) < (x3_1.length : Int)
     rotate_left
     ·rw [if_neg c7] at H
      exact absurd H (by simp)
     rw [if_pos c7] at H
     have c7b0 : decide ((ji5) < (x3_1.length : Int)) = true := decide_eq_true c7
     clear c7
     by_cases c8 : 0 ≤ (rd x3_1 (ji5))
     rotate_left
     ·rw [if_neg c8] at H
      exact absurd H (by simp)
     rw [if_pos c8] at H
     have c8b0 : decide (0 ≤ (rd x3_1 (ji5))) = true := decide_eq_true c8
     clear c8
     by_cases c9 : (rd x3_1 (ji5)) < (l0.length : Int)
     rotate_left
     ·rw [if_neg c9] at H
      exact absurd H (by simp)
     rw [if_pos c9] at H
     have c9b0 : decide ((rd x3_1 (ji5)) < (l0.length : Int)) = true := decide_eq_true c9
     clear c9
     by_cases c10 : 0 ≤ x4_1
     rotate_left
     ·rw [if_neg c10] at H
      exact absurd H (by simp)
     rw [if_pos c10] at H
     have c10b0 : decide (0 ≤ x4_1) = true := decide_eq_true c10
     clear c10
     by_cases c11 : x4_1 < (l0.length : Int)
     rotate_left
     ·rw [if_neg c11] at H
      exact absurd H (by simp)
     rw [if_pos c11] at H
     have c11b0 : decide (x4_1 < (l0.length : Int)) = true := decide_eq_true c11
     clear c11
     replace H := Option.bind_eq_some_iff.mp H
     obtain ⟨t251, A120, H⟩ := H
     replace H : (if t251 > 0 then (tenementref22_Order.l1 k2 l0 x3_1 x4_1 ji5) else (if 0 ≤ x5_2 then (if x5_2 ≤ (x3_1.length : Int) then ((some (x3_1.take (x5_2 : Int).toNat : List Int)).bind fun y252 => (if ([] : List Int).length + y252.length < 17592186044416 then ((some (([] : List Int) ++ y252 : List Int)).bind fun y256 => (if y256.length < 17592186044416 then ((some (y256 ++ [x4_1] : List Int)).bind fun y259 => ((some (x3_1.drop (x5_2 : Int).toNat : List Int)).bind fun y262 => (if y259.length + y262.length < 17592186044416 then (tenementref22_Order.l0 k2 l0 (y259 ++ y262) (wrap64 (x4_1 + 1))) else (none)))) else (none))) else (none))) else (none)) else (none))) = some r := H
     have A12 := Aside0.mk A120
     clear A120
     by_cases c13 : t251 > 0
     ·rw [if_pos c13] at H
      have c13b0 : decide (0 < t251) = true := decide_eq_true c13
      clear c13
      have H' := Aside0.mk H
      clear H
      try go_wp2
      replace HO_3 := Aside0.mk (Kd.R_drew HO_3.out)
      replace HB := Aside0.mk (below_drew1 HB.out)
      have p248 : 0 ≤ ((ji5) : Int) := of_decide_eq_true (by first | (with_reducible assumption) | assumption)
      have q248 : (ji5) < (x3_1.length : Int) := of_decide_eq_true (by first | (with_reducible assumption) | assumption)
      obtain ⟨ad248, e248, hx248_0⟩ := Kd.at_int (Kd.R_reads' HO_3.out).2.2 (ji5) p248 q248
      cases e248
      replace p248 := eq_true p248
      replace q248 := eq_true q248
      have p249 : 0 ≤ ((rd x3_1 (ji5)) : Int) := of_decide_eq_true (by first | (with_reducible assumption) | assumption)
      have q249 : (rd x3_1 (ji5)) < (l0.length : Int) := of_decide_eq_true (by first | (with_reducible assumption) | assumption)
      obtain ⟨ad249, A249_5, c249_5, e249, hx249_0, hx249_1, hx249_2, hx249_3, hx249_4, hx249_5, hl249_5, hi249_5⟩ := at_T81 HR0.out (rd x3_1 (ji5)) p249 q249
      have hw249_5 := hx249_5
      have hw249_4 := hx249_4
      have hw249_3 := hx249_3
      have hw249_2 := hx249_2
      have hw249_1 := hx249_1
      have hw249_0 := hx249_0
      cases e249
      replace hx249_0 := (HB.out.cell (World.block_lt_of_cell? w _ hx249_0)).trans hx249_0
      replace hx249_1 := (HB.out.cell (World.block_lt_of_cell? w _ hx249_1)).trans hx249_1
      replace hx249_2 := (HB.out.cell (World.block_lt_of_cell? w _ hx249_2)).trans hx249_2
      replace hx249_3 := (HB.out.cell (World.block_lt_of_cell? w _ hx249_3)).trans hx249_3
      replace hx249_4 := (HB.out.cell (World.block_lt_of_cell? w _ hx249_4)).trans hx249_4
      replace hx249_5 := (HB.out.cell (World.block_lt_of_cell? w _ hx249_5)).trans hx249_5
      have HR249_5 := Aside0.mk hi249_5
      have HC249_5 := Aside0.mk hl249_5
      clear hi249_5 hl249_5
      replace p249 := eq_true p249
      replace q249 := eq_true q249
      have p250 : 0 ≤ (x4_1 : Int) := of_decide_eq_true (by first | (with_reducible assumption) | assumption)
      have q250 : x4_1 < (l0.length : Int) := of_decide_eq_true (by first | (with_reducible assumption) | assumption)
      obtain ⟨ad250, A250_5, c250_5, e250, hx250_0, hx250_1, hx250_2, hx250_3, hx250_4, hx250_5, hl250_5, hi250_5⟩ := at_T81 HR0.out x4_1 p250 q250
      have hw250_5 := hx250_5
      have hw250_4 := hx250_4
      have hw250_3 := hx250_3
      have hw250_2 := hx250_2
      have hw250_1 := hx250_1
      have hw250_0 := hx250_0
      obtain rfl : ad249 = ad250 := (by injection e250)
      replace hx250_0 := (HB.out.cell (World.block_lt_of_cell? w _ hx250_0)).trans hx250_0
      replace hx250_1 := (HB.out.cell (World.block_lt_of_cell? w _ hx250_1)).trans hx250_1
      replace hx250_2 := (HB.out.cell (World.block_lt_of_cell? w _ hx250_2)).trans hx250_2
      replace hx250_3 := (HB.out.cell (World.block_lt_of_cell? w _ hx250_3)).trans hx250_3
      replace hx250_4 := (HB.out.cell (World.block_lt_of_cell? w _ hx250_4)).trans hx250_4
      replace hx250_5 := (HB.out.cell (World.block_lt_of_cell? w _ hx250_5)).trans hx250_5
      have HR250_5 := Aside0.mk hi250_5
      have HC250_5 := Aside0.mk hl250_5
      clear hi250_5 hl250_5
      replace p250 := eq_true p250
      replace q250 := eq_true q250
      refine start_ (n := 20) (S := fun w' => w'.cell? (ad248.add ((ji5)).toNat) = some (.int .i64 (rd x3_1 (ji5))) ∧ w'.cell? (ad249.add (((rd x3_1 (ji5))).toNat * 6)) = some (.int .u64 ((rd_T81 l0 (rd x3_1 (ji5))).f0.f0.f0)) ∧ w'.cell? ⟨(ad249.add (((rd x3_1 (ji5))).toNat * 6)).block, (ad249.add (((rd x3_1 (ji5))).toNat * 6)).off + 1, none⟩ = some (.int .u64 ((rd_T81 l0 (rd x3_1 (ji5))).f0.f0.f1)) ∧ w'.cell? ⟨(ad249.add (((rd x3_1 (ji5))).toNat * 6)).block, (ad249.add (((rd x3_1 (ji5))).toNat * 6)).off + 2, none⟩ = some (.int .u64 ((rd_T81 l0 (rd x3_1 (ji5))).f0.f0.f2)) ∧ w'.cell? ⟨(ad249.add (((rd x3_1 (ji5))).toNat * 6)).block, (ad249.add (((rd x3_1 (ji5))).toNat * 6)).off + 3, none⟩ = some (.int .u64 ((rd_T81 l0 (rd x3_1 (ji5))).f0.f0.f3)) ∧ w'.cell? ⟨(ad249.add (((rd x3_1 (ji5))).toNat * 6)).block, (ad249.add (((rd x3_1 (ji5))).toNat * 6)).off + 4, none⟩ = some (.int .i64 ((rd_T81 l0 (rd x3_1 (ji5))).f0.f1)) ∧ w'.cell? ⟨(ad249.add (((rd x3_1 (ji5))).toNat * 6)).block, (ad249.add (((rd x3_1 (ji5))).toNat * 6)).off + 5, none⟩ = some (.slice A249_5 ((rd_T81 l0 (rd x3_1 (ji5))).f1).length c249_5) ∧ w'.cell? (ad249.add ((x4_1).toNat * 6)) = some (.int .u64 ((rd_T81 l0 x4_1).f0.f0.f0)) ∧ w'.cell? ⟨(ad249.add ((x4_1).toNat * 6)).block, (ad249.add ((x4_1).toNat * 6)).off + 1, none⟩ = some (.int .u64 ((rd_T81 l0 x4_1).f0.f0.f1)) ∧ w'.cell? ⟨(ad249.add ((x4_1).toNat * 6)).block, (ad249.add ((x4_1).toNat * 6)).off + 2, none⟩ = some (.int .u64 ((rd_T81 l0 x4_1).f0.f0.f2)) ∧ w'.cell? ⟨(ad249.add ((x4_1).toNat * 6)).block, (ad249.add ((x4_1).toNat * 6)).off + 3, none⟩ = some (.int .u64 ((rd_T81 l0 x4_1).f0.f0.f3)) ∧ w'.cell? ⟨(ad249.add ((x4_1).toNat * 6)).block, (ad249.add ((x4_1).toNat * 6)).off + 4, none⟩ = some (.int .i64 ((rd_T81 l0 x4_1).f0.f1)) ∧ w'.cell? ⟨(ad249.add ((x4_1).toNat * 6)).block, (ad249.add ((x4_1).toNat * 6)).off + 5, none⟩ = some (.slice A250_5 ((rd_T81 l0 x4_1).f1).length c250_5)) (ds := []) (mB_ 20 0) (by kernel_rfl) rfl rfl ⟨hx248_0, ((HB.out.cell (World.block_lt_of_cell? w _ hw249_0)).trans hw249_0), ((HB.out.cell (World.block_lt_of_cell? w _ hw249_1)).trans hw249_1), ((HB.out.cell (World.block_lt_of_cell? w _ hw249_2)).trans hw249_2), ((HB.out.cell (World.block_lt_of_cell? w _ hw249_3)).trans hw249_3), ((HB.out.cell (World.block_lt_of_cell? w _ hw249_4)).trans hw249_4), ((HB.out.cell (World.block_lt_of_cell? w _ hw249_5)).trans hw249_5), ((HB.out.cell (World.block_lt_of_cell? w _ hw250_0)).trans hw250_0), ((HB.out.cell (World.block_lt_of_cell? w _ hw250_1)).trans hw250_1), ((HB.out.cell (World.block_lt_of_cell? w _ hw250_2)).trans hw250_2), ((HB.out.cell (World.block_lt_of_cell? w _ hw250_3)).trans hw250_3), ((HB.out.cell (World.block_lt_of_cell? w _ hw250_4)).trans hw250_4), ((HB.out.cell (World.block_lt_of_cell? w _ hw250_5)).trans hw250_5)⟩ (fun hHeld => ?_); refine with_tabW tenementref22_Order.tab6 tenementref22_Order.bits6 (fun HT_ HW_ => ?_)
      generalize wr.drew = w14 at HO_3 HB HR249_5 HR250_5 hx248_0 hx249_0 hx249_1 hx249_2 hx249_3 hx249_4 hx249_5 hx250_0 hx250_1 hx250_2 hx250_3 hx250_4 hx250_5 hHeld ⊢
      refine Kp_ 0 15 (Bz 20 1) (any_of HT_.out (by kernel_rfl)) ?_
      refine Kp_ 1 16 (Bz 20 3) (any_of HT_.out (by kernel_rfl)) ?_
      refine Kp_ 2 17 (Bz 20 7) (any_of HT_.out (by kernel_rfl)) ?_
      refine Kp_ 3 18 (Bz 20 15) (any_of HT_.out (by kernel_rfl)) ?_
      refine Kp_ 4 19 (Bz 20 31) (any_of HT_.out (by kernel_rfl)) ?_
      refine Kp_ 5 20 (Bz 20 63) (any_of HT_.out (by kernel_rfl)) ?_
      refine Kp_ 6 21 (Bz 20 127) (any_of HT_.out (by kernel_rfl)) ?_
      refine Kp_ 7 22 (Bz 20 255) (any_of HT_.out (by kernel_rfl)) ?_
      refine Kp_ 12 27 (Bz 20 4351) (any_of HT_.out (by kernel_rfl)) ?_
      refine Kp_ 13 28 (Bz 20 12543) (any_of HT_.out (by kernel_rfl)) ?_
      refine Kp_ 14 29 (Bz 20 28927) (any_of HT_.out (by kernel_rfl)) ?_
      refine Kp_ 15 30 (Bz 20 61695) (any_of HT_.out (by kernel_rfl)) ?_
      refine Ko_ 8 23 (Bz 20 61951) (take_ofW HT_.out HW_.out (by kernel_rfl)) hHeld ?_
      refine Kp_ 9 24 (Bz 20 62463) (any_of HT_.out (by kernel_rfl)) ?_
      refine Kp_ 10 25 (Bz 20 63487) (any_of HT_.out (by kernel_rfl)) ?_
      refine Ko_ 11 26 (Bz 20 65535) (take_ofW HT_.out HW_.out (by kernel_rfl)) hHeld ?_
      refine Ko_ 16 31 (Bz 20 131071) (take_ofW HT_.out HW_.out (by kernel_rfl)) hHeld ?_
      refine one_ (i := 17) (N := some 32) (Bz 20 262143) rfl rfl (one_of HT_.out (by kernel_rfl)) (by decide) (fun K hK => ?_)
      refine goes_ Try.func39 (by kernel_rfl) rfl #[.agg #[.int .u64 ((rd_T81 l0 (rd x3_1 (ji5))).f0.f0.f0), .int .u64 ((rd_T81 l0 (rd x3_1 (ji5))).f0.f0.f1), .int .u64 ((rd_T81 l0 (rd x3_1 (ji5))).f0.f0.f2), .int .u64 ((rd_T81 l0 (rd x3_1 (ji5))).f0.f0.f3), .int .i64 ((rd_T81 l0 (rd x3_1 (ji5))).f0.f1)], .agg #[.int .u64 ((rd_T81 l0 x4_1).f0.f0.f0), .int .u64 ((rd_T81 l0 x4_1).f0.f0.f1), .int .u64 ((rd_T81 l0 x4_1).f0.f0.f2), .int .u64 ((rd_T81 l0 x4_1).f0.f0.f3), .int .i64 ((rd_T81 l0 x4_1).f0.f1)]] (by rfl) rfl rfl (by (try simp only [List.map_toArray, List.map_cons, List.map_nil]); first | done | (simp only [hji5]; rfl) | rfl | (simp only [List.length_drop, List.length_take]; rfl)) ?_
      with_reducible refine (tenementref07_Order.calls k2 ((rd_T81 l0 (rd x3_1 (ji5))).f0.f0.f0) ((rd_T81 l0 (rd x3_1 (ji5))).f0.f0.f1) ((rd_T81 l0 (rd x3_1 (ji5))).f0.f0.f2) ((rd_T81 l0 (rd x3_1 (ji5))).f0.f0.f3) ((rd_T81 l0 (rd x3_1 (ji5))).f0.f1) ((rd_T81 l0 x4_1).f0.f0.f0) ((rd_T81 l0 x4_1).f0.f0.f1) ((rd_T81 l0 x4_1).f0.f0.f2) ((rd_T81 l0 x4_1).f0.f0.f3) ((rd_T81 l0 x4_1).f0.f1) t251 _ A12.out).mono ?_
      rintro e w15 ⟨rfl, hb⟩
      have HS0_ := (hb.cell (World.block_lt_of_cell? _ _ (hHeld.1))).trans (hHeld.1)
      refine ⟨_, rfl, ?_⟩
      replace HO_3 := Aside0.mk (Kd.R_below (Ku_ HO_3) hb)
      replace HB := Ks_ HB hb
      (try clear hb)
      (try clear hb2)
      (try clear hk)
      (try clear hi)
      refine hK.out _ _ ⟨HS0_, ((HB.out.cell (World.block_lt_of_cell? w _ hw249_0)).trans hw249_0), ((HB.out.cell (World.block_lt_of_cell? w _ hw249_1)).trans hw249_1), ((HB.out.cell (World.block_lt_of_cell? w _ hw249_2)).trans hw249_2), ((HB.out.cell (World.block_lt_of_cell? w _ hw249_3)).trans hw249_3), ((HB.out.cell (World.block_lt_of_cell? w _ hw249_4)).trans hw249_4), ((HB.out.cell (World.block_lt_of_cell? w _ hw249_5)).trans hw249_5), ((HB.out.cell (World.block_lt_of_cell? w _ hw250_0)).trans hw250_0), ((HB.out.cell (World.block_lt_of_cell? w _ hw250_1)).trans hw250_1), ((HB.out.cell (World.block_lt_of_cell? w _ hw250_2)).trans hw250_2), ((HB.out.cell (World.block_lt_of_cell? w _ hw250_3)).trans hw250_3), ((HB.out.cell (World.block_lt_of_cell? w _ hw250_4)).trans hw250_4), ((HB.out.cell (World.block_lt_of_cell? w _ hw250_5)).trans hw250_5)⟩ (fun hHeld => ?_)
      clear hK K
      refine Kn_ 32 ?_
      refine Kp_ 18 33 (Bz 20 524287) (any_of HT_.out (by kernel_rfl)) ?_
      refine Kp_ 19 34 (Bz 20 1048575) (any_of HT_.out (by kernel_rfl)) ?_
      refine done_ (done_of HT_.out (by kernel_rfl)) ?_
      try go_wp2
      go_roundg k2
      case measure => have := HK1.out; have := HK2.out; omega
      case rel => exact ⟨(ji5), (by first | rfl | (simp; done) | (simp only [← hji5] <;> (first | rfl | simp)) | (simp [*]; done)), H', ⟨by have := HK1.out; have := HK2.out; omega⟩, ⟨by (with_reducible repeat (first | apply Kd.R_alloc | apply Kd.R_drewN | apply Kd.R_drew)); exact HO_3.out⟩, ⟨Ky_ HB⟩⟩
     rw [if_neg c13] at H
     have c13b0 : decide (0 < t251) = false := decide_eq_false c13
     clear c13
     by_cases c16 : 0 ≤ x5_2
     rotate_left
     ·rw [if_neg c16] at H
      exact absurd H (by simp)
     rw [if_pos c16] at H
     have c16b0 := eq_true c16
     have c16b1 : decide (0 ≤ x5_2) = true := decide_eq_true c16
     clear c16
     by_cases c17 : x5_2 ≤ (x3_1.length : Int)
     rotate_left
     ·rw [if_neg c17] at H
      exact absurd H (by simp)
     rw [if_pos c17] at H
     have c17b0 := eq_true c17
     have c17b1 : decide (x5_2 ≤ (x3_1.length : Int)) = true := decide_eq_true c17
     clear c17
     obtain ⟨y252, hy252⟩ : ∃ y_ : List Int, y_ = (x3_1.take (x5_2 : Int).toNat) := ⟨_, rfl⟩
     replace H : (if ([] : List Int).length + y252.length < 17592186044416 then ((some (([] : List Int) ++ y252 : List Int)).bind fun y256 => (if y256.length < 17592186044416 then ((some (y256 ++ [x4_1] : List Int)).bind fun y259 => ((some (x3_1.drop (x5_2 : Int).toNat : List Int)).bind fun y262 => (if y259.length + y262.length < 17592186044416 then (tenementref22_Order.l0 k2 l0 (y259 ++ y262) (wrap64 (x4_1 + 1))) else (none)))) else (none))) else (none)) = some r := by first | (rw [hy252]; with_reducible exact H) | (have H2_ := (Option.bind_some _ _).symm.trans H; rw [hy252]; with_reducible exact H2_) | (have H2_ := (Option.bind_some _ _).symm.trans H; with_reducible exact H2_) | with_reducible exact H | (rw [hy252]; exact H) | exact H
     have Ny252 := Aside0.mk hy252
     clear hy252
     by_cases c18 : ([] : List Int).length + y252.length < 17592186044416
     rotate_left
     ·rw [if_neg c18] at H
      exact absurd H (by simp)
     rw [if_pos c18] at H
     have LMc18 := Aside0.mk c18
     clear c18
     obtain ⟨y256, hy256⟩ : ∃ y_ : List Int, y_ = (([] : List Int) ++ y252) := ⟨_, rfl⟩
     replace H : (if y256.length < 17592186044416 then ((some (y256 ++ [x4_1] : List Int)).bind fun y259 => ((some (x3_1.drop (x5_2 : Int).toNat : List Int)).bind fun y262 => (if y259.length + y262.length < 17592186044416 then (tenementref22_Order.l0 k2 l0 (y259 ++ y262) (wrap64 (x4_1 + 1))) else (none)))) else (none)) = some r := by first | (rw [hy256]; with_reducible exact H) | (have H2_ := (Option.bind_some _ _).symm.trans H; rw [hy256]; with_reducible exact H2_) | (have H2_ := (Option.bind_some _ _).symm.trans H; with_reducible exact H2_) | with_reducible exact H | (rw [hy256]; exact H) | exact H
     have Ny256 := Aside0.mk hy256
     clear hy256
     by_cases c19 : y256.length < 17592186044416
     rotate_left
     ·rw [if_neg c19] at H
      exact absurd H (by simp)
     rw [if_pos c19] at H
     have LMc19 := Aside0.mk c19
     clear c19
     obtain ⟨y259, hy259⟩ : ∃ y_ : List Int, y_ = (y256 ++ [x4_1]) := ⟨_, rfl⟩
     replace H : ((some (x3_1.drop (x5_2 : Int).toNat : List Int)).bind fun y262 => (if y259.length + y262.length < 17592186044416 then (tenementref22_Order.l0 k2 l0 (y259 ++ y262) (wrap64 (x4_1 + 1))) else (none))) = some r := by first | (rw [hy259]; with_reducible exact H) | (have H2_ := (Option.bind_some _ _).symm.trans H; rw [hy259]; with_reducible exact H2_) | (have H2_ := (Option.bind_some _ _).symm.trans H; with_reducible exact H2_) | with_reducible exact H | (rw [hy259]; exact H) | exact H
     have Ny259 := Aside0.mk hy259
     clear hy259
     have c20b0 := eq_true (of_decide_eq_true (by first | (with_reducible assumption) | assumption) : 0 ≤ x5_2)
     have c21b0 := eq_true (of_decide_eq_true (by first | (with_reducible assumption) | assumption) : x5_2 ≤ (x3_1.length : Int))
     obtain ⟨y262, hy262⟩ : ∃ y_ : List Int, y_ = (x3_1.drop (x5_2 : Int).toNat) := ⟨_, rfl⟩
     replace H : (if y259.length + y262.length < 17592186044416 then (tenementref22_Order.l0 k2 l0 (y259 ++ y262) (wrap64 (x4_1 + 1))) else (none)) = some r := by first | (rw [hy262]; with_reducible exact H) | (have H2_ := (Option.bind_some _ _).symm.trans H; rw [hy262]; with_reducible exact H2_) | (have H2_ := (Option.bind_some _ _).symm.trans H; with_reducible exact H2_) | with_reducible exact H | (rw [hy262]; exact H) | exact H
     have Ny262 := Aside0.mk hy262
     clear hy262
     by_cases c22 : y259.length + y262.length < 17592186044416
     rotate_left
     ·rw [if_neg c22] at H
      exact absurd H (by simp)
     rw [if_pos c22] at H
     have LMc22 := Aside0.mk c22
     clear c22
     obtain ⟨y266, hy266⟩ : ∃ y_ : List Int, y_ = (y259 ++ y262) := ⟨_, rfl⟩
     replace H : (tenementref22_Order.l0 k2 l0 y266 (wrap64 (x4_1 + 1))) = some r := by first | (rw [hy266]; with_reducible exact H) | (have H2_ := (Option.bind_some _ _).symm.trans H; rw [hy266]; with_reducible exact H2_) | (have H2_ := (Option.bind_some _ _).symm.trans H; with_reducible exact H2_) | with_reducible exact H | (rw [hy266]; exact H) | exact H
     have Ny266 := Aside0.mk hy266
     clear hy266
     have H' := Aside0.mk H
     clear H
     try go_wp2
     replace HO_3 := Aside0.mk (Kd.R_drew HO_3.out)
     replace HB := Aside0.mk (below_drew1 HB.out)
     have p248 : 0 ≤ ((ji5) : Int) := of_decide_eq_true (by first | (with_reducible assumption) | assumption)
     have q248 : (ji5) < (x3_1.length : Int) := of_decide_eq_true (by first | (with_reducible assumption) | assumption)
     obtain ⟨ad248, e248, hx248_0⟩ := Kd.at_int (Kd.R_reads' HO_3.out).2.2 (ji5) p248 q248
     cases e248
     replace p248 := eq_true p248
     replace q248 := eq_true q248
     have p249 : 0 ≤ ((rd x3_1 (ji5)) : Int) := of_decide_eq_true (by first | (with_reducible assumption) | assumption)
     have q249 : (rd x3_1 (ji5)) < (l0.length : Int) := of_decide_eq_true (by first | (with_reducible assumption) | assumption)
     obtain ⟨ad249, A249_5, c249_5, e249, hx249_0, hx249_1, hx249_2, hx249_3, hx249_4, hx249_5, hl249_5, hi249_5⟩ := at_T81 HR0.out (rd x3_1 (ji5)) p249 q249
     have hw249_5 := hx249_5
     have hw249_4 := hx249_4
     have hw249_3 := hx249_3
     have hw249_2 := hx249_2
     have hw249_1 := hx249_1
     have hw249_0 := hx249_0
     cases e249
     replace hx249_0 := (HB.out.cell (World.block_lt_of_cell? w _ hx249_0)).trans hx249_0
     replace hx249_1 := (HB.out.cell (World.block_lt_of_cell? w _ hx249_1)).trans hx249_1
     replace hx249_2 := (HB.out.cell (World.block_lt_of_cell? w _ hx249_2)).trans hx249_2
     replace hx249_3 := (HB.out.cell (World.block_lt_of_cell? w _ hx249_3)).trans hx249_3
     replace hx249_4 := (HB.out.cell (World.block_lt_of_cell? w _ hx249_4)).trans hx249_4
     replace hx249_5 := (HB.out.cell (World.block_lt_of_cell? w _ hx249_5)).trans hx249_5
     have HR249_5 := Aside0.mk hi249_5
     have HC249_5 := Aside0.mk hl249_5
     clear hi249_5 hl249_5
     replace p249 := eq_true p249
     replace q249 := eq_true q249
     have p250 : 0 ≤ (x4_1 : Int) := of_decide_eq_true (by first | (with_reducible assumption) | assumption)
     have q250 : x4_1 < (l0.length : Int) := of_decide_eq_true (by first | (with_reducible assumption) | assumption)
     obtain ⟨ad250, A250_5, c250_5, e250, hx250_0, hx250_1, hx250_2, hx250_3, hx250_4, hx250_5, hl250_5, hi250_5⟩ := at_T81 HR0.out x4_1 p250 q250
     have hw250_5 := hx250_5
     have hw250_4 := hx250_4
     have hw250_3 := hx250_3
     have hw250_2 := hx250_2
     have hw250_1 := hx250_1
     have hw250_0 := hx250_0
     obtain rfl : ad249 = ad250 := (by injection e250)
     replace hx250_0 := (HB.out.cell (World.block_lt_of_cell? w _ hx250_0)).trans hx250_0
     replace hx250_1 := (HB.out.cell (World.block_lt_of_cell? w _ hx250_1)).trans hx250_1
     replace hx250_2 := (HB.out.cell (World.block_lt_of_cell? w _ hx250_2)).trans hx250_2
     replace hx250_3 := (HB.out.cell (World.block_lt_of_cell? w _ hx250_3)).trans hx250_3
     replace hx250_4 := (HB.out.cell (World.block_lt_of_cell? w _ hx250_4)).trans hx250_4
     replace hx250_5 := (HB.out.cell (World.block_lt_of_cell? w _ hx250_5)).trans hx250_5
     have HR250_5 := Aside0.mk hi250_5
     have HC250_5 := Aside0.mk hl250_5
     clear hi250_5 hl250_5
     replace p250 := eq_true p250
     replace q250 := eq_true q250
     refine start_ (n := 20) (S := fun w' => w'.cell? (ad248.add ((ji5)).toNat) = some (.int .i64 (rd x3_1 (ji5))) ∧ w'.cell? (ad249.add (((rd x3_1 (ji5))).toNat * 6)) = some (.int .u64 ((rd_T81 l0 (rd x3_1 (ji5))).f0.f0.f0)) ∧ w'.cell? ⟨(ad249.add (((rd x3_1 (ji5))).toNat * 6)).block, (ad249.add (((rd x3_1 (ji5))).toNat * 6)).off + 1, none⟩ = some (.int .u64 ((rd_T81 l0 (rd x3_1 (ji5))).f0.f0.f1)) ∧ w'.cell? ⟨(ad249.add (((rd x3_1 (ji5))).toNat * 6)).block, (ad249.add (((rd x3_1 (ji5))).toNat * 6)).off + 2, none⟩ = some (.int .u64 ((rd_T81 l0 (rd x3_1 (ji5))).f0.f0.f2)) ∧ w'.cell? ⟨(ad249.add (((rd x3_1 (ji5))).toNat * 6)).block, (ad249.add (((rd x3_1 (ji5))).toNat * 6)).off + 3, none⟩ = some (.int .u64 ((rd_T81 l0 (rd x3_1 (ji5))).f0.f0.f3)) ∧ w'.cell? ⟨(ad249.add (((rd x3_1 (ji5))).toNat * 6)).block, (ad249.add (((rd x3_1 (ji5))).toNat * 6)).off + 4, none⟩ = some (.int .i64 ((rd_T81 l0 (rd x3_1 (ji5))).f0.f1)) ∧ w'.cell? ⟨(ad249.add (((rd x3_1 (ji5))).toNat * 6)).block, (ad249.add (((rd x3_1 (ji5))).toNat * 6)).off + 5, none⟩ = some (.slice A249_5 ((rd_T81 l0 (rd x3_1 (ji5))).f1).length c249_5) ∧ w'.cell? (ad249.add ((x4_1).toNat * 6)) = some (.int .u64 ((rd_T81 l0 x4_1).f0.f0.f0)) ∧ w'.cell? ⟨(ad249.add ((x4_1).toNat * 6)).block, (ad249.add ((x4_1).toNat * 6)).off + 1, none⟩ = some (.int .u64 ((rd_T81 l0 x4_1).f0.f0.f1)) ∧ w'.cell? ⟨(ad249.add ((x4_1).toNat * 6)).block, (ad249.add ((x4_1).toNat * 6)).off + 2, none⟩ = some (.int .u64 ((rd_T81 l0 x4_1).f0.f0.f2)) ∧ w'.cell? ⟨(ad249.add ((x4_1).toNat * 6)).block, (ad249.add ((x4_1).toNat * 6)).off + 3, none⟩ = some (.int .u64 ((rd_T81 l0 x4_1).f0.f0.f3)) ∧ w'.cell? ⟨(ad249.add ((x4_1).toNat * 6)).block, (ad249.add ((x4_1).toNat * 6)).off + 4, none⟩ = some (.int .i64 ((rd_T81 l0 x4_1).f0.f1)) ∧ w'.cell? ⟨(ad249.add ((x4_1).toNat * 6)).block, (ad249.add ((x4_1).toNat * 6)).off + 5, none⟩ = some (.slice A250_5 ((rd_T81 l0 x4_1).f1).length c250_5)) (ds := []) (mB_ 20 0) (by kernel_rfl) rfl rfl ⟨hx248_0, ((HB.out.cell (World.block_lt_of_cell? w _ hw249_0)).trans hw249_0), ((HB.out.cell (World.block_lt_of_cell? w _ hw249_1)).trans hw249_1), ((HB.out.cell (World.block_lt_of_cell? w _ hw249_2)).trans hw249_2), ((HB.out.cell (World.block_lt_of_cell? w _ hw249_3)).trans hw249_3), ((HB.out.cell (World.block_lt_of_cell? w _ hw249_4)).trans hw249_4), ((HB.out.cell (World.block_lt_of_cell? w _ hw249_5)).trans hw249_5), ((HB.out.cell (World.block_lt_of_cell? w _ hw250_0)).trans hw250_0), ((HB.out.cell (World.block_lt_of_cell? w _ hw250_1)).trans hw250_1), ((HB.out.cell (World.block_lt_of_cell? w _ hw250_2)).trans hw250_2), ((HB.out.cell (World.block_lt_of_cell? w _ hw250_3)).trans hw250_3), ((HB.out.cell (World.block_lt_of_cell? w _ hw250_4)).trans hw250_4), ((HB.out.cell (World.block_lt_of_cell? w _ hw250_5)).trans hw250_5)⟩ (fun hHeld => ?_); refine with_tabW tenementref22_Order.tab6 tenementref22_Order.bits6 (fun HT_ HW_ => ?_)
     generalize wr.drew = w23 at HO_3 HB HR249_5 HR250_5 hx248_0 hx249_0 hx249_1 hx249_2 hx249_3 hx249_4 hx249_5 hx250_0 hx250_1 hx250_2 hx250_3 hx250_4 hx250_5 hHeld ⊢
     refine Kp_ 0 15 (Bz 20 1) (any_of HT_.out (by kernel_rfl)) ?_
     refine Kp_ 1 16 (Bz 20 3) (any_of HT_.out (by kernel_rfl)) ?_
     refine Kp_ 2 17 (Bz 20 7) (any_of HT_.out (by kernel_rfl)) ?_
     refine Kp_ 3 18 (Bz 20 15) (any_of HT_.out (by kernel_rfl)) ?_
     refine Kp_ 4 19 (Bz 20 31) (any_of HT_.out (by kernel_rfl)) ?_
     refine Kp_ 5 20 (Bz 20 63) (any_of HT_.out (by kernel_rfl)) ?_
     refine Kp_ 6 21 (Bz 20 127) (any_of HT_.out (by kernel_rfl)) ?_
     refine Kp_ 7 22 (Bz 20 255) (any_of HT_.out (by kernel_rfl)) ?_
     refine Kp_ 12 27 (Bz 20 4351) (any_of HT_.out (by kernel_rfl)) ?_
     refine Kp_ 13 28 (Bz 20 12543) (any_of HT_.out (by kernel_rfl)) ?_
     refine Kp_ 14 29 (Bz 20 28927) (any_of HT_.out (by kernel_rfl)) ?_
     refine Kp_ 15 30 (Bz 20 61695) (any_of HT_.out (by kernel_rfl)) ?_
     refine Ko_ 8 23 (Bz 20 61951) (take_ofW HT_.out HW_.out (by kernel_rfl)) hHeld ?_
     refine Kp_ 9 24 (Bz 20 62463) (any_of HT_.out (by kernel_rfl)) ?_
     refine Kp_ 10 25 (Bz 20 63487) (any_of HT_.out (by kernel_rfl)) ?_
     refine Ko_ 11 26 (Bz 20 65535) (take_ofW HT_.out HW_.out (by kernel_rfl)) hHeld ?_
     refine Ko_ 16 31 (Bz 20 131071) (take_ofW HT_.out HW_.out (by kernel_rfl)) hHeld ?_
     refine one_ (i := 17) (N := some 32) (Bz 20 262143) rfl rfl (one_of HT_.out (by kernel_rfl)) (by decide) (fun K hK => ?_)
     refine goes_ Try.func39 (by kernel_rfl) rfl #[.agg #[.int .u64 ((rd_T81 l0 (rd x3_1 (ji5))).f0.f0.f0), .int .u64 ((rd_T81 l0 (rd x3_1 (ji5))).f0.f0.f1), .int .u64 ((rd_T81 l0 (rd x3_1 (ji5))).f0.f0.f2), .int .u64 ((rd_T81 l0 (rd x3_1 (ji5))).f0.f0.f3), .int .i64 ((rd_T81 l0 (rd x3_1 (ji5))).f0.f1)], .agg #[.int .u64 ((rd_T81 l0 x4_1).f0.f0.f0), .int .u64 ((rd_T81 l0 x4_1).f0.f0.f1), .int .u64 ((rd_T81 l0 x4_1).f0.f0.f2), .int .u64 ((rd_T81 l0 x4_1).f0.f0.f3), .int .i64 ((rd_T81 l0 x4_1).f0.f1)]] (by rfl) rfl rfl (by (try simp only [List.map_toArray, List.map_cons, List.map_nil]); first | done | (simp only [hji5]; rfl) | rfl | (simp only [List.length_drop, List.length_take]; rfl)) ?_
     with_reducible refine (tenementref07_Order.calls k2 ((rd_T81 l0 (rd x3_1 (ji5))).f0.f0.f0) ((rd_T81 l0 (rd x3_1 (ji5))).f0.f0.f1) ((rd_T81 l0 (rd x3_1 (ji5))).f0.f0.f2) ((rd_T81 l0 (rd x3_1 (ji5))).f0.f0.f3) ((rd_T81 l0 (rd x3_1 (ji5))).f0.f1) ((rd_T81 l0 x4_1).f0.f0.f0) ((rd_T81 l0 x4_1).f0.f0.f1) ((rd_T81 l0 x4_1).f0.f0.f2) ((rd_T81 l0 x4_1).f0.f0.f3) ((rd_T81 l0 x4_1).f0.f1) t251 _ A12.out).mono ?_
     rintro e w24 ⟨rfl, hb⟩
     have HS0_ := (hb.cell (World.block_lt_of_cell? _ _ (hHeld.1))).trans (hHeld.1)
     refine ⟨_, rfl, ?_⟩
     replace HO_3 := Aside0.mk (Kd.R_below (Ku_ HO_3) hb)
     replace HB := Ks_ HB hb
     (try clear hb)
     (try clear hb2)
     (try clear hk)
     (try clear hi)
     refine hK.out _ _ ⟨HS0_, ((HB.out.cell (World.block_lt_of_cell? w _ hw249_0)).trans hw249_0), ((HB.out.cell (World.block_lt_of_cell? w _ hw249_1)).trans hw249_1), ((HB.out.cell (World.block_lt_of_cell? w _ hw249_2)).trans hw249_2), ((HB.out.cell (World.block_lt_of_cell? w _ hw249_3)).trans hw249_3), ((HB.out.cell (World.block_lt_of_cell? w _ hw249_4)).trans hw249_4), ((HB.out.cell (World.block_lt_of_cell? w _ hw249_5)).trans hw249_5), ((HB.out.cell (World.block_lt_of_cell? w _ hw250_0)).trans hw250_0), ((HB.out.cell (World.block_lt_of_cell? w _ hw250_1)).trans hw250_1), ((HB.out.cell (World.block_lt_of_cell? w _ hw250_2)).trans hw250_2), ((HB.out.cell (World.block_lt_of_cell? w _ hw250_3)).trans hw250_3), ((HB.out.cell (World.block_lt_of_cell? w _ hw250_4)).trans hw250_4), ((HB.out.cell (World.block_lt_of_cell? w _ hw250_5)).trans hw250_5)⟩ (fun hHeld => ?_)
     clear hK K
     refine Kn_ 32 ?_
     refine Kp_ 18 33 (Bz 20 524287) (any_of HT_.out (by kernel_rfl)) ?_
     refine Kp_ 19 34 (Bz 20 1048575) (any_of HT_.out (by kernel_rfl)) ?_
     refine done_ (done_of HT_.out (by kernel_rfl)) ?_
     have q25 : (x5_2 : Int) ≤ ((x3_1.length : Int) : Int) := of_decide_eq_true (by first | (with_reducible assumption) | assumption)
     obtain ⟨i025, hi025, _, hsz25, _⟩ := info_parts info3
     have hroom25 : x3_1.length ≤ co3 := (Kd.R_reads' HO_3.out).2.1
     have hC25 : Kd.C (Kd.int .i64) _ (some ad248) x3_1.length x3_1 := (Kd.R_reads' HO_3.out).2.2
     have hcut25 := cut_to (P := Try.prog) 45 3 .i64 Try.underlying45 hi025 (some ad248) x3_1.length co3 x5_2 (of_decide_eq_true (by first | (with_reducible assumption) | assumption)) q25 hroom25
     have hr25 := Kd.C_take (m := (x5_2 : Int).toNat) hC25 (by omega)
     have hy25 : y252.length = (x5_2 : Int).toNat := (by rw [Ny252.out, List.length_take]; omega)
     rw [← Ny252.out] at hr25
     rw [← hy25] at hcut25
     have HR255 := Aside0.mk hr25
     have HC255 := Aside0.mk (show y252.length ≤ co3 from by omega)
     clear hr25 hC25 hroom25 hi025 hsz25
     have KY25 := Aside0.mk hy25
     clear hy25
     have KL25 := Aside0.mk (show (x5_2 : Int).toNat ≤ x3_1.length from by omega)
     replace q25 := eq_true q25
     try go_wp2_with (first | ((with_reducible refine gate_builtin (b := .append) (xs := #[(.tmp 37), .tmp 40]) rfl ?_); at_builtin; refine Kd.R_append_rows (Kd.int .i64) (w0 := w) w.heap.size rfl (.tmp 37) (.tmp 40) 45 3 (.int .i64 0) 8 rfl Try.underlying45 info3 rfl (by decide) (by omega) (.slice none 0 0) ([] : List Int) y252 _ _ _ (fun k_ => some k_ ≠ (.slice (some ad248) x3_1.length co3 : Value).ownBlock) (fun _ => False) rfl rfl ?aO ?aR (fun _ _ h => h) (fun _ h => h.elim) ?aF ?aB ?aS ?aL ?_; (case aR => repeat (first | exact (by repeat (first | (with_reducible exact HR255.out) | (with_reducible refine Kd.C_alloc ?_ _) | (with_reducible refine Kd.C_drewN ?_ _) | (with_reducible refine Kd.C_drew ?_) | exact HR255.out)) | (with_reducible refine Kd.C_alloc ?_ _) | (with_reducible refine Kd.C_drewN ?_ _) | (with_reducible refine Kd.C_drew ?_))); (case aB => exact (Ky_ HB)); (case aF => exact (fun k_ hk => Kd.fresh' (Kd.R_lt (Ku_ HO_3)) k_ hk)); (case aO => exact ((Kd.R_nil _ _ _ _ (fun k_ => some k_ ≠ (.slice (some ad248) x3_1.length co3 : Value).ownBlock)))); (case aS => exact (below_size (Ky_ HB))); (case aL => have := LMc18.out; omega); intro v257 w26 ho hb hg hat; rw [← Ny256.out] at ho; have n0_ := Aside0.mk (Kd.R_after (Kd.R_apart_nil (Ku_ HO_3)) hg hat); have n1_ := Aside0.mk (hb); have n2_ := Aside0.mk ((show Kd.C (Kd.int .i64) w26 (some ad248) y252.length y252 from by rw [Ny252.out]; exact Kd.C_take (m := (x5_2 : Int).toNat) ((Kd.R_reads' (Kd.R_after (Kd.R_apart_nil (Ku_ HO_3)) hg hat)).2.2) KL25.out)); have n3_ := Aside0.mk (ho); clear HO_3; clear HB; clear HR255; have HO_3 := n0_; have HB := n1_; have HR255 := n2_; have HO258 := n3_; clear n0_ n1_ n2_ n3_; clear ho hb hg hat) | ((with_reducible refine gate_builtin (b := .append) (xs := #[.tmp 42, .tmp 44]) rfl ?_); at_builtin; refine Kd.R_append (Kd.int .i64) (w0 := w) w.heap.size rfl (.tmp 42) (.tmp 44) 45 3 (.int .i64 0) 8 rfl Try.underlying45 info3 rfl (by decide) (by omega) v257 y256 x4_1 [.int .i64 x4_1] (fun k_ => some k_ ≠ (.slice (some ad248) x3_1.length co3 : Value).ownBlock) (fun _ => False) rfl rfl ?aP (fun _ hk => hk.elim) ?aF ?aO ?aB ?aS ?aL ?_; (case aP => exact rfl); (case aB => exact (Ky_ HB)); (case aF => exact (fun k_ hk => Kd.fresh' (Kd.R_lt (Ku_ HO_3)) k_ hk)); (case aO => exact (Ku_ HO258)); (case aS => exact (below_size (Ky_ HB))); (case aL => have := LMc19.out; omega); intro v260 w27 ho hb hg hat; rw [← Ny259.out] at ho; have n0_ := Aside0.mk (Kd.R_after (ok := (fun _ => True)) (Ku_ HO_3) hg hat); have n1_ := Aside0.mk (hb); have n2_ := Aside0.mk ((show Kd.C (Kd.int .i64) w27 (some ad248) y252.length y252 from by rw [Ny252.out]; exact Kd.C_take (m := (x5_2 : Int).toNat) ((Kd.R_reads' (Kd.R_after (ok := (fun _ => True)) (Ku_ HO_3) hg hat)).2.2) KL25.out)); have n3_ := Aside0.mk (ho); clear HO_3; clear HB; clear HR255; clear HO258; have HO_3 := n0_; have HB := n1_; have HR255 := n2_; have HO261 := n3_; clear n0_ n1_ n2_ n3_; clear ho hb hg hat; have q28 : (x5_2 : Int) ≤ ((x3_1.length : Int) : Int) := of_decide_eq_true (by first | (with_reducible assumption) | assumption); obtain ⟨i028, hi028, _, hsz28, _⟩ := info_parts info3; have hroom28 : x3_1.length ≤ co3 := (Kd.R_reads' HO_3.out).2.1; have hC28 : Kd.C (Kd.int .i64) _ (some ad248) x3_1.length x3_1 := (Kd.R_reads' HO_3.out).2.2; have q028 : (0 : Int) ≤ (x5_2 : Int) := of_decide_eq_true (by first | (with_reducible assumption) | assumption); have hcut28 := cut_from (P := Try.prog) 45 3 .i64 Try.underlying45 hi028 1 hsz28 (some ad248) x3_1.length co3 x5_2 q028 q28; have hr28 := Kd.C_drop (m := (x5_2 : Int).toNat) (c := co3) hC28 (by omega) hroom28; obtain ⟨A28, hA28⟩ : ∃ A1, A1 = (if co3 = (x5_2 : Int).toNat then (some ad248) else ((some ad248) : Option Addr).map (·.add ((x5_2 : Int).toNat * 1))) := ⟨_, rfl⟩; obtain ⟨c28, hc28⟩ : ∃ c1, c1 = co3 - (x5_2 : Int).toNat := ⟨_, rfl⟩; have hy28 : y262.length = x3_1.length - (x5_2 : Int).toNat := (by rw [Ny262.out, List.length_drop] <;> omega); rw [show (x3_1).drop (x5_2 : Int).toNat = y262 from Ny262.out.symm] at hr28; replace hr28 : Kd.C (Kd.int .i64) _ A28 y262.length y262 := (by rw [hA28]; exact hr28); rw [← hy28, ← hA28, ← hc28] at hcut28; have HR265 := Aside0.mk hr28; have HC265 := Aside0.mk (show y262.length ≤ c28 from by rw [hy28, hc28]; exact Nat.sub_le_sub_right hroom28 _); clear hr28 hC28 hroom28 hi028 hsz28 hc28; have KY28 := Aside0.mk hy28; have KA28 := Aside0.mk hA28; clear hy28 hA28; have KL28 := Aside0.mk (show (x5_2 : Int).toNat ≤ x3_1.length from by omega); replace q28 := eq_true q28) | ((with_reducible refine gate_builtin (b := .append) (xs := #[(.tmp 46), .tmp 49]) rfl ?_); at_builtin; refine Kd.R_append_rows (Kd.int .i64) (w0 := w) w.heap.size rfl (.tmp 46) (.tmp 49) 45 3 (.int .i64 0) 8 rfl Try.underlying45 info3 rfl (by decide) (by omega) v260 y259 y262 _ _ _ (fun k_ => some k_ ≠ (.slice (some ad248) x3_1.length co3 : Value).ownBlock) (fun _ => False) rfl rfl ?aO ?aR (fun _ _ h => h) (fun _ h => h.elim) ?aF ?aB ?aS ?aL ?_; (case aR => repeat (first | exact (by repeat (first | (with_reducible exact HR265.out) | (with_reducible refine Kd.C_alloc ?_ _) | (with_reducible refine Kd.C_drewN ?_ _) | (with_reducible refine Kd.C_drew ?_) | exact HR265.out)) | (with_reducible refine Kd.C_alloc ?_ _) | (with_reducible refine Kd.C_drewN ?_ _) | (with_reducible refine Kd.C_drew ?_))); (case aB => exact (Ky_ HB)); (case aF => exact (fun k_ hk => Kd.fresh' (Kd.R_lt (Ku_ HO_3)) k_ hk)); (case aO => exact (Ku_ HO261)); (case aS => exact (below_size (Ky_ HB))); (case aL => have := LMc22.out; omega); intro v267 w29 ho hb hg hat; rw [← Ny266.out] at ho; have n0_ := Aside0.mk (Kd.R_after (ok := (fun _ => True)) (Ku_ HO_3) hg hat); have n1_ := Aside0.mk (hb); have n2_ := Aside0.mk ((show Kd.C (Kd.int .i64) w29 (some ad248) y252.length y252 from by rw [Ny252.out]; exact Kd.C_take (m := (x5_2 : Int).toNat) ((Kd.R_reads' (Kd.R_after (ok := (fun _ => True)) (Ku_ HO_3) hg hat)).2.2) KL25.out)); have n3_ := Aside0.mk ((show Kd.C (Kd.int .i64) w29 A28 y262.length y262 from by rw [Ny262.out, KA28.out]; exact Kd.C_drop (m := (x5_2 : Int).toNat) (c := co3) ((Kd.R_reads' (Kd.R_after (ok := (fun _ => True)) (Ku_ HO_3) hg hat)).2.2) KL28.out ((Kd.R_reads' (Kd.R_after (ok := (fun _ => True)) (Ku_ HO_3) hg hat)).2.1))); have n4_ := Aside0.mk (ho); clear HO_3; clear HB; clear HR255; clear HR265; clear HO261; have HO_3 := n0_; have HB := n1_; have HR255 := n2_; have HR265 := n3_; have HO268 := n4_; clear n0_ n1_ n2_ n3_ n4_; clear ho hb hg hat))
     go_roundg k2
     case measure => have := HK1.out; have := HK2.out; omega
     case rel => exact ⟨(y266), (wrap64 (x4_1 + 1)), (by first | rfl | (simp; done) | (simp [*]; done)), H', ⟨by have := HK1.out; have := HK2.out; omega⟩, ⟨by (with_reducible repeat (first | apply Kd.R_alloc | apply Kd.R_drewN | apply Kd.R_drew)); exact Kd.R_mono HO268.out (fun _ hk => trivial)⟩, ⟨Ky_ HB⟩⟩
end Go.Proofs.Ythjhkcebcgdeoaa.Q
