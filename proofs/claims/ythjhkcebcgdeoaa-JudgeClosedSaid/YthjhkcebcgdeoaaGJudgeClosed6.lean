import Derived.Test.YthjhkcebcgdeoaaGJudgeClosed2
import Derived.Test.YthjhkcebcgdeoaaGJudgeClosed4
import Derived.Test.YthjhkcebcgdeoaaGJudgeClosed5
namespace Go.Proofs.Ythjhkcebcgdeoaa.Q
open Go.RowKit Go.Proofs.YthjhkcebcgdeoaaW.PrintWords Go.Proofs.YthjhkcebcgdeoaaW.PrintLast Go.Proofs.YthjhkcebcgdeoaaW.PrintMore
attribute [local go_sem] max2_int min2_int max_two min_two max_three min_three max_four min_four   -- for this text's walks alone
set_option linter.unusedVariables false
set_option linter.unusedSimpArgs false
def tenementlaw22_JudgeClosed.l0 : Nat → Int → Int → Bool → Int → List (S64) → Int → Option (Bool)
 | 0, _, _, _, _, _, _ => none
 | k + 1, x1, x2, x7, x8, x9, x10 => if x10 ≤ x8 then ((vec_With.f 0 0 0 0 3 (IntKind.u64.wrap (x10))).bind fun bt503 => (if x9.length < 2199023255552 then (tenementlaw22_JudgeClosed.l0 k x1 x2 x7 x8 (x9 ++ [(⟨(⟨(⟨bt503.1, bt503.2.1, bt503.2.2.1, bt503.2.2.2⟩ : S29), 3⟩ : S56), ([] : List (S24))⟩ : S64)]) (wrap64 (x10 + 1))) else (none))) else (if x8 = 0 then (none) else (if 0 ≤ (Int.tmod (wrap64 (x1)) x8) then (if (Int.tmod (wrap64 (x1)) x8) ≤ (x9.length : Int) then ((some (x9.take ((Int.tmod (wrap64 (x1)) x8) : Int).toNat : List (S64))).bind fun y510 => (if ([] : List (S64)).length + y510.length < 2199023255552 then ((some (([] : List (S64)) ++ y510 : List (S64))).bind fun y515 => (if 0 ≤ (wrap64 ((Int.tmod (wrap64 (x1)) x8) + 1)) then (if (wrap64 ((Int.tmod (wrap64 (x1)) x8) + 1)) ≤ (x9.length : Int) then ((some (x9.drop ((wrap64 ((Int.tmod (wrap64 (x1)) x8) + 1)) : Int).toNat : List (S64))).bind fun y518 => (if y515.length + y518.length < 2199023255552 then ((some (y515 ++ y518 : List (S64))).bind fun y523 => ((vec_With.f 0 0 0 0 3 (IntKind.u64.wrap (wrap64 (Int.tmod x2 24)))).bind fun bt526 => (if x7 = true then ((judge_Closed.f x9 bt526.1 bt526.2.1 bt526.2.2.1 bt526.2.2.2).bind fun t531 => (if t531 = true then (if (wrap64 (Int.tmod x2 24)) ≤ x8 then ((judge_Closed.f y523 bt526.1 bt526.2.1 bt526.2.2.1 bt526.2.2.2).bind fun t532 => (if t532 = true then (if (wrap64 (Int.tmod x2 24)) ≤ (Int.tmod (wrap64 (x1)) x8) then ((judge_Closed.f ([] : List (S64)) 0 0 0 0).bind fun t533 => (if t533 = true then (some true) else (none))) else (none)) else (if (wrap64 (Int.tmod x2 24)) ≤ (Int.tmod (wrap64 (x1)) x8) then (none) else ((judge_Closed.f ([] : List (S64)) 0 0 0 0).bind fun t534 => (if t534 = true then (some true) else (none)))))) else (none)) else (if (wrap64 (Int.tmod x2 24)) ≤ x8 then (none) else ((judge_Closed.f y523 bt526.1 bt526.2.1 bt526.2.2.1 bt526.2.2.2).bind fun t535 => (if t535 = true then (if (wrap64 (Int.tmod x2 24)) ≤ (Int.tmod (wrap64 (x1)) x8) then ((judge_Closed.f ([] : List (S64)) 0 0 0 0).bind fun t536 => (if t536 = true then (some true) else (none))) else (none)) else (if (wrap64 (Int.tmod x2 24)) ≤ (Int.tmod (wrap64 (x1)) x8) then (none) else ((judge_Closed.f ([] : List (S64)) 0 0 0 0).bind fun t537 => (if t537 = true then (some true) else (none))))))))) else (none)))) else (none))) else (none)) else (none))) else (none))) else (none)) else (none)))
def tenementlaw22_JudgeClosed.f (k : Nat) (a0 : Int) (a1 : Int) (a2 : Int) : Option (Bool) := (tenementlaw22_examples.f).bind fun t502 => (if t502 = true then (tenementlaw22_JudgeClosed.l0 k a1 a2 t502 (wrap64 (1 + (wrap64 (Int.tmod a0 20)))) ([] : List (S64)) 1) else (none))
def tenementlaw22_JudgeClosed.T11 : Bool × List (List Nat × List Nat) := (true, [([], []), ([], []), ([0, 1], [0, 1]), ([2], [2]), ([], []), ([], []), ([5], [5]), ([4, 6], [4, 6]), ([3, 7, 3], [3, 7]), ([8, 8, 0, 1, 2, 3, 4, 5, 6, 7, 8], [8])])
def tenementlaw22_JudgeClosed.B11 : List Nat := [0, 0, 3, 7, 0, 0, 32, 112, 255, 511]
theorem tenementlaw22_JudgeClosed.tab11 : rtab .any (opsOf Try.f7 11) = tenementlaw22_JudgeClosed.T11 := by kernel_rfl
theorem tenementlaw22_JudgeClosed.bits11 : waitsOk tenementlaw22_JudgeClosed.T11.2 tenementlaw22_JudgeClosed.B11 = true := by kernel_rfl
set_option maxHeartbeats 8000000 in
set_option maxRecDepth 100000 in
theorem tenementlaw22_JudgeClosed.calls (k : Nat) (a0 : Int) (a1 : Int) (a2 : Int) (r : Bool) (w : World) (h : tenementlaw22_JudgeClosed.f k a0 a1 a2 = some r) :
  Calls Try.prog 7 #[.int .u8 a0, .int .u8 a1, .int .u8 a2] w fun e w' => e = .returned (.bool r) ∧ Below w.heap.size w w' := by
 have hu29 := Try.underlying29
 have hu56 := Try.underlying56
 have hu64 := Try.underlying64
 have HB := Aside0.mk (Below.refl w.heap.size w)
 have H : ((tenementlaw22_examples.f).bind fun t502 => (if t502 = true then (tenementlaw22_JudgeClosed.l0 k a1 a2 t502 (wrap64 (1 + (wrap64 (Int.tmod a0 20)))) ([] : List (S64)) 1) else (none))) = some r := h
 clear h
 replace H := Option.bind_eq_some_iff.mp H
 obtain ⟨t502, A40, H⟩ := H
 replace H : (if t502 = true then (tenementlaw22_JudgeClosed.l0 k a1 a2 t502 (wrap64 (1 + (wrap64 (Int.tmod a0 20)))) ([] : List (S64)) 1) else (none)) = some r := H
 have A4 := Aside0.mk A40
 clear A40
 by_cases c5 : t502 = true
 rotate_left
 ·replace c5 := Bool.eq_false_iff.mpr c5
  subst c5
  have H1 : (none) = some r := by rw [if_neg (show ¬ (false = true) by decide)] at H; exact H
  clear H
  have H := H1
  clear H1
  exact absurd H (by simp)
 subst c5
 have H1 : (tenementlaw22_JudgeClosed.l0 k a1 a2 true (wrap64 (1 + (wrap64 (Int.tmod a0 20)))) ([] : List (S64)) 1) = some r := by rw [if_pos rfl] at H; exact H
 clear H
 have H := H1
 clear H1
 have H' := Aside0.mk H
 clear H
 go_enter Try.func7, Try.ntmps7
 go_wp2_with (first | ((with_reducible refine gate_callee (f := 10) rfl ?_); refine Kg_ (some 15) rfl rfl Try.func10 (by kernel_rfl) rfl #[] rfl ?_; (with_reducible refine (tenementlaw22_examples.calls  true _ A4.out).mono ?_); rintro e w6 ⟨rfl, hb⟩; refine ⟨_, rfl, ?_⟩; replace HB := Ks_ HB hb; (try clear hb); (try clear hb2); (try clear hk); (try clear hi)))
 go_loopg [9, 10] k (fun kq v9 v10 w' => ∃ (x9_1 : List (S64)) (x10_1 : Int), v10 = .int .i64 x10_1 ∧ Aside0 (tenementlaw22_JudgeClosed.l0 kq a1 a2 true (wrap64 (1 + (wrap64 (Int.tmod a0 20)))) x9_1 x10_1 = some r) ∧ Aside0 (kq ≤ k) ∧ Aside0 (Kd.N k64 64 w' w.heap.size (fun _ => True) v9 x9_1) ∧ Aside0 (Below w.heap.size w w'))
 case atStart => exact ⟨(([] : List (S64))), (1), (by first | rfl | (simp; done) | (simp [*]; done)), H', ⟨Nat.le_refl _⟩, ⟨by first | exact Kd.S_nil _ _ _ _ _ | exact Kd.N_nil _ _ _ _ _ | exact Kd.V_nil _ _ _ _ _ | exact Kd.Q_nil _ _ _ _ _ | exact Kd.R_nil _ _ _ _ _⟩, ⟨Ky_ HB⟩⟩
 case round =>
  clear H'
  try clear c1
  try clear p2
  try clear c5
  try clear p6
  obtain ⟨x9_1, x10_1, rfl, HA, HK1, HO_9, HB⟩ := hrel
  cases gk with
  | zero => exact absurd HA.out (by simp [tenementlaw22_JudgeClosed.l0])
  | succ k1 =>
   have H := HA.out
   clear HA
   simp only [tenementlaw22_JudgeClosed.l0] at H
   by_cases c7 : x10_1 ≤ (wrap64 (1 + (wrap64 (Int.tmod a0 20))))
   ·rw [if_pos c7] at H
    have c7b0 : decide (x10_1 ≤ (wrap64 (1 + (wrap64 (Int.tmod a0 20))))) = true := decide_eq_true c7
    clear c7
    replace H := Option.bind_eq_some_iff.mp H
    obtain ⟨⟨t503, t504, t505, t506⟩, A80, H⟩ := H
    replace H : (if x9_1.length < 2199023255552 then (tenementlaw22_JudgeClosed.l0 k1 a1 a2 true (wrap64 (1 + (wrap64 (Int.tmod a0 20)))) (x9_1 ++ [(⟨(⟨(⟨t503, t504, t505, t506⟩ : S29), 3⟩ : S56), ([] : List (S24))⟩ : S64)]) (wrap64 (x10_1 + 1))) else (none)) = some r := H
    have A8 := Aside0.mk A80
    clear A80
    by_cases c9 : x9_1.length < 2199023255552
    rotate_left
    ·rw [if_neg c9] at H
     exact absurd H (by simp)
    rw [if_pos c9] at H
    have LMc9 := Aside0.mk c9
    clear c9
    obtain ⟨y507, hy507⟩ : ∃ y_ : List (S64), y_ = (x9_1 ++ [(⟨(⟨(⟨t503, t504, t505, t506⟩ : S29), 3⟩ : S56), ([] : List (S24))⟩ : S64)]) := ⟨_, rfl⟩
    replace H : (tenementlaw22_JudgeClosed.l0 k1 a1 a2 true (wrap64 (1 + (wrap64 (Int.tmod a0 20)))) y507 (wrap64 (x10_1 + 1))) = some r := by first | (rw [hy507]; with_reducible exact H) | (have H2_ := (Option.bind_some _ _).symm.trans H; rw [hy507]; with_reducible exact H2_) | (have H2_ := (Option.bind_some _ _).symm.trans H; with_reducible exact H2_) | with_reducible exact H | (rw [hy507]; exact H) | exact H
    have Ny507 := Aside0.mk hy507
    clear hy507
    have H' := Aside0.mk H
    clear H
    go_wp2_with (first | ((with_reducible refine gate_callee (f := 29) rfl ?_); refine Kg_ (some 31) rfl rfl Try.func29 (by kernel_rfl) rfl #[.agg #[.int .u64 0, .int .u64 0, .int .u64 0, .int .u64 0], .int .i64 3, .int .u64 (IntKind.u64.wrap (x10_1))] rfl ?_; (with_reducible refine (vec_With.calls 0 0 0 0 3 (IntKind.u64.wrap (x10_1)) t503 t504 t505 t506 _ A8.out).mono ?_); rintro e w10 ⟨rfl, hb⟩; refine ⟨_, rfl, ?_⟩; replace HO_9 := Aside0.mk (Kd.N_below (by (with_reducible repeat (first | apply Kd.N_alloc | apply Kd.N_drewN | apply Kd.N_drew)); exact HO_9.out) hb); replace HB := Ks_ HB hb; (try clear hb); (try clear hb2); (try clear hk); (try clear hi)) | ((with_reducible refine gate_builtin (b := .append) (xs := #[.tmp 27, .tmp 34]) rfl ?_); at_builtin; refine Kd.N_append k64 (w0 := w) w.heap.size rfl (.tmp 27) (.tmp 34) 33 64 (.agg #[(.int .u64 0), (.int .u64 0), (.int .u64 0), (.int .u64 0), (.int .i64 0), (.slice none 0 0)]) 64 rfl Try.underlying33 info64 rfl (by decide) (by omega) u9 x9_1 (⟨(⟨(⟨t503, t504, t505, t506⟩ : S29), 3⟩ : S56), ([] : List (S24))⟩ : S64) [.int .u64 t503, .int .u64 t504, .int .u64 t505, .int .u64 t506, .int .i64 3, .slice none 0 0] (fun _ => True) (fun k_ => ((fun _ => True)) k_ ∧ some k_ ≠ (u9 : Value).ownBlock) rfl rfl ?aP (fun _ hk => hk) ?aF ?aO ?aB ?aS ?aL ?_; (case aP => exact (k64_mkF _ _ (⟨(⟨(⟨t503, t504, t505, t506⟩ : S29), 3⟩ : S56), ([] : List (S24))⟩ : S64) (Nat.le_refl _) (Kd.F_nil _ _ _))); (case aB => exact (Ky_ HB)); (case aF => exact (fun _ _ => trivial)); (case aO => exact (by (with_reducible repeat (first | apply Kd.N_alloc | apply Kd.N_drewN | apply Kd.N_drew)); exact HO_9.out)); (case aS => exact (below_size (Ky_ HB))); (case aL => have := LMc9.out; omega); intro v508 w11 ho hb hg hat; rw [← Ny507.out] at ho; have HO509 := Aside0.mk (ho); replace HB := Aside0.mk (hb); clear HO_9; clear ho hb hg hat))
    go_roundg k1
    case measure => have := HK1.out; omega
    case rel => exact ⟨(y507), (wrap64 (x10_1 + 1)), (by first | rfl | (simp; done) | (simp [*]; done)), H', ⟨by have := HK1.out; omega⟩, ⟨by (with_reducible repeat (first | apply Kd.N_alloc | apply Kd.N_drewN | apply Kd.N_drew)); exact HO509.out⟩, ⟨Ky_ HB⟩⟩
   rw [if_neg c7] at H
   have c7b0 : decide (x10_1 ≤ (wrap64 (1 + (wrap64 (Int.tmod a0 20))))) = false := decide_eq_false c7
   clear c7
   by_cases c12 : (wrap64 (1 + (wrap64 (Int.tmod a0 20)))) = 0
   ·rw [if_pos c12] at H
    exact absurd H (by simp)
   rw [if_neg c12] at H
   have c12b0 : ((wrap64 (1 + (wrap64 (Int.tmod a0 20)))) == 0) = false := beq_eq_false_iff_ne.mpr c12
   have c12b1 : ((wrap64 (1 + (wrap64 (Int.tmod a0 20)))) != 0) = true := bne_iff_ne.mpr c12
   obtain ⟨ji13, hji13⟩ : ∃ j_ : Int, (Int.tmod (wrap64 (a1)) (wrap64 (1 + (wrap64 (Int.tmod a0 20))))) = j_ := ⟨_, rfl⟩
   replace H : (if 0 ≤ (ji13) then (if (ji13) ≤ (x9_1.length : Int) then ((some (x9_1.take ((ji13) : Int).toNat : List (S64))).bind fun y510 => (if ([] : List (S64)).length + y510.length < 2199023255552 then ((some (([] : List (S64)) ++ y510 : List (S64))).bind fun y515 => (if 0 ≤ (wrap64 ((ji13) + 1)) then (if (wrap64 ((ji13) + 1)) ≤ (x9_1.length : Int) then ((some (x9_1.drop ((wrap64 ((ji13) + 1)) : Int).toNat : List (S64))).bind fun y518 => (if y515.length + y518.length < 2199023255552 then ((some (y515 ++ y518 : List (S64))).bind fun y523 => ((vec_With.f 0 0 0 0 3 (IntKind.u64.wrap (wrap64 (Int.tmod a2 24)))).bind fun bt526 => (if true = true then ((judge_Closed.f x9_1 bt526.1 bt526.2.1 bt526.2.2.1 bt526.2.2.2).bind fun t531 => (if t531 = true then (if (wrap64 (Int.tmod a2 24)) ≤ (wrap64 (1 + (wrap64 (Int.tmod a0 20)))) then ((judge_Closed.f y523 bt526.1 bt526.2.1 bt526.2.2.1 bt526.2.2.2).bind fun t532 => (if t532 = true then (if (wrap64 (Int.tmod a2 24)) ≤ (ji13) then ((judge_Closed.f ([] : List (S64)) 0 0 0 0).bind fun t533 => (if t533 = true then (some true) else (none))) else (none)) else (if (wrap64 (Int.tmod a2 24)) ≤ (ji13) then (none) else ((judge_Closed.f ([] : List (S64)) 0 0 0 0).bind fun t534 => (if t534 = true then (some true) else (none)))))) else (none)) else (if (wrap64 (Int.tmod a2 24)) ≤ (wrap64 (1 + (wrap64 (Int.tmod a0 20)))) then (none) else ((judge_Closed.f y523 bt526.1 bt526.2.1 bt526.2.2.1 bt526.2.2.2).bind fun t535 => (if t535 = true then (if (wrap64 (Int.tmod a2 24)) ≤ (ji13) then ((judge_Closed.f ([] : List (S64)) 0 0 0 0).bind fun t536 => (if t536 = true then (some true) else (none))) else (none)) else (if (wrap64 (Int.tmod a2 24)) ≤ (ji13) then (none) else ((judge_Closed.f ([] : List (S64)) 0 0 0 0).bind fun t537 => (if t537 = true then (some true) else (none))))))))) else (none)))) else (none))) else (none)) else (none))) else (none))) else (none)) else (none)) = some r := by first | (rw [hji13] at H; exact H) | (simp only [hji13] at H ⊢; exact H)
   by_cases c14 : 0 ≤ (ji13)
   rotate_left
   ·rw [if_neg c14] at H
    exact absurd H (by simp)
   rw [if_pos c14] at H
   have c14b0 := eq_true c14
   have c14b1 : decide (0 ≤ (ji13)) = true := decide_eq_true c14
   clear c14
   by_cases c15 : (ji13) ≤ (x9_1.length : Int)
   rotate_left
   ·rw [if_neg c15] at H
    exact absurd H (by simp)
   rw [if_pos c15] at H
   have c15b0 := eq_true c15
   have c15b1 : decide ((ji13) ≤ (x9_1.length : Int)) = true := decide_eq_true c15
   clear c15
   obtain ⟨y510, hy510⟩ : ∃ y_ : List (S64), y_ = (x9_1.take ((ji13) : Int).toNat) := ⟨_, rfl⟩
   replace H : (if ([] : List (S64)).length + y510.length < 2199023255552 then ((some (([] : List (S64)) ++ y510 : List (S64))).bind fun y515 => (if 0 ≤ (wrap64 ((ji13) + 1)) then (if (wrap64 ((ji13) + 1)) ≤ (x9_1.length : Int) then ((some (x9_1.drop ((wrap64 ((ji13) + 1)) : Int).toNat : List (S64))).bind fun y518 => (if y515.length + y518.length < 2199023255552 then ((some (y515 ++ y518 : List (S64))).bind fun y523 => ((vec_With.f 0 0 0 0 3 (IntKind.u64.wrap (wrap64 (Int.tmod a2 24)))).bind fun bt526 => (if true = true then ((judge_Closed.f x9_1 bt526.1 bt526.2.1 bt526.2.2.1 bt526.2.2.2).bind fun t531 => (if t531 = true then (if (wrap64 (Int.tmod a2 24)) ≤ (wrap64 (1 + (wrap64 (Int.tmod a0 20)))) then ((judge_Closed.f y523 bt526.1 bt526.2.1 bt526.2.2.1 bt526.2.2.2).bind fun t532 => (if t532 = true then (if (wrap64 (Int.tmod a2 24)) ≤ (ji13) then ((judge_Closed.f ([] : List (S64)) 0 0 0 0).bind fun t533 => (if t533 = true then (some true) else (none))) else (none)) else (if (wrap64 (Int.tmod a2 24)) ≤ (ji13) then (none) else ((judge_Closed.f ([] : List (S64)) 0 0 0 0).bind fun t534 => (if t534 = true then (some true) else (none)))))) else (none)) else (if (wrap64 (Int.tmod a2 24)) ≤ (wrap64 (1 + (wrap64 (Int.tmod a0 20)))) then (none) else ((judge_Closed.f y523 bt526.1 bt526.2.1 bt526.2.2.1 bt526.2.2.2).bind fun t535 => (if t535 = true then (if (wrap64 (Int.tmod a2 24)) ≤ (ji13) then ((judge_Closed.f ([] : List (S64)) 0 0 0 0).bind fun t536 => (if t536 = true then (some true) else (none))) else (none)) else (if (wrap64 (Int.tmod a2 24)) ≤ (ji13) then (none) else ((judge_Closed.f ([] : List (S64)) 0 0 0 0).bind fun t537 => (if t537 = true then (some true) else (none))))))))) else (none)))) else (none))) else (none)) else (none))) else (none)) = some r := by first | (rw [hy510]; with_reducible exact H) | (have H2_ := (Option.bind_some _ _).symm.trans H; rw [hy510]; with_reducible exact H2_) | (have H2_ := (Option.bind_some _ _).symm.trans H; with_reducible exact H2_) | with_reducible exact H | (rw [hy510]; exact H) | exact H
   have Ny510 := Aside0.mk hy510
   clear hy510
   by_cases c16 : ([] : List (S64)).length + y510.length < 2199023255552
   rotate_left
   ·rw [if_neg c16] at H
    exact absurd H (by simp)
   rw [if_pos c16] at H
   have LMc16 := Aside0.mk c16
   clear c16
   obtain ⟨y515, hy515⟩ : ∃ y_ : List (S64), y_ = (([] : List (S64)) ++ y510) := ⟨_, rfl⟩
   replace H : (if 0 ≤ (wrap64 ((ji13) + 1)) then (if (wrap64 ((ji13) + 1)) ≤ (x9_1.length : Int) then ((some (x9_1.drop ((wrap64 ((ji13) + 1)) : Int).toNat : List (S64))).bind fun y518 => (if y515.length + y518.length < 2199023255552 then ((some (y515 ++ y518 : List (S64))).bind fun y523 => ((vec_With.f 0 0 0 0 3 (IntKind.u64.wrap (wrap64 (Int.tmod a2 24)))).bind fun bt526 => (if true = true then ((judge_Closed.f x9_1 bt526.1 bt526.2.1 bt526.2.2.1 bt526.2.2.2).bind fun t531 => (if t531 = true then (if (wrap64 (Int.tmod a2 24)) ≤ (wrap64 (1 + (wrap64 (Int.tmod a0 20)))) then ((judge_Closed.f y523 bt526.1 bt526.2.1 bt526.2.2.1 bt526.2.2.2).bind fun t532 => (if t532 = true then (if (wrap64 (Int.tmod a2 24)) ≤ (ji13) then ((judge_Closed.f ([] : List (S64)) 0 0 0 0).bind fun t533 => (if t533 = true then (some true) else (none))) else (none)) else (if (wrap64 (Int.tmod a2 24)) ≤ (ji13) then (none) else ((judge_Closed.f ([] : List (S64)) 0 0 0 0).bind fun t534 => (if t534 = true then (some true) else (none)))))) else (none)) else (if (wrap64 (Int.tmod a2 24)) ≤ (wrap64 (1 + (wrap64 (Int.tmod a0 20)))) then (none) else ((judge_Closed.f y523 bt526.1 bt526.2.1 bt526.2.2.1 bt526.2.2.2).bind fun t535 => (if t535 = true then (if (wrap64 (Int.tmod a2 24)) ≤ (ji13) then ((judge_Closed.f ([] : List (S64)) 0 0 0 0).bind fun t536 => (if t536 = true then (some true) else (none))) else (none)) else (if (wrap64 (Int.tmod a2 24)) ≤ (ji13) then (none) else ((judge_Closed.f ([] : List (S64)) 0 0 0 0).bind fun t537 => (if t537 = true then (some true) else (none))))))))) else (none)))) else (none))) else (none)) else (none)) = some r := by first | (rw [hy515]; with_reducible exact H) | (have H2_ := (Option.bind_some _ _).symm.trans H; rw [hy515]; with_reducible exact H2_) | (have H2_ := (Option.bind_some _ _).symm.trans H; with_reducible exact H2_) | with_reducible exact H | (rw [hy515]; exact H) | exact H
   have Ny515 := Aside0.mk hy515
   clear hy515
   obtain ⟨ji17, hji17⟩ : ∃ j_ : Int, (wrap64 ((ji13) + 1)) = j_ := ⟨_, rfl⟩
   replace H : (if 0 ≤ (ji17) then (if (ji17) ≤ (x9_1.length : Int) then ((some (x9_1.drop ((ji17) : Int).toNat : List (S64))).bind fun y518 => (if y515.length + y518.length < 2199023255552 then ((some (y515 ++ y518 : List (S64))).bind fun y523 => ((vec_With.f 0 0 0 0 3 (IntKind.u64.wrap (wrap64 (Int.tmod a2 24)))).bind fun bt526 => (if true = true then ((judge_Closed.f x9_1 bt526.1 bt526.2.1 bt526.2.2.1 bt526.2.2.2).bind fun t531 => (if t531 = true then (if (wrap64 (Int.tmod a2 24)) ≤ (wrap64 (1 + (wrap64 (Int.tmod a0 20)))) then ((judge_Closed.f y523 bt526.1 bt526.2.1 bt526.2.2.1 bt526.2.2.2).bind fun t532 => (if t532 = true then (if (wrap64 (Int.tmod a2 24)) ≤ (ji13) then ((judge_Closed.f ([] : List (S64)) 0 0 0 0).bind fun t533 => (if t533 = true then (some true) else (none))) else (none)) else (if (wrap64 (Int.tmod a2 24)) ≤ (ji13) then (none) else ((judge_Closed.f ([] : List (S64)) 0 0 0 0).bind fun t534 => (if t534 = true then (some true) else (none)))))) else (none)) else (if (wrap64 (Int.tmod a2 24)) ≤ (wrap64 (1 + (wrap64 (Int.tmod a0 20)))) then (none) else ((judge_Closed.f y523 bt526.1 bt526.2.1 bt526.2.2.1 bt526.2.2.2).bind fun t535 => (if t535 = true then (if (wrap64 (Int.tmod a2 24)) ≤ (ji13) then ((judge_Closed.f ([] : List (S64)) 0 0 0 0).bind fun t536 => (if t536 = true then (some true) else (none))) else (none)) else (if (wrap64 (Int.tmod a2 24)) ≤ (ji13) then (none) else ((judge_Closed.f ([] : List (S64)) 0 0 0 0).bind fun t537 => (if t537 = true then (some true) else (none))))))))) else (none)))) else (none))) else (none)) else (none)) = some r := by first | (rw [hji17] at H; exact H) | (simp only [hji17] at H ⊢; exact H)
   have hji17w : (IntKind.i64.wrap ((ji13) + 1)) = ji17 := (i64_w _).trans hji17
   by_cases c18 : 0 ≤ (ji17)
   rotate_left
   ·rw [if_neg c18] at H
    exact absurd H (by simp)
   rw [if_pos c18] at H
   have c18b0 := eq_true c18
   have c18b1 : decide (0 ≤ (ji17)) = true := decide_eq_true c18
   clear c18
   by_cases c19 : (ji17) ≤ (x9_1.length : Int)
   rotate_left
   ·rw [if_neg c19] at H
    exact absurd H (by simp)
   rw [if_pos c19] at H
   have c19b0 := eq_true c19
   have c19b1 : decide ((ji17) ≤ (x9_1.length : Int)) = true := decide_eq_true c19
   clear c19
   obtain ⟨y518, hy518⟩ : ∃ y_ : List (S64), y_ = (x9_1.drop ((ji17) : Int).toNat) := ⟨_, rfl⟩
   replace H : (if y515.length + y518.length < 2199023255552 then ((some (y515 ++ y518 : List (S64))).bind fun y523 => ((vec_With.f 0 0 0 0 3 (IntKind.u64.wrap (wrap64 (Int.tmod a2 24)))).bind fun bt526 => (if true = true then ((judge_Closed.f x9_1 bt526.1 bt526.2.1 bt526.2.2.1 bt526.2.2.2).bind fun t531 => (if t531 = true then (if (wrap64 (Int.tmod a2 24)) ≤ (wrap64 (1 + (wrap64 (Int.tmod a0 20)))) then ((judge_Closed.f y523 bt526.1 bt526.2.1 bt526.2.2.1 bt526.2.2.2).bind fun t532 => (if t532 = true then (if (wrap64 (Int.tmod a2 24)) ≤ (ji13) then ((judge_Closed.f ([] : List (S64)) 0 0 0 0).bind fun t533 => (if t533 = true then (some true) else (none))) else (none)) else (if (wrap64 (Int.tmod a2 24)) ≤ (ji13) then (none) else ((judge_Closed.f ([] : List (S64)) 0 0 0 0).bind fun t534 => (if t534 = true then (some true) else (none)))))) else (none)) else (if (wrap64 (Int.tmod a2 24)) ≤ (wrap64 (1 + (wrap64 (Int.tmod a0 20)))) then (none) else ((judge_Closed.f y523 bt526.1 bt526.2.1 bt526.2.2.1 bt526.2.2.2).bind fun t535 => (if t535 = true then (if (wrap64 (Int.tmod a2 24)) ≤ (ji13) then ((judge_Closed.f ([] : List (S64)) 0 0 0 0).bind fun t536 => (if t536 = true then (some true) else (none))) else (none)) else (if (wrap64 (Int.tmod a2 24)) ≤ (ji13) then (none) else ((judge_Closed.f ([] : List (S64)) 0 0 0 0).bind fun t537 => (if t537 = true then (some true) else (none))))))))) else (none)))) else (none)) = some r := by first | (rw [hy518]; with_reducible exact H) | (have H2_ := (Option.bind_some _ _).symm.trans H; rw [hy518]; with_reducible exact H2_) | (have H2_ := (Option.bind_some _ _).symm.trans H; with_reducible exact H2_) | with_reducible exact H | (rw [hy518]; exact H) | exact H
   have Ny518 := Aside0.mk hy518
   clear hy518
   by_cases c20 : y515.length + y518.length < 2199023255552
   rotate_left
   ·rw [if_neg c20] at H
    exact absurd H (by simp)
   rw [if_pos c20] at H
   have LMc20 := Aside0.mk c20
   clear c20
   obtain ⟨y523, hy523⟩ : ∃ y_ : List (S64), y_ = (y515 ++ y518) := ⟨_, rfl⟩
   replace H : ((vec_With.f 0 0 0 0 3 (IntKind.u64.wrap (wrap64 (Int.tmod a2 24)))).bind fun bt526 => (if true = true then ((judge_Closed.f x9_1 bt526.1 bt526.2.1 bt526.2.2.1 bt526.2.2.2).bind fun t531 => (if t531 = true then (if (wrap64 (Int.tmod a2 24)) ≤ (wrap64 (1 + (wrap64 (Int.tmod a0 20)))) then ((judge_Closed.f y523 bt526.1 bt526.2.1 bt526.2.2.1 bt526.2.2.2).bind fun t532 => (if t532 = true then (if (wrap64 (Int.tmod a2 24)) ≤ (ji13) then ((judge_Closed.f ([] : List (S64)) 0 0 0 0).bind fun t533 => (if t533 = true then (some true) else (none))) else (none)) else (if (wrap64 (Int.tmod a2 24)) ≤ (ji13) then (none) else ((judge_Closed.f ([] : List (S64)) 0 0 0 0).bind fun t534 => (if t534 = true then (some true) else (none)))))) else (none)) else (if (wrap64 (Int.tmod a2 24)) ≤ (wrap64 (1 + (wrap64 (Int.tmod a0 20)))) then (none) else ((judge_Closed.f y523 bt526.1 bt526.2.1 bt526.2.2.1 bt526.2.2.2).bind fun t535 => (if t535 = true then (if (wrap64 (Int.tmod a2 24)) ≤ (ji13) then ((judge_Closed.f ([] : List (S64)) 0 0 0 0).bind fun t536 => (if t536 = true then (some true) else (none))) else (none)) else (if (wrap64 (Int.tmod a2 24)) ≤ (ji13) then (none) else ((judge_Closed.f ([] : List (S64)) 0 0 0 0).bind fun t537 => (if t537 = true then (some true) else (none))))))))) else (none))) = some r := by first | (rw [hy523]; with_reducible exact H) | (have H2_ := (Option.bind_some _ _).symm.trans H; rw [hy523]; with_reducible exact H2_) | (have H2_ := (Option.bind_some _ _).symm.trans H; with_reducible exact H2_) | with_reducible exact H | (rw [hy523]; exact H) | exact H
   have Ny523 := Aside0.mk hy523
   clear hy523
   replace H := Option.bind_eq_some_iff.mp H
   obtain ⟨⟨t526, t527, t528, t529⟩, A210, H⟩ := H
   replace H : (if true = true then ((judge_Closed.f x9_1 t526 t527 t528 t529).bind fun t531 => (if t531 = true then (if (wrap64 (Int.tmod a2 24)) ≤ (wrap64 (1 + (wrap64 (Int.tmod a0 20)))) then ((judge_Closed.f y523 t526 t527 t528 t529).bind fun t532 => (if t532 = true then (if (wrap64 (Int.tmod a2 24)) ≤ (ji13) then ((judge_Closed.f ([] : List (S64)) 0 0 0 0).bind fun t533 => (if t533 = true then (some true) else (none))) else (none)) else (if (wrap64 (Int.tmod a2 24)) ≤ (ji13) then (none) else ((judge_Closed.f ([] : List (S64)) 0 0 0 0).bind fun t534 => (if t534 = true then (some true) else (none)))))) else (none)) else (if (wrap64 (Int.tmod a2 24)) ≤ (wrap64 (1 + (wrap64 (Int.tmod a0 20)))) then (none) else ((judge_Closed.f y523 t526 t527 t528 t529).bind fun t535 => (if t535 = true then (if (wrap64 (Int.tmod a2 24)) ≤ (ji13) then ((judge_Closed.f ([] : List (S64)) 0 0 0 0).bind fun t536 => (if t536 = true then (some true) else (none))) else (none)) else (if (wrap64 (Int.tmod a2 24)) ≤ (ji13) then (none) else ((judge_Closed.f ([] : List (S64)) 0 0 0 0).bind fun t537 => (if t537 = true then (some true) else (none))))))))) else (none)) = some r := H
   have A21 := Aside0.mk A210
   clear A210
   replace H : ((judge_Closed.f x9_1 t526 t527 t528 t529).bind fun t531 => (if t531 = true then (if (wrap64 (Int.tmod a2 24)) ≤ (wrap64 (1 + (wrap64 (Int.tmod a0 20)))) then ((judge_Closed.f y523 t526 t527 t528 t529).bind fun t532 => (if t532 = true then (if (wrap64 (Int.tmod a2 24)) ≤ (ji13) then ((judge_Closed.f ([] : List (S64)) 0 0 0 0).bind fun t533 => (if t533 = true then (some true) else (none))) else (none)) else (if (wrap64 (Int.tmod a2 24)) ≤ (ji13) then (none) else ((judge_Closed.f ([] : List (S64)) 0 0 0 0).bind fun t534 => (if t534 = true then (some true) else (none)))))) else (none)) else (if (wrap64 (Int.tmod a2 24)) ≤ (wrap64 (1 + (wrap64 (Int.tmod a0 20)))) then (none) else ((judge_Closed.f y523 t526 t527 t528 t529).bind fun t535 => (if t535 = true then (if (wrap64 (Int.tmod a2 24)) ≤ (ji13) then ((judge_Closed.f ([] : List (S64)) 0 0 0 0).bind fun t536 => (if t536 = true then (some true) else (none))) else (none)) else (if (wrap64 (Int.tmod a2 24)) ≤ (ji13) then (none) else ((judge_Closed.f ([] : List (S64)) 0 0 0 0).bind fun t537 => (if t537 = true then (some true) else (none))))))))) = some r := by first | (rw [if_pos rfl] at H; exact H) | (rw [if_pos trivial] at H; exact H)
   replace H := Option.bind_eq_some_iff.mp H
   obtain ⟨t531, A220, H⟩ := H
   replace H : (if t531 = true then (if (wrap64 (Int.tmod a2 24)) ≤ (wrap64 (1 + (wrap64 (Int.tmod a0 20)))) then ((judge_Closed.f y523 t526 t527 t528 t529).bind fun t532 => (if t532 = true then (if (wrap64 (Int.tmod a2 24)) ≤ (ji13) then ((judge_Closed.f ([] : List (S64)) 0 0 0 0).bind fun t533 => (if t533 = true then (some true) else (none))) else (none)) else (if (wrap64 (Int.tmod a2 24)) ≤ (ji13) then (none) else ((judge_Closed.f ([] : List (S64)) 0 0 0 0).bind fun t534 => (if t534 = true then (some true) else (none)))))) else (none)) else (if (wrap64 (Int.tmod a2 24)) ≤ (wrap64 (1 + (wrap64 (Int.tmod a0 20)))) then (none) else ((judge_Closed.f y523 t526 t527 t528 t529).bind fun t535 => (if t535 = true then (if (wrap64 (Int.tmod a2 24)) ≤ (ji13) then ((judge_Closed.f ([] : List (S64)) 0 0 0 0).bind fun t536 => (if t536 = true then (some true) else (none))) else (none)) else (if (wrap64 (Int.tmod a2 24)) ≤ (ji13) then (none) else ((judge_Closed.f ([] : List (S64)) 0 0 0 0).bind fun t537 => (if t537 = true then (some true) else (none)))))))) = some r := H
   have A22 := Aside0.mk A220
   clear A220
   by_cases c23 : t531 = true
   ·subst c23
    have H1 : (if (wrap64 (Int.tmod a2 24)) ≤ (wrap64 (1 + (wrap64 (Int.tmod a0 20)))) then ((judge_Closed.f y523 t526 t527 t528 t529).bind fun t532 => (if t532 = true then (if (wrap64 (Int.tmod a2 24)) ≤ (ji13) then ((judge_Closed.f ([] : List (S64)) 0 0 0 0).bind fun t533 => (if t533 = true then (some true) else (none))) else (none)) else (if (wrap64 (Int.tmod a2 24)) ≤ (ji13) then (none) else ((judge_Closed.f ([] : List (S64)) 0 0 0 0).bind fun t534 => (if t534 = true then (some true) else (none)))))) else (none)) = some r := by rw [if_pos rfl] at H; exact H
    clear H
    have H := H1
    clear H1
    by_cases c24 : (wrap64 (Int.tmod a2 24)) ≤ (wrap64 (1 + (wrap64 (Int.tmod a0 20))))
    rotate_left
    ·rw [if_neg c24] at H
     exact absurd H (by simp)
    rw [if_pos c24] at H
    have c24b0 : decide ((wrap64 (Int.tmod a2 24)) ≤ (wrap64 (1 + (wrap64 (Int.tmod a0 20))))) = true := decide_eq_true c24
    clear c24
    replace H := Option.bind_eq_some_iff.mp H
    obtain ⟨t532, A250, H⟩ := H
    replace H : (if t532 = true then (if (wrap64 (Int.tmod a2 24)) ≤ (ji13) then ((judge_Closed.f ([] : List (S64)) 0 0 0 0).bind fun t533 => (if t533 = true then (some true) else (none))) else (none)) else (if (wrap64 (Int.tmod a2 24)) ≤ (ji13) then (none) else ((judge_Closed.f ([] : List (S64)) 0 0 0 0).bind fun t534 => (if t534 = true then (some true) else (none))))) = some r := H
    have A25 := Aside0.mk A250
    clear A250
    by_cases c26 : t532 = true
    ·subst c26
     have H1 : (if (wrap64 (Int.tmod a2 24)) ≤ (ji13) then ((judge_Closed.f ([] : List (S64)) 0 0 0 0).bind fun t533 => (if t533 = true then (some true) else (none))) else (none)) = some r := by rw [if_pos rfl] at H; exact H
     clear H
     have H := H1
     clear H1
     by_cases c27 : (wrap64 (Int.tmod a2 24)) ≤ (ji13)
     rotate_left
     ·rw [if_neg c27] at H
      exact absurd H (by simp)
     rw [if_pos c27] at H
     have c27b0 : decide ((wrap64 (Int.tmod a2 24)) ≤ (ji13)) = true := decide_eq_true c27
     clear c27
     replace H := Option.bind_eq_some_iff.mp H
     obtain ⟨t533, A280, H⟩ := H
     replace H : (if t533 = true then (some true) else (none)) = some r := H
     have A28 := Aside0.mk A280
     clear A280
     by_cases c29 : t533 = true
     rotate_left
     ·replace c29 := Bool.eq_false_iff.mpr c29
      subst c29
      have H1 : (none) = some r := by rw [if_neg (show ¬ (false = true) by decide)] at H; exact H
      clear H
      have H := H1
      clear H1
      exact absurd H (by simp)
     subst c29
     have H1 : (some true) = some r := by rw [if_pos rfl] at H; exact H
     clear H
     have H := H1
     clear H1
     obtain rfl := Option.some.inj H
     try go_wp2
     replace HO_9 := Aside0.mk (Kd.N_drew HO_9.out)
     replace HB := Aside0.mk (below_drew1 HB.out)
     obtain ⟨Ao32, co32, eo32⟩ := Kd.N_slice HO_9.out
     (first | subst eo32 | (injection eo32 with f1_ f2_ f3_; have f4_ := f1_.symm; have f5_ := f3_.symm; clear f1_ f2_ f3_; subst f4_; subst f5_))
     have q31 : ((ji13) : Int) ≤ ((x9_1.length : Int) : Int) := of_decide_eq_true (by first | (with_reducible assumption) | assumption)
     obtain ⟨i031, hi031, _, hsz31, _⟩ := info_parts info64
     have hroom31 : x9_1.length ≤ co32 := (Kd.N_reads' HO_9.out).2.1
     have hC31 : Kd.F k64 _ _ Ao32 x9_1.length x9_1 := (Kd.V_at (base := w.heap.size) (Kd.N_V HO_9.out)).2.2
     have hcut31 := cut_to (P := Try.prog) 33 64 .i64 Try.underlying33 hi031 Ao32 x9_1.length co32 (ji13) (of_decide_eq_true (by first | (with_reducible assumption) | assumption)) q31 hroom31
     have hr31 := Kd.F_take (m := ((ji13) : Int).toNat) hC31 (by omega)
     have hy31 : y510.length = ((ji13) : Int).toNat := (by rw [Ny510.out, List.length_take]; omega)
     rw [← Ny510.out] at hr31
     rw [← hy31] at hcut31
     have HO514 := Aside0.mk (show Kd.V k64 64 _ w.heap.size _ (.slice Ao32 y510.length co32) y510 from Kd.V_mk (by omega) hr31)
     have HC514 := Aside0.mk (show y510.length ≤ co32 from by omega)
     clear hr31 hC31 hroom31 hi031 hsz31
     have KY31 := Aside0.mk hy31
     clear hy31
     replace q31 := eq_true q31
     have q33 : ((ji17) : Int) ≤ ((x9_1.length : Int) : Int) := of_decide_eq_true (by first | (with_reducible assumption) | assumption)
     obtain ⟨i033, hi033, _, hsz33, _⟩ := info_parts info64
     have hroom33 : x9_1.length ≤ co32 := (Kd.N_reads' HO_9.out).2.1
     have hC33 : Kd.F k64 _ _ Ao32 x9_1.length x9_1 := (Kd.V_at (base := w.heap.size) (Kd.N_V HO_9.out)).2.2
     have q033 : (0 : Int) ≤ ((ji17) : Int) := of_decide_eq_true (by first | (with_reducible assumption) | assumption)
     have hcut33 := cut_from (P := Try.prog) 33 64 .i64 Try.underlying33 hi033 6 hsz33 Ao32 x9_1.length co32 (ji17) q033 q33
     have hr33 := Kd.F_cut (m := ((ji17) : Int).toNat) (c := co32) hC33 (by omega) hroom33
     obtain ⟨A33, hA33⟩ : ∃ A1, A1 = (if co32 = ((ji17) : Int).toNat then Ao32 else (Ao32 : Option Addr).map (·.add (((ji17) : Int).toNat * 6))) := ⟨_, rfl⟩
     obtain ⟨c33, hc33⟩ : ∃ c1, c1 = co32 - ((ji17) : Int).toNat := ⟨_, rfl⟩
     have hy33 : y518.length = x9_1.length - ((ji17) : Int).toNat := (by rw [Ny518.out, List.length_drop] <;> omega)
     rw [show (x9_1).drop ((ji17) : Int).toNat = y518 from Ny518.out.symm] at hr33
     replace hr33 : Kd.F k64 _ _ A33 y518.length y518 := (by rw [hA33]; exact hr33)
     rw [← hy33, ← hA33, ← hc33] at hcut33
     have HO522 := Aside0.mk (show Kd.V k64 64 _ w.heap.size _ (.slice A33 y518.length c33) y518 from Kd.V_mk (by rw [hy33, hc33]; exact Nat.sub_le_sub_right hroom33 _) hr33)
     have HC522 := Aside0.mk (show y518.length ≤ c33 from by rw [hy33, hc33]; exact Nat.sub_le_sub_right hroom33 _)
     clear hr33 hC33 hroom33 hi033 hsz33 hc33
     have KY33 := Aside0.mk hy33
     have KA33 := Aside0.mk hA33
     clear hy33 hA33
     replace q33 := eq_true q33
     refine start_ (n := 10) (S := fun w' => True) (ds := []) (mB_ 10 0) (by kernel_rfl) rfl rfl trivial (fun hHeld => ?_); refine with_tabW tenementlaw22_JudgeClosed.tab11 tenementlaw22_JudgeClosed.bits11 (fun HT_ HW_ => ?_)
     generalize wr.drew = w30 at HO_9 HB HO514 HO522 hHeld ⊢
     refine Kp_ 0 40 (mB_ 10 1) (any_of HT_.out (by kernel_rfl)) ?_
     refine Kp_ 1 41 (mB_ 10 3) (any_of HT_.out (by kernel_rfl)) ?_
     refine Kp_ 2 42 (mB_ 10 7) (any_of HT_.out (by kernel_rfl)) ?_
     refine Kp_ 4 44 (mB_ 10 23) (any_of HT_.out (by kernel_rfl)) ?_
     refine Kp_ 5 45 (mB_ 10 55) (any_of HT_.out (by kernel_rfl)) ?_
     refine Kp_ 6 46 (mB_ 10 119) (any_of HT_.out (by kernel_rfl)) ?_
     refine Kp_ 7 47 (mB_ 10 247) (any_of HT_.out (by kernel_rfl)) ?_
     refine one_ (i := 3) (N := some 43) (mB_ 10 255) rfl rfl (one_of HT_.out (by kernel_rfl)) (by decide) (fun K hK => ?_)
     refine Kd.N_append_rows_step k64 (w0 := w) w.heap.size (by rfl) (.const (.slice none 0 0)) (.tmp 42) 33 64 (.agg #[(.int .u64 0), (.int .u64 0), (.int .u64 0), (.int .u64 0), (.int .i64 0), (.slice none 0 0)]) 64 rfl Try.underlying33 info64 rfl (by decide) (by omega) (.slice none 0 0) ([] : List (S64)) y510 _ _ _ (fun _ => True) (fun k_ => ((fun _ => True)) k_ ∧ some k_ ≠ (.slice none 0 0 : Value).ownBlock) rfl rfl ?aO ?aR (fun _ hk => hk) ?aF ?aB ?aS ?aL ?_
     (case aR => exact (by skip; exact Kd.V_F (Kd.V_mono (ok' := (fun k_ => ((fun _ => True)) k_ ∧ some k_ ≠ (.slice none 0 0 : Value).ownBlock)) (HO514.out) (fun k_ hk => ⟨trivial, (by simp [Value.ownBlock])⟩))))
     (case aB => exact (Ky_ HB))
     (case aF => exact (fun _ _ => trivial))
     (case aO => exact ((Kd.N_nil _ _ _ _ (fun _ => True))))
     (case aS => exact (below_size (Ky_ HB)))
     (case aL => have := LMc16.out; omega)
     intro v516 w34 ho hb hg hat
     rw [← Ny515.out] at ho
     have HO517 := Aside0.mk (ho)
     replace HO_9 := Aside0.mk (Kd.N_afterv (Kd.N_apart_nil (by (with_reducible repeat (first | apply Kd.N_alloc | apply Kd.N_drewN | apply Kd.N_drew)); exact HO_9.out)) hg hat)
     replace HO514 := Aside0.mk (Kd.V_afterv (Kd.V_apart_nil (by (with_reducible repeat (first | apply Kd.V_alloc | apply Kd.V_drewN | apply Kd.V_drew)); exact HO514.out)) hg hat)
     replace HO522 := Aside0.mk (Kd.V_afterv (Kd.V_apart_nil (by (with_reducible repeat (first | apply Kd.V_alloc | apply Kd.V_drewN | apply Kd.V_drew)); exact HO522.out)) hg hat)
     replace HB := Aside0.mk (hb)
     clear ho hb hg hat
     refine hK.out _ _ trivial (fun hHeld => ?_)
     clear hK K
     refine Kn_ 43 ?_
     refine one_ (i := 8) (N := some 48) (mB_ 10 511) rfl rfl (one_of HT_.out (by kernel_rfl)) (by decide) (fun K hK => ?_)
     refine Kd.N_append_rows_step k64 (w0 := w) w.heap.size (by rfl) (.tmp 43) (.tmp 47) 33 64 (.agg #[(.int .u64 0), (.int .u64 0), (.int .u64 0), (.int .u64 0), (.int .i64 0), (.slice none 0 0)]) 64 rfl Try.underlying33 info64 rfl (by decide) (by omega) v516 y515 y518 _ _ _ (fun _ => True) (fun k_ => ((fun _ => True)) k_ ∧ some k_ ≠ (v516 : Value).ownBlock) rfl rfl ?aO ?aR (fun _ hk => hk) ?aF ?aB ?aS ?aL ?_
     (case aR => exact (by skip; exact Kd.V_F (Kd.V_mono (ok' := (fun k_ => ((fun _ => True)) k_ ∧ some k_ ≠ (v516 : Value).ownBlock)) (HO522.out) (fun k_ hk => ⟨trivial, hk.2⟩))))
     (case aB => exact (Ky_ HB))
     (case aF => exact (fun _ _ => trivial))
     (case aO => exact (by (with_reducible repeat (first | apply Kd.N_alloc | apply Kd.N_drewN | apply Kd.N_drew)); exact HO517.out))
     (case aS => exact (below_size (Ky_ HB)))
     (case aL => have := LMc20.out; omega)
     intro v524 w35 ho hb hg hat
     rw [← Ny523.out] at ho
     have HO525 := Aside0.mk (ho)
     replace HO_9 := Aside0.mk (Kd.N_afterv (ok := (fun _ => True)) (by (with_reducible repeat (first | apply Kd.N_alloc | apply Kd.N_drewN | apply Kd.N_drew)); exact HO_9.out) hg hat)
     replace HO514 := Aside0.mk (Kd.V_afterv (ok := (fun _ => True)) (by (with_reducible repeat (first | apply Kd.V_alloc | apply Kd.V_drewN | apply Kd.V_drew)); exact HO514.out) hg hat)
     replace HO522 := Aside0.mk (Kd.V_afterv (ok := (fun _ => True)) (by (with_reducible repeat (first | apply Kd.V_alloc | apply Kd.V_drewN | apply Kd.V_drew)); exact HO522.out) hg hat)
     replace HB := Aside0.mk (hb)
     clear HO517
     clear ho hb hg hat
     refine hK.out _ _ trivial (fun hHeld => ?_)
     clear hK K
     refine Kn_ 48 ?_
     refine Kp_ 9 12 (mB_ 10 1023) (any_of HT_.out (by kernel_rfl)) ?_
     refine done_ (done_of HT_.out (by kernel_rfl)) ?_
     try go_wp2_with (first | ((with_reducible refine gate_callee (f := 29) rfl ?_); refine Kg_ (some 55) rfl rfl Try.func29 (by kernel_rfl) rfl #[.agg #[.int .u64 0, .int .u64 0, .int .u64 0, .int .u64 0], .int .i64 3, .int .u64 (IntKind.u64.wrap (wrap64 (Int.tmod a2 24)))] rfl ?_; (with_reducible refine (vec_With.calls 0 0 0 0 3 (IntKind.u64.wrap (wrap64 (Int.tmod a2 24))) t526 t527 t528 t529 _ A21.out).mono ?_); rintro e w36 ⟨rfl, hb⟩; refine ⟨_, rfl, ?_⟩; replace HO_9 := Aside0.mk (Kd.N_below (by (with_reducible repeat (first | apply Kd.N_alloc | apply Kd.N_drewN | apply Kd.N_drew)); exact HO_9.out) hb); replace HO514 := Aside0.mk (Kd.V_below (by (with_reducible repeat (first | apply Kd.V_alloc | apply Kd.V_drewN | apply Kd.V_drew)); exact HO514.out) hb); replace HO522 := Aside0.mk (Kd.V_below (by (with_reducible repeat (first | apply Kd.V_alloc | apply Kd.V_drewN | apply Kd.V_drew)); exact HO522.out) hb); replace HO525 := Aside0.mk (Kd.N_below (by (with_reducible repeat (first | apply Kd.N_alloc | apply Kd.N_drewN | apply Kd.N_drew)); exact HO525.out) hb); replace HB := Ks_ HB hb; (try clear hb); (try clear hb2); (try clear hk); (try clear hi)) | ((with_reducible refine gate_dst (N := 14) rfl ?_); refine Ka_ 14 #[.int .u64 0, .int .u64 0, .int .u64 0, .int .u64 0] 29 ?_; intro gb530 hg w37 hbox hb; have BK530 := Aside0.mk (hbox); have GW530 := Kw_ HB hg; have GE530 := GW530; replace HO_9 := Aside0.mk (Kd.N_below (Kd.N_elderB (by (with_reducible repeat (first | apply Kd.N_alloc | apply Kd.N_drewN | apply Kd.N_drew)); exact HO_9.out) gb530 (Nat.le_of_eq hg.symm)) hb); replace HO514 := Aside0.mk (Kd.V_below (Kd.V_elderB (by (with_reducible repeat (first | apply Kd.V_alloc | apply Kd.V_drewN | apply Kd.V_drew)); exact HO514.out) gb530 (Nat.le_of_eq hg.symm)) hb); replace HO522 := Aside0.mk (Kd.V_below (Kd.V_elderB (by (with_reducible repeat (first | apply Kd.V_alloc | apply Kd.V_drewN | apply Kd.V_drew)); exact HO522.out) gb530 (Nat.le_of_eq hg.symm)) hb); replace HO525 := Aside0.mk (Kd.N_below (Kd.N_elderB (by (with_reducible repeat (first | apply Kd.N_alloc | apply Kd.N_drewN | apply Kd.N_drew)); exact HO525.out) gb530 (Nat.le_of_eq hg.symm)) hb); replace HB := Ks_ HB hb; clear hb hbox hg; obtain ⟨hcz38_0, hcz38_1, hcz38_2, hcz38_3, hfz38_0, hfz38_1, hfz38_2, hfz38_3⟩ := Ke4_ BK530.out) | (go_at_call 20; (with_reducible refine (judge_Closed.calls _ _ x9_1 t526 t527 t528 t529 true _ ?side1 ?side2 A22.out).mono ?_); (case side1 => refine (Kd.N_reads' (e := 64) (base := w.heap.size) (ok := fun k_ => ((True ∧ some k_ ≠ (v524 : Value).ownBlock) ∧ k_ ≠ gb530)) (n := x9_1.length) (c := co32) ?_).2.2; exact (by (with_reducible repeat (first | apply Kd.N_alloc | apply Kd.N_drewN | apply Kd.N_drew)); exact (Kd.N_mono (Kd.N_far (p := ⟨gb530, 3, none⟩) (Kd.N_far (p := ⟨gb530, 2, none⟩) (Kd.N_far (p := ⟨gb530, 1, none⟩) (Kd.N_far (p := ⟨gb530, 0, none⟩) (Kd.N_mono HO_9.out (fun k_ hk => (⟨hk, hk.2⟩ : _ ∧ k_ ≠ gb530))) (fun _ hk => hk.2) (.int .u64 t526)) (fun _ hk => hk.2) (.int .u64 t527)) (fun _ hk => hk.2) (.int .u64 t528)) (fun _ hk => hk.2) (.int .u64 t529)) (fun _ h_ => h_.1)))); (case side2 => exact (Kd.N_reads' HO_9.out).2.1); rintro e w39 ⟨rfl, hb⟩; replace HO_9 := Aside0.mk (Kd.N_below (by (with_reducible repeat (first | apply Kd.N_alloc | apply Kd.N_drewN | apply Kd.N_drew)); exact (Kd.N_mono (Kd.N_far (p := ⟨gb530, 3, none⟩) (Kd.N_far (p := ⟨gb530, 2, none⟩) (Kd.N_far (p := ⟨gb530, 1, none⟩) (Kd.N_far (p := ⟨gb530, 0, none⟩) (Kd.N_mono HO_9.out (fun k_ hk => (⟨hk, hk.2⟩ : _ ∧ k_ ≠ gb530))) (fun _ hk => hk.2) (.int .u64 t526)) (fun _ hk => hk.2) (.int .u64 t527)) (fun _ hk => hk.2) (.int .u64 t528)) (fun _ hk => hk.2) (.int .u64 t529)) (fun _ h_ => h_.1))) hb); replace HO514 := Aside0.mk (Kd.V_below (by (with_reducible repeat (first | apply Kd.V_alloc | apply Kd.V_drewN | apply Kd.V_drew)); exact (Kd.V_mono (Kd.V_far (p := ⟨gb530, 3, none⟩) (Kd.V_far (p := ⟨gb530, 2, none⟩) (Kd.V_far (p := ⟨gb530, 1, none⟩) (Kd.V_far (p := ⟨gb530, 0, none⟩) (Kd.V_mono HO514.out (fun k_ hk => (⟨hk, hk.2⟩ : _ ∧ k_ ≠ gb530))) (fun _ hk => hk.2) (.int .u64 t526)) (fun _ hk => hk.2) (.int .u64 t527)) (fun _ hk => hk.2) (.int .u64 t528)) (fun _ hk => hk.2) (.int .u64 t529)) (fun _ h_ => h_.1))) hb); replace HO522 := Aside0.mk (Kd.V_below (by (with_reducible repeat (first | apply Kd.V_alloc | apply Kd.V_drewN | apply Kd.V_drew)); exact (Kd.V_mono (Kd.V_far (p := ⟨gb530, 3, none⟩) (Kd.V_far (p := ⟨gb530, 2, none⟩) (Kd.V_far (p := ⟨gb530, 1, none⟩) (Kd.V_far (p := ⟨gb530, 0, none⟩) (Kd.V_mono HO522.out (fun k_ hk => (⟨hk, hk.2⟩ : _ ∧ k_ ≠ gb530))) (fun _ hk => hk.2) (.int .u64 t526)) (fun _ hk => hk.2) (.int .u64 t527)) (fun _ hk => hk.2) (.int .u64 t528)) (fun _ hk => hk.2) (.int .u64 t529)) (fun _ h_ => h_.1))) hb); replace HO525 := Aside0.mk (Kd.N_below (by (with_reducible repeat (first | apply Kd.N_alloc | apply Kd.N_drewN | apply Kd.N_drew)); exact (Kd.N_mono (Kd.N_far (p := ⟨gb530, 3, none⟩) (Kd.N_far (p := ⟨gb530, 2, none⟩) (Kd.N_far (p := ⟨gb530, 1, none⟩) (Kd.N_far (p := ⟨gb530, 0, none⟩) (Kd.N_mono HO525.out (fun k_ hk => (⟨hk, hk.2⟩ : _ ∧ k_ ≠ gb530))) (fun _ hk => hk.2) (.int .u64 t526)) (fun _ hk => hk.2) (.int .u64 t527)) (fun _ hk => hk.2) (.int .u64 t528)) (fun _ hk => hk.2) (.int .u64 t529)) (fun _ h_ => h_.1))) hb); replace BK530 := Aside0.mk (blk_below (g := gb530) (o := .cells #[.int .u64 t526, .int .u64 t527, .int .u64 t528, .int .u64 t529] 29 (0, 0)) (by refine Kv_ ?_; refine blk_put (cs := #[.int .u64 t526, .int .u64 t527, .int .u64 t528, .int .u64 0]) ?_ 3 _ rfl; refine Kv_ ?_; refine blk_put (cs := #[.int .u64 t526, .int .u64 t527, .int .u64 0, .int .u64 0]) ?_ 2 _ rfl; refine Kv_ ?_; refine blk_put (cs := #[.int .u64 t526, .int .u64 0, .int .u64 0, .int .u64 0]) ?_ 1 _ rfl; refine Kv_ ?_; refine blk_put (cs := #[.int .u64 0, .int .u64 0, .int .u64 0, .int .u64 0]) ?_ 0 _ rfl; exact Kq_ BK530) hb); replace HB := Kt_ HB GE530 hb; (try clear hb); (try clear hb2); (try clear hk); (try clear hi); obtain ⟨hcz40_0, hcz40_1, hcz40_2, hcz40_3, hfz40_0, hfz40_1, hfz40_2, hfz40_3⟩ := Ke4_ BK530.out; obtain ⟨Ao41, co41, eo41⟩ := Kd.N_slice HO525.out; subst eo41) | (go_at_call 20; (with_reducible refine (judge_Closed.calls _ _ y523 t526 t527 t528 t529 true _ ?side1 ?side2 A25.out).mono ?_); (case side1 => repeat (first | exact (Kd.N_reads' HO525.out).2.2 | (with_reducible refine Kd.C_alloc ?_ _) | (with_reducible refine Kd.C_drewN ?_ _) | (with_reducible refine Kd.C_drew ?_))); (case side2 => exact (Kd.N_reads' HO525.out).2.1); rintro e w42 ⟨rfl, hb⟩; replace HO_9 := Aside0.mk (Kd.N_below (by (with_reducible repeat (first | apply Kd.N_alloc | apply Kd.N_drewN | apply Kd.N_drew)); exact HO_9.out) hb); replace HO514 := Aside0.mk (Kd.V_below (by (with_reducible repeat (first | apply Kd.V_alloc | apply Kd.V_drewN | apply Kd.V_drew)); exact HO514.out) hb); replace HO522 := Aside0.mk (Kd.V_below (by (with_reducible repeat (first | apply Kd.V_alloc | apply Kd.V_drewN | apply Kd.V_drew)); exact HO522.out) hb); replace HO525 := Aside0.mk (Kd.N_below (by (with_reducible repeat (first | apply Kd.N_alloc | apply Kd.N_drewN | apply Kd.N_drew)); exact HO525.out) hb); replace BK530 := Kb_ BK530 hb; replace HB := Ks_ HB hb; (try clear hb); (try clear hb2); (try clear hk); (try clear hi)) | (go_at_call 20; (refine (judge_Closed.calls _ _ ([] : List (S64)) 0 0 0 0 true _ ?side1 ?side2 A28.out).mono ?_); (case side1 => exact Kd.C_nil _ _); (case side2 => exact Nat.le_refl _); rintro e w43 ⟨rfl, hb⟩; replace HO_9 := Aside0.mk (Kd.N_below (by (with_reducible repeat (first | apply Kd.N_alloc | apply Kd.N_drewN | apply Kd.N_drew)); exact HO_9.out) hb); replace HO514 := Aside0.mk (Kd.V_below (by (with_reducible repeat (first | apply Kd.V_alloc | apply Kd.V_drewN | apply Kd.V_drew)); exact HO514.out) hb); replace HO522 := Aside0.mk (Kd.V_below (by (with_reducible repeat (first | apply Kd.V_alloc | apply Kd.V_drewN | apply Kd.V_drew)); exact HO522.out) hb); replace HO525 := Aside0.mk (Kd.N_below (by (with_reducible repeat (first | apply Kd.N_alloc | apply Kd.N_drewN | apply Kd.N_drew)); exact HO525.out) hb); replace BK530 := Kb_ BK530 hb; replace HB := Ks_ HB hb; (try clear hb); (try clear hb2); (try clear hk); (try clear hi)))
     go_ret
     exact ⟨by first | rfl | (simp [errW_none, errW_some] <;> rfl) | (simp only [← hji13, ← hji17]; first | rfl | (simp [errW_none, errW_some] <;> rfl)) | (simp [*, errW_none, errW_some] <;> rfl), Kz_ HB GE530⟩
    replace c26 := Bool.eq_false_iff.mpr c26
    subst c26
    have H1 : (if (wrap64 (Int.tmod a2 24)) ≤ (ji13) then (none) else ((judge_Closed.f ([] : List (S64)) 0 0 0 0).bind fun t534 => (if t534 = true then (some true) else (none)))) = some r := by rw [if_neg (show ¬ (false = true) by decide)] at H; exact H
    clear H
    have H := H1
    clear H1
    by_cases c44 : (wrap64 (Int.tmod a2 24)) ≤ (ji13)
    ·rw [if_pos c44] at H
     exact absurd H (by simp)
    rw [if_neg c44] at H
    have c44b0 : decide ((wrap64 (Int.tmod a2 24)) ≤ (ji13)) = false := decide_eq_false c44
    clear c44
    replace H := Option.bind_eq_some_iff.mp H
    obtain ⟨t534, A450, H⟩ := H
    replace H : (if t534 = true then (some true) else (none)) = some r := H
    have A45 := Aside0.mk A450
    clear A450
    by_cases c46 : t534 = true
    rotate_left
    ·replace c46 := Bool.eq_false_iff.mpr c46
     subst c46
     have H1 : (none) = some r := by rw [if_neg (show ¬ (false = true) by decide)] at H; exact H
     clear H
     have H := H1
     clear H1
     exact absurd H (by simp)
    subst c46
    have H1 : (some true) = some r := by rw [if_pos rfl] at H; exact H
    clear H
    have H := H1
    clear H1
    obtain rfl := Option.some.inj H
    try go_wp2
    replace HO_9 := Aside0.mk (Kd.N_drew HO_9.out)
    replace HB := Aside0.mk (below_drew1 HB.out)
    obtain ⟨Ao49, co49, eo49⟩ := Kd.N_slice HO_9.out
    (first | subst eo49 | (injection eo49 with f1_ f2_ f3_; have f4_ := f1_.symm; have f5_ := f3_.symm; clear f1_ f2_ f3_; subst f4_; subst f5_))
    have q48 : ((ji13) : Int) ≤ ((x9_1.length : Int) : Int) := of_decide_eq_true (by first | (with_reducible assumption) | assumption)
    obtain ⟨i048, hi048, _, hsz48, _⟩ := info_parts info64
    have hroom48 : x9_1.length ≤ co49 := (Kd.N_reads' HO_9.out).2.1
    have hC48 : Kd.F k64 _ _ Ao49 x9_1.length x9_1 := (Kd.V_at (base := w.heap.size) (Kd.N_V HO_9.out)).2.2
    have hcut48 := cut_to (P := Try.prog) 33 64 .i64 Try.underlying33 hi048 Ao49 x9_1.length co49 (ji13) (of_decide_eq_true (by first | (with_reducible assumption) | assumption)) q48 hroom48
    have hr48 := Kd.F_take (m := ((ji13) : Int).toNat) hC48 (by omega)
    have hy48 : y510.length = ((ji13) : Int).toNat := (by rw [Ny510.out, List.length_take]; omega)
    rw [← Ny510.out] at hr48
    rw [← hy48] at hcut48
    have HO514 := Aside0.mk (show Kd.V k64 64 _ w.heap.size _ (.slice Ao49 y510.length co49) y510 from Kd.V_mk (by omega) hr48)
    have HC514 := Aside0.mk (show y510.length ≤ co49 from by omega)
    clear hr48 hC48 hroom48 hi048 hsz48
    have KY48 := Aside0.mk hy48
    clear hy48
    replace q48 := eq_true q48
    have q50 : ((ji17) : Int) ≤ ((x9_1.length : Int) : Int) := of_decide_eq_true (by first | (with_reducible assumption) | assumption)
    obtain ⟨i050, hi050, _, hsz50, _⟩ := info_parts info64
    have hroom50 : x9_1.length ≤ co49 := (Kd.N_reads' HO_9.out).2.1
    have hC50 : Kd.F k64 _ _ Ao49 x9_1.length x9_1 := (Kd.V_at (base := w.heap.size) (Kd.N_V HO_9.out)).2.2
    have q050 : (0 : Int) ≤ ((ji17) : Int) := of_decide_eq_true (by first | (with_reducible assumption) | assumption)
    have hcut50 := cut_from (P := Try.prog) 33 64 .i64 Try.underlying33 hi050 6 hsz50 Ao49 x9_1.length co49 (ji17) q050 q50
    have hr50 := Kd.F_cut (m := ((ji17) : Int).toNat) (c := co49) hC50 (by omega) hroom50
    obtain ⟨A50, hA50⟩ : ∃ A1, A1 = (if co49 = ((ji17) : Int).toNat then Ao49 else (Ao49 : Option Addr).map (·.add (((ji17) : Int).toNat * 6))) := ⟨_, rfl⟩
    obtain ⟨c50, hc50⟩ : ∃ c1, c1 = co49 - ((ji17) : Int).toNat := ⟨_, rfl⟩
    have hy50 : y518.length = x9_1.length - ((ji17) : Int).toNat := (by rw [Ny518.out, List.length_drop] <;> omega)
    rw [show (x9_1).drop ((ji17) : Int).toNat = y518 from Ny518.out.symm] at hr50
    replace hr50 : Kd.F k64 _ _ A50 y518.length y518 := (by rw [hA50]; exact hr50)
    rw [← hy50, ← hA50, ← hc50] at hcut50
    have HO522 := Aside0.mk (show Kd.V k64 64 _ w.heap.size _ (.slice A50 y518.length c50) y518 from Kd.V_mk (by rw [hy50, hc50]; exact Nat.sub_le_sub_right hroom50 _) hr50)
    have HC522 := Aside0.mk (show y518.length ≤ c50 from by rw [hy50, hc50]; exact Nat.sub_le_sub_right hroom50 _)
    clear hr50 hC50 hroom50 hi050 hsz50 hc50
    have KY50 := Aside0.mk hy50
    have KA50 := Aside0.mk hA50
    clear hy50 hA50
    replace q50 := eq_true q50
    refine start_ (n := 10) (S := fun w' => True) (ds := []) (mB_ 10 0) (by kernel_rfl) rfl rfl trivial (fun hHeld => ?_); refine with_tabW tenementlaw22_JudgeClosed.tab11 tenementlaw22_JudgeClosed.bits11 (fun HT_ HW_ => ?_)
    generalize wr.drew = w47 at HO_9 HB HO514 HO522 hHeld ⊢
    refine Kp_ 0 40 (mB_ 10 1) (any_of HT_.out (by kernel_rfl)) ?_
    refine Kp_ 1 41 (mB_ 10 3) (any_of HT_.out (by kernel_rfl)) ?_
    refine Kp_ 2 42 (mB_ 10 7) (any_of HT_.out (by kernel_rfl)) ?_
    refine Kp_ 4 44 (mB_ 10 23) (any_of HT_.out (by kernel_rfl)) ?_
    refine Kp_ 5 45 (mB_ 10 55) (any_of HT_.out (by kernel_rfl)) ?_
    refine Kp_ 6 46 (mB_ 10 119) (any_of HT_.out (by kernel_rfl)) ?_
    refine Kp_ 7 47 (mB_ 10 247) (any_of HT_.out (by kernel_rfl)) ?_
    refine one_ (i := 3) (N := some 43) (mB_ 10 255) rfl rfl (one_of HT_.out (by kernel_rfl)) (by decide) (fun K hK => ?_)
    refine Kd.N_append_rows_step k64 (w0 := w) w.heap.size (by rfl) (.const (.slice none 0 0)) (.tmp 42) 33 64 (.agg #[(.int .u64 0), (.int .u64 0), (.int .u64 0), (.int .u64 0), (.int .i64 0), (.slice none 0 0)]) 64 rfl Try.underlying33 info64 rfl (by decide) (by omega) (.slice none 0 0) ([] : List (S64)) y510 _ _ _ (fun _ => True) (fun k_ => ((fun _ => True)) k_ ∧ some k_ ≠ (.slice none 0 0 : Value).ownBlock) rfl rfl ?aO ?aR (fun _ hk => hk) ?aF ?aB ?aS ?aL ?_
    (case aR => exact (by skip; exact Kd.V_F (Kd.V_mono (ok' := (fun k_ => ((fun _ => True)) k_ ∧ some k_ ≠ (.slice none 0 0 : Value).ownBlock)) (HO514.out) (fun k_ hk => ⟨trivial, (by simp [Value.ownBlock])⟩))))
    (case aB => exact (Ky_ HB))
    (case aF => exact (fun _ _ => trivial))
    (case aO => exact ((Kd.N_nil _ _ _ _ (fun _ => True))))
    (case aS => exact (below_size (Ky_ HB)))
    (case aL => have := LMc16.out; omega)
    intro v516 w51 ho hb hg hat
    rw [← Ny515.out] at ho
    have HO517 := Aside0.mk (ho)
    replace HO_9 := Aside0.mk (Kd.N_afterv (Kd.N_apart_nil (by (with_reducible repeat (first | apply Kd.N_alloc | apply Kd.N_drewN | apply Kd.N_drew)); exact HO_9.out)) hg hat)
    replace HO514 := Aside0.mk (Kd.V_afterv (Kd.V_apart_nil (by (with_reducible repeat (first | apply Kd.V_alloc | apply Kd.V_drewN | apply Kd.V_drew)); exact HO514.out)) hg hat)
    replace HO522 := Aside0.mk (Kd.V_afterv (Kd.V_apart_nil (by (with_reducible repeat (first | apply Kd.V_alloc | apply Kd.V_drewN | apply Kd.V_drew)); exact HO522.out)) hg hat)
    replace HB := Aside0.mk (hb)
    clear ho hb hg hat
    refine hK.out _ _ trivial (fun hHeld => ?_)
    clear hK K
    refine Kn_ 43 ?_
    refine one_ (i := 8) (N := some 48) (mB_ 10 511) rfl rfl (one_of HT_.out (by kernel_rfl)) (by decide) (fun K hK => ?_)
    refine Kd.N_append_rows_step k64 (w0 := w) w.heap.size (by rfl) (.tmp 43) (.tmp 47) 33 64 (.agg #[(.int .u64 0), (.int .u64 0), (.int .u64 0), (.int .u64 0), (.int .i64 0), (.slice none 0 0)]) 64 rfl Try.underlying33 info64 rfl (by decide) (by omega) v516 y515 y518 _ _ _ (fun _ => True) (fun k_ => ((fun _ => True)) k_ ∧ some k_ ≠ (v516 : Value).ownBlock) rfl rfl ?aO ?aR (fun _ hk => hk) ?aF ?aB ?aS ?aL ?_
    (case aR => exact (by skip; exact Kd.V_F (Kd.V_mono (ok' := (fun k_ => ((fun _ => True)) k_ ∧ some k_ ≠ (v516 : Value).ownBlock)) (HO522.out) (fun k_ hk => ⟨trivial, hk.2⟩))))
    (case aB => exact (Ky_ HB))
    (case aF => exact (fun _ _ => trivial))
    (case aO => exact (by (with_reducible repeat (first | apply Kd.N_alloc | apply Kd.N_drewN | apply Kd.N_drew)); exact HO517.out))
    (case aS => exact (below_size (Ky_ HB)))
    (case aL => have := LMc20.out; omega)
    intro v524 w52 ho hb hg hat
    rw [← Ny523.out] at ho
    have HO525 := Aside0.mk (ho)
    replace HO_9 := Aside0.mk (Kd.N_afterv (ok := (fun _ => True)) (by (with_reducible repeat (first | apply Kd.N_alloc | apply Kd.N_drewN | apply Kd.N_drew)); exact HO_9.out) hg hat)
    replace HO514 := Aside0.mk (Kd.V_afterv (ok := (fun _ => True)) (by (with_reducible repeat (first | apply Kd.V_alloc | apply Kd.V_drewN | apply Kd.V_drew)); exact HO514.out) hg hat)
    replace HO522 := Aside0.mk (Kd.V_afterv (ok := (fun _ => True)) (by (with_reducible repeat (first | apply Kd.V_alloc | apply Kd.V_drewN | apply Kd.V_drew)); exact HO522.out) hg hat)
    replace HB := Aside0.mk (hb)
    clear HO517
    clear ho hb hg hat
    refine hK.out _ _ trivial (fun hHeld => ?_)
    clear hK K
    refine Kn_ 48 ?_
    refine Kp_ 9 12 (mB_ 10 1023) (any_of HT_.out (by kernel_rfl)) ?_
    refine done_ (done_of HT_.out (by kernel_rfl)) ?_
    try go_wp2_with (first | ((with_reducible refine gate_callee (f := 29) rfl ?_); refine Kg_ (some 55) rfl rfl Try.func29 (by kernel_rfl) rfl #[.agg #[.int .u64 0, .int .u64 0, .int .u64 0, .int .u64 0], .int .i64 3, .int .u64 (IntKind.u64.wrap (wrap64 (Int.tmod a2 24)))] rfl ?_; (with_reducible refine (vec_With.calls 0 0 0 0 3 (IntKind.u64.wrap (wrap64 (Int.tmod a2 24))) t526 t527 t528 t529 _ A21.out).mono ?_); rintro e w53 ⟨rfl, hb⟩; refine ⟨_, rfl, ?_⟩; replace HO_9 := Aside0.mk (Kd.N_below (by (with_reducible repeat (first | apply Kd.N_alloc | apply Kd.N_drewN | apply Kd.N_drew)); exact HO_9.out) hb); replace HO514 := Aside0.mk (Kd.V_below (by (with_reducible repeat (first | apply Kd.V_alloc | apply Kd.V_drewN | apply Kd.V_drew)); exact HO514.out) hb); replace HO522 := Aside0.mk (Kd.V_below (by (with_reducible repeat (first | apply Kd.V_alloc | apply Kd.V_drewN | apply Kd.V_drew)); exact HO522.out) hb); replace HO525 := Aside0.mk (Kd.N_below (by (with_reducible repeat (first | apply Kd.N_alloc | apply Kd.N_drewN | apply Kd.N_drew)); exact HO525.out) hb); replace HB := Ks_ HB hb; (try clear hb); (try clear hb2); (try clear hk); (try clear hi)) | ((with_reducible refine gate_dst (N := 14) rfl ?_); refine Ka_ 14 #[.int .u64 0, .int .u64 0, .int .u64 0, .int .u64 0] 29 ?_; intro gb530 hg w54 hbox hb; have BK530 := Aside0.mk (hbox); have GW530 := Kw_ HB hg; have GE530 := GW530; replace HO_9 := Aside0.mk (Kd.N_below (Kd.N_elderB (by (with_reducible repeat (first | apply Kd.N_alloc | apply Kd.N_drewN | apply Kd.N_drew)); exact HO_9.out) gb530 (Nat.le_of_eq hg.symm)) hb); replace HO514 := Aside0.mk (Kd.V_below (Kd.V_elderB (by (with_reducible repeat (first | apply Kd.V_alloc | apply Kd.V_drewN | apply Kd.V_drew)); exact HO514.out) gb530 (Nat.le_of_eq hg.symm)) hb); replace HO522 := Aside0.mk (Kd.V_below (Kd.V_elderB (by (with_reducible repeat (first | apply Kd.V_alloc | apply Kd.V_drewN | apply Kd.V_drew)); exact HO522.out) gb530 (Nat.le_of_eq hg.symm)) hb); replace HO525 := Aside0.mk (Kd.N_below (Kd.N_elderB (by (with_reducible repeat (first | apply Kd.N_alloc | apply Kd.N_drewN | apply Kd.N_drew)); exact HO525.out) gb530 (Nat.le_of_eq hg.symm)) hb); replace HB := Ks_ HB hb; clear hb hbox hg; obtain ⟨hcz55_0, hcz55_1, hcz55_2, hcz55_3, hfz55_0, hfz55_1, hfz55_2, hfz55_3⟩ := Ke4_ BK530.out) | (go_at_call 20; (with_reducible refine (judge_Closed.calls _ _ x9_1 t526 t527 t528 t529 true _ ?side1 ?side2 A22.out).mono ?_); (case side1 => refine (Kd.N_reads' (e := 64) (base := w.heap.size) (ok := fun k_ => ((True ∧ some k_ ≠ (v524 : Value).ownBlock) ∧ k_ ≠ gb530)) (n := x9_1.length) (c := co49) ?_).2.2; exact (by (with_reducible repeat (first | apply Kd.N_alloc | apply Kd.N_drewN | apply Kd.N_drew)); exact (Kd.N_mono (Kd.N_far (p := ⟨gb530, 3, none⟩) (Kd.N_far (p := ⟨gb530, 2, none⟩) (Kd.N_far (p := ⟨gb530, 1, none⟩) (Kd.N_far (p := ⟨gb530, 0, none⟩) (Kd.N_mono HO_9.out (fun k_ hk => (⟨hk, hk.2⟩ : _ ∧ k_ ≠ gb530))) (fun _ hk => hk.2) (.int .u64 t526)) (fun _ hk => hk.2) (.int .u64 t527)) (fun _ hk => hk.2) (.int .u64 t528)) (fun _ hk => hk.2) (.int .u64 t529)) (fun _ h_ => h_.1)))); (case side2 => exact (Kd.N_reads' HO_9.out).2.1); rintro e w56 ⟨rfl, hb⟩; replace HO_9 := Aside0.mk (Kd.N_below (by (with_reducible repeat (first | apply Kd.N_alloc | apply Kd.N_drewN | apply Kd.N_drew)); exact (Kd.N_mono (Kd.N_far (p := ⟨gb530, 3, none⟩) (Kd.N_far (p := ⟨gb530, 2, none⟩) (Kd.N_far (p := ⟨gb530, 1, none⟩) (Kd.N_far (p := ⟨gb530, 0, none⟩) (Kd.N_mono HO_9.out (fun k_ hk => (⟨hk, hk.2⟩ : _ ∧ k_ ≠ gb530))) (fun _ hk => hk.2) (.int .u64 t526)) (fun _ hk => hk.2) (.int .u64 t527)) (fun _ hk => hk.2) (.int .u64 t528)) (fun _ hk => hk.2) (.int .u64 t529)) (fun _ h_ => h_.1))) hb); replace HO514 := Aside0.mk (Kd.V_below (by (with_reducible repeat (first | apply Kd.V_alloc | apply Kd.V_drewN | apply Kd.V_drew)); exact (Kd.V_mono (Kd.V_far (p := ⟨gb530, 3, none⟩) (Kd.V_far (p := ⟨gb530, 2, none⟩) (Kd.V_far (p := ⟨gb530, 1, none⟩) (Kd.V_far (p := ⟨gb530, 0, none⟩) (Kd.V_mono HO514.out (fun k_ hk => (⟨hk, hk.2⟩ : _ ∧ k_ ≠ gb530))) (fun _ hk => hk.2) (.int .u64 t526)) (fun _ hk => hk.2) (.int .u64 t527)) (fun _ hk => hk.2) (.int .u64 t528)) (fun _ hk => hk.2) (.int .u64 t529)) (fun _ h_ => h_.1))) hb); replace HO522 := Aside0.mk (Kd.V_below (by (with_reducible repeat (first | apply Kd.V_alloc | apply Kd.V_drewN | apply Kd.V_drew)); exact (Kd.V_mono (Kd.V_far (p := ⟨gb530, 3, none⟩) (Kd.V_far (p := ⟨gb530, 2, none⟩) (Kd.V_far (p := ⟨gb530, 1, none⟩) (Kd.V_far (p := ⟨gb530, 0, none⟩) (Kd.V_mono HO522.out (fun k_ hk => (⟨hk, hk.2⟩ : _ ∧ k_ ≠ gb530))) (fun _ hk => hk.2) (.int .u64 t526)) (fun _ hk => hk.2) (.int .u64 t527)) (fun _ hk => hk.2) (.int .u64 t528)) (fun _ hk => hk.2) (.int .u64 t529)) (fun _ h_ => h_.1))) hb); replace HO525 := Aside0.mk (Kd.N_below (by (with_reducible repeat (first | apply Kd.N_alloc | apply Kd.N_drewN | apply Kd.N_drew)); exact (Kd.N_mono (Kd.N_far (p := ⟨gb530, 3, none⟩) (Kd.N_far (p := ⟨gb530, 2, none⟩) (Kd.N_far (p := ⟨gb530, 1, none⟩) (Kd.N_far (p := ⟨gb530, 0, none⟩) (Kd.N_mono HO525.out (fun k_ hk => (⟨hk, hk.2⟩ : _ ∧ k_ ≠ gb530))) (fun _ hk => hk.2) (.int .u64 t526)) (fun _ hk => hk.2) (.int .u64 t527)) (fun _ hk => hk.2) (.int .u64 t528)) (fun _ hk => hk.2) (.int .u64 t529)) (fun _ h_ => h_.1))) hb); replace BK530 := Aside0.mk (blk_below (g := gb530) (o := .cells #[.int .u64 t526, .int .u64 t527, .int .u64 t528, .int .u64 t529] 29 (0, 0)) (by refine Kv_ ?_; refine blk_put (cs := #[.int .u64 t526, .int .u64 t527, .int .u64 t528, .int .u64 0]) ?_ 3 _ rfl; refine Kv_ ?_; refine blk_put (cs := #[.int .u64 t526, .int .u64 t527, .int .u64 0, .int .u64 0]) ?_ 2 _ rfl; refine Kv_ ?_; refine blk_put (cs := #[.int .u64 t526, .int .u64 0, .int .u64 0, .int .u64 0]) ?_ 1 _ rfl; refine Kv_ ?_; refine blk_put (cs := #[.int .u64 0, .int .u64 0, .int .u64 0, .int .u64 0]) ?_ 0 _ rfl; exact Kq_ BK530) hb); replace HB := Kt_ HB GE530 hb; (try clear hb); (try clear hb2); (try clear hk); (try clear hi); obtain ⟨hcz57_0, hcz57_1, hcz57_2, hcz57_3, hfz57_0, hfz57_1, hfz57_2, hfz57_3⟩ := Ke4_ BK530.out; obtain ⟨Ao58, co58, eo58⟩ := Kd.N_slice HO525.out; subst eo58) | (go_at_call 20; (with_reducible refine (judge_Closed.calls _ _ y523 t526 t527 t528 t529 false _ ?side1 ?side2 A25.out).mono ?_); (case side1 => repeat (first | exact (Kd.N_reads' HO525.out).2.2 | (with_reducible refine Kd.C_alloc ?_ _) | (with_reducible refine Kd.C_drewN ?_ _) | (with_reducible refine Kd.C_drew ?_))); (case side2 => exact (Kd.N_reads' HO525.out).2.1); rintro e w59 ⟨rfl, hb⟩; replace HO_9 := Aside0.mk (Kd.N_below (by (with_reducible repeat (first | apply Kd.N_alloc | apply Kd.N_drewN | apply Kd.N_drew)); exact HO_9.out) hb); replace HO514 := Aside0.mk (Kd.V_below (by (with_reducible repeat (first | apply Kd.V_alloc | apply Kd.V_drewN | apply Kd.V_drew)); exact HO514.out) hb); replace HO522 := Aside0.mk (Kd.V_below (by (with_reducible repeat (first | apply Kd.V_alloc | apply Kd.V_drewN | apply Kd.V_drew)); exact HO522.out) hb); replace HO525 := Aside0.mk (Kd.N_below (by (with_reducible repeat (first | apply Kd.N_alloc | apply Kd.N_drewN | apply Kd.N_drew)); exact HO525.out) hb); replace BK530 := Kb_ BK530 hb; replace HB := Ks_ HB hb; (try clear hb); (try clear hb2); (try clear hk); (try clear hi)) | (go_at_call 20; (refine (judge_Closed.calls _ _ ([] : List (S64)) 0 0 0 0 true _ ?side1 ?side2 A45.out).mono ?_); (case side1 => exact Kd.C_nil _ _); (case side2 => exact Nat.le_refl _); rintro e w60 ⟨rfl, hb⟩; replace HO_9 := Aside0.mk (Kd.N_below (by (with_reducible repeat (first | apply Kd.N_alloc | apply Kd.N_drewN | apply Kd.N_drew)); exact HO_9.out) hb); replace HO514 := Aside0.mk (Kd.V_below (by (with_reducible repeat (first | apply Kd.V_alloc | apply Kd.V_drewN | apply Kd.V_drew)); exact HO514.out) hb); replace HO522 := Aside0.mk (Kd.V_below (by (with_reducible repeat (first | apply Kd.V_alloc | apply Kd.V_drewN | apply Kd.V_drew)); exact HO522.out) hb); replace HO525 := Aside0.mk (Kd.N_below (by (with_reducible repeat (first | apply Kd.N_alloc | apply Kd.N_drewN | apply Kd.N_drew)); exact HO525.out) hb); replace BK530 := Kb_ BK530 hb; replace HB := Ks_ HB hb; (try clear hb); (try clear hb2); (try clear hk); (try clear hi)))
    go_ret
    exact ⟨by first | rfl | (simp [errW_none, errW_some] <;> rfl) | (simp only [← hji13, ← hji17]; first | rfl | (simp [errW_none, errW_some] <;> rfl)) | (simp [*, errW_none, errW_some] <;> rfl), Kz_ HB GE530⟩
   replace c23 := Bool.eq_false_iff.mpr c23
   subst c23
   have H1 : (if (wrap64 (Int.tmod a2 24)) ≤ (wrap64 (1 + (wrap64 (Int.tmod a0 20)))) then (none) else ((judge_Closed.f y523 t526 t527 t528 t529).bind fun t535 => (if t535 = true then (if (wrap64 (Int.tmod a2 24)) ≤ (ji13) then ((judge_Closed.f ([] : List (S64)) 0 0 0 0).bind fun t536 => (if t536 = true then (some true) else (none))) else (none)) else (if (wrap64 (Int.tmod a2 24)) ≤ (ji13) then (none) else ((judge_Closed.f ([] : List (S64)) 0 0 0 0).bind fun t537 => (if t537 = true then (some true) else (none))))))) = some r := by rw [if_neg (show ¬ (false = true) by decide)] at H; exact H
   clear H
   have H := H1
   clear H1
   by_cases c61 : (wrap64 (Int.tmod a2 24)) ≤ (wrap64 (1 + (wrap64 (Int.tmod a0 20))))
   ·rw [if_pos c61] at H
    exact absurd H (by simp)
   rw [if_neg c61] at H
   have c61b0 : decide ((wrap64 (Int.tmod a2 24)) ≤ (wrap64 (1 + (wrap64 (Int.tmod a0 20))))) = false := decide_eq_false c61
   clear c61
   replace H := Option.bind_eq_some_iff.mp H
   obtain ⟨t535, A620, H⟩ := H
   replace H : (if t535 = true then (if (wrap64 (Int.tmod a2 24)) ≤ (ji13) then ((judge_Closed.f ([] : List (S64)) 0 0 0 0).bind fun t536 => (if t536 = true then (some true) else (none))) else (none)) else (if (wrap64 (Int.tmod a2 24)) ≤ (ji13) then (none) else ((judge_Closed.f ([] : List (S64)) 0 0 0 0).bind fun t537 => (if t537 = true then (some true) else (none))))) = some r := H
   have A62 := Aside0.mk A620
   clear A620
   by_cases c63 : t535 = true
   ·subst c63
    have H1 : (if (wrap64 (Int.tmod a2 24)) ≤ (ji13) then ((judge_Closed.f ([] : List (S64)) 0 0 0 0).bind fun t536 => (if t536 = true then (some true) else (none))) else (none)) = some r := by rw [if_pos rfl] at H; exact H
    clear H
    have H := H1
    clear H1
    by_cases c64 : (wrap64 (Int.tmod a2 24)) ≤ (ji13)
    rotate_left
    ·rw [if_neg c64] at H
     exact absurd H (by simp)
    rw [if_pos c64] at H
    have c64b0 : decide ((wrap64 (Int.tmod a2 24)) ≤ (ji13)) = true := decide_eq_true c64
    clear c64
    replace H := Option.bind_eq_some_iff.mp H
    obtain ⟨t536, A650, H⟩ := H
    replace H : (if t536 = true then (some true) else (none)) = some r := H
    have A65 := Aside0.mk A650
    clear A650
    by_cases c66 : t536 = true
    rotate_left
    ·replace c66 := Bool.eq_false_iff.mpr c66
     subst c66
     have H1 : (none) = some r := by rw [if_neg (show ¬ (false = true) by decide)] at H; exact H
     clear H
     have H := H1
     clear H1
     exact absurd H (by simp)
    subst c66
    have H1 : (some true) = some r := by rw [if_pos rfl] at H; exact H
    clear H
    have H := H1
    clear H1
    obtain rfl := Option.some.inj H
    try go_wp2
    replace HO_9 := Aside0.mk (Kd.N_drew HO_9.out)
    replace HB := Aside0.mk (below_drew1 HB.out)
    obtain ⟨Ao69, co69, eo69⟩ := Kd.N_slice HO_9.out
    (first | subst eo69 | (injection eo69 with f1_ f2_ f3_; have f4_ := f1_.symm; have f5_ := f3_.symm; clear f1_ f2_ f3_; subst f4_; subst f5_))
    have q68 : ((ji13) : Int) ≤ ((x9_1.length : Int) : Int) := of_decide_eq_true (by first | (with_reducible assumption) | assumption)
    obtain ⟨i068, hi068, _, hsz68, _⟩ := info_parts info64
    have hroom68 : x9_1.length ≤ co69 := (Kd.N_reads' HO_9.out).2.1
    have hC68 : Kd.F k64 _ _ Ao69 x9_1.length x9_1 := (Kd.V_at (base := w.heap.size) (Kd.N_V HO_9.out)).2.2
    have hcut68 := cut_to (P := Try.prog) 33 64 .i64 Try.underlying33 hi068 Ao69 x9_1.length co69 (ji13) (of_decide_eq_true (by first | (with_reducible assumption) | assumption)) q68 hroom68
    have hr68 := Kd.F_take (m := ((ji13) : Int).toNat) hC68 (by omega)
    have hy68 : y510.length = ((ji13) : Int).toNat := (by rw [Ny510.out, List.length_take]; omega)
    rw [← Ny510.out] at hr68
    rw [← hy68] at hcut68
    have HO514 := Aside0.mk (show Kd.V k64 64 _ w.heap.size _ (.slice Ao69 y510.length co69) y510 from Kd.V_mk (by omega) hr68)
    have HC514 := Aside0.mk (show y510.length ≤ co69 from by omega)
    clear hr68 hC68 hroom68 hi068 hsz68
    have KY68 := Aside0.mk hy68
    clear hy68
    replace q68 := eq_true q68
    have q70 : ((ji17) : Int) ≤ ((x9_1.length : Int) : Int) := of_decide_eq_true (by first | (with_reducible assumption) | assumption)
    obtain ⟨i070, hi070, _, hsz70, _⟩ := info_parts info64
    have hroom70 : x9_1.length ≤ co69 := (Kd.N_reads' HO_9.out).2.1
    have hC70 : Kd.F k64 _ _ Ao69 x9_1.length x9_1 := (Kd.V_at (base := w.heap.size) (Kd.N_V HO_9.out)).2.2
    have q070 : (0 : Int) ≤ ((ji17) : Int) := of_decide_eq_true (by first | (with_reducible assumption) | assumption)
    have hcut70 := cut_from (P := Try.prog) 33 64 .i64 Try.underlying33 hi070 6 hsz70 Ao69 x9_1.length co69 (ji17) q070 q70
    have hr70 := Kd.F_cut (m := ((ji17) : Int).toNat) (c := co69) hC70 (by omega) hroom70
    obtain ⟨A70, hA70⟩ : ∃ A1, A1 = (if co69 = ((ji17) : Int).toNat then Ao69 else (Ao69 : Option Addr).map (·.add (((ji17) : Int).toNat * 6))) := ⟨_, rfl⟩
    obtain ⟨c70, hc70⟩ : ∃ c1, c1 = co69 - ((ji17) : Int).toNat := ⟨_, rfl⟩
    have hy70 : y518.length = x9_1.length - ((ji17) : Int).toNat := (by rw [Ny518.out, List.length_drop] <;> omega)
    rw [show (x9_1).drop ((ji17) : Int).toNat = y518 from Ny518.out.symm] at hr70
    replace hr70 : Kd.F k64 _ _ A70 y518.length y518 := (by rw [hA70]; exact hr70)
    rw [← hy70, ← hA70, ← hc70] at hcut70
    have HO522 := Aside0.mk (show Kd.V k64 64 _ w.heap.size _ (.slice A70 y518.length c70) y518 from Kd.V_mk (by rw [hy70, hc70]; exact Nat.sub_le_sub_right hroom70 _) hr70)
    have HC522 := Aside0.mk (show y518.length ≤ c70 from by rw [hy70, hc70]; exact Nat.sub_le_sub_right hroom70 _)
    clear hr70 hC70 hroom70 hi070 hsz70 hc70
    have KY70 := Aside0.mk hy70
    have KA70 := Aside0.mk hA70
    clear hy70 hA70
    replace q70 := eq_true q70
    refine start_ (n := 10) (S := fun w' => True) (ds := []) (mB_ 10 0) (by kernel_rfl) rfl rfl trivial (fun hHeld => ?_); refine with_tabW tenementlaw22_JudgeClosed.tab11 tenementlaw22_JudgeClosed.bits11 (fun HT_ HW_ => ?_)
    generalize wr.drew = w67 at HO_9 HB HO514 HO522 hHeld ⊢
    refine Kp_ 0 40 (mB_ 10 1) (any_of HT_.out (by kernel_rfl)) ?_
    refine Kp_ 1 41 (mB_ 10 3) (any_of HT_.out (by kernel_rfl)) ?_
    refine Kp_ 2 42 (mB_ 10 7) (any_of HT_.out (by kernel_rfl)) ?_
    refine Kp_ 4 44 (mB_ 10 23) (any_of HT_.out (by kernel_rfl)) ?_
    refine Kp_ 5 45 (mB_ 10 55) (any_of HT_.out (by kernel_rfl)) ?_
    refine Kp_ 6 46 (mB_ 10 119) (any_of HT_.out (by kernel_rfl)) ?_
    refine Kp_ 7 47 (mB_ 10 247) (any_of HT_.out (by kernel_rfl)) ?_
    refine one_ (i := 3) (N := some 43) (mB_ 10 255) rfl rfl (one_of HT_.out (by kernel_rfl)) (by decide) (fun K hK => ?_)
    refine Kd.N_append_rows_step k64 (w0 := w) w.heap.size (by rfl) (.const (.slice none 0 0)) (.tmp 42) 33 64 (.agg #[(.int .u64 0), (.int .u64 0), (.int .u64 0), (.int .u64 0), (.int .i64 0), (.slice none 0 0)]) 64 rfl Try.underlying33 info64 rfl (by decide) (by omega) (.slice none 0 0) ([] : List (S64)) y510 _ _ _ (fun _ => True) (fun k_ => ((fun _ => True)) k_ ∧ some k_ ≠ (.slice none 0 0 : Value).ownBlock) rfl rfl ?aO ?aR (fun _ hk => hk) ?aF ?aB ?aS ?aL ?_
    (case aR => exact (by skip; exact Kd.V_F (Kd.V_mono (ok' := (fun k_ => ((fun _ => True)) k_ ∧ some k_ ≠ (.slice none 0 0 : Value).ownBlock)) (HO514.out) (fun k_ hk => ⟨trivial, (by simp [Value.ownBlock])⟩))))
    (case aB => exact (Ky_ HB))
    (case aF => exact (fun _ _ => trivial))
    (case aO => exact ((Kd.N_nil _ _ _ _ (fun _ => True))))
    (case aS => exact (below_size (Ky_ HB)))
    (case aL => have := LMc16.out; omega)
    intro v516 w71 ho hb hg hat
    rw [← Ny515.out] at ho
    have HO517 := Aside0.mk (ho)
    replace HO_9 := Aside0.mk (Kd.N_afterv (Kd.N_apart_nil (by (with_reducible repeat (first | apply Kd.N_alloc | apply Kd.N_drewN | apply Kd.N_drew)); exact HO_9.out)) hg hat)
    replace HO514 := Aside0.mk (Kd.V_afterv (Kd.V_apart_nil (by (with_reducible repeat (first | apply Kd.V_alloc | apply Kd.V_drewN | apply Kd.V_drew)); exact HO514.out)) hg hat)
    replace HO522 := Aside0.mk (Kd.V_afterv (Kd.V_apart_nil (by (with_reducible repeat (first | apply Kd.V_alloc | apply Kd.V_drewN | apply Kd.V_drew)); exact HO522.out)) hg hat)
    replace HB := Aside0.mk (hb)
    clear ho hb hg hat
    refine hK.out _ _ trivial (fun hHeld => ?_)
    clear hK K
    refine Kn_ 43 ?_
    refine one_ (i := 8) (N := some 48) (mB_ 10 511) rfl rfl (one_of HT_.out (by kernel_rfl)) (by decide) (fun K hK => ?_)
    refine Kd.N_append_rows_step k64 (w0 := w) w.heap.size (by rfl) (.tmp 43) (.tmp 47) 33 64 (.agg #[(.int .u64 0), (.int .u64 0), (.int .u64 0), (.int .u64 0), (.int .i64 0), (.slice none 0 0)]) 64 rfl Try.underlying33 info64 rfl (by decide) (by omega) v516 y515 y518 _ _ _ (fun _ => True) (fun k_ => ((fun _ => True)) k_ ∧ some k_ ≠ (v516 : Value).ownBlock) rfl rfl ?aO ?aR (fun _ hk => hk) ?aF ?aB ?aS ?aL ?_
    (case aR => exact (by skip; exact Kd.V_F (Kd.V_mono (ok' := (fun k_ => ((fun _ => True)) k_ ∧ some k_ ≠ (v516 : Value).ownBlock)) (HO522.out) (fun k_ hk => ⟨trivial, hk.2⟩))))
    (case aB => exact (Ky_ HB))
    (case aF => exact (fun _ _ => trivial))
    (case aO => exact (by (with_reducible repeat (first | apply Kd.N_alloc | apply Kd.N_drewN | apply Kd.N_drew)); exact HO517.out))
    (case aS => exact (below_size (Ky_ HB)))
    (case aL => have := LMc20.out; omega)
    intro v524 w72 ho hb hg hat
    rw [← Ny523.out] at ho
    have HO525 := Aside0.mk (ho)
    replace HO_9 := Aside0.mk (Kd.N_afterv (ok := (fun _ => True)) (by (with_reducible repeat (first | apply Kd.N_alloc | apply Kd.N_drewN | apply Kd.N_drew)); exact HO_9.out) hg hat)
    replace HO514 := Aside0.mk (Kd.V_afterv (ok := (fun _ => True)) (by (with_reducible repeat (first | apply Kd.V_alloc | apply Kd.V_drewN | apply Kd.V_drew)); exact HO514.out) hg hat)
    replace HO522 := Aside0.mk (Kd.V_afterv (ok := (fun _ => True)) (by (with_reducible repeat (first | apply Kd.V_alloc | apply Kd.V_drewN | apply Kd.V_drew)); exact HO522.out) hg hat)
    replace HB := Aside0.mk (hb)
    clear HO517
    clear ho hb hg hat
    refine hK.out _ _ trivial (fun hHeld => ?_)
    clear hK K
    refine Kn_ 48 ?_
    refine Kp_ 9 12 (mB_ 10 1023) (any_of HT_.out (by kernel_rfl)) ?_
    refine done_ (done_of HT_.out (by kernel_rfl)) ?_
    try go_wp2_with (first | ((with_reducible refine gate_callee (f := 29) rfl ?_); refine Kg_ (some 55) rfl rfl Try.func29 (by kernel_rfl) rfl #[.agg #[.int .u64 0, .int .u64 0, .int .u64 0, .int .u64 0], .int .i64 3, .int .u64 (IntKind.u64.wrap (wrap64 (Int.tmod a2 24)))] rfl ?_; (with_reducible refine (vec_With.calls 0 0 0 0 3 (IntKind.u64.wrap (wrap64 (Int.tmod a2 24))) t526 t527 t528 t529 _ A21.out).mono ?_); rintro e w73 ⟨rfl, hb⟩; refine ⟨_, rfl, ?_⟩; replace HO_9 := Aside0.mk (Kd.N_below (by (with_reducible repeat (first | apply Kd.N_alloc | apply Kd.N_drewN | apply Kd.N_drew)); exact HO_9.out) hb); replace HO514 := Aside0.mk (Kd.V_below (by (with_reducible repeat (first | apply Kd.V_alloc | apply Kd.V_drewN | apply Kd.V_drew)); exact HO514.out) hb); replace HO522 := Aside0.mk (Kd.V_below (by (with_reducible repeat (first | apply Kd.V_alloc | apply Kd.V_drewN | apply Kd.V_drew)); exact HO522.out) hb); replace HO525 := Aside0.mk (Kd.N_below (by (with_reducible repeat (first | apply Kd.N_alloc | apply Kd.N_drewN | apply Kd.N_drew)); exact HO525.out) hb); replace HB := Ks_ HB hb; (try clear hb); (try clear hb2); (try clear hk); (try clear hi)) | ((with_reducible refine gate_dst (N := 14) rfl ?_); refine Ka_ 14 #[.int .u64 0, .int .u64 0, .int .u64 0, .int .u64 0] 29 ?_; intro gb530 hg w74 hbox hb; have BK530 := Aside0.mk (hbox); have GW530 := Kw_ HB hg; have GE530 := GW530; replace HO_9 := Aside0.mk (Kd.N_below (Kd.N_elderB (by (with_reducible repeat (first | apply Kd.N_alloc | apply Kd.N_drewN | apply Kd.N_drew)); exact HO_9.out) gb530 (Nat.le_of_eq hg.symm)) hb); replace HO514 := Aside0.mk (Kd.V_below (Kd.V_elderB (by (with_reducible repeat (first | apply Kd.V_alloc | apply Kd.V_drewN | apply Kd.V_drew)); exact HO514.out) gb530 (Nat.le_of_eq hg.symm)) hb); replace HO522 := Aside0.mk (Kd.V_below (Kd.V_elderB (by (with_reducible repeat (first | apply Kd.V_alloc | apply Kd.V_drewN | apply Kd.V_drew)); exact HO522.out) gb530 (Nat.le_of_eq hg.symm)) hb); replace HO525 := Aside0.mk (Kd.N_below (Kd.N_elderB (by (with_reducible repeat (first | apply Kd.N_alloc | apply Kd.N_drewN | apply Kd.N_drew)); exact HO525.out) gb530 (Nat.le_of_eq hg.symm)) hb); replace HB := Ks_ HB hb; clear hb hbox hg; obtain ⟨hcz75_0, hcz75_1, hcz75_2, hcz75_3, hfz75_0, hfz75_1, hfz75_2, hfz75_3⟩ := Ke4_ BK530.out) | (go_at_call 20; (with_reducible refine (judge_Closed.calls _ _ x9_1 t526 t527 t528 t529 false _ ?side1 ?side2 A22.out).mono ?_); (case side1 => refine (Kd.N_reads' (e := 64) (base := w.heap.size) (ok := fun k_ => ((True ∧ some k_ ≠ (v524 : Value).ownBlock) ∧ k_ ≠ gb530)) (n := x9_1.length) (c := co69) ?_).2.2; exact (by (with_reducible repeat (first | apply Kd.N_alloc | apply Kd.N_drewN | apply Kd.N_drew)); exact (Kd.N_mono (Kd.N_far (p := ⟨gb530, 3, none⟩) (Kd.N_far (p := ⟨gb530, 2, none⟩) (Kd.N_far (p := ⟨gb530, 1, none⟩) (Kd.N_far (p := ⟨gb530, 0, none⟩) (Kd.N_mono HO_9.out (fun k_ hk => (⟨hk, hk.2⟩ : _ ∧ k_ ≠ gb530))) (fun _ hk => hk.2) (.int .u64 t526)) (fun _ hk => hk.2) (.int .u64 t527)) (fun _ hk => hk.2) (.int .u64 t528)) (fun _ hk => hk.2) (.int .u64 t529)) (fun _ h_ => h_.1)))); (case side2 => exact (Kd.N_reads' HO_9.out).2.1); rintro e w76 ⟨rfl, hb⟩; replace HO_9 := Aside0.mk (Kd.N_below (by (with_reducible repeat (first | apply Kd.N_alloc | apply Kd.N_drewN | apply Kd.N_drew)); exact (Kd.N_mono (Kd.N_far (p := ⟨gb530, 3, none⟩) (Kd.N_far (p := ⟨gb530, 2, none⟩) (Kd.N_far (p := ⟨gb530, 1, none⟩) (Kd.N_far (p := ⟨gb530, 0, none⟩) (Kd.N_mono HO_9.out (fun k_ hk => (⟨hk, hk.2⟩ : _ ∧ k_ ≠ gb530))) (fun _ hk => hk.2) (.int .u64 t526)) (fun _ hk => hk.2) (.int .u64 t527)) (fun _ hk => hk.2) (.int .u64 t528)) (fun _ hk => hk.2) (.int .u64 t529)) (fun _ h_ => h_.1))) hb); replace HO514 := Aside0.mk (Kd.V_below (by (with_reducible repeat (first | apply Kd.V_alloc | apply Kd.V_drewN | apply Kd.V_drew)); exact (Kd.V_mono (Kd.V_far (p := ⟨gb530, 3, none⟩) (Kd.V_far (p := ⟨gb530, 2, none⟩) (Kd.V_far (p := ⟨gb530, 1, none⟩) (Kd.V_far (p := ⟨gb530, 0, none⟩) (Kd.V_mono HO514.out (fun k_ hk => (⟨hk, hk.2⟩ : _ ∧ k_ ≠ gb530))) (fun _ hk => hk.2) (.int .u64 t526)) (fun _ hk => hk.2) (.int .u64 t527)) (fun _ hk => hk.2) (.int .u64 t528)) (fun _ hk => hk.2) (.int .u64 t529)) (fun _ h_ => h_.1))) hb); replace HO522 := Aside0.mk (Kd.V_below (by (with_reducible repeat (first | apply Kd.V_alloc | apply Kd.V_drewN | apply Kd.V_drew)); exact (Kd.V_mono (Kd.V_far (p := ⟨gb530, 3, none⟩) (Kd.V_far (p := ⟨gb530, 2, none⟩) (Kd.V_far (p := ⟨gb530, 1, none⟩) (Kd.V_far (p := ⟨gb530, 0, none⟩) (Kd.V_mono HO522.out (fun k_ hk => (⟨hk, hk.2⟩ : _ ∧ k_ ≠ gb530))) (fun _ hk => hk.2) (.int .u64 t526)) (fun _ hk => hk.2) (.int .u64 t527)) (fun _ hk => hk.2) (.int .u64 t528)) (fun _ hk => hk.2) (.int .u64 t529)) (fun _ h_ => h_.1))) hb); replace HO525 := Aside0.mk (Kd.N_below (by (with_reducible repeat (first | apply Kd.N_alloc | apply Kd.N_drewN | apply Kd.N_drew)); exact (Kd.N_mono (Kd.N_far (p := ⟨gb530, 3, none⟩) (Kd.N_far (p := ⟨gb530, 2, none⟩) (Kd.N_far (p := ⟨gb530, 1, none⟩) (Kd.N_far (p := ⟨gb530, 0, none⟩) (Kd.N_mono HO525.out (fun k_ hk => (⟨hk, hk.2⟩ : _ ∧ k_ ≠ gb530))) (fun _ hk => hk.2) (.int .u64 t526)) (fun _ hk => hk.2) (.int .u64 t527)) (fun _ hk => hk.2) (.int .u64 t528)) (fun _ hk => hk.2) (.int .u64 t529)) (fun _ h_ => h_.1))) hb); replace BK530 := Aside0.mk (blk_below (g := gb530) (o := .cells #[.int .u64 t526, .int .u64 t527, .int .u64 t528, .int .u64 t529] 29 (0, 0)) (by refine Kv_ ?_; refine blk_put (cs := #[.int .u64 t526, .int .u64 t527, .int .u64 t528, .int .u64 0]) ?_ 3 _ rfl; refine Kv_ ?_; refine blk_put (cs := #[.int .u64 t526, .int .u64 t527, .int .u64 0, .int .u64 0]) ?_ 2 _ rfl; refine Kv_ ?_; refine blk_put (cs := #[.int .u64 t526, .int .u64 0, .int .u64 0, .int .u64 0]) ?_ 1 _ rfl; refine Kv_ ?_; refine blk_put (cs := #[.int .u64 0, .int .u64 0, .int .u64 0, .int .u64 0]) ?_ 0 _ rfl; exact Kq_ BK530) hb); replace HB := Kt_ HB GE530 hb; (try clear hb); (try clear hb2); (try clear hk); (try clear hi); obtain ⟨hcz77_0, hcz77_1, hcz77_2, hcz77_3, hfz77_0, hfz77_1, hfz77_2, hfz77_3⟩ := Ke4_ BK530.out; obtain ⟨Ao78, co78, eo78⟩ := Kd.N_slice HO525.out; subst eo78) | (go_at_call 20; (with_reducible refine (judge_Closed.calls _ _ y523 t526 t527 t528 t529 true _ ?side1 ?side2 A62.out).mono ?_); (case side1 => repeat (first | exact (Kd.N_reads' HO525.out).2.2 | (with_reducible refine Kd.C_alloc ?_ _) | (with_reducible refine Kd.C_drewN ?_ _) | (with_reducible refine Kd.C_drew ?_))); (case side2 => exact (Kd.N_reads' HO525.out).2.1); rintro e w79 ⟨rfl, hb⟩; replace HO_9 := Aside0.mk (Kd.N_below (by (with_reducible repeat (first | apply Kd.N_alloc | apply Kd.N_drewN | apply Kd.N_drew)); exact HO_9.out) hb); replace HO514 := Aside0.mk (Kd.V_below (by (with_reducible repeat (first | apply Kd.V_alloc | apply Kd.V_drewN | apply Kd.V_drew)); exact HO514.out) hb); replace HO522 := Aside0.mk (Kd.V_below (by (with_reducible repeat (first | apply Kd.V_alloc | apply Kd.V_drewN | apply Kd.V_drew)); exact HO522.out) hb); replace HO525 := Aside0.mk (Kd.N_below (by (with_reducible repeat (first | apply Kd.N_alloc | apply Kd.N_drewN | apply Kd.N_drew)); exact HO525.out) hb); replace BK530 := Kb_ BK530 hb; replace HB := Ks_ HB hb; (try clear hb); (try clear hb2); (try clear hk); (try clear hi)) | (go_at_call 20; (refine (judge_Closed.calls _ _ ([] : List (S64)) 0 0 0 0 true _ ?side1 ?side2 A65.out).mono ?_); (case side1 => exact Kd.C_nil _ _); (case side2 => exact Nat.le_refl _); rintro e w80 ⟨rfl, hb⟩; replace HO_9 := Aside0.mk (Kd.N_below (by (with_reducible repeat (first | apply Kd.N_alloc | apply Kd.N_drewN | apply Kd.N_drew)); exact HO_9.out) hb); replace HO514 := Aside0.mk (Kd.V_below (by (with_reducible repeat (first | apply Kd.V_alloc | apply Kd.V_drewN | apply Kd.V_drew)); exact HO514.out) hb); replace HO522 := Aside0.mk (Kd.V_below (by (with_reducible repeat (first | apply Kd.V_alloc | apply Kd.V_drewN | apply Kd.V_drew)); exact HO522.out) hb); replace HO525 := Aside0.mk (Kd.N_below (by (with_reducible repeat (first | apply Kd.N_alloc | apply Kd.N_drewN | apply Kd.N_drew)); exact HO525.out) hb); replace BK530 := Kb_ BK530 hb; replace HB := Ks_ HB hb; (try clear hb); (try clear hb2); (try clear hk); (try clear hi)))
    go_ret
    exact ⟨by first | rfl | (simp [errW_none, errW_some] <;> rfl) | (simp only [← hji13, ← hji17]; first | rfl | (simp [errW_none, errW_some] <;> rfl)) | (simp [*, errW_none, errW_some] <;> rfl), Kz_ HB GE530⟩
   replace c63 := Bool.eq_false_iff.mpr c63
   subst c63
   have H1 : (if (wrap64 (Int.tmod a2 24)) ≤ (ji13) then (none) else ((judge_Closed.f ([] : List (S64)) 0 0 0 0).bind fun t537 => (if t537 = true then (some true) else (none)))) = some r := by rw [if_neg (show ¬ (false = true) by decide)] at H; exact H
   clear H
   have H := H1
   clear H1
   by_cases c81 : (wrap64 (Int.tmod a2 24)) ≤ (ji13)
   ·rw [if_pos c81] at H
    exact absurd H (by simp)
   rw [if_neg c81] at H
   have c81b0 : decide ((wrap64 (Int.tmod a2 24)) ≤ (ji13)) = false := decide_eq_false c81
   clear c81
   replace H := Option.bind_eq_some_iff.mp H
   obtain ⟨t537, A820, H⟩ := H
   replace H : (if t537 = true then (some true) else (none)) = some r := H
   have A82 := Aside0.mk A820
   clear A820
   by_cases c83 : t537 = true
   rotate_left
   ·replace c83 := Bool.eq_false_iff.mpr c83
    subst c83
    have H1 : (none) = some r := by rw [if_neg (show ¬ (false = true) by decide)] at H; exact H
    clear H
    have H := H1
    clear H1
    exact absurd H (by simp)
   subst c83
   have H1 : (some true) = some r := by rw [if_pos rfl] at H; exact H
   clear H
   have H := H1
   clear H1
   obtain rfl := Option.some.inj H
   try go_wp2
   replace HO_9 := Aside0.mk (Kd.N_drew HO_9.out)
   replace HB := Aside0.mk (below_drew1 HB.out)
   obtain ⟨Ao86, co86, eo86⟩ := Kd.N_slice HO_9.out
   (first | subst eo86 | (injection eo86 with f1_ f2_ f3_; have f4_ := f1_.symm; have f5_ := f3_.symm; clear f1_ f2_ f3_; subst f4_; subst f5_))
   have q85 : ((ji13) : Int) ≤ ((x9_1.length : Int) : Int) := of_decide_eq_true (by first | (with_reducible assumption) | assumption)
   obtain ⟨i085, hi085, _, hsz85, _⟩ := info_parts info64
   have hroom85 : x9_1.length ≤ co86 := (Kd.N_reads' HO_9.out).2.1
   have hC85 : Kd.F k64 _ _ Ao86 x9_1.length x9_1 := (Kd.V_at (base := w.heap.size) (Kd.N_V HO_9.out)).2.2
   have hcut85 := cut_to (P := Try.prog) 33 64 .i64 Try.underlying33 hi085 Ao86 x9_1.length co86 (ji13) (of_decide_eq_true (by first | (with_reducible assumption) | assumption)) q85 hroom85
   have hr85 := Kd.F_take (m := ((ji13) : Int).toNat) hC85 (by omega)
   have hy85 : y510.length = ((ji13) : Int).toNat := (by rw [Ny510.out, List.length_take]; omega)
   rw [← Ny510.out] at hr85
   rw [← hy85] at hcut85
   have HO514 := Aside0.mk (show Kd.V k64 64 _ w.heap.size _ (.slice Ao86 y510.length co86) y510 from Kd.V_mk (by omega) hr85)
   have HC514 := Aside0.mk (show y510.length ≤ co86 from by omega)
   clear hr85 hC85 hroom85 hi085 hsz85
   have KY85 := Aside0.mk hy85
   clear hy85
   replace q85 := eq_true q85
   have q87 : ((ji17) : Int) ≤ ((x9_1.length : Int) : Int) := of_decide_eq_true (by first | (with_reducible assumption) | assumption)
   obtain ⟨i087, hi087, _, hsz87, _⟩ := info_parts info64
   have hroom87 : x9_1.length ≤ co86 := (Kd.N_reads' HO_9.out).2.1
   have hC87 : Kd.F k64 _ _ Ao86 x9_1.length x9_1 := (Kd.V_at (base := w.heap.size) (Kd.N_V HO_9.out)).2.2
   have q087 : (0 : Int) ≤ ((ji17) : Int) := of_decide_eq_true (by first | (with_reducible assumption) | assumption)
   have hcut87 := cut_from (P := Try.prog) 33 64 .i64 Try.underlying33 hi087 6 hsz87 Ao86 x9_1.length co86 (ji17) q087 q87
   have hr87 := Kd.F_cut (m := ((ji17) : Int).toNat) (c := co86) hC87 (by omega) hroom87
   obtain ⟨A87, hA87⟩ : ∃ A1, A1 = (if co86 = ((ji17) : Int).toNat then Ao86 else (Ao86 : Option Addr).map (·.add (((ji17) : Int).toNat * 6))) := ⟨_, rfl⟩
   obtain ⟨c87, hc87⟩ : ∃ c1, c1 = co86 - ((ji17) : Int).toNat := ⟨_, rfl⟩
   have hy87 : y518.length = x9_1.length - ((ji17) : Int).toNat := (by rw [Ny518.out, List.length_drop] <;> omega)
   rw [show (x9_1).drop ((ji17) : Int).toNat = y518 from Ny518.out.symm] at hr87
   replace hr87 : Kd.F k64 _ _ A87 y518.length y518 := (by rw [hA87]; exact hr87)
   rw [← hy87, ← hA87, ← hc87] at hcut87
   have HO522 := Aside0.mk (show Kd.V k64 64 _ w.heap.size _ (.slice A87 y518.length c87) y518 from Kd.V_mk (by rw [hy87, hc87]; exact Nat.sub_le_sub_right hroom87 _) hr87)
   have HC522 := Aside0.mk (show y518.length ≤ c87 from by rw [hy87, hc87]; exact Nat.sub_le_sub_right hroom87 _)
   clear hr87 hC87 hroom87 hi087 hsz87 hc87
   have KY87 := Aside0.mk hy87
   have KA87 := Aside0.mk hA87
   clear hy87 hA87
   replace q87 := eq_true q87
   refine start_ (n := 10) (S := fun w' => True) (ds := []) (mB_ 10 0) (by kernel_rfl) rfl rfl trivial (fun hHeld => ?_); refine with_tabW tenementlaw22_JudgeClosed.tab11 tenementlaw22_JudgeClosed.bits11 (fun HT_ HW_ => ?_)
   generalize wr.drew = w84 at HO_9 HB HO514 HO522 hHeld ⊢
   refine Kp_ 0 40 (mB_ 10 1) (any_of HT_.out (by kernel_rfl)) ?_
   refine Kp_ 1 41 (mB_ 10 3) (any_of HT_.out (by kernel_rfl)) ?_
   refine Kp_ 2 42 (mB_ 10 7) (any_of HT_.out (by kernel_rfl)) ?_
   refine Kp_ 4 44 (mB_ 10 23) (any_of HT_.out (by kernel_rfl)) ?_
   refine Kp_ 5 45 (mB_ 10 55) (any_of HT_.out (by kernel_rfl)) ?_
   refine Kp_ 6 46 (mB_ 10 119) (any_of HT_.out (by kernel_rfl)) ?_
   refine Kp_ 7 47 (mB_ 10 247) (any_of HT_.out (by kernel_rfl)) ?_
   refine one_ (i := 3) (N := some 43) (mB_ 10 255) rfl rfl (one_of HT_.out (by kernel_rfl)) (by decide) (fun K hK => ?_)
   refine Kd.N_append_rows_step k64 (w0 := w) w.heap.size (by rfl) (.const (.slice none 0 0)) (.tmp 42) 33 64 (.agg #[(.int .u64 0), (.int .u64 0), (.int .u64 0), (.int .u64 0), (.int .i64 0), (.slice none 0 0)]) 64 rfl Try.underlying33 info64 rfl (by decide) (by omega) (.slice none 0 0) ([] : List (S64)) y510 _ _ _ (fun _ => True) (fun k_ => ((fun _ => True)) k_ ∧ some k_ ≠ (.slice none 0 0 : Value).ownBlock) rfl rfl ?aO ?aR (fun _ hk => hk) ?aF ?aB ?aS ?aL ?_
   (case aR => exact (by skip; exact Kd.V_F (Kd.V_mono (ok' := (fun k_ => ((fun _ => True)) k_ ∧ some k_ ≠ (.slice none 0 0 : Value).ownBlock)) (HO514.out) (fun k_ hk => ⟨trivial, (by simp [Value.ownBlock])⟩))))
   (case aB => exact (Ky_ HB))
   (case aF => exact (fun _ _ => trivial))
   (case aO => exact ((Kd.N_nil _ _ _ _ (fun _ => True))))
   (case aS => exact (below_size (Ky_ HB)))
   (case aL => have := LMc16.out; omega)
   intro v516 w88 ho hb hg hat
   rw [← Ny515.out] at ho
   have HO517 := Aside0.mk (ho)
   replace HO_9 := Aside0.mk (Kd.N_afterv (Kd.N_apart_nil (by (with_reducible repeat (first | apply Kd.N_alloc | apply Kd.N_drewN | apply Kd.N_drew)); exact HO_9.out)) hg hat)
   replace HO514 := Aside0.mk (Kd.V_afterv (Kd.V_apart_nil (by (with_reducible repeat (first | apply Kd.V_alloc | apply Kd.V_drewN | apply Kd.V_drew)); exact HO514.out)) hg hat)
   replace HO522 := Aside0.mk (Kd.V_afterv (Kd.V_apart_nil (by (with_reducible repeat (first | apply Kd.V_alloc | apply Kd.V_drewN | apply Kd.V_drew)); exact HO522.out)) hg hat)
   replace HB := Aside0.mk (hb)
   clear ho hb hg hat
   refine hK.out _ _ trivial (fun hHeld => ?_)
   clear hK K
   refine Kn_ 43 ?_
   refine one_ (i := 8) (N := some 48) (mB_ 10 511) rfl rfl (one_of HT_.out (by kernel_rfl)) (by decide) (fun K hK => ?_)
   refine Kd.N_append_rows_step k64 (w0 := w) w.heap.size (by rfl) (.tmp 43) (.tmp 47) 33 64 (.agg #[(.int .u64 0), (.int .u64 0), (.int .u64 0), (.int .u64 0), (.int .i64 0), (.slice none 0 0)]) 64 rfl Try.underlying33 info64 rfl (by decide) (by omega) v516 y515 y518 _ _ _ (fun _ => True) (fun k_ => ((fun _ => True)) k_ ∧ some k_ ≠ (v516 : Value).ownBlock) rfl rfl ?aO ?aR (fun _ hk => hk) ?aF ?aB ?aS ?aL ?_
   (case aR => exact (by skip; exact Kd.V_F (Kd.V_mono (ok' := (fun k_ => ((fun _ => True)) k_ ∧ some k_ ≠ (v516 : Value).ownBlock)) (HO522.out) (fun k_ hk => ⟨trivial, hk.2⟩))))
   (case aB => exact (Ky_ HB))
   (case aF => exact (fun _ _ => trivial))
   (case aO => exact (by (with_reducible repeat (first | apply Kd.N_alloc | apply Kd.N_drewN | apply Kd.N_drew)); exact HO517.out))
   (case aS => exact (below_size (Ky_ HB)))
   (case aL => have := LMc20.out; omega)
   intro v524 w89 ho hb hg hat
   rw [← Ny523.out] at ho
   have HO525 := Aside0.mk (ho)
   replace HO_9 := Aside0.mk (Kd.N_afterv (ok := (fun _ => True)) (by (with_reducible repeat (first | apply Kd.N_alloc | apply Kd.N_drewN | apply Kd.N_drew)); exact HO_9.out) hg hat)
   replace HO514 := Aside0.mk (Kd.V_afterv (ok := (fun _ => True)) (by (with_reducible repeat (first | apply Kd.V_alloc | apply Kd.V_drewN | apply Kd.V_drew)); exact HO514.out) hg hat)
   replace HO522 := Aside0.mk (Kd.V_afterv (ok := (fun _ => True)) (by (with_reducible repeat (first | apply Kd.V_alloc | apply Kd.V_drewN | apply Kd.V_drew)); exact HO522.out) hg hat)
   replace HB := Aside0.mk (hb)
   clear HO517
   clear ho hb hg hat
   refine hK.out _ _ trivial (fun hHeld => ?_)
   clear hK K
   refine Kn_ 48 ?_
   refine Kp_ 9 12 (mB_ 10 1023) (any_of HT_.out (by kernel_rfl)) ?_
   refine done_ (done_of HT_.out (by kernel_rfl)) ?_
   try go_wp2_with (first | ((with_reducible refine gate_callee (f := 29) rfl ?_); refine Kg_ (some 55) rfl rfl Try.func29 (by kernel_rfl) rfl #[.agg #[.int .u64 0, .int .u64 0, .int .u64 0, .int .u64 0], .int .i64 3, .int .u64 (IntKind.u64.wrap (wrap64 (Int.tmod a2 24)))] rfl ?_; (with_reducible refine (vec_With.calls 0 0 0 0 3 (IntKind.u64.wrap (wrap64 (Int.tmod a2 24))) t526 t527 t528 t529 _ A21.out).mono ?_); rintro e w90 ⟨rfl, hb⟩; refine ⟨_, rfl, ?_⟩; replace HO_9 := Aside0.mk (Kd.N_below (by (with_reducible repeat (first | apply Kd.N_alloc | apply Kd.N_drewN | apply Kd.N_drew)); exact HO_9.out) hb); replace HO514 := Aside0.mk (Kd.V_below (by (with_reducible repeat (first | apply Kd.V_alloc | apply Kd.V_drewN | apply Kd.V_drew)); exact HO514.out) hb); replace HO522 := Aside0.mk (Kd.V_below (by (with_reducible repeat (first | apply Kd.V_alloc | apply Kd.V_drewN | apply Kd.V_drew)); exact HO522.out) hb); replace HO525 := Aside0.mk (Kd.N_below (by (with_reducible repeat (first | apply Kd.N_alloc | apply Kd.N_drewN | apply Kd.N_drew)); exact HO525.out) hb); replace HB := Ks_ HB hb; (try clear hb); (try clear hb2); (try clear hk); (try clear hi)) | ((with_reducible refine gate_dst (N := 14) rfl ?_); refine Ka_ 14 #[.int .u64 0, .int .u64 0, .int .u64 0, .int .u64 0] 29 ?_; intro gb530 hg w91 hbox hb; have BK530 := Aside0.mk (hbox); have GW530 := Kw_ HB hg; have GE530 := GW530; replace HO_9 := Aside0.mk (Kd.N_below (Kd.N_elderB (by (with_reducible repeat (first | apply Kd.N_alloc | apply Kd.N_drewN | apply Kd.N_drew)); exact HO_9.out) gb530 (Nat.le_of_eq hg.symm)) hb); replace HO514 := Aside0.mk (Kd.V_below (Kd.V_elderB (by (with_reducible repeat (first | apply Kd.V_alloc | apply Kd.V_drewN | apply Kd.V_drew)); exact HO514.out) gb530 (Nat.le_of_eq hg.symm)) hb); replace HO522 := Aside0.mk (Kd.V_below (Kd.V_elderB (by (with_reducible repeat (first | apply Kd.V_alloc | apply Kd.V_drewN | apply Kd.V_drew)); exact HO522.out) gb530 (Nat.le_of_eq hg.symm)) hb); replace HO525 := Aside0.mk (Kd.N_below (Kd.N_elderB (by (with_reducible repeat (first | apply Kd.N_alloc | apply Kd.N_drewN | apply Kd.N_drew)); exact HO525.out) gb530 (Nat.le_of_eq hg.symm)) hb); replace HB := Ks_ HB hb; clear hb hbox hg; obtain ⟨hcz92_0, hcz92_1, hcz92_2, hcz92_3, hfz92_0, hfz92_1, hfz92_2, hfz92_3⟩ := Ke4_ BK530.out) | (go_at_call 20; (with_reducible refine (judge_Closed.calls _ _ x9_1 t526 t527 t528 t529 false _ ?side1 ?side2 A22.out).mono ?_); (case side1 => refine (Kd.N_reads' (e := 64) (base := w.heap.size) (ok := fun k_ => ((True ∧ some k_ ≠ (v524 : Value).ownBlock) ∧ k_ ≠ gb530)) (n := x9_1.length) (c := co86) ?_).2.2; exact (by (with_reducible repeat (first | apply Kd.N_alloc | apply Kd.N_drewN | apply Kd.N_drew)); exact (Kd.N_mono (Kd.N_far (p := ⟨gb530, 3, none⟩) (Kd.N_far (p := ⟨gb530, 2, none⟩) (Kd.N_far (p := ⟨gb530, 1, none⟩) (Kd.N_far (p := ⟨gb530, 0, none⟩) (Kd.N_mono HO_9.out (fun k_ hk => (⟨hk, hk.2⟩ : _ ∧ k_ ≠ gb530))) (fun _ hk => hk.2) (.int .u64 t526)) (fun _ hk => hk.2) (.int .u64 t527)) (fun _ hk => hk.2) (.int .u64 t528)) (fun _ hk => hk.2) (.int .u64 t529)) (fun _ h_ => h_.1)))); (case side2 => exact (Kd.N_reads' HO_9.out).2.1); rintro e w93 ⟨rfl, hb⟩; replace HO_9 := Aside0.mk (Kd.N_below (by (with_reducible repeat (first | apply Kd.N_alloc | apply Kd.N_drewN | apply Kd.N_drew)); exact (Kd.N_mono (Kd.N_far (p := ⟨gb530, 3, none⟩) (Kd.N_far (p := ⟨gb530, 2, none⟩) (Kd.N_far (p := ⟨gb530, 1, none⟩) (Kd.N_far (p := ⟨gb530, 0, none⟩) (Kd.N_mono HO_9.out (fun k_ hk => (⟨hk, hk.2⟩ : _ ∧ k_ ≠ gb530))) (fun _ hk => hk.2) (.int .u64 t526)) (fun _ hk => hk.2) (.int .u64 t527)) (fun _ hk => hk.2) (.int .u64 t528)) (fun _ hk => hk.2) (.int .u64 t529)) (fun _ h_ => h_.1))) hb); replace HO514 := Aside0.mk (Kd.V_below (by (with_reducible repeat (first | apply Kd.V_alloc | apply Kd.V_drewN | apply Kd.V_drew)); exact (Kd.V_mono (Kd.V_far (p := ⟨gb530, 3, none⟩) (Kd.V_far (p := ⟨gb530, 2, none⟩) (Kd.V_far (p := ⟨gb530, 1, none⟩) (Kd.V_far (p := ⟨gb530, 0, none⟩) (Kd.V_mono HO514.out (fun k_ hk => (⟨hk, hk.2⟩ : _ ∧ k_ ≠ gb530))) (fun _ hk => hk.2) (.int .u64 t526)) (fun _ hk => hk.2) (.int .u64 t527)) (fun _ hk => hk.2) (.int .u64 t528)) (fun _ hk => hk.2) (.int .u64 t529)) (fun _ h_ => h_.1))) hb); replace HO522 := Aside0.mk (Kd.V_below (by (with_reducible repeat (first | apply Kd.V_alloc | apply Kd.V_drewN | apply Kd.V_drew)); exact (Kd.V_mono (Kd.V_far (p := ⟨gb530, 3, none⟩) (Kd.V_far (p := ⟨gb530, 2, none⟩) (Kd.V_far (p := ⟨gb530, 1, none⟩) (Kd.V_far (p := ⟨gb530, 0, none⟩) (Kd.V_mono HO522.out (fun k_ hk => (⟨hk, hk.2⟩ : _ ∧ k_ ≠ gb530))) (fun _ hk => hk.2) (.int .u64 t526)) (fun _ hk => hk.2) (.int .u64 t527)) (fun _ hk => hk.2) (.int .u64 t528)) (fun _ hk => hk.2) (.int .u64 t529)) (fun _ h_ => h_.1))) hb); replace HO525 := Aside0.mk (Kd.N_below (by (with_reducible repeat (first | apply Kd.N_alloc | apply Kd.N_drewN | apply Kd.N_drew)); exact (Kd.N_mono (Kd.N_far (p := ⟨gb530, 3, none⟩) (Kd.N_far (p := ⟨gb530, 2, none⟩) (Kd.N_far (p := ⟨gb530, 1, none⟩) (Kd.N_far (p := ⟨gb530, 0, none⟩) (Kd.N_mono HO525.out (fun k_ hk => (⟨hk, hk.2⟩ : _ ∧ k_ ≠ gb530))) (fun _ hk => hk.2) (.int .u64 t526)) (fun _ hk => hk.2) (.int .u64 t527)) (fun _ hk => hk.2) (.int .u64 t528)) (fun _ hk => hk.2) (.int .u64 t529)) (fun _ h_ => h_.1))) hb); replace BK530 := Aside0.mk (blk_below (g := gb530) (o := .cells #[.int .u64 t526, .int .u64 t527, .int .u64 t528, .int .u64 t529] 29 (0, 0)) (by refine Kv_ ?_; refine blk_put (cs := #[.int .u64 t526, .int .u64 t527, .int .u64 t528, .int .u64 0]) ?_ 3 _ rfl; refine Kv_ ?_; refine blk_put (cs := #[.int .u64 t526, .int .u64 t527, .int .u64 0, .int .u64 0]) ?_ 2 _ rfl; refine Kv_ ?_; refine blk_put (cs := #[.int .u64 t526, .int .u64 0, .int .u64 0, .int .u64 0]) ?_ 1 _ rfl; refine Kv_ ?_; refine blk_put (cs := #[.int .u64 0, .int .u64 0, .int .u64 0, .int .u64 0]) ?_ 0 _ rfl; exact Kq_ BK530) hb); replace HB := Kt_ HB GE530 hb; (try clear hb); (try clear hb2); (try clear hk); (try clear hi); obtain ⟨hcz94_0, hcz94_1, hcz94_2, hcz94_3, hfz94_0, hfz94_1, hfz94_2, hfz94_3⟩ := Ke4_ BK530.out; obtain ⟨Ao95, co95, eo95⟩ := Kd.N_slice HO525.out; subst eo95) | (go_at_call 20; (with_reducible refine (judge_Closed.calls _ _ y523 t526 t527 t528 t529 false _ ?side1 ?side2 A62.out).mono ?_); (case side1 => repeat (first | exact (Kd.N_reads' HO525.out).2.2 | (with_reducible refine Kd.C_alloc ?_ _) | (with_reducible refine Kd.C_drewN ?_ _) | (with_reducible refine Kd.C_drew ?_))); (case side2 => exact (Kd.N_reads' HO525.out).2.1); rintro e w96 ⟨rfl, hb⟩; replace HO_9 := Aside0.mk (Kd.N_below (by (with_reducible repeat (first | apply Kd.N_alloc | apply Kd.N_drewN | apply Kd.N_drew)); exact HO_9.out) hb); replace HO514 := Aside0.mk (Kd.V_below (by (with_reducible repeat (first | apply Kd.V_alloc | apply Kd.V_drewN | apply Kd.V_drew)); exact HO514.out) hb); replace HO522 := Aside0.mk (Kd.V_below (by (with_reducible repeat (first | apply Kd.V_alloc | apply Kd.V_drewN | apply Kd.V_drew)); exact HO522.out) hb); replace HO525 := Aside0.mk (Kd.N_below (by (with_reducible repeat (first | apply Kd.N_alloc | apply Kd.N_drewN | apply Kd.N_drew)); exact HO525.out) hb); replace BK530 := Kb_ BK530 hb; replace HB := Ks_ HB hb; (try clear hb); (try clear hb2); (try clear hk); (try clear hi)) | (go_at_call 20; (refine (judge_Closed.calls _ _ ([] : List (S64)) 0 0 0 0 true _ ?side1 ?side2 A82.out).mono ?_); (case side1 => exact Kd.C_nil _ _); (case side2 => exact Nat.le_refl _); rintro e w97 ⟨rfl, hb⟩; replace HO_9 := Aside0.mk (Kd.N_below (by (with_reducible repeat (first | apply Kd.N_alloc | apply Kd.N_drewN | apply Kd.N_drew)); exact HO_9.out) hb); replace HO514 := Aside0.mk (Kd.V_below (by (with_reducible repeat (first | apply Kd.V_alloc | apply Kd.V_drewN | apply Kd.V_drew)); exact HO514.out) hb); replace HO522 := Aside0.mk (Kd.V_below (by (with_reducible repeat (first | apply Kd.V_alloc | apply Kd.V_drewN | apply Kd.V_drew)); exact HO522.out) hb); replace HO525 := Aside0.mk (Kd.N_below (by (with_reducible repeat (first | apply Kd.N_alloc | apply Kd.N_drewN | apply Kd.N_drew)); exact HO525.out) hb); replace BK530 := Kb_ BK530 hb; replace HB := Ks_ HB hb; (try clear hb); (try clear hb2); (try clear hk); (try clear hi)))
   go_ret
   exact ⟨by first | rfl | (simp [errW_none, errW_some] <;> rfl) | (simp only [← hji13, ← hji17]; first | rfl | (simp [errW_none, errW_some] <;> rfl)) | (simp [*, errW_none, errW_some] <;> rfl), Kz_ HB GE530⟩
def tenementlaw22_JudgeClosed.Pure : Prop := ∀ (a0 : Int) (a1 : Int) (a2 : Int), (Lit.int .u8 a0).wf = true → (Lit.int .u8 a1).wf = true → (Lit.int .u8 a2).wf = true → ∃ k, tenementlaw22_JudgeClosed.f k a0 a1 a2 = some true
theorem tenementlaw22_JudgeClosed.walk (P : tenementlaw22_JudgeClosed.Pure) (a0 : Int) (a1 : Int) (a2 : Int) (w : World) (w0 : (Lit.int .u8 a0).wf = true) (w1 : (Lit.int .u8 a1).wf = true) (w2 : (Lit.int .u8 a2).wf = true) :
  Calls Try.prog 7 #[.int .u8 a0, .int .u8 a1, .int .u8 a2] w fun e w' => e = .returned (.bool true) ∧ Below w.heap.size w w' := by
 obtain ⟨k, h⟩ := P a0 a1 a2 w0 w1 w2
 refine (tenementlaw22_JudgeClosed.calls k a0 a1 a2 true w h).mono ?_
 rintro e w' ⟨rfl, hd⟩
 exact ⟨rfl, hd⟩
end Go.Proofs.Ythjhkcebcgdeoaa.Q
