import Derived.Test.YthjhkcebcgdeoaaGJudgeOrders2
import Derived.Test.YthjhkcebcgdeoaaGJudgeOrders4
import Derived.Test.YthjhkcebcgdeoaaGJudgeOrders5
import Derived.Test.YthjhkcebcgdeoaaGJudgeOrders9
namespace Go.Proofs.Ythjhkcebcgdeoaa.Q
open Go.RowKit Go.Proofs.YthjhkcebcgdeoaaW.PrintWords Go.Proofs.YthjhkcebcgdeoaaW.PrintLast Go.Proofs.YthjhkcebcgdeoaaW.PrintMore
attribute [local go_sem] max2_int min2_int max_two min_two max_three min_three max_four min_four   -- for this text's walks alone
set_option linter.unusedVariables false
set_option linter.unusedSimpArgs false
mutual
def tenementlaw22_JudgeOrders.l0 : Nat → Bool → List (S64) → List Int → List Bool → Int → Option (Bool)
 | 0, _, _, _, _, _ => none
 | k + 1, x3, x4, x6, x7, x8 => if x8 < (x6.length : Int) then (if 0 ≤ x8 then (if (rd x6 x8) < 0 then (tenementlaw22_JudgeOrders.j1 k x3 x4 x6 x7 x8 true) else (if (rd x6 x8) ≥ (x4.length : Int) then (tenementlaw22_JudgeOrders.j1 k x3 x4 x6 x7 x8 true) else (if 0 ≤ (rd x6 x8) then (if (rd x6 x8) < (x7.length : Int) then (tenementlaw22_JudgeOrders.j1 k x3 x4 x6 x7 x8 (rdOf false x7 (rd x6 x8))) else (none)) else (none)))) else (none)) else (if x3 = true then (some true) else (none))
def tenementlaw22_JudgeOrders.j1 : Nat → Bool → List (S64) → List Int → List Bool → Int → Bool → Option (Bool)
 | 0, _, _, _, _, _, _ => none
 | k + 1, x3, x4, x6, x7, x8, x56 => if x56 = true then (none) else (if 0 ≤ x8 then (if x8 < (x6.length : Int) then (if 0 ≤ (rd x6 x8) then (if (rd x6 x8) < (x7.length : Int) then ((some (x7.set ((rd x6 x8) : Int).toNat true : List Bool)).bind fun y432 => (if x8 > 0 then (if 0 ≤ (wrap64 (x8 - 1)) then (if (wrap64 (x8 - 1)) < (x6.length : Int) then (if 0 ≤ (rd x6 (wrap64 (x8 - 1))) then (if (rd x6 (wrap64 (x8 - 1))) < (x4.length : Int) then (if (rd x6 x8) < (x4.length : Int) then ((stamp_Order.f k ((rd_T64 x4 (rd x6 (wrap64 (x8 - 1)))).f0.f0.f0) ((rd_T64 x4 (rd x6 (wrap64 (x8 - 1)))).f0.f0.f1) ((rd_T64 x4 (rd x6 (wrap64 (x8 - 1)))).f0.f0.f2) ((rd_T64 x4 (rd x6 (wrap64 (x8 - 1)))).f0.f0.f3) ((rd_T64 x4 (rd x6 (wrap64 (x8 - 1)))).f0.f1) ((rd_T64 x4 (rd x6 x8)).f0.f0.f0) ((rd_T64 x4 (rd x6 x8)).f0.f0.f1) ((rd_T64 x4 (rd x6 x8)).f0.f0.f2) ((rd_T64 x4 (rd x6 x8)).f0.f0.f3) ((rd_T64 x4 (rd x6 x8)).f0.f1)).bind fun t437 => (if t437 > 0 then (none) else (if t437 = 0 then (if (rd x6 (wrap64 (x8 - 1))) > (rd x6 x8) then (none) else (tenementlaw22_JudgeOrders.l0 k x3 x4 x6 y432 (wrap64 (x8 + 1)))) else (tenementlaw22_JudgeOrders.l0 k x3 x4 x6 y432 (wrap64 (x8 + 1)))))) else (none)) else (none)) else (none)) else (none)) else (none)) else (tenementlaw22_JudgeOrders.l0 k x3 x4 x6 y432 (wrap64 (x8 + 1))))) else (none)) else (none)) else (none)) else (none))
end
def tenementlaw22_JudgeOrders.f (k : Nat) (l0 : List (S61)) : Option (Bool) := (tenementlaw22_examples.f).bind fun t414 => (if t414 = true then ((tenementlaw22_deals.f k l0).bind fun bt415 => ((judge_Order.f bt415.1).bind fun t421 => (if (t421.length : Int) = (bt415.1.length : Int) then (if 0 ≤ (bt415.1.length : Int) then (if ((bt415.1.length : Int) : Int).toNat ≤ 281474976710656 then (tenementlaw22_JudgeOrders.l0 k t414 bt415.1 t421 (List.replicate ((bt415.1.length : Int) : Int).toNat false) 0) else (none)) else (none)) else (none)))) else (none))
def tenementlaw22_JudgeOrders.T16 : Bool × List (List Nat × List Nat) := (true, [([], []), ([], []), ([], []), ([2], [2]), ([1, 3], [1, 3]), ([4], [4]), ([0, 5], [0, 5]), ([6], [6]), ([7], [7]), ([], []), ([], []), ([], []), ([10, 11], [10, 11]), ([12], [12]), ([9, 13], [9, 13]), ([14], [14]), ([15], [15]), ([8, 16], [8, 16]), ([17, 17, 0, 1, 2, 3, 4, 5, 6, 7, 8, 9, 10, 11, 12, 13, 14, 15, 16, 17], [17])])
def tenementlaw22_JudgeOrders.B16 : List Nat := [0, 0, 0, 4, 14, 30, 63, 127, 255, 0, 0, 0, 3072, 7168, 15872, 32256, 65024, 131071, 262143]
theorem tenementlaw22_JudgeOrders.tab16 : rtab .any (opsOf Try.f5 16) = tenementlaw22_JudgeOrders.T16 := by kernel_rfl
theorem tenementlaw22_JudgeOrders.bits16 : waitsOk tenementlaw22_JudgeOrders.T16.2 tenementlaw22_JudgeOrders.B16 = true := by kernel_rfl
def tenementlaw22_JudgeOrders.T17 : Bool × List (List Nat × List Nat) := (true, [([], []), ([0], [0]), ([1], [1]), ([2], [2]), ([3, 2], [2, 3]), ([4, 2, 2], [2, 4]), ([5], [5]), ([5], [5]), ([7, 5], [5, 7]), ([6, 8, 5], [5, 6, 8]), ([9, 5], [5, 9]), ([5], [5]), ([5], [5]), ([11, 12, 5], [5, 11, 12]), ([13, 5], [5, 13]), ([10, 14, 5], [5, 10, 14]), ([5, 15, 2], [2, 5, 15]), ([2, 16], [2, 16])])
def tenementlaw22_JudgeOrders.B17 : List Nat := [0, 1, 3, 7, 15, 31, 63, 63, 191, 511, 1023, 63, 63, 6207, 14399, 32767, 65535, 131071]
theorem tenementlaw22_JudgeOrders.tab17 : rtab .any (opsOf Try.f5 17) = tenementlaw22_JudgeOrders.T17 := by kernel_rfl
theorem tenementlaw22_JudgeOrders.bits17 : waitsOk tenementlaw22_JudgeOrders.T17.2 tenementlaw22_JudgeOrders.B17 = true := by kernel_rfl
set_option maxHeartbeats 8000000 in
set_option maxRecDepth 100000 in
theorem tenementlaw22_JudgeOrders.calls (k : Nat) (A0 : Option Addr) (c0 : Nat) (l0 : List (S61)) (r : Bool) (w : World) (hr0 : Kd.C k61 w A0 l0.length l0) (hc0 : l0.length ≤ c0) (h : tenementlaw22_JudgeOrders.f k l0 = some r) :
  Calls Try.prog 5 #[.slice A0 l0.length c0] w fun e w' => e = .returned (.bool r) ∧ Below w.heap.size w w' := by
 have hu56 := Try.underlying56
 have HR0 := Aside0.mk hr0
 have HC0 := Aside0.mk hc0
 clear hr0 hc0
 have HB := Aside0.mk (Below.refl w.heap.size w)
 have H : ((tenementlaw22_examples.f).bind fun t414 => (if t414 = true then ((tenementlaw22_deals.f k l0).bind fun bt415 => ((judge_Order.f bt415.1).bind fun t421 => (if (t421.length : Int) = (bt415.1.length : Int) then (if 0 ≤ (bt415.1.length : Int) then (if ((bt415.1.length : Int) : Int).toNat ≤ 281474976710656 then (tenementlaw22_JudgeOrders.l0 k t414 bt415.1 t421 (List.replicate ((bt415.1.length : Int) : Int).toNat false) 0) else (none)) else (none)) else (none)))) else (none))) = some r := h
 clear h
 replace H := Option.bind_eq_some_iff.mp H
 obtain ⟨t414, A20, H⟩ := H
 replace H : (if t414 = true then ((tenementlaw22_deals.f k l0).bind fun bt415 => ((judge_Order.f bt415.1).bind fun t421 => (if (t421.length : Int) = (bt415.1.length : Int) then (if 0 ≤ (bt415.1.length : Int) then (if ((bt415.1.length : Int) : Int).toNat ≤ 281474976710656 then (tenementlaw22_JudgeOrders.l0 k t414 bt415.1 t421 (List.replicate ((bt415.1.length : Int) : Int).toNat false) 0) else (none)) else (none)) else (none)))) else (none)) = some r := H
 have A2 := Aside0.mk A20
 clear A20
 by_cases c3 : t414 = true
 rotate_left
 ·replace c3 := Bool.eq_false_iff.mpr c3
  subst c3
  have H1 : (none) = some r := by rw [if_neg (show ¬ (false = true) by decide)] at H; exact H
  clear H
  have H := H1
  clear H1
  exact absurd H (by simp)
 subst c3
 have H1 : ((tenementlaw22_deals.f k l0).bind fun bt415 => ((judge_Order.f bt415.1).bind fun t421 => (if (t421.length : Int) = (bt415.1.length : Int) then (if 0 ≤ (bt415.1.length : Int) then (if ((bt415.1.length : Int) : Int).toNat ≤ 281474976710656 then (tenementlaw22_JudgeOrders.l0 k true bt415.1 t421 (List.replicate ((bt415.1.length : Int) : Int).toNat false) 0) else (none)) else (none)) else (none)))) = some r := by rw [if_pos rfl] at H; exact H
 clear H
 have H := H1
 clear H1
 replace H := Option.bind_eq_some_iff.mp H
 obtain ⟨⟨t415, t416⟩, A40, H⟩ := H
 replace H : ((judge_Order.f t415).bind fun t421 => (if (t421.length : Int) = (t415.length : Int) then (if 0 ≤ (t415.length : Int) then (if ((t415.length : Int) : Int).toNat ≤ 281474976710656 then (tenementlaw22_JudgeOrders.l0 k true t415 t421 (List.replicate ((t415.length : Int) : Int).toNat false) 0) else (none)) else (none)) else (none))) = some r := H
 have A4 := Aside0.mk A40
 clear A40
 replace H := Option.bind_eq_some_iff.mp H
 obtain ⟨t421, A50, H⟩ := H
 replace H : (if (t421.length : Int) = (t415.length : Int) then (if 0 ≤ (t415.length : Int) then (if ((t415.length : Int) : Int).toNat ≤ 281474976710656 then (tenementlaw22_JudgeOrders.l0 k true t415 t421 (List.replicate ((t415.length : Int) : Int).toNat false) 0) else (none)) else (none)) else (none)) = some r := H
 have A5 := Aside0.mk A50
 clear A50
 by_cases c6 : (t421.length : Int) = (t415.length : Int)
 rotate_left
 ·rw [if_neg c6] at H
  exact absurd H (by simp)
 rw [if_pos c6] at H
 have c6b0 : ((t421.length : Int) == (t415.length : Int)) = true := beq_iff_eq.mpr c6
 have c6b1 : ((t421.length : Int) != (t415.length : Int)) = false := bne_eq_false_iff_eq.mpr c6
 have c6b2 : (t421.length == t415.length) = true := by first | simpa using c6 | (simp at c6 ⊢; omega)
 clear c6
 by_cases c7 : 0 ≤ (t415.length : Int)
 rotate_left
 ·rw [if_neg c7] at H
  exact absurd H (by simp)
 rw [if_pos c7] at H
 have c7b0 := eq_true c7
 have c7b1 : decide (0 ≤ (t415.length : Int)) = true := decide_eq_true c7
 clear c7
 by_cases c8 : ((t415.length : Int) : Int).toNat ≤ 281474976710656
 rotate_left
 ·rw [if_neg c8] at H
  exact absurd H (by simp)
 rw [if_pos c8] at H
 have c8b0 := eq_true c8
 have c8b1 : decide (((t415.length : Int) : Int).toNat ≤ 281474976710656) = true := decide_eq_true c8
 clear c8
 obtain ⟨y424, hy424⟩ : ∃ y_ : List Bool, y_ = (List.replicate ((t415.length : Int) : Int).toNat false) := ⟨_, rfl⟩
 replace H : (tenementlaw22_JudgeOrders.l0 k true t415 t421 y424 0) = some r := by first | (rw [hy424]; with_reducible exact H) | (have H2_ := (Option.bind_some _ _).symm.trans H; rw [hy424]; with_reducible exact H2_) | (have H2_ := (Option.bind_some _ _).symm.trans H; with_reducible exact H2_) | with_reducible exact H | (rw [hy424]; exact H) | exact H
 have Ny424 := Aside0.mk hy424
 clear hy424
 have H' := Aside0.mk H
 clear H
 go_enter Try.func5, Try.ntmps5
 go_wp2_with (first | ((with_reducible refine gate_callee (f := 10) rfl ?_); refine Kg_ (some 10) rfl rfl Try.func10 (by kernel_rfl) rfl #[] rfl ?_; (with_reducible refine (tenementlaw22_examples.calls  true _ A2.out).mono ?_); rintro e w9 ⟨rfl, hb⟩; refine ⟨_, rfl, ?_⟩; replace HB := Ks_ HB hb; (try clear hb); (try clear hb2); (try clear hk); (try clear hi)) | ((with_reducible refine gate_callee (f := 11) rfl ?_); refine Kg_ (some 15) rfl rfl Try.func11 (by kernel_rfl) rfl #[.slice A0 l0.length c0] rfl ?_; (with_reducible refine (tenementlaw22_deals.calls k _ _ l0 t415 t416 _ ?side1 ?side2 A4.out).mono ?_); (case side1 => repeat (first | exact (Kd.C_below HR0.out HB.out) | (with_reducible refine Kd.C_alloc ?_ _) | (with_reducible refine Kd.C_drewN ?_ _) | (with_reducible refine Kd.C_drew ?_))); (case side2 => exact HC0.out); rintro e w10 ⟨v417, v419, rfl, ho0, ho1, hb⟩; refine ⟨_, rfl, ?_⟩; have HO418 := Aside0.mk (Kd.S_lower ho0 (below_size (Ky_ HB))); have HO420 := Aside0.mk (Kd.S_lower ho1 (below_size (Ky_ HB))); replace HB := Ks_ HB hb; (try clear hb); (try clear hb2); (try clear hk); (try clear hi); (try clear ho0); (try clear ho1); obtain ⟨Ao11, co11, eo11⟩ := Kd.S_slice HO418.out; subst eo11) | ((with_reducible refine gate_callee (f := 18) rfl ?_); refine Kg_ (some 19) rfl rfl Try.func18 (by kernel_rfl) rfl #[.slice Ao11 t415.length co11] rfl ?_; (with_reducible refine (judge_Order.calls _ _ t415 t421 _ ?side1 ?side2 A5.out).mono ?_); (case side1 => repeat (first | exact (Kd.S_reads' HO418.out).2.2 | (with_reducible refine Kd.C_alloc ?_ _) | (with_reducible refine Kd.C_drewN ?_ _) | (with_reducible refine Kd.C_drew ?_))); (case side2 => exact (Kd.S_reads' HO418.out).2.1); rintro e w12 ⟨v422, rfl, ho0, hb⟩; refine ⟨_, rfl, ?_⟩; have HO423 := Aside0.mk (Kd.R_lower ho0 (below_size (Ky_ HB))); replace HO418 := Aside0.mk (Kd.S_below (by (with_reducible repeat (first | apply Kd.S_alloc | apply Kd.S_drewN | apply Kd.S_drew)); exact HO418.out) hb); replace HO420 := Aside0.mk (Kd.S_below (by (with_reducible repeat (first | apply Kd.S_alloc | apply Kd.S_drewN | apply Kd.S_drew)); exact HO420.out) hb); replace HB := Ks_ HB hb; (try clear hb); (try clear hb2); (try clear hk); (try clear hi); (try clear ho0); obtain ⟨Ao13, co13, eo13⟩ := Kd.R_slice HO423.out; subst eo13) | ((with_reducible refine gate_dst (N := 27) rfl ?_); refine Kd.R_make Kd.bool _ 4 rfl (N := 27) rfl 68 _ _ rfl (t415.length : Int) rfl rfl Try.underlying68 (.bool false) 1 info4 rfl (by decide) (by omega) false (ok := fun _ => True) (okp := fun _ => True) rfl (fun _ hk => hk) trivial (of_decide_eq_true (by first | (with_reducible assumption) | assumption)) (Nat.le_trans (Nat.mul_le_mul_right _ (of_decide_eq_true (by first | (with_reducible assumption) | assumption) : (t415.length : Int).toNat ≤ 281474976710656)) (by omega)) (Below.refl _ _) (Nat.le_refl _) ?_; intro v425 w14 ho15 hb hg_ hnew_; clear hg_ hnew_; (first | rw [← Ny424.out] at ho15 | (simp only [Int.reduceToNat] at ho15; rw [← Ny424.out] at ho15)); have HO426 := Aside0.mk (Kd.R_lower ho15 (below_size (Ky_ HB))); replace HO418 := Aside0.mk (Kd.S_below (by (with_reducible repeat (first | apply Kd.S_alloc | apply Kd.S_drewN | apply Kd.S_drew)); exact HO418.out) hb); replace HO420 := Aside0.mk (Kd.S_below (by (with_reducible repeat (first | apply Kd.S_alloc | apply Kd.S_drewN | apply Kd.S_drew)); exact HO420.out) hb); replace HO423 := Aside0.mk (Kd.R_below (Ku_ HO423) hb); replace HB := Ks_ HB hb; clear hb ho15))
 go_loopg [8] k (fun kq v8 w' => ∃ (x7_1 : List Bool) (x8_1 : Int), v8 = .int .i64 x8_1 ∧ Aside0 (tenementlaw22_JudgeOrders.l0 kq true t415 t421 x7_1 x8_1 = some r) ∧ Aside0 (kq ≤ k) ∧ Aside0 (Kd.S k64 64 w' w.heap.size (fun _ => True) (.slice Ao11 t415.length co11) t415) ∧ Aside0 (Kd.R (Kd.int .i64) 3 w' w.heap.size (fun _ => True) (.slice Ao13 t421.length co13) t421) ∧ Aside0 (Kd.R Kd.bool 4 w' w.heap.size (fun _ => True) v425 x7_1) ∧ Aside0 (Below w.heap.size w w'))
 case atStart => exact ⟨(y424), (0), (by first | rfl | (simp; done) | (simp [*]; done)), H', ⟨Nat.le_refl _⟩, ⟨by (with_reducible repeat (first | apply Kd.S_alloc | apply Kd.S_drewN | apply Kd.S_drew)); exact HO418.out⟩, ⟨by (with_reducible repeat (first | apply Kd.R_alloc | apply Kd.R_drewN | apply Kd.R_drew)); exact HO423.out⟩, ⟨by (with_reducible repeat (first | apply Kd.R_alloc | apply Kd.R_drewN | apply Kd.R_drew)); exact HO426.out⟩, ⟨Ky_ HB⟩⟩
 case round =>
  clear H'
  try clear c1
  try clear p2
  try clear c3
  try clear c5
  try clear c6
  try clear c6b0
  try clear c6b1
  try clear c6b2
  try clear c7
  try clear c7b0
  try clear c7b1
  try clear c8
  try clear c8b0
  try clear c8b1
  try clear c10
  try clear c11
  obtain ⟨x7_1, x8_1, rfl, HA, HK1, HO_4, HO_6, HO_7, HB⟩ := hrel
  cases gk with
  | zero => exact absurd HA.out (by simp [tenementlaw22_JudgeOrders.l0])
  | succ k1 =>
   have H := HA.out
   clear HA
   simp only [tenementlaw22_JudgeOrders.l0] at H
   by_cases c16 : x8_1 < (t421.length : Int)
   rotate_left
   ·rw [if_neg c16] at H
    have c16b0 : decide (x8_1 < (t421.length : Int)) = false := decide_eq_false c16
    clear c16
    replace H : (some true) = some r := by first | (rw [if_pos rfl] at H; exact H) | (rw [if_pos trivial] at H; exact H)
    obtain rfl := Option.some.inj H
    go_wp2
    go_ret
    exact ⟨Kh_, Ky_ HB⟩
   rw [if_pos c16] at H
   have c16b0 : decide (x8_1 < (t421.length : Int)) = true := decide_eq_true c16
   clear c16
   have HC17 := Aside0.mk H
   clear H
   go_upto_region 12 with (fail)
   go_cut [56] (fun v56 wc => ∃ (kq : Nat) (x56_16 : Bool), v56 = .bool x56_16 ∧ Aside0 (tenementlaw22_JudgeOrders.j1 kq true t415 t421 x7_1 x8_1 x56_16 = some r) ∧ Aside0 (kq ≤ k1) ∧ Aside0 (Kd.S k64 64 wc w.heap.size (fun _ => True) (.slice Ao11 t415.length co11) t415) ∧ Aside0 (Kd.R (Kd.int .i64) 3 wc w.heap.size (fun _ => True) (.slice Ao13 t421.length co13) t421) ∧ Aside0 (Kd.R Kd.bool 4 wc w.heap.size (fun _ => True) v425 x7_1) ∧ Aside0 (Below w.heap.size w wc))
   case first =>
    have H := HC17.out
    clear HC17
    by_cases c18 : 0 ≤ x8_1
    rotate_left
    ·rw [if_neg c18] at H
     exact absurd H (by simp)
    rw [if_pos c18] at H
    have c18b0 : decide (0 ≤ x8_1) = true := decide_eq_true c18
    clear c18
    (first | rw [c18b0] | (simp only [i64_w, i32_w]; rw [c18b0]) | skip)
    by_cases c19 : (rd t421 x8_1) < 0
    ·rw [if_pos c19] at H
     have c19b0 : decide ((rd t421 x8_1) < 0) = true := decide_eq_true c19
     clear c19
     have H' := Aside0.mk H
     clear H
     have p427 : 0 ≤ (x8_1 : Int) := of_decide_eq_true (by first | (with_reducible assumption) | assumption)
     have q427 : x8_1 < (t421.length : Int) := of_decide_eq_true (by first | (with_reducible assumption) | assumption)
     obtain ⟨ad427, e427, hx427_0⟩ := Kd.at_int (Kd.R_reads' HO_6.out).2.2 x8_1 p427 q427
     cases e427
     replace p427 := eq_true p427
     replace q427 := eq_true q427
     go_wp2
     go_meet
     case rel => exact ⟨_, (true), (by first | rfl | (simp; done) | (simp [*]; done)), H', ⟨by have := HK1.out; first | omega | exact Nat.le_refl _⟩, ⟨by (with_reducible repeat (first | apply Kd.S_alloc | apply Kd.S_drewN | apply Kd.S_drew)); exact HO_4.out⟩, ⟨by (with_reducible repeat (first | apply Kd.R_alloc | apply Kd.R_drewN | apply Kd.R_drew)); exact HO_6.out⟩, ⟨by (with_reducible repeat (first | apply Kd.R_alloc | apply Kd.R_drewN | apply Kd.R_drew)); exact HO_7.out⟩, ⟨Ky_ HB⟩⟩
    rw [if_neg c19] at H
    have c19b0 : decide ((rd t421 x8_1) < 0) = false := decide_eq_false c19
    clear c19
    by_cases c20 : (rd t421 x8_1) ≥ (t415.length : Int)
    ·rw [if_pos c20] at H
     have c20b0 : decide ((t415.length : Int) ≤ (rd t421 x8_1)) = true := decide_eq_true c20
     clear c20
     have H' := Aside0.mk H
     clear H
     have p427 : 0 ≤ (x8_1 : Int) := of_decide_eq_true (by first | (with_reducible assumption) | assumption)
     have q427 : x8_1 < (t421.length : Int) := of_decide_eq_true (by first | (with_reducible assumption) | assumption)
     obtain ⟨ad427, e427, hx427_0⟩ := Kd.at_int (Kd.R_reads' HO_6.out).2.2 x8_1 p427 q427
     cases e427
     replace p427 := eq_true p427
     replace q427 := eq_true q427
     have p428 : 0 ≤ (x8_1 : Int) := of_decide_eq_true (by first | (with_reducible assumption) | assumption)
     have q428 : x8_1 < (t421.length : Int) := of_decide_eq_true (by first | (with_reducible assumption) | assumption)
     obtain ⟨ad428, e428, hx428_0⟩ := Kd.at_int (Kd.R_reads' HO_6.out).2.2 x8_1 p428 q428
     obtain rfl : ad427 = ad428 := (by injection e428)
     replace p428 := eq_true p428
     replace q428 := eq_true q428
     go_wp2
     go_meet
     case rel => exact ⟨_, (true), (by first | rfl | (simp; done) | (simp [*]; done)), H', ⟨by have := HK1.out; first | omega | exact Nat.le_refl _⟩, ⟨by (with_reducible repeat (first | apply Kd.S_alloc | apply Kd.S_drewN | apply Kd.S_drew)); exact HO_4.out⟩, ⟨by (with_reducible repeat (first | apply Kd.R_alloc | apply Kd.R_drewN | apply Kd.R_drew)); exact HO_6.out⟩, ⟨by (with_reducible repeat (first | apply Kd.R_alloc | apply Kd.R_drewN | apply Kd.R_drew)); exact HO_7.out⟩, ⟨Ky_ HB⟩⟩
    rw [if_neg c20] at H
    have c20b0 : decide ((t415.length : Int) ≤ (rd t421 x8_1)) = false := decide_eq_false c20
    clear c20
    by_cases c21 : 0 ≤ (rd t421 x8_1)
    rotate_left
    ·rw [if_neg c21] at H
     exact absurd H (by simp)
    rw [if_pos c21] at H
    have c21b0 : decide (0 ≤ (rd t421 x8_1)) = true := decide_eq_true c21
    clear c21
    by_cases c22 : (rd t421 x8_1) < (x7_1.length : Int)
    rotate_left
    ·rw [if_neg c22] at H
     exact absurd H (by simp)
    rw [if_pos c22] at H
    have c22b0 : decide ((rd t421 x8_1) < (x7_1.length : Int)) = true := decide_eq_true c22
    clear c22
    have H' := Aside0.mk H
    clear H
    have p427 : 0 ≤ (x8_1 : Int) := of_decide_eq_true (by first | (with_reducible assumption) | assumption)
    have q427 : x8_1 < (t421.length : Int) := of_decide_eq_true (by first | (with_reducible assumption) | assumption)
    obtain ⟨ad427, e427, hx427_0⟩ := Kd.at_int (Kd.R_reads' HO_6.out).2.2 x8_1 p427 q427
    cases e427
    replace p427 := eq_true p427
    replace q427 := eq_true q427
    have p428 : 0 ≤ (x8_1 : Int) := of_decide_eq_true (by first | (with_reducible assumption) | assumption)
    have q428 : x8_1 < (t421.length : Int) := of_decide_eq_true (by first | (with_reducible assumption) | assumption)
    obtain ⟨ad428, e428, hx428_0⟩ := Kd.at_int (Kd.R_reads' HO_6.out).2.2 x8_1 p428 q428
    obtain rfl : ad427 = ad428 := (by injection e428)
    replace p428 := eq_true p428
    replace q428 := eq_true q428
    have p429 : 0 ≤ (x8_1 : Int) := of_decide_eq_true (by first | (with_reducible assumption) | assumption)
    have q429 : x8_1 < (t421.length : Int) := of_decide_eq_true (by first | (with_reducible assumption) | assumption)
    obtain ⟨ad429, e429, hx429_0⟩ := Kd.at_int (Kd.R_reads' HO_6.out).2.2 x8_1 p429 q429
    obtain rfl : ad427 = ad429 := (by injection e429)
    replace p429 := eq_true p429
    replace q429 := eq_true q429
    obtain ⟨Ao23, co23, eo23⟩ := Kd.R_slice HO_7.out
    subst eo23
    have p430 : 0 ≤ ((rd t421 x8_1) : Int) := of_decide_eq_true (by first | (with_reducible assumption) | assumption)
    have q430 : (rd t421 x8_1) < (x7_1.length : Int) := of_decide_eq_true (by first | (with_reducible assumption) | assumption)
    obtain ⟨ad430, e430, hx430_0⟩ := Kd.at_bool (Kd.R_reads' HO_7.out).2.2 (rd t421 x8_1) p430 q430
    cases e430
    replace p430 := eq_true p430
    replace q430 := eq_true q430
    go_wp2
    go_meet
    case rel => exact ⟨_, (rdOf false x7_1 (rd t421 x8_1)), (by first | rfl | (simp; done) | (simp [*]; done)), H', ⟨by have := HK1.out; first | omega | exact Nat.le_refl _⟩, ⟨by (with_reducible repeat (first | apply Kd.S_alloc | apply Kd.S_drewN | apply Kd.S_drew)); exact HO_4.out⟩, ⟨by (with_reducible repeat (first | apply Kd.R_alloc | apply Kd.R_drewN | apply Kd.R_drew)); exact HO_6.out⟩, ⟨by (with_reducible repeat (first | apply Kd.R_alloc | apply Kd.R_drewN | apply Kd.R_drew)); exact HO_7.out⟩, ⟨Ky_ HB⟩⟩
   case rest =>
    clear HC17
    try clear c1
    try clear c2
    try clear p2
    try clear c3
    try clear p4
    try clear q4
    try clear hx4
    try clear c5
    try clear c6
    try clear c6b0
    try clear c6b1
    try clear c6b2
    try clear c7
    try clear c7b0
    try clear c7b1
    try clear c8
    try clear c8b0
    try clear c8b1
    try clear c10
    try clear c11
    try clear c16
    try clear c16b0
    try clear c18
    try clear c18b0
    try clear c19
    try clear c19b0
    try clear c20
    try clear c20b0
    try clear c21
    try clear c21b0
    try clear c22
    try clear c22b0
    try clear hx427_0
    try clear hx428_0
    try clear hx429_0
    try clear hx430_0
    try clear p2
    try clear p427
    try clear p428
    try clear p429
    try clear p430
    try clear q427
    try clear q428
    try clear q429
    try clear q430
    obtain ⟨kq, x56_16, rfl, HA, HJ16, HO_4, HO_6, HO_7, HB⟩ := hcut
    cases kq with
    | zero => exact absurd HA.out (by simp [tenementlaw22_JudgeOrders.j1])
    | succ kj16 =>
     have H := HA.out
     clear HA
     simp only [tenementlaw22_JudgeOrders.j1] at H
     by_cases c24 : x56_16 = true
     ·subst c24
      have H1 : (none) = some r := by rw [if_pos rfl] at H; exact H
      clear H
      have H := H1
      clear H1
      exact absurd H (by simp)
     replace c24 := Bool.eq_false_iff.mpr c24
     subst c24
     have H1 : (if 0 ≤ x8_1 then (if x8_1 < (t421.length : Int) then (if 0 ≤ (rd t421 x8_1) then (if (rd t421 x8_1) < (x7_1.length : Int) then ((some (x7_1.set ((rd t421 x8_1) : Int).toNat true : List Bool)).bind fun y432 => (if x8_1 > 0 then (if 0 ≤ (wrap64 (x8_1 - 1)) then (if (wrap64 (x8_1 - 1)) < (t421.length : Int) then (if 0 ≤ (rd t421 (wrap64 (x8_1 - 1))) then (if (rd t421 (wrap64 (x8_1 - 1))) < (t415.length : Int) then (if (rd t421 x8_1) < (t415.length : Int) then ((stamp_Order.f kj16 ((rd_T64 t415 (rd t421 (wrap64 (x8_1 - 1)))).f0.f0.f0) ((rd_T64 t415 (rd t421 (wrap64 (x8_1 - 1)))).f0.f0.f1) ((rd_T64 t415 (rd t421 (wrap64 (x8_1 - 1)))).f0.f0.f2) ((rd_T64 t415 (rd t421 (wrap64 (x8_1 - 1)))).f0.f0.f3) ((rd_T64 t415 (rd t421 (wrap64 (x8_1 - 1)))).f0.f1) ((rd_T64 t415 (rd t421 x8_1)).f0.f0.f0) ((rd_T64 t415 (rd t421 x8_1)).f0.f0.f1) ((rd_T64 t415 (rd t421 x8_1)).f0.f0.f2) ((rd_T64 t415 (rd t421 x8_1)).f0.f0.f3) ((rd_T64 t415 (rd t421 x8_1)).f0.f1)).bind fun t437 => (if t437 > 0 then (none) else (if t437 = 0 then (if (rd t421 (wrap64 (x8_1 - 1))) > (rd t421 x8_1) then (none) else (tenementlaw22_JudgeOrders.l0 kj16 true t415 t421 y432 (wrap64 (x8_1 + 1)))) else (tenementlaw22_JudgeOrders.l0 kj16 true t415 t421 y432 (wrap64 (x8_1 + 1)))))) else (none)) else (none)) else (none)) else (none)) else (none)) else (tenementlaw22_JudgeOrders.l0 kj16 true t415 t421 y432 (wrap64 (x8_1 + 1))))) else (none)) else (none)) else (none)) else (none)) = some r := by rw [if_neg (show ¬ (false = true) by decide)] at H; exact H
     clear H
     have H := H1
     clear H1
     by_cases c25 : 0 ≤ x8_1
     rotate_left
     ·rw [if_neg c25] at H
      exact absurd H (by simp)
     rw [if_pos c25] at H
     have c25b0 : decide (0 ≤ x8_1) = true := decide_eq_true c25
     clear c25
     by_cases c26 : x8_1 < (t421.length : Int)
     rotate_left
     ·rw [if_neg c26] at H
      exact absurd H (by simp)
     rw [if_pos c26] at H
     have c26b0 : decide (x8_1 < (t421.length : Int)) = true := decide_eq_true c26
     clear c26
     by_cases c27 : 0 ≤ (rd t421 x8_1)
     rotate_left
     ·rw [if_neg c27] at H
      exact absurd H (by simp)
     rw [if_pos c27] at H
     have c27b0 : decide (0 ≤ (rd t421 x8_1)) = true := decide_eq_true c27
     clear c27
     by_cases c28 : (rd t421 x8_1) < (x7_1.length : Int)
     rotate_left
     ·rw [if_neg c28] at H
      exact absurd H (by simp)
     rw [if_pos c28] at H
     have c28b0 : decide ((rd t421 x8_1) < (x7_1.length : Int)) = true := decide_eq_true c28
     clear c28
     obtain ⟨y432, hy432⟩ : ∃ y_ : List Bool, y_ = (x7_1.set ((rd t421 x8_1) : Int).toNat true) := ⟨_, rfl⟩
     replace H : (if x8_1 > 0 then (if 0 ≤ (wrap64 (x8_1 - 1)) then (if (wrap64 (x8_1 - 1)) < (t421.length : Int) then (if 0 ≤ (rd t421 (wrap64 (x8_1 - 1))) then (if (rd t421 (wrap64 (x8_1 - 1))) < (t415.length : Int) then (if (rd t421 x8_1) < (t415.length : Int) then ((stamp_Order.f kj16 ((rd_T64 t415 (rd t421 (wrap64 (x8_1 - 1)))).f0.f0.f0) ((rd_T64 t415 (rd t421 (wrap64 (x8_1 - 1)))).f0.f0.f1) ((rd_T64 t415 (rd t421 (wrap64 (x8_1 - 1)))).f0.f0.f2) ((rd_T64 t415 (rd t421 (wrap64 (x8_1 - 1)))).f0.f0.f3) ((rd_T64 t415 (rd t421 (wrap64 (x8_1 - 1)))).f0.f1) ((rd_T64 t415 (rd t421 x8_1)).f0.f0.f0) ((rd_T64 t415 (rd t421 x8_1)).f0.f0.f1) ((rd_T64 t415 (rd t421 x8_1)).f0.f0.f2) ((rd_T64 t415 (rd t421 x8_1)).f0.f0.f3) ((rd_T64 t415 (rd t421 x8_1)).f0.f1)).bind fun t437 => (if t437 > 0 then (none) else (if t437 = 0 then (if (rd t421 (wrap64 (x8_1 - 1))) > (rd t421 x8_1) then (none) else (tenementlaw22_JudgeOrders.l0 kj16 true t415 t421 y432 (wrap64 (x8_1 + 1)))) else (tenementlaw22_JudgeOrders.l0 kj16 true t415 t421 y432 (wrap64 (x8_1 + 1)))))) else (none)) else (none)) else (none)) else (none)) else (none)) else (tenementlaw22_JudgeOrders.l0 kj16 true t415 t421 y432 (wrap64 (x8_1 + 1)))) = some r := by first | (rw [hy432]; with_reducible exact H) | (have H2_ := (Option.bind_some _ _).symm.trans H; rw [hy432]; with_reducible exact H2_) | (have H2_ := (Option.bind_some _ _).symm.trans H; with_reducible exact H2_) | with_reducible exact H | (rw [hy432]; exact H) | exact H
     have Ny432 := Aside0.mk hy432
     clear hy432
     by_cases c30 : x8_1 > 0
     rotate_left
     ·rw [if_neg c30] at H
      have c30b0 : decide (0 < x8_1) = false := decide_eq_false c30
      clear c30
      have H' := Aside0.mk H
      clear H
      have p431 : 0 ≤ (x8_1 : Int) := of_decide_eq_true (by first | (with_reducible assumption) | assumption)
      have q431 : x8_1 < (t421.length : Int) := of_decide_eq_true (by first | (with_reducible assumption) | assumption)
      obtain ⟨ad431, e431, hx431_0⟩ := Kd.at_int (Kd.R_reads' HO_6.out).2.2 x8_1 p431 q431
      cases e431
      replace p431 := eq_true p431
      replace q431 := eq_true q431
      have p29 : 0 ≤ ((rd t421 x8_1) : Int) := of_decide_eq_true (by first | (with_reducible assumption) | assumption)
      have q29 : ((rd t421 x8_1) : Int) < ((x7_1.length : Int) : Int) := of_decide_eq_true (by first | (with_reducible assumption) | assumption)
      obtain ⟨go29, co29, eo29, gb29, gl29, cl29, HG29⟩ := Kd.R_form HO_7.out (by omega)
      (first | cases eo29 | (injection eo29 with ea_ en_ ec_; (first | subst ea_ | (injection ea_ with ea_; subst ea_)); subst ec_; clear en_))
      have GB29 := Aside0.mk gb29
      have GG29 := Aside0.mk HG29
      clear gb29 gl29 HG29
      obtain ⟨hx29_0, hf29_0⟩ := Kd.R_celln false HO_7.out ((rd t421 x8_1) : Int) p29 q29
      replace p29 := eq_true p29
      replace q29 := eq_true q29
      have HP51 := Kd.R_putg HO_7.out ((rd t421 x8_1) : Int) true
      go_wp2_with (first | ((with_reducible refine gate_store (t := 4) (p := 62) rfl ?_); refine store_event (t := 4) (p := 62) (v := ?vo_w52) (w1 := (wc.setCell ⟨go29, ((rd t421 x8_1) : Int).toNat, none⟩ (.bool true))) ?hg ?ho ?hn ?hr ?_; (case ho => rfl); (case hg => rfl); (case hn => rfl); (case hr => first | (go_simp; done) | (go_simp; rfl)); intro w52 hw; have hg : wc.grownBy w52 (some go29) := (by rw [hw]; exact HP51.2); have hp_ : Kd.R Kd.bool 4 w52 w.heap.size (fun _ => True) (.slice (some ⟨go29, 0, none⟩) x7_1.length co29) y432 := (by rw [hw, Ny432.out]; exact HP51.1); clear HP51; replace HO_4 := Aside0.mk (Kd.S_over' (v := (.slice (some ⟨go29, 0, none⟩) x7_1.length co29)) (by (with_reducible repeat (first | apply Kd.S_alloc | apply Kd.S_drewN | apply Kd.S_drew)); exact HO_4.out) (Kd.R_typed HO_7.out) (by decide) hg); replace HO_6 := Aside0.mk (Kd.R_over' (v := (.slice (some ⟨go29, 0, none⟩) x7_1.length co29)) (Ku_ HO_6) (Kd.R_typed HO_7.out) (by decide) hg); replace HO_7 := Aside0.mk (hp_); replace HB := Aside0.mk ((by rw [hw]; exact below_set (HB.out) GB29.out : Below w.heap.size w w52)); clear hg hw hp_))
      go_roundg kj16
      case measure => have := HK1.out; have := HJ16.out; omega
      case rel => exact ⟨(y432), (wrap64 (x8_1 + 1)), (by first | rfl | (simp; done) | (simp [*]; done)), H', ⟨by have := HK1.out; have := HJ16.out; omega⟩, ⟨by (with_reducible repeat (first | apply Kd.S_alloc | apply Kd.S_drewN | apply Kd.S_drew)); exact HO_4.out⟩, ⟨by (with_reducible repeat (first | apply Kd.R_alloc | apply Kd.R_drewN | apply Kd.R_drew)); exact HO_6.out⟩, ⟨by (with_reducible repeat (first | apply Kd.R_alloc | apply Kd.R_drewN | apply Kd.R_drew)); exact HO_7.out⟩, ⟨Ky_ HB⟩⟩
     rw [if_pos c30] at H
     have c30b0 : decide (0 < x8_1) = true := decide_eq_true c30
     clear c30
     obtain ⟨ji31, hji31⟩ : ∃ j_ : Int, (wrap64 (x8_1 - 1)) = j_ := ⟨_, rfl⟩
     replace H : (if 0 ≤ (ji31) then (if (ji31) < (t421.length : Int) then (if 0 ≤ (rd t421 (ji31)) then (if (rd t421 (ji31)) < (t415.length : Int) then (if (rd t421 x8_1) < (t415.length : Int) then ((stamp_Order.f kj16 ((rd_T64 t415 (rd t421 (ji31))).f0.f0.f0) ((rd_T64 t415 (rd t421 (ji31))).f0.f0.f1) ((rd_T64 t415 (rd t421 (ji31))).f0.f0.f2) ((rd_T64 t415 (rd t421 (ji31))).f0.f0.f3) ((rd_T64 t415 (rd t421 (ji31))).f0.f1) ((rd_T64 t415 (rd t421 x8_1)).f0.f0.f0) ((rd_T64 t415 (rd t421 x8_1)).f0.f0.f1) ((rd_T64 t415 (rd t421 x8_1)).f0.f0.f2) ((rd_T64 t415 (rd t421 x8_1)).f0.f0.f3) ((rd_T64 t415 (rd t421 x8_1)).f0.f1)).bind fun t437 => (if t437 > 0 then (none) else (if t437 = 0 then (if (rd t421 (ji31)) > (rd t421 x8_1) then (none) else (tenementlaw22_JudgeOrders.l0 kj16 true t415 t421 y432 (wrap64 (x8_1 + 1)))) else (tenementlaw22_JudgeOrders.l0 kj16 true t415 t421 y432 (wrap64 (x8_1 + 1)))))) else (none)) else (none)) else (none)) else (none)) else (none)) = some r := by first | (rw [hji31] at H; exact H) | (simp only [hji31] at H ⊢; exact H)
     have hji31w : (IntKind.i64.wrap (x8_1 - 1)) = ji31 := (i64_w _).trans hji31
     by_cases c32 : 0 ≤ (ji31)
     rotate_left
     ·rw [if_neg c32] at H
      exact absurd H (by simp)
     rw [if_pos c32] at H
     have c32b0 : decide (0 ≤ (ji31)) = true := decide_eq_true c32
     clear c32
     by_cases c33 : (ji31) < (t421.length : Int)
     rotate_left
     ·rw [if_neg c33] at H
      exact absurd H (by simp)
     rw [if_pos c33] at H
     have c33b0 : decide ((ji31) < (t421.length : Int)) = true := decide_eq_true c33
     clear c33
     by_cases c34 : 0 ≤ (rd t421 (ji31))
     rotate_left
     ·rw [if_neg c34] at H
      exact absurd H (by simp)
     rw [if_pos c34] at H
     have c34b0 : decide (0 ≤ (rd t421 (ji31))) = true := decide_eq_true c34
     clear c34
     by_cases c35 : (rd t421 (ji31)) < (t415.length : Int)
     rotate_left
     ·rw [if_neg c35] at H
      exact absurd H (by simp)
     rw [if_pos c35] at H
     have c35b0 : decide ((rd t421 (ji31)) < (t415.length : Int)) = true := decide_eq_true c35
     clear c35
     by_cases c36 : (rd t421 x8_1) < (t415.length : Int)
     rotate_left
     ·rw [if_neg c36] at H
      exact absurd H (by simp)
     rw [if_pos c36] at H
     have c36b0 : decide ((rd t421 x8_1) < (t415.length : Int)) = true := decide_eq_true c36
     clear c36
     replace H := Option.bind_eq_some_iff.mp H
     obtain ⟨t437, A370, H⟩ := H
     replace H : (if t437 > 0 then (none) else (if t437 = 0 then (if (rd t421 (ji31)) > (rd t421 x8_1) then (none) else (tenementlaw22_JudgeOrders.l0 kj16 true t415 t421 y432 (wrap64 (x8_1 + 1)))) else (tenementlaw22_JudgeOrders.l0 kj16 true t415 t421 y432 (wrap64 (x8_1 + 1))))) = some r := H
     have A37 := Aside0.mk A370
     clear A370
     by_cases c38 : t437 > 0
     ·rw [if_pos c38] at H
      exact absurd H (by simp)
     rw [if_neg c38] at H
     have c38b0 : decide (0 < t437) = false := decide_eq_false c38
     clear c38
     by_cases c39 : t437 = 0
     rotate_left
     ·rw [if_neg c39] at H
      have c39b0 : (t437 == 0) = false := beq_eq_false_iff_ne.mpr c39
      have c39b1 : (t437 != 0) = true := bne_iff_ne.mpr c39
      have H' := Aside0.mk H
      clear H
      have p431 : 0 ≤ (x8_1 : Int) := of_decide_eq_true (by first | (with_reducible assumption) | assumption)
      have q431 : x8_1 < (t421.length : Int) := of_decide_eq_true (by first | (with_reducible assumption) | assumption)
      obtain ⟨ad431, e431, hx431_0⟩ := Kd.at_int (Kd.R_reads' HO_6.out).2.2 x8_1 p431 q431
      cases e431
      replace p431 := eq_true p431
      replace q431 := eq_true q431
      have p29 : 0 ≤ ((rd t421 x8_1) : Int) := of_decide_eq_true (by first | (with_reducible assumption) | assumption)
      have q29 : ((rd t421 x8_1) : Int) < ((x7_1.length : Int) : Int) := of_decide_eq_true (by first | (with_reducible assumption) | assumption)
      obtain ⟨go29, co29, eo29, gb29, gl29, cl29, HG29⟩ := Kd.R_form HO_7.out (by omega)
      (first | cases eo29 | (injection eo29 with ea_ en_ ec_; (first | subst ea_ | (injection ea_ with ea_; subst ea_)); subst ec_; clear en_))
      have GB29 := Aside0.mk gb29
      have GG29 := Aside0.mk HG29
      clear gb29 gl29 HG29
      obtain ⟨hx29_0, hf29_0⟩ := Kd.R_celln false HO_7.out ((rd t421 x8_1) : Int) p29 q29
      replace p29 := eq_true p29
      replace q29 := eq_true q29
      have HP46 := Kd.R_putg HO_7.out ((rd t421 x8_1) : Int) true
      try go_wp2_with (first | ((with_reducible refine gate_store (t := 4) (p := 62) rfl ?_); refine store_event (t := 4) (p := 62) (v := ?vo_w47) (w1 := (wc.setCell ⟨go29, ((rd t421 x8_1) : Int).toNat, none⟩ (.bool true))) ?hg ?ho ?hn ?hr ?_; (case ho => rfl); (case hg => rfl); (case hn => rfl); (case hr => first | (go_simp; done) | (go_simp; rfl)); intro w47 hw; have hg : wc.grownBy w47 (some go29) := (by rw [hw]; exact HP46.2); have hp_ : Kd.R Kd.bool 4 w47 w.heap.size (fun _ => True) (.slice (some ⟨go29, 0, none⟩) x7_1.length co29) y432 := (by rw [hw, Ny432.out]; exact HP46.1); clear HP46; replace HO_4 := Aside0.mk (Kd.S_over' (v := (.slice (some ⟨go29, 0, none⟩) x7_1.length co29)) (by (with_reducible repeat (first | apply Kd.S_alloc | apply Kd.S_drewN | apply Kd.S_drew)); exact HO_4.out) (Kd.R_typed HO_7.out) (by decide) hg); replace HO_6 := Aside0.mk (Kd.R_over' (v := (.slice (some ⟨go29, 0, none⟩) x7_1.length co29)) (Ku_ HO_6) (Kd.R_typed HO_7.out) (by decide) hg); replace HO_7 := Aside0.mk (hp_); replace HB := Aside0.mk ((by rw [hw]; exact below_set (HB.out) GB29.out : Below w.heap.size w w47)); clear hg hw hp_))
      replace HO_4 := Aside0.mk (Kd.S_drew HO_4.out)
      replace HO_6 := Aside0.mk (Kd.R_drew HO_6.out)
      replace HO_7 := Aside0.mk (Kd.R_drew HO_7.out)
      replace HB := Aside0.mk (below_drew1 HB.out)
      have p433 : 0 ≤ ((ji31) : Int) := of_decide_eq_true (by first | (with_reducible assumption) | assumption)
      have q433 : (ji31) < (t421.length : Int) := of_decide_eq_true (by first | (with_reducible assumption) | assumption)
      obtain ⟨ad433, e433, hx433_0⟩ := Kd.at_int (Kd.R_reads' HO_6.out).2.2 (ji31) p433 q433
      obtain rfl : ad431 = ad433 := (by injection e433)
      replace p433 := eq_true p433
      replace q433 := eq_true q433
      have p434 : 0 ≤ ((rd t421 (ji31)) : Int) := of_decide_eq_true (by first | (with_reducible assumption) | assumption)
      have q434 : (rd t421 (ji31)) < (t415.length : Int) := of_decide_eq_true (by first | (with_reducible assumption) | assumption)
      obtain ⟨ad434, A434_5, c434_5, e434, hx434_0, hx434_1, hx434_2, hx434_3, hx434_4, hx434_5, hl434_5, hi434_5⟩ := at_T64 (Kd.S_reads' HO_4.out).2.2 (rd t421 (ji31)) p434 q434
      cases e434
      obtain ⟨ce434, hce434, hMe434, hcc434⟩ := Kd.S_get HO_4.out z64 (rd t421 (ji31)) p434 (by first | exact q434 | exact of_decide_eq_true (by first | (with_reducible assumption) | assumption) | (have e_ := (Kd.S_reads' HO_4.out).1; omega))
      obtain ⟨ve434_5, rfl, ge434_5⟩ := k64_openM hMe434
      have hv434_5 := hcc434 5 _ rfl
      rw [add_field _ _ 5 (by omega)] at hv434_5
      replace hv434_5 := Option.some.inj (hv434_5.symm.trans hx434_5)
      rw [hv434_5] at ge434_5
      have HL434_5 := Aside0.mk (show Kd.R k24 24 _ _ _ _ ((rd_T64 t415 (rd t421 (ji31))).f1) from ge434_5)
      clear hv434_5 ge434_5
      clear hcc434 hce434
      have HR434_5 := Aside0.mk hi434_5
      have HC434_5 := Aside0.mk hl434_5
      clear hi434_5 hl434_5
      replace p434 := eq_true p434
      replace q434 := eq_true q434
      have p435 : 0 ≤ (x8_1 : Int) := of_decide_eq_true (by first | (with_reducible assumption) | assumption)
      have q435 : x8_1 < (t421.length : Int) := of_decide_eq_true (by first | (with_reducible assumption) | assumption)
      obtain ⟨ad435, e435, hx435_0⟩ := Kd.at_int (Kd.R_reads' HO_6.out).2.2 x8_1 p435 q435
      obtain rfl : ad431 = ad435 := (by injection e435)
      replace p435 := eq_true p435
      replace q435 := eq_true q435
      have p436 : 0 ≤ ((rd t421 x8_1) : Int) := of_decide_eq_true (by first | (with_reducible assumption) | assumption)
      have q436 : (rd t421 x8_1) < (t415.length : Int) := of_decide_eq_true (by first | (with_reducible assumption) | assumption)
      obtain ⟨ad436, A436_5, c436_5, e436, hx436_0, hx436_1, hx436_2, hx436_3, hx436_4, hx436_5, hl436_5, hi436_5⟩ := at_T64 (Kd.S_reads' HO_4.out).2.2 (rd t421 x8_1) p436 q436
      obtain rfl : ad434 = ad436 := (by injection e436)
      obtain ⟨ce436, hce436, hMe436, hcc436⟩ := Kd.S_get HO_4.out z64 (rd t421 x8_1) p436 (by first | exact q436 | exact of_decide_eq_true (by first | (with_reducible assumption) | assumption) | (have e_ := (Kd.S_reads' HO_4.out).1; omega))
      obtain ⟨ve436_5, rfl, ge436_5⟩ := k64_openM hMe436
      have hv436_5 := hcc436 5 _ rfl
      rw [add_field _ _ 5 (by omega)] at hv436_5
      replace hv436_5 := Option.some.inj (hv436_5.symm.trans hx436_5)
      rw [hv436_5] at ge436_5
      have HL436_5 := Aside0.mk (show Kd.R k24 24 _ _ _ _ ((rd_T64 t415 (rd t421 x8_1)).f1) from ge436_5)
      clear hv436_5 ge436_5
      clear hcc436 hce436
      have HR436_5 := Aside0.mk hi436_5
      have HC436_5 := Aside0.mk hl436_5
      clear hi436_5 hl436_5
      replace p436 := eq_true p436
      replace q436 := eq_true q436
      refine start_ (n := 19) (S := fun w' => w'.cell? (ad431.add ((ji31)).toNat) = some (.int .i64 (rd t421 (ji31))) ∧ w'.cell? (ad434.add (((rd t421 (ji31))).toNat * 6)) = some (.int .u64 ((rd_T64 t415 (rd t421 (ji31))).f0.f0.f0)) ∧ w'.cell? ⟨(ad434.add (((rd t421 (ji31))).toNat * 6)).block, (ad434.add (((rd t421 (ji31))).toNat * 6)).off + 1, none⟩ = some (.int .u64 ((rd_T64 t415 (rd t421 (ji31))).f0.f0.f1)) ∧ w'.cell? ⟨(ad434.add (((rd t421 (ji31))).toNat * 6)).block, (ad434.add (((rd t421 (ji31))).toNat * 6)).off + 2, none⟩ = some (.int .u64 ((rd_T64 t415 (rd t421 (ji31))).f0.f0.f2)) ∧ w'.cell? ⟨(ad434.add (((rd t421 (ji31))).toNat * 6)).block, (ad434.add (((rd t421 (ji31))).toNat * 6)).off + 3, none⟩ = some (.int .u64 ((rd_T64 t415 (rd t421 (ji31))).f0.f0.f3)) ∧ w'.cell? ⟨(ad434.add (((rd t421 (ji31))).toNat * 6)).block, (ad434.add (((rd t421 (ji31))).toNat * 6)).off + 4, none⟩ = some (.int .i64 ((rd_T64 t415 (rd t421 (ji31))).f0.f1)) ∧ w'.cell? ⟨(ad434.add (((rd t421 (ji31))).toNat * 6)).block, (ad434.add (((rd t421 (ji31))).toNat * 6)).off + 5, none⟩ = some (.slice A434_5 ((rd_T64 t415 (rd t421 (ji31))).f1).length c434_5) ∧ w'.cell? (ad431.add (x8_1).toNat) = some (.int .i64 (rd t421 x8_1)) ∧ w'.cell? (ad434.add (((rd t421 x8_1)).toNat * 6)) = some (.int .u64 ((rd_T64 t415 (rd t421 x8_1)).f0.f0.f0)) ∧ w'.cell? ⟨(ad434.add (((rd t421 x8_1)).toNat * 6)).block, (ad434.add (((rd t421 x8_1)).toNat * 6)).off + 1, none⟩ = some (.int .u64 ((rd_T64 t415 (rd t421 x8_1)).f0.f0.f1)) ∧ w'.cell? ⟨(ad434.add (((rd t421 x8_1)).toNat * 6)).block, (ad434.add (((rd t421 x8_1)).toNat * 6)).off + 2, none⟩ = some (.int .u64 ((rd_T64 t415 (rd t421 x8_1)).f0.f0.f2)) ∧ w'.cell? ⟨(ad434.add (((rd t421 x8_1)).toNat * 6)).block, (ad434.add (((rd t421 x8_1)).toNat * 6)).off + 3, none⟩ = some (.int .u64 ((rd_T64 t415 (rd t421 x8_1)).f0.f0.f3)) ∧ w'.cell? ⟨(ad434.add (((rd t421 x8_1)).toNat * 6)).block, (ad434.add (((rd t421 x8_1)).toNat * 6)).off + 4, none⟩ = some (.int .i64 ((rd_T64 t415 (rd t421 x8_1)).f0.f1)) ∧ w'.cell? ⟨(ad434.add (((rd t421 x8_1)).toNat * 6)).block, (ad434.add (((rd t421 x8_1)).toNat * 6)).off + 5, none⟩ = some (.slice A436_5 ((rd_T64 t415 (rd t421 x8_1)).f1).length c436_5)) (ds := []) (mB_ 19 0) (by kernel_rfl) rfl rfl ⟨hx433_0, hx434_0, hx434_1, hx434_2, hx434_3, hx434_4, hx434_5, hx435_0, hx436_0, hx436_1, hx436_2, hx436_3, hx436_4, hx436_5⟩ (fun hHeld => ?_); refine with_tabW tenementlaw22_JudgeOrders.tab16 tenementlaw22_JudgeOrders.bits16 (fun HT_ HW_ => ?_)
      generalize w47.drew = w48 at HO_4 HO_6 HO_7 HB HL434_5 HL436_5 HR434_5 HR436_5 hx433_0 hx434_0 hx434_1 hx434_2 hx434_3 hx434_4 hx434_5 hx435_0 hx436_0 hx436_1 hx436_2 hx436_3 hx436_4 hx436_5 hHeld ⊢
      refine Kp_ 0 65 (mB_ 19 1) (any_of HT_.out (by kernel_rfl)) ?_
      refine Kp_ 1 66 (mB_ 19 3) (any_of HT_.out (by kernel_rfl)) ?_
      refine Kp_ 2 67 (mB_ 19 7) (any_of HT_.out (by kernel_rfl)) ?_
      refine Kp_ 3 68 (mB_ 19 15) (any_of HT_.out (by kernel_rfl)) ?_
      refine Kp_ 4 69 (mB_ 19 31) (any_of HT_.out (by kernel_rfl)) ?_
      refine Kp_ 9 74 (mB_ 19 543) (any_of HT_.out (by kernel_rfl)) ?_
      refine Kp_ 10 75 (mB_ 19 1567) (any_of HT_.out (by kernel_rfl)) ?_
      refine Kp_ 11 76 (mB_ 19 3615) (any_of HT_.out (by kernel_rfl)) ?_
      refine Kp_ 12 77 (mB_ 19 7711) (any_of HT_.out (by kernel_rfl)) ?_
      refine Ko_ 5 70 (mB_ 19 7743) (take_ofW HT_.out HW_.out (by kernel_rfl)) hHeld ?_
      refine Kp_ 6 71 (mB_ 19 7807) (any_of HT_.out (by kernel_rfl)) ?_
      refine Kp_ 7 72 (mB_ 19 7935) (any_of HT_.out (by kernel_rfl)) ?_
      refine Ko_ 8 73 (mB_ 19 8191) (take_ofW HT_.out HW_.out (by kernel_rfl)) hHeld ?_
      refine Ko_ 13 78 (mB_ 19 16383) (take_ofW HT_.out HW_.out (by kernel_rfl)) hHeld ?_
      refine Kp_ 14 79 (mB_ 19 32767) (any_of HT_.out (by kernel_rfl)) ?_
      refine Kp_ 15 80 (mB_ 19 65535) (any_of HT_.out (by kernel_rfl)) ?_
      refine Ko_ 16 81 (mB_ 19 131071) (take_ofW HT_.out HW_.out (by kernel_rfl)) hHeld ?_
      refine one_ (i := 17) (N := some 82) (mB_ 19 262143) rfl rfl (one_of HT_.out (by kernel_rfl)) (by decide) (fun K hK => ?_)
      refine goes_ Try.func28 (by kernel_rfl) rfl #[.agg #[.int .u64 ((rd_T64 t415 (rd t421 (ji31))).f0.f0.f0), .int .u64 ((rd_T64 t415 (rd t421 (ji31))).f0.f0.f1), .int .u64 ((rd_T64 t415 (rd t421 (ji31))).f0.f0.f2), .int .u64 ((rd_T64 t415 (rd t421 (ji31))).f0.f0.f3), .int .i64 ((rd_T64 t415 (rd t421 (ji31))).f0.f1)], .agg #[.int .u64 ((rd_T64 t415 (rd t421 x8_1)).f0.f0.f0), .int .u64 ((rd_T64 t415 (rd t421 x8_1)).f0.f0.f1), .int .u64 ((rd_T64 t415 (rd t421 x8_1)).f0.f0.f2), .int .u64 ((rd_T64 t415 (rd t421 x8_1)).f0.f0.f3), .int .i64 ((rd_T64 t415 (rd t421 x8_1)).f0.f1)]] (by rfl) rfl rfl (by (try simp only [List.map_toArray, List.map_cons, List.map_nil]); first | done | (simp only [hji31]; rfl) | rfl | (simp only [List.length_drop, List.length_take]; rfl)) ?_
      with_reducible refine (stamp_Order.calls kj16 ((rd_T64 t415 (rd t421 (ji31))).f0.f0.f0) ((rd_T64 t415 (rd t421 (ji31))).f0.f0.f1) ((rd_T64 t415 (rd t421 (ji31))).f0.f0.f2) ((rd_T64 t415 (rd t421 (ji31))).f0.f0.f3) ((rd_T64 t415 (rd t421 (ji31))).f0.f1) ((rd_T64 t415 (rd t421 x8_1)).f0.f0.f0) ((rd_T64 t415 (rd t421 x8_1)).f0.f0.f1) ((rd_T64 t415 (rd t421 x8_1)).f0.f0.f2) ((rd_T64 t415 (rd t421 x8_1)).f0.f0.f3) ((rd_T64 t415 (rd t421 x8_1)).f0.f1) t437 _ A37.out).mono ?_
      rintro e w49 ⟨rfl, hb⟩
      have HS0_ := (hb.cell (World.block_lt_of_cell? _ _ (hHeld.1))).trans (hHeld.1)
      have HS1_ := (hb.cell (World.block_lt_of_cell? _ _ (hHeld.2.1))).trans (hHeld.2.1)
      have HS2_ := (hb.cell (World.block_lt_of_cell? _ _ (hHeld.2.2.1))).trans (hHeld.2.2.1)
      have HS3_ := (hb.cell (World.block_lt_of_cell? _ _ (hHeld.2.2.2.1))).trans (hHeld.2.2.2.1)
      have HS4_ := (hb.cell (World.block_lt_of_cell? _ _ (hHeld.2.2.2.2.1))).trans (hHeld.2.2.2.2.1)
      have HS5_ := (hb.cell (World.block_lt_of_cell? _ _ (hHeld.2.2.2.2.2.1))).trans (hHeld.2.2.2.2.2.1)
      have HS6_ := (hb.cell (World.block_lt_of_cell? _ _ (hHeld.2.2.2.2.2.2.1))).trans (hHeld.2.2.2.2.2.2.1)
      have HS7_ := (hb.cell (World.block_lt_of_cell? _ _ (hHeld.2.2.2.2.2.2.2.1))).trans (hHeld.2.2.2.2.2.2.2.1)
      have HS8_ := (hb.cell (World.block_lt_of_cell? _ _ (hHeld.2.2.2.2.2.2.2.2.1))).trans (hHeld.2.2.2.2.2.2.2.2.1)
      have HS9_ := (hb.cell (World.block_lt_of_cell? _ _ (hHeld.2.2.2.2.2.2.2.2.2.1))).trans (hHeld.2.2.2.2.2.2.2.2.2.1)
      have HS10_ := (hb.cell (World.block_lt_of_cell? _ _ (hHeld.2.2.2.2.2.2.2.2.2.2.1))).trans (hHeld.2.2.2.2.2.2.2.2.2.2.1)
      have HS11_ := (hb.cell (World.block_lt_of_cell? _ _ (hHeld.2.2.2.2.2.2.2.2.2.2.2.1))).trans (hHeld.2.2.2.2.2.2.2.2.2.2.2.1)
      have HS12_ := (hb.cell (World.block_lt_of_cell? _ _ (hHeld.2.2.2.2.2.2.2.2.2.2.2.2.1))).trans (hHeld.2.2.2.2.2.2.2.2.2.2.2.2.1)
      have HS13_ := (hb.cell (World.block_lt_of_cell? _ _ (hHeld.2.2.2.2.2.2.2.2.2.2.2.2.2))).trans (hHeld.2.2.2.2.2.2.2.2.2.2.2.2.2)
      refine ⟨_, rfl, ?_⟩
      replace HO_4 := Aside0.mk (Kd.S_below (by (with_reducible repeat (first | apply Kd.S_alloc | apply Kd.S_drewN | apply Kd.S_drew)); exact HO_4.out) hb)
      replace HO_6 := Aside0.mk (Kd.R_below (Ku_ HO_6) hb)
      replace HO_7 := Aside0.mk (Kd.R_below (Ku_ HO_7) hb)
      replace HL434_5 := Aside0.mk (Kd.R_below (Ku_ HL434_5) hb)
      replace HL436_5 := Aside0.mk (Kd.R_below (Ku_ HL436_5) hb)
      replace HR434_5 := Aside0.mk (Kd.C_below (by repeat (first | (with_reducible exact HR434_5.out) | (with_reducible refine Kd.C_alloc ?_ _) | (with_reducible refine Kd.C_drewN ?_ _) | (with_reducible refine Kd.C_drew ?_) | exact HR434_5.out)) hb)
      replace HR436_5 := Aside0.mk (Kd.C_below (by repeat (first | (with_reducible exact HR436_5.out) | (with_reducible refine Kd.C_alloc ?_ _) | (with_reducible refine Kd.C_drewN ?_ _) | (with_reducible refine Kd.C_drew ?_) | exact HR436_5.out)) hb)
      replace HB := Ks_ HB hb
      (try clear hb)
      (try clear hb2)
      (try clear hk)
      (try clear hi)
      refine hK.out _ _ ⟨HS0_, HS1_, HS2_, HS3_, HS4_, HS5_, HS6_, HS7_, HS8_, HS9_, HS10_, HS11_, HS12_, HS13_⟩ (fun hHeld => ?_)
      clear hK K
      refine Kn_ 82 ?_
      refine Kp_ 18 9 (mB_ 19 524287) (any_of HT_.out (by kernel_rfl)) ?_
      refine done_ (done_of HT_.out (by kernel_rfl)) ?_
      try go_wp2
      replace HO_4 := Aside0.mk (Kd.S_drew HO_4.out)
      replace HO_6 := Aside0.mk (Kd.R_drew HO_6.out)
      replace HO_7 := Aside0.mk (Kd.R_drew HO_7.out)
      replace HL434_5 := Aside0.mk (Kd.R_drew HL434_5.out)
      replace HL436_5 := Aside0.mk (Kd.R_drew HL436_5.out)
      replace HR434_5 := Aside0.mk (Kd.C_drew HR434_5.out)
      replace HR436_5 := Aside0.mk (Kd.C_drew HR436_5.out)
      replace HB := Aside0.mk (below_drew1 HB.out)
      refine start_ (n := 18) (S := fun w' => True) (ds := []) (mB_ 18 0) (by kernel_rfl) rfl rfl trivial (fun hHeld => ?_); refine with_tabW tenementlaw22_JudgeOrders.tab17 tenementlaw22_JudgeOrders.bits17 (fun HT_ HW_ => ?_)
      generalize w49.drew = w50 at HO_4 HO_6 HO_7 HL434_5 HL436_5 HR434_5 HR436_5 HB hHeld ⊢
      refine Kp_ 0 83 (mB_ 18 1) (any_of HT_.out (by kernel_rfl)) ?_
      refine Kp_ 1 84 (mB_ 18 3) (any_of HT_.out (by kernel_rfl)) ?_
      refine Kp_ 2 85 (mB_ 18 7) (any_of HT_.out (by kernel_rfl)) ?_
      refine Kp_ 3 86 (mB_ 18 15) (any_of HT_.out (by kernel_rfl)) ?_
      refine Kp_ 4 87 (mB_ 18 31) (any_of HT_.out (by kernel_rfl)) ?_
      refine Kp_ 5 88 (mB_ 18 63) (any_of HT_.out (by kernel_rfl)) ?_
      refine pure_ (i := 6) (N := some 89) (v := undef) (a' := ?_) (mB_ 18 127) rfl rfl (any_of HT_.out (by kernel_rfl)) (fun _ _ _ h => h) (Or.inr ⟨by rfl, rfl⟩) ?_ ?_
      rotate_left
      ·simp only [Act.put, List.setIfInBounds_toArray, List.set_cons_zero, List.set_cons_succ, i64_w, i32_w]
       rfl
      refine pure_ (i := 7) (N := some 90) (v := undef) (a' := ?_) (mB_ 18 255) rfl rfl (any_of HT_.out (by kernel_rfl)) (fun _ _ _ h => h) (Or.inr ⟨by rfl, rfl⟩) ?_ ?_
      rotate_left
      ·simp only [Act.put, List.setIfInBounds_toArray, List.set_cons_zero, List.set_cons_succ, i64_w, i32_w]
       rfl
      refine pure_ (i := 8) (N := some 91) (v := undef) (a' := ?_) (mB_ 18 511) rfl rfl (any_of HT_.out (by kernel_rfl)) (fun _ _ _ h => h) (Or.inr ⟨by rfl, rfl⟩) ?_ ?_
      rotate_left
      ·simp only [Act.put, List.setIfInBounds_toArray, List.set_cons_zero, List.set_cons_succ, i64_w, i32_w]
       rfl
      refine pure_ (i := 9) (N := some 92) (v := undef) (a' := ?_) (mB_ 18 1023) rfl rfl (any_of HT_.out (by kernel_rfl)) (fun _ _ _ h => h) (Or.inr ⟨by rfl, rfl⟩) ?_ ?_
      rotate_left
      ·simp only [Act.put, List.setIfInBounds_toArray, List.set_cons_zero, List.set_cons_succ, i64_w, i32_w]
       rfl
      refine pure_ (i := 10) (N := some 93) (v := undef) (a' := ?_) (mB_ 18 2047) rfl rfl (any_of HT_.out (by kernel_rfl)) (fun _ _ _ h => h) (Or.inr ⟨by rfl, rfl⟩) ?_ ?_
      rotate_left
      ·simp only [Act.put, List.setIfInBounds_toArray, List.set_cons_zero, List.set_cons_succ, i64_w, i32_w]
       rfl
      refine pure_ (i := 11) (N := some 94) (v := undef) (a' := ?_) (mB_ 18 4095) rfl rfl (any_of HT_.out (by kernel_rfl)) (fun _ _ _ h => h) (Or.inr ⟨by rfl, rfl⟩) ?_ ?_
      rotate_left
      ·simp only [Act.put, List.setIfInBounds_toArray, List.set_cons_zero, List.set_cons_succ, i64_w, i32_w]
       rfl
      refine pure_ (i := 12) (N := some 95) (v := undef) (a' := ?_) (mB_ 18 8191) rfl rfl (any_of HT_.out (by kernel_rfl)) (fun _ _ _ h => h) (Or.inr ⟨by rfl, rfl⟩) ?_ ?_
      rotate_left
      ·simp only [Act.put, List.setIfInBounds_toArray, List.set_cons_zero, List.set_cons_succ, i64_w, i32_w]
       rfl
      refine pure_ (i := 13) (N := some 96) (v := undef) (a' := ?_) (mB_ 18 16383) rfl rfl (any_of HT_.out (by kernel_rfl)) (fun _ _ _ h => h) (Or.inr ⟨by rfl, rfl⟩) ?_ ?_
      rotate_left
      ·simp only [Act.put, List.setIfInBounds_toArray, List.set_cons_zero, List.set_cons_succ, i64_w, i32_w]
       rfl
      refine pure_ (i := 14) (N := some 97) (v := undef) (a' := ?_) (mB_ 18 32767) rfl rfl (any_of HT_.out (by kernel_rfl)) (fun _ _ _ h => h) (Or.inr ⟨by rfl, rfl⟩) ?_ ?_
      rotate_left
      ·simp only [Act.put, List.setIfInBounds_toArray, List.set_cons_zero, List.set_cons_succ, i64_w, i32_w]
       rfl
      refine pure_ (i := 15) (N := some 98) (v := undef) (a' := ?_) (mB_ 18 65535) rfl rfl (any_of HT_.out (by kernel_rfl)) (fun _ _ _ h => h) (Or.inr ⟨by rfl, rfl⟩) ?_ ?_
      rotate_left
      ·simp only [Act.put, List.setIfInBounds_toArray, List.set_cons_zero, List.set_cons_succ, i64_w, i32_w]
       rfl
      refine Kp_ 16 99 (mB_ 18 131071) (any_of HT_.out (by kernel_rfl)) ?_
      refine Kp_ 17 100 (mB_ 18 262143) (any_of HT_.out (by kernel_rfl)) ?_
      refine done_ (done_of HT_.out (by kernel_rfl)) ?_
      try go_wp2
      go_roundg kj16
      case measure => have := HK1.out; have := HJ16.out; omega
      case rel => exact ⟨(y432), (wrap64 (x8_1 + 1)), (by first | rfl | (simp; done) | (simp [*]; done)), H', ⟨by have := HK1.out; have := HJ16.out; omega⟩, ⟨by (with_reducible repeat (first | apply Kd.S_alloc | apply Kd.S_drewN | apply Kd.S_drew)); exact HO_4.out⟩, ⟨by (with_reducible repeat (first | apply Kd.R_alloc | apply Kd.R_drewN | apply Kd.R_drew)); exact HO_6.out⟩, ⟨by (with_reducible repeat (first | apply Kd.R_alloc | apply Kd.R_drewN | apply Kd.R_drew)); exact HO_7.out⟩, ⟨Ky_ HB⟩⟩
     rw [if_pos c39] at H
     have c39b0 : (t437 == 0) = true := beq_iff_eq.mpr c39
     have c39b1 : (t437 != 0) = false := bne_eq_false_iff_eq.mpr c39
     clear c39
     by_cases c40 : (rd t421 (ji31)) > (rd t421 x8_1)
     ·rw [if_pos c40] at H
      exact absurd H (by simp)
     rw [if_neg c40] at H
     have c40b0 : decide ((rd t421 x8_1) < (rd t421 (ji31))) = false := decide_eq_false c40
     clear c40
     have H' := Aside0.mk H
     clear H
     have p431 : 0 ≤ (x8_1 : Int) := of_decide_eq_true (by first | (with_reducible assumption) | assumption)
     have q431 : x8_1 < (t421.length : Int) := of_decide_eq_true (by first | (with_reducible assumption) | assumption)
     obtain ⟨ad431, e431, hx431_0⟩ := Kd.at_int (Kd.R_reads' HO_6.out).2.2 x8_1 p431 q431
     cases e431
     replace p431 := eq_true p431
     replace q431 := eq_true q431
     have p29 : 0 ≤ ((rd t421 x8_1) : Int) := of_decide_eq_true (by first | (with_reducible assumption) | assumption)
     have q29 : ((rd t421 x8_1) : Int) < ((x7_1.length : Int) : Int) := of_decide_eq_true (by first | (with_reducible assumption) | assumption)
     obtain ⟨go29, co29, eo29, gb29, gl29, cl29, HG29⟩ := Kd.R_form HO_7.out (by omega)
     (first | cases eo29 | (injection eo29 with ea_ en_ ec_; (first | subst ea_ | (injection ea_ with ea_; subst ea_)); subst ec_; clear en_))
     have GB29 := Aside0.mk gb29
     have GG29 := Aside0.mk HG29
     clear gb29 gl29 HG29
     obtain ⟨hx29_0, hf29_0⟩ := Kd.R_celln false HO_7.out ((rd t421 x8_1) : Int) p29 q29
     replace p29 := eq_true p29
     replace q29 := eq_true q29
     have HP41 := Kd.R_putg HO_7.out ((rd t421 x8_1) : Int) true
     try go_wp2_with (first | ((with_reducible refine gate_store (t := 4) (p := 62) rfl ?_); refine store_event (t := 4) (p := 62) (v := ?vo_w42) (w1 := (wc.setCell ⟨go29, ((rd t421 x8_1) : Int).toNat, none⟩ (.bool true))) ?hg ?ho ?hn ?hr ?_; (case ho => rfl); (case hg => rfl); (case hn => rfl); (case hr => first | (go_simp; done) | (go_simp; rfl)); intro w42 hw; have hg : wc.grownBy w42 (some go29) := (by rw [hw]; exact HP41.2); have hp_ : Kd.R Kd.bool 4 w42 w.heap.size (fun _ => True) (.slice (some ⟨go29, 0, none⟩) x7_1.length co29) y432 := (by rw [hw, Ny432.out]; exact HP41.1); clear HP41; replace HO_4 := Aside0.mk (Kd.S_over' (v := (.slice (some ⟨go29, 0, none⟩) x7_1.length co29)) (by (with_reducible repeat (first | apply Kd.S_alloc | apply Kd.S_drewN | apply Kd.S_drew)); exact HO_4.out) (Kd.R_typed HO_7.out) (by decide) hg); replace HO_6 := Aside0.mk (Kd.R_over' (v := (.slice (some ⟨go29, 0, none⟩) x7_1.length co29)) (Ku_ HO_6) (Kd.R_typed HO_7.out) (by decide) hg); replace HO_7 := Aside0.mk (hp_); replace HB := Aside0.mk ((by rw [hw]; exact below_set (HB.out) GB29.out : Below w.heap.size w w42)); clear hg hw hp_))
     replace HO_4 := Aside0.mk (Kd.S_drew HO_4.out)
     replace HO_6 := Aside0.mk (Kd.R_drew HO_6.out)
     replace HO_7 := Aside0.mk (Kd.R_drew HO_7.out)
     replace HB := Aside0.mk (below_drew1 HB.out)
     have p433 : 0 ≤ ((ji31) : Int) := of_decide_eq_true (by first | (with_reducible assumption) | assumption)
     have q433 : (ji31) < (t421.length : Int) := of_decide_eq_true (by first | (with_reducible assumption) | assumption)
     obtain ⟨ad433, e433, hx433_0⟩ := Kd.at_int (Kd.R_reads' HO_6.out).2.2 (ji31) p433 q433
     obtain rfl : ad431 = ad433 := (by injection e433)
     replace p433 := eq_true p433
     replace q433 := eq_true q433
     have p434 : 0 ≤ ((rd t421 (ji31)) : Int) := of_decide_eq_true (by first | (with_reducible assumption) | assumption)
     have q434 : (rd t421 (ji31)) < (t415.length : Int) := of_decide_eq_true (by first | (with_reducible assumption) | assumption)
     obtain ⟨ad434, A434_5, c434_5, e434, hx434_0, hx434_1, hx434_2, hx434_3, hx434_4, hx434_5, hl434_5, hi434_5⟩ := at_T64 (Kd.S_reads' HO_4.out).2.2 (rd t421 (ji31)) p434 q434
     cases e434
     obtain ⟨ce434, hce434, hMe434, hcc434⟩ := Kd.S_get HO_4.out z64 (rd t421 (ji31)) p434 (by first | exact q434 | exact of_decide_eq_true (by first | (with_reducible assumption) | assumption) | (have e_ := (Kd.S_reads' HO_4.out).1; omega))
     obtain ⟨ve434_5, rfl, ge434_5⟩ := k64_openM hMe434
     have hv434_5 := hcc434 5 _ rfl
     rw [add_field _ _ 5 (by omega)] at hv434_5
     replace hv434_5 := Option.some.inj (hv434_5.symm.trans hx434_5)
     rw [hv434_5] at ge434_5
     have HL434_5 := Aside0.mk (show Kd.R k24 24 _ _ _ _ ((rd_T64 t415 (rd t421 (ji31))).f1) from ge434_5)
     clear hv434_5 ge434_5
     clear hcc434 hce434
     have HR434_5 := Aside0.mk hi434_5
     have HC434_5 := Aside0.mk hl434_5
     clear hi434_5 hl434_5
     replace p434 := eq_true p434
     replace q434 := eq_true q434
     have p435 : 0 ≤ (x8_1 : Int) := of_decide_eq_true (by first | (with_reducible assumption) | assumption)
     have q435 : x8_1 < (t421.length : Int) := of_decide_eq_true (by first | (with_reducible assumption) | assumption)
     obtain ⟨ad435, e435, hx435_0⟩ := Kd.at_int (Kd.R_reads' HO_6.out).2.2 x8_1 p435 q435
     obtain rfl : ad431 = ad435 := (by injection e435)
     replace p435 := eq_true p435
     replace q435 := eq_true q435
     have p436 : 0 ≤ ((rd t421 x8_1) : Int) := of_decide_eq_true (by first | (with_reducible assumption) | assumption)
     have q436 : (rd t421 x8_1) < (t415.length : Int) := of_decide_eq_true (by first | (with_reducible assumption) | assumption)
     obtain ⟨ad436, A436_5, c436_5, e436, hx436_0, hx436_1, hx436_2, hx436_3, hx436_4, hx436_5, hl436_5, hi436_5⟩ := at_T64 (Kd.S_reads' HO_4.out).2.2 (rd t421 x8_1) p436 q436
     obtain rfl : ad434 = ad436 := (by injection e436)
     obtain ⟨ce436, hce436, hMe436, hcc436⟩ := Kd.S_get HO_4.out z64 (rd t421 x8_1) p436 (by first | exact q436 | exact of_decide_eq_true (by first | (with_reducible assumption) | assumption) | (have e_ := (Kd.S_reads' HO_4.out).1; omega))
     obtain ⟨ve436_5, rfl, ge436_5⟩ := k64_openM hMe436
     have hv436_5 := hcc436 5 _ rfl
     rw [add_field _ _ 5 (by omega)] at hv436_5
     replace hv436_5 := Option.some.inj (hv436_5.symm.trans hx436_5)
     rw [hv436_5] at ge436_5
     have HL436_5 := Aside0.mk (show Kd.R k24 24 _ _ _ _ ((rd_T64 t415 (rd t421 x8_1)).f1) from ge436_5)
     clear hv436_5 ge436_5
     clear hcc436 hce436
     have HR436_5 := Aside0.mk hi436_5
     have HC436_5 := Aside0.mk hl436_5
     clear hi436_5 hl436_5
     replace p436 := eq_true p436
     replace q436 := eq_true q436
     refine start_ (n := 19) (S := fun w' => w'.cell? (ad431.add ((ji31)).toNat) = some (.int .i64 (rd t421 (ji31))) ∧ w'.cell? (ad434.add (((rd t421 (ji31))).toNat * 6)) = some (.int .u64 ((rd_T64 t415 (rd t421 (ji31))).f0.f0.f0)) ∧ w'.cell? ⟨(ad434.add (((rd t421 (ji31))).toNat * 6)).block, (ad434.add (((rd t421 (ji31))).toNat * 6)).off + 1, none⟩ = some (.int .u64 ((rd_T64 t415 (rd t421 (ji31))).f0.f0.f1)) ∧ w'.cell? ⟨(ad434.add (((rd t421 (ji31))).toNat * 6)).block, (ad434.add (((rd t421 (ji31))).toNat * 6)).off + 2, none⟩ = some (.int .u64 ((rd_T64 t415 (rd t421 (ji31))).f0.f0.f2)) ∧ w'.cell? ⟨(ad434.add (((rd t421 (ji31))).toNat * 6)).block, (ad434.add (((rd t421 (ji31))).toNat * 6)).off + 3, none⟩ = some (.int .u64 ((rd_T64 t415 (rd t421 (ji31))).f0.f0.f3)) ∧ w'.cell? ⟨(ad434.add (((rd t421 (ji31))).toNat * 6)).block, (ad434.add (((rd t421 (ji31))).toNat * 6)).off + 4, none⟩ = some (.int .i64 ((rd_T64 t415 (rd t421 (ji31))).f0.f1)) ∧ w'.cell? ⟨(ad434.add (((rd t421 (ji31))).toNat * 6)).block, (ad434.add (((rd t421 (ji31))).toNat * 6)).off + 5, none⟩ = some (.slice A434_5 ((rd_T64 t415 (rd t421 (ji31))).f1).length c434_5) ∧ w'.cell? (ad431.add (x8_1).toNat) = some (.int .i64 (rd t421 x8_1)) ∧ w'.cell? (ad434.add (((rd t421 x8_1)).toNat * 6)) = some (.int .u64 ((rd_T64 t415 (rd t421 x8_1)).f0.f0.f0)) ∧ w'.cell? ⟨(ad434.add (((rd t421 x8_1)).toNat * 6)).block, (ad434.add (((rd t421 x8_1)).toNat * 6)).off + 1, none⟩ = some (.int .u64 ((rd_T64 t415 (rd t421 x8_1)).f0.f0.f1)) ∧ w'.cell? ⟨(ad434.add (((rd t421 x8_1)).toNat * 6)).block, (ad434.add (((rd t421 x8_1)).toNat * 6)).off + 2, none⟩ = some (.int .u64 ((rd_T64 t415 (rd t421 x8_1)).f0.f0.f2)) ∧ w'.cell? ⟨(ad434.add (((rd t421 x8_1)).toNat * 6)).block, (ad434.add (((rd t421 x8_1)).toNat * 6)).off + 3, none⟩ = some (.int .u64 ((rd_T64 t415 (rd t421 x8_1)).f0.f0.f3)) ∧ w'.cell? ⟨(ad434.add (((rd t421 x8_1)).toNat * 6)).block, (ad434.add (((rd t421 x8_1)).toNat * 6)).off + 4, none⟩ = some (.int .i64 ((rd_T64 t415 (rd t421 x8_1)).f0.f1)) ∧ w'.cell? ⟨(ad434.add (((rd t421 x8_1)).toNat * 6)).block, (ad434.add (((rd t421 x8_1)).toNat * 6)).off + 5, none⟩ = some (.slice A436_5 ((rd_T64 t415 (rd t421 x8_1)).f1).length c436_5)) (ds := []) (mB_ 19 0) (by kernel_rfl) rfl rfl ⟨hx433_0, hx434_0, hx434_1, hx434_2, hx434_3, hx434_4, hx434_5, hx435_0, hx436_0, hx436_1, hx436_2, hx436_3, hx436_4, hx436_5⟩ (fun hHeld => ?_); refine with_tabW tenementlaw22_JudgeOrders.tab16 tenementlaw22_JudgeOrders.bits16 (fun HT_ HW_ => ?_)
     generalize w42.drew = w43 at HO_4 HO_6 HO_7 HB HL434_5 HL436_5 HR434_5 HR436_5 hx433_0 hx434_0 hx434_1 hx434_2 hx434_3 hx434_4 hx434_5 hx435_0 hx436_0 hx436_1 hx436_2 hx436_3 hx436_4 hx436_5 hHeld ⊢
     refine Kp_ 0 65 (mB_ 19 1) (any_of HT_.out (by kernel_rfl)) ?_
     refine Kp_ 1 66 (mB_ 19 3) (any_of HT_.out (by kernel_rfl)) ?_
     refine Kp_ 2 67 (mB_ 19 7) (any_of HT_.out (by kernel_rfl)) ?_
     refine Kp_ 3 68 (mB_ 19 15) (any_of HT_.out (by kernel_rfl)) ?_
     refine Kp_ 4 69 (mB_ 19 31) (any_of HT_.out (by kernel_rfl)) ?_
     refine Kp_ 9 74 (mB_ 19 543) (any_of HT_.out (by kernel_rfl)) ?_
     refine Kp_ 10 75 (mB_ 19 1567) (any_of HT_.out (by kernel_rfl)) ?_
     refine Kp_ 11 76 (mB_ 19 3615) (any_of HT_.out (by kernel_rfl)) ?_
     refine Kp_ 12 77 (mB_ 19 7711) (any_of HT_.out (by kernel_rfl)) ?_
     refine Ko_ 5 70 (mB_ 19 7743) (take_ofW HT_.out HW_.out (by kernel_rfl)) hHeld ?_
     refine Kp_ 6 71 (mB_ 19 7807) (any_of HT_.out (by kernel_rfl)) ?_
     refine Kp_ 7 72 (mB_ 19 7935) (any_of HT_.out (by kernel_rfl)) ?_
     refine Ko_ 8 73 (mB_ 19 8191) (take_ofW HT_.out HW_.out (by kernel_rfl)) hHeld ?_
     refine Ko_ 13 78 (mB_ 19 16383) (take_ofW HT_.out HW_.out (by kernel_rfl)) hHeld ?_
     refine Kp_ 14 79 (mB_ 19 32767) (any_of HT_.out (by kernel_rfl)) ?_
     refine Kp_ 15 80 (mB_ 19 65535) (any_of HT_.out (by kernel_rfl)) ?_
     refine Ko_ 16 81 (mB_ 19 131071) (take_ofW HT_.out HW_.out (by kernel_rfl)) hHeld ?_
     refine one_ (i := 17) (N := some 82) (mB_ 19 262143) rfl rfl (one_of HT_.out (by kernel_rfl)) (by decide) (fun K hK => ?_)
     refine goes_ Try.func28 (by kernel_rfl) rfl #[.agg #[.int .u64 ((rd_T64 t415 (rd t421 (ji31))).f0.f0.f0), .int .u64 ((rd_T64 t415 (rd t421 (ji31))).f0.f0.f1), .int .u64 ((rd_T64 t415 (rd t421 (ji31))).f0.f0.f2), .int .u64 ((rd_T64 t415 (rd t421 (ji31))).f0.f0.f3), .int .i64 ((rd_T64 t415 (rd t421 (ji31))).f0.f1)], .agg #[.int .u64 ((rd_T64 t415 (rd t421 x8_1)).f0.f0.f0), .int .u64 ((rd_T64 t415 (rd t421 x8_1)).f0.f0.f1), .int .u64 ((rd_T64 t415 (rd t421 x8_1)).f0.f0.f2), .int .u64 ((rd_T64 t415 (rd t421 x8_1)).f0.f0.f3), .int .i64 ((rd_T64 t415 (rd t421 x8_1)).f0.f1)]] (by rfl) rfl rfl (by (try simp only [List.map_toArray, List.map_cons, List.map_nil]); first | done | (simp only [hji31]; rfl) | rfl | (simp only [List.length_drop, List.length_take]; rfl)) ?_
     with_reducible refine (stamp_Order.calls kj16 ((rd_T64 t415 (rd t421 (ji31))).f0.f0.f0) ((rd_T64 t415 (rd t421 (ji31))).f0.f0.f1) ((rd_T64 t415 (rd t421 (ji31))).f0.f0.f2) ((rd_T64 t415 (rd t421 (ji31))).f0.f0.f3) ((rd_T64 t415 (rd t421 (ji31))).f0.f1) ((rd_T64 t415 (rd t421 x8_1)).f0.f0.f0) ((rd_T64 t415 (rd t421 x8_1)).f0.f0.f1) ((rd_T64 t415 (rd t421 x8_1)).f0.f0.f2) ((rd_T64 t415 (rd t421 x8_1)).f0.f0.f3) ((rd_T64 t415 (rd t421 x8_1)).f0.f1) t437 _ A37.out).mono ?_
     rintro e w44 ⟨rfl, hb⟩
     have HS0_ := (hb.cell (World.block_lt_of_cell? _ _ (hHeld.1))).trans (hHeld.1)
     have HS1_ := (hb.cell (World.block_lt_of_cell? _ _ (hHeld.2.1))).trans (hHeld.2.1)
     have HS2_ := (hb.cell (World.block_lt_of_cell? _ _ (hHeld.2.2.1))).trans (hHeld.2.2.1)
     have HS3_ := (hb.cell (World.block_lt_of_cell? _ _ (hHeld.2.2.2.1))).trans (hHeld.2.2.2.1)
     have HS4_ := (hb.cell (World.block_lt_of_cell? _ _ (hHeld.2.2.2.2.1))).trans (hHeld.2.2.2.2.1)
     have HS5_ := (hb.cell (World.block_lt_of_cell? _ _ (hHeld.2.2.2.2.2.1))).trans (hHeld.2.2.2.2.2.1)
     have HS6_ := (hb.cell (World.block_lt_of_cell? _ _ (hHeld.2.2.2.2.2.2.1))).trans (hHeld.2.2.2.2.2.2.1)
     have HS7_ := (hb.cell (World.block_lt_of_cell? _ _ (hHeld.2.2.2.2.2.2.2.1))).trans (hHeld.2.2.2.2.2.2.2.1)
     have HS8_ := (hb.cell (World.block_lt_of_cell? _ _ (hHeld.2.2.2.2.2.2.2.2.1))).trans (hHeld.2.2.2.2.2.2.2.2.1)
     have HS9_ := (hb.cell (World.block_lt_of_cell? _ _ (hHeld.2.2.2.2.2.2.2.2.2.1))).trans (hHeld.2.2.2.2.2.2.2.2.2.1)
     have HS10_ := (hb.cell (World.block_lt_of_cell? _ _ (hHeld.2.2.2.2.2.2.2.2.2.2.1))).trans (hHeld.2.2.2.2.2.2.2.2.2.2.1)
     have HS11_ := (hb.cell (World.block_lt_of_cell? _ _ (hHeld.2.2.2.2.2.2.2.2.2.2.2.1))).trans (hHeld.2.2.2.2.2.2.2.2.2.2.2.1)
     have HS12_ := (hb.cell (World.block_lt_of_cell? _ _ (hHeld.2.2.2.2.2.2.2.2.2.2.2.2.1))).trans (hHeld.2.2.2.2.2.2.2.2.2.2.2.2.1)
     have HS13_ := (hb.cell (World.block_lt_of_cell? _ _ (hHeld.2.2.2.2.2.2.2.2.2.2.2.2.2))).trans (hHeld.2.2.2.2.2.2.2.2.2.2.2.2.2)
     refine ⟨_, rfl, ?_⟩
     replace HO_4 := Aside0.mk (Kd.S_below (by (with_reducible repeat (first | apply Kd.S_alloc | apply Kd.S_drewN | apply Kd.S_drew)); exact HO_4.out) hb)
     replace HO_6 := Aside0.mk (Kd.R_below (Ku_ HO_6) hb)
     replace HO_7 := Aside0.mk (Kd.R_below (Ku_ HO_7) hb)
     replace HL434_5 := Aside0.mk (Kd.R_below (Ku_ HL434_5) hb)
     replace HL436_5 := Aside0.mk (Kd.R_below (Ku_ HL436_5) hb)
     replace HR434_5 := Aside0.mk (Kd.C_below (by repeat (first | (with_reducible exact HR434_5.out) | (with_reducible refine Kd.C_alloc ?_ _) | (with_reducible refine Kd.C_drewN ?_ _) | (with_reducible refine Kd.C_drew ?_) | exact HR434_5.out)) hb)
     replace HR436_5 := Aside0.mk (Kd.C_below (by repeat (first | (with_reducible exact HR436_5.out) | (with_reducible refine Kd.C_alloc ?_ _) | (with_reducible refine Kd.C_drewN ?_ _) | (with_reducible refine Kd.C_drew ?_) | exact HR436_5.out)) hb)
     replace HB := Ks_ HB hb
     (try clear hb)
     (try clear hb2)
     (try clear hk)
     (try clear hi)
     refine hK.out _ _ ⟨HS0_, HS1_, HS2_, HS3_, HS4_, HS5_, HS6_, HS7_, HS8_, HS9_, HS10_, HS11_, HS12_, HS13_⟩ (fun hHeld => ?_)
     clear hK K
     refine Kn_ 82 ?_
     refine Kp_ 18 9 (mB_ 19 524287) (any_of HT_.out (by kernel_rfl)) ?_
     refine done_ (done_of HT_.out (by kernel_rfl)) ?_
     try go_wp2
     replace HO_4 := Aside0.mk (Kd.S_drew HO_4.out)
     replace HO_6 := Aside0.mk (Kd.R_drew HO_6.out)
     replace HO_7 := Aside0.mk (Kd.R_drew HO_7.out)
     replace HL434_5 := Aside0.mk (Kd.R_drew HL434_5.out)
     replace HL436_5 := Aside0.mk (Kd.R_drew HL436_5.out)
     replace HR434_5 := Aside0.mk (Kd.C_drew HR434_5.out)
     replace HR436_5 := Aside0.mk (Kd.C_drew HR436_5.out)
     replace HB := Aside0.mk (below_drew1 HB.out)
     have p438 : 0 ≤ ((ji31) : Int) := of_decide_eq_true (by first | (with_reducible assumption) | assumption)
     have q438 : (ji31) < (t421.length : Int) := of_decide_eq_true (by first | (with_reducible assumption) | assumption)
     obtain ⟨ad438, e438, hx438_0⟩ := Kd.at_int (Kd.R_reads' HO_6.out).2.2 (ji31) p438 q438
     obtain rfl : ad431 = ad438 := (by injection e438)
     replace p438 := eq_true p438
     replace q438 := eq_true q438
     have p439 : 0 ≤ (x8_1 : Int) := of_decide_eq_true (by first | (with_reducible assumption) | assumption)
     have q439 : x8_1 < (t421.length : Int) := of_decide_eq_true (by first | (with_reducible assumption) | assumption)
     obtain ⟨ad439, e439, hx439_0⟩ := Kd.at_int (Kd.R_reads' HO_6.out).2.2 x8_1 p439 q439
     obtain rfl : ad431 = ad439 := (by injection e439)
     replace p439 := eq_true p439
     replace q439 := eq_true q439
     refine start_ (n := 18) (S := fun w' => w'.cell? (ad431.add ((ji31)).toNat) = some (.int .i64 (rd t421 (ji31))) ∧ w'.cell? (ad431.add (x8_1).toNat) = some (.int .i64 (rd t421 x8_1))) (ds := []) (mB_ 18 0) (by kernel_rfl) rfl rfl ⟨hx438_0, hx439_0⟩ (fun hHeld => ?_); refine with_tabW tenementlaw22_JudgeOrders.tab17 tenementlaw22_JudgeOrders.bits17 (fun HT_ HW_ => ?_)
     generalize w44.drew = w45 at HO_4 HO_6 HO_7 HL434_5 HL436_5 HR434_5 HR436_5 HB hx438_0 hx439_0 hHeld ⊢
     refine Kp_ 0 83 (mB_ 18 1) (any_of HT_.out (by kernel_rfl)) ?_
     refine Kp_ 1 84 (mB_ 18 3) (any_of HT_.out (by kernel_rfl)) ?_
     refine Kp_ 2 85 (mB_ 18 7) (any_of HT_.out (by kernel_rfl)) ?_
     refine Kp_ 3 86 (mB_ 18 15) (any_of HT_.out (by kernel_rfl)) ?_
     refine Kp_ 4 87 (mB_ 18 31) (any_of HT_.out (by kernel_rfl)) ?_
     refine Kp_ 5 88 (mB_ 18 63) (any_of HT_.out (by kernel_rfl)) ?_
     refine Kp_ 6 89 (mB_ 18 127) (any_of HT_.out (by kernel_rfl)) ?_
     refine Kp_ 7 90 (mB_ 18 255) (any_of HT_.out (by kernel_rfl)) ?_
     refine Kp_ 8 91 (mB_ 18 511) (any_of HT_.out (by kernel_rfl)) ?_
     refine Kp_ 9 92 (mB_ 18 1023) (any_of HT_.out (by kernel_rfl)) ?_
     refine Kp_ 11 94 (mB_ 18 3071) (any_of HT_.out (by kernel_rfl)) ?_
     refine Kp_ 12 95 (mB_ 18 7167) (any_of HT_.out (by kernel_rfl)) ?_
     refine Kp_ 13 96 (mB_ 18 15359) (any_of HT_.out (by kernel_rfl)) ?_
     refine Ko_ 10 93 (mB_ 18 16383) (take_ofW HT_.out HW_.out (by kernel_rfl)) hHeld ?_
     refine Ko_ 14 97 (mB_ 18 32767) (take_ofW HT_.out HW_.out (by kernel_rfl)) hHeld ?_
     refine Kp_ 15 98 (mB_ 18 65535) (any_of HT_.out (by kernel_rfl)) ?_
     refine Kp_ 16 99 (mB_ 18 131071) (any_of HT_.out (by kernel_rfl)) ?_
     refine Kp_ 17 100 (mB_ 18 262143) (any_of HT_.out (by kernel_rfl)) ?_
     refine done_ (done_of HT_.out (by kernel_rfl)) ?_
     try go_wp2
     go_roundg kj16
     case measure => have := HK1.out; have := HJ16.out; omega
     case rel => exact ⟨(y432), (wrap64 (x8_1 + 1)), (by first | rfl | (simp; done) | (simp [*]; done)), H', ⟨by have := HK1.out; have := HJ16.out; omega⟩, ⟨by (with_reducible repeat (first | apply Kd.S_alloc | apply Kd.S_drewN | apply Kd.S_drew)); exact HO_4.out⟩, ⟨by (with_reducible repeat (first | apply Kd.R_alloc | apply Kd.R_drewN | apply Kd.R_drew)); exact HO_6.out⟩, ⟨by (with_reducible repeat (first | apply Kd.R_alloc | apply Kd.R_drewN | apply Kd.R_drew)); exact HO_7.out⟩, ⟨Ky_ HB⟩⟩
end Go.Proofs.Ythjhkcebcgdeoaa.Q
