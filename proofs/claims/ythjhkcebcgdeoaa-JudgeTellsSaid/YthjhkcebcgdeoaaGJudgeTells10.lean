import Derived.Test.YthjhkcebcgdeoaaGJudgeTells2
import Derived.Test.YthjhkcebcgdeoaaGJudgeTells9
import Derived.Test.YthjhkcebcgdeoaaGJudgeTells7
import Derived.Test.YthjhkcebcgdeoaaGJudgeTells0
import Derived.Test.YthjhkcebcgdeoaaGJudgeTells8
import Derived.Test.YthjhkcebcgdeoaaGJudgeTells6
import Derived.Test.YthjhkcebcgdeoaaGJudgeTells3
import Derived.Test.YthjhkcebcgdeoaaGJudgeTells5
import Derived.Test.YthjhkcebcgdeoaaGJudgeTells4
namespace Go.Proofs.Ythjhkcebcgdeoaa.Q
open Go.RowKit Go.Proofs.YthjhkcebcgdeoaaW.PrintWords Go.Proofs.YthjhkcebcgdeoaaW.PrintLast Go.Proofs.YthjhkcebcgdeoaaW.PrintMore
attribute [local go_sem] max2_int min2_int max_two min_two max_three min_three max_four min_four   -- for this text's walks alone
set_option linter.unusedVariables false
set_option linter.unusedSimpArgs false
mutual
def tenementlaw22_deals.l0 : Nat → List (S61) → List (S64) → List (S81) → Int → Option ((List (S64)) × (List (S81)))
 | 0, _, _, _, _ => none
 | k + 1, x0, x4, x5, x6 => if x6 < (x0.length : Int) then (tenementlaw22_deals.j1 k x0 x4 x5 x6 (decide (x6 < 12))) else (tenementlaw22_deals.j1 k x0 x4 x5 x6 false)
def tenementlaw22_deals.j1 : Nat → List (S61) → List (S64) → List (S81) → Int → Bool → Option ((List (S64)) × (List (S81)))
 | 0, _, _, _, _, _ => none
 | k + 1, x0, x4, x5, x6, x15 => if x15 = true then (if 0 ≤ x6 then (if x6 < (x0.length : Int) then ((tenementlaw22_Deal_deal.f k ((rd_T61 x0 x6).f0.f0.f0.f0) ((rd_T61 x0 x6).f0.f0.f0.f1) ((rd_T61 x0 x6).f0.f0.f0.f2) ((rd_T61 x0 x6).f0.f0.f0.f3) ((rd_T61 x0 x6).f0.f0.f1) ((rd_T61 x0 x6).f0.f1) ((rd_T61 x0 x6).f1) ((rd_T61 x0 x6).f2)).bind fun bt179 => (if x4.length < 2199023255552 then ((tenementlaw22_refTxn.f k bt179.1 bt179.2.1 bt179.2.2.1 bt179.2.2.2.1 bt179.2.2.2.2.1 bt179.2.2.2.2.2).bind fun bt191 => (if x5.length < 2199023255552 then (tenementlaw22_deals.l0 k x0 (x4 ++ [(⟨(⟨(⟨bt179.1, bt179.2.1, bt179.2.2.1, bt179.2.2.2.1⟩ : S29), bt179.2.2.2.2.1⟩ : S56), bt179.2.2.2.2.2⟩ : S64)]) (x5 ++ [(⟨(⟨(⟨bt191.1, bt191.2.1, bt191.2.2.1, bt191.2.2.2.1⟩ : S42), bt191.2.2.2.2.1⟩ : S78), bt191.2.2.2.2.2⟩ : S81)]) (wrap64 (x6 + 1))) else (none))) else (none))) else (none)) else (none)) else (some (x4, x5))
end
def tenementlaw22_deals.f (k : Nat) (l0 : List (S61)) : Option ((List (S64)) × (List (S81))) := tenementlaw22_deals.l0 k l0 ([] : List (S64)) ([] : List (S81)) 0
theorem tenementlaw22_deals.mono_l : ∀ k, (∀ y0 y1 y2 y3, LeO (tenementlaw22_deals.l0 k y0 y1 y2 y3) (tenementlaw22_deals.l0 (k + 1) y0 y1 y2 y3)) ∧ (∀ y0 y1 y2 y3 y4, LeO (tenementlaw22_deals.j1 k y0 y1 y2 y3 y4) (tenementlaw22_deals.j1 (k + 1) y0 y1 y2 y3 y4))
 | 0 => ⟨fun _ _ _ _ r h => by simp [tenementlaw22_deals.l0] at h, fun _ _ _ _ _ r h => by simp [tenementlaw22_deals.j1] at h⟩
 | k + 1 => by
  obtain ⟨ih0, ih1⟩ := tenementlaw22_deals.mono_l k
  refine ⟨?_, ?_⟩
  ·intro y0 y1 y2 y3
   unfold tenementlaw22_deals.l0
   repeat' first
   | (with_reducible exact ih0 _ _ _ _)
   | (with_reducible exact ih1 _ _ _ _ _)
   | (with_reducible exact tenementlaw22_Deal_deal.mono _ _ _ _ _ _ _ _ _)
   | (with_reducible exact tenementlaw22_refTxn.mono _ _ _ _ _ _ _)
   | (with_reducible exact LeO.refl _)
   | (with_reducible exact LeO.none _)
   | (with_reducible refine LeO.ite ?_ ?_)
   | (with_reducible refine LeO.bind ?_ (fun _ => ?_))
   | exact ih0 _ _ _ _
   | exact ih1 _ _ _ _ _
   | exact tenementlaw22_Deal_deal.mono _ _ _ _ _ _ _ _ _
   | exact tenementlaw22_refTxn.mono _ _ _ _ _ _ _
   | exact LeO.none _
   | refine LeO.ite ?_ ?_
   | refine LeO.bind ?_ (fun _ => ?_)
  ·intro y0 y1 y2 y3 y4
   unfold tenementlaw22_deals.j1
   repeat' first
   | (with_reducible exact ih0 _ _ _ _)
   | (with_reducible exact ih1 _ _ _ _ _)
   | (with_reducible exact tenementlaw22_Deal_deal.mono _ _ _ _ _ _ _ _ _)
   | (with_reducible exact tenementlaw22_refTxn.mono _ _ _ _ _ _ _)
   | (with_reducible exact LeO.refl _)
   | (with_reducible exact LeO.none _)
   | (with_reducible refine LeO.ite ?_ ?_)
   | (with_reducible refine LeO.bind ?_ (fun _ => ?_))
   | exact ih0 _ _ _ _
   | exact ih1 _ _ _ _ _
   | exact tenementlaw22_Deal_deal.mono _ _ _ _ _ _ _ _ _
   | exact tenementlaw22_refTxn.mono _ _ _ _ _ _ _
   | exact LeO.none _
   | refine LeO.ite ?_ ?_
   | refine LeO.bind ?_ (fun _ => ?_)
theorem tenementlaw22_deals.mono : ∀ a0 k, LeO (tenementlaw22_deals.f k a0) (tenementlaw22_deals.f (k + 1) a0) := by
 intro a0 k
 obtain ⟨ih0, ih1⟩ := tenementlaw22_deals.mono_l k
 unfold tenementlaw22_deals.f
 repeat' first
   | (with_reducible exact ih0 _ _ _ _)
   | (with_reducible exact ih1 _ _ _ _ _)
   | (with_reducible exact tenementlaw22_Deal_deal.mono _ _ _ _ _ _ _ _ _)
   | (with_reducible exact tenementlaw22_refTxn.mono _ _ _ _ _ _ _)
   | (with_reducible exact LeO.refl _)
   | (with_reducible exact LeO.none _)
   | (with_reducible refine LeO.ite ?_ ?_)
   | (with_reducible refine LeO.bind ?_ (fun _ => ?_))
   | exact ih0 _ _ _ _
   | exact ih1 _ _ _ _ _
   | exact tenementlaw22_Deal_deal.mono _ _ _ _ _ _ _ _ _
   | exact tenementlaw22_refTxn.mono _ _ _ _ _ _ _
   | exact LeO.none _
   | refine LeO.ite ?_ ?_
   | refine LeO.bind ?_ (fun _ => ?_)
set_option maxHeartbeats 8000000 in
set_option maxRecDepth 100000 in
theorem tenementlaw22_deals.calls (k : Nat) (A0 : Option Addr) (c0 : Nat) (l0 : List (S61)) (r1 : List (S64)) (r2 : List (S81)) (w : World) (hr0 : Kd.C k61 w A0 l0.length l0) (hc0 : l0.length ≤ c0) (h : tenementlaw22_deals.f k l0 = some (r1, r2)) :
  Calls Try.prog 11 #[.slice A0 l0.length c0] w fun e w' => ∃ v0_ v1_ : Value, e = .returned (.tuple #[v0_, v1_]) ∧ Kd.S k64 64 w' w.heap.size (fun _ => True) v0_ r1 ∧ Kd.S k81 81 w' w.heap.size (fun _ => True) v1_ r2 ∧ Below w.heap.size w w' := by
 have hu61 := Try.underlying61
 have hu64 := Try.underlying64
 have HR0 := Aside0.mk hr0
 have HC0 := Aside0.mk hc0
 clear hr0 hc0
 have HB := Aside0.mk (Below.refl w.heap.size w)
 have H : (tenementlaw22_deals.l0 k l0 ([] : List (S64)) ([] : List (S81)) 0) = some (r1, r2) := h
 clear h
 have H' := Aside0.mk H
 clear H
 go_enter Try.func11, Try.ntmps11
 go_wp2
 go_loopg [4, 5, 6] k (fun kq v4 v5 v6 w' => ∃ (x4_1 : List (S64)) (x5_1 : List (S81)) (x6_1 : Int), v6 = .int .i64 x6_1 ∧ Aside0 (tenementlaw22_deals.l0 kq l0 x4_1 x5_1 x6_1 = some (r1, r2)) ∧ Aside0 (kq ≤ k) ∧ Aside0 (Kd.S k64 64 w' w.heap.size (fun _ => True) v4 x4_1) ∧ Aside0 (Kd.S k81 81 w' w.heap.size (fun _ => True) v5 x5_1) ∧ Aside0 (Below w.heap.size w w'))
 case atStart => exact ⟨(([] : List (S64))), (([] : List (S81))), (0), (by first | rfl | (simp; done) | (simp [*]; done)), H', ⟨Nat.le_refl _⟩, ⟨by first | exact Kd.S_nil _ _ _ _ _ | exact Kd.N_nil _ _ _ _ _ | exact Kd.V_nil _ _ _ _ _ | exact Kd.Q_nil _ _ _ _ _ | exact Kd.R_nil _ _ _ _ _⟩, ⟨by first | exact Kd.S_nil _ _ _ _ _ | exact Kd.N_nil _ _ _ _ _ | exact Kd.V_nil _ _ _ _ _ | exact Kd.Q_nil _ _ _ _ _ | exact Kd.R_nil _ _ _ _ _⟩, ⟨Ky_ HB⟩⟩
 case round =>
  clear H'
  try clear c1
  obtain ⟨x4_1, x5_1, x6_1, rfl, HA, HK1, HO_4, HO_5, HB⟩ := hrel
  cases gk with
  | zero => exact absurd HA.out (by simp [tenementlaw22_deals.l0])
  | succ k1 =>
   have H := HA.out
   clear HA
   simp only [tenementlaw22_deals.l0] at H
   have HC2 := Aside0.mk H
   clear H
   go_upto_region 4 with (fail)
   go_cut [15] (fun v15 wc => ∃ (kq : Nat) (x15_1 : Bool), v15 = .bool x15_1 ∧ Aside0 (tenementlaw22_deals.j1 kq l0 x4_1 x5_1 x6_1 x15_1 = some (r1, r2)) ∧ Aside0 (kq ≤ k1) ∧ Aside0 (Kd.S k64 64 wc w.heap.size (fun _ => True) u4 x4_1) ∧ Aside0 (Kd.S k81 81 wc w.heap.size (fun _ => True) u5 x5_1) ∧ Aside0 (Below w.heap.size w wc))
   case first =>
    have H := HC2.out
    clear HC2
    by_cases c3 : x6_1 < (l0.length : Int)
    rotate_left
    ·rw [if_neg c3] at H
     have c3b0 : decide (x6_1 < (l0.length : Int)) = false := decide_eq_false c3
     clear c3
     (first | rw [c3b0] | (simp only [i64_w, i32_w]; rw [c3b0]) | skip)
     have H' := Aside0.mk H
     clear H
     go_wp2
     go_meet
     case rel => exact ⟨_, (false), (by first | rfl | (simp; done) | (simp [*]; done)), H', ⟨by have := HK1.out; first | omega | exact Nat.le_refl _⟩, ⟨by (with_reducible repeat (first | apply Kd.S_alloc | apply Kd.S_drewN | apply Kd.S_drew)); exact HO_4.out⟩, ⟨by (with_reducible repeat (first | apply Kd.S_alloc | apply Kd.S_drewN | apply Kd.S_drew)); exact HO_5.out⟩, ⟨Ky_ HB⟩⟩
    rw [if_pos c3] at H
    have c3b0 : decide (x6_1 < (l0.length : Int)) = true := decide_eq_true c3
    clear c3
    (first | rw [c3b0] | (simp only [i64_w, i32_w]; rw [c3b0]) | skip)
    have H' := Aside0.mk H
    clear H
    go_wp2
    go_meet
    case rel => exact ⟨_, (decide (x6_1 < 12)), (by first | rfl | (simp; done) | (simp [*]; done)), H', ⟨by have := HK1.out; first | omega | exact Nat.le_refl _⟩, ⟨by (with_reducible repeat (first | apply Kd.S_alloc | apply Kd.S_drewN | apply Kd.S_drew)); exact HO_4.out⟩, ⟨by (with_reducible repeat (first | apply Kd.S_alloc | apply Kd.S_drewN | apply Kd.S_drew)); exact HO_5.out⟩, ⟨Ky_ HB⟩⟩
   case rest =>
    clear HC2
    try clear c1
    try clear p2
    try clear c3
    try clear c3b0
    obtain ⟨kq, x15_1, rfl, HA, HJ1, HO_4, HO_5, HB⟩ := hcut
    cases kq with
    | zero => exact absurd HA.out (by simp [tenementlaw22_deals.j1])
    | succ kj1 =>
     have H := HA.out
     clear HA
     simp only [tenementlaw22_deals.j1] at H
     by_cases c4 : x15_1 = true
     rotate_left
     ·replace c4 := Bool.eq_false_iff.mpr c4
      subst c4
      have H1 : (some (x4_1, x5_1)) = some (r1, r2) := by rw [if_neg (show ¬ (false = true) by decide)] at H; exact H
      clear H
      have H := H1
      clear H1
      simp only [Option.some.injEq, Prod.mk.injEq] at H
      obtain ⟨rfl, rfl⟩ := H
      go_wp2
      go_ret2
      exact ⟨_, _, by first | rfl | (simp [errW_none, errW_some] <;> rfl) | (simp [*, errW_none, errW_some] <;> rfl), by (with_reducible repeat (first | apply Kd.S_alloc | apply Kd.S_drewN | apply Kd.S_drew)); exact HO_4.out, by (with_reducible repeat (first | apply Kd.S_alloc | apply Kd.S_drewN | apply Kd.S_drew)); exact HO_5.out, Ky_ HB⟩
     subst c4
     have H1 : (if 0 ≤ x6_1 then (if x6_1 < (l0.length : Int) then ((tenementlaw22_Deal_deal.f kj1 ((rd_T61 l0 x6_1).f0.f0.f0.f0) ((rd_T61 l0 x6_1).f0.f0.f0.f1) ((rd_T61 l0 x6_1).f0.f0.f0.f2) ((rd_T61 l0 x6_1).f0.f0.f0.f3) ((rd_T61 l0 x6_1).f0.f0.f1) ((rd_T61 l0 x6_1).f0.f1) ((rd_T61 l0 x6_1).f1) ((rd_T61 l0 x6_1).f2)).bind fun bt179 => (if x4_1.length < 2199023255552 then ((tenementlaw22_refTxn.f kj1 bt179.1 bt179.2.1 bt179.2.2.1 bt179.2.2.2.1 bt179.2.2.2.2.1 bt179.2.2.2.2.2).bind fun bt191 => (if x5_1.length < 2199023255552 then (tenementlaw22_deals.l0 kj1 l0 (x4_1 ++ [(⟨(⟨(⟨bt179.1, bt179.2.1, bt179.2.2.1, bt179.2.2.2.1⟩ : S29), bt179.2.2.2.2.1⟩ : S56), bt179.2.2.2.2.2⟩ : S64)]) (x5_1 ++ [(⟨(⟨(⟨bt191.1, bt191.2.1, bt191.2.2.1, bt191.2.2.2.1⟩ : S42), bt191.2.2.2.2.1⟩ : S78), bt191.2.2.2.2.2⟩ : S81)]) (wrap64 (x6_1 + 1))) else (none))) else (none))) else (none)) else (none)) = some (r1, r2) := by rw [if_pos rfl] at H; exact H
     clear H
     have H := H1
     clear H1
     by_cases c5 : 0 ≤ x6_1
     rotate_left
     ·rw [if_neg c5] at H
      exact absurd H (by simp)
     rw [if_pos c5] at H
     have c5b0 : decide (0 ≤ x6_1) = true := decide_eq_true c5
     clear c5
     by_cases c6 : x6_1 < (l0.length : Int)
     rotate_left
     ·rw [if_neg c6] at H
      exact absurd H (by simp)
     rw [if_pos c6] at H
     have c6b0 : decide (x6_1 < (l0.length : Int)) = true := decide_eq_true c6
     clear c6
     replace H := Option.bind_eq_some_iff.mp H
     obtain ⟨⟨t179, t180, t181, t182, t183, t184⟩, A70, H⟩ := H
     replace H : (if x4_1.length < 2199023255552 then ((tenementlaw22_refTxn.f kj1 t179 t180 t181 t182 t183 t184).bind fun bt191 => (if x5_1.length < 2199023255552 then (tenementlaw22_deals.l0 kj1 l0 (x4_1 ++ [(⟨(⟨(⟨t179, t180, t181, t182⟩ : S29), t183⟩ : S56), t184⟩ : S64)]) (x5_1 ++ [(⟨(⟨(⟨bt191.1, bt191.2.1, bt191.2.2.1, bt191.2.2.2.1⟩ : S42), bt191.2.2.2.2.1⟩ : S78), bt191.2.2.2.2.2⟩ : S81)]) (wrap64 (x6_1 + 1))) else (none))) else (none)) = some (r1, r2) := H
     have A7 := Aside0.mk A70
     clear A70
     by_cases c8 : x4_1.length < 2199023255552
     rotate_left
     ·rw [if_neg c8] at H
      exact absurd H (by simp)
     rw [if_pos c8] at H
     have LMc8 := Aside0.mk c8
     clear c8
     obtain ⟨y188, hy188⟩ : ∃ y_ : List (S64), y_ = (x4_1 ++ [(⟨(⟨(⟨t179, t180, t181, t182⟩ : S29), t183⟩ : S56), t184⟩ : S64)]) := ⟨_, rfl⟩
     replace H : ((tenementlaw22_refTxn.f kj1 t179 t180 t181 t182 t183 t184).bind fun bt191 => (if x5_1.length < 2199023255552 then (tenementlaw22_deals.l0 kj1 l0 y188 (x5_1 ++ [(⟨(⟨(⟨bt191.1, bt191.2.1, bt191.2.2.1, bt191.2.2.2.1⟩ : S42), bt191.2.2.2.2.1⟩ : S78), bt191.2.2.2.2.2⟩ : S81)]) (wrap64 (x6_1 + 1))) else (none))) = some (r1, r2) := by first | (rw [hy188]; with_reducible exact H) | (have H2_ := (Option.bind_some _ _).symm.trans H; rw [hy188]; with_reducible exact H2_) | (have H2_ := (Option.bind_some _ _).symm.trans H; with_reducible exact H2_) | with_reducible exact H | (rw [hy188]; exact H) | exact H
     have Ny188 := Aside0.mk hy188
     clear hy188
     replace H := Option.bind_eq_some_iff.mp H
     obtain ⟨⟨t191, t192, t193, t194, t195, t196⟩, A90, H⟩ := H
     replace H : (if x5_1.length < 2199023255552 then (tenementlaw22_deals.l0 kj1 l0 y188 (x5_1 ++ [(⟨(⟨(⟨t191, t192, t193, t194⟩ : S42), t195⟩ : S78), t196⟩ : S81)]) (wrap64 (x6_1 + 1))) else (none)) = some (r1, r2) := H
     have A9 := Aside0.mk A90
     clear A90
     by_cases c10 : x5_1.length < 2199023255552
     rotate_left
     ·rw [if_neg c10] at H
      exact absurd H (by simp)
     rw [if_pos c10] at H
     have LMc10 := Aside0.mk c10
     clear c10
     obtain ⟨y199, hy199⟩ : ∃ y_ : List (S81), y_ = (x5_1 ++ [(⟨(⟨(⟨t191, t192, t193, t194⟩ : S42), t195⟩ : S78), t196⟩ : S81)]) := ⟨_, rfl⟩
     replace H : (tenementlaw22_deals.l0 kj1 l0 y188 y199 (wrap64 (x6_1 + 1))) = some (r1, r2) := by first | (rw [hy199]; with_reducible exact H) | (have H2_ := (Option.bind_some _ _).symm.trans H; rw [hy199]; with_reducible exact H2_) | (have H2_ := (Option.bind_some _ _).symm.trans H; with_reducible exact H2_) | with_reducible exact H | (rw [hy199]; exact H) | exact H
     have Ny199 := Aside0.mk hy199
     clear hy199
     have H' := Aside0.mk H
     clear H
     have p178 : 0 ≤ (x6_1 : Int) := of_decide_eq_true (by first | (with_reducible assumption) | assumption)
     have q178 : x6_1 < (l0.length : Int) := of_decide_eq_true (by first | (with_reducible assumption) | assumption)
     obtain ⟨ad178, A178_6, c178_6, e178, hx178_0, hx178_1, hx178_2, hx178_3, hx178_4, hx178_5, hx178_6, hx178_7, hl178_6, hi178_6⟩ := at_T61 HR0.out x6_1 p178 q178
     cases e178
     replace hx178_0 := (HB.out.cell (World.block_lt_of_cell? w _ hx178_0)).trans hx178_0
     replace hx178_1 := (HB.out.cell (World.block_lt_of_cell? w _ hx178_1)).trans hx178_1
     replace hx178_2 := (HB.out.cell (World.block_lt_of_cell? w _ hx178_2)).trans hx178_2
     replace hx178_3 := (HB.out.cell (World.block_lt_of_cell? w _ hx178_3)).trans hx178_3
     replace hx178_4 := (HB.out.cell (World.block_lt_of_cell? w _ hx178_4)).trans hx178_4
     replace hx178_5 := (HB.out.cell (World.block_lt_of_cell? w _ hx178_5)).trans hx178_5
     replace hx178_6 := (HB.out.cell (World.block_lt_of_cell? w _ hx178_6)).trans hx178_6
     replace hx178_7 := (HB.out.cell (World.block_lt_of_cell? w _ hx178_7)).trans hx178_7
     have HR178_6 := Aside0.mk hi178_6
     have HC178_6 := Aside0.mk hl178_6
     clear hi178_6 hl178_6
     replace p178 := eq_true p178
     replace q178 := eq_true q178
     go_wp2_with (first | ((with_reducible refine gate_callee (f := 26) rfl ?_); refine Kg_ (some 22) rfl rfl Try.func26 (by kernel_rfl) rfl #[.agg #[.int .u64 ((rd_T61 l0 x6_1).f0.f0.f0.f0), .int .u64 ((rd_T61 l0 x6_1).f0.f0.f0.f1), .int .u64 ((rd_T61 l0 x6_1).f0.f0.f0.f2), .int .u64 ((rd_T61 l0 x6_1).f0.f0.f0.f3), .int .i64 ((rd_T61 l0 x6_1).f0.f0.f1), .bool ((rd_T61 l0 x6_1).f0.f1), .slice A178_6 ((rd_T61 l0 x6_1).f1).length c178_6, .bool ((rd_T61 l0 x6_1).f2)]] rfl ?_; (with_reducible refine (tenementlaw22_Deal_deal.calls kj1 ((rd_T61 l0 x6_1).f0.f0.f0.f0) ((rd_T61 l0 x6_1).f0.f0.f0.f1) ((rd_T61 l0 x6_1).f0.f0.f0.f2) ((rd_T61 l0 x6_1).f0.f0.f0.f3) ((rd_T61 l0 x6_1).f0.f0.f1) ((rd_T61 l0 x6_1).f0.f1) _ _ ((rd_T61 l0 x6_1).f1) ((rd_T61 l0 x6_1).f2) t179 t180 t181 t182 t183 t184 _ ?side1 ?side2 A7.out).mono ?_); (case side1 => repeat (first | exact (Kd.C_below HR178_6.out HB.out) | (with_reducible refine Kd.C_alloc ?_ _) | (with_reducible refine Kd.C_drewN ?_ _) | (with_reducible refine Kd.C_drew ?_))); (case side2 => exact HC178_6.out); rintro e w11 ⟨v185, rfl, ho0, hb⟩; refine ⟨_, rfl, ?_⟩; have HO186 := Aside0.mk (Kd.R_lower ho0 (below_size (Ky_ HB))); replace HO_4 := Aside0.mk (Kd.S_elder' (by (with_reducible repeat (first | apply Kd.S_alloc | apply Kd.S_drewN | apply Kd.S_drew)); exact HO_4.out) (Kd.R_base ho0) hb); replace HO_5 := Aside0.mk (Kd.S_below (by (with_reducible repeat (first | apply Kd.S_alloc | apply Kd.S_drewN | apply Kd.S_drew)); exact HO_5.out) hb); replace HB := Ks_ HB hb; (try clear hb); (try clear hb2); (try clear hk); (try clear hi); (try clear ho0)) | ((with_reducible refine gate_dst (N := 7) rfl ?_); refine Ka_ 7 #[.int .u64 0, .int .u64 0, .int .u64 0, .int .u64 0, .int .i64 0, .slice none 0 0] 64 ?_; intro gb187 hg w12 hbox hb; have BK187 := Aside0.mk (hbox); have GW187 := Kw_ HB hg; have GE187 := GW187; replace HO_4 := Aside0.mk (Kd.S_below (Kd.S_elderB (by (with_reducible repeat (first | apply Kd.S_alloc | apply Kd.S_drewN | apply Kd.S_drew)); exact HO_4.out) gb187 (Nat.le_of_eq hg.symm)) hb); replace HO_5 := Aside0.mk (Kd.S_below (by (with_reducible repeat (first | apply Kd.S_alloc | apply Kd.S_drewN | apply Kd.S_drew)); exact HO_5.out) hb); replace HO186 := Aside0.mk (Kd.R_below (Ku_ HO186) hb); replace HB := Ks_ HB hb; clear hb hbox hg; obtain ⟨hcz13_0, hcz13_1, hcz13_2, hcz13_3, hcz13_4, hcz13_5, hfz13_0, hfz13_1, hfz13_2, hfz13_3, hfz13_4, hfz13_5⟩ := Ke6_ BK187.out; obtain ⟨Ao14, co14, eo14⟩ := Kd.R_slice HO186.out; subst eo14) | ((with_reducible refine gate_store (t := 64) (p := 7) rfl ?_); refine store_event (t := 64) (p := 7) (v := ?vo_w15) (w1 := ((((((w12.setCell ⟨gb187, 0, none⟩ (.int .u64 t179)).setCell ⟨gb187, 1, none⟩ (.int .u64 t180)).setCell ⟨gb187, 2, none⟩ (.int .u64 t181)).setCell ⟨gb187, 3, none⟩ (.int .u64 t182)).setCell ⟨gb187, 4, none⟩ (.int .i64 t183)).setCell ⟨gb187, 5, none⟩ (.slice Ao14 t184.length co14))) ?hg ?ho ?hn ?hr ?_; (case ho => rfl); (case hg => rfl); (case hn => rfl); (case hr => first | (go_simp; done) | (go_simp; rfl)); intro w15 hw; replace HO_4 : Aside0 (Kd.S k64 64 w15 w.heap.size (fun k_ => some k_ ≠ (.slice Ao14 t184.length co14 : Value).ownBlock ∧ k_ ≠ gb187) u4 x4_1) := ⟨(by rw [hw]; exact (by (with_reducible repeat (first | apply Kd.S_alloc | apply Kd.S_drewN | apply Kd.S_drew)); exact Kd.S_mono (Kd.S_far (p := ⟨gb187, 5, none⟩) (Kd.S_far (p := ⟨gb187, 4, none⟩) (Kd.S_far (p := ⟨gb187, 3, none⟩) (Kd.S_far (p := ⟨gb187, 2, none⟩) (Kd.S_far (p := ⟨gb187, 1, none⟩) (Kd.S_far (p := ⟨gb187, 0, none⟩) (Kd.S_mono HO_4.out (fun k_ hk => (⟨hk, hk.2⟩ : _ ∧ k_ ≠ gb187))) (fun _ hk => hk.2) (.int .u64 t179)) (fun _ hk => hk.2) (.int .u64 t180)) (fun _ hk => hk.2) (.int .u64 t181)) (fun _ hk => hk.2) (.int .u64 t182)) (fun _ hk => hk.2) (.int .i64 t183)) (fun _ hk => hk.2) (.slice Ao14 t184.length co14)) (fun _ hk => ⟨hk.1.1.2, hk.1.2⟩)))⟩; replace HO_5 : Aside0 (Kd.S k81 81 w15 w.heap.size (fun _ => True) u5 x5_1) := ⟨(by rw [hw]; exact (by (with_reducible repeat (first | apply Kd.S_alloc | apply Kd.S_drewN | apply Kd.S_drew)); exact Kd.S_mono (Kd.S_far (p := ⟨gb187, 5, none⟩) (Kd.S_far (p := ⟨gb187, 4, none⟩) (Kd.S_far (p := ⟨gb187, 3, none⟩) (Kd.S_far (p := ⟨gb187, 2, none⟩) (Kd.S_far (p := ⟨gb187, 1, none⟩) (Kd.S_far (p := ⟨gb187, 0, none⟩) (Kd.S_types HO_5.out BK187.out (by decide)) (fun _ hk => hk.2) (.int .u64 t179)) (fun _ hk => hk.2) (.int .u64 t180)) (fun _ hk => hk.2) (.int .u64 t181)) (fun _ hk => hk.2) (.int .u64 t182)) (fun _ hk => hk.2) (.int .i64 t183)) (fun _ hk => hk.2) (.slice Ao14 t184.length co14)) (fun _ hk => trivial)))⟩; replace HO186 : Aside0 (Kd.R k24 24 w15 w.heap.size (fun _ => True) (.slice Ao14 t184.length co14) t184) := ⟨(by rw [hw]; exact (by (with_reducible repeat (first | apply Kd.R_alloc | apply Kd.R_drewN | apply Kd.R_drew)); exact Kd.R_mono (Kd.R_far (p := ⟨gb187, 5, none⟩) (Kd.R_far (p := ⟨gb187, 4, none⟩) (Kd.R_far (p := ⟨gb187, 3, none⟩) (Kd.R_far (p := ⟨gb187, 2, none⟩) (Kd.R_far (p := ⟨gb187, 1, none⟩) (Kd.R_far (p := ⟨gb187, 0, none⟩) (Kd.R_types HO186.out BK187.out (by decide)) (fun _ hk => hk.2) (.int .u64 t179)) (fun _ hk => hk.2) (.int .u64 t180)) (fun _ hk => hk.2) (.int .u64 t181)) (fun _ hk => hk.2) (.int .u64 t182)) (fun _ hk => hk.2) (.int .i64 t183)) (fun _ hk => hk.2) (.slice Ao14 t184.length co14)) (fun _ hk => trivial)))⟩; replace BK187 : Aside0 (w15.heap[gb187]? = some (.cells #[.int .u64 t179, .int .u64 t180, .int .u64 t181, .int .u64 t182, .int .i64 t183, .slice Ao14 t184.length co14] 64 (0, 0))) := ⟨(by rw [hw]; exact (by refine Kv_ ?_; refine blk_put (cs := #[.int .u64 t179, .int .u64 t180, .int .u64 t181, .int .u64 t182, .int .i64 t183, .slice none 0 0]) ?_ 5 _ rfl; refine Kv_ ?_; refine blk_put (cs := #[.int .u64 t179, .int .u64 t180, .int .u64 t181, .int .u64 t182, .int .i64 0, .slice none 0 0]) ?_ 4 _ rfl; refine Kv_ ?_; refine blk_put (cs := #[.int .u64 t179, .int .u64 t180, .int .u64 t181, .int .u64 0, .int .i64 0, .slice none 0 0]) ?_ 3 _ rfl; refine Kv_ ?_; refine blk_put (cs := #[.int .u64 t179, .int .u64 t180, .int .u64 0, .int .u64 0, .int .i64 0, .slice none 0 0]) ?_ 2 _ rfl; refine Kv_ ?_; refine blk_put (cs := #[.int .u64 t179, .int .u64 0, .int .u64 0, .int .u64 0, .int .i64 0, .slice none 0 0]) ?_ 1 _ rfl; refine Kv_ ?_; refine blk_put (cs := #[.int .u64 0, .int .u64 0, .int .u64 0, .int .u64 0, .int .i64 0, .slice none 0 0]) ?_ 0 _ rfl; exact Kq_ BK187))⟩; replace HB : Aside0 (Below w.heap.size w w15) := ⟨(by rw [hw]; exact (Kz_ HB GE187))⟩; clear hw; obtain ⟨hcz16_0, hcz16_1, hcz16_2, hcz16_3, hcz16_4, hcz16_5, hfz16_0, hfz16_1, hfz16_2, hfz16_3, hfz16_4, hfz16_5⟩ := Ke6_ BK187.out) | ((with_reducible refine gate_builtin (b := .append) (xs := #[.tmp 23, .tmp 25]) rfl ?_); at_builtin; refine Kd.S_append k64 (w0 := w) w.heap.size rfl (.tmp 23) (.tmp 25) 33 64 (.agg #[(.int .u64 0), (.int .u64 0), (.int .u64 0), (.int .u64 0), (.int .i64 0), (.slice none 0 0)]) 64 rfl Try.underlying33 info64 rfl (by decide) (by omega) u4 x4_1 (⟨(⟨(⟨t179, t180, t181, t182⟩ : S29), t183⟩ : S56), t184⟩ : S64) [.int .u64 t179, .int .u64 t180, .int .u64 t181, .int .u64 t182, .int .i64 t183, .slice Ao14 t184.length co14] (fun k_ => k_ ≠ gb187) (fun k_ => some k_ = (.slice Ao14 t184.length co14 : Value).ownBlock) rfl rfl ?aP (fun k_ hk_ => ((Kd.R_mono (ok' := fun k_ => ((fun k_ => k_ ≠ gb187)) k_ ∧ some k_ ≠ (u4 : Value).ownBlock) (Kd.R_types (Kd.R_apart' (HO186.out) (Kd.S_typed HO_4.out) (by decide)) BK187.out (by decide)) (fun k_ hk => ⟨hk.2, hk.1.2⟩))).1 k_ hk_.symm) ?aF ?aO ?aB ?aS ?aL ?_; (case aP => exact k64_mkM _ _ _ (⟨(⟨(⟨t179, t180, t181, t182⟩ : S29), t183⟩ : S56), t184⟩ : S64) (Kd.R_mono (Kd.R_tight rfl (Kd.R_mono (ok' := fun k_ => ((fun k_ => k_ ≠ gb187)) k_ ∧ some k_ ≠ (u4 : Value).ownBlock) (Kd.R_types (Kd.R_apart' (HO186.out) (Kd.S_typed HO_4.out) (by decide)) BK187.out (by decide)) (fun k_ hk => ⟨hk.2, hk.1.2⟩))) (fun _ h_ => h_))); (case aB => exact (Kz_ HB GE187)); (case aF => exact (fun k_ hk => Kd.freshB (g := gb187) (o := .cells #[.int .u64 t179, .int .u64 t180, .int .u64 t181, .int .u64 t182, .int .i64 t183, .slice Ao14 t184.length co14] 64 (0, 0)) (Kq_ BK187) k_ hk)); (case aO => exact (by (with_reducible repeat (first | apply Kd.S_alloc | apply Kd.S_drewN | apply Kd.S_drew)); exact Kd.S_mono HO_4.out (fun k_ hk => ⟨hk.2, fun e_ => hk.1 e_⟩))); (case aS => exact (below_size (Kz_ HB GE187))); (case aL => have := LMc8.out; omega); intro v189 w17 ho hb hg hat; rw [← Ny188.out] at ho; have HO190 := Aside0.mk (ho); replace HO_5 := Aside0.mk (Kd.S_over' (by (with_reducible repeat (first | apply Kd.S_alloc | apply Kd.S_drewN | apply Kd.S_drew)); exact HO_5.out) (Kd.S_typed (by (with_reducible repeat (first | apply Kd.S_alloc | apply Kd.S_drewN | apply Kd.S_drew)); exact HO_4.out)) (by decide) hg); replace BK187 := Aside0.mk (blk_grown (g := gb187) (o := .cells #[.int .u64 t179, .int .u64 t180, .int .u64 t181, .int .u64 t182, .int .i64 t183, .slice Ao14 t184.length co14] 64 (0, 0)) (Kq_ BK187) hg (Kd.S_away HO_4.out (fun _ hk => hk.2))); replace HB := Aside0.mk (hb); have HM_ := Aside0.mk (Kd.R_grown (Kd.R_apart' (HO186.out) (Kd.S_typed HO_4.out) (by decide)) hg (fun _ hk => hk.2)); clear HO_4; clear HO186; have HO186 := HM_; clear HM_; clear ho hb hg hat; obtain ⟨hcz18_0, hcz18_1, hcz18_2, hcz18_3, hcz18_4, hcz18_5, hfz18_0, hfz18_1, hfz18_2, hfz18_3, hfz18_4, hfz18_5⟩ := Ke6_ BK187.out) | ((with_reducible refine gate_callee (f := 32) rfl ?_); refine Kg_ (some 29) rfl rfl Try.func32 (by kernel_rfl) rfl #[.agg #[.int .u64 t179, .int .u64 t180, .int .u64 t181, .int .u64 t182, .int .i64 t183, .slice Ao14 t184.length co14]] rfl ?_; (with_reducible refine (tenementlaw22_refTxn.calls kj1 t179 t180 t181 t182 t183 _ _ t184 t191 t192 t193 t194 t195 t196 _ ?side1 ?side2 A9.out).mono ?_); (case side1 => repeat (first | exact (Kd.R_reads' HO186.out).2.2 | (with_reducible refine Kd.C_alloc ?_ _) | (with_reducible refine Kd.C_drewN ?_ _) | (with_reducible refine Kd.C_drew ?_))); (case side2 => exact (Kd.R_reads' HO186.out).2.1); rintro e w19 ⟨v197, rfl, ho0, hb⟩; refine ⟨_, rfl, ?_⟩; have HO198 := Aside0.mk (Kd.R_lower ho0 (below_size (Kz_ HB GE187))); replace HO_5 := Aside0.mk (Kd.S_elder' (by (with_reducible repeat (first | apply Kd.S_alloc | apply Kd.S_drewN | apply Kd.S_drew)); exact HO_5.out) (Kd.R_base ho0) hb); replace HO190 := Aside0.mk (Kd.S_below (by (with_reducible repeat (first | apply Kd.S_alloc | apply Kd.S_drewN | apply Kd.S_drew)); exact HO190.out) hb); replace BK187 := Kb_ BK187 hb; replace HB := Ks_ HB hb; (try clear hb); (try clear hb2); (try clear hk); (try clear hi); (try clear ho0); obtain ⟨Ao21, co21, eo21⟩ := Kd.R_slice HO198.out; subst eo21) | ((with_reducible refine gate_builtin (b := .append) (xs := #[.tmp 27, .tmp 30]) rfl ?_); at_builtin; refine Kd.S_append k81 (w0 := w) w.heap.size rfl (.tmp 27) (.tmp 30) 34 81 (.agg #[(.int .u64 0), (.int .u64 0), (.int .u64 0), (.int .u64 0), (.int .i64 0), (.slice none 0 0)]) 64 rfl Try.underlying34 info81 rfl (by decide) (by omega) u5 x5_1 (⟨(⟨(⟨t191, t192, t193, t194⟩ : S42), t195⟩ : S78), t196⟩ : S81) [.int .u64 t191, .int .u64 t192, .int .u64 t193, .int .u64 t194, .int .i64 t195, .slice Ao21 t196.length co21] (fun _ => True) (fun k_ => some k_ = (.slice Ao21 t196.length co21 : Value).ownBlock) rfl rfl ?aP (fun k_ hk_ => ((Kd.R_mono (ok' := fun k_ => ((fun _ => True)) k_ ∧ some k_ ≠ (u5 : Value).ownBlock) (Kd.R_apart' (HO198.out) (Kd.S_typed HO_5.out) (by decide)) (fun k_ hk => ⟨trivial, hk.2⟩))).1 k_ hk_.symm) ?aF ?aO ?aB ?aS ?aL ?_; (case aP => exact k81_mkM _ _ _ (⟨(⟨(⟨t191, t192, t193, t194⟩ : S42), t195⟩ : S78), t196⟩ : S81) (Kd.R_mono (Kd.R_tight rfl (Kd.R_mono (ok' := fun k_ => ((fun _ => True)) k_ ∧ some k_ ≠ (u5 : Value).ownBlock) (Kd.R_apart' (HO198.out) (Kd.S_typed HO_5.out) (by decide)) (fun k_ hk => ⟨trivial, hk.2⟩))) (fun _ h_ => h_))); (case aB => exact (Kz_ HB GE187)); (case aF => exact (fun _ _ => trivial)); (case aO => exact (by (with_reducible repeat (first | apply Kd.S_alloc | apply Kd.S_drewN | apply Kd.S_drew)); exact Kd.S_mono HO_5.out (fun k_ hk => ⟨trivial, fun e_ => hk.2 e_⟩))); (case aS => exact (below_size (Kz_ HB GE187))); (case aL => have := LMc10.out; omega); intro v200 w20 ho hb hg hat; rw [← Ny199.out] at ho; have HO201 := Aside0.mk (ho); replace BK187 := Aside0.mk (blk_grown (g := gb187) (o := .cells #[.int .u64 t179, .int .u64 t180, .int .u64 t181, .int .u64 t182, .int .i64 t183, .slice Ao14 t184.length co14] 64 (0, 0)) (Kq_ BK187) hg (Kd.S_ne HO_5.out BK187.out (by decide))); replace HO190 := Aside0.mk (Kd.S_over' (by (with_reducible repeat (first | apply Kd.S_alloc | apply Kd.S_drewN | apply Kd.S_drew)); exact HO190.out) (Kd.S_typed (by (with_reducible repeat (first | apply Kd.S_alloc | apply Kd.S_drewN | apply Kd.S_drew)); exact HO_5.out)) (by decide) hg); replace HB := Aside0.mk (hb); clear HO_5; clear HO198; clear ho hb hg hat))
     go_roundg kj1
     case measure => have := HK1.out; have := HJ1.out; omega
     case rel => exact ⟨(y188), (y199), (wrap64 (x6_1 + 1)), (by first | rfl | (simp; done) | (simp [*]; done)), H', ⟨by have := HK1.out; have := HJ1.out; omega⟩, ⟨by (with_reducible repeat (first | apply Kd.S_alloc | apply Kd.S_drewN | apply Kd.S_drew)); exact Kd.S_mono HO190.out (fun _ hk => trivial)⟩, ⟨by (with_reducible repeat (first | apply Kd.S_alloc | apply Kd.S_drewN | apply Kd.S_drew)); exact HO201.out⟩, ⟨Kz_ HB GE187⟩⟩
end Go.Proofs.Ythjhkcebcgdeoaa.Q

set_option linter.unusedVariables false
set_option linter.unusedSimpArgs false
namespace Go.Proofs.Ythjhkcebcgdeoaa.Pure
open Go.RowKit Go.Proofs.Ythjhkcebcgdeoaa.Q Go.Proofs.YthjhkcebcgdeoaaW.PrintWords Go.Proofs.YthjhkcebcgdeoaaW.PrintLast Go.Proofs.YthjhkcebcgdeoaaW.PrintMore Go.Proofs.Ythjhkcebcgdeoaa.Plain
abbrev Wr := S24
abbrev Pt := S26
def fits (x : Wr) : Prop := x.f0.size ≤ 140737488351232 ∧ x.f1.size ≤ 140737488351232 ∧ x.f2.size ≤ 140737488351232
theorem str_size (l : List Int) : (strOfNums l).size = l.length := by
 unfold strOfNums
 simp [ByteArray.size]
def wrt (p : Pt) (own : Bool) : Wr :=
 if own = true then (if 224 ≤ p.f2 then ⟨strOfNums [98, IntKind.u8.wrap (48 + Int.tmod p.f2 2)], strOfNums [IntKind.u8.wrap (97 + Int.tmod (IntKind.u8.wrap (Int.tdiv p.f2 2)) 4)], ⟨#[]⟩, true⟩
  else ⟨strOfNums [98, IntKind.u8.wrap (48 + Int.tmod p.f2 2)], strOfNums [IntKind.u8.wrap (97 + Int.tmod (IntKind.u8.wrap (Int.tdiv p.f2 2)) 4)], p.f0.f2.extract 0 (min p.f0.f2.size 8), false⟩)
 else p.f0
theorem wrt_f (p : Pt) (own : Bool) (h : fits p.f0) : tenementlaw22_Put_write.f p.f0.f0 p.f0.f1 p.f0.f2 p.f0.f3 own p.f2 = some ((wrt p own).f0, (wrt p own).f1, (wrt p own).f2, (wrt p own).f3) := by
 unfold tenementlaw22_Put_write.f wrt
 cases own with
 | true =>
  rw [if_pos rfl, if_pos rfl, if_pos (by have := h.2.2; omega)]
  by_cases c : 224 ≤ p.f2
  ·rw [if_pos c, if_pos c]
  ·rw [if_neg c, if_neg c]
 | false => rw [if_neg (by simp), if_neg (by simp)]
theorem wrt_fits (p : Pt) (own : Bool) (h : fits p.f0) : fits (wrt p own) := by
 unfold wrt
 cases own with
 | true =>
  rw [if_pos rfl]
  have z : (⟨#[]⟩ : ByteArray).size = 0 := rfl
  by_cases c : 224 ≤ p.f2
  ·rw [if_pos c]
   refine ⟨?_, ?_, ?_⟩
   ·show (strOfNums _).size ≤ _; rw [str_size]; simp
   ·show (strOfNums _).size ≤ _; rw [str_size]; simp
   ·show (⟨#[]⟩ : ByteArray).size ≤ _; omega
  ·rw [if_neg c]
   refine ⟨?_, ?_, ?_⟩
   ·show (strOfNums _).size ≤ _; rw [str_size]; simp
   ·show (strOfNums _).size ≤ _; rw [str_size]; simp
   ·show (ByteArray.extract _ _ _).size ≤ _; rw [ByteArray.size_extract]; omega
 | false => rw [if_neg (by simp)]; exact h
def same (w y : Wr) : Bool := decide (y.f0 = w.f0) && decide (y.f1 = w.f1)
def wrs (most : Nat) (whole : Bool) : List Pt → List Wr → List Wr
 | [], out => out
 | p :: ps, out => if out.length < most then (if (whole && out.any (same (wrt p (whole || p.f1)))) = true then wrs most whole ps out else wrs most whole ps (out ++ [wrt p (whole || p.f1)])) else out
theorem wrs_len (most : Nat) (whole : Bool) : ∀ l out, out.length ≤ most → (wrs most whole l out).length ≤ most
 | [], out, h => h
 | p :: ps, out, h => by
  unfold wrs
  by_cases c : out.length < most
  ·rw [if_pos c]
   split
   ·exact wrs_len most whole ps out h
   ·exact wrs_len most whole ps _ (by simp; omega)
  ·rw [if_neg c]; exact h
theorem wrs_all (most : Nat) (whole : Bool) (Q : Wr → Prop) : ∀ l out, (∀ p ∈ l, Q (wrt p (whole || p.f1))) → (∀ x ∈ out, Q x) → ∀ x ∈ wrs most whole l out, Q x
 | [], out, _, h => h
 | p :: ps, out, hl, h => by
  unfold wrs
  have hl' : ∀ q ∈ ps, Q (wrt q (whole || q.f1)) := fun q hq => hl q (by simp [hq])
  split
  ·split
   ·exact wrs_all most whole Q ps out hl' h
   ·refine wrs_all most whole Q ps _ hl' (fun x hx => ?_)
    rcases List.mem_append.1 hx with hx | hx
    ·exact h x hx
    ·rw [List.mem_singleton.1 hx]; exact hl p (by simp)
  ·exact h
theorem idx (i : Nat) (h : i ≤ 4611686018427387904) : wrap64 ((i : Int) + 1) = ((i + 1 : Nat) : Int) := by
 rw [wrap64_id (by omega) (by omega)]
 omega
theorem rdW (l : List Wr) (j : Nat) (h : j < l.length) : rd_T24 l (j : Int) = l[j] := by
 unfold rd_T24
 rw [Int.toNat_natCast, List.getD_eq_getElem?_getD, List.getElem?_eq_getElem h]
 rfl
theorem rdP (l : List Pt) (j : Nat) (h : j < l.length) : rd_T26 l (j : Int) = l[j] := by
 unfold rd_T26
 rw [Int.toNat_natCast, List.getD_eq_getElem?_getD, List.getElem?_eq_getElem h]
 rfl
theorem wr_l1 (l : List Pt) (most : Int) (whole : Bool) (out : List Wr) (i : Int) (w : Wr) (h7 : out.length ≤ 1000) (K : Nat) : ∀ d j fl, j + d = out.length →
  tenementlaw22_writes.l1 (K + d + 1) l most whole out i fl (j : Int) w.f0 w.f1 w.f2 w.f3 =
   if (whole && (fl || (out.drop j).any (same w))) = true then tenementlaw22_writes.l0 K l most whole out (wrap64 (i + 1)) else tenementlaw22_writes.l0 K l most whole (out ++ [w]) (wrap64 (i + 1)) := by
 intro d
 induction d with
 | zero =>
  intro j fl hj
  have e : out.drop j = [] := List.drop_eq_nil_of_le (by omega)
  rw [Nat.add_zero, tenementlaw22_writes.l1, if_neg (by omega), e, List.any_nil, Bool.or_false]
  cases whole with
  | true =>
   rw [if_pos rfl]
   cases fl with
   | true => rw [if_pos rfl, if_pos (by rfl)]
   | false => rw [if_neg (by simp), if_pos (by omega), if_neg (by simp)]
  | false => rw [if_neg (by simp), if_pos (by omega), if_neg (by simp)]
 | succ d ih =>
  intro j fl hj
  have hlt : j < out.length := by omega
  have e : out.drop j = out[j] :: out.drop (j + 1) := List.drop_eq_getElem_cons hlt
  rw [show K + (d + 1) + 1 = (K + d + 1) + 1 by omega, tenementlaw22_writes.l1, if_pos (by omega), idx j (by omega), e, List.any_cons]
  cases fl with
  | true =>
   rw [if_pos rfl, ih (j + 1) true (by omega)]
   simp only [Bool.true_or]
  | false =>
   rw [if_neg (by simp), if_pos (by omega), rdW out j hlt, Bool.false_or]
   by_cases c : (out[j].f0).toList = w.f0.toList
   ·rw [if_pos c, ih (j + 1) _ (by omega)]
    have c0 := toList_iff.1 c
    have hs : ((out[j].f1).toList == w.f1.toList) = same w out[j] := by
     unfold same
     rw [decide_eq_true c0, Bool.true_and]
     by_cases c1 : out[j].f1 = w.f1
     ·rw [decide_eq_true c1, c1]; simp
     ·rw [decide_eq_false c1]
      exact beq_eq_false_iff_ne.2 (fun h => c1 (toList_iff.1 h))
    rw [hs]
   ·rw [if_neg c, ih (j + 1) _ (by omega)]
    have hs : same w out[j] = false := by
     unfold same
     rw [decide_eq_false (fun h => c (by rw [h])), Bool.false_and]
    rw [hs, Bool.false_or]
theorem wr_l0 (l : List Pt) (most : Nat) (hm : most ≤ 100) (whole : Bool) (hl : ∀ p ∈ l, fits p.f0) (hz : l.length ≤ 4611686018427387904) : ∀ d i (out : List Wr) K, i + d = l.length → out.length ≤ most → (d + 1) * (most + 5) ≤ K →
  tenementlaw22_writes.l0 K l (most : Int) whole out (i : Int) = some (wrs most whole (l.drop i) out) := by
 intro d
 induction d with
 | zero =>
  intro i out K hi ho hK
  obtain ⟨K, rfl⟩ : ∃ m, K = m + 2 := ⟨K - 2, by omega⟩
  have e : l.drop i = [] := List.drop_eq_nil_of_le (by omega)
  rw [tenementlaw22_writes.l0, if_neg (by omega), tenementlaw22_writes.j1, if_neg (by simp), e]
  rfl
 | succ d ih =>
  intro i out K hi ho hK
  have hlt : i < l.length := by omega
  have e : l.drop i = l[i] :: l.drop (i + 1) := List.drop_eq_getElem_cons hlt
  have hK' : (d + 1) * (most + 5) + (most + 5) ≤ K := by
   rw [show (d + 1 + 1) * (most + 5) = (d + 1) * (most + 5) + (most + 5) by rw [Nat.add_mul, Nat.one_mul]] at hK
   exact hK
  have hf : fits l[i].f0 := hl _ (List.getElem_mem _)
  rw [e]
  unfold wrs
  by_cases c : out.length < most
  ·rw [if_pos c]
   obtain ⟨m, hm'⟩ : ∃ m, K = (m + out.length + 1) + 3 ∧ (d + 1) * (most + 5) ≤ m := ⟨K - out.length - 4, by omega, by omega⟩
   rw [hm'.1, tenementlaw22_writes.l0, if_pos (by omega), decide_eq_true (by omega : (out.length : Int) < (most : Int)), tenementlaw22_writes.j1, if_pos rfl, if_pos (by omega), if_pos (by omega), rdP l i hlt]
   have key : ∀ own : Bool, own = (whole || l[i].f1) → tenementlaw22_writes.j2 (m + out.length + 1 + 1) l (most : Int) whole out (i : Int) l[i].f0.f0 l[i].f0.f1 l[i].f0.f2 l[i].f0.f3 own l[i].f2 =
     some (if (whole && out.any (same (wrt l[i] (whole || l[i].f1)))) = true then wrs most whole (l.drop (i + 1)) out else wrs most whole (l.drop (i + 1)) (out ++ [wrt l[i] (whole || l[i].f1)])) := by
    intro own ho'
    rw [tenementlaw22_writes.j2, wrt_f _ _ hf, Option.bind_some]
    show tenementlaw22_writes.l1 (m + out.length + 1) l (most : Int) whole out (i : Int) false 0 (wrt l[i] own).f0 (wrt l[i] own).f1 (wrt l[i] own).f2 (wrt l[i] own).f3 = _
    have h1 := wr_l1 l (most : Int) whole out (i : Int) (wrt l[i] own) (by omega) m out.length 0 false (by omega)
    rw [show ((0 : Nat) : Int) = 0 from rfl] at h1
    rw [h1, List.drop_zero, Bool.false_or, idx i (by omega), ho']
    split
    ·rw [ih (i + 1) out m (by omega) ho hm'.2]
    ·rw [ih (i + 1) _ m (by omega) (by simp; omega) hm'.2]
   cases whole with
   | true =>
    rw [if_pos rfl, key true rfl]
   | false =>
    rw [if_neg (by simp), key _ (by simp)]
  ·rw [if_neg c]
   obtain ⟨m, rfl⟩ : ∃ m, K = m + 2 := ⟨K - 2, by omega⟩
   rw [tenementlaw22_writes.l0, if_pos (by omega), decide_eq_false (by omega : ¬ (out.length : Int) < (most : Int)), tenementlaw22_writes.j1, if_neg (by simp)]
theorem writes_f (l : List Pt) (most : Nat) (hm : most ≤ 100) (whole : Bool) (hl : ∀ p ∈ l, fits p.f0) (hz : l.length ≤ 4611686018427387904) {K : Nat} (hK : (l.length + 1) * (most + 5) ≤ K) :
  tenementlaw22_writes.f K l (most : Int) whole = some (wrs most whole l []) := by
 unfold tenementlaw22_writes.f
 have := wr_l0 l most hm whole hl hz l.length 0 [] K (by omega) (by simp) hK
 rw [show ((0 : Nat) : Int) = 0 from rfl, List.drop_zero] at this
 exact this
end Go.Proofs.Ythjhkcebcgdeoaa.Pure

set_option linter.unusedVariables false
set_option linter.unusedSimpArgs false
namespace Go.Proofs.Ythjhkcebcgdeoaa.Pure
open Go Go.RowKit Go.Proofs.Ythjhkcebcgdeoaa.Q Go.Proofs.YthjhkcebcgdeoaaW.PrintWords Go.Proofs.YthjhkcebcgdeoaaW.PrintLast Go.Proofs.YthjhkcebcgdeoaaW.PrintMore Go.Proofs.Ythjhkcebcgdeoaa.Plain
open Go.Proofs.Ythjhkcebcgdeoaa.Jud (Tx St)
abbrev Dl := S61
theorem deal_own3 (v0 v1 v2 v3 d : Int) (h0 : (Lit.int .u64 v0).wf = true) (h1 : (Lit.int .u64 v1).wf = true) (h2 : (Lit.int .u64 v2).wf = true) (o : Bool) (l : List Pt) (hl : ∀ p ∈ l, fits p.f0) (hz : l.length ≤ 4611686018427387904) {K : Nat} (hK : (l.length + 1) * 15 + 10 ≤ K) :
  ∃ (a b c g e : Nat) (xs : List Wr), tenementlaw22_Deal_deal.f K v0 v1 v2 v3 d o l true = some ((a : Int), (b : Int), (c : Int), (g : Int), (e : Int), xs) ∧ (a ≤ 4 ∧ b ≤ 4 ∧ c ≤ 4 ∧ g ≤ 4) ∧ 1 ≤ e ∧ e ≤ 3 ∧ (∀ x ∈ xs, fits x) ∧ 1 ≤ xs.length ∧ xs.length ≤ 8 := by
 unfold tenementlaw22_Deal_deal.f
 obtain ⟨n0, n1, n2, n3, dc, em, hn4, hd1, hd3, hS⟩ := mark_own (v3 := v3) (d := d) h0 h1 h2 (k := K) (by omega)
 have ew := writes_f l 8 (by omega) true hl hz (K := K) (by omega)
 have hln := wrs_len 8 true l [] (by simp)
 rw [show ((8 : Nat) : Int) = 8 from rfl] at ew
 rw [if_pos rfl, em, Option.bind_some, ew, Option.bind_some]
 by_cases c : ((wrs 8 true l []).length : Int) = 0
 ·rw [if_pos c]
  have z2 : (⟨#[98, 48]⟩ : ByteArray).size = 2 := rfl
  have z1 : (⟨#[97]⟩ : ByteArray).size = 1 := rfl
  have z3 : (⟨#[118]⟩ : ByteArray).size = 1 := rfl
  refine ⟨n0, n1, n2, n3, dc, _, rfl, hn4, hd1, hd3, ?_, by simp, by simp⟩
  intro x hx1
  rw [List.mem_singleton.1 hx1]
  exact ⟨show (⟨#[98, 48]⟩ : ByteArray).size ≤ _ by omega, show (⟨#[97]⟩ : ByteArray).size ≤ _ by omega, show (⟨#[118]⟩ : ByteArray).size ≤ _ by omega⟩
 ·rw [if_neg c]
  exact ⟨n0, n1, n2, n3, dc, _, rfl, hn4, hd1, hd3, wrs_all 8 true fits l [] (fun p hp => wrt_fits p _ (hl p hp)) (by simp), by omega, hln⟩
theorem rd61 (l : List Dl) (j : Nat) (h : j < l.length) : rd_T61 l (j : Int) = l[j] := by
 unfold rd_T61
 rw [Int.toNat_natCast, List.getD_eq_getElem?_getD, List.getElem?_eq_getElem h]
 rfl
end Go.Proofs.Ythjhkcebcgdeoaa.Pure

set_option linter.unusedVariables false
set_option linter.unusedSimpArgs false
namespace Go.Proofs.Ythjhkcebcgdeoaa.Pure
open Go Go.RowKit Go.Proofs.Ythjhkcebcgdeoaa.Q Go.Proofs.YthjhkcebcgdeoaaW.PrintWords Go.Proofs.YthjhkcebcgdeoaaW.PrintLast Go.Proofs.YthjhkcebcgdeoaaW.PrintMore Go.Proofs.Ythjhkcebcgdeoaa.Plain
open Go.Proofs.Ythjhkcebcgdeoaa.Jud (Tx St one lst)
def sn (a b c d : Int) (x : St) : Bool := decide (x.f0.f0 ≤ a ∧ x.f0.f1 ≤ b ∧ x.f0.f2 ≤ c ∧ x.f0.f3 ≤ d)
end Go.Proofs.Ythjhkcebcgdeoaa.Pure

set_option linter.unusedVariables false
set_option linter.unusedSimpArgs false
namespace Go.Proofs.Ythjhkcebcgdeoaa.Pure
open Go Go.RowKit Go.Proofs.Ythjhkcebcgdeoaa.Q Go.Proofs.YthjhkcebcgdeoaaW.PrintWords Go.Proofs.YthjhkcebcgdeoaaW.PrintLast Go.Proofs.YthjhkcebcgdeoaaW.PrintMore Go.Proofs.Ythjhkcebcgdeoaa.Plain
open Go.Proofs.Ythjhkcebcgdeoaa.Jud (Tx St Wn one lst srt put past idxs byStamp srt_length idxs_length rdN nub nub_mem nub_nodup prs lastOf liveJ sum_perm)
theorem past_perm (cf : Int → Int → Int) (x : Int) : ∀ r : List Int, (past cf x r).Perm (x :: r)
 | [] => List.Perm.refl _
 | y :: r => by
  unfold past
  split
  ·exact ((past_perm cf x r).cons y).trans (List.Perm.swap x y r)
  ·exact List.Perm.refl _
theorem put_perm (cf : Int → Int → Int) (s : List Int) (x : Int) : (put cf s x).Perm (s ++ [x]) := by
 unfold put
 refine (List.reverse_perm _).trans ((past_perm cf x s.reverse).trans ?_)
 exact ((List.reverse_perm s).cons x).trans (List.perm_append_comm (l₁ := [x]))
def Bef (cf : Int → Int → Int) (u v : Int) : Prop := cf u v < 0 ∨ (cf u v = 0 ∧ u < v)
def ch (cf : Int → Int → Int) : List Int → Prop
 | [] => True
 | [_] => True
 | u :: v :: r => Bef cf v u ∧ ch cf (v :: r)
theorem ch_tail {cf : Int → Int → Int} {u : Int} {r : List Int} (h : ch cf (u :: r)) : ch cf r := by
 cases r with
 | nil => trivial
 | cons v r => exact h.2
theorem ch_past (cf : Int → Int → Int) (hneg : ∀ a b, cf b a = -cf a b) (x : Int) : ∀ (r : List Int), (∀ y ∈ r, y < x) → ch cf r → ch cf (past cf x r) ∧ ∀ w, cf x w < 0 → ch cf (w :: r) → ch cf (w :: past cf x r)
 | [], _, _ => ⟨trivial, fun w hw _ => ⟨.inl hw, trivial⟩⟩
 | y :: r, hlt, hc => by
  have hy := hlt y (by simp)
  have ih := ch_past cf hneg x r (fun z hz => hlt z (List.mem_cons_of_mem _ hz)) (ch_tail hc)
  by_cases c : cf x y < 0
  ·have e : past cf x (y :: r) = y :: past cf x r := by rw [past, if_pos c]
   rw [e]
   have h1 := ih.2 y c hc
   exact ⟨h1, fun w _ hw => ⟨hw.1, h1⟩⟩
  ·have e : past cf x (y :: r) = x :: y :: r := by rw [past, if_neg c]
   rw [e]
   have hb : Bef cf y x := by
    have := hneg x y
    unfold Bef
    omega
   exact ⟨⟨hb, hc⟩, fun w hw _ => ⟨.inl hw, hb, hc⟩⟩
theorem ch_srt (cf : Int → Int → Int) (hneg : ∀ a b, cf b a = -cf a b) : ∀ n, ch cf (srt cf (idxs n)).reverse ∧ ∀ y ∈ srt cf (idxs n), 0 ≤ y ∧ y < n
 | 0 => ⟨trivial, by simp [srt, idxs]⟩
 | n + 1 => by
  obtain ⟨h1, h2⟩ := ch_srt cf hneg n
  have e : srt cf (idxs (n + 1)) = put cf (srt cf (idxs n)) (n : Int) := by rw [← Go.Proofs.Ythjhkcebcgdeoaa.Jud.idxs_snoc, Go.Proofs.Ythjhkcebcgdeoaa.Jud.srt_snoc]
  rw [e]
  refine ⟨?_, ?_⟩
  ·unfold put
   rw [List.reverse_reverse]
   exact (ch_past cf hneg n _ (fun y hy => (h2 y (List.mem_reverse.1 hy)).2) h1).1
  ·intro y hy
   have := (put_perm cf (srt cf (idxs n)) n).mem_iff.1 hy
   rcases List.mem_append.1 this with h | h
   ·have := h2 y h; omega
   ·rw [List.mem_singleton.1 h]; omega
theorem rdI {l : List Int} {i : Nat} {x : Int} (h : l[i]? = some x) : rd l (i : Int) = x := by
 unfold rd
 rw [Int.toNat_natCast, List.getD_eq_getElem?_getD, h]
 rfl
def odT (x y : St) : Int := lex (key x.f0.f0 x.f0.f1 x.f0.f2 x.f0.f3 x.f1) (key y.f0.f0 y.f0.f1 y.f0.f2 y.f0.f3 y.f1)
theorem odT_neg (x y : St) : odT y x = -odT x y := lex_neg _ _
theorem odT_self (x : St) : odT x x = 0 := lex_self _
theorem odT_eq {x y : St} (h : odT x y = 0) : x = y := by
 obtain ⟨⟨a, b, c, d⟩, e⟩ := x
 obtain ⟨⟨a', b', c', d'⟩, e'⟩ := y
 obtain ⟨rfl, rfl, rfl, rfl, rfl⟩ := key_inj (lex_eq (key a b c d e) (key a' b' c' d' e') rfl h)
 rfl
def cm (x y : Wn) : Int := odT x.f0 y.f0
end Go.Proofs.Ythjhkcebcgdeoaa.Pure

set_option linter.unusedVariables false
set_option linter.unusedSimpArgs false
namespace Go.Proofs.Ythjhkcebcgdeoaa.Pure
open Go.RowKit Go.Proofs.Ythjhkcebcgdeoaa.Q Go.Proofs.YthjhkcebcgdeoaaW.PrintWords Go.Proofs.YthjhkcebcgdeoaaW.PrintLast Go.Proofs.YthjhkcebcgdeoaaW.PrintMore Go.Proofs.Ythjhkcebcgdeoaa.Plain
abbrev Rw := S86
def rw_ (x : Wr) : Rw := ⟨x.f0, x.f1, x.f2, x.f3⟩
theorem refWrites_loop (l : List Wr) (hz : l.length < 2513169434916) (K : Nat) : ∀ d i (out : List Rw), i + d = l.length → out.length = i → tenementlaw22_refWrites.l0 (K + d + 1) l out (i : Int) = some (out ++ (l.drop i).map rw_) := by
 intro d
 induction d with
 | zero =>
  intro i out hi ho
  have e : l.drop i = [] := List.drop_eq_nil_of_le (by omega)
  rw [Nat.add_zero, tenementlaw22_refWrites.l0, if_neg (by omega), e, List.map_nil, List.append_nil]
 | succ d ih =>
  intro i out hi ho
  have hlt : i < l.length := by omega
  have e : l.drop i = l[i] :: l.drop (i + 1) := List.drop_eq_getElem_cons hlt
  rw [show K + (d + 1) + 1 = (K + d + 1) + 1 by omega, tenementlaw22_refWrites.l0, if_pos (by omega), if_pos (by omega), if_pos (by omega), rdW l i hlt, idx i (by omega), ih (i + 1) _ (by omega) (by simp; omega), e, List.map_cons, List.append_assoc]
  rfl
theorem refWrites_f (l : List Wr) (hz : l.length < 2513169434916) {k : Nat} (hk : l.length + 1 ≤ k) : tenementlaw22_refWrites.f k l = some (l.map rw_) := by
 obtain ⟨K, rfl⟩ : ∃ m, k = m + l.length + 1 := ⟨k - l.length - 1, by omega⟩
 unfold tenementlaw22_refWrites.f
 have := refWrites_loop l hz K l.length 0 [] (by omega) rfl
 rw [show ((0 : Nat) : Int) = 0 from rfl, List.drop_zero, List.nil_append] at this
 exact this
theorem refTxn_f (a b c d e : Int) (l : List Wr) (hz : l.length < 2513169434916) {k : Nat} (hk : l.length + 1 ≤ k) : tenementlaw22_refTxn.f k a b c d e l = some (a, b, c, d, e, l.map rw_) := by
 unfold tenementlaw22_refTxn.f
 rw [show tenementlaw22_refStamp.f a b c d e = some (a, b, c, d, e) from rfl, Option.bind_some, refWrites_f l hz hk, Option.bind_some]
end Go.Proofs.Ythjhkcebcgdeoaa.Pure

set_option linter.unusedVariables false
set_option linter.unusedSimpArgs false
namespace Go.Proofs.Ythjhkcebcgdeoaa.Pure
open Go Go.RowKit Go.Proofs.Ythjhkcebcgdeoaa.Q Go.Proofs.YthjhkcebcgdeoaaW.PrintWords Go.Proofs.YthjhkcebcgdeoaaW.PrintLast Go.Proofs.YthjhkcebcgdeoaaW.PrintMore Go.Proofs.Ythjhkcebcgdeoaa.Plain
open Go.Proofs.Ythjhkcebcgdeoaa.Jud (Tx St)
abbrev Rx := S81
def rt_ (t : Tx) : Rx := ⟨⟨⟨t.f0.f0.f0, t.f0.f0.f1, t.f0.f0.f2, t.f0.f0.f3⟩, t.f0.f1⟩, t.f1.map rw_⟩
def u64B (x : Int) : Prop := 0 ≤ x ∧ x ≤ 18446744073709551615
def wfT (t : Tx) : Prop := (u64B t.f0.f0.f0 ∧ u64B t.f0.f0.f1 ∧ u64B t.f0.f0.f2 ∧ u64B t.f0.f0.f3) ∧ (-9223372036854775808 ≤ t.f0.f1 ∧ t.f0.f1 ≤ 9223372036854775807) ∧ (∀ x ∈ t.f1, fits x) ∧ t.f1.length ≤ 10
theorem deal_any (v0 v1 v2 v3 d : Int) (h0 : (Lit.int .u64 v0).wf = true) (h1 : (Lit.int .u64 v1).wf = true) (h2 : (Lit.int .u64 v2).wf = true) (h3 : (Lit.int .u64 v3).wf = true) (h4 : (Lit.int .i64 d).wf = true) (o own : Bool) (l : List Pt) (hl : ∀ p ∈ l, fits p.f0) (hz : l.length ≤ 4611686018427387904) {K : Nat} (hK : (l.length + 1) * 15 + 10 ≤ K) :
  ∃ (a b c g e : Int) (xs : List Wr), tenementlaw22_Deal_deal.f K v0 v1 v2 v3 d o l own = some (a, b, c, g, e, xs) ∧ wfT ⟨⟨⟨a, b, c, g⟩, e⟩, xs⟩ := by
 cases own with
 | true =>
  obtain ⟨a, b, c, g, e, xs, hf, hn, he1, he3, hfx, hx1, hx8⟩ := deal_own3 v0 v1 v2 v3 d h0 h1 h2 o l hl hz hK
  refine ⟨a, b, c, g, e, xs, hf, ⟨⟨?_, ?_⟩, ⟨?_, ?_⟩, ⟨?_, ?_⟩, ⟨?_, ?_⟩⟩, ⟨?_, ?_⟩, hfx, ?_⟩ <;> simp only <;> omega
 | false =>
  unfold tenementlaw22_Deal_deal.f
  obtain ⟨n0, n1, n2, n3, e, em, hn, he1, he2⟩ := mark_any h0 h1 h2 h3 h4 o (k := K) (by omega)
  have ew := writes_f l 10 (by omega) false hl hz (K := K) (by omega)
  have hln := wrs_len 10 false l [] (by simp)
  rw [show ((10 : Nat) : Int) = 10 from rfl] at ew
  rw [if_neg (by simp), em, Option.bind_some, ew, Option.bind_some]
  refine ⟨n0, n1, n2, n3, e, _, rfl, ⟨⟨?_, ?_⟩, ⟨?_, ?_⟩, ⟨?_, ?_⟩, ⟨?_, ?_⟩⟩, ⟨?_, ?_⟩, wrs_all 10 false fits l [] (fun p hp => wrt_fits p _ (hl p hp)) (by simp), ?_⟩ <;> simp only <;> omega
theorem deals_f (x : List Dl) (hx : ∀ p ∈ x, wf61 p) : ∃ (K : Nat) (a : List Tx), tenementlaw22_deals.f K x = some (a, a.map rt_) ∧ a.length ≤ 12 ∧ a.length ≤ x.length ∧ ∀ t ∈ a, wfT t := by
 obtain ⟨M, hM⟩ : ∃ M, ∀ p ∈ x, (p.f1.length + 1) * 15 + 10 ≤ M := by
  clear hx
  induction x with
  | nil => exact ⟨0, by simp⟩
  | cons p r ih =>
   obtain ⟨M, hM⟩ := ih
   refine ⟨M + ((p.f1.length + 1) * 15 + 10), fun q hq => ?_⟩
   rcases List.mem_cons.1 hq with rfl | hq
   ·omega
   ·have := hM q hq; omega
 have step : ∀ d (l : List Tx) (K : Nat), (∀ t ∈ l, wfT t) → l.length ≤ x.length → l.length + d = 12 → M + 2 * d + 22 ≤ K → ∃ a, tenementlaw22_deals.l0 K x l (l.map rt_) (l.length : Int) = some (a, a.map rt_) ∧ a.length ≤ 12 ∧ a.length ≤ x.length ∧ ∀ t ∈ a, wfT t := by
  intro d
  induction d with
  | zero =>
   intro l K hO hlx hd hK
   obtain ⟨K, rfl⟩ : ∃ q, K = q + 2 := ⟨K - 2, by omega⟩
   rw [tenementlaw22_deals.l0]
   refine ⟨l, ?_, by omega, hlx, hO⟩
   by_cases c : (l.length : Int) < (x.length : Int)
   ·rw [if_pos c, decide_eq_false (by omega), tenementlaw22_deals.j1, if_neg (by simp)]
   ·rw [if_neg c, tenementlaw22_deals.j1, if_neg (by simp)]
  | succ d ih =>
   intro l K hO hlx hd hK
   obtain ⟨K, rfl⟩ : ∃ q, K = q + 2 := ⟨K - 2, by omega⟩
   rw [tenementlaw22_deals.l0]
   by_cases c : (l.length : Int) < (x.length : Int)
   ·rw [if_pos c, decide_eq_true (by omega), tenementlaw22_deals.j1, if_pos rfl, if_pos (by omega), if_pos c, rd61 x l.length (by omega)]
    have hm : x[l.length]'(by omega) ∈ x := List.getElem_mem _
    have hw := hx _ hm
    have hMk := hM _ hm
    generalize x[l.length]'(by omega) = p at hw hMk ⊢
    obtain ⟨⟨⟨⟨v0, v1, v2, v3⟩, dd⟩, o⟩, ps, own⟩ := p
    have hl' : ∀ p ∈ ps, fits p.f0 := fun p hp => ⟨(hw.2.1.1 p hp).1.1, (hw.2.1.1 p hp).1.2.1, (hw.2.1.1 p hp).1.2.2.1⟩
    have hps : ps.length * 64 ≤ 140737488351232 := hw.2.1.2
    have hst := hw.1.1
    obtain ⟨a, b, c', g, e, xs, hf, hwt⟩ := deal_any v0 v1 v2 v3 dd hst.1.1 hst.1.2.1 hst.1.2.2.1 hst.1.2.2.2 hst.2 o own ps hl' (by omega) (K := K) (by simp only at hMk; omega)
    have hx10 : xs.length ≤ 10 := hwt.2.2.2
    show ∃ a_, ((tenementlaw22_Deal_deal.f K v0 v1 v2 v3 dd o ps own).bind _) = _ ∧ _
    rw [hf, Option.bind_some, if_pos (by omega)]
    show ∃ a_, ((tenementlaw22_refTxn.f K a b c' g e xs).bind _) = _ ∧ _
    rw [refTxn_f a b c' g e xs (by omega) (k := K) (by omega), Option.bind_some, if_pos (by rw [List.length_map]; omega), idx l.length (by omega)]
    obtain ⟨r, h1, h2, h3, h4⟩ := ih (l ++ [⟨⟨⟨a, b, c', g⟩, e⟩, xs⟩]) K (fun t ht => by
     rcases List.mem_append.1 ht with h | h
     ·exact hO t h
     ·rw [List.mem_singleton.1 h]; exact hwt) (by simp; omega) (by simp; omega) (by omega)
    refine ⟨r, ?_, h2, h3, h4⟩
    rw [List.length_append, List.length_singleton, List.map_append] at h1
    exact h1
   ·refine ⟨l, ?_, by omega, hlx, hO⟩
    rw [if_neg c, tenementlaw22_deals.j1, if_neg (by simp)]
 obtain ⟨a, h1, h2, h3, h4⟩ := step 12 [] (M + 2 * 12 + 22) (by simp) (by simp) (by simp) (Nat.le_refl _)
 exact ⟨_, a, h1, h2, h3, h4⟩
end Go.Proofs.Ythjhkcebcgdeoaa.Pure
