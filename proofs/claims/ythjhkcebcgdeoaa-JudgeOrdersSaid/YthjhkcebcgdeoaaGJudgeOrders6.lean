import Derived.Test.YthjhkcebcgdeoaaGJudgeOrders2
import Derived.Test.YthjhkcebcgdeoaaGJudgeOrders5
import Derived.Test.YthjhkcebcgdeoaaGJudgeOrders1
import Derived.Deep.Slices
import Derived.OpenShut
import Derived.SizedLaws
import Derived.ChangeArms
import Derived.WideShapes
import Derived.ChangeShapes
import Derived.KernelRfl
namespace Go.Proofs.Ythjhkcebcgdeoaa.Q
open Go.RowKit Go.Proofs.YthjhkcebcgdeoaaW.PrintWords Go.Proofs.YthjhkcebcgdeoaaW.PrintLast Go.Proofs.YthjhkcebcgdeoaaW.PrintMore
attribute [local go_sem] max2_int min2_int max_two min_two max_three min_three max_four min_four   -- for this text's walks alone
set_option linter.unusedVariables false
set_option linter.unusedSimpArgs false
mutual
def tenementlaw22_writes.l0 : Nat → List (S26) → Int → Bool → List (S24) → Int → Option ((List (S24)))
 | 0, _, _, _, _, _ => none
 | k + 1, x0, x1, x2, x7, x8 => if x8 < (x0.length : Int) then (tenementlaw22_writes.j1 k x0 x1 x2 x7 x8 (decide ((x7.length : Int) < x1))) else (tenementlaw22_writes.j1 k x0 x1 x2 x7 x8 false)
def tenementlaw22_writes.j1 : Nat → List (S26) → Int → Bool → List (S24) → Int → Bool → Option ((List (S24)))
 | 0, _, _, _, _, _, _ => none
 | k + 1, x0, x1, x2, x7, x8, x22 => if x22 = true then (if 0 ≤ x8 then (if x8 < (x0.length : Int) then (if x2 = true then (tenementlaw22_writes.j2 k x0 x1 x2 x7 x8 ((rd_T26 x0 x8).f0.f0) ((rd_T26 x0 x8).f0.f1) ((rd_T26 x0 x8).f0.f2) ((rd_T26 x0 x8).f0.f3) true ((rd_T26 x0 x8).f2)) else (tenementlaw22_writes.j2 k x0 x1 x2 x7 x8 ((rd_T26 x0 x8).f0.f0) ((rd_T26 x0 x8).f0.f1) ((rd_T26 x0 x8).f0.f2) ((rd_T26 x0 x8).f0.f3) ((rd_T26 x0 x8).f1) ((rd_T26 x0 x8).f2))) else (none)) else (none)) else (some x7)
def tenementlaw22_writes.j2 : Nat → List (S26) → Int → Bool → List (S24) → Int → ByteArray → ByteArray → ByteArray → Bool → Bool → Int → Option ((List (S24)))
 | 0, _, _, _, _, _, _, _, _, _, _, _ => none
 | k + 1, x0, x1, x2, x7, x8, x105, x106, x107, x108, x100, x109 => (tenementlaw22_Put_write.f x105 x106 x107 x108 x100 x109).bind fun bt124 => (tenementlaw22_writes.l1 k x0 x1 x2 x7 x8 false 0 bt124.1 bt124.2.1 bt124.2.2.1 bt124.2.2.2)
def tenementlaw22_writes.l1 : Nat → List (S26) → Int → Bool → List (S24) → Int → Bool → Int → ByteArray → ByteArray → ByteArray → Bool → Option ((List (S24)))
 | 0, _, _, _, _, _, _, _, _, _, _, _ => none
 | k + 1, x0, x1, x2, x7, x8, x11, x12, x101, x102, x103, x104 => if x12 < (x7.length : Int) then (if x11 = true then (tenementlaw22_writes.l1 k x0 x1 x2 x7 x8 true (wrap64 (x12 + 1)) x101 x102 x103 x104) else (if 0 ≤ x12 then (if ((rd_T24 x7 x12).f0).toList = x101.toList then (tenementlaw22_writes.l1 k x0 x1 x2 x7 x8 (((rd_T24 x7 x12).f1).toList == x102.toList) (wrap64 (x12 + 1)) x101 x102 x103 x104) else (tenementlaw22_writes.l1 k x0 x1 x2 x7 x8 false (wrap64 (x12 + 1)) x101 x102 x103 x104)) else (none))) else (if x2 = true then (if x11 = true then (tenementlaw22_writes.l0 k x0 x1 x2 x7 (wrap64 (x8 + 1))) else (if x7.length < 2513169434916 then (tenementlaw22_writes.l0 k x0 x1 x2 (x7 ++ [(⟨x101, x102, x103, x104⟩ : S24)]) (wrap64 (x8 + 1))) else (none))) else (if x7.length < 2513169434916 then (tenementlaw22_writes.l0 k x0 x1 x2 (x7 ++ [(⟨x101, x102, x103, x104⟩ : S24)]) (wrap64 (x8 + 1))) else (none)))
end
def tenementlaw22_writes.f (k : Nat) (l0 : List (S26)) (a1 : Int) (a2 : Bool) : Option ((List (S24))) := tenementlaw22_writes.l0 k l0 a1 a2 ([] : List (S24)) 0
theorem tenementlaw22_writes.mono_l : ∀ k, (∀ y0 y1 y2 y3 y4, LeO (tenementlaw22_writes.l0 k y0 y1 y2 y3 y4) (tenementlaw22_writes.l0 (k + 1) y0 y1 y2 y3 y4)) ∧ (∀ y0 y1 y2 y3 y4 y5, LeO (tenementlaw22_writes.j1 k y0 y1 y2 y3 y4 y5) (tenementlaw22_writes.j1 (k + 1) y0 y1 y2 y3 y4 y5)) ∧ (∀ y0 y1 y2 y3 y4 y5 y6 y7 y8 y9 y10, LeO (tenementlaw22_writes.j2 k y0 y1 y2 y3 y4 y5 y6 y7 y8 y9 y10) (tenementlaw22_writes.j2 (k + 1) y0 y1 y2 y3 y4 y5 y6 y7 y8 y9 y10)) ∧ (∀ y0 y1 y2 y3 y4 y5 y6 y7 y8 y9 y10, LeO (tenementlaw22_writes.l1 k y0 y1 y2 y3 y4 y5 y6 y7 y8 y9 y10) (tenementlaw22_writes.l1 (k + 1) y0 y1 y2 y3 y4 y5 y6 y7 y8 y9 y10))
 | 0 => ⟨fun _ _ _ _ _ r h => by simp [tenementlaw22_writes.l0] at h, fun _ _ _ _ _ _ r h => by simp [tenementlaw22_writes.j1] at h, fun _ _ _ _ _ _ _ _ _ _ _ r h => by simp [tenementlaw22_writes.j2] at h, fun _ _ _ _ _ _ _ _ _ _ _ r h => by simp [tenementlaw22_writes.l1] at h⟩
 | k + 1 => by
  obtain ⟨ih0, ih1, ih2, ih3⟩ := tenementlaw22_writes.mono_l k
  refine ⟨?_, ?_, ?_, ?_⟩
  ·intro y0 y1 y2 y3 y4
   unfold tenementlaw22_writes.l0
   repeat' first
   | (with_reducible exact ih0 _ _ _ _ _)
   | (with_reducible exact ih1 _ _ _ _ _ _)
   | (with_reducible exact ih2 _ _ _ _ _ _ _ _ _ _ _)
   | (with_reducible exact ih3 _ _ _ _ _ _ _ _ _ _ _)
   | (with_reducible exact LeO.refl _)
   | (with_reducible exact LeO.none _)
   | (with_reducible refine LeO.ite ?_ ?_)
   | (with_reducible refine LeO.bind ?_ (fun _ => ?_))
   | exact ih0 _ _ _ _ _
   | exact ih1 _ _ _ _ _ _
   | exact ih2 _ _ _ _ _ _ _ _ _ _ _
   | exact ih3 _ _ _ _ _ _ _ _ _ _ _
   | exact LeO.none _
   | refine LeO.ite ?_ ?_
   | refine LeO.bind ?_ (fun _ => ?_)
  ·intro y0 y1 y2 y3 y4 y5
   unfold tenementlaw22_writes.j1
   repeat' first
   | (with_reducible exact ih0 _ _ _ _ _)
   | (with_reducible exact ih1 _ _ _ _ _ _)
   | (with_reducible exact ih2 _ _ _ _ _ _ _ _ _ _ _)
   | (with_reducible exact ih3 _ _ _ _ _ _ _ _ _ _ _)
   | (with_reducible exact LeO.refl _)
   | (with_reducible exact LeO.none _)
   | (with_reducible refine LeO.ite ?_ ?_)
   | (with_reducible refine LeO.bind ?_ (fun _ => ?_))
   | exact ih0 _ _ _ _ _
   | exact ih1 _ _ _ _ _ _
   | exact ih2 _ _ _ _ _ _ _ _ _ _ _
   | exact ih3 _ _ _ _ _ _ _ _ _ _ _
   | exact LeO.none _
   | refine LeO.ite ?_ ?_
   | refine LeO.bind ?_ (fun _ => ?_)
  ·intro y0 y1 y2 y3 y4 y5 y6 y7 y8 y9 y10
   unfold tenementlaw22_writes.j2
   repeat' first
   | (with_reducible exact ih0 _ _ _ _ _)
   | (with_reducible exact ih1 _ _ _ _ _ _)
   | (with_reducible exact ih2 _ _ _ _ _ _ _ _ _ _ _)
   | (with_reducible exact ih3 _ _ _ _ _ _ _ _ _ _ _)
   | (with_reducible exact LeO.refl _)
   | (with_reducible exact LeO.none _)
   | (with_reducible refine LeO.ite ?_ ?_)
   | (with_reducible refine LeO.bind ?_ (fun _ => ?_))
   | exact ih0 _ _ _ _ _
   | exact ih1 _ _ _ _ _ _
   | exact ih2 _ _ _ _ _ _ _ _ _ _ _
   | exact ih3 _ _ _ _ _ _ _ _ _ _ _
   | exact LeO.none _
   | refine LeO.ite ?_ ?_
   | refine LeO.bind ?_ (fun _ => ?_)
  ·intro y0 y1 y2 y3 y4 y5 y6 y7 y8 y9 y10
   unfold tenementlaw22_writes.l1
   repeat' first
   | (with_reducible exact ih0 _ _ _ _ _)
   | (with_reducible exact ih1 _ _ _ _ _ _)
   | (with_reducible exact ih2 _ _ _ _ _ _ _ _ _ _ _)
   | (with_reducible exact ih3 _ _ _ _ _ _ _ _ _ _ _)
   | (with_reducible exact LeO.refl _)
   | (with_reducible exact LeO.none _)
   | (with_reducible refine LeO.ite ?_ ?_)
   | (with_reducible refine LeO.bind ?_ (fun _ => ?_))
   | exact ih0 _ _ _ _ _
   | exact ih1 _ _ _ _ _ _
   | exact ih2 _ _ _ _ _ _ _ _ _ _ _
   | exact ih3 _ _ _ _ _ _ _ _ _ _ _
   | exact LeO.none _
   | refine LeO.ite ?_ ?_
   | refine LeO.bind ?_ (fun _ => ?_)
theorem tenementlaw22_writes.mono : ∀ a0 a1 a2 k, LeO (tenementlaw22_writes.f k a0 a1 a2) (tenementlaw22_writes.f (k + 1) a0 a1 a2) := by
 intro a0 a1 a2 k
 obtain ⟨ih0, ih1, ih2, ih3⟩ := tenementlaw22_writes.mono_l k
 unfold tenementlaw22_writes.f
 repeat' first
   | (with_reducible exact ih0 _ _ _ _ _)
   | (with_reducible exact ih1 _ _ _ _ _ _)
   | (with_reducible exact ih2 _ _ _ _ _ _ _ _ _ _ _)
   | (with_reducible exact ih3 _ _ _ _ _ _ _ _ _ _ _)
   | (with_reducible exact LeO.refl _)
   | (with_reducible exact LeO.none _)
   | (with_reducible refine LeO.ite ?_ ?_)
   | (with_reducible refine LeO.bind ?_ (fun _ => ?_))
   | exact ih0 _ _ _ _ _
   | exact ih1 _ _ _ _ _ _
   | exact ih2 _ _ _ _ _ _ _ _ _ _ _
   | exact ih3 _ _ _ _ _ _ _ _ _ _ _
   | exact LeO.none _
   | refine LeO.ite ?_ ?_
   | refine LeO.bind ?_ (fun _ => ?_)
set_option maxHeartbeats 8000000 in
set_option maxRecDepth 100000 in
theorem tenementlaw22_writes.calls (k : Nat) (A0 : Option Addr) (c0 : Nat) (l0 : List (S26)) (a1 : Int) (a2 : Bool) (r : List (S24)) (w : World) (hr0 : Kd.C k26 w A0 l0.length l0) (hc0 : l0.length ≤ c0) (h : tenementlaw22_writes.f k l0 a1 a2 = some r) :
  Calls Try.prog 52 #[.slice A0 l0.length c0, .int .i64 a1, .bool a2] w fun e w' => ∃ v0_ : Value, e = .returned (v0_) ∧ Kd.R k24 24 w' w.heap.size (fun _ => True) v0_ r ∧ Below w.heap.size w w' := by
 have hu26 := Try.underlying26
 have hu24 := Try.underlying24
 have HR0 := Aside0.mk hr0
 have HC0 := Aside0.mk hc0
 clear hr0 hc0
 have HB := Aside0.mk (Below.refl w.heap.size w)
 have H : (tenementlaw22_writes.l0 k l0 a1 a2 ([] : List (S24)) 0) = some r := h
 clear h
 have H' := Aside0.mk H
 clear H
 go_enter Try.func52, Try.ntmps52
 go_wp2
 repeat (go_quiet (fail); try go_wp2)
 go_loopg [7, 8] k (fun kq v7 v8 w' => ∃ (x7_1 : List (S24)) (x8_1 : Int), v8 = .int .i64 x8_1 ∧ Aside0 (tenementlaw22_writes.l0 kq l0 a1 a2 x7_1 x8_1 = some r) ∧ Aside0 (kq ≤ k) ∧ Aside0 (Kd.R k24 24 w' w.heap.size (fun _ => True) v7 x7_1) ∧ Aside0 (Below w.heap.size w w'))
 case atStart => exact ⟨(([] : List (S24))), (0), (by first | rfl | (simp; done) | (simp [*]; done)), H', ⟨Nat.le_refl _⟩, ⟨by first | exact Kd.R_nil _ _ _ _ _ | exact Kd.N_nil _ _ _ _ _ | exact Kd.V_nil _ _ _ _ _ | exact Kd.Q_nil _ _ _ _ _ | exact Kd.S_nil _ _ _ _ _⟩, ⟨Ky_ HB⟩⟩
 case round =>
  clear H'
  try clear p2
  obtain ⟨x7_1, x8_1, rfl, HA, HK1, HO_7, HB⟩ := hrel
  cases gk with
  | zero => exact absurd HA.out (by simp [tenementlaw22_writes.l0])
  | succ k1 =>
   have H := HA.out
   clear HA
   simp only [tenementlaw22_writes.l0] at H
   have HC4 := Aside0.mk H
   clear H
   go_upto_region 3 with (fail)
   repeat (go_quiet (fail); go_upto_region 3 with (fail))
   go_cut [22] (fun v22 wc => ∃ (kq : Nat) (x22_3 : Bool), v22 = .bool x22_3 ∧ Aside0 (tenementlaw22_writes.j1 kq l0 a1 a2 x7_1 x8_1 x22_3 = some r) ∧ Aside0 (kq ≤ k1) ∧ Aside0 (Kd.R k24 24 wc w.heap.size (fun _ => True) u7 x7_1) ∧ Aside0 (Below w.heap.size w wc))
   case first =>
    have H := HC4.out
    clear HC4
    by_cases c5 : x8_1 < (l0.length : Int)
    rotate_left
    ·rw [if_neg c5] at H
     have c5b0 : decide (x8_1 < (l0.length : Int)) = false := decide_eq_false c5
     clear c5
     (first | rw [c5b0] | (simp only [i64_w, i32_w]; rw [c5b0]) | skip)
     have H' := Aside0.mk H
     clear H
     go_wp2
     repeat (go_quiet (fail); try go_wp2)
     go_meet
     case rel => exact ⟨_, (false), (by first | rfl | (simp; done) | (simp [*]; done)), H', ⟨by have := HK1.out; first | omega | exact Nat.le_refl _⟩, ⟨by (with_reducible repeat (first | apply Kd.R_alloc | apply Kd.R_drewN | apply Kd.R_drew)); exact HO_7.out⟩, ⟨Ky_ HB⟩⟩
    rw [if_pos c5] at H
    have c5b0 : decide (x8_1 < (l0.length : Int)) = true := decide_eq_true c5
    clear c5
    (first | rw [c5b0] | (simp only [i64_w, i32_w]; rw [c5b0]) | skip)
    have H' := Aside0.mk H
    clear H
    obtain ⟨Ao6, co6, eo6⟩ := Kd.R_slice HO_7.out
    subst eo6
    go_wp2
    repeat (go_quiet (fail); try go_wp2)
    go_meet
    case rel => exact ⟨_, (decide ((x7_1.length : Int) < a1)), (by first | rfl | (simp; done) | (simp [*]; done)), H', ⟨by have := HK1.out; first | omega | exact Nat.le_refl _⟩, ⟨by (with_reducible repeat (first | apply Kd.R_alloc | apply Kd.R_drewN | apply Kd.R_drew)); exact HO_7.out⟩, ⟨Ky_ HB⟩⟩
   case rest =>
    clear HC4
    try clear p2
    try clear c5
    try clear c5b0
    try clear p2
    obtain ⟨kq, x22_3, rfl, HA, HJ3, HO_7, HB⟩ := hcut
    cases kq with
    | zero => exact absurd HA.out (by simp [tenementlaw22_writes.j1])
    | succ kj3 =>
     have H := HA.out
     clear HA
     simp only [tenementlaw22_writes.j1] at H
     by_cases c7 : x22_3 = true
     rotate_left
     ·replace c7 := Bool.eq_false_iff.mpr c7
      subst c7
      have H1 : (some x7_1) = some r := by rw [if_neg (show ¬ (false = true) by decide)] at H; exact H
      clear H
      have H := H1
      clear H1
      obtain rfl := Option.some.inj H
      go_wp2
      repeat (go_quiet (fail); try go_wp2)
      go_ret
      exact ⟨_, by first | rfl | (simp [errW_none, errW_some] <;> rfl) | (simp [*, errW_none, errW_some] <;> rfl), by (with_reducible repeat (first | apply Kd.R_alloc | apply Kd.R_drewN | apply Kd.R_drew)); exact HO_7.out, Ky_ HB⟩
     subst c7
     have H1 : (if 0 ≤ x8_1 then (if x8_1 < (l0.length : Int) then (if a2 = true then (tenementlaw22_writes.j2 kj3 l0 a1 a2 x7_1 x8_1 ((rd_T26 l0 x8_1).f0.f0) ((rd_T26 l0 x8_1).f0.f1) ((rd_T26 l0 x8_1).f0.f2) ((rd_T26 l0 x8_1).f0.f3) true ((rd_T26 l0 x8_1).f2)) else (tenementlaw22_writes.j2 kj3 l0 a1 a2 x7_1 x8_1 ((rd_T26 l0 x8_1).f0.f0) ((rd_T26 l0 x8_1).f0.f1) ((rd_T26 l0 x8_1).f0.f2) ((rd_T26 l0 x8_1).f0.f3) ((rd_T26 l0 x8_1).f1) ((rd_T26 l0 x8_1).f2))) else (none)) else (none)) = some r := by rw [if_pos rfl] at H; exact H
     clear H
     have H := H1
     clear H1
     by_cases c8 : 0 ≤ x8_1
     rotate_left
     ·rw [if_neg c8] at H
      exact absurd H (by simp)
     rw [if_pos c8] at H
     have c8b0 : decide (0 ≤ x8_1) = true := decide_eq_true c8
     clear c8
     by_cases c9 : x8_1 < (l0.length : Int)
     rotate_left
     ·rw [if_neg c9] at H
      exact absurd H (by simp)
     rw [if_pos c9] at H
     have c9b0 : decide (x8_1 < (l0.length : Int)) = true := decide_eq_true c9
     clear c9
     have HC10 := Aside0.mk H
     clear H
     have p122 : 0 ≤ (x8_1 : Int) := of_decide_eq_true (by first | (with_reducible assumption) | assumption)
     have q122 : x8_1 < (l0.length : Int) := of_decide_eq_true (by first | (with_reducible assumption) | assumption)
     obtain ⟨ad122, e122, hx122_0, hx122_1, hx122_2, hx122_3, hx122_4, hx122_5⟩ := at_T26 HR0.out x8_1 p122 q122
     cases e122
     replace hx122_0 := (HB.out.cell (World.block_lt_of_cell? w _ hx122_0)).trans hx122_0
     replace hx122_1 := (HB.out.cell (World.block_lt_of_cell? w _ hx122_1)).trans hx122_1
     replace hx122_2 := (HB.out.cell (World.block_lt_of_cell? w _ hx122_2)).trans hx122_2
     replace hx122_3 := (HB.out.cell (World.block_lt_of_cell? w _ hx122_3)).trans hx122_3
     replace hx122_4 := (HB.out.cell (World.block_lt_of_cell? w _ hx122_4)).trans hx122_4
     replace hx122_5 := (HB.out.cell (World.block_lt_of_cell? w _ hx122_5)).trans hx122_5
     replace p122 := eq_true p122
     replace q122 := eq_true q122
     go_upto_if 29 with (first | ((with_reducible refine gate_dst (N := 9) rfl ?_); refine Ka_ 9 #[.string (⟨#[]⟩ : ByteArray), .string (⟨#[]⟩ : ByteArray), .string (⟨#[]⟩ : ByteArray), .bool false, .bool false, .int .u8 0] 26 ?_; intro gb123 hg w11 hbox hb; have BK123 := Aside0.mk (hbox); have GW123 := Kw_ HB hg; have GE123 := GW123; replace HO_7 := Aside0.mk (Kd.R_below (Ku_ HO_7) hb); replace HB := Ks_ HB hb; clear hb hbox hg; obtain ⟨hcz12_0, hcz12_1, hcz12_2, hcz12_3, hcz12_4, hcz12_5, hfz12_0, hfz12_1, hfz12_2, hfz12_3, hfz12_4, hfz12_5⟩ := Ke6_ BK123.out))
     repeat (go_quiet (first | ((with_reducible refine gate_dst (N := 9) rfl ?_); refine Ka_ 9 #[.string (⟨#[]⟩ : ByteArray), .string (⟨#[]⟩ : ByteArray), .string (⟨#[]⟩ : ByteArray), .bool false, .bool false, .int .u8 0] 26 ?_; intro gb123 hg w11 hbox hb; have BK123 := Aside0.mk (hbox); have GW123 := Kw_ HB hg; have GE123 := GW123; replace HO_7 := Aside0.mk (Kd.R_below (Ku_ HO_7) hb); replace HB := Ks_ HB hb; clear hb hbox hg; obtain ⟨hcz12_0, hcz12_1, hcz12_2, hcz12_3, hcz12_4, hcz12_5, hfz12_0, hfz12_1, hfz12_2, hfz12_3, hfz12_4, hfz12_5⟩ := Ke6_ BK123.out)); go_upto_if 29 with (first | ((with_reducible refine gate_dst (N := 9) rfl ?_); refine Ka_ 9 #[.string (⟨#[]⟩ : ByteArray), .string (⟨#[]⟩ : ByteArray), .string (⟨#[]⟩ : ByteArray), .bool false, .bool false, .int .u8 0] 26 ?_; intro gb123 hg w11 hbox hb; have BK123 := Aside0.mk (hbox); have GW123 := Kw_ HB hg; have GE123 := GW123; replace HO_7 := Aside0.mk (Kd.R_below (Ku_ HO_7) hb); replace HB := Ks_ HB hb; clear hb hbox hg; obtain ⟨hcz12_0, hcz12_1, hcz12_2, hcz12_3, hcz12_4, hcz12_5, hfz12_0, hfz12_1, hfz12_2, hfz12_3, hfz12_4, hfz12_5⟩ := Ke6_ BK123.out)))
     (try simp only [Act.put, List.setIfInBounds_toArray, List.set_cons_zero, List.set_cons_succ])
     go_cut [] (fun wc => ∃ (kq : Nat) (x100_9 : Bool), Aside0 (tenementlaw22_writes.j2 kq l0 a1 a2 x7_1 x8_1 ((rd_T26 l0 x8_1).f0.f0) ((rd_T26 l0 x8_1).f0.f1) ((rd_T26 l0 x8_1).f0.f2) ((rd_T26 l0 x8_1).f0.f3) x100_9 ((rd_T26 l0 x8_1).f2) = some r) ∧ Aside0 (kq ≤ kj3) ∧ Aside0 (Kd.R k24 24 wc w.heap.size (fun _ => True) u7 x7_1) ∧ Aside0 (wc.heap[gb123]? = some (.cells #[.string ((rd_T26 l0 x8_1).f0.f0), .string ((rd_T26 l0 x8_1).f0.f1), .string ((rd_T26 l0 x8_1).f0.f2), .bool ((rd_T26 l0 x8_1).f0.f3), .bool x100_9, .int .u8 ((rd_T26 l0 x8_1).f2)] 26 (0, 0))) ∧ Aside0 (Below w.heap.size w wc))
     case first =>
      have H := HC10.out
      clear HC10
      by_cases c13 : a2 = true
      rotate_left
      ·replace c13 := Bool.eq_false_iff.mpr c13
       subst c13
       have H1 : (tenementlaw22_writes.j2 kj3 l0 a1 false x7_1 x8_1 ((rd_T26 l0 x8_1).f0.f0) ((rd_T26 l0 x8_1).f0.f1) ((rd_T26 l0 x8_1).f0.f2) ((rd_T26 l0 x8_1).f0.f3) ((rd_T26 l0 x8_1).f1) ((rd_T26 l0 x8_1).f2)) = some r := by rw [if_neg (show ¬ (false = true) by decide)] at H; exact H
       clear H
       have H := H1
       clear H1
       have H' := Aside0.mk H
       clear H
       go_wp2
       repeat (go_quiet (fail); try go_wp2)
       go_meet
       case rel => exact ⟨_, ((rd_T26 l0 x8_1).f1), H', ⟨by have := HK1.out; have := HJ3.out; first | omega | exact Nat.le_refl _⟩, ⟨by (with_reducible repeat (first | apply Kd.R_alloc | apply Kd.R_drewN | apply Kd.R_drew)); exact Kd.R_mono (Kd.R_far (p := ⟨gb123, 5, none⟩) (Kd.R_far (p := ⟨gb123, 4, none⟩) (Kd.R_far (p := ⟨gb123, 3, none⟩) (Kd.R_far (p := ⟨gb123, 2, none⟩) (Kd.R_far (p := ⟨gb123, 1, none⟩) (Kd.R_far (p := ⟨gb123, 0, none⟩) (Kd.R_types HO_7.out BK123.out (by decide)) (fun _ hk => hk.2) (.string ((rd_T26 l0 x8_1).f0.f0))) (fun _ hk => hk.2) (.string ((rd_T26 l0 x8_1).f0.f1))) (fun _ hk => hk.2) (.string ((rd_T26 l0 x8_1).f0.f2))) (fun _ hk => hk.2) (.bool ((rd_T26 l0 x8_1).f0.f3))) (fun _ hk => hk.2) (.bool ((rd_T26 l0 x8_1).f1))) (fun _ hk => hk.2) (.int .u8 ((rd_T26 l0 x8_1).f2))) (fun _ hk => trivial)⟩, ⟨by refine Kv_ ?_; refine blk_put (cs := #[.string ((rd_T26 l0 x8_1).f0.f0), .string ((rd_T26 l0 x8_1).f0.f1), .string ((rd_T26 l0 x8_1).f0.f2), .bool ((rd_T26 l0 x8_1).f0.f3), .bool ((rd_T26 l0 x8_1).f1), .int .u8 0]) ?_ 5 _ rfl; refine Kv_ ?_; refine blk_put (cs := #[.string ((rd_T26 l0 x8_1).f0.f0), .string ((rd_T26 l0 x8_1).f0.f1), .string ((rd_T26 l0 x8_1).f0.f2), .bool ((rd_T26 l0 x8_1).f0.f3), .bool false, .int .u8 0]) ?_ 4 _ rfl; refine Kv_ ?_; refine blk_put (cs := #[.string ((rd_T26 l0 x8_1).f0.f0), .string ((rd_T26 l0 x8_1).f0.f1), .string ((rd_T26 l0 x8_1).f0.f2), .bool false, .bool false, .int .u8 0]) ?_ 3 _ rfl; refine Kv_ ?_; refine blk_put (cs := #[.string ((rd_T26 l0 x8_1).f0.f0), .string ((rd_T26 l0 x8_1).f0.f1), .string (⟨#[]⟩ : ByteArray), .bool false, .bool false, .int .u8 0]) ?_ 2 _ rfl; refine Kv_ ?_; refine blk_put (cs := #[.string ((rd_T26 l0 x8_1).f0.f0), .string (⟨#[]⟩ : ByteArray), .string (⟨#[]⟩ : ByteArray), .bool false, .bool false, .int .u8 0]) ?_ 1 _ rfl; refine Kv_ ?_; refine blk_put (cs := #[.string (⟨#[]⟩ : ByteArray), .string (⟨#[]⟩ : ByteArray), .string (⟨#[]⟩ : ByteArray), .bool false, .bool false, .int .u8 0]) ?_ 0 _ rfl; exact Kq_ BK123⟩, ⟨Kz_ HB GE123⟩⟩
      subst c13
      have H1 : (tenementlaw22_writes.j2 kj3 l0 a1 true x7_1 x8_1 ((rd_T26 l0 x8_1).f0.f0) ((rd_T26 l0 x8_1).f0.f1) ((rd_T26 l0 x8_1).f0.f2) ((rd_T26 l0 x8_1).f0.f3) true ((rd_T26 l0 x8_1).f2)) = some r := by rw [if_pos rfl] at H; exact H
      clear H
      have H := H1
      clear H1
      have H' := Aside0.mk H
      clear H
      obtain ⟨hcz14_0, hcz14_1, hcz14_2, hcz14_3, hcz14_4, hcz14_5, hfz14_0, hfz14_1, hfz14_2, hfz14_3, hfz14_4, hfz14_5⟩ := Ke6_ BK123.out
      go_wp2
      repeat (go_quiet (fail); try go_wp2)
      go_meet
      case rel => exact ⟨_, (true), H', ⟨by have := HK1.out; have := HJ3.out; first | omega | exact Nat.le_refl _⟩, ⟨by (with_reducible repeat (first | apply Kd.R_alloc | apply Kd.R_drewN | apply Kd.R_drew)); exact Kd.R_mono (Kd.R_far (p := ⟨gb123, 4, none⟩) (Kd.R_far (p := ⟨gb123, 5, none⟩) (Kd.R_far (p := ⟨gb123, 4, none⟩) (Kd.R_far (p := ⟨gb123, 3, none⟩) (Kd.R_far (p := ⟨gb123, 2, none⟩) (Kd.R_far (p := ⟨gb123, 1, none⟩) (Kd.R_far (p := ⟨gb123, 0, none⟩) (Kd.R_types HO_7.out BK123.out (by decide)) (fun _ hk => hk.2) (.string ((rd_T26 l0 x8_1).f0.f0))) (fun _ hk => hk.2) (.string ((rd_T26 l0 x8_1).f0.f1))) (fun _ hk => hk.2) (.string ((rd_T26 l0 x8_1).f0.f2))) (fun _ hk => hk.2) (.bool ((rd_T26 l0 x8_1).f0.f3))) (fun _ hk => hk.2) (.bool ((rd_T26 l0 x8_1).f1))) (fun _ hk => hk.2) (.int .u8 ((rd_T26 l0 x8_1).f2))) (fun _ hk => hk.2) (.bool true)) (fun _ hk => trivial)⟩, ⟨by refine Kv_ ?_; refine blk_put (cs := #[.string ((rd_T26 l0 x8_1).f0.f0), .string ((rd_T26 l0 x8_1).f0.f1), .string ((rd_T26 l0 x8_1).f0.f2), .bool ((rd_T26 l0 x8_1).f0.f3), .bool ((rd_T26 l0 x8_1).f1), .int .u8 ((rd_T26 l0 x8_1).f2)]) ?_ 4 _ rfl; refine Kv_ ?_; refine blk_put (cs := #[.string ((rd_T26 l0 x8_1).f0.f0), .string ((rd_T26 l0 x8_1).f0.f1), .string ((rd_T26 l0 x8_1).f0.f2), .bool ((rd_T26 l0 x8_1).f0.f3), .bool ((rd_T26 l0 x8_1).f1), .int .u8 0]) ?_ 5 _ rfl; refine Kv_ ?_; refine blk_put (cs := #[.string ((rd_T26 l0 x8_1).f0.f0), .string ((rd_T26 l0 x8_1).f0.f1), .string ((rd_T26 l0 x8_1).f0.f2), .bool ((rd_T26 l0 x8_1).f0.f3), .bool false, .int .u8 0]) ?_ 4 _ rfl; refine Kv_ ?_; refine blk_put (cs := #[.string ((rd_T26 l0 x8_1).f0.f0), .string ((rd_T26 l0 x8_1).f0.f1), .string ((rd_T26 l0 x8_1).f0.f2), .bool false, .bool false, .int .u8 0]) ?_ 3 _ rfl; refine Kv_ ?_; refine blk_put (cs := #[.string ((rd_T26 l0 x8_1).f0.f0), .string ((rd_T26 l0 x8_1).f0.f1), .string (⟨#[]⟩ : ByteArray), .bool false, .bool false, .int .u8 0]) ?_ 2 _ rfl; refine Kv_ ?_; refine blk_put (cs := #[.string ((rd_T26 l0 x8_1).f0.f0), .string (⟨#[]⟩ : ByteArray), .string (⟨#[]⟩ : ByteArray), .bool false, .bool false, .int .u8 0]) ?_ 1 _ rfl; refine Kv_ ?_; refine blk_put (cs := #[.string (⟨#[]⟩ : ByteArray), .string (⟨#[]⟩ : ByteArray), .string (⟨#[]⟩ : ByteArray), .bool false, .bool false, .int .u8 0]) ?_ 0 _ rfl; exact Kq_ BK123⟩, ⟨Kz_ HB GE123⟩⟩
     case rest =>
      clear HC10
      try clear c1
      try clear p1
      try clear q1
      try clear hx1
      try clear p2
      try clear c5
      try clear c5b0
      try clear c7
      try clear c8
      try clear c8b0
      try clear c9
      try clear c9b0
      try clear p12
      try clear q12
      try clear hx12
      try clear c13
      try clear hcz12_0
      try clear hcz12_1
      try clear hcz12_2
      try clear hcz12_3
      try clear hcz12_4
      try clear hcz12_5
      try clear hcz14_0
      try clear hcz14_1
      try clear hcz14_2
      try clear hcz14_3
      try clear hcz14_4
      try clear hcz14_5
      try clear hfz12_0
      try clear hfz12_1
      try clear hfz12_2
      try clear hfz12_3
      try clear hfz12_4
      try clear hfz12_5
      try clear hfz14_0
      try clear hfz14_1
      try clear hfz14_2
      try clear hfz14_3
      try clear hfz14_4
      try clear hfz14_5
      try clear hx122_0
      try clear hx122_1
      try clear hx122_2
      try clear hx122_3
      try clear hx122_4
      try clear hx122_5
      try clear p122
      try clear p2
      try clear q122
      obtain ⟨kq, x100_9, HA, HJ9, HO_7, BK123, HB⟩ := hcut
      cases kq with
      | zero => exact absurd HA.out (by simp [tenementlaw22_writes.j2])
      | succ kj9 =>
       have H := HA.out
       clear HA
       simp only [tenementlaw22_writes.j2] at H
       replace H := Option.bind_eq_some_iff.mp H
       obtain ⟨⟨t124, t125, t126, t127⟩, A150, H⟩ := H
       replace H : (tenementlaw22_writes.l1 kj9 l0 a1 a2 x7_1 x8_1 false 0 t124 t125 t126 t127) = some r := H
       have A15 := Aside0.mk A150
       clear A150
       have H' := Aside0.mk H
       clear H
       obtain ⟨hcz16_0, hcz16_1, hcz16_2, hcz16_3, hcz16_4, hcz16_5, hfz16_0, hfz16_1, hfz16_2, hfz16_3, hfz16_4, hfz16_5⟩ := Ke6_ BK123.out
       go_wp2_with (first | (go_at_call 12; (with_reducible refine (tenementlaw22_Put_write.calls ((rd_T26 l0 x8_1).f0.f0) ((rd_T26 l0 x8_1).f0.f1) ((rd_T26 l0 x8_1).f0.f2) ((rd_T26 l0 x8_1).f0.f3) x100_9 ((rd_T26 l0 x8_1).f2) t124 t125 t126 t127 _ A15.out).mono ?_); rintro e w17 ⟨rfl, hb⟩; replace HO_7 := Aside0.mk (Kd.R_below (Ku_ HO_7) hb); replace BK123 := Kb_ BK123 hb; replace HB := Ks_ HB hb; (try clear hb); (try clear hb2); (try clear hk); (try clear hi)) | ((with_reducible refine gate_dst (N := 10) rfl ?_); refine Ka_ 10 #[.string (⟨#[]⟩ : ByteArray), .string (⟨#[]⟩ : ByteArray), .string (⟨#[]⟩ : ByteArray), .bool false] 24 ?_; intro gb128 hg w18 hbox hb; have BK128 := Aside0.mk (hbox); have GW128 := Kw_ HB hg; have GE128 := GW128; have NB123_128 := Kl_ BK123 hg; have NB128_123 := Kr_ BK123 hg; replace HO_7 := Aside0.mk (Kd.R_below (Kd.R_elderB (Ku_ HO_7) gb128 (Nat.le_of_eq hg.symm)) hb); replace BK123 := Kb_ BK123 hb; replace HB := Ks_ HB hb; clear hb hbox hg; have hnb19 := NB128_123.out; have hnc19 := NB123_128.out; obtain ⟨hcz20_0, hcz20_1, hcz20_2, hcz20_3, hfz20_0, hfz20_1, hfz20_2, hfz20_3⟩ := Ke4_ BK128.out))
       repeat (go_quiet (first | (go_at_call 12; (with_reducible refine (tenementlaw22_Put_write.calls ((rd_T26 l0 x8_1).f0.f0) ((rd_T26 l0 x8_1).f0.f1) ((rd_T26 l0 x8_1).f0.f2) ((rd_T26 l0 x8_1).f0.f3) x100_9 ((rd_T26 l0 x8_1).f2) t124 t125 t126 t127 _ A15.out).mono ?_); rintro e w17 ⟨rfl, hb⟩; replace HO_7 := Aside0.mk (Kd.R_below (Ku_ HO_7) hb); replace BK123 := Kb_ BK123 hb; replace HB := Ks_ HB hb; (try clear hb); (try clear hb2); (try clear hk); (try clear hi)) | ((with_reducible refine gate_dst (N := 10) rfl ?_); refine Ka_ 10 #[.string (⟨#[]⟩ : ByteArray), .string (⟨#[]⟩ : ByteArray), .string (⟨#[]⟩ : ByteArray), .bool false] 24 ?_; intro gb128 hg w18 hbox hb; have BK128 := Aside0.mk (hbox); have GW128 := Kw_ HB hg; have GE128 := GW128; have NB123_128 := Kl_ BK123 hg; have NB128_123 := Kr_ BK123 hg; replace HO_7 := Aside0.mk (Kd.R_below (Kd.R_elderB (Ku_ HO_7) gb128 (Nat.le_of_eq hg.symm)) hb); replace BK123 := Kb_ BK123 hb; replace HB := Ks_ HB hb; clear hb hbox hg; have hnb19 := NB128_123.out; have hnc19 := NB123_128.out; obtain ⟨hcz20_0, hcz20_1, hcz20_2, hcz20_3, hfz20_0, hfz20_1, hfz20_2, hfz20_3⟩ := Ke4_ BK128.out)); try go_wp2_with (first | (go_at_call 12; (with_reducible refine (tenementlaw22_Put_write.calls ((rd_T26 l0 x8_1).f0.f0) ((rd_T26 l0 x8_1).f0.f1) ((rd_T26 l0 x8_1).f0.f2) ((rd_T26 l0 x8_1).f0.f3) x100_9 ((rd_T26 l0 x8_1).f2) t124 t125 t126 t127 _ A15.out).mono ?_); rintro e w17 ⟨rfl, hb⟩; replace HO_7 := Aside0.mk (Kd.R_below (Ku_ HO_7) hb); replace BK123 := Kb_ BK123 hb; replace HB := Ks_ HB hb; (try clear hb); (try clear hb2); (try clear hk); (try clear hi)) | ((with_reducible refine gate_dst (N := 10) rfl ?_); refine Ka_ 10 #[.string (⟨#[]⟩ : ByteArray), .string (⟨#[]⟩ : ByteArray), .string (⟨#[]⟩ : ByteArray), .bool false] 24 ?_; intro gb128 hg w18 hbox hb; have BK128 := Aside0.mk (hbox); have GW128 := Kw_ HB hg; have GE128 := GW128; have NB123_128 := Kl_ BK123 hg; have NB128_123 := Kr_ BK123 hg; replace HO_7 := Aside0.mk (Kd.R_below (Kd.R_elderB (Ku_ HO_7) gb128 (Nat.le_of_eq hg.symm)) hb); replace BK123 := Kb_ BK123 hb; replace HB := Ks_ HB hb; clear hb hbox hg; have hnb19 := NB128_123.out; have hnc19 := NB123_128.out; obtain ⟨hcz20_0, hcz20_1, hcz20_2, hcz20_3, hfz20_0, hfz20_1, hfz20_2, hfz20_3⟩ := Ke4_ BK128.out)))
       go_loopg [11, 12] kj9 (fun kq v11 v12 w' => ∃ (x11_4 : Bool) (x12_4 : Int), v11 = .bool x11_4 ∧ v12 = .int .i64 x12_4 ∧ Aside0 (tenementlaw22_writes.l1 kq l0 a1 a2 x7_1 x8_1 x11_4 x12_4 t124 t125 t126 t127 = some r) ∧ Aside0 (kq ≤ kj9) ∧ Aside0 (Kd.R k24 24 w' w.heap.size (fun k_ => k_ ≠ gb128) u7 x7_1) ∧ Aside0 (w'.heap[gb123]? = some (.cells #[.string ((rd_T26 l0 x8_1).f0.f0), .string ((rd_T26 l0 x8_1).f0.f1), .string ((rd_T26 l0 x8_1).f0.f2), .bool ((rd_T26 l0 x8_1).f0.f3), .bool x100_9, .int .u8 ((rd_T26 l0 x8_1).f2)] 26 (0, 0))) ∧ Aside0 (w'.heap[gb128]? = some (.cells #[.string t124, .string t125, .string t126, .bool t127] 24 (0, 0))) ∧ Aside0 (Below w.heap.size w w'))
       case atStart => exact ⟨(false), (0), (by first | rfl | (simp; done) | (simp [*]; done)), (by first | rfl | (simp; done) | (simp [*]; done)), H', ⟨Nat.le_refl _⟩, ⟨by (with_reducible repeat (first | apply Kd.R_alloc | apply Kd.R_drewN | apply Kd.R_drew)); exact Kd.R_mono (Kd.R_far (p := ⟨gb128, 3, none⟩) (Kd.R_far (p := ⟨gb128, 2, none⟩) (Kd.R_far (p := ⟨gb128, 1, none⟩) (Kd.R_far (p := ⟨gb128, 0, none⟩) (Kd.R_mono HO_7.out (fun k_ hk => (⟨hk, hk.2⟩ : _ ∧ k_ ≠ gb128))) (fun _ hk => hk.2) (.string t124)) (fun _ hk => hk.2) (.string t125)) (fun _ hk => hk.2) (.string t126)) (fun _ hk => hk.2) (.bool t127)) (fun _ hk => hk.1.2)⟩, ⟨by exact K1b_ BK123 NB123_128⟩, ⟨by refine Kv_ ?_; refine blk_put (cs := #[.string t124, .string t125, .string t126, .bool false]) ?_ 3 _ rfl; refine Kv_ ?_; refine blk_put (cs := #[.string t124, .string t125, .string (⟨#[]⟩ : ByteArray), .bool false]) ?_ 2 _ rfl; refine Kv_ ?_; refine blk_put (cs := #[.string t124, .string (⟨#[]⟩ : ByteArray), .string (⟨#[]⟩ : ByteArray), .bool false]) ?_ 1 _ rfl; refine Kv_ ?_; refine blk_put (cs := #[.string (⟨#[]⟩ : ByteArray), .string (⟨#[]⟩ : ByteArray), .string (⟨#[]⟩ : ByteArray), .bool false]) ?_ 0 _ rfl; exact Kq_ BK128⟩, ⟨K2a_ HB GE123 GE128⟩⟩
       case round =>
        clear H'
        try clear c1
        try clear p1
        try clear q1
        try clear hx1
        try clear p2
        try clear c5
        try clear c5b0
        try clear c7
        try clear c8
        try clear c8b0
        try clear c9
        try clear c9b0
        try clear p12
        try clear q12
        try clear hx12
        try clear c13
        try clear c19
        try clear hcz12_0
        try clear hcz12_1
        try clear hcz12_2
        try clear hcz12_3
        try clear hcz12_4
        try clear hcz12_5
        try clear hcz14_0
        try clear hcz14_1
        try clear hcz14_2
        try clear hcz14_3
        try clear hcz14_4
        try clear hcz14_5
        try clear hcz16_0
        try clear hcz16_1
        try clear hcz16_2
        try clear hcz16_3
        try clear hcz16_4
        try clear hcz16_5
        try clear hcz20_0
        try clear hcz20_1
        try clear hcz20_2
        try clear hcz20_3
        try clear hfz12_0
        try clear hfz12_1
        try clear hfz12_2
        try clear hfz12_3
        try clear hfz12_4
        try clear hfz12_5
        try clear hfz14_0
        try clear hfz14_1
        try clear hfz14_2
        try clear hfz14_3
        try clear hfz14_4
        try clear hfz14_5
        try clear hfz16_0
        try clear hfz16_1
        try clear hfz16_2
        try clear hfz16_3
        try clear hfz16_4
        try clear hfz16_5
        try clear hfz20_0
        try clear hfz20_1
        try clear hfz20_2
        try clear hfz20_3
        try clear hx122_0
        try clear hx122_1
        try clear hx122_2
        try clear hx122_3
        try clear hx122_4
        try clear hx122_5
        try clear p1
        try clear p12
        try clear p122
        try clear p2
        try clear q1
        try clear q12
        try clear q122
        obtain ⟨x11_4, x12_4, rfl, rfl, HA, HK4, HO_7, BK123, BK128, HB⟩ := hrel
        cases gk with
        | zero => exact absurd HA.out (by simp [tenementlaw22_writes.l1])
        | succ k4 =>
         have H := HA.out
         clear HA
         simp only [tenementlaw22_writes.l1] at H
         by_cases c21 : x12_4 < (x7_1.length : Int)
         ·rw [if_pos c21] at H
          have c21b0 : decide (x12_4 < (x7_1.length : Int)) = true := decide_eq_true c21
          clear c21
          by_cases c22 : x11_4 = true
          ·subst c22
           have H1 : (tenementlaw22_writes.l1 k4 l0 a1 a2 x7_1 x8_1 true (wrap64 (x12_4 + 1)) t124 t125 t126 t127) = some r := by rw [if_pos rfl] at H; exact H
           clear H
           have H := H1
           clear H1
           have H' := Aside0.mk H
           clear H
           obtain ⟨Ao23, co23, eo23⟩ := Kd.R_slice HO_7.out
           subst eo23
           go_wp2
           repeat (go_quiet (fail); try go_wp2)
           go_roundg k4
           case measure => have := HK1.out; have := HJ3.out; have := HJ9.out; have := HK4.out; omega
           case rel => exact ⟨(true), (wrap64 (x12_4 + 1)), (by first | rfl | (simp; done) | (simp [*]; done)), (by first | rfl | (simp; done) | (simp [*]; done)), H', ⟨by have := HK1.out; have := HJ3.out; have := HJ9.out; have := HK4.out; omega⟩, ⟨by (with_reducible repeat (first | apply Kd.R_alloc | apply Kd.R_drewN | apply Kd.R_drew)); exact HO_7.out⟩, ⟨by exact Kq_ BK123⟩, ⟨by exact Kq_ BK128⟩, ⟨K2a_ HB GE123 GE128⟩⟩
          replace c22 := Bool.eq_false_iff.mpr c22
          subst c22
          have H1 : (if 0 ≤ x12_4 then (if ((rd_T24 x7_1 x12_4).f0).toList = t124.toList then (tenementlaw22_writes.l1 k4 l0 a1 a2 x7_1 x8_1 (((rd_T24 x7_1 x12_4).f1).toList == t125.toList) (wrap64 (x12_4 + 1)) t124 t125 t126 t127) else (tenementlaw22_writes.l1 k4 l0 a1 a2 x7_1 x8_1 false (wrap64 (x12_4 + 1)) t124 t125 t126 t127)) else (none)) = some r := by rw [if_neg (show ¬ (false = true) by decide)] at H; exact H
          clear H
          have H := H1
          clear H1
          by_cases c24 : 0 ≤ x12_4
          rotate_left
          ·rw [if_neg c24] at H
           exact absurd H (by simp)
          rw [if_pos c24] at H
          have c24b0 : decide (0 ≤ x12_4) = true := decide_eq_true c24
          clear c24
          by_cases c25 : ((rd_T24 x7_1 x12_4).f0).toList = t124.toList
          rotate_left
          ·rw [if_neg c25] at H
           have c25b0 : (((rd_T24 x7_1 x12_4).f0).toList == t124.toList) = false := beq_eq_false_iff_ne.mpr c25
           have c25b1 : (((rd_T24 x7_1 x12_4).f0).toList != t124.toList) = true := bne_iff_ne.mpr c25
           have H' := Aside0.mk H
           clear H
           obtain ⟨Ao29, co29, eo29⟩ := Kd.R_slice HO_7.out
           subst eo29
           have p129 : 0 ≤ (x12_4 : Int) := of_decide_eq_true (by first | (with_reducible assumption) | assumption)
           have q129 : x12_4 < (x7_1.length : Int) := of_decide_eq_true (by first | (with_reducible assumption) | assumption)
           obtain ⟨ad129, e129, hx129_0, hx129_1, hx129_2, hx129_3⟩ := at_T24 (Kd.R_reads' HO_7.out).2.2 x12_4 p129 q129
           cases e129
           replace p129 := eq_true p129
           replace q129 := eq_true q129
           have hnb30 := NB128_123.out
           have hnc30 := NB123_128.out
           obtain ⟨hcz31_0, hcz31_1, hcz31_2, hcz31_3, hfz31_0, hfz31_1, hfz31_2, hfz31_3⟩ := Ke4_ BK128.out
           go_wp2
           repeat (go_quiet (fail); try go_wp2)
           go_roundg k4
           case measure => have := HK1.out; have := HJ3.out; have := HJ9.out; have := HK4.out; omega
           case rel => exact ⟨(false), (wrap64 (x12_4 + 1)), (by first | rfl | (simp; done) | (simp [*]; done)), (by first | rfl | (simp; done) | (simp [*]; done)), H', ⟨by have := HK1.out; have := HJ3.out; have := HJ9.out; have := HK4.out; omega⟩, ⟨by (with_reducible repeat (first | apply Kd.R_alloc | apply Kd.R_drewN | apply Kd.R_drew)); exact HO_7.out⟩, ⟨by exact Kq_ BK123⟩, ⟨by exact Kq_ BK128⟩, ⟨K2a_ HB GE123 GE128⟩⟩
          rw [if_pos c25] at H
          have c25b0 : (((rd_T24 x7_1 x12_4).f0).toList == t124.toList) = true := beq_iff_eq.mpr c25
          have c25b1 : (((rd_T24 x7_1 x12_4).f0).toList != t124.toList) = false := bne_eq_false_iff_eq.mpr c25
          clear c25
          have H' := Aside0.mk H
          clear H
          obtain ⟨Ao26, co26, eo26⟩ := Kd.R_slice HO_7.out
          subst eo26
          have p129 : 0 ≤ (x12_4 : Int) := of_decide_eq_true (by first | (with_reducible assumption) | assumption)
          have q129 : x12_4 < (x7_1.length : Int) := of_decide_eq_true (by first | (with_reducible assumption) | assumption)
          obtain ⟨ad129, e129, hx129_0, hx129_1, hx129_2, hx129_3⟩ := at_T24 (Kd.R_reads' HO_7.out).2.2 x12_4 p129 q129
          cases e129
          replace p129 := eq_true p129
          replace q129 := eq_true q129
          have hnb27 := NB128_123.out
          have hnc27 := NB123_128.out
          obtain ⟨hcz28_0, hcz28_1, hcz28_2, hcz28_3, hfz28_0, hfz28_1, hfz28_2, hfz28_3⟩ := Ke4_ BK128.out
          have p130 : 0 ≤ (x12_4 : Int) := of_decide_eq_true (by first | (with_reducible assumption) | assumption)
          have q130 : x12_4 < (x7_1.length : Int) := of_decide_eq_true (by first | (with_reducible assumption) | assumption)
          obtain ⟨ad130, e130, hx130_0, hx130_1, hx130_2, hx130_3⟩ := at_T24 (Kd.R_reads' HO_7.out).2.2 x12_4 p130 q130
          obtain rfl : ad129 = ad130 := (by injection e130)
          replace p130 := eq_true p130
          replace q130 := eq_true q130
          go_wp2
          repeat (go_quiet (fail); try go_wp2)
          go_roundg k4
          case measure => have := HK1.out; have := HJ3.out; have := HJ9.out; have := HK4.out; omega
          case rel => exact ⟨((((rd_T24 x7_1 x12_4).f1).toList == t125.toList)), (wrap64 (x12_4 + 1)), (by first | rfl | (simp; done) | (simp [*]; done)), (by first | rfl | (simp; done) | (simp [*]; done)), H', ⟨by have := HK1.out; have := HJ3.out; have := HJ9.out; have := HK4.out; omega⟩, ⟨by (with_reducible repeat (first | apply Kd.R_alloc | apply Kd.R_drewN | apply Kd.R_drew)); exact HO_7.out⟩, ⟨by exact Kq_ BK123⟩, ⟨by exact Kq_ BK128⟩, ⟨K2a_ HB GE123 GE128⟩⟩
         rw [if_neg c21] at H
         have c21b0 : decide (x12_4 < (x7_1.length : Int)) = false := decide_eq_false c21
         clear c21
         by_cases c32 : a2 = true
         rotate_left
         ·replace c32 := Bool.eq_false_iff.mpr c32
          subst c32
          have H1 : (if x7_1.length < 2513169434916 then (tenementlaw22_writes.l0 k4 l0 a1 false (x7_1 ++ [(⟨t124, t125, t126, t127⟩ : S24)]) (wrap64 (x8_1 + 1))) else (none)) = some r := by rw [if_neg (show ¬ (false = true) by decide)] at H; exact H
          clear H
          have H := H1
          clear H1
          by_cases c40 : x7_1.length < 2513169434916
          rotate_left
          ·rw [if_neg c40] at H
           exact absurd H (by simp)
          rw [if_pos c40] at H
          have LMc40 := Aside0.mk c40
          clear c40
          obtain ⟨y134, hy134⟩ : ∃ y_ : List (S24), y_ = (x7_1 ++ [(⟨t124, t125, t126, t127⟩ : S24)]) := ⟨_, rfl⟩
          replace H : (tenementlaw22_writes.l0 k4 l0 a1 false y134 (wrap64 (x8_1 + 1))) = some r := by first | (rw [hy134]; with_reducible exact H) | (have H2_ := (Option.bind_some _ _).symm.trans H; rw [hy134]; with_reducible exact H2_) | (have H2_ := (Option.bind_some _ _).symm.trans H; with_reducible exact H2_) | with_reducible exact H | (rw [hy134]; exact H) | exact H
          have Ny134 := Aside0.mk hy134
          clear hy134
          have H' := Aside0.mk H
          clear H
          obtain ⟨Ao41, co41, eo41⟩ := Kd.R_slice HO_7.out
          subst eo41
          have hnb42 := NB128_123.out
          have hnc42 := NB123_128.out
          obtain ⟨hcz43_0, hcz43_1, hcz43_2, hcz43_3, hfz43_0, hfz43_1, hfz43_2, hfz43_3⟩ := Ke4_ BK128.out
          go_wp2_with (first | ((with_reducible refine gate_builtin (b := .append) (xs := #[.tmp 66, .tmp 68]) rfl ?_); at_builtin; refine Kd.R_append k24 (w0 := w) w.heap.size rfl (.tmp 66) (.tmp 68) 62 24 (.agg #[(.string ⟨#[]⟩), (.string ⟨#[]⟩), (.string ⟨#[]⟩), (.bool false)]) 56 rfl Try.underlying62 info24 rfl (by decide) (by omega) (.slice Ao41 x7_1.length co41) x7_1 (⟨t124, t125, t126, t127⟩ : S24) [.string t124, .string t125, .string t126, .bool t127] (fun k_ => k_ ≠ gb128) (fun _ => False) rfl rfl ?aP (fun _ hk => hk.elim) ?aF ?aO ?aB ?aS ?aL ?_; (case aP => exact k24_mkM _ _ _ (⟨t124, t125, t126, t127⟩ : S24)); (case aB => exact (K2a_ HB GE123 GE128)); (case aF => exact (fun k_ hk => Kd.freshB (g := gb128) (o := .cells #[.string t124, .string t125, .string t126, .bool t127] 24 (0, 0)) (Kq_ BK128) k_ hk)); (case aO => exact (Ku_ HO_7)); (case aS => exact (below_size (K2a_ HB GE123 GE128))); (case aL => have := LMc40.out; omega); intro v135 w44 ho hb hg hat; rw [← Ny134.out] at ho; have HO136 := Aside0.mk (ho); replace BK123 := Aside0.mk (blk_grown (g := gb123) (o := .cells #[.string ((rd_T26 l0 x8_1).f0.f0), .string ((rd_T26 l0 x8_1).f0.f1), .string ((rd_T26 l0 x8_1).f0.f2), .bool ((rd_T26 l0 x8_1).f0.f3), .bool x100_9, .int .u8 ((rd_T26 l0 x8_1).f2)] 26 (0, 0)) (Kq_ BK123) hg (Kd.R_ne HO_7.out BK123.out (by decide))); replace BK128 := Aside0.mk (blk_grown (g := gb128) (o := .cells #[.string t124, .string t125, .string t126, .bool t127] 24 (0, 0)) (Kq_ BK128) hg (Kd.R_away HO_7.out (fun _ hk => hk))); replace HB := Aside0.mk (hb); clear HO_7; clear ho hb hg hat))
          repeat (go_quiet (first | ((with_reducible refine gate_builtin (b := .append) (xs := #[.tmp 66, .tmp 68]) rfl ?_); at_builtin; refine Kd.R_append k24 (w0 := w) w.heap.size rfl (.tmp 66) (.tmp 68) 62 24 (.agg #[(.string ⟨#[]⟩), (.string ⟨#[]⟩), (.string ⟨#[]⟩), (.bool false)]) 56 rfl Try.underlying62 info24 rfl (by decide) (by omega) (.slice Ao41 x7_1.length co41) x7_1 (⟨t124, t125, t126, t127⟩ : S24) [.string t124, .string t125, .string t126, .bool t127] (fun k_ => k_ ≠ gb128) (fun _ => False) rfl rfl ?aP (fun _ hk => hk.elim) ?aF ?aO ?aB ?aS ?aL ?_; (case aP => exact k24_mkM _ _ _ (⟨t124, t125, t126, t127⟩ : S24)); (case aB => exact (K2a_ HB GE123 GE128)); (case aF => exact (fun k_ hk => Kd.freshB (g := gb128) (o := .cells #[.string t124, .string t125, .string t126, .bool t127] 24 (0, 0)) (Kq_ BK128) k_ hk)); (case aO => exact (Ku_ HO_7)); (case aS => exact (below_size (K2a_ HB GE123 GE128))); (case aL => have := LMc40.out; omega); intro v135 w44 ho hb hg hat; rw [← Ny134.out] at ho; have HO136 := Aside0.mk (ho); replace BK123 := Aside0.mk (blk_grown (g := gb123) (o := .cells #[.string ((rd_T26 l0 x8_1).f0.f0), .string ((rd_T26 l0 x8_1).f0.f1), .string ((rd_T26 l0 x8_1).f0.f2), .bool ((rd_T26 l0 x8_1).f0.f3), .bool x100_9, .int .u8 ((rd_T26 l0 x8_1).f2)] 26 (0, 0)) (Kq_ BK123) hg (Kd.R_ne HO_7.out BK123.out (by decide))); replace BK128 := Aside0.mk (blk_grown (g := gb128) (o := .cells #[.string t124, .string t125, .string t126, .bool t127] 24 (0, 0)) (Kq_ BK128) hg (Kd.R_away HO_7.out (fun _ hk => hk))); replace HB := Aside0.mk (hb); clear HO_7; clear ho hb hg hat)); try go_wp2_with (first | ((with_reducible refine gate_builtin (b := .append) (xs := #[.tmp 66, .tmp 68]) rfl ?_); at_builtin; refine Kd.R_append k24 (w0 := w) w.heap.size rfl (.tmp 66) (.tmp 68) 62 24 (.agg #[(.string ⟨#[]⟩), (.string ⟨#[]⟩), (.string ⟨#[]⟩), (.bool false)]) 56 rfl Try.underlying62 info24 rfl (by decide) (by omega) (.slice Ao41 x7_1.length co41) x7_1 (⟨t124, t125, t126, t127⟩ : S24) [.string t124, .string t125, .string t126, .bool t127] (fun k_ => k_ ≠ gb128) (fun _ => False) rfl rfl ?aP (fun _ hk => hk.elim) ?aF ?aO ?aB ?aS ?aL ?_; (case aP => exact k24_mkM _ _ _ (⟨t124, t125, t126, t127⟩ : S24)); (case aB => exact (K2a_ HB GE123 GE128)); (case aF => exact (fun k_ hk => Kd.freshB (g := gb128) (o := .cells #[.string t124, .string t125, .string t126, .bool t127] 24 (0, 0)) (Kq_ BK128) k_ hk)); (case aO => exact (Ku_ HO_7)); (case aS => exact (below_size (K2a_ HB GE123 GE128))); (case aL => have := LMc40.out; omega); intro v135 w44 ho hb hg hat; rw [← Ny134.out] at ho; have HO136 := Aside0.mk (ho); replace BK123 := Aside0.mk (blk_grown (g := gb123) (o := .cells #[.string ((rd_T26 l0 x8_1).f0.f0), .string ((rd_T26 l0 x8_1).f0.f1), .string ((rd_T26 l0 x8_1).f0.f2), .bool ((rd_T26 l0 x8_1).f0.f3), .bool x100_9, .int .u8 ((rd_T26 l0 x8_1).f2)] 26 (0, 0)) (Kq_ BK123) hg (Kd.R_ne HO_7.out BK123.out (by decide))); replace BK128 := Aside0.mk (blk_grown (g := gb128) (o := .cells #[.string t124, .string t125, .string t126, .bool t127] 24 (0, 0)) (Kq_ BK128) hg (Kd.R_away HO_7.out (fun _ hk => hk))); replace HB := Aside0.mk (hb); clear HO_7; clear ho hb hg hat)))
          go_roundg k4
          case measure => have := HK1.out; have := HJ3.out; have := HJ9.out; have := HK4.out; omega
          case rel => exact ⟨(y134), (wrap64 (x8_1 + 1)), (by first | rfl | (simp; done) | (simp [*]; done)), H', ⟨by have := HK1.out; have := HJ3.out; have := HJ9.out; have := HK4.out; omega⟩, ⟨by (with_reducible repeat (first | apply Kd.R_alloc | apply Kd.R_drewN | apply Kd.R_drew)); exact Kd.R_mono HO136.out (fun _ hk => trivial)⟩, ⟨K2a_ HB GE123 GE128⟩⟩
         subst c32
         have H1 : (if x11_4 = true then (tenementlaw22_writes.l0 k4 l0 a1 true x7_1 (wrap64 (x8_1 + 1))) else (if x7_1.length < 2513169434916 then (tenementlaw22_writes.l0 k4 l0 a1 true (x7_1 ++ [(⟨t124, t125, t126, t127⟩ : S24)]) (wrap64 (x8_1 + 1))) else (none))) = some r := by rw [if_pos rfl] at H; exact H
         clear H
         have H := H1
         clear H1
         by_cases c33 : x11_4 = true
         ·subst c33
          have H1 : (tenementlaw22_writes.l0 k4 l0 a1 true x7_1 (wrap64 (x8_1 + 1))) = some r := by rw [if_pos rfl] at H; exact H
          clear H
          have H := H1
          clear H1
          have H' := Aside0.mk H
          clear H
          obtain ⟨Ao34, co34, eo34⟩ := Kd.R_slice HO_7.out
          subst eo34
          go_wp2
          repeat (go_quiet (fail); try go_wp2)
          go_roundg k4
          case measure => have := HK1.out; have := HJ3.out; have := HJ9.out; have := HK4.out; omega
          case rel => exact ⟨(x7_1), (wrap64 (x8_1 + 1)), (by first | rfl | (simp; done) | (simp [*]; done)), H', ⟨by have := HK1.out; have := HJ3.out; have := HJ9.out; have := HK4.out; omega⟩, ⟨by (with_reducible repeat (first | apply Kd.R_alloc | apply Kd.R_drewN | apply Kd.R_drew)); exact Kd.R_mono HO_7.out (fun _ hk => trivial)⟩, ⟨K2a_ HB GE123 GE128⟩⟩
         replace c33 := Bool.eq_false_iff.mpr c33
         subst c33
         have H1 : (if x7_1.length < 2513169434916 then (tenementlaw22_writes.l0 k4 l0 a1 true (x7_1 ++ [(⟨t124, t125, t126, t127⟩ : S24)]) (wrap64 (x8_1 + 1))) else (none)) = some r := by rw [if_neg (show ¬ (false = true) by decide)] at H; exact H
         clear H
         have H := H1
         clear H1
         by_cases c35 : x7_1.length < 2513169434916
         rotate_left
         ·rw [if_neg c35] at H
          exact absurd H (by simp)
         rw [if_pos c35] at H
         have LMc35 := Aside0.mk c35
         clear c35
         obtain ⟨y131, hy131⟩ : ∃ y_ : List (S24), y_ = (x7_1 ++ [(⟨t124, t125, t126, t127⟩ : S24)]) := ⟨_, rfl⟩
         replace H : (tenementlaw22_writes.l0 k4 l0 a1 true y131 (wrap64 (x8_1 + 1))) = some r := by first | (rw [hy131]; with_reducible exact H) | (have H2_ := (Option.bind_some _ _).symm.trans H; rw [hy131]; with_reducible exact H2_) | (have H2_ := (Option.bind_some _ _).symm.trans H; with_reducible exact H2_) | with_reducible exact H | (rw [hy131]; exact H) | exact H
         have Ny131 := Aside0.mk hy131
         clear hy131
         have H' := Aside0.mk H
         clear H
         obtain ⟨Ao36, co36, eo36⟩ := Kd.R_slice HO_7.out
         subst eo36
         have hnb37 := NB128_123.out
         have hnc37 := NB123_128.out
         obtain ⟨hcz38_0, hcz38_1, hcz38_2, hcz38_3, hfz38_0, hfz38_1, hfz38_2, hfz38_3⟩ := Ke4_ BK128.out
         go_wp2_with (first | ((with_reducible refine gate_builtin (b := .append) (xs := #[.tmp 66, .tmp 68]) rfl ?_); at_builtin; refine Kd.R_append k24 (w0 := w) w.heap.size rfl (.tmp 66) (.tmp 68) 62 24 (.agg #[(.string ⟨#[]⟩), (.string ⟨#[]⟩), (.string ⟨#[]⟩), (.bool false)]) 56 rfl Try.underlying62 info24 rfl (by decide) (by omega) (.slice Ao36 x7_1.length co36) x7_1 (⟨t124, t125, t126, t127⟩ : S24) [.string t124, .string t125, .string t126, .bool t127] (fun k_ => k_ ≠ gb128) (fun _ => False) rfl rfl ?aP (fun _ hk => hk.elim) ?aF ?aO ?aB ?aS ?aL ?_; (case aP => exact k24_mkM _ _ _ (⟨t124, t125, t126, t127⟩ : S24)); (case aB => exact (K2a_ HB GE123 GE128)); (case aF => exact (fun k_ hk => Kd.freshB (g := gb128) (o := .cells #[.string t124, .string t125, .string t126, .bool t127] 24 (0, 0)) (Kq_ BK128) k_ hk)); (case aO => exact (Ku_ HO_7)); (case aS => exact (below_size (K2a_ HB GE123 GE128))); (case aL => have := LMc35.out; omega); intro v132 w39 ho hb hg hat; rw [← Ny131.out] at ho; have HO133 := Aside0.mk (ho); replace BK123 := Aside0.mk (blk_grown (g := gb123) (o := .cells #[.string ((rd_T26 l0 x8_1).f0.f0), .string ((rd_T26 l0 x8_1).f0.f1), .string ((rd_T26 l0 x8_1).f0.f2), .bool ((rd_T26 l0 x8_1).f0.f3), .bool x100_9, .int .u8 ((rd_T26 l0 x8_1).f2)] 26 (0, 0)) (Kq_ BK123) hg (Kd.R_ne HO_7.out BK123.out (by decide))); replace BK128 := Aside0.mk (blk_grown (g := gb128) (o := .cells #[.string t124, .string t125, .string t126, .bool t127] 24 (0, 0)) (Kq_ BK128) hg (Kd.R_away HO_7.out (fun _ hk => hk))); replace HB := Aside0.mk (hb); clear HO_7; clear ho hb hg hat))
         repeat (go_quiet (first | ((with_reducible refine gate_builtin (b := .append) (xs := #[.tmp 66, .tmp 68]) rfl ?_); at_builtin; refine Kd.R_append k24 (w0 := w) w.heap.size rfl (.tmp 66) (.tmp 68) 62 24 (.agg #[(.string ⟨#[]⟩), (.string ⟨#[]⟩), (.string ⟨#[]⟩), (.bool false)]) 56 rfl Try.underlying62 info24 rfl (by decide) (by omega) (.slice Ao36 x7_1.length co36) x7_1 (⟨t124, t125, t126, t127⟩ : S24) [.string t124, .string t125, .string t126, .bool t127] (fun k_ => k_ ≠ gb128) (fun _ => False) rfl rfl ?aP (fun _ hk => hk.elim) ?aF ?aO ?aB ?aS ?aL ?_; (case aP => exact k24_mkM _ _ _ (⟨t124, t125, t126, t127⟩ : S24)); (case aB => exact (K2a_ HB GE123 GE128)); (case aF => exact (fun k_ hk => Kd.freshB (g := gb128) (o := .cells #[.string t124, .string t125, .string t126, .bool t127] 24 (0, 0)) (Kq_ BK128) k_ hk)); (case aO => exact (Ku_ HO_7)); (case aS => exact (below_size (K2a_ HB GE123 GE128))); (case aL => have := LMc35.out; omega); intro v132 w39 ho hb hg hat; rw [← Ny131.out] at ho; have HO133 := Aside0.mk (ho); replace BK123 := Aside0.mk (blk_grown (g := gb123) (o := .cells #[.string ((rd_T26 l0 x8_1).f0.f0), .string ((rd_T26 l0 x8_1).f0.f1), .string ((rd_T26 l0 x8_1).f0.f2), .bool ((rd_T26 l0 x8_1).f0.f3), .bool x100_9, .int .u8 ((rd_T26 l0 x8_1).f2)] 26 (0, 0)) (Kq_ BK123) hg (Kd.R_ne HO_7.out BK123.out (by decide))); replace BK128 := Aside0.mk (blk_grown (g := gb128) (o := .cells #[.string t124, .string t125, .string t126, .bool t127] 24 (0, 0)) (Kq_ BK128) hg (Kd.R_away HO_7.out (fun _ hk => hk))); replace HB := Aside0.mk (hb); clear HO_7; clear ho hb hg hat)); try go_wp2_with (first | ((with_reducible refine gate_builtin (b := .append) (xs := #[.tmp 66, .tmp 68]) rfl ?_); at_builtin; refine Kd.R_append k24 (w0 := w) w.heap.size rfl (.tmp 66) (.tmp 68) 62 24 (.agg #[(.string ⟨#[]⟩), (.string ⟨#[]⟩), (.string ⟨#[]⟩), (.bool false)]) 56 rfl Try.underlying62 info24 rfl (by decide) (by omega) (.slice Ao36 x7_1.length co36) x7_1 (⟨t124, t125, t126, t127⟩ : S24) [.string t124, .string t125, .string t126, .bool t127] (fun k_ => k_ ≠ gb128) (fun _ => False) rfl rfl ?aP (fun _ hk => hk.elim) ?aF ?aO ?aB ?aS ?aL ?_; (case aP => exact k24_mkM _ _ _ (⟨t124, t125, t126, t127⟩ : S24)); (case aB => exact (K2a_ HB GE123 GE128)); (case aF => exact (fun k_ hk => Kd.freshB (g := gb128) (o := .cells #[.string t124, .string t125, .string t126, .bool t127] 24 (0, 0)) (Kq_ BK128) k_ hk)); (case aO => exact (Ku_ HO_7)); (case aS => exact (below_size (K2a_ HB GE123 GE128))); (case aL => have := LMc35.out; omega); intro v132 w39 ho hb hg hat; rw [← Ny131.out] at ho; have HO133 := Aside0.mk (ho); replace BK123 := Aside0.mk (blk_grown (g := gb123) (o := .cells #[.string ((rd_T26 l0 x8_1).f0.f0), .string ((rd_T26 l0 x8_1).f0.f1), .string ((rd_T26 l0 x8_1).f0.f2), .bool ((rd_T26 l0 x8_1).f0.f3), .bool x100_9, .int .u8 ((rd_T26 l0 x8_1).f2)] 26 (0, 0)) (Kq_ BK123) hg (Kd.R_ne HO_7.out BK123.out (by decide))); replace BK128 := Aside0.mk (blk_grown (g := gb128) (o := .cells #[.string t124, .string t125, .string t126, .bool t127] 24 (0, 0)) (Kq_ BK128) hg (Kd.R_away HO_7.out (fun _ hk => hk))); replace HB := Aside0.mk (hb); clear HO_7; clear ho hb hg hat)))
         go_roundg k4
         case measure => have := HK1.out; have := HJ3.out; have := HJ9.out; have := HK4.out; omega
         case rel => exact ⟨(y131), (wrap64 (x8_1 + 1)), (by first | rfl | (simp; done) | (simp [*]; done)), H', ⟨by have := HK1.out; have := HJ3.out; have := HJ9.out; have := HK4.out; omega⟩, ⟨by (with_reducible repeat (first | apply Kd.R_alloc | apply Kd.R_drewN | apply Kd.R_drew)); exact Kd.R_mono HO133.out (fun _ hk => trivial)⟩, ⟨K2a_ HB GE123 GE128⟩⟩
def tenementlaw22_refStamp.f (a0_0 : Int) (a0_1 : Int) (a0_2 : Int) (a0_3 : Int) (a0_4 : Int) : Option (Int × Int × Int × Int × Int) := some (a0_0, a0_1, a0_2, a0_3, a0_4)
set_option maxHeartbeats 8000000 in
set_option maxRecDepth 100000 in
theorem tenementlaw22_refStamp.calls (a0_0 : Int) (a0_1 : Int) (a0_2 : Int) (a0_3 : Int) (a0_4 : Int) (r1 : Int) (r2 : Int) (r3 : Int) (r4 : Int) (r5 : Int) (w : World) (h : tenementlaw22_refStamp.f a0_0 a0_1 a0_2 a0_3 a0_4 = some (r1, r2, r3, r4, r5)) :
  Calls Try.prog 62 #[.agg #[.int .u64 a0_0, .int .u64 a0_1, .int .u64 a0_2, .int .u64 a0_3, .int .i64 a0_4]] w fun e w' => e = .returned (.agg #[.int .u64 r1, .int .u64 r2, .int .u64 r3, .int .u64 r4, .int .i64 r5]) ∧ Below w.heap.size w w' := by
 have hu56 := Try.underlying56
 have hu78 := Try.underlying78
 have hu29 := Try.underlying29
 have HB := Aside0.mk (Below.refl w.heap.size w)
 have H : (some (a0_0, a0_1, a0_2, a0_3, a0_4)) = some (r1, r2, r3, r4, r5) := h
 clear h
 simp only [Option.some.injEq, Prod.mk.injEq] at H
 obtain ⟨rfl, rfl, rfl, rfl, rfl⟩ := H
 go_enter Try.func62, Try.ntmps62
 go_wp2_with (first | ((with_reducible refine gate_dst (N := 1) rfl ?_); refine Ka_ 1 #[.int .u64 a0_0, .int .u64 a0_1, .int .u64 a0_2, .int .u64 a0_3, .int .i64 a0_4] 56 ?_; intro gb159 hg w2 hbox hb; have BK159 := Aside0.mk (hbox); have GW159 := Kw_ HB hg; have GE159 := GW159; replace HB := Ks_ HB hb; clear hb hbox hg) | ((with_reducible refine gate_dst (N := 2) rfl ?_); refine Ka_ 2 #[.int .u64 0, .int .u64 0, .int .u64 0, .int .u64 0, .int .i64 0] 78 ?_; intro gb160 hg w3 hbox hb; have BK160 := Aside0.mk (hbox); have GW160 := Kw_ HB hg; have GE160 := GW160; have NB159_160 := Kl_ BK159 hg; have NB160_159 := Kr_ BK159 hg; replace BK159 := Kb_ BK159 hb; replace HB := Ks_ HB hb; clear hb hbox hg; have hnb4 := NB159_160.out; have hnc4 := NB160_159.out; obtain ⟨hcz5_0, hcz5_1, hcz5_2, hcz5_3, hcz5_4, hfz5_0, hfz5_1, hfz5_2, hfz5_3, hfz5_4⟩ := Ke5_ BK159.out; obtain ⟨hcz6_0, hcz6_1, hcz6_2, hcz6_3, hcz6_4, hfz6_0, hfz6_1, hfz6_2, hfz6_3, hfz6_4⟩ := Ke5_ BK160.out))
 refine bodyPost_ret (results_cell_row rfl _ _ gb160 78 #[.int .u64 a0_0, .int .u64 a0_1, .int .u64 a0_2, .int .u64 a0_3, .int .i64 a0_4] (0, 0) _ rfl (by refine Kv_ ?_; refine blk_put (cs := #[.int .u64 a0_0, .int .u64 a0_1, .int .u64 a0_2, .int .u64 a0_3, .int .i64 0]) ?_ 4 _ rfl; refine Kv_ ?_; refine blk_put (cs := #[.int .u64 a0_0, .int .u64 a0_1, .int .u64 a0_2, .int .u64 0, .int .i64 0]) ?_ 3 _ rfl; refine Kv_ ?_; refine blk_put (cs := #[.int .u64 a0_0, .int .u64 a0_1, .int .u64 0, .int .u64 0, .int .i64 0]) ?_ 2 _ rfl; refine Kv_ ?_; refine blk_put (cs := #[.int .u64 a0_0, .int .u64 0, .int .u64 0, .int .u64 0, .int .i64 0]) ?_ 1 _ rfl; refine Kv_ ?_; refine blk_put (cs := #[.int .u64 0, .int .u64 0, .int .u64 0, .int .u64 0, .int .i64 0]) ?_ 0 _ rfl; exact Kq_ BK160) Try.underlying78 rfl (by kernel_rfl)) rfl ?_
 exact ⟨Kh_, K2a_ HB GE159 GE160⟩
def tenementlaw22_refWrites.l0 : Nat → List (S24) → List (S86) → Int → Option ((List (S86)))
 | 0, _, _, _ => none
 | k + 1, x0, x3, x4 => if x4 < (x0.length : Int) then (if 0 ≤ x4 then (if x3.length < 2513169434916 then (tenementlaw22_refWrites.l0 k x0 (x3 ++ [(⟨(rd_T24 x0 x4).f0, (rd_T24 x0 x4).f1, (rd_T24 x0 x4).f2, (rd_T24 x0 x4).f3⟩ : S86)]) (wrap64 (x4 + 1))) else (none)) else (none)) else (some x3)
def tenementlaw22_refWrites.f (k : Nat) (l0 : List (S24)) : Option ((List (S86))) := tenementlaw22_refWrites.l0 k l0 ([] : List (S86)) 0
theorem tenementlaw22_refWrites.mono_l : ∀ k, (∀ y0 y1 y2, LeO (tenementlaw22_refWrites.l0 k y0 y1 y2) (tenementlaw22_refWrites.l0 (k + 1) y0 y1 y2))
 | 0 => fun _ _ _ r h => by simp [tenementlaw22_refWrites.l0] at h
 | k + 1 => by
  have ih0 := tenementlaw22_refWrites.mono_l k
  ·intro y0 y1 y2
   unfold tenementlaw22_refWrites.l0
   repeat' first
   | (with_reducible exact ih0 _ _ _)
   | (with_reducible exact LeO.refl _)
   | (with_reducible exact LeO.none _)
   | (with_reducible refine LeO.ite ?_ ?_)
   | (with_reducible refine LeO.bind ?_ (fun _ => ?_))
   | exact ih0 _ _ _
   | exact LeO.none _
   | refine LeO.ite ?_ ?_
   | refine LeO.bind ?_ (fun _ => ?_)
theorem tenementlaw22_refWrites.mono : ∀ a0 k, LeO (tenementlaw22_refWrites.f k a0) (tenementlaw22_refWrites.f (k + 1) a0) := by
 intro a0 k
 have ih0 := tenementlaw22_refWrites.mono_l k
 unfold tenementlaw22_refWrites.f
 repeat' first
   | (with_reducible exact ih0 _ _ _)
   | (with_reducible exact LeO.refl _)
   | (with_reducible exact LeO.none _)
   | (with_reducible refine LeO.ite ?_ ?_)
   | (with_reducible refine LeO.bind ?_ (fun _ => ?_))
   | exact ih0 _ _ _
   | exact LeO.none _
   | refine LeO.ite ?_ ?_
   | refine LeO.bind ?_ (fun _ => ?_)
def tenementlaw22_refWrites.T5 : Bool × List (List Nat × List Nat) := (true, [([], []), ([], []), ([], []), ([1, 2], [1, 2]), ([3], [3]), ([4], [4]), ([], []), ([], []), ([6, 7], [6, 7]), ([8], [8]), ([9], [9]), ([], []), ([], []), ([11, 12], [11, 12]), ([13], [13]), ([14], [14]), ([], []), ([], []), ([16, 17], [16, 17]), ([18], [18]), ([19], [19]), ([5, 10, 15, 20], [5, 10, 15, 20]), ([21], [21]), ([0, 22], [0, 22]), ([23, 23, 0, 1, 2, 3, 4, 5, 6, 7, 8, 9, 10, 11, 12, 13, 14, 15, 16, 17, 18, 19, 20, 21, 22, 23], [0, 23])])
def tenementlaw22_refWrites.B5 : List Nat := [0, 0, 0, 6, 14, 30, 0, 0, 192, 448, 960, 0, 0, 6144, 14336, 30720, 0, 0, 196608, 458752, 983040, 2097150, 4194302, 8388607, 16777215]
theorem tenementlaw22_refWrites.tab5 : rtab .any (opsOf Try.f63 5) = tenementlaw22_refWrites.T5 := by kernel_rfl
theorem tenementlaw22_refWrites.bits5 : waitsOk tenementlaw22_refWrites.T5.2 tenementlaw22_refWrites.B5 = true := by kernel_rfl
set_option maxHeartbeats 8000000 in
set_option maxRecDepth 100000 in
theorem tenementlaw22_refWrites.calls (k : Nat) (A0 : Option Addr) (c0 : Nat) (l0 : List (S24)) (r : List (S86)) (w : World) (hr0 : Kd.C k24 w A0 l0.length l0) (hc0 : l0.length ≤ c0) (h : tenementlaw22_refWrites.f k l0 = some r) :
  Calls Try.prog 63 #[.slice A0 l0.length c0] w fun e w' => ∃ v0_ : Value, e = .returned (v0_) ∧ Kd.R k86 86 w' w.heap.size (fun _ => True) v0_ r ∧ Below w.heap.size w w' := by
 have hu86 := Try.underlying86
 have HR0 := Aside0.mk hr0
 have HC0 := Aside0.mk hc0
 clear hr0 hc0
 have HB := Aside0.mk (Below.refl w.heap.size w)
 have H : (tenementlaw22_refWrites.l0 k l0 ([] : List (S86)) 0) = some r := h
 clear h
 have H' := Aside0.mk H
 clear H
 go_enter Try.func63, Try.ntmps63
 go_wp2
 go_loopg [3, 4] k (fun kq v3 v4 w' => ∃ (x3_1 : List (S86)) (x4_1 : Int), v4 = .int .i64 x4_1 ∧ Aside0 (tenementlaw22_refWrites.l0 kq l0 x3_1 x4_1 = some r) ∧ Aside0 (kq ≤ k) ∧ Aside0 (Kd.R k86 86 w' w.heap.size (fun _ => True) v3 x3_1) ∧ Aside0 (Below w.heap.size w w'))
 case atStart => exact ⟨(([] : List (S86))), (0), (by first | rfl | (simp; done) | (simp [*]; done)), H', ⟨Nat.le_refl _⟩, ⟨by first | exact Kd.R_nil _ _ _ _ _ | exact Kd.N_nil _ _ _ _ _ | exact Kd.V_nil _ _ _ _ _ | exact Kd.Q_nil _ _ _ _ _ | exact Kd.S_nil _ _ _ _ _⟩, ⟨Ky_ HB⟩⟩
 case round =>
  clear H'
  obtain ⟨x3_1, x4_1, rfl, HA, HK1, HO_3, HB⟩ := hrel
  cases gk with
  | zero => exact absurd HA.out (by simp [tenementlaw22_refWrites.l0])
  | succ k1 =>
   have H := HA.out
   clear HA
   simp only [tenementlaw22_refWrites.l0] at H
   by_cases c2 : x4_1 < (l0.length : Int)
   rotate_left
   ·rw [if_neg c2] at H
    have c2b0 : decide (x4_1 < (l0.length : Int)) = false := decide_eq_false c2
    clear c2
    obtain rfl := Option.some.inj H
    go_wp2
    go_ret
    exact ⟨_, by first | rfl | (simp [errW_none, errW_some] <;> rfl) | (simp [*, errW_none, errW_some] <;> rfl), by (with_reducible repeat (first | apply Kd.R_alloc | apply Kd.R_drewN | apply Kd.R_drew)); exact HO_3.out, Ky_ HB⟩
   rw [if_pos c2] at H
   have c2b0 : decide (x4_1 < (l0.length : Int)) = true := decide_eq_true c2
   clear c2
   by_cases c3 : 0 ≤ x4_1
   rotate_left
   ·rw [if_neg c3] at H
    exact absurd H (by simp)
   rw [if_pos c3] at H
   have c3b0 : decide (0 ≤ x4_1) = true := decide_eq_true c3
   clear c3
   by_cases c4 : x3_1.length < 2513169434916
   rotate_left
   ·rw [if_neg c4] at H
    exact absurd H (by simp)
   rw [if_pos c4] at H
   have LMc4 := Aside0.mk c4
   clear c4
   obtain ⟨y165, hy165⟩ : ∃ y_ : List (S86), y_ = (x3_1 ++ [(⟨(rd_T24 l0 x4_1).f0, (rd_T24 l0 x4_1).f1, (rd_T24 l0 x4_1).f2, (rd_T24 l0 x4_1).f3⟩ : S86)]) := ⟨_, rfl⟩
   replace H : (tenementlaw22_refWrites.l0 k1 l0 y165 (wrap64 (x4_1 + 1))) = some r := by first | (rw [hy165]; with_reducible exact H) | (have H2_ := (Option.bind_some _ _).symm.trans H; rw [hy165]; with_reducible exact H2_) | (have H2_ := (Option.bind_some _ _).symm.trans H; with_reducible exact H2_) | with_reducible exact H | (rw [hy165]; exact H) | exact H
   have Ny165 := Aside0.mk hy165
   clear hy165
   have H' := Aside0.mk H
   clear H
   try go_wp2
   replace HO_3 := Aside0.mk (Kd.R_drew HO_3.out)
   replace HB := Aside0.mk (below_drew1 HB.out)
   have p161 : 0 ≤ (x4_1 : Int) := of_decide_eq_true (by first | (with_reducible assumption) | assumption)
   have q161 : x4_1 < (l0.length : Int) := of_decide_eq_true (by first | (with_reducible assumption) | assumption)
   obtain ⟨ad161, e161, hx161_0, hx161_1, hx161_2, hx161_3⟩ := at_T24 HR0.out x4_1 p161 q161
   have hw161_3 := hx161_3
   have hw161_2 := hx161_2
   have hw161_1 := hx161_1
   have hw161_0 := hx161_0
   cases e161
   replace hx161_0 := (HB.out.cell (World.block_lt_of_cell? w _ hx161_0)).trans hx161_0
   replace hx161_1 := (HB.out.cell (World.block_lt_of_cell? w _ hx161_1)).trans hx161_1
   replace hx161_2 := (HB.out.cell (World.block_lt_of_cell? w _ hx161_2)).trans hx161_2
   replace hx161_3 := (HB.out.cell (World.block_lt_of_cell? w _ hx161_3)).trans hx161_3
   replace p161 := eq_true p161
   replace q161 := eq_true q161
   have p162 : 0 ≤ (x4_1 : Int) := of_decide_eq_true (by first | (with_reducible assumption) | assumption)
   have q162 : x4_1 < (l0.length : Int) := of_decide_eq_true (by first | (with_reducible assumption) | assumption)
   obtain ⟨ad162, e162, hx162_0, hx162_1, hx162_2, hx162_3⟩ := at_T24 HR0.out x4_1 p162 q162
   have hw162_3 := hx162_3
   have hw162_2 := hx162_2
   have hw162_1 := hx162_1
   have hw162_0 := hx162_0
   obtain rfl : ad161 = ad162 := (by injection e162)
   replace hx162_0 := (HB.out.cell (World.block_lt_of_cell? w _ hx162_0)).trans hx162_0
   replace hx162_1 := (HB.out.cell (World.block_lt_of_cell? w _ hx162_1)).trans hx162_1
   replace hx162_2 := (HB.out.cell (World.block_lt_of_cell? w _ hx162_2)).trans hx162_2
   replace hx162_3 := (HB.out.cell (World.block_lt_of_cell? w _ hx162_3)).trans hx162_3
   replace p162 := eq_true p162
   replace q162 := eq_true q162
   have p163 : 0 ≤ (x4_1 : Int) := of_decide_eq_true (by first | (with_reducible assumption) | assumption)
   have q163 : x4_1 < (l0.length : Int) := of_decide_eq_true (by first | (with_reducible assumption) | assumption)
   obtain ⟨ad163, e163, hx163_0, hx163_1, hx163_2, hx163_3⟩ := at_T24 HR0.out x4_1 p163 q163
   have hw163_3 := hx163_3
   have hw163_2 := hx163_2
   have hw163_1 := hx163_1
   have hw163_0 := hx163_0
   obtain rfl : ad161 = ad163 := (by injection e163)
   replace hx163_0 := (HB.out.cell (World.block_lt_of_cell? w _ hx163_0)).trans hx163_0
   replace hx163_1 := (HB.out.cell (World.block_lt_of_cell? w _ hx163_1)).trans hx163_1
   replace hx163_2 := (HB.out.cell (World.block_lt_of_cell? w _ hx163_2)).trans hx163_2
   replace hx163_3 := (HB.out.cell (World.block_lt_of_cell? w _ hx163_3)).trans hx163_3
   replace p163 := eq_true p163
   replace q163 := eq_true q163
   have p164 : 0 ≤ (x4_1 : Int) := of_decide_eq_true (by first | (with_reducible assumption) | assumption)
   have q164 : x4_1 < (l0.length : Int) := of_decide_eq_true (by first | (with_reducible assumption) | assumption)
   obtain ⟨ad164, e164, hx164_0, hx164_1, hx164_2, hx164_3⟩ := at_T24 HR0.out x4_1 p164 q164
   have hw164_3 := hx164_3
   have hw164_2 := hx164_2
   have hw164_1 := hx164_1
   have hw164_0 := hx164_0
   obtain rfl : ad161 = ad164 := (by injection e164)
   replace hx164_0 := (HB.out.cell (World.block_lt_of_cell? w _ hx164_0)).trans hx164_0
   replace hx164_1 := (HB.out.cell (World.block_lt_of_cell? w _ hx164_1)).trans hx164_1
   replace hx164_2 := (HB.out.cell (World.block_lt_of_cell? w _ hx164_2)).trans hx164_2
   replace hx164_3 := (HB.out.cell (World.block_lt_of_cell? w _ hx164_3)).trans hx164_3
   replace p164 := eq_true p164
   replace q164 := eq_true q164
   refine start_ (n := 25) (S := fun w' => w'.cell? (ad161.add ((x4_1).toNat * 4)) = some (.string ((rd_T24 l0 x4_1).f0)) ∧ w'.cell? ⟨(ad161.add ((x4_1).toNat * 4)).block, (ad161.add ((x4_1).toNat * 4)).off + 1, none⟩ = some (.string ((rd_T24 l0 x4_1).f1)) ∧ w'.cell? ⟨(ad161.add ((x4_1).toNat * 4)).block, (ad161.add ((x4_1).toNat * 4)).off + 2, none⟩ = some (.string ((rd_T24 l0 x4_1).f2)) ∧ w'.cell? ⟨(ad161.add ((x4_1).toNat * 4)).block, (ad161.add ((x4_1).toNat * 4)).off + 3, none⟩ = some (.bool ((rd_T24 l0 x4_1).f3)) ∧ w'.cell? (ad161.add ((x4_1).toNat * 4)) = some (.string ((rd_T24 l0 x4_1).f0)) ∧ w'.cell? ⟨(ad161.add ((x4_1).toNat * 4)).block, (ad161.add ((x4_1).toNat * 4)).off + 1, none⟩ = some (.string ((rd_T24 l0 x4_1).f1)) ∧ w'.cell? ⟨(ad161.add ((x4_1).toNat * 4)).block, (ad161.add ((x4_1).toNat * 4)).off + 2, none⟩ = some (.string ((rd_T24 l0 x4_1).f2)) ∧ w'.cell? ⟨(ad161.add ((x4_1).toNat * 4)).block, (ad161.add ((x4_1).toNat * 4)).off + 3, none⟩ = some (.bool ((rd_T24 l0 x4_1).f3)) ∧ w'.cell? (ad161.add ((x4_1).toNat * 4)) = some (.string ((rd_T24 l0 x4_1).f0)) ∧ w'.cell? ⟨(ad161.add ((x4_1).toNat * 4)).block, (ad161.add ((x4_1).toNat * 4)).off + 1, none⟩ = some (.string ((rd_T24 l0 x4_1).f1)) ∧ w'.cell? ⟨(ad161.add ((x4_1).toNat * 4)).block, (ad161.add ((x4_1).toNat * 4)).off + 2, none⟩ = some (.string ((rd_T24 l0 x4_1).f2)) ∧ w'.cell? ⟨(ad161.add ((x4_1).toNat * 4)).block, (ad161.add ((x4_1).toNat * 4)).off + 3, none⟩ = some (.bool ((rd_T24 l0 x4_1).f3)) ∧ w'.cell? (ad161.add ((x4_1).toNat * 4)) = some (.string ((rd_T24 l0 x4_1).f0)) ∧ w'.cell? ⟨(ad161.add ((x4_1).toNat * 4)).block, (ad161.add ((x4_1).toNat * 4)).off + 1, none⟩ = some (.string ((rd_T24 l0 x4_1).f1)) ∧ w'.cell? ⟨(ad161.add ((x4_1).toNat * 4)).block, (ad161.add ((x4_1).toNat * 4)).off + 2, none⟩ = some (.string ((rd_T24 l0 x4_1).f2)) ∧ w'.cell? ⟨(ad161.add ((x4_1).toNat * 4)).block, (ad161.add ((x4_1).toNat * 4)).off + 3, none⟩ = some (.bool ((rd_T24 l0 x4_1).f3))) (ds := []) (mB_ 25 0) (by kernel_rfl) rfl rfl ⟨((HB.out.cell (World.block_lt_of_cell? w _ hw161_0)).trans hw161_0), ((HB.out.cell (World.block_lt_of_cell? w _ hw161_1)).trans hw161_1), ((HB.out.cell (World.block_lt_of_cell? w _ hw161_2)).trans hw161_2), ((HB.out.cell (World.block_lt_of_cell? w _ hw161_3)).trans hw161_3), ((HB.out.cell (World.block_lt_of_cell? w _ hw162_0)).trans hw162_0), ((HB.out.cell (World.block_lt_of_cell? w _ hw162_1)).trans hw162_1), ((HB.out.cell (World.block_lt_of_cell? w _ hw162_2)).trans hw162_2), ((HB.out.cell (World.block_lt_of_cell? w _ hw162_3)).trans hw162_3), ((HB.out.cell (World.block_lt_of_cell? w _ hw163_0)).trans hw163_0), ((HB.out.cell (World.block_lt_of_cell? w _ hw163_1)).trans hw163_1), ((HB.out.cell (World.block_lt_of_cell? w _ hw163_2)).trans hw163_2), ((HB.out.cell (World.block_lt_of_cell? w _ hw163_3)).trans hw163_3), ((HB.out.cell (World.block_lt_of_cell? w _ hw164_0)).trans hw164_0), ((HB.out.cell (World.block_lt_of_cell? w _ hw164_1)).trans hw164_1), ((HB.out.cell (World.block_lt_of_cell? w _ hw164_2)).trans hw164_2), ((HB.out.cell (World.block_lt_of_cell? w _ hw164_3)).trans hw164_3)⟩ (fun hHeld => ?_); refine with_tabW tenementlaw22_refWrites.tab5 tenementlaw22_refWrites.bits5 (fun HT_ HW_ => ?_)
   generalize wr.drew = w5 at HO_3 HB hx161_0 hx161_1 hx161_2 hx161_3 hx162_0 hx162_1 hx162_2 hx162_3 hx163_0 hx163_1 hx163_2 hx163_3 hx164_0 hx164_1 hx164_2 hx164_3 hHeld ⊢
   refine Kp_ 0 11 (Bz 25 1) (any_of HT_.out (by kernel_rfl)) ?_
   refine Kp_ 1 12 (Bz 25 3) (any_of HT_.out (by kernel_rfl)) ?_
   refine Kp_ 2 13 (Bz 25 7) (any_of HT_.out (by kernel_rfl)) ?_
   refine Kp_ 3 14 (Bz 25 15) (any_of HT_.out (by kernel_rfl)) ?_
   refine Kp_ 4 15 (Bz 25 31) (any_of HT_.out (by kernel_rfl)) ?_
   refine Kp_ 6 17 (Bz 25 95) (any_of HT_.out (by kernel_rfl)) ?_
   refine Kp_ 7 18 (Bz 25 223) (any_of HT_.out (by kernel_rfl)) ?_
   refine Kp_ 8 19 (Bz 25 479) (any_of HT_.out (by kernel_rfl)) ?_
   refine Kp_ 9 20 (Bz 25 991) (any_of HT_.out (by kernel_rfl)) ?_
   refine Kp_ 11 22 (Bz 25 3039) (any_of HT_.out (by kernel_rfl)) ?_
   refine Kp_ 12 23 (Bz 25 7135) (any_of HT_.out (by kernel_rfl)) ?_
   refine Kp_ 13 24 (Bz 25 15327) (any_of HT_.out (by kernel_rfl)) ?_
   refine Kp_ 14 25 (Bz 25 31711) (any_of HT_.out (by kernel_rfl)) ?_
   refine Kp_ 16 27 (Bz 25 97247) (any_of HT_.out (by kernel_rfl)) ?_
   refine Kp_ 17 28 (Bz 25 228319) (any_of HT_.out (by kernel_rfl)) ?_
   refine Kp_ 18 29 (Bz 25 490463) (any_of HT_.out (by kernel_rfl)) ?_
   refine Kp_ 19 30 (Bz 25 1014751) (any_of HT_.out (by kernel_rfl)) ?_
   refine Ko_ 5 16 (Bz 25 1014783) (take_ofW HT_.out HW_.out (by kernel_rfl)) hHeld ?_
   refine Ko_ 10 21 (Bz 25 1015807) (take_ofW HT_.out HW_.out (by kernel_rfl)) hHeld ?_
   refine Ko_ 15 26 (Bz 25 1048575) (take_ofW HT_.out HW_.out (by kernel_rfl)) hHeld ?_
   refine Ko_ 20 31 (Bz 25 2097151) (take_ofW HT_.out HW_.out (by kernel_rfl)) hHeld ?_
   refine Kp_ 21 32 (Bz 25 4194303) (any_of HT_.out (by kernel_rfl)) ?_
   refine one_ (i := 22) (N := some 33) (Bz 25 8388607) rfl rfl (one_of HT_.out (by kernel_rfl)) (by decide) (fun K hK => ?_)
   refine value_ (w1 := ?_) (v := ?_) (by rfl) rfl ?_ ?_
   rotate_left 2
   ·go_simp
    constructor
    ·rfl
    ·rfl
   refine hK.out _ _ ⟨(World.cell?_alloc_lt _ _ _ (World.block_lt_of_cell? _ _ (((HB.out.cell (World.block_lt_of_cell? w _ hw161_0)).trans hw161_0)))).trans (((HB.out.cell (World.block_lt_of_cell? w _ hw161_0)).trans hw161_0)), (World.cell?_alloc_lt _ _ _ (World.block_lt_of_cell? _ _ (((HB.out.cell (World.block_lt_of_cell? w _ hw161_1)).trans hw161_1)))).trans (((HB.out.cell (World.block_lt_of_cell? w _ hw161_1)).trans hw161_1)), (World.cell?_alloc_lt _ _ _ (World.block_lt_of_cell? _ _ (((HB.out.cell (World.block_lt_of_cell? w _ hw161_2)).trans hw161_2)))).trans (((HB.out.cell (World.block_lt_of_cell? w _ hw161_2)).trans hw161_2)), (World.cell?_alloc_lt _ _ _ (World.block_lt_of_cell? _ _ (((HB.out.cell (World.block_lt_of_cell? w _ hw161_3)).trans hw161_3)))).trans (((HB.out.cell (World.block_lt_of_cell? w _ hw161_3)).trans hw161_3)), (World.cell?_alloc_lt _ _ _ (World.block_lt_of_cell? _ _ (((HB.out.cell (World.block_lt_of_cell? w _ hw162_0)).trans hw162_0)))).trans (((HB.out.cell (World.block_lt_of_cell? w _ hw162_0)).trans hw162_0)), (World.cell?_alloc_lt _ _ _ (World.block_lt_of_cell? _ _ (((HB.out.cell (World.block_lt_of_cell? w _ hw162_1)).trans hw162_1)))).trans (((HB.out.cell (World.block_lt_of_cell? w _ hw162_1)).trans hw162_1)), (World.cell?_alloc_lt _ _ _ (World.block_lt_of_cell? _ _ (((HB.out.cell (World.block_lt_of_cell? w _ hw162_2)).trans hw162_2)))).trans (((HB.out.cell (World.block_lt_of_cell? w _ hw162_2)).trans hw162_2)), (World.cell?_alloc_lt _ _ _ (World.block_lt_of_cell? _ _ (((HB.out.cell (World.block_lt_of_cell? w _ hw162_3)).trans hw162_3)))).trans (((HB.out.cell (World.block_lt_of_cell? w _ hw162_3)).trans hw162_3)), (World.cell?_alloc_lt _ _ _ (World.block_lt_of_cell? _ _ (((HB.out.cell (World.block_lt_of_cell? w _ hw163_0)).trans hw163_0)))).trans (((HB.out.cell (World.block_lt_of_cell? w _ hw163_0)).trans hw163_0)), (World.cell?_alloc_lt _ _ _ (World.block_lt_of_cell? _ _ (((HB.out.cell (World.block_lt_of_cell? w _ hw163_1)).trans hw163_1)))).trans (((HB.out.cell (World.block_lt_of_cell? w _ hw163_1)).trans hw163_1)), (World.cell?_alloc_lt _ _ _ (World.block_lt_of_cell? _ _ (((HB.out.cell (World.block_lt_of_cell? w _ hw163_2)).trans hw163_2)))).trans (((HB.out.cell (World.block_lt_of_cell? w _ hw163_2)).trans hw163_2)), (World.cell?_alloc_lt _ _ _ (World.block_lt_of_cell? _ _ (((HB.out.cell (World.block_lt_of_cell? w _ hw163_3)).trans hw163_3)))).trans (((HB.out.cell (World.block_lt_of_cell? w _ hw163_3)).trans hw163_3)), (World.cell?_alloc_lt _ _ _ (World.block_lt_of_cell? _ _ (((HB.out.cell (World.block_lt_of_cell? w _ hw164_0)).trans hw164_0)))).trans (((HB.out.cell (World.block_lt_of_cell? w _ hw164_0)).trans hw164_0)), (World.cell?_alloc_lt _ _ _ (World.block_lt_of_cell? _ _ (((HB.out.cell (World.block_lt_of_cell? w _ hw164_1)).trans hw164_1)))).trans (((HB.out.cell (World.block_lt_of_cell? w _ hw164_1)).trans hw164_1)), (World.cell?_alloc_lt _ _ _ (World.block_lt_of_cell? _ _ (((HB.out.cell (World.block_lt_of_cell? w _ hw164_2)).trans hw164_2)))).trans (((HB.out.cell (World.block_lt_of_cell? w _ hw164_2)).trans hw164_2)), (World.cell?_alloc_lt _ _ _ (World.block_lt_of_cell? _ _ (((HB.out.cell (World.block_lt_of_cell? w _ hw164_3)).trans hw164_3)))).trans (((HB.out.cell (World.block_lt_of_cell? w _ hw164_3)).trans hw164_3))⟩ (fun hHeld => ?_)
   clear hK K
   refine Kn_ 33 ?_
   refine one_ (i := 23) (N := some 34) (Bz 25 16777215) rfl rfl (one_of HT_.out (by kernel_rfl)) (by decide) (fun K hK => ?_)
   refine Kd.R_append_step k86 (w0 := w) w.heap.size (by rfl) (.tmp 11) (.tmp 33) 79 86 (.agg #[(.string ⟨#[]⟩), (.string ⟨#[]⟩), (.string ⟨#[]⟩), (.bool false)]) 56 rfl Try.underlying79 info86 rfl (by decide) (by omega) u3 x3_1 (⟨(rd_T24 l0 x4_1).f0, (rd_T24 l0 x4_1).f1, (rd_T24 l0 x4_1).f2, (rd_T24 l0 x4_1).f3⟩ : S86) [.string ((rd_T24 l0 x4_1).f0), .string ((rd_T24 l0 x4_1).f1), .string ((rd_T24 l0 x4_1).f2), .bool ((rd_T24 l0 x4_1).f3)] (fun _ => True) (fun _ => False) rfl rfl ?aP (fun _ hk => hk.elim) ?aF ?aO ?aB ?aS ?aL ?_
   (case aP => exact k86_mkM _ _ _ (⟨(rd_T24 l0 x4_1).f0, (rd_T24 l0 x4_1).f1, (rd_T24 l0 x4_1).f2, (rd_T24 l0 x4_1).f3⟩ : S86))
   (case aB => exact (Ky_ HB))
   (case aF => exact (fun _ _ => trivial))
   (case aO => exact (Ku_ HO_3))
   (case aS => exact (below_size (Ky_ HB)))
   (case aL => have := LMc4.out; omega)
   intro v166 w6 ho hb hg hat
   rw [← Ny165.out] at ho
   have HO167 := Aside0.mk (ho)
   replace HB := Aside0.mk (hb)
   clear HO_3
   clear ho hb hg hat
   refine hK.out _ _ ⟨((HB.out.cell (World.block_lt_of_cell? w _ hw161_0)).trans hw161_0), ((HB.out.cell (World.block_lt_of_cell? w _ hw161_1)).trans hw161_1), ((HB.out.cell (World.block_lt_of_cell? w _ hw161_2)).trans hw161_2), ((HB.out.cell (World.block_lt_of_cell? w _ hw161_3)).trans hw161_3), ((HB.out.cell (World.block_lt_of_cell? w _ hw162_0)).trans hw162_0), ((HB.out.cell (World.block_lt_of_cell? w _ hw162_1)).trans hw162_1), ((HB.out.cell (World.block_lt_of_cell? w _ hw162_2)).trans hw162_2), ((HB.out.cell (World.block_lt_of_cell? w _ hw162_3)).trans hw162_3), ((HB.out.cell (World.block_lt_of_cell? w _ hw163_0)).trans hw163_0), ((HB.out.cell (World.block_lt_of_cell? w _ hw163_1)).trans hw163_1), ((HB.out.cell (World.block_lt_of_cell? w _ hw163_2)).trans hw163_2), ((HB.out.cell (World.block_lt_of_cell? w _ hw163_3)).trans hw163_3), ((HB.out.cell (World.block_lt_of_cell? w _ hw164_0)).trans hw164_0), ((HB.out.cell (World.block_lt_of_cell? w _ hw164_1)).trans hw164_1), ((HB.out.cell (World.block_lt_of_cell? w _ hw164_2)).trans hw164_2), ((HB.out.cell (World.block_lt_of_cell? w _ hw164_3)).trans hw164_3)⟩ (fun hHeld => ?_)
   clear hK K
   refine Kn_ 34 ?_
   refine Kp_ 24 3 (Bz 25 33554431) (any_of HT_.out (by kernel_rfl)) ?_
   refine done_ (done_of HT_.out (by kernel_rfl)) ?_
   try go_wp2
   go_roundg k1
   case measure => have := HK1.out; omega
   case rel => exact ⟨(y165), (wrap64 (x4_1 + 1)), (by first | rfl | (simp; done) | (simp [*]; done)), H', ⟨by have := HK1.out; omega⟩, ⟨by (with_reducible repeat (first | apply Kd.R_alloc | apply Kd.R_drewN | apply Kd.R_drew)); exact HO167.out⟩, ⟨Ky_ HB⟩⟩
def tenementlaw22_refTxn.f (k : Nat) (a0_0 : Int) (a0_1 : Int) (a0_2 : Int) (a0_3 : Int) (a0_4 : Int) (l0_5 : List (S24)) : Option (Int × Int × Int × Int × Int × (List (S86))) := (tenementlaw22_refStamp.f a0_0 a0_1 a0_2 a0_3 a0_4).bind fun bt170 => ((tenementlaw22_refWrites.f k l0_5).bind fun t175 => (some (bt170.1, bt170.2.1, bt170.2.2.1, bt170.2.2.2.1, bt170.2.2.2.2, t175)))
theorem tenementlaw22_refTxn.mono : ∀ a0 a1 a2 a3 a4 a5 k, LeO (tenementlaw22_refTxn.f k a0 a1 a2 a3 a4 a5) (tenementlaw22_refTxn.f (k + 1) a0 a1 a2 a3 a4 a5) := by
 intro a0 a1 a2 a3 a4 a5 k
 unfold tenementlaw22_refTxn.f
 repeat' first
   | (with_reducible exact tenementlaw22_refWrites.mono _ _)
   | (with_reducible exact LeO.refl _)
   | (with_reducible exact LeO.none _)
   | (with_reducible refine LeO.ite ?_ ?_)
   | (with_reducible refine LeO.bind ?_ (fun _ => ?_))
   | exact tenementlaw22_refWrites.mono _ _
   | exact LeO.none _
   | refine LeO.ite ?_ ?_
   | refine LeO.bind ?_ (fun _ => ?_)
def tenementlaw22_refTxn.T1 : Bool × List (List Nat × List Nat) := (true, [([], []), ([0], [0]), ([1], [1]), ([], []), ([3], [3]), ([4, 2], [4]), ([2, 5], [2, 5]), ([6, 5, 0, 1, 2, 3, 4, 5, 6], [6])])
def tenementlaw22_refTxn.B1 : List Nat := [0, 1, 3, 0, 8, 31, 63, 127]
theorem tenementlaw22_refTxn.tab1 : rtab .any (opsOf Try.f32 1) = tenementlaw22_refTxn.T1 := by kernel_rfl
theorem tenementlaw22_refTxn.bits1 : waitsOk tenementlaw22_refTxn.T1.2 tenementlaw22_refTxn.B1 = true := by kernel_rfl
set_option maxHeartbeats 8000000 in
set_option maxRecDepth 100000 in
theorem tenementlaw22_refTxn.calls (k : Nat) (a0_0 : Int) (a0_1 : Int) (a0_2 : Int) (a0_3 : Int) (a0_4 : Int) (A0_5 : Option Addr) (c0_5 : Nat) (l0_5 : List (S24)) (r1 : Int) (r2 : Int) (r3 : Int) (r4 : Int) (r5 : Int) (r6 : List (S86)) (w : World) (hr0_5 : Kd.C k24 w A0_5 l0_5.length l0_5) (hc0_5 : l0_5.length ≤ c0_5) (h : tenementlaw22_refTxn.f k a0_0 a0_1 a0_2 a0_3 a0_4 l0_5 = some (r1, r2, r3, r4, r5, r6)) :
  Calls Try.prog 32 #[.agg #[.int .u64 a0_0, .int .u64 a0_1, .int .u64 a0_2, .int .u64 a0_3, .int .i64 a0_4, .slice A0_5 l0_5.length c0_5]] w fun e w' => ∃ v5_ : Value, e = .returned (.agg #[.int .u64 r1, .int .u64 r2, .int .u64 r3, .int .u64 r4, .int .i64 r5, v5_]) ∧ Kd.R k86 86 w' w.heap.size (fun _ => True) v5_ r6 ∧ Below w.heap.size w w' := by
 have hu64 := Try.underlying64
 have hu81 := Try.underlying81
 have hu56 := Try.underlying56
 have HR0_5 := Aside0.mk hr0_5
 have HC0_5 := Aside0.mk hc0_5
 clear hr0_5 hc0_5
 have HB := Aside0.mk (Below.refl w.heap.size w)
 have H : ((tenementlaw22_refStamp.f a0_0 a0_1 a0_2 a0_3 a0_4).bind fun bt170 => ((tenementlaw22_refWrites.f k l0_5).bind fun t175 => (some (bt170.1, bt170.2.1, bt170.2.2.1, bt170.2.2.2.1, bt170.2.2.2.2, t175)))) = some (r1, r2, r3, r4, r5, r6) := h
 clear h
 replace H := Option.bind_eq_some_iff.mp H
 obtain ⟨⟨t170, t171, t172, t173, t174⟩, A20, H⟩ := H
 replace H : ((tenementlaw22_refWrites.f k l0_5).bind fun t175 => (some (t170, t171, t172, t173, t174, t175))) = some (r1, r2, r3, r4, r5, r6) := H
 have A2 := Aside0.mk A20
 clear A20
 replace H := Option.bind_eq_some_iff.mp H
 obtain ⟨t175, A30, H⟩ := H
 replace H : (some (t170, t171, t172, t173, t174, t175)) = some (r1, r2, r3, r4, r5, r6) := H
 have A3 := Aside0.mk A30
 clear A30
 simp only [Option.some.injEq, Prod.mk.injEq] at H
 obtain ⟨rfl, rfl, rfl, rfl, rfl, rfl⟩ := H
 go_enter Try.func32, Try.ntmps32
 try go_wp2_with (first | ((with_reducible refine gate_dst (N := 1) rfl ?_); refine Ka_ 1 #[.int .u64 a0_0, .int .u64 a0_1, .int .u64 a0_2, .int .u64 a0_3, .int .i64 a0_4, .slice A0_5 l0_5.length c0_5] 64 ?_; intro gb168 hg w4 hbox hb; have BK168 := Aside0.mk (hbox); have GW168 := Kw_ HB hg; have GE168 := GW168; replace HB := Ks_ HB hb; clear hb hbox hg) | ((with_reducible refine gate_dst (N := 2) rfl ?_); refine Ka_ 2 #[.int .u64 0, .int .u64 0, .int .u64 0, .int .u64 0, .int .i64 0, .slice none 0 0] 81 ?_; intro gb169 hg w5 hbox hb; have BK169 := Aside0.mk (hbox); have GW169 := Kw_ HB hg; have GE169 := GW169; have NB168_169 := Kl_ BK168 hg; have NB169_168 := Kr_ BK168 hg; replace BK168 := Kb_ BK168 hb; replace HB := Ks_ HB hb; clear hb hbox hg))
 replace BK168 := Kd_ BK168
 replace BK169 := Kd_ BK169
 replace HB := Aside0.mk (below_drew1 HB.out)
 refine start_ (n := 8) (S := fun w' => w'.cell? ⟨gb168, 0, none⟩ = some (.int .u64 a0_0) ∧ w'.cell? ⟨gb168, 1, none⟩ = some (.int .u64 a0_1) ∧ w'.cell? ⟨gb168, 2, none⟩ = some (.int .u64 a0_2) ∧ w'.cell? ⟨gb168, 3, none⟩ = some (.int .u64 a0_3) ∧ w'.cell? ⟨gb168, 4, none⟩ = some (.int .i64 a0_4) ∧ w'.cell? ⟨gb168, 5, none⟩ = some (.slice A0_5 l0_5.length c0_5)) (ds := []) (mB_ 8 0) (by kernel_rfl) rfl rfl (Kc6_ BK168.out) (fun hHeld => ?_); refine with_tabW tenementlaw22_refTxn.tab1 tenementlaw22_refTxn.bits1 (fun HT_ HW_ => ?_)
 generalize w5.drew = w6 at BK168 BK169 HB hHeld ⊢
 refine Kp_ 0 3 (mB_ 8 1) (any_of HT_.out (by kernel_rfl)) ?_
 refine Kp_ 3 6 (mB_ 8 9) (any_of HT_.out (by kernel_rfl)) ?_
 refine Ko_ 1 4 (mB_ 8 11) (take_ofW HT_.out HW_.out (by kernel_rfl)) hHeld ?_
 refine Ko_ 4 7 (mB_ 8 27) (take_ofW HT_.out HW_.out (by kernel_rfl)) hHeld ?_
 refine one_ (i := 2) (N := some 5) (mB_ 8 31) rfl rfl (one_of HT_.out (by kernel_rfl)) (by decide) (fun K hK => ?_)
 refine goes_ Try.func62 (by kernel_rfl) rfl #[.agg #[.int .u64 a0_0, .int .u64 a0_1, .int .u64 a0_2, .int .u64 a0_3, .int .i64 a0_4]] (by rfl) rfl rfl (by (try simp only [List.map_toArray, List.map_cons, List.map_nil]); first | done | rfl | (simp only [List.length_drop, List.length_take]; rfl)) ?_
 with_reducible refine (tenementlaw22_refStamp.calls a0_0 a0_1 a0_2 a0_3 a0_4 t170 t171 t172 t173 t174 _ A2.out).mono ?_
 rintro e w7 ⟨rfl, hb⟩
 refine ⟨_, rfl, ?_⟩
 replace BK168 := Kb_ BK168 hb
 replace BK169 := Kb_ BK169 hb
 replace HB := Ks_ HB hb
 (try clear hb)
 (try clear hb2)
 (try clear hk)
 (try clear hi)
 refine hK.out _ _ (Kc6_ BK168.out) (fun hHeld => ?_)
 clear hK K
 refine Kn_ 5 ?_
 refine one_ (i := 5) (N := some 8) (mB_ 8 63) rfl rfl (one_of HT_.out (by kernel_rfl)) (by decide) (fun K hK => ?_)
 refine goes_ Try.func63 (by kernel_rfl) rfl #[.slice A0_5 l0_5.length c0_5] (by rfl) rfl rfl (by (try simp only [List.map_toArray, List.map_cons, List.map_nil]); first | done | rfl | (simp only [List.length_drop, List.length_take]; rfl)) ?_
 with_reducible refine (tenementlaw22_refWrites.calls k _ _ l0_5 t175 _ ?side1 ?side2 A3.out).mono ?_
 (case side1 => repeat (first | exact (Kd.C_below HR0_5.out HB.out) | (with_reducible refine Kd.C_alloc ?_ _) | (with_reducible refine Kd.C_drewN ?_ _) | (with_reducible refine Kd.C_drew ?_)))
 (case side2 => exact HC0_5.out)
 rintro e w8 ⟨v176, rfl, ho0, hb⟩
 refine ⟨_, rfl, ?_⟩
 have HO177 := Aside0.mk (Kd.R_lower ho0 (below_size (K2a_ HB GE168 GE169)))
 replace BK168 := Kb_ BK168 hb
 replace BK169 := Kb_ BK169 hb
 replace HB := Ks_ HB hb
 (try clear hb)
 (try clear hb2)
 (try clear hk)
 (try clear hi)
 (try clear ho0)
 obtain ⟨Ao9, co9, eo9⟩ := Kd.R_slice HO177.out
 (first | subst eo9 | (injection eo9 with f1_ f2_ f3_; have f4_ := f1_.symm; have f5_ := f3_.symm; clear f1_ f2_ f3_; subst f4_; subst f5_))
 refine hK.out _ _ (Kc6_ BK168.out) (fun hHeld => ?_)
 clear hK K
 refine Kn_ 8 ?_
 refine Kp_ 6 9 (mB_ 8 127) (any_of HT_.out (by kernel_rfl)) ?_
 refine one_ (i := 7) (N := none) (mB_ 8 255) rfl rfl (one_of HT_.out (by kernel_rfl)) (by decide) (fun K hK => ?_)
 have hs10 : w8.cell? ⟨gb169, 0, none⟩ = some (.int .u64 0) := (blk_cell BK169.out 0).trans rfl
 have hfs10 := blk_frozen BK169.out 0
 have hns10_0 := NB168_169.out
 have hms10_0 := NB169_168.out
 have hs11 : w8.cell? ⟨gb169, 1, none⟩ = some (.int .u64 0) := (blk_cell BK169.out 1).trans rfl
 have hfs11 := blk_frozen BK169.out 1
 have hns11_0 := NB168_169.out
 have hms11_0 := NB169_168.out
 have hs12 : w8.cell? ⟨gb169, 2, none⟩ = some (.int .u64 0) := (blk_cell BK169.out 2).trans rfl
 have hfs12 := blk_frozen BK169.out 2
 have hns12_0 := NB168_169.out
 have hms12_0 := NB169_168.out
 have hs13 : w8.cell? ⟨gb169, 3, none⟩ = some (.int .u64 0) := (blk_cell BK169.out 3).trans rfl
 have hfs13 := blk_frozen BK169.out 3
 have hns13_0 := NB168_169.out
 have hms13_0 := NB169_168.out
 have hs14 : w8.cell? ⟨gb169, 4, none⟩ = some (.int .i64 0) := (blk_cell BK169.out 4).trans rfl
 have hfs14 := blk_frozen BK169.out 4
 have hns14_0 := NB168_169.out
 have hms14_0 := NB169_168.out
 have hs15 : w8.cell? ⟨gb169, 5, none⟩ = some (.slice none 0 0) := (blk_cell BK169.out 5).trans rfl
 have hfs15 := blk_frozen BK169.out 5
 have hns15_0 := NB168_169.out
 have hms15_0 := NB169_168.out
 refine skip_ (w1 := ?_) (by rfl) rfl ?_ ?_
 rotate_left
 ·go_simp
  rfl
 refine hK.out _ _ ⟨(Kj_ NB168_169 ((Kj_ NB168_169 ((Kj_ NB168_169 ((Kj_ NB168_169 ((Kj_ NB168_169 ((Kj_ NB168_169 (hHeld.1)))))))))))), (Kj_ NB168_169 ((Kj_ NB168_169 ((Kj_ NB168_169 ((Kj_ NB168_169 ((Kj_ NB168_169 ((Kj_ NB168_169 (hHeld.2.1)))))))))))), (Kj_ NB168_169 ((Kj_ NB168_169 ((Kj_ NB168_169 ((Kj_ NB168_169 ((Kj_ NB168_169 ((Kj_ NB168_169 (hHeld.2.2.1)))))))))))), (Kj_ NB168_169 ((Kj_ NB168_169 ((Kj_ NB168_169 ((Kj_ NB168_169 ((Kj_ NB168_169 ((Kj_ NB168_169 (hHeld.2.2.2.1)))))))))))), (Kj_ NB168_169 ((Kj_ NB168_169 ((Kj_ NB168_169 ((Kj_ NB168_169 ((Kj_ NB168_169 ((Kj_ NB168_169 (hHeld.2.2.2.2.1)))))))))))), (Kj_ NB168_169 ((Kj_ NB168_169 ((Kj_ NB168_169 ((Kj_ NB168_169 ((Kj_ NB168_169 ((Kj_ NB168_169 (hHeld.2.2.2.2.2))))))))))))⟩ (fun hHeld => ?_)
 clear hK K
 refine done_ (done_of HT_.out (by kernel_rfl)) ?_
 try go_wp2
 refine bodyPost_ret (results_cell_row rfl _ _ gb169 81 #[.int .u64 t170, .int .u64 t171, .int .u64 t172, .int .u64 t173, .int .i64 t174, .slice Ao9 t175.length co9] (0, 0) _ rfl (by refine Kv_ ?_; refine blk_put (cs := #[.int .u64 t170, .int .u64 t171, .int .u64 t172, .int .u64 t173, .int .i64 t174, .slice none 0 0]) ?_ 5 _ rfl; refine Kv_ ?_; refine blk_put (cs := #[.int .u64 t170, .int .u64 t171, .int .u64 t172, .int .u64 t173, .int .i64 0, .slice none 0 0]) ?_ 4 _ rfl; refine Kv_ ?_; refine blk_put (cs := #[.int .u64 t170, .int .u64 t171, .int .u64 t172, .int .u64 0, .int .i64 0, .slice none 0 0]) ?_ 3 _ rfl; refine Kv_ ?_; refine blk_put (cs := #[.int .u64 t170, .int .u64 t171, .int .u64 0, .int .u64 0, .int .i64 0, .slice none 0 0]) ?_ 2 _ rfl; refine Kv_ ?_; refine blk_put (cs := #[.int .u64 t170, .int .u64 0, .int .u64 0, .int .u64 0, .int .i64 0, .slice none 0 0]) ?_ 1 _ rfl; refine Kv_ ?_; refine blk_put (cs := #[.int .u64 0, .int .u64 0, .int .u64 0, .int .u64 0, .int .i64 0, .slice none 0 0]) ?_ 0 _ rfl; exact Kq_ BK169) Try.underlying81 rfl (by kernel_rfl)) rfl ?_
 exact ⟨_, by first | rfl | (simp [errW_none, errW_some] <;> rfl) | (simp [*, errW_none, errW_some] <;> rfl), by (with_reducible repeat (first | apply Kd.R_alloc | apply Kd.R_drewN | apply Kd.R_drew)); exact Kd.R_mono (Kd.R_far (p := ⟨gb169, 5, none⟩) (Kd.R_far (p := ⟨gb169, 4, none⟩) (Kd.R_far (p := ⟨gb169, 3, none⟩) (Kd.R_far (p := ⟨gb169, 2, none⟩) (Kd.R_far (p := ⟨gb169, 1, none⟩) (Kd.R_far (p := ⟨gb169, 0, none⟩) (Kd.R_types HO177.out BK169.out (by decide)) (fun _ hk => hk.2) (.int .u64 t170)) (fun _ hk => hk.2) (.int .u64 t171)) (fun _ hk => hk.2) (.int .u64 t172)) (fun _ hk => hk.2) (.int .u64 t173)) (fun _ hk => hk.2) (.int .i64 t174)) (fun _ hk => hk.2) (.slice Ao9 t175.length co9)) (fun _ hk => trivial), K2a_ HB GE168 GE169⟩
end Go.Proofs.Ythjhkcebcgdeoaa.Q

set_option linter.unusedVariables false
set_option linter.unusedSimpArgs false
namespace Go.Proofs.Ythjhkcebcgdeoaa.Open
open Go Go.RowKit Go.Deep Go.WideShapes Go.ChangeShapes Go.Proofs.YthjhkcebcgdeoaaW.PrintWords Go.Proofs.YthjhkcebcgdeoaaW.PrintLast Go.Proofs.YthjhkcebcgdeoaaW.PrintMore
structure To (P : Program) (t : TypeId) {α : Type} (K : Kd α) (wf : α → Prop) : Prop where
 sz : P.cellsOf t = K.sz
 go : ∀ {H : Type} (enc : TypeId × Value → H) (w : World) (fuel : Nat) (cs : List Value) (d : DataW H) (ps : List MemPlace),
  DataW.trod enc P w 0 (fun _ => true) true fuel t cs = some (d, ps) → (DataW.weights P t d).all (· ≤ reachBytes) = true → ∃ x : α, K.K w x cs ∧ wf x
theorem int {P : Program} {t : TypeId} {k : IntKind} (ht : P.underlying t = some (.int k)) (hs : P.cellsOf t = 1) : To P t (Kd.int k) (fun n => (Lit.int k n).wf = true) := by
 refine ⟨hs, fun enc w fuel cs d ps h _ => ?_⟩
 obtain ⟨n, rfl, _, hw⟩ := DataW.trod_int ht h
 exact ⟨n, rfl, hw⟩
theorem bool {P : Program} {t : TypeId} (ht : P.underlying t = some .bool) (hs : P.cellsOf t = 1) : To P t Kd.bool (fun _ => True) := by
 refine ⟨hs, fun enc w fuel cs d ps h _ => ?_⟩
 obtain ⟨b, rfl, _⟩ := DataW.trod_bool ht h
 exact ⟨b, rfl, trivial⟩
theorem string {P : Program} {t : TypeId} (ht : P.underlying t = some .string) (hs : P.cellsOf t = 1) : To P t Kd.string (fun s => s.size ≤ 140737488351232) := by
 refine ⟨hs, fun enc w fuel cs d ps h hw => ?_⟩
 obtain ⟨s, rfl, hx, _⟩ := DataW.trod_string ht h
 obtain ⟨rfl, _⟩ := Prod.mk.inj hx
 refine ⟨s, rfl, ?_⟩
 simp only [DataW.weights, List.all_cons, List.all_nil, Bool.and_true, reachBytes, Array.length_toList] at hw
 exact of_decide_eq_true hw
theorem weightsAll_mem {H : Type} {P : Program} {e : TypeId} : ∀ {l : List (DataW H)} {d : DataW H}, d ∈ l → (DataW.weightsAll P e l).all (· ≤ reachBytes) = true → (DataW.weights P e d).all (· ≤ reachBytes) = true
 | [], _, h, _ => by cases h
 | a :: l, d, h, hw => by
  simp only [DataW.weightsAll, List.all_append, Bool.and_eq_true] at hw
  rcases List.mem_cons.1 h with rfl | h
  ·exact hw.1
  ·exact weightsAll_mem h hw.2
theorem add_add (a : Addr) (i j : Nat) : (a.add i).add j = a.add (i + j) := by
 unfold Addr.add
 by_cases h1 : i = 0 <;> by_cases h2 : j = 0 <;> simp [h1, h2, Nat.add_assoc]
theorem slice {P : Program} {t e : TypeId} {α : Type} {K : Kd α} {wf : α → Prop} {B : Nat} (ht : P.underlying t = some (.slice e)) (hs : P.cellsOf t = 1) (hB : P.bytesOf e = B) (he : To P e K wf) :
  To P t (Kd.slice e K) (fun l => (∀ x ∈ l, wf x) ∧ l.length * B ≤ 140737488351232) := by
 refine ⟨hs, fun {H} enc w fuel cs d ps h hw => ?_⟩
 rcases open_slice ht h with ⟨rfl, _⟩ | ⟨a, len, cap, m, n, D, Pl, rfl, _, hl, hm, hmc, hx, hel⟩
 ·exact ⟨[], ⟨none, 0, rfl, Nat.le_refl _, rfl, by simp, fun h => absurd h (by simp)⟩, by simp, by simp⟩
 ·obtain ⟨rfl, _⟩ := Prod.mk.inj hx
  simp only [if_true] at hmc
  subst hmc
  have hw1 := hw
  simp only [DataW.weights, ht, List.all_cons, List.all_append, Bool.and_eq_true, decide_eq_true_eq, List.length_map, List.length_range, hB, reachBytes] at hw1
  have hchoose : ∀ i, i < len → ∃ x : α, (∃ cs', w.cells? 0 (a.add (i * P.cellsOf e)) (P.cellsOf e) = some cs' ∧ K.K w x cs') ∧ wf x := by
   intro i hi
   obtain ⟨cs', h1, h2⟩ := hel i (by omega)
   obtain ⟨x, hx1, hx2⟩ := he.go enc w n cs' (D i) (Pl i) h2 (weightsAll_mem (List.mem_map.2 ⟨i, by simpa using hi, rfl⟩) hw1.2.1)
   exact ⟨x, ⟨cs', h1, hx1⟩, hx2⟩
  have hall : ∀ k, k ≤ len → ∃ l : List α, l.length = k ∧ ∀ i x, l[i]? = some x → (∃ cs', w.cells? 0 (a.add (i * P.cellsOf e)) (P.cellsOf e) = some cs' ∧ K.K w x cs') ∧ wf x := by
   intro k
   induction k with
   | zero => intro _; exact ⟨[], rfl, fun i x h => by simp at h⟩
   | succ k ih =>
    intro hk
    obtain ⟨l, h1, h2⟩ := ih (by omega)
    obtain ⟨x, hx⟩ := hchoose k (by omega)
    refine ⟨l ++ [x], by simp [h1], fun i y hy => ?_⟩
    by_cases hi : i < l.length
    ·exact h2 i y (by rwa [List.getElem?_append_left hi] at hy)
    ·rw [List.getElem?_append_right (by omega)] at hy
     have : i = l.length := by
      have := (List.getElem?_eq_some_iff.1 hy).1
      simp at this; omega
     subst this
     simp at hy
     subst hy
     rw [h1]; exact hx
  obtain ⟨l, h1, h2⟩ := hall len (Nat.le_refl _)
  refine ⟨l, ⟨some a, m, by rw [h1], by omega, rfl, by unfold maxLen at hm; omega, fun _ => ⟨a, rfl, fun j p hj => ?_⟩⟩, ?_, ?_⟩
  ·obtain ⟨⟨cs', g1, g2⟩, _⟩ := h2 j p hj
   obtain ⟨_, g3, g4⟩ := World.cells?_some g1
   refine ⟨cs', by rw [g3, he.sz], g2, fun i u hu => ?_⟩
   have hi : i < P.cellsOf e := by
    have := (List.getElem?_eq_some_iff.1 hu).1
    omega
   rw [← hu, ← g4 i hi, add_add, he.sz]
  ·intro x hx
   obtain ⟨i, hi, rfl⟩ := List.getElem_of_mem hx
   exact (h2 i _ (List.getElem?_eq_getElem hi)).2
  ·rw [h1]
   refine Nat.le_trans (Nat.mul_le_mul_right _ ?_) (of_decide_eq_true hw1.1)
   omega
structure Fs (P : Program) (o : Nat) (fs : List (TypeId × Nat)) {α : Type} (K : Kd α) (wf : α → Prop) : Prop where
 go : ∀ {H : Type} (enc : TypeId × Value → H) (w : World) (n : Nat) (cs : List Value) (xs : List (DataW H × List MemPlace)), cs.length = o + K.sz → xs.length = fs.length →
  (∀ (i : Nat) (f : TypeId × Nat), fs[i]? = some f → DataW.trod enc P w 0 (fun _ => true) true n f.1 ((cs.drop f.2).take (P.cellsOf f.1)) = xs[i]?) →
  (DataW.weightsEach P (fs.map (·.1)) (xs.map (·.1))).all (· ≤ reachBytes) = true → ∃ x : α, K.K w x (cs.drop o) ∧ wf x
theorem one {P : Program} {o : Nat} {t : TypeId} {α : Type} {K : Kd α} {wf : α → Prop} (h : To P t K wf) : Fs P o [(t, o)] K wf := by
 refine ⟨fun enc w n cs xs hl hx hr hw => ?_⟩
 match xs, hx with
 | [x], _ =>
  have h0 := hr 0 _ rfl
  simp only [List.getElem?_cons_zero] at h0
  rw [h.sz, List.take_of_length_le (by simp; omega)] at h0
  simp only [List.map_cons, List.map_nil, DataW.weightsEach, List.append_nil] at hw
  exact h.go enc w n _ x.1 x.2 h0 hw
theorem cons {P : Program} {o : Nat} {t : TypeId} {fs : List (TypeId × Nat)} {α β : Type} {K : Kd α} {wf : α → Prop} {L : Kd β} {wg : β → Prop} (h : To P t K wf) (hs : Fs P (o + K.sz) fs L wg) :
  Fs P o ((t, o) :: fs) (Kd.pair K L) (fun x => wf x.1 ∧ wg x.2) := by
 refine ⟨fun {H} enc w n cs xs hl hx hr hw => ?_⟩
 have hsz : (Kd.pair K L).sz = K.sz + L.sz := rfl
 match xs, hx with
 | x :: xs, hx =>
  have h0 := hr 0 _ rfl
  simp only [List.getElem?_cons_zero] at h0
  rw [h.sz] at h0
  simp only [List.map_cons, DataW.weightsEach, List.all_append, Bool.and_eq_true] at hw
  obtain ⟨a, ha, hwa⟩ := h.go enc w n _ x.1 x.2 h0 hw.1
  obtain ⟨b, hb, hwb⟩ := hs.go enc w n cs xs (by omega) (by simpa using hx) (fun i f hf => by have := hr (i + 1) f (by simpa using hf); simpa using this) hw.2
  refine ⟨(a, b), ⟨_, _, ?_, ha, hb⟩, hwa, hwb⟩
  rw [← List.drop_drop, List.take_append_drop]
theorem struct {P : Program} {t : TypeId} {fs : Array Field} {gs : List (TypeId × Nat)} {α : Type} {K : Kd α} {wf : α → Prop} (ht : P.underlying t = some (.struct fs)) (hg : fs.toList.map (fun f => (f.type, f.offset)) = gs) (hs : P.cellsOf t = K.sz) (h : Fs P 0 gs K wf) : To P t K wf := by
 refine ⟨hs, fun {H} enc w fuel cs d ps hr hw => ?_⟩
 obtain ⟨xs, n, _, hx, hl, hxl, hel⟩ := DataW.trod_struct ht hr
 obtain ⟨rfl, _⟩ := Prod.mk.inj hx
 have := h.go enc w n cs xs (by omega) (by rw [← hg]; simpa using hxl) (fun i f hf => ?_) ?_
 ·simpa using this
 ·rw [← hg] at hf
  simp only [List.getElem?_map, Option.map_eq_some_iff] at hf
  obtain ⟨g, hg1, rfl⟩ := hf
  exact hel i g (by simpa using hg1)
 ·rw [← hg]
  simp only [DataW.weights, ht] at hw
  simpa [List.map_map, Function.comp_def] using hw
theorem weightsAll_each {H : Type} (P : Program) (e : TypeId) : ∀ (l : List (DataW H)) (ts : List TypeId), ts.length = l.length → (∀ t ∈ ts, t = e) → DataW.weightsEach P ts l = DataW.weightsAll P e l
 | [], [], _, _ => rfl
 | [], _ :: _, h, _ => by simp at h
 | _ :: _, [], h, _ => by simp at h
 | d :: l, t :: ts, h, ht => by
  simp only [DataW.weightsEach, DataW.weightsAll]
  rw [ht t (by simp), weightsAll_each P e l ts (by simpa using h) (fun x hx => ht x (by simp [hx]))]
theorem array {P : Program} {t e : TypeId} {n s : Nat} {α : Type} {K : Kd α} {wf : α → Prop} (ht : P.underlying t = some (.array n e)) (he : P.cellsOf e = s) (hs : P.cellsOf t = K.sz) (h : Fs P 0 ((List.range n).map fun i => (e, i * s)) K wf) : To P t K wf := by
 refine ⟨hs, fun {H} enc w fuel cs d ps hr hw => ?_⟩
 obtain ⟨xs, m, _, hx, hl, hxl, hel⟩ := DataW.trod_array ht hr
 obtain ⟨rfl, _⟩ := Prod.mk.inj hx
 have := h.go enc w m cs xs (by omega) (by simpa using hxl) (fun i f hf => ?_) ?_
 ·simpa using this
 ·simp only [List.getElem?_map, Option.map_eq_some_iff] at hf
  obtain ⟨g, hg1, rfl⟩ := hf
  have hi : i < n := by have := (List.getElem?_eq_some_iff.1 hg1).1; simpa using this
  have hgi : g = i := by
   have := (List.getElem?_eq_some_iff.1 hg1).2
   simpa using this.symm
  subst hgi
  have := hel g hi
  rw [he] at this ⊢
  exact this
 ·simp only [DataW.weights, ht] at hw
  rw [weightsAll_each P e _ _ (by simp [hxl]) (by simp)]
  exact hw
theorem iso {P : Program} {t : TypeId} {α β : Type} {K : Kd α} {wf : α → Prop} (f : β → α) (g : α → β) (hfg : ∀ a, f (g a) = a) (h : To P t K wf) : To P t (Kd.iso K f) (fun b => wf (f b)) := by
 refine ⟨h.sz, fun {H} enc w fuel cs d ps hr hw => ?_⟩
 obtain ⟨x, h1, h2⟩ := h.go enc w fuel cs d ps hr hw
 refine ⟨g x, ?_, ?_⟩
 ·show K.K w (f (g x)) cs
  rw [hfg]; exact h1
 ·rw [hfg]; exact h2
theorem imp {P : Program} {t : TypeId} {α : Type} {K : Kd α} {wf wf' : α → Prop} (h : To P t K wf) (hi : ∀ x, wf x → wf' x) : To P t K wf' :=
 ⟨h.sz, fun enc w fuel cs d ps hr hw => by
  obtain ⟨x, h1, h2⟩ := h.go enc w fuel cs d ps hr hw
  exact ⟨x, h1, hi x h2⟩⟩
theorem at_param {P : Program} {t : TypeId} {α : Type} {K : Kd α} {wf : α → Prop} (h : To P t K wf) {H : Type} {enc : TypeId × Value → H} {w : World} {v : Value} {d : DataW H} {ps : List MemPlace} {ts : List TypeId} {ds : List (DataW H)} {j : Nat}
  (hsz : (DataW.weightsEach P ts ds).all (· ≤ reachBytes) = true) (ht : ts[j]? = some t) (hd : ds[j]? = some d) (hr : DataW.Trod enc P w 0 (fun _ => true) true t v d ps) : ∃ x : α, K.K w x v.cells.toList ∧ wf x := by
 obtain ⟨fuel, hf⟩ := hr
 refine h.go enc w fuel _ d ps hf ?_
 rw [List.all_eq_true]
 intro x hx
 exact List.all_eq_true.1 hsz x (DataW.weights_mem_each ht hd x hx)
end Go.Proofs.Ythjhkcebcgdeoaa.Open

set_option linter.unusedVariables false
namespace Go.Proofs.Ythjhkcebcgdeoaa.Q
open Go.RowKit Go.Proofs.Ythjhkcebcgdeoaa.Q Go.Proofs.YthjhkcebcgdeoaaW.PrintWords Go.Proofs.YthjhkcebcgdeoaaW.PrintLast Go.Proofs.YthjhkcebcgdeoaaW.PrintMore
open Go.Proofs.Ythjhkcebcgdeoaa
def wf29 (x : S29) : Prop := ((Lit.int .u64 x.f0).wf = true) ∧ ((Lit.int .u64 x.f1).wf = true) ∧ ((Lit.int .u64 x.f2).wf = true) ∧ ((Lit.int .u64 x.f3).wf = true)
theorem to29 : Open.To Try.prog 29 k29 wf29 := Open.imp (Open.iso (fun x : S29 => (x.f0, (x.f1, (x.f2, x.f3)))) (fun y => (⟨y.1, y.2.1, y.2.2.1, y.2.2.2⟩ : S29)) (fun _ => rfl) (Open.array (n := 4) (e := 27) (s := 1) Try.underlying29 (by kernel_rfl) (by kernel_rfl) (show Open.Fs Try.prog 0 [(27, 0), (27, 1), (27, 2), (27, 3)] _ _ from (Open.cons (Open.int Try.underlying27 (by kernel_rfl)) (Open.cons (Open.int Try.underlying27 (by kernel_rfl)) (Open.cons (Open.int Try.underlying27 (by kernel_rfl)) (Open.one (Open.int Try.underlying27 (by kernel_rfl))))))))) (fun _ h => h)
def wf56 (x : S56) : Prop := (wf29 x.f0) ∧ ((Lit.int .i64 x.f1).wf = true)
theorem to56 : Open.To Try.prog 56 k56 wf56 := Open.imp (Open.iso (fun x : S56 => (x.f0, x.f1)) (fun y => (⟨y.1, y.2⟩ : S56)) (fun _ => rfl) (Open.struct Try.underlying56 (by rfl) (by kernel_rfl) (show Open.Fs Try.prog 0 [(29, 0), (3, 4)] _ _ from (Open.cons to29 (Open.one (Open.int Try.underlying3 (by kernel_rfl))))))) (fun _ h => h)
def wf58 (x : S58) : Prop := (wf56 x.f0) ∧ (True)
theorem to58 : Open.To Try.prog 58 k58 wf58 := Open.imp (Open.iso (fun x : S58 => (x.f0, x.f1)) (fun y => (⟨y.1, y.2⟩ : S58)) (fun _ => rfl) (Open.struct Try.underlying58 (by rfl) (by kernel_rfl) (show Open.Fs Try.prog 0 [(56, 0), (4, 5)] _ _ from (Open.cons to56 (Open.one (Open.bool Try.underlying4 (by kernel_rfl))))))) (fun _ h => h)
def wf24 (x : S24) : Prop := (x.f0.size ≤ 140737488351232) ∧ (x.f1.size ≤ 140737488351232) ∧ (x.f2.size ≤ 140737488351232) ∧ (True)
theorem to24 : Open.To Try.prog 24 k24 wf24 := Open.imp (Open.iso (fun x : S24 => (x.f0, (x.f1, (x.f2, x.f3)))) (fun y => (⟨y.1, y.2.1, y.2.2.1, y.2.2.2⟩ : S24)) (fun _ => rfl) (Open.struct Try.underlying24 (by rfl) (by kernel_rfl) (show Open.Fs Try.prog 0 [(9, 0), (9, 1), (9, 2), (4, 3)] _ _ from (Open.cons (Open.string Try.underlying9 (by kernel_rfl)) (Open.cons (Open.string Try.underlying9 (by kernel_rfl)) (Open.cons (Open.string Try.underlying9 (by kernel_rfl)) (Open.one (Open.bool Try.underlying4 (by kernel_rfl))))))))) (fun _ h => h)
def wf26 (x : S26) : Prop := (wf24 x.f0) ∧ (True) ∧ ((Lit.int .u8 x.f2).wf = true)
theorem to26 : Open.To Try.prog 26 k26 wf26 := Open.imp (Open.iso (fun x : S26 => (x.f0, (x.f1, x.f2))) (fun y => (⟨y.1, y.2.1, y.2.2⟩ : S26)) (fun _ => rfl) (Open.struct Try.underlying26 (by rfl) (by kernel_rfl) (show Open.Fs Try.prog 0 [(24, 0), (4, 4), (5, 5)] _ _ from (Open.cons to24 (Open.cons (Open.bool Try.underlying4 (by kernel_rfl)) (Open.one (Open.int Try.underlying5 (by kernel_rfl)))))))) (fun _ h => h)
def wf61 (x : S61) : Prop := (wf58 x.f0) ∧ ((∀ x_ ∈ x.f1, wf26 x_) ∧ x.f1.length * 64 ≤ 140737488351232) ∧ (True)
theorem to61 : Open.To Try.prog 61 k61 wf61 := Open.imp (Open.iso (fun x : S61 => (x.f0, (x.f1, x.f2))) (fun y => (⟨y.1, y.2.1, y.2.2⟩ : S61)) (fun _ => rfl) (Open.struct Try.underlying61 (by rfl) (by kernel_rfl) (show Open.Fs Try.prog 0 [(58, 0), (59, 6), (4, 7)] _ _ from (Open.cons to58 (Open.cons (Open.slice (e := 26) (B := 64) Try.underlying59 (by kernel_rfl) (by kernel_rfl) to26) (Open.one (Open.bool Try.underlying4 (by kernel_rfl)))))))) (fun _ h => h)
end Go.Proofs.Ythjhkcebcgdeoaa.Q
