import Derived.Test.YtoagfdpgnfinhaaQx0
import Derived.Test.YtoagfdpgnfinhaaGStreamOnce0
import Derived.Test.YtoagfdpgnfinhaaGStreamOnce6
import Derived.Test.YtoagfdpgnfinhaaWBMore
namespace Go.Proofs.Ytoagfdpgnfinhaa.Q
open Go.RowKit Go.Proofs.YtoagfdpgnfinhaaW.PrintWords Go.Proofs.YtoagfdpgnfinhaaW.PrintLast Go.Proofs.YtoagfdpgnfinhaaW.PrintMore
attribute [local go_sem] max2_int min2_int max_two min_two max_three min_three max_four min_four   -- for this text's walks alone
set_option linter.unusedVariables false
set_option linter.unusedSimpArgs false
/-! ### tenementlaw15_StreamOnce: function 10 -/
mutual
def tenementlaw15_StreamOnce.l0 : Nat → List Int → Bool → Int → Int → Int → Int → Int → Option (Bool)
  | 0, _, _, _, _, _, _, _ => none
  | k + 1, x0, x3, x5, x939000, x939001, x939002, x939003 => if x5 < (x0.length : Int) then (tenementlaw15_StreamOnce.j1 k x0 x3 x5 (decide (x5 < 40)) x939000 x939001 x939002 x939003) else (tenementlaw15_StreamOnce.j1 k x0 x3 x5 false x939000 x939001 x939002 x939003)
def tenementlaw15_StreamOnce.j1 : Nat → List Int → Bool → Int → Bool → Int → Int → Int → Int → Option (Bool)
  | 0, _, _, _, _, _, _, _, _ => none
  | k + 1, x0, x3, x5, x21, x939000, x939001, x939002, x939003 => if x21 = true then (if 0 ≤ x5 then (if x5 < (x0.length : Int) then ((vec_With.f 0 0 0 0 4 (IntKind.u64.wrap (1 + (IntKind.u64.wrap (Int.tmod (rd x0 x5) 6))))).bind fun bt941 => ((vec_At.f x939000 x939001 x939002 x939003 4).bind fun t946 => ((stream_Ready.f x939000 x939001 x939002 x939003 bt941.1 bt941.2.1 bt941.2.2.1 bt941.2.2.2 4).bind fun t947 => (if t947 = 1 then (if (IntKind.u64.wrap (1 + (IntKind.u64.wrap (Int.tmod (rd x0 x5) 6)))) = (IntKind.u64.wrap (t946 + 1)) then (if t947 = (-1) then (if (IntKind.u64.wrap (1 + (IntKind.u64.wrap (Int.tmod (rd x0 x5) 6)))) ≤ t946 then (if t947 = 0 then (if (IntKind.u64.wrap (1 + (IntKind.u64.wrap (Int.tmod (rd x0 x5) 6)))) > (IntKind.u64.wrap (t946 + 1)) then (tenementlaw15_StreamOnce.j2 k x0 x3 x5 t947 false x939000 x939001 x939002 x939003 bt941.1 bt941.2.1 bt941.2.2.1 bt941.2.2.2 4) else (tenementlaw15_StreamOnce.j2 k x0 x3 x5 t947 true x939000 x939001 x939002 x939003 bt941.1 bt941.2.1 bt941.2.2.1 bt941.2.2.2 4)) else (if (IntKind.u64.wrap (1 + (IntKind.u64.wrap (Int.tmod (rd x0 x5) 6)))) > (IntKind.u64.wrap (t946 + 1)) then (tenementlaw15_StreamOnce.j2 k x0 x3 x5 t947 true x939000 x939001 x939002 x939003 bt941.1 bt941.2.1 bt941.2.2.1 bt941.2.2.2 4) else (tenementlaw15_StreamOnce.j2 k x0 x3 x5 t947 false x939000 x939001 x939002 x939003 bt941.1 bt941.2.1 bt941.2.2.1 bt941.2.2.2 4))) else (tenementlaw15_StreamOnce.j2 k x0 x3 x5 t947 true x939000 x939001 x939002 x939003 bt941.1 bt941.2.1 bt941.2.2.1 bt941.2.2.2 4)) else (if (IntKind.u64.wrap (1 + (IntKind.u64.wrap (Int.tmod (rd x0 x5) 6)))) ≤ t946 then (tenementlaw15_StreamOnce.j2 k x0 x3 x5 t947 true x939000 x939001 x939002 x939003 bt941.1 bt941.2.1 bt941.2.2.1 bt941.2.2.2 4) else (if t947 = 0 then (if (IntKind.u64.wrap (1 + (IntKind.u64.wrap (Int.tmod (rd x0 x5) 6)))) > (IntKind.u64.wrap (t946 + 1)) then (tenementlaw15_StreamOnce.j2 k x0 x3 x5 t947 false x939000 x939001 x939002 x939003 bt941.1 bt941.2.1 bt941.2.2.1 bt941.2.2.2 4) else (tenementlaw15_StreamOnce.j2 k x0 x3 x5 t947 true x939000 x939001 x939002 x939003 bt941.1 bt941.2.1 bt941.2.2.1 bt941.2.2.2 4)) else (if (IntKind.u64.wrap (1 + (IntKind.u64.wrap (Int.tmod (rd x0 x5) 6)))) > (IntKind.u64.wrap (t946 + 1)) then (tenementlaw15_StreamOnce.j2 k x0 x3 x5 t947 true x939000 x939001 x939002 x939003 bt941.1 bt941.2.1 bt941.2.2.1 bt941.2.2.2 4) else (tenementlaw15_StreamOnce.j2 k x0 x3 x5 t947 false x939000 x939001 x939002 x939003 bt941.1 bt941.2.1 bt941.2.2.1 bt941.2.2.2 4))))) else (tenementlaw15_StreamOnce.j2 k x0 x3 x5 t947 true x939000 x939001 x939002 x939003 bt941.1 bt941.2.1 bt941.2.2.1 bt941.2.2.2 4)) else (if (IntKind.u64.wrap (1 + (IntKind.u64.wrap (Int.tmod (rd x0 x5) 6)))) = (IntKind.u64.wrap (t946 + 1)) then (tenementlaw15_StreamOnce.j2 k x0 x3 x5 t947 true x939000 x939001 x939002 x939003 bt941.1 bt941.2.1 bt941.2.2.1 bt941.2.2.2 4) else (if t947 = (-1) then (if (IntKind.u64.wrap (1 + (IntKind.u64.wrap (Int.tmod (rd x0 x5) 6)))) ≤ t946 then (if t947 = 0 then (if (IntKind.u64.wrap (1 + (IntKind.u64.wrap (Int.tmod (rd x0 x5) 6)))) > (IntKind.u64.wrap (t946 + 1)) then (tenementlaw15_StreamOnce.j2 k x0 x3 x5 t947 false x939000 x939001 x939002 x939003 bt941.1 bt941.2.1 bt941.2.2.1 bt941.2.2.2 4) else (tenementlaw15_StreamOnce.j2 k x0 x3 x5 t947 true x939000 x939001 x939002 x939003 bt941.1 bt941.2.1 bt941.2.2.1 bt941.2.2.2 4)) else (if (IntKind.u64.wrap (1 + (IntKind.u64.wrap (Int.tmod (rd x0 x5) 6)))) > (IntKind.u64.wrap (t946 + 1)) then (tenementlaw15_StreamOnce.j2 k x0 x3 x5 t947 true x939000 x939001 x939002 x939003 bt941.1 bt941.2.1 bt941.2.2.1 bt941.2.2.2 4) else (tenementlaw15_StreamOnce.j2 k x0 x3 x5 t947 false x939000 x939001 x939002 x939003 bt941.1 bt941.2.1 bt941.2.2.1 bt941.2.2.2 4))) else (tenementlaw15_StreamOnce.j2 k x0 x3 x5 t947 true x939000 x939001 x939002 x939003 bt941.1 bt941.2.1 bt941.2.2.1 bt941.2.2.2 4)) else (if (IntKind.u64.wrap (1 + (IntKind.u64.wrap (Int.tmod (rd x0 x5) 6)))) ≤ t946 then (tenementlaw15_StreamOnce.j2 k x0 x3 x5 t947 true x939000 x939001 x939002 x939003 bt941.1 bt941.2.1 bt941.2.2.1 bt941.2.2.2 4) else (if t947 = 0 then (if (IntKind.u64.wrap (1 + (IntKind.u64.wrap (Int.tmod (rd x0 x5) 6)))) > (IntKind.u64.wrap (t946 + 1)) then (tenementlaw15_StreamOnce.j2 k x0 x3 x5 t947 false x939000 x939001 x939002 x939003 bt941.1 bt941.2.1 bt941.2.2.1 bt941.2.2.2 4) else (tenementlaw15_StreamOnce.j2 k x0 x3 x5 t947 true x939000 x939001 x939002 x939003 bt941.1 bt941.2.1 bt941.2.2.1 bt941.2.2.2 4)) else (if (IntKind.u64.wrap (1 + (IntKind.u64.wrap (Int.tmod (rd x0 x5) 6)))) > (IntKind.u64.wrap (t946 + 1)) then (tenementlaw15_StreamOnce.j2 k x0 x3 x5 t947 true x939000 x939001 x939002 x939003 bt941.1 bt941.2.1 bt941.2.2.1 bt941.2.2.2 4) else (tenementlaw15_StreamOnce.j2 k x0 x3 x5 t947 false x939000 x939001 x939002 x939003 bt941.1 bt941.2.1 bt941.2.2.1 bt941.2.2.2 4)))))))))) else (none)) else (none)) else (if x3 = true then ((stream_Ready.f x939000 x939001 x939002 x939003 0 0 0 0 0).bind fun t939 => (if t939 = 0 then (some true) else (none))) else (none))
def tenementlaw15_StreamOnce.j2 : Nat → List Int → Bool → Int → Int → Bool → Int → Int → Int → Int → Int → Int → Int → Int → Int → Option (Bool)
  | 0, _, _, _, _, _, _, _, _, _, _, _, _, _, _ => none
  | k + 1, x0, x3, x5, x9, x63, x939000, x939001, x939002, x939003, x946000, x946001, x946002, x946003, x946004 => if x63 = true then (none) else (if x9 = 1 then ((vec_Join.f x939000 x939001 x939002 x939003 x946000 x946001 x946002 x946003).bind fun bt948 => (tenementlaw15_StreamOnce.l0 k x0 x3 (wrap64 (x5 + 1)) bt948.1 bt948.2.1 bt948.2.2.1 bt948.2.2.2)) else (tenementlaw15_StreamOnce.l0 k x0 x3 (wrap64 (x5 + 1)) x939000 x939001 x939002 x939003))
end
def tenementlaw15_StreamOnce.f (k : Nat) (l0 : List Int) : Option (Bool) := (tenementlaw15_examples.f).bind fun t937 => (if t937 = true then (tenementlaw15_StreamOnce.l0 k l0 t937 0 0 0 0 0) else (none))
theorem tenementlaw15_StreamOnce.mono_l : ∀ k, (∀ y0 y1 y2 y3 y4 y5 y6, LeO (tenementlaw15_StreamOnce.l0 k y0 y1 y2 y3 y4 y5 y6) (tenementlaw15_StreamOnce.l0 (k + 1) y0 y1 y2 y3 y4 y5 y6)) ∧ (∀ y0 y1 y2 y3 y4 y5 y6 y7, LeO (tenementlaw15_StreamOnce.j1 k y0 y1 y2 y3 y4 y5 y6 y7) (tenementlaw15_StreamOnce.j1 (k + 1) y0 y1 y2 y3 y4 y5 y6 y7)) ∧ (∀ y0 y1 y2 y3 y4 y5 y6 y7 y8 y9 y10 y11 y12 y13, LeO (tenementlaw15_StreamOnce.j2 k y0 y1 y2 y3 y4 y5 y6 y7 y8 y9 y10 y11 y12 y13) (tenementlaw15_StreamOnce.j2 (k + 1) y0 y1 y2 y3 y4 y5 y6 y7 y8 y9 y10 y11 y12 y13))
  | 0 => ⟨fun _ _ _ _ _ _ _ r h => by simp [tenementlaw15_StreamOnce.l0] at h, fun _ _ _ _ _ _ _ _ r h => by simp [tenementlaw15_StreamOnce.j1] at h, fun _ _ _ _ _ _ _ _ _ _ _ _ _ _ r h => by simp [tenementlaw15_StreamOnce.j2] at h⟩
  | k + 1 => by
    obtain ⟨ih0, ih1, ih2⟩ := tenementlaw15_StreamOnce.mono_l k
    refine ⟨?_, ?_, ?_⟩
    · intro y0 y1 y2 y3 y4 y5 y6
      unfold tenementlaw15_StreamOnce.l0
      repeat' first
      | (with_reducible exact ih0 _ _ _ _ _ _ _)
      | (with_reducible exact ih1 _ _ _ _ _ _ _ _)
      | (with_reducible exact ih2 _ _ _ _ _ _ _ _ _ _ _ _ _ _)
      | (with_reducible exact LeO.refl _)
      | (with_reducible exact LeO.none _)
      | (with_reducible refine LeO.ite ?_ ?_)
      | (with_reducible refine LeO.bind ?_ (fun _ => ?_))
      | exact ih0 _ _ _ _ _ _ _
      | exact ih1 _ _ _ _ _ _ _ _
      | exact ih2 _ _ _ _ _ _ _ _ _ _ _ _ _ _
      | exact LeO.none _
      | refine LeO.ite ?_ ?_
      | refine LeO.bind ?_ (fun _ => ?_)
    · intro y0 y1 y2 y3 y4 y5 y6 y7
      unfold tenementlaw15_StreamOnce.j1
      repeat' first
      | (with_reducible exact ih0 _ _ _ _ _ _ _)
      | (with_reducible exact ih1 _ _ _ _ _ _ _ _)
      | (with_reducible exact ih2 _ _ _ _ _ _ _ _ _ _ _ _ _ _)
      | (with_reducible exact LeO.refl _)
      | (with_reducible exact LeO.none _)
      | (with_reducible refine LeO.ite ?_ ?_)
      | (with_reducible refine LeO.bind ?_ (fun _ => ?_))
      | exact ih0 _ _ _ _ _ _ _
      | exact ih1 _ _ _ _ _ _ _ _
      | exact ih2 _ _ _ _ _ _ _ _ _ _ _ _ _ _
      | exact LeO.none _
      | refine LeO.ite ?_ ?_
      | refine LeO.bind ?_ (fun _ => ?_)
    · intro y0 y1 y2 y3 y4 y5 y6 y7 y8 y9 y10 y11 y12 y13
      unfold tenementlaw15_StreamOnce.j2
      repeat' first
      | (with_reducible exact ih0 _ _ _ _ _ _ _)
      | (with_reducible exact ih1 _ _ _ _ _ _ _ _)
      | (with_reducible exact ih2 _ _ _ _ _ _ _ _ _ _ _ _ _ _)
      | (with_reducible exact LeO.refl _)
      | (with_reducible exact LeO.none _)
      | (with_reducible refine LeO.ite ?_ ?_)
      | (with_reducible refine LeO.bind ?_ (fun _ => ?_))
      | exact ih0 _ _ _ _ _ _ _
      | exact ih1 _ _ _ _ _ _ _ _
      | exact ih2 _ _ _ _ _ _ _ _ _ _ _ _ _ _
      | exact LeO.none _
      | refine LeO.ite ?_ ?_
      | refine LeO.bind ?_ (fun _ => ?_)
theorem tenementlaw15_StreamOnce.mono : ∀ a0 k, LeO (tenementlaw15_StreamOnce.f k a0) (tenementlaw15_StreamOnce.f (k + 1) a0) := by
  intro a0 k
  obtain ⟨ih0, ih1, ih2⟩ := tenementlaw15_StreamOnce.mono_l k
  unfold tenementlaw15_StreamOnce.f
  repeat' first
      | (with_reducible exact ih0 _ _ _ _ _ _ _)
      | (with_reducible exact ih1 _ _ _ _ _ _ _ _)
      | (with_reducible exact ih2 _ _ _ _ _ _ _ _ _ _ _ _ _ _)
      | (with_reducible exact LeO.refl _)
      | (with_reducible exact LeO.none _)
      | (with_reducible refine LeO.ite ?_ ?_)
      | (with_reducible refine LeO.bind ?_ (fun _ => ?_))
      | exact ih0 _ _ _ _ _ _ _
      | exact ih1 _ _ _ _ _ _ _ _
      | exact ih2 _ _ _ _ _ _ _ _ _ _ _ _ _ _
      | exact LeO.none _
      | refine LeO.ite ?_ ?_
      | refine LeO.bind ?_ (fun _ => ?_)
set_option maxHeartbeats 8000000 in
set_option maxRecDepth 100000 in
theorem tenementlaw15_StreamOnce.calls (k : Nat) (A0 : Option Addr) (c0 : Nat) (l0 : List Int) (r : Bool) (w : World) (hr0 : Kd.C (Kd.int .u8) w A0 l0.length l0) (hc0 : l0.length ≤ c0) (h : tenementlaw15_StreamOnce.f k l0 = some r) :
    Calls Try.prog 10 #[.slice A0 l0.length c0] w fun e w' => e = .returned (.bool r) ∧ Below w.heap.size w w' := by
  have hu28 := Try.underlying28
  have hu30 := Try.underlying30
  have HR0 := Aside0.mk hr0
  have HC0 := Aside0.mk hc0
  clear hr0 hc0
  have HB := Aside0.mk (Below.refl w.heap.size w)
  have H : ((tenementlaw15_examples.f).bind fun t937 => (if t937 = true then (tenementlaw15_StreamOnce.l0 k l0 t937 0 0 0 0 0) else (none))) = some r := h
  clear h
  replace H := Option.bind_eq_some_iff.mp H
  obtain ⟨t937, A20, H⟩ := H
  replace H : (if t937 = true then (tenementlaw15_StreamOnce.l0 k l0 t937 0 0 0 0 0) else (none)) = some r := H
  have A2 := Aside0.mk A20
  clear A20
  by_cases c3 : t937 = true
  rotate_left
  · replace c3 := Bool.eq_false_iff.mpr c3
    subst c3
    have H1 : (none) = some r := by rw [if_neg (show ¬ (false = true) by decide)] at H; exact H
    clear H
    have H := H1
    clear H1
    exact absurd H (by simp)
  subst c3
  have H1 : (tenementlaw15_StreamOnce.l0 k l0 true 0 0 0 0 0) = some r := by rw [if_pos rfl] at H; exact H
  clear H
  have H := H1
  clear H1
  have H' := Aside0.mk H
  clear H
  go_enter Try.func10, Try.ntmps10
  go_wp2_with (first | ((with_reducible refine gate_callee (f := 11) rfl ?_); refine Kg_ (some 10) rfl rfl Try.func11 (by kernel_rfl) rfl #[] rfl ?_; (with_reducible refine (tenementlaw15_examples.calls  true _ A2.out).mono ?_); rintro e w4 ⟨rfl, hb⟩; refine ⟨_, rfl, ?_⟩; replace HB := Ks_ HB hb; (try clear hb); (try clear hb2); (try clear hk); (try clear hi)) | ((with_reducible refine gate_dst (N := 4) rfl ?_); refine Ka_ 4 #[.int .u64 0, .int .u64 0, .int .u64 0, .int .u64 0] 28 ?_; intro gb938 hg w5 hbox hb; have BK938 := Aside0.mk (hbox); have GW938 := Kw_ HB hg; have GE938 := GW938; replace HB := Ks_ HB hb; clear hb hbox hg; obtain ⟨hcz6_0, hcz6_1, hcz6_2, hcz6_3, hfz6_0, hfz6_1, hfz6_2, hfz6_3⟩ := Ke4_ BK938.out))
  go_loopg [5] k (fun kq v5 w' => ∃ (x5_1 : Int) (x939000_1 : Int) (x939001_1 : Int) (x939002_1 : Int) (x939003_1 : Int), v5 = .int .i64 x5_1 ∧ Aside0 (tenementlaw15_StreamOnce.l0 kq l0 true x5_1 x939000_1 x939001_1 x939002_1 x939003_1 = some r) ∧ Aside0 (kq ≤ k) ∧ Aside0 (w'.heap[gb938]? = some (.cells #[.int .u64 x939000_1, .int .u64 x939001_1, .int .u64 x939002_1, .int .u64 x939003_1] 28 (0, 0))) ∧ Aside0 (Below w.heap.size w w'))
  case atStart => exact ⟨(0), (0), (0), (0), (0), (by first | rfl | (simp; done) | (simp [*]; done)), H', ⟨Nat.le_refl _⟩, ⟨by refine Kv_ ?_; refine blk_put (cs := #[.int .u64 0, .int .u64 0, .int .u64 0, .int .u64 0]) ?_ 3 _ rfl; refine Kv_ ?_; refine blk_put (cs := #[.int .u64 0, .int .u64 0, .int .u64 0, .int .u64 0]) ?_ 2 _ rfl; refine Kv_ ?_; refine blk_put (cs := #[.int .u64 0, .int .u64 0, .int .u64 0, .int .u64 0]) ?_ 1 _ rfl; refine Kv_ ?_; refine blk_put (cs := #[.int .u64 0, .int .u64 0, .int .u64 0, .int .u64 0]) ?_ 0 _ rfl; exact Kq_ BK938⟩, ⟨Kz_ HB GE938⟩⟩
  case round =>
    clear H'
    try clear c1
    try clear p2
    try clear c3
    try clear hcz6_0
    try clear hcz6_1
    try clear hcz6_2
    try clear hcz6_3
    try clear hfz6_0
    try clear hfz6_1
    try clear hfz6_2
    try clear hfz6_3
    obtain ⟨x5_1, x939000_1, x939001_1, x939002_1, x939003_1, rfl, HA, HK1, BK938, HB⟩ := hrel
    cases gk with
    | zero => exact absurd HA.out (by simp [tenementlaw15_StreamOnce.l0])
    | succ k1 =>
      have H := HA.out
      clear HA
      simp only [tenementlaw15_StreamOnce.l0] at H
      have HC7 := Aside0.mk H
      clear H
      go_upto_region 6 with (fail)
      go_cut [21] (fun v21 wc => ∃ (kq : Nat) (x21_6 : Bool), v21 = .bool x21_6 ∧ Aside0 (tenementlaw15_StreamOnce.j1 kq l0 true x5_1 x21_6 x939000_1 x939001_1 x939002_1 x939003_1 = some r) ∧ Aside0 (kq ≤ k1) ∧ Aside0 (wc.heap[gb938]? = some (.cells #[.int .u64 x939000_1, .int .u64 x939001_1, .int .u64 x939002_1, .int .u64 x939003_1] 28 (0, 0))) ∧ Aside0 (Below w.heap.size w wc))
      case first =>
        have H := HC7.out
        clear HC7
        by_cases c8 : x5_1 < (l0.length : Int)
        rotate_left
        · rw [if_neg c8] at H
          have c8b0 : decide (x5_1 < (l0.length : Int)) = false := decide_eq_false c8
          clear c8
          (first | rw [c8b0] | (simp only [i64_w, i32_w]; rw [c8b0]) | skip)
          have H' := Aside0.mk H
          clear H
          go_wp2
          go_meet
          case rel => exact ⟨_, (false), (by first | rfl | (simp; done) | (simp [*]; done)), H', ⟨by have := HK1.out; first | omega | exact Nat.le_refl _⟩, ⟨by exact Kq_ BK938⟩, ⟨Kz_ HB GE938⟩⟩
        rw [if_pos c8] at H
        have c8b0 : decide (x5_1 < (l0.length : Int)) = true := decide_eq_true c8
        clear c8
        (first | rw [c8b0] | (simp only [i64_w, i32_w]; rw [c8b0]) | skip)
        have H' := Aside0.mk H
        clear H
        go_wp2
        go_meet
        case rel => exact ⟨_, (decide (x5_1 < 40)), (by first | rfl | (simp; done) | (simp [*]; done)), H', ⟨by have := HK1.out; first | omega | exact Nat.le_refl _⟩, ⟨by exact Kq_ BK938⟩, ⟨Kz_ HB GE938⟩⟩
      case rest =>
        clear HC7
        try clear c1
        try clear p2
        try clear c3
        try clear c8
        try clear c8b0
        try clear hcz6_0
        try clear hcz6_1
        try clear hcz6_2
        try clear hcz6_3
        try clear hfz6_0
        try clear hfz6_1
        try clear hfz6_2
        try clear hfz6_3
        try clear p2
        obtain ⟨kq, x21_6, rfl, HA, HJ6, BK938, HB⟩ := hcut
        cases kq with
        | zero => exact absurd HA.out (by simp [tenementlaw15_StreamOnce.j1])
        | succ kj6 =>
          have H := HA.out
          clear HA
          simp only [tenementlaw15_StreamOnce.j1] at H
          by_cases c9 : x21_6 = true
          rotate_left
          · replace c9 := Bool.eq_false_iff.mpr c9
            subst c9
            have H1 : (if true = true then ((stream_Ready.f x939000_1 x939001_1 x939002_1 x939003_1 0 0 0 0 0).bind fun t939 => (if t939 = 0 then (some true) else (none))) else (none)) = some r := by rw [if_neg (show ¬ (false = true) by decide)] at H; exact H
            clear H
            have H := H1
            clear H1
            replace H : ((stream_Ready.f x939000_1 x939001_1 x939002_1 x939003_1 0 0 0 0 0).bind fun t939 => (if t939 = 0 then (some true) else (none))) = some r := by first | (rw [if_pos rfl] at H; exact H) | (rw [if_pos trivial] at H; exact H)
            replace H := Option.bind_eq_some_iff.mp H
            obtain ⟨t939, A540, H⟩ := H
            replace H : (if t939 = 0 then (some true) else (none)) = some r := H
            have A54 := Aside0.mk A540
            clear A540
            by_cases c55 : t939 = 0
            rotate_left
            · rw [if_neg c55] at H
              exact absurd H (by simp)
            rw [if_pos c55] at H
            have c55b0 : (t939 == 0) = true := beq_iff_eq.mpr c55
            have c55b1 : (t939 != 0) = false := bne_eq_false_iff_eq.mpr c55
            clear c55
            obtain rfl := Option.some.inj H
            obtain ⟨hcz56_0, hcz56_1, hcz56_2, hcz56_3, hfz56_0, hfz56_1, hfz56_2, hfz56_3⟩ := Ke4_ BK938.out
            go_wp2_with (first | (go_at_call 30; (with_reducible refine (stream_Ready.calls x939000_1 x939001_1 x939002_1 x939003_1 0 0 0 0 0 t939 _ A54.out).mono ?_); rintro e w57 ⟨rfl, hb⟩; replace BK938 := Kb_ BK938 hb; replace HB := Ks_ HB hb; (try clear hb); (try clear hb2); (try clear hk); (try clear hi)))
            go_ret
            exact ⟨Kh_, Kz_ HB GE938⟩
          subst c9
          have H1 : (if 0 ≤ x5_1 then (if x5_1 < (l0.length : Int) then ((vec_With.f 0 0 0 0 4 (IntKind.u64.wrap (1 + (IntKind.u64.wrap (Int.tmod (rd l0 x5_1) 6))))).bind fun bt941 => ((vec_At.f x939000_1 x939001_1 x939002_1 x939003_1 4).bind fun t946 => ((stream_Ready.f x939000_1 x939001_1 x939002_1 x939003_1 bt941.1 bt941.2.1 bt941.2.2.1 bt941.2.2.2 4).bind fun t947 => (if t947 = 1 then (if (IntKind.u64.wrap (1 + (IntKind.u64.wrap (Int.tmod (rd l0 x5_1) 6)))) = (IntKind.u64.wrap (t946 + 1)) then (if t947 = (-1) then (if (IntKind.u64.wrap (1 + (IntKind.u64.wrap (Int.tmod (rd l0 x5_1) 6)))) ≤ t946 then (if t947 = 0 then (if (IntKind.u64.wrap (1 + (IntKind.u64.wrap (Int.tmod (rd l0 x5_1) 6)))) > (IntKind.u64.wrap (t946 + 1)) then (tenementlaw15_StreamOnce.j2 kj6 l0 true x5_1 t947 false x939000_1 x939001_1 x939002_1 x939003_1 bt941.1 bt941.2.1 bt941.2.2.1 bt941.2.2.2 4) else (tenementlaw15_StreamOnce.j2 kj6 l0 true x5_1 t947 true x939000_1 x939001_1 x939002_1 x939003_1 bt941.1 bt941.2.1 bt941.2.2.1 bt941.2.2.2 4)) else (if (IntKind.u64.wrap (1 + (IntKind.u64.wrap (Int.tmod (rd l0 x5_1) 6)))) > (IntKind.u64.wrap (t946 + 1)) then (tenementlaw15_StreamOnce.j2 kj6 l0 true x5_1 t947 true x939000_1 x939001_1 x939002_1 x939003_1 bt941.1 bt941.2.1 bt941.2.2.1 bt941.2.2.2 4) else (tenementlaw15_StreamOnce.j2 kj6 l0 true x5_1 t947 false x939000_1 x939001_1 x939002_1 x939003_1 bt941.1 bt941.2.1 bt941.2.2.1 bt941.2.2.2 4))) else (tenementlaw15_StreamOnce.j2 kj6 l0 true x5_1 t947 true x939000_1 x939001_1 x939002_1 x939003_1 bt941.1 bt941.2.1 bt941.2.2.1 bt941.2.2.2 4)) else (if (IntKind.u64.wrap (1 + (IntKind.u64.wrap (Int.tmod (rd l0 x5_1) 6)))) ≤ t946 then (tenementlaw15_StreamOnce.j2 kj6 l0 true x5_1 t947 true x939000_1 x939001_1 x939002_1 x939003_1 bt941.1 bt941.2.1 bt941.2.2.1 bt941.2.2.2 4) else (if t947 = 0 then (if (IntKind.u64.wrap (1 + (IntKind.u64.wrap (Int.tmod (rd l0 x5_1) 6)))) > (IntKind.u64.wrap (t946 + 1)) then (tenementlaw15_StreamOnce.j2 kj6 l0 true x5_1 t947 false x939000_1 x939001_1 x939002_1 x939003_1 bt941.1 bt941.2.1 bt941.2.2.1 bt941.2.2.2 4) else (tenementlaw15_StreamOnce.j2 kj6 l0 true x5_1 t947 true x939000_1 x939001_1 x939002_1 x939003_1 bt941.1 bt941.2.1 bt941.2.2.1 bt941.2.2.2 4)) else (if (IntKind.u64.wrap (1 + (IntKind.u64.wrap (Int.tmod (rd l0 x5_1) 6)))) > (IntKind.u64.wrap (t946 + 1)) then (tenementlaw15_StreamOnce.j2 kj6 l0 true x5_1 t947 true x939000_1 x939001_1 x939002_1 x939003_1 bt941.1 bt941.2.1 bt941.2.2.1 bt941.2.2.2 4) else (tenementlaw15_StreamOnce.j2 kj6 l0 true x5_1 t947 false x939000_1 x939001_1 x939002_1 x939003_1 bt941.1 bt941.2.1 bt941.2.2.1 bt941.2.2.2 4))))) else (tenementlaw15_StreamOnce.j2 kj6 l0 true x5_1 t947 true x939000_1 x939001_1 x939002_1 x939003_1 bt941.1 bt941.2.1 bt941.2.2.1 bt941.2.2.2 4)) else (if (IntKind.u64.wrap (1 + (IntKind.u64.wrap (Int.tmod (rd l0 x5_1) 6)))) = (IntKind.u64.wrap (t946 + 1)) then (tenementlaw15_StreamOnce.j2 kj6 l0 true x5_1 t947 true x939000_1 x939001_1 x939002_1 x939003_1 bt941.1 bt941.2.1 bt941.2.2.1 bt941.2.2.2 4) else (if t947 = (-1) then (if (IntKind.u64.wrap (1 + (IntKind.u64.wrap (Int.tmod (rd l0 x5_1) 6)))) ≤ t946 then (if t947 = 0 then (if (IntKind.u64.wrap (1 + (IntKind.u64.wrap (Int.tmod (rd l0 x5_1) 6)))) > (IntKind.u64.wrap (t946 + 1)) then (tenementlaw15_StreamOnce.j2 kj6 l0 true x5_1 t947 false x939000_1 x939001_1 x939002_1 x939003_1 bt941.1 bt941.2.1 bt941.2.2.1 bt941.2.2.2 4) else (tenementlaw15_StreamOnce.j2 kj6 l0 true x5_1 t947 true x939000_1 x939001_1 x939002_1 x939003_1 bt941.1 bt941.2.1 bt941.2.2.1 bt941.2.2.2 4)) else (if (IntKind.u64.wrap (1 + (IntKind.u64.wrap (Int.tmod (rd l0 x5_1) 6)))) > (IntKind.u64.wrap (t946 + 1)) then (tenementlaw15_StreamOnce.j2 kj6 l0 true x5_1 t947 true x939000_1 x939001_1 x939002_1 x939003_1 bt941.1 bt941.2.1 bt941.2.2.1 bt941.2.2.2 4) else (tenementlaw15_StreamOnce.j2 kj6 l0 true x5_1 t947 false x939000_1 x939001_1 x939002_1 x939003_1 bt941.1 bt941.2.1 bt941.2.2.1 bt941.2.2.2 4))) else (tenementlaw15_StreamOnce.j2 kj6 l0 true x5_1 t947 true x939000_1 x939001_1 x939002_1 x939003_1 bt941.1 bt941.2.1 bt941.2.2.1 bt941.2.2.2 4)) else (if (IntKind.u64.wrap (1 + (IntKind.u64.wrap (Int.tmod (rd l0 x5_1) 6)))) ≤ t946 then (tenementlaw15_StreamOnce.j2 kj6 l0 true x5_1 t947 true x939000_1 x939001_1 x939002_1 x939003_1 bt941.1 bt941.2.1 bt941.2.2.1 bt941.2.2.2 4) else (if t947 = 0 then (if (IntKind.u64.wrap (1 + (IntKind.u64.wrap (Int.tmod (rd l0 x5_1) 6)))) > (IntKind.u64.wrap (t946 + 1)) then (tenementlaw15_StreamOnce.j2 kj6 l0 true x5_1 t947 false x939000_1 x939001_1 x939002_1 x939003_1 bt941.1 bt941.2.1 bt941.2.2.1 bt941.2.2.2 4) else (tenementlaw15_StreamOnce.j2 kj6 l0 true x5_1 t947 true x939000_1 x939001_1 x939002_1 x939003_1 bt941.1 bt941.2.1 bt941.2.2.1 bt941.2.2.2 4)) else (if (IntKind.u64.wrap (1 + (IntKind.u64.wrap (Int.tmod (rd l0 x5_1) 6)))) > (IntKind.u64.wrap (t946 + 1)) then (tenementlaw15_StreamOnce.j2 kj6 l0 true x5_1 t947 true x939000_1 x939001_1 x939002_1 x939003_1 bt941.1 bt941.2.1 bt941.2.2.1 bt941.2.2.2 4) else (tenementlaw15_StreamOnce.j2 kj6 l0 true x5_1 t947 false x939000_1 x939001_1 x939002_1 x939003_1 bt941.1 bt941.2.1 bt941.2.2.1 bt941.2.2.2 4)))))))))) else (none)) else (none)) = some r := by rw [if_pos rfl] at H; exact H
          clear H
          have H := H1
          clear H1
          by_cases c10 : 0 ≤ x5_1
          rotate_left
          · rw [if_neg c10] at H
            exact absurd H (by simp)
          rw [if_pos c10] at H
          have c10b0 : decide (0 ≤ x5_1) = true := decide_eq_true c10
          clear c10
          by_cases c11 : x5_1 < (l0.length : Int)
          rotate_left
          · rw [if_neg c11] at H
            exact absurd H (by simp)
          rw [if_pos c11] at H
          have c11b0 : decide (x5_1 < (l0.length : Int)) = true := decide_eq_true c11
          clear c11
          replace H := Option.bind_eq_some_iff.mp H
          obtain ⟨⟨t941, t942, t943, t944⟩, A120, H⟩ := H
          replace H : ((vec_At.f x939000_1 x939001_1 x939002_1 x939003_1 4).bind fun t946 => ((stream_Ready.f x939000_1 x939001_1 x939002_1 x939003_1 t941 t942 t943 t944 4).bind fun t947 => (if t947 = 1 then (if (IntKind.u64.wrap (1 + (IntKind.u64.wrap (Int.tmod (rd l0 x5_1) 6)))) = (IntKind.u64.wrap (t946 + 1)) then (if t947 = (-1) then (if (IntKind.u64.wrap (1 + (IntKind.u64.wrap (Int.tmod (rd l0 x5_1) 6)))) ≤ t946 then (if t947 = 0 then (if (IntKind.u64.wrap (1 + (IntKind.u64.wrap (Int.tmod (rd l0 x5_1) 6)))) > (IntKind.u64.wrap (t946 + 1)) then (tenementlaw15_StreamOnce.j2 kj6 l0 true x5_1 t947 false x939000_1 x939001_1 x939002_1 x939003_1 t941 t942 t943 t944 4) else (tenementlaw15_StreamOnce.j2 kj6 l0 true x5_1 t947 true x939000_1 x939001_1 x939002_1 x939003_1 t941 t942 t943 t944 4)) else (if (IntKind.u64.wrap (1 + (IntKind.u64.wrap (Int.tmod (rd l0 x5_1) 6)))) > (IntKind.u64.wrap (t946 + 1)) then (tenementlaw15_StreamOnce.j2 kj6 l0 true x5_1 t947 true x939000_1 x939001_1 x939002_1 x939003_1 t941 t942 t943 t944 4) else (tenementlaw15_StreamOnce.j2 kj6 l0 true x5_1 t947 false x939000_1 x939001_1 x939002_1 x939003_1 t941 t942 t943 t944 4))) else (tenementlaw15_StreamOnce.j2 kj6 l0 true x5_1 t947 true x939000_1 x939001_1 x939002_1 x939003_1 t941 t942 t943 t944 4)) else (if (IntKind.u64.wrap (1 + (IntKind.u64.wrap (Int.tmod (rd l0 x5_1) 6)))) ≤ t946 then (tenementlaw15_StreamOnce.j2 kj6 l0 true x5_1 t947 true x939000_1 x939001_1 x939002_1 x939003_1 t941 t942 t943 t944 4) else (if t947 = 0 then (if (IntKind.u64.wrap (1 + (IntKind.u64.wrap (Int.tmod (rd l0 x5_1) 6)))) > (IntKind.u64.wrap (t946 + 1)) then (tenementlaw15_StreamOnce.j2 kj6 l0 true x5_1 t947 false x939000_1 x939001_1 x939002_1 x939003_1 t941 t942 t943 t944 4) else (tenementlaw15_StreamOnce.j2 kj6 l0 true x5_1 t947 true x939000_1 x939001_1 x939002_1 x939003_1 t941 t942 t943 t944 4)) else (if (IntKind.u64.wrap (1 + (IntKind.u64.wrap (Int.tmod (rd l0 x5_1) 6)))) > (IntKind.u64.wrap (t946 + 1)) then (tenementlaw15_StreamOnce.j2 kj6 l0 true x5_1 t947 true x939000_1 x939001_1 x939002_1 x939003_1 t941 t942 t943 t944 4) else (tenementlaw15_StreamOnce.j2 kj6 l0 true x5_1 t947 false x939000_1 x939001_1 x939002_1 x939003_1 t941 t942 t943 t944 4))))) else (tenementlaw15_StreamOnce.j2 kj6 l0 true x5_1 t947 true x939000_1 x939001_1 x939002_1 x939003_1 t941 t942 t943 t944 4)) else (if (IntKind.u64.wrap (1 + (IntKind.u64.wrap (Int.tmod (rd l0 x5_1) 6)))) = (IntKind.u64.wrap (t946 + 1)) then (tenementlaw15_StreamOnce.j2 kj6 l0 true x5_1 t947 true x939000_1 x939001_1 x939002_1 x939003_1 t941 t942 t943 t944 4) else (if t947 = (-1) then (if (IntKind.u64.wrap (1 + (IntKind.u64.wrap (Int.tmod (rd l0 x5_1) 6)))) ≤ t946 then (if t947 = 0 then (if (IntKind.u64.wrap (1 + (IntKind.u64.wrap (Int.tmod (rd l0 x5_1) 6)))) > (IntKind.u64.wrap (t946 + 1)) then (tenementlaw15_StreamOnce.j2 kj6 l0 true x5_1 t947 false x939000_1 x939001_1 x939002_1 x939003_1 t941 t942 t943 t944 4) else (tenementlaw15_StreamOnce.j2 kj6 l0 true x5_1 t947 true x939000_1 x939001_1 x939002_1 x939003_1 t941 t942 t943 t944 4)) else (if (IntKind.u64.wrap (1 + (IntKind.u64.wrap (Int.tmod (rd l0 x5_1) 6)))) > (IntKind.u64.wrap (t946 + 1)) then (tenementlaw15_StreamOnce.j2 kj6 l0 true x5_1 t947 true x939000_1 x939001_1 x939002_1 x939003_1 t941 t942 t943 t944 4) else (tenementlaw15_StreamOnce.j2 kj6 l0 true x5_1 t947 false x939000_1 x939001_1 x939002_1 x939003_1 t941 t942 t943 t944 4))) else (tenementlaw15_StreamOnce.j2 kj6 l0 true x5_1 t947 true x939000_1 x939001_1 x939002_1 x939003_1 t941 t942 t943 t944 4)) else (if (IntKind.u64.wrap (1 + (IntKind.u64.wrap (Int.tmod (rd l0 x5_1) 6)))) ≤ t946 then (tenementlaw15_StreamOnce.j2 kj6 l0 true x5_1 t947 true x939000_1 x939001_1 x939002_1 x939003_1 t941 t942 t943 t944 4) else (if t947 = 0 then (if (IntKind.u64.wrap (1 + (IntKind.u64.wrap (Int.tmod (rd l0 x5_1) 6)))) > (IntKind.u64.wrap (t946 + 1)) then (tenementlaw15_StreamOnce.j2 kj6 l0 true x5_1 t947 false x939000_1 x939001_1 x939002_1 x939003_1 t941 t942 t943 t944 4) else (tenementlaw15_StreamOnce.j2 kj6 l0 true x5_1 t947 true x939000_1 x939001_1 x939002_1 x939003_1 t941 t942 t943 t944 4)) else (if (IntKind.u64.wrap (1 + (IntKind.u64.wrap (Int.tmod (rd l0 x5_1) 6)))) > (IntKind.u64.wrap (t946 + 1)) then (tenementlaw15_StreamOnce.j2 kj6 l0 true x5_1 t947 true x939000_1 x939001_1 x939002_1 x939003_1 t941 t942 t943 t944 4) else (tenementlaw15_StreamOnce.j2 kj6 l0 true x5_1 t947 false x939000_1 x939001_1 x939002_1 x939003_1 t941 t942 t943 t944 4))))))))) = some r := H
          have A12 := Aside0.mk A120
          clear A120
          replace H := Option.bind_eq_some_iff.mp H
          obtain ⟨t946, A130, H⟩ := H
          replace H : ((stream_Ready.f x939000_1 x939001_1 x939002_1 x939003_1 t941 t942 t943 t944 4).bind fun t947 => (if t947 = 1 then (if (IntKind.u64.wrap (1 + (IntKind.u64.wrap (Int.tmod (rd l0 x5_1) 6)))) = (IntKind.u64.wrap (t946 + 1)) then (if t947 = (-1) then (if (IntKind.u64.wrap (1 + (IntKind.u64.wrap (Int.tmod (rd l0 x5_1) 6)))) ≤ t946 then (if t947 = 0 then (if (IntKind.u64.wrap (1 + (IntKind.u64.wrap (Int.tmod (rd l0 x5_1) 6)))) > (IntKind.u64.wrap (t946 + 1)) then (tenementlaw15_StreamOnce.j2 kj6 l0 true x5_1 t947 false x939000_1 x939001_1 x939002_1 x939003_1 t941 t942 t943 t944 4) else (tenementlaw15_StreamOnce.j2 kj6 l0 true x5_1 t947 true x939000_1 x939001_1 x939002_1 x939003_1 t941 t942 t943 t944 4)) else (if (IntKind.u64.wrap (1 + (IntKind.u64.wrap (Int.tmod (rd l0 x5_1) 6)))) > (IntKind.u64.wrap (t946 + 1)) then (tenementlaw15_StreamOnce.j2 kj6 l0 true x5_1 t947 true x939000_1 x939001_1 x939002_1 x939003_1 t941 t942 t943 t944 4) else (tenementlaw15_StreamOnce.j2 kj6 l0 true x5_1 t947 false x939000_1 x939001_1 x939002_1 x939003_1 t941 t942 t943 t944 4))) else (tenementlaw15_StreamOnce.j2 kj6 l0 true x5_1 t947 true x939000_1 x939001_1 x939002_1 x939003_1 t941 t942 t943 t944 4)) else (if (IntKind.u64.wrap (1 + (IntKind.u64.wrap (Int.tmod (rd l0 x5_1) 6)))) ≤ t946 then (tenementlaw15_StreamOnce.j2 kj6 l0 true x5_1 t947 true x939000_1 x939001_1 x939002_1 x939003_1 t941 t942 t943 t944 4) else (if t947 = 0 then (if (IntKind.u64.wrap (1 + (IntKind.u64.wrap (Int.tmod (rd l0 x5_1) 6)))) > (IntKind.u64.wrap (t946 + 1)) then (tenementlaw15_StreamOnce.j2 kj6 l0 true x5_1 t947 false x939000_1 x939001_1 x939002_1 x939003_1 t941 t942 t943 t944 4) else (tenementlaw15_StreamOnce.j2 kj6 l0 true x5_1 t947 true x939000_1 x939001_1 x939002_1 x939003_1 t941 t942 t943 t944 4)) else (if (IntKind.u64.wrap (1 + (IntKind.u64.wrap (Int.tmod (rd l0 x5_1) 6)))) > (IntKind.u64.wrap (t946 + 1)) then (tenementlaw15_StreamOnce.j2 kj6 l0 true x5_1 t947 true x939000_1 x939001_1 x939002_1 x939003_1 t941 t942 t943 t944 4) else (tenementlaw15_StreamOnce.j2 kj6 l0 true x5_1 t947 false x939000_1 x939001_1 x939002_1 x939003_1 t941 t942 t943 t944 4))))) else (tenementlaw15_StreamOnce.j2 kj6 l0 true x5_1 t947 true x939000_1 x939001_1 x939002_1 x939003_1 t941 t942 t943 t944 4)) else (if (IntKind.u64.wrap (1 + (IntKind.u64.wrap (Int.tmod (rd l0 x5_1) 6)))) = (IntKind.u64.wrap (t946 + 1)) then (tenementlaw15_StreamOnce.j2 kj6 l0 true x5_1 t947 true x939000_1 x939001_1 x939002_1 x939003_1 t941 t942 t943 t944 4) else (if t947 = (-1) then (if (IntKind.u64.wrap (1 + (IntKind.u64.wrap (Int.tmod (rd l0 x5_1) 6)))) ≤ t946 then (if t947 = 0 then (if (IntKind.u64.wrap (1 + (IntKind.u64.wrap (Int.tmod (rd l0 x5_1) 6)))) > (IntKind.u64.wrap (t946 + 1)) then (tenementlaw15_StreamOnce.j2 kj6 l0 true x5_1 t947 false x939000_1 x939001_1 x939002_1 x939003_1 t941 t942 t943 t944 4) else (tenementlaw15_StreamOnce.j2 kj6 l0 true x5_1 t947 true x939000_1 x939001_1 x939002_1 x939003_1 t941 t942 t943 t944 4)) else (if (IntKind.u64.wrap (1 + (IntKind.u64.wrap (Int.tmod (rd l0 x5_1) 6)))) > (IntKind.u64.wrap (t946 + 1)) then (tenementlaw15_StreamOnce.j2 kj6 l0 true x5_1 t947 true x939000_1 x939001_1 x939002_1 x939003_1 t941 t942 t943 t944 4) else (tenementlaw15_StreamOnce.j2 kj6 l0 true x5_1 t947 false x939000_1 x939001_1 x939002_1 x939003_1 t941 t942 t943 t944 4))) else (tenementlaw15_StreamOnce.j2 kj6 l0 true x5_1 t947 true x939000_1 x939001_1 x939002_1 x939003_1 t941 t942 t943 t944 4)) else (if (IntKind.u64.wrap (1 + (IntKind.u64.wrap (Int.tmod (rd l0 x5_1) 6)))) ≤ t946 then (tenementlaw15_StreamOnce.j2 kj6 l0 true x5_1 t947 true x939000_1 x939001_1 x939002_1 x939003_1 t941 t942 t943 t944 4) else (if t947 = 0 then (if (IntKind.u64.wrap (1 + (IntKind.u64.wrap (Int.tmod (rd l0 x5_1) 6)))) > (IntKind.u64.wrap (t946 + 1)) then (tenementlaw15_StreamOnce.j2 kj6 l0 true x5_1 t947 false x939000_1 x939001_1 x939002_1 x939003_1 t941 t942 t943 t944 4) else (tenementlaw15_StreamOnce.j2 kj6 l0 true x5_1 t947 true x939000_1 x939001_1 x939002_1 x939003_1 t941 t942 t943 t944 4)) else (if (IntKind.u64.wrap (1 + (IntKind.u64.wrap (Int.tmod (rd l0 x5_1) 6)))) > (IntKind.u64.wrap (t946 + 1)) then (tenementlaw15_StreamOnce.j2 kj6 l0 true x5_1 t947 true x939000_1 x939001_1 x939002_1 x939003_1 t941 t942 t943 t944 4) else (tenementlaw15_StreamOnce.j2 kj6 l0 true x5_1 t947 false x939000_1 x939001_1 x939002_1 x939003_1 t941 t942 t943 t944 4)))))))) = some r := H
          have A13 := Aside0.mk A130
          clear A130
          replace H := Option.bind_eq_some_iff.mp H
          obtain ⟨t947, A140, H⟩ := H
          replace H : (if t947 = 1 then (if (IntKind.u64.wrap (1 + (IntKind.u64.wrap (Int.tmod (rd l0 x5_1) 6)))) = (IntKind.u64.wrap (t946 + 1)) then (if t947 = (-1) then (if (IntKind.u64.wrap (1 + (IntKind.u64.wrap (Int.tmod (rd l0 x5_1) 6)))) ≤ t946 then (if t947 = 0 then (if (IntKind.u64.wrap (1 + (IntKind.u64.wrap (Int.tmod (rd l0 x5_1) 6)))) > (IntKind.u64.wrap (t946 + 1)) then (tenementlaw15_StreamOnce.j2 kj6 l0 true x5_1 t947 false x939000_1 x939001_1 x939002_1 x939003_1 t941 t942 t943 t944 4) else (tenementlaw15_StreamOnce.j2 kj6 l0 true x5_1 t947 true x939000_1 x939001_1 x939002_1 x939003_1 t941 t942 t943 t944 4)) else (if (IntKind.u64.wrap (1 + (IntKind.u64.wrap (Int.tmod (rd l0 x5_1) 6)))) > (IntKind.u64.wrap (t946 + 1)) then (tenementlaw15_StreamOnce.j2 kj6 l0 true x5_1 t947 true x939000_1 x939001_1 x939002_1 x939003_1 t941 t942 t943 t944 4) else (tenementlaw15_StreamOnce.j2 kj6 l0 true x5_1 t947 false x939000_1 x939001_1 x939002_1 x939003_1 t941 t942 t943 t944 4))) else (tenementlaw15_StreamOnce.j2 kj6 l0 true x5_1 t947 true x939000_1 x939001_1 x939002_1 x939003_1 t941 t942 t943 t944 4)) else (if (IntKind.u64.wrap (1 + (IntKind.u64.wrap (Int.tmod (rd l0 x5_1) 6)))) ≤ t946 then (tenementlaw15_StreamOnce.j2 kj6 l0 true x5_1 t947 true x939000_1 x939001_1 x939002_1 x939003_1 t941 t942 t943 t944 4) else (if t947 = 0 then (if (IntKind.u64.wrap (1 + (IntKind.u64.wrap (Int.tmod (rd l0 x5_1) 6)))) > (IntKind.u64.wrap (t946 + 1)) then (tenementlaw15_StreamOnce.j2 kj6 l0 true x5_1 t947 false x939000_1 x939001_1 x939002_1 x939003_1 t941 t942 t943 t944 4) else (tenementlaw15_StreamOnce.j2 kj6 l0 true x5_1 t947 true x939000_1 x939001_1 x939002_1 x939003_1 t941 t942 t943 t944 4)) else (if (IntKind.u64.wrap (1 + (IntKind.u64.wrap (Int.tmod (rd l0 x5_1) 6)))) > (IntKind.u64.wrap (t946 + 1)) then (tenementlaw15_StreamOnce.j2 kj6 l0 true x5_1 t947 true x939000_1 x939001_1 x939002_1 x939003_1 t941 t942 t943 t944 4) else (tenementlaw15_StreamOnce.j2 kj6 l0 true x5_1 t947 false x939000_1 x939001_1 x939002_1 x939003_1 t941 t942 t943 t944 4))))) else (tenementlaw15_StreamOnce.j2 kj6 l0 true x5_1 t947 true x939000_1 x939001_1 x939002_1 x939003_1 t941 t942 t943 t944 4)) else (if (IntKind.u64.wrap (1 + (IntKind.u64.wrap (Int.tmod (rd l0 x5_1) 6)))) = (IntKind.u64.wrap (t946 + 1)) then (tenementlaw15_StreamOnce.j2 kj6 l0 true x5_1 t947 true x939000_1 x939001_1 x939002_1 x939003_1 t941 t942 t943 t944 4) else (if t947 = (-1) then (if (IntKind.u64.wrap (1 + (IntKind.u64.wrap (Int.tmod (rd l0 x5_1) 6)))) ≤ t946 then (if t947 = 0 then (if (IntKind.u64.wrap (1 + (IntKind.u64.wrap (Int.tmod (rd l0 x5_1) 6)))) > (IntKind.u64.wrap (t946 + 1)) then (tenementlaw15_StreamOnce.j2 kj6 l0 true x5_1 t947 false x939000_1 x939001_1 x939002_1 x939003_1 t941 t942 t943 t944 4) else (tenementlaw15_StreamOnce.j2 kj6 l0 true x5_1 t947 true x939000_1 x939001_1 x939002_1 x939003_1 t941 t942 t943 t944 4)) else (if (IntKind.u64.wrap (1 + (IntKind.u64.wrap (Int.tmod (rd l0 x5_1) 6)))) > (IntKind.u64.wrap (t946 + 1)) then (tenementlaw15_StreamOnce.j2 kj6 l0 true x5_1 t947 true x939000_1 x939001_1 x939002_1 x939003_1 t941 t942 t943 t944 4) else (tenementlaw15_StreamOnce.j2 kj6 l0 true x5_1 t947 false x939000_1 x939001_1 x939002_1 x939003_1 t941 t942 t943 t944 4))) else (tenementlaw15_StreamOnce.j2 kj6 l0 true x5_1 t947 true x939000_1 x939001_1 x939002_1 x939003_1 t941 t942 t943 t944 4)) else (if (IntKind.u64.wrap (1 + (IntKind.u64.wrap (Int.tmod (rd l0 x5_1) 6)))) ≤ t946 then (tenementlaw15_StreamOnce.j2 kj6 l0 true x5_1 t947 true x939000_1 x939001_1 x939002_1 x939003_1 t941 t942 t943 t944 4) else (if t947 = 0 then (if (IntKind.u64.wrap (1 + (IntKind.u64.wrap (Int.tmod (rd l0 x5_1) 6)))) > (IntKind.u64.wrap (t946 + 1)) then (tenementlaw15_StreamOnce.j2 kj6 l0 true x5_1 t947 false x939000_1 x939001_1 x939002_1 x939003_1 t941 t942 t943 t944 4) else (tenementlaw15_StreamOnce.j2 kj6 l0 true x5_1 t947 true x939000_1 x939001_1 x939002_1 x939003_1 t941 t942 t943 t944 4)) else (if (IntKind.u64.wrap (1 + (IntKind.u64.wrap (Int.tmod (rd l0 x5_1) 6)))) > (IntKind.u64.wrap (t946 + 1)) then (tenementlaw15_StreamOnce.j2 kj6 l0 true x5_1 t947 true x939000_1 x939001_1 x939002_1 x939003_1 t941 t942 t943 t944 4) else (tenementlaw15_StreamOnce.j2 kj6 l0 true x5_1 t947 false x939000_1 x939001_1 x939002_1 x939003_1 t941 t942 t943 t944 4))))))) = some r := H
          have A14 := Aside0.mk A140
          clear A140
          have HC15 := Aside0.mk H
          clear H
          have p940 : 0 ≤ (x5_1 : Int) := of_decide_eq_true (by first | (with_reducible assumption) | assumption)
          have q940 : x5_1 < (l0.length : Int) := of_decide_eq_true (by first | (with_reducible assumption) | assumption)
          obtain ⟨ad940, e940, hx940_0⟩ := Kd.at_int HR0.out x5_1 p940 q940
          cases e940
          replace hx940_0 := (HB.out.cell (World.block_lt_of_cell? w _ hx940_0)).trans hx940_0
          replace p940 := eq_true p940
          replace q940 := eq_true q940
          go_upto_region 12 with (first | ((with_reducible refine gate_callee (f := 46) rfl ?_); refine Kg_ (some 33) rfl rfl Try.func46 (by kernel_rfl) rfl #[.agg #[.int .u64 0, .int .u64 0, .int .u64 0, .int .u64 0], .int .i64 4, .int .u64 (IntKind.u64.wrap (1 + (IntKind.u64.wrap (Int.tmod (rd l0 x5_1) 6))))] rfl ?_; (with_reducible refine (vec_With.calls 0 0 0 0 4 (IntKind.u64.wrap (1 + (IntKind.u64.wrap (Int.tmod (rd l0 x5_1) 6)))) t941 t942 t943 t944 _ A12.out).mono ?_); rintro e w16 ⟨rfl, hb⟩; refine ⟨_, rfl, ?_⟩; replace BK938 := Kb_ BK938 hb; replace HB := Ks_ HB hb; (try clear hb); (try clear hb2); (try clear hk); (try clear hi)) | ((with_reducible refine gate_dst (N := 7) rfl ?_); refine Ka_ 7 #[.int .u64 0, .int .u64 0, .int .u64 0, .int .u64 0, .int .i64 0] 30 ?_; intro gb945 hg w17 hbox hb; have BK945 := Aside0.mk (hbox); have GW945 := Kw_ HB hg; have GE945 := GW945; have NB938_945 := Kl_ BK938 hg; have NB945_938 := Kr_ BK938 hg; replace BK938 := Kb_ BK938 hb; replace HB := Ks_ HB hb; clear hb hbox hg; have hnb18 := NB945_938.out; have hnc18 := NB938_945.out; obtain ⟨hcz19_0, hcz19_1, hcz19_2, hcz19_3, hcz19_4, hfz19_0, hfz19_1, hfz19_2, hfz19_3, hfz19_4⟩ := Ke5_ BK945.out; obtain ⟨hcz20_0, hcz20_1, hcz20_2, hcz20_3, hfz20_0, hfz20_1, hfz20_2, hfz20_3⟩ := Ke4_ BK938.out) | ((with_reducible refine gate_callee (f := 48) rfl ?_); refine Kg_ (some 36) rfl rfl Try.func48 (by kernel_rfl) rfl #[.agg #[.int .u64 x939000_1, .int .u64 x939001_1, .int .u64 x939002_1, .int .u64 x939003_1], .int .i64 4] rfl ?_; (with_reducible refine (vec_At.calls x939000_1 x939001_1 x939002_1 x939003_1 4 t946 _ A13.out).mono ?_); rintro e w21 ⟨rfl, hb⟩; refine ⟨_, rfl, ?_⟩; replace BK938 := Kf_ BK938 NB938_945 hb; replace BK945 := Aside0.mk (blk_below (g := gb945) (o := .cells #[.int .u64 t941, .int .u64 t942, .int .u64 t943, .int .u64 t944, .int .i64 4] 30 (0, 0)) (by refine Kv_ ?_; refine blk_put (cs := #[.int .u64 t941, .int .u64 t942, .int .u64 t943, .int .u64 t944, .int .i64 0]) ?_ 4 _ rfl; refine Kv_ ?_; refine blk_put (cs := #[.int .u64 t941, .int .u64 t942, .int .u64 t943, .int .u64 0, .int .i64 0]) ?_ 3 _ rfl; refine Kv_ ?_; refine blk_put (cs := #[.int .u64 t941, .int .u64 t942, .int .u64 0, .int .u64 0, .int .i64 0]) ?_ 2 _ rfl; refine Kv_ ?_; refine blk_put (cs := #[.int .u64 t941, .int .u64 0, .int .u64 0, .int .u64 0, .int .i64 0]) ?_ 1 _ rfl; refine Kv_ ?_; refine blk_put (cs := #[.int .u64 0, .int .u64 0, .int .u64 0, .int .u64 0, .int .i64 0]) ?_ 0 _ rfl; exact Kq_ BK945) hb); replace HB := Kt_ HB GE945 hb; (try clear hb); (try clear hb2); (try clear hk); (try clear hi); obtain ⟨hcz22_0, hcz22_1, hcz22_2, hcz22_3, hfz22_0, hfz22_1, hfz22_2, hfz22_3⟩ := Ke4_ BK938.out; obtain ⟨hcz23_0, hcz23_1, hcz23_2, hcz23_3, hcz23_4, hfz23_0, hfz23_1, hfz23_2, hfz23_3, hfz23_4⟩ := Ke5_ BK945.out) | ((with_reducible refine gate_callee (f := 30) rfl ?_); refine Kg_ (some 39) rfl rfl Try.func30 (by kernel_rfl) rfl #[.agg #[.int .u64 x939000_1, .int .u64 x939001_1, .int .u64 x939002_1, .int .u64 x939003_1], .agg #[.int .u64 t941, .int .u64 t942, .int .u64 t943, .int .u64 t944, .int .i64 4]] rfl ?_; (with_reducible refine (stream_Ready.calls x939000_1 x939001_1 x939002_1 x939003_1 t941 t942 t943 t944 4 t947 _ A14.out).mono ?_); rintro e w24 ⟨rfl, hb⟩; refine ⟨_, rfl, ?_⟩; replace BK938 := Kb_ BK938 hb; replace BK945 := Kb_ BK945 hb; replace HB := Ks_ HB hb; (try clear hb); (try clear hb2); (try clear hk); (try clear hi)))
          (try simp only [Act.put, List.setIfInBounds_toArray, List.set_cons_zero, List.set_cons_succ])
          go_cut [63] (fun v63 wc => ∃ (kq : Nat) (x63_14 : Bool), v63 = .bool x63_14 ∧ Aside0 (tenementlaw15_StreamOnce.j2 kq l0 true x5_1 t947 x63_14 x939000_1 x939001_1 x939002_1 x939003_1 t941 t942 t943 t944 4 = some r) ∧ Aside0 (kq ≤ kj6) ∧ Aside0 (wc.heap[gb938]? = some (.cells #[.int .u64 x939000_1, .int .u64 x939001_1, .int .u64 x939002_1, .int .u64 x939003_1] 28 (0, 0))) ∧ Aside0 (wc.heap[gb945]? = some (.cells #[.int .u64 t941, .int .u64 t942, .int .u64 t943, .int .u64 t944, .int .i64 4] 30 (0, 0))) ∧ Aside0 (Below w.heap.size w wc))
          case first =>
            have H := HC15.out
            clear HC15
            by_cases c25 : t947 = 1
            rotate_left
            · rw [if_neg c25] at H
              have c25b0 : (t947 == 1) = false := beq_eq_false_iff_ne.mpr c25
              have c25b1 : (t947 != 1) = true := bne_iff_ne.mpr c25
              (first | rw [c25b0] | (simp only [i64_w, i32_w]; rw [c25b0]) | skip)
              by_cases c36 : (IntKind.u64.wrap (1 + (IntKind.u64.wrap (Int.tmod (rd l0 x5_1) 6)))) = (IntKind.u64.wrap (t946 + 1))
              · rw [if_pos c36] at H
                have c36b0 : ((IntKind.u64.wrap (1 + (IntKind.u64.wrap (Int.tmod (rd l0 x5_1) 6)))) == (IntKind.u64.wrap (t946 + 1))) = true := beq_iff_eq.mpr c36
                have c36b1 : ((IntKind.u64.wrap (1 + (IntKind.u64.wrap (Int.tmod (rd l0 x5_1) 6)))) != (IntKind.u64.wrap (t946 + 1))) = false := bne_eq_false_iff_eq.mpr c36
                clear c36
                have H' := Aside0.mk H
                clear H
                go_wp2
                go_meet
                case rel => exact ⟨_, (true), (by first | rfl | (simp; done) | (simp [*]; done)), H', ⟨by have := HK1.out; have := HJ6.out; first | omega | exact Nat.le_refl _⟩, ⟨by exact Kq_ BK938⟩, ⟨by exact Kq_ BK945⟩, ⟨K2a_ HB GE938 GE945⟩⟩
              rw [if_neg c36] at H
              have c36b0 : ((IntKind.u64.wrap (1 + (IntKind.u64.wrap (Int.tmod (rd l0 x5_1) 6)))) == (IntKind.u64.wrap (t946 + 1))) = false := beq_eq_false_iff_ne.mpr c36
              have c36b1 : ((IntKind.u64.wrap (1 + (IntKind.u64.wrap (Int.tmod (rd l0 x5_1) 6)))) != (IntKind.u64.wrap (t946 + 1))) = true := bne_iff_ne.mpr c36
              by_cases c37 : t947 = (-1)
              rotate_left
              · rw [if_neg c37] at H
                have c37b0 : (t947 == (-1)) = false := beq_eq_false_iff_ne.mpr c37
                have c37b1 : (t947 != (-1)) = true := bne_iff_ne.mpr c37
                by_cases c42 : (IntKind.u64.wrap (1 + (IntKind.u64.wrap (Int.tmod (rd l0 x5_1) 6)))) ≤ t946
                · rw [if_pos c42] at H
                  have c42b0 : decide ((IntKind.u64.wrap (1 + (IntKind.u64.wrap (Int.tmod (rd l0 x5_1) 6)))) ≤ t946) = true := decide_eq_true c42
                  clear c42
                  have H' := Aside0.mk H
                  clear H
                  go_wp2
                  go_meet
                  case rel => exact ⟨_, (true), (by first | rfl | (simp; done) | (simp [*]; done)), H', ⟨by have := HK1.out; have := HJ6.out; first | omega | exact Nat.le_refl _⟩, ⟨by exact Kq_ BK938⟩, ⟨by exact Kq_ BK945⟩, ⟨K2a_ HB GE938 GE945⟩⟩
                rw [if_neg c42] at H
                have c42b0 : decide ((IntKind.u64.wrap (1 + (IntKind.u64.wrap (Int.tmod (rd l0 x5_1) 6)))) ≤ t946) = false := decide_eq_false c42
                clear c42
                by_cases c43 : t947 = 0
                rotate_left
                · rw [if_neg c43] at H
                  have c43b0 : (t947 == 0) = false := beq_eq_false_iff_ne.mpr c43
                  have c43b1 : (t947 != 0) = true := bne_iff_ne.mpr c43
                  by_cases c45 : (IntKind.u64.wrap (1 + (IntKind.u64.wrap (Int.tmod (rd l0 x5_1) 6)))) > (IntKind.u64.wrap (t946 + 1))
                  · rw [if_pos c45] at H
                    have c45b0 : decide ((IntKind.u64.wrap (t946 + 1)) < (IntKind.u64.wrap (1 + (IntKind.u64.wrap (Int.tmod (rd l0 x5_1) 6))))) = true := decide_eq_true c45
                    clear c45
                    have H' := Aside0.mk H
                    clear H
                    go_wp2
                    go_meet
                    case rel => exact ⟨_, (true), (by first | rfl | (simp; done) | (simp [*]; done)), H', ⟨by have := HK1.out; have := HJ6.out; first | omega | exact Nat.le_refl _⟩, ⟨by exact Kq_ BK938⟩, ⟨by exact Kq_ BK945⟩, ⟨K2a_ HB GE938 GE945⟩⟩
                  rw [if_neg c45] at H
                  have c45b0 : decide ((IntKind.u64.wrap (t946 + 1)) < (IntKind.u64.wrap (1 + (IntKind.u64.wrap (Int.tmod (rd l0 x5_1) 6))))) = false := decide_eq_false c45
                  clear c45
                  have H' := Aside0.mk H
                  clear H
                  go_wp2
                  go_meet
                  case rel => exact ⟨_, (false), (by first | rfl | (simp; done) | (simp [*]; done)), H', ⟨by have := HK1.out; have := HJ6.out; first | omega | exact Nat.le_refl _⟩, ⟨by exact Kq_ BK938⟩, ⟨by exact Kq_ BK945⟩, ⟨K2a_ HB GE938 GE945⟩⟩
                rw [if_pos c43] at H
                have c43b0 : (t947 == 0) = true := beq_iff_eq.mpr c43
                have c43b1 : (t947 != 0) = false := bne_eq_false_iff_eq.mpr c43
                clear c43
                by_cases c44 : (IntKind.u64.wrap (1 + (IntKind.u64.wrap (Int.tmod (rd l0 x5_1) 6)))) > (IntKind.u64.wrap (t946 + 1))
                · rw [if_pos c44] at H
                  have c44b0 : decide ((IntKind.u64.wrap (t946 + 1)) < (IntKind.u64.wrap (1 + (IntKind.u64.wrap (Int.tmod (rd l0 x5_1) 6))))) = true := decide_eq_true c44
                  clear c44
                  have H' := Aside0.mk H
                  clear H
                  go_wp2
                  go_meet
                  case rel => exact ⟨_, (false), (by first | rfl | (simp; done) | (simp [*]; done)), H', ⟨by have := HK1.out; have := HJ6.out; first | omega | exact Nat.le_refl _⟩, ⟨by exact Kq_ BK938⟩, ⟨by exact Kq_ BK945⟩, ⟨K2a_ HB GE938 GE945⟩⟩
                rw [if_neg c44] at H
                have c44b0 : decide ((IntKind.u64.wrap (t946 + 1)) < (IntKind.u64.wrap (1 + (IntKind.u64.wrap (Int.tmod (rd l0 x5_1) 6))))) = false := decide_eq_false c44
                clear c44
                have H' := Aside0.mk H
                clear H
                go_wp2
                go_meet
                case rel => exact ⟨_, (true), (by first | rfl | (simp; done) | (simp [*]; done)), H', ⟨by have := HK1.out; have := HJ6.out; first | omega | exact Nat.le_refl _⟩, ⟨by exact Kq_ BK938⟩, ⟨by exact Kq_ BK945⟩, ⟨K2a_ HB GE938 GE945⟩⟩
              rw [if_pos c37] at H
              have c37b0 : (t947 == (-1)) = true := beq_iff_eq.mpr c37
              have c37b1 : (t947 != (-1)) = false := bne_eq_false_iff_eq.mpr c37
              clear c37
              by_cases c38 : (IntKind.u64.wrap (1 + (IntKind.u64.wrap (Int.tmod (rd l0 x5_1) 6)))) ≤ t946
              rotate_left
              · rw [if_neg c38] at H
                have c38b0 : decide ((IntKind.u64.wrap (1 + (IntKind.u64.wrap (Int.tmod (rd l0 x5_1) 6)))) ≤ t946) = false := decide_eq_false c38
                clear c38
                have H' := Aside0.mk H
                clear H
                go_wp2
                go_meet
                case rel => exact ⟨_, (true), (by first | rfl | (simp; done) | (simp [*]; done)), H', ⟨by have := HK1.out; have := HJ6.out; first | omega | exact Nat.le_refl _⟩, ⟨by exact Kq_ BK938⟩, ⟨by exact Kq_ BK945⟩, ⟨K2a_ HB GE938 GE945⟩⟩
              rw [if_pos c38] at H
              have c38b0 : decide ((IntKind.u64.wrap (1 + (IntKind.u64.wrap (Int.tmod (rd l0 x5_1) 6)))) ≤ t946) = true := decide_eq_true c38
              clear c38
              by_cases c39 : t947 = 0
              rotate_left
              · rw [if_neg c39] at H
                have c39b0 : (t947 == 0) = false := beq_eq_false_iff_ne.mpr c39
                have c39b1 : (t947 != 0) = true := bne_iff_ne.mpr c39
                by_cases c41 : (IntKind.u64.wrap (1 + (IntKind.u64.wrap (Int.tmod (rd l0 x5_1) 6)))) > (IntKind.u64.wrap (t946 + 1))
                · rw [if_pos c41] at H
                  have c41b0 : decide ((IntKind.u64.wrap (t946 + 1)) < (IntKind.u64.wrap (1 + (IntKind.u64.wrap (Int.tmod (rd l0 x5_1) 6))))) = true := decide_eq_true c41
                  clear c41
                  have H' := Aside0.mk H
                  clear H
                  go_wp2
                  go_meet
                  case rel => exact ⟨_, (true), (by first | rfl | (simp; done) | (simp [*]; done)), H', ⟨by have := HK1.out; have := HJ6.out; first | omega | exact Nat.le_refl _⟩, ⟨by exact Kq_ BK938⟩, ⟨by exact Kq_ BK945⟩, ⟨K2a_ HB GE938 GE945⟩⟩
                rw [if_neg c41] at H
                have c41b0 : decide ((IntKind.u64.wrap (t946 + 1)) < (IntKind.u64.wrap (1 + (IntKind.u64.wrap (Int.tmod (rd l0 x5_1) 6))))) = false := decide_eq_false c41
                clear c41
                have H' := Aside0.mk H
                clear H
                go_wp2
                go_meet
                case rel => exact ⟨_, (false), (by first | rfl | (simp; done) | (simp [*]; done)), H', ⟨by have := HK1.out; have := HJ6.out; first | omega | exact Nat.le_refl _⟩, ⟨by exact Kq_ BK938⟩, ⟨by exact Kq_ BK945⟩, ⟨K2a_ HB GE938 GE945⟩⟩
              rw [if_pos c39] at H
              have c39b0 : (t947 == 0) = true := beq_iff_eq.mpr c39
              have c39b1 : (t947 != 0) = false := bne_eq_false_iff_eq.mpr c39
              clear c39
              by_cases c40 : (IntKind.u64.wrap (1 + (IntKind.u64.wrap (Int.tmod (rd l0 x5_1) 6)))) > (IntKind.u64.wrap (t946 + 1))
              · rw [if_pos c40] at H
                have c40b0 : decide ((IntKind.u64.wrap (t946 + 1)) < (IntKind.u64.wrap (1 + (IntKind.u64.wrap (Int.tmod (rd l0 x5_1) 6))))) = true := decide_eq_true c40
                clear c40
                have H' := Aside0.mk H
                clear H
                go_wp2
                go_meet
                case rel => exact ⟨_, (false), (by first | rfl | (simp; done) | (simp [*]; done)), H', ⟨by have := HK1.out; have := HJ6.out; first | omega | exact Nat.le_refl _⟩, ⟨by exact Kq_ BK938⟩, ⟨by exact Kq_ BK945⟩, ⟨K2a_ HB GE938 GE945⟩⟩
              rw [if_neg c40] at H
              have c40b0 : decide ((IntKind.u64.wrap (t946 + 1)) < (IntKind.u64.wrap (1 + (IntKind.u64.wrap (Int.tmod (rd l0 x5_1) 6))))) = false := decide_eq_false c40
              clear c40
              have H' := Aside0.mk H
              clear H
              go_wp2
              go_meet
              case rel => exact ⟨_, (true), (by first | rfl | (simp; done) | (simp [*]; done)), H', ⟨by have := HK1.out; have := HJ6.out; first | omega | exact Nat.le_refl _⟩, ⟨by exact Kq_ BK938⟩, ⟨by exact Kq_ BK945⟩, ⟨K2a_ HB GE938 GE945⟩⟩
            rw [if_pos c25] at H
            have c25b0 : (t947 == 1) = true := beq_iff_eq.mpr c25
            have c25b1 : (t947 != 1) = false := bne_eq_false_iff_eq.mpr c25
            clear c25
            (first | rw [c25b0] | (simp only [i64_w, i32_w]; rw [c25b0]) | skip)
            by_cases c26 : (IntKind.u64.wrap (1 + (IntKind.u64.wrap (Int.tmod (rd l0 x5_1) 6)))) = (IntKind.u64.wrap (t946 + 1))
            rotate_left
            · rw [if_neg c26] at H
              have c26b0 : ((IntKind.u64.wrap (1 + (IntKind.u64.wrap (Int.tmod (rd l0 x5_1) 6)))) == (IntKind.u64.wrap (t946 + 1))) = false := beq_eq_false_iff_ne.mpr c26
              have c26b1 : ((IntKind.u64.wrap (1 + (IntKind.u64.wrap (Int.tmod (rd l0 x5_1) 6)))) != (IntKind.u64.wrap (t946 + 1))) = true := bne_iff_ne.mpr c26
              have H' := Aside0.mk H
              clear H
              go_wp2
              go_meet
              case rel => exact ⟨_, (true), (by first | rfl | (simp; done) | (simp [*]; done)), H', ⟨by have := HK1.out; have := HJ6.out; first | omega | exact Nat.le_refl _⟩, ⟨by exact Kq_ BK938⟩, ⟨by exact Kq_ BK945⟩, ⟨K2a_ HB GE938 GE945⟩⟩
            rw [if_pos c26] at H
            have c26b0 : ((IntKind.u64.wrap (1 + (IntKind.u64.wrap (Int.tmod (rd l0 x5_1) 6)))) == (IntKind.u64.wrap (t946 + 1))) = true := beq_iff_eq.mpr c26
            have c26b1 : ((IntKind.u64.wrap (1 + (IntKind.u64.wrap (Int.tmod (rd l0 x5_1) 6)))) != (IntKind.u64.wrap (t946 + 1))) = false := bne_eq_false_iff_eq.mpr c26
            clear c26
            by_cases c27 : t947 = (-1)
            rotate_left
            · rw [if_neg c27] at H
              have c27b0 : (t947 == (-1)) = false := beq_eq_false_iff_ne.mpr c27
              have c27b1 : (t947 != (-1)) = true := bne_iff_ne.mpr c27
              by_cases c32 : (IntKind.u64.wrap (1 + (IntKind.u64.wrap (Int.tmod (rd l0 x5_1) 6)))) ≤ t946
              · rw [if_pos c32] at H
                have c32b0 : decide ((IntKind.u64.wrap (1 + (IntKind.u64.wrap (Int.tmod (rd l0 x5_1) 6)))) ≤ t946) = true := decide_eq_true c32
                clear c32
                have H' := Aside0.mk H
                clear H
                go_wp2
                go_meet
                case rel => exact ⟨_, (true), (by first | rfl | (simp; done) | (simp [*]; done)), H', ⟨by have := HK1.out; have := HJ6.out; first | omega | exact Nat.le_refl _⟩, ⟨by exact Kq_ BK938⟩, ⟨by exact Kq_ BK945⟩, ⟨K2a_ HB GE938 GE945⟩⟩
              rw [if_neg c32] at H
              have c32b0 : decide ((IntKind.u64.wrap (1 + (IntKind.u64.wrap (Int.tmod (rd l0 x5_1) 6)))) ≤ t946) = false := decide_eq_false c32
              clear c32
              by_cases c33 : t947 = 0
              rotate_left
              · rw [if_neg c33] at H
                have c33b0 : (t947 == 0) = false := beq_eq_false_iff_ne.mpr c33
                have c33b1 : (t947 != 0) = true := bne_iff_ne.mpr c33
                by_cases c35 : (IntKind.u64.wrap (1 + (IntKind.u64.wrap (Int.tmod (rd l0 x5_1) 6)))) > (IntKind.u64.wrap (t946 + 1))
                · rw [if_pos c35] at H
                  have c35b0 : decide ((IntKind.u64.wrap (t946 + 1)) < (IntKind.u64.wrap (1 + (IntKind.u64.wrap (Int.tmod (rd l0 x5_1) 6))))) = true := decide_eq_true c35
                  clear c35
                  have H' := Aside0.mk H
                  clear H
                  go_wp2
                  go_meet
                  case rel => exact ⟨_, (true), (by first | rfl | (simp; done) | (simp [*]; done)), H', ⟨by have := HK1.out; have := HJ6.out; first | omega | exact Nat.le_refl _⟩, ⟨by exact Kq_ BK938⟩, ⟨by exact Kq_ BK945⟩, ⟨K2a_ HB GE938 GE945⟩⟩
                rw [if_neg c35] at H
                have c35b0 : decide ((IntKind.u64.wrap (t946 + 1)) < (IntKind.u64.wrap (1 + (IntKind.u64.wrap (Int.tmod (rd l0 x5_1) 6))))) = false := decide_eq_false c35
                clear c35
                have H' := Aside0.mk H
                clear H
                go_wp2
                go_meet
                case rel => exact ⟨_, (false), (by first | rfl | (simp; done) | (simp [*]; done)), H', ⟨by have := HK1.out; have := HJ6.out; first | omega | exact Nat.le_refl _⟩, ⟨by exact Kq_ BK938⟩, ⟨by exact Kq_ BK945⟩, ⟨K2a_ HB GE938 GE945⟩⟩
              rw [if_pos c33] at H
              have c33b0 : (t947 == 0) = true := beq_iff_eq.mpr c33
              have c33b1 : (t947 != 0) = false := bne_eq_false_iff_eq.mpr c33
              clear c33
              by_cases c34 : (IntKind.u64.wrap (1 + (IntKind.u64.wrap (Int.tmod (rd l0 x5_1) 6)))) > (IntKind.u64.wrap (t946 + 1))
              · rw [if_pos c34] at H
                have c34b0 : decide ((IntKind.u64.wrap (t946 + 1)) < (IntKind.u64.wrap (1 + (IntKind.u64.wrap (Int.tmod (rd l0 x5_1) 6))))) = true := decide_eq_true c34
                clear c34
                have H' := Aside0.mk H
                clear H
                go_wp2
                go_meet
                case rel => exact ⟨_, (false), (by first | rfl | (simp; done) | (simp [*]; done)), H', ⟨by have := HK1.out; have := HJ6.out; first | omega | exact Nat.le_refl _⟩, ⟨by exact Kq_ BK938⟩, ⟨by exact Kq_ BK945⟩, ⟨K2a_ HB GE938 GE945⟩⟩
              rw [if_neg c34] at H
              have c34b0 : decide ((IntKind.u64.wrap (t946 + 1)) < (IntKind.u64.wrap (1 + (IntKind.u64.wrap (Int.tmod (rd l0 x5_1) 6))))) = false := decide_eq_false c34
              clear c34
              have H' := Aside0.mk H
              clear H
              go_wp2
              go_meet
              case rel => exact ⟨_, (true), (by first | rfl | (simp; done) | (simp [*]; done)), H', ⟨by have := HK1.out; have := HJ6.out; first | omega | exact Nat.le_refl _⟩, ⟨by exact Kq_ BK938⟩, ⟨by exact Kq_ BK945⟩, ⟨K2a_ HB GE938 GE945⟩⟩
            rw [if_pos c27] at H
            have c27b0 : (t947 == (-1)) = true := beq_iff_eq.mpr c27
            have c27b1 : (t947 != (-1)) = false := bne_eq_false_iff_eq.mpr c27
            clear c27
            by_cases c28 : (IntKind.u64.wrap (1 + (IntKind.u64.wrap (Int.tmod (rd l0 x5_1) 6)))) ≤ t946
            rotate_left
            · rw [if_neg c28] at H
              have c28b0 : decide ((IntKind.u64.wrap (1 + (IntKind.u64.wrap (Int.tmod (rd l0 x5_1) 6)))) ≤ t946) = false := decide_eq_false c28
              clear c28
              have H' := Aside0.mk H
              clear H
              go_wp2
              go_meet
              case rel => exact ⟨_, (true), (by first | rfl | (simp; done) | (simp [*]; done)), H', ⟨by have := HK1.out; have := HJ6.out; first | omega | exact Nat.le_refl _⟩, ⟨by exact Kq_ BK938⟩, ⟨by exact Kq_ BK945⟩, ⟨K2a_ HB GE938 GE945⟩⟩
            rw [if_pos c28] at H
            have c28b0 : decide ((IntKind.u64.wrap (1 + (IntKind.u64.wrap (Int.tmod (rd l0 x5_1) 6)))) ≤ t946) = true := decide_eq_true c28
            clear c28
            by_cases c29 : t947 = 0
            rotate_left
            · rw [if_neg c29] at H
              have c29b0 : (t947 == 0) = false := beq_eq_false_iff_ne.mpr c29
              have c29b1 : (t947 != 0) = true := bne_iff_ne.mpr c29
              by_cases c31 : (IntKind.u64.wrap (1 + (IntKind.u64.wrap (Int.tmod (rd l0 x5_1) 6)))) > (IntKind.u64.wrap (t946 + 1))
              · rw [if_pos c31] at H
                have c31b0 : decide ((IntKind.u64.wrap (t946 + 1)) < (IntKind.u64.wrap (1 + (IntKind.u64.wrap (Int.tmod (rd l0 x5_1) 6))))) = true := decide_eq_true c31
                clear c31
                have H' := Aside0.mk H
                clear H
                go_wp2
                go_meet
                case rel => exact ⟨_, (true), (by first | rfl | (simp; done) | (simp [*]; done)), H', ⟨by have := HK1.out; have := HJ6.out; first | omega | exact Nat.le_refl _⟩, ⟨by exact Kq_ BK938⟩, ⟨by exact Kq_ BK945⟩, ⟨K2a_ HB GE938 GE945⟩⟩
              rw [if_neg c31] at H
              have c31b0 : decide ((IntKind.u64.wrap (t946 + 1)) < (IntKind.u64.wrap (1 + (IntKind.u64.wrap (Int.tmod (rd l0 x5_1) 6))))) = false := decide_eq_false c31
              clear c31
              have H' := Aside0.mk H
              clear H
              go_wp2
              go_meet
              case rel => exact ⟨_, (false), (by first | rfl | (simp; done) | (simp [*]; done)), H', ⟨by have := HK1.out; have := HJ6.out; first | omega | exact Nat.le_refl _⟩, ⟨by exact Kq_ BK938⟩, ⟨by exact Kq_ BK945⟩, ⟨K2a_ HB GE938 GE945⟩⟩
            rw [if_pos c29] at H
            have c29b0 : (t947 == 0) = true := beq_iff_eq.mpr c29
            have c29b1 : (t947 != 0) = false := bne_eq_false_iff_eq.mpr c29
            clear c29
            by_cases c30 : (IntKind.u64.wrap (1 + (IntKind.u64.wrap (Int.tmod (rd l0 x5_1) 6)))) > (IntKind.u64.wrap (t946 + 1))
            · rw [if_pos c30] at H
              have c30b0 : decide ((IntKind.u64.wrap (t946 + 1)) < (IntKind.u64.wrap (1 + (IntKind.u64.wrap (Int.tmod (rd l0 x5_1) 6))))) = true := decide_eq_true c30
              clear c30
              have H' := Aside0.mk H
              clear H
              go_wp2
              go_meet
              case rel => exact ⟨_, (false), (by first | rfl | (simp; done) | (simp [*]; done)), H', ⟨by have := HK1.out; have := HJ6.out; first | omega | exact Nat.le_refl _⟩, ⟨by exact Kq_ BK938⟩, ⟨by exact Kq_ BK945⟩, ⟨K2a_ HB GE938 GE945⟩⟩
            rw [if_neg c30] at H
            have c30b0 : decide ((IntKind.u64.wrap (t946 + 1)) < (IntKind.u64.wrap (1 + (IntKind.u64.wrap (Int.tmod (rd l0 x5_1) 6))))) = false := decide_eq_false c30
            clear c30
            have H' := Aside0.mk H
            clear H
            go_wp2
            go_meet
            case rel => exact ⟨_, (true), (by first | rfl | (simp; done) | (simp [*]; done)), H', ⟨by have := HK1.out; have := HJ6.out; first | omega | exact Nat.le_refl _⟩, ⟨by exact Kq_ BK938⟩, ⟨by exact Kq_ BK945⟩, ⟨K2a_ HB GE938 GE945⟩⟩
          case rest =>
            clear HC15
            try clear c1
            try clear c2
            try clear p2
            try clear c3
            try clear c4
            try clear c8
            try clear c8b0
            try clear c9
            try clear p9
            try clear q9
            try clear hx9
            try clear c10
            try clear c10b0
            try clear c11
            try clear c11b0
            try clear c18
            try clear c25
            try clear c25b0
            try clear c25b1
            try clear c26
            try clear c26b0
            try clear c26b1
            try clear c27
            try clear c27b0
            try clear c27b1
            try clear c28
            try clear c28b0
            try clear c29
            try clear c29b0
            try clear c29b1
            try clear c30
            try clear c30b0
            try clear c31
            try clear c31b0
            try clear c32
            try clear c32b0
            try clear c33
            try clear c33b0
            try clear c33b1
            try clear c34
            try clear c34b0
            try clear c35
            try clear c35b0
            try clear c36
            try clear c36b0
            try clear c36b1
            try clear c37
            try clear c37b0
            try clear c37b1
            try clear c38
            try clear c38b0
            try clear c39
            try clear c39b0
            try clear c39b1
            try clear c40
            try clear c40b0
            try clear c41
            try clear c41b0
            try clear c42
            try clear c42b0
            try clear c43
            try clear c43b0
            try clear c43b1
            try clear c44
            try clear c44b0
            try clear c45
            try clear c45b0
            try clear hcz19_0
            try clear hcz19_1
            try clear hcz19_2
            try clear hcz19_3
            try clear hcz19_4
            try clear hcz20_0
            try clear hcz20_1
            try clear hcz20_2
            try clear hcz20_3
            try clear hcz22_0
            try clear hcz22_1
            try clear hcz22_2
            try clear hcz22_3
            try clear hcz23_0
            try clear hcz23_1
            try clear hcz23_2
            try clear hcz23_3
            try clear hcz23_4
            try clear hcz6_0
            try clear hcz6_1
            try clear hcz6_2
            try clear hcz6_3
            try clear hfz19_0
            try clear hfz19_1
            try clear hfz19_2
            try clear hfz19_3
            try clear hfz19_4
            try clear hfz20_0
            try clear hfz20_1
            try clear hfz20_2
            try clear hfz20_3
            try clear hfz22_0
            try clear hfz22_1
            try clear hfz22_2
            try clear hfz22_3
            try clear hfz23_0
            try clear hfz23_1
            try clear hfz23_2
            try clear hfz23_3
            try clear hfz23_4
            try clear hfz6_0
            try clear hfz6_1
            try clear hfz6_2
            try clear hfz6_3
            try clear hx940_0
            try clear p2
            try clear p940
            try clear q940
            obtain ⟨kq, x63_14, rfl, HA, HJ14, BK938, BK945, HB⟩ := hcut
            cases kq with
            | zero => exact absurd HA.out (by simp [tenementlaw15_StreamOnce.j2])
            | succ kj14 =>
              have H := HA.out
              clear HA
              simp only [tenementlaw15_StreamOnce.j2] at H
              by_cases c46 : x63_14 = true
              · subst c46
                have H1 : (none) = some r := by rw [if_pos rfl] at H; exact H
                clear H
                have H := H1
                clear H1
                exact absurd H (by simp)
              replace c46 := Bool.eq_false_iff.mpr c46
              subst c46
              have H1 : (if t947 = 1 then ((vec_Join.f x939000_1 x939001_1 x939002_1 x939003_1 t941 t942 t943 t944).bind fun bt948 => (tenementlaw15_StreamOnce.l0 kj14 l0 true (wrap64 (x5_1 + 1)) bt948.1 bt948.2.1 bt948.2.2.1 bt948.2.2.2)) else (tenementlaw15_StreamOnce.l0 kj14 l0 true (wrap64 (x5_1 + 1)) x939000_1 x939001_1 x939002_1 x939003_1)) = some r := by rw [if_neg (show ¬ (false = true) by decide)] at H; exact H
              clear H
              have H := H1
              clear H1
              by_cases c47 : t947 = 1
              rotate_left
              · rw [if_neg c47] at H
                have c47b0 : (t947 == 1) = false := beq_eq_false_iff_ne.mpr c47
                have c47b1 : (t947 != 1) = true := bne_iff_ne.mpr c47
                have H' := Aside0.mk H
                clear H
                go_wp2
                go_roundg kj14
                case measure => have := HK1.out; have := HJ6.out; have := HJ14.out; omega
                case rel => exact ⟨(wrap64 (x5_1 + 1)), (x939000_1), (x939001_1), (x939002_1), (x939003_1), (by first | rfl | (simp; done) | (simp [*]; done)), H', ⟨by have := HK1.out; have := HJ6.out; have := HJ14.out; omega⟩, ⟨by exact Kq_ BK938⟩, ⟨K2a_ HB GE938 GE945⟩⟩
              rw [if_pos c47] at H
              have c47b0 : (t947 == 1) = true := beq_iff_eq.mpr c47
              have c47b1 : (t947 != 1) = false := bne_eq_false_iff_eq.mpr c47
              clear c47
              replace H := Option.bind_eq_some_iff.mp H
              obtain ⟨⟨t948, t949, t950, t951⟩, A480, H⟩ := H
              replace H : (tenementlaw15_StreamOnce.l0 kj14 l0 true (wrap64 (x5_1 + 1)) t948 t949 t950 t951) = some r := H
              have A48 := Aside0.mk A480
              clear A480
              have H' := Aside0.mk H
              clear H
              have hnb49 := NB938_945.out
              have hnc49 := NB945_938.out
              obtain ⟨hcz50_0, hcz50_1, hcz50_2, hcz50_3, hfz50_0, hfz50_1, hfz50_2, hfz50_3⟩ := Ke4_ BK938.out
              obtain ⟨hcz51_0, hcz51_1, hcz51_2, hcz51_3, hcz51_4, hfz51_0, hfz51_1, hfz51_2, hfz51_3, hfz51_4⟩ := Ke5_ BK945.out
              go_wp2_with (first | ((with_reducible refine gate_callee (f := 45) rfl ?_); refine Kg_ (some 69) rfl rfl Try.func45 (by kernel_rfl) rfl #[.agg #[.int .u64 x939000_1, .int .u64 x939001_1, .int .u64 x939002_1, .int .u64 x939003_1], .agg #[.int .u64 t941, .int .u64 t942, .int .u64 t943, .int .u64 t944]] rfl ?_; (with_reducible refine (vec_Join.calls x939000_1 x939001_1 x939002_1 x939003_1 t941 t942 t943 t944 t948 t949 t950 t951 _ A48.out).mono ?_); rintro e w52 ⟨rfl, hb⟩; refine ⟨_, rfl, ?_⟩; replace BK938 := Kb_ BK938 hb; replace BK945 := Kb_ BK945 hb; replace HB := Ks_ HB hb; (try clear hb); (try clear hb2); (try clear hk); (try clear hi); obtain ⟨hcz53_0, hcz53_1, hcz53_2, hcz53_3, hfz53_0, hfz53_1, hfz53_2, hfz53_3⟩ := Ke4_ BK938.out))
              go_roundg kj14
              case measure => have := HK1.out; have := HJ6.out; have := HJ14.out; omega
              case rel => exact ⟨(wrap64 (x5_1 + 1)), (t948), (t949), (t950), (t951), (by first | rfl | (simp; done) | (simp [*]; done)), H', ⟨by have := HK1.out; have := HJ6.out; have := HJ14.out; omega⟩, ⟨by refine Kv_ ?_; refine blk_put (cs := #[.int .u64 t948, .int .u64 t949, .int .u64 t950, .int .u64 x939003_1]) ?_ 3 _ rfl; refine Kv_ ?_; refine blk_put (cs := #[.int .u64 t948, .int .u64 t949, .int .u64 x939002_1, .int .u64 x939003_1]) ?_ 2 _ rfl; refine Kv_ ?_; refine blk_put (cs := #[.int .u64 t948, .int .u64 x939001_1, .int .u64 x939002_1, .int .u64 x939003_1]) ?_ 1 _ rfl; refine Kv_ ?_; refine blk_put (cs := #[.int .u64 x939000_1, .int .u64 x939001_1, .int .u64 x939002_1, .int .u64 x939003_1]) ?_ 0 _ rfl; exact Kq_ BK938⟩, ⟨K2a_ HB GE938 GE945⟩⟩

/-- THE ONE PURE STATEMENT of tenementlaw15_StreamOnce: yours. -/
def tenementlaw15_StreamOnce.Pure : Prop := ∀ (l0 : List Int), l0.length ≤ maxLen → l0.length * 1 ≤ 140737488351232 → (∀ x ∈ l0, (Lit.int .u8 x).wf = true) → ∃ k, tenementlaw15_StreamOnce.f k l0 = some true
theorem tenementlaw15_StreamOnce.walk (P : tenementlaw15_StreamOnce.Pure) (a0 : Option Addr) (len0 cap0 : Nat) (z0 : List Int) (w : World) (w0 : (a0 = none ∧ len0 = 0 ∧ cap0 = 0 ∧ z0 = []) ∨ ∃ x, a0 = some x ∧ len0 ≤ cap0 ∧ cap0 ≤ maxLen ∧ z0.length = cap0 ∧ (∀ i, i < z0.length → w.cell? (x.add i) = some (.int .u8 (z0.getD i 0))) ∧ ∀ n ∈ z0, (Lit.int .u8 n).wf = true) (y0 : len0 * 1 ≤ 140737488351232) :
    Calls Try.prog 10 #[.slice a0 len0 cap0] w fun e w' => e = .returned (.bool true) ∧ Below w.heap.size w w' := by
  obtain ⟨l0, rfl, hr0, hm0, hw0, hc0⟩ := ReadsInt.ofRowC w0
  obtain ⟨k, h⟩ := P l0 hm0 y0 hw0
  refine (tenementlaw15_StreamOnce.calls k _ _ l0 true w (Kd.C_of_reads (d := (0 : Int)) (h1 := fun _ => rfl) hr0) hc0 h).mono ?_
  rintro e w' ⟨rfl, hd⟩
  exact ⟨rfl, hd⟩
end Go.Proofs.Ytoagfdpgnfinhaa.Q
