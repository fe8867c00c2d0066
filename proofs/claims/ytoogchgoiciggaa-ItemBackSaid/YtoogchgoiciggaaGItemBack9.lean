import Derived.Test.YtoogchgoiciggaaQx0
import Derived.Test.YtoogchgoiciggaaGItemBack3
namespace Go.Proofs.Ytoogchgoiciggaa.Q
open Go.RowKit Go.Proofs.YtoogchgoiciggaaW.PrintWords Go.Proofs.YtoogchgoiciggaaW.PrintLast Go.Proofs.YtoogchgoiciggaaW.PrintMore
attribute [local go_sem] max2_int min2_int max_two min_two max_three min_three max_four min_four   -- for this text's walks alone
set_option linter.unusedVariables false
set_option linter.unusedSimpArgs false
/-! ### tenementlaw08_writes: function 34 -/
mutual
def tenementlaw08_writes.l0 : Nat → List (S25) → Int → Bool → List (S23) → Int → Option ((List (S23)))
  | 0, _, _, _, _, _ => none
  | k + 1, x0, x1, x2, x7, x8 => if x8 < (x0.length : Int) then (tenementlaw08_writes.j1 k x0 x1 x2 x7 x8 (decide ((x7.length : Int) < x1))) else (tenementlaw08_writes.j1 k x0 x1 x2 x7 x8 false)
def tenementlaw08_writes.j1 : Nat → List (S25) → Int → Bool → List (S23) → Int → Bool → Option ((List (S23)))
  | 0, _, _, _, _, _, _ => none
  | k + 1, x0, x1, x2, x7, x8, x22 => if x22 = true then (if 0 ≤ x8 then (if x8 < (x0.length : Int) then (if x2 = true then (tenementlaw08_writes.j2 k x0 x1 x2 x7 x8 ((rd_T25 x0 x8).f0.f0) ((rd_T25 x0 x8).f0.f1) ((rd_T25 x0 x8).f0.f2) ((rd_T25 x0 x8).f0.f3) true ((rd_T25 x0 x8).f2)) else (tenementlaw08_writes.j2 k x0 x1 x2 x7 x8 ((rd_T25 x0 x8).f0.f0) ((rd_T25 x0 x8).f0.f1) ((rd_T25 x0 x8).f0.f2) ((rd_T25 x0 x8).f0.f3) ((rd_T25 x0 x8).f1) ((rd_T25 x0 x8).f2))) else (none)) else (none)) else (some x7)
def tenementlaw08_writes.j2 : Nat → List (S25) → Int → Bool → List (S23) → Int → ByteArray → ByteArray → ByteArray → Bool → Bool → Int → Option ((List (S23)))
  | 0, _, _, _, _, _, _, _, _, _, _, _ => none
  | k + 1, x0, x1, x2, x7, x8, x262000, x262001, x262002, x262003, x262004, x262005 => (tenementlaw08_Put_write.f x262000 x262001 x262002 x262003 x262004 x262005).bind fun bt262 => (tenementlaw08_writes.l1 k x0 x1 x2 x7 x8 false 0 bt262.1 bt262.2.1 bt262.2.2.1 bt262.2.2.2)
def tenementlaw08_writes.l1 : Nat → List (S25) → Int → Bool → List (S23) → Int → Bool → Int → ByteArray → ByteArray → ByteArray → Bool → Option ((List (S23)))
  | 0, _, _, _, _, _, _, _, _, _, _, _ => none
  | k + 1, x0, x1, x2, x7, x8, x11, x12, x267000, x267001, x267002, x267003 => if x12 < (x7.length : Int) then (if x11 = true then (tenementlaw08_writes.l1 k x0 x1 x2 x7 x8 true (wrap64 (x12 + 1)) x267000 x267001 x267002 x267003) else (if 0 ≤ x12 then (if ((rd_T23 x7 x12).f0).toList = x267000.toList then (tenementlaw08_writes.l1 k x0 x1 x2 x7 x8 (((rd_T23 x7 x12).f1).toList == x267001.toList) (wrap64 (x12 + 1)) x267000 x267001 x267002 x267003) else (tenementlaw08_writes.l1 k x0 x1 x2 x7 x8 false (wrap64 (x12 + 1)) x267000 x267001 x267002 x267003)) else (none))) else (if x2 = true then (if x11 = true then (tenementlaw08_writes.l0 k x0 x1 x2 x7 (wrap64 (x8 + 1))) else (if x7.length < 2513169434916 then (tenementlaw08_writes.l0 k x0 x1 x2 (x7 ++ [(⟨x267000, x267001, x267002, x267003⟩ : S23)]) (wrap64 (x8 + 1))) else (none))) else (if x7.length < 2513169434916 then (tenementlaw08_writes.l0 k x0 x1 x2 (x7 ++ [(⟨x267000, x267001, x267002, x267003⟩ : S23)]) (wrap64 (x8 + 1))) else (none)))
end
def tenementlaw08_writes.f (k : Nat) (l0 : List (S25)) (a1 : Int) (a2 : Bool) : Option ((List (S23))) := tenementlaw08_writes.l0 k l0 a1 a2 ([] : List (S23)) 0
theorem tenementlaw08_writes.mono_l : ∀ k, (∀ y0 y1 y2 y3 y4, LeO (tenementlaw08_writes.l0 k y0 y1 y2 y3 y4) (tenementlaw08_writes.l0 (k + 1) y0 y1 y2 y3 y4)) ∧ (∀ y0 y1 y2 y3 y4 y5, LeO (tenementlaw08_writes.j1 k y0 y1 y2 y3 y4 y5) (tenementlaw08_writes.j1 (k + 1) y0 y1 y2 y3 y4 y5)) ∧ (∀ y0 y1 y2 y3 y4 y5 y6 y7 y8 y9 y10, LeO (tenementlaw08_writes.j2 k y0 y1 y2 y3 y4 y5 y6 y7 y8 y9 y10) (tenementlaw08_writes.j2 (k + 1) y0 y1 y2 y3 y4 y5 y6 y7 y8 y9 y10)) ∧ (∀ y0 y1 y2 y3 y4 y5 y6 y7 y8 y9 y10, LeO (tenementlaw08_writes.l1 k y0 y1 y2 y3 y4 y5 y6 y7 y8 y9 y10) (tenementlaw08_writes.l1 (k + 1) y0 y1 y2 y3 y4 y5 y6 y7 y8 y9 y10))
  | 0 => ⟨fun _ _ _ _ _ r h => by simp [tenementlaw08_writes.l0] at h, fun _ _ _ _ _ _ r h => by simp [tenementlaw08_writes.j1] at h, fun _ _ _ _ _ _ _ _ _ _ _ r h => by simp [tenementlaw08_writes.j2] at h, fun _ _ _ _ _ _ _ _ _ _ _ r h => by simp [tenementlaw08_writes.l1] at h⟩
  | k + 1 => by
    obtain ⟨ih0, ih1, ih2, ih3⟩ := tenementlaw08_writes.mono_l k
    refine ⟨?_, ?_, ?_, ?_⟩
    · intro y0 y1 y2 y3 y4
      unfold tenementlaw08_writes.l0
      repeat' first
      | (with_reducible exact ih0 _ _ _ _ _)
      | (with_reducible exact ih1 _ _ _ _ _ _)
      | (with_reducible exact ih2 _ _ _ _ _ _ _ _ _ _ _)
      | (with_reducible exact ih3 _ _ _ _ _ _ _ _ _ _ _)
      | (with_reducible exact LeO.refl _)
      | (with_reducible exact LeO.none _)
      | (with_reducible refine LeO.ite ?_ ?_)
      | (with_reducible refine LeO.bind ?_ (fun _ => ?_))
      | exact ih0 _ _ _ _ _
      | exact ih1 _ _ _ _ _ _
      | exact ih2 _ _ _ _ _ _ _ _ _ _ _
      | exact ih3 _ _ _ _ _ _ _ _ _ _ _
      | exact LeO.none _
      | refine LeO.ite ?_ ?_
      | refine LeO.bind ?_ (fun _ => ?_)
    · intro y0 y1 y2 y3 y4 y5
      unfold tenementlaw08_writes.j1
      repeat' first
      | (with_reducible exact ih0 _ _ _ _ _)
      | (with_reducible exact ih1 _ _ _ _ _ _)
      | (with_reducible exact ih2 _ _ _ _ _ _ _ _ _ _ _)
      | (with_reducible exact ih3 _ _ _ _ _ _ _ _ _ _ _)
      | (with_reducible exact LeO.refl _)
      | (with_reducible exact LeO.none _)
      | (with_reducible refine LeO.ite ?_ ?_)
      | (with_reducible refine LeO.bind ?_ (fun _ => ?_))
      | exact ih0 _ _ _ _ _
      | exact ih1 _ _ _ _ _ _
      | exact ih2 _ _ _ _ _ _ _ _ _ _ _
      | exact ih3 _ _ _ _ _ _ _ _ _ _ _
      | exact LeO.none _
      | refine LeO.ite ?_ ?_
      | refine LeO.bind ?_ (fun _ => ?_)
    · intro y0 y1 y2 y3 y4 y5 y6 y7 y8 y9 y10
      unfold tenementlaw08_writes.j2
      repeat' first
      | (with_reducible exact ih0 _ _ _ _ _)
      | (with_reducible exact ih1 _ _ _ _ _ _)
      | (with_reducible exact ih2 _ _ _ _ _ _ _ _ _ _ _)
      | (with_reducible exact ih3 _ _ _ _ _ _ _ _ _ _ _)
      | (with_reducible exact LeO.refl _)
      | (with_reducible exact LeO.none _)
      | (with_reducible refine LeO.ite ?_ ?_)
      | (with_reducible refine LeO.bind ?_ (fun _ => ?_))
      | exact ih0 _ _ _ _ _
      | exact ih1 _ _ _ _ _ _
      | exact ih2 _ _ _ _ _ _ _ _ _ _ _
      | exact ih3 _ _ _ _ _ _ _ _ _ _ _
      | exact LeO.none _
      | refine LeO.ite ?_ ?_
      | refine LeO.bind ?_ (fun _ => ?_)
    · intro y0 y1 y2 y3 y4 y5 y6 y7 y8 y9 y10
      unfold tenementlaw08_writes.l1
      repeat' first
      | (with_reducible exact ih0 _ _ _ _ _)
      | (with_reducible exact ih1 _ _ _ _ _ _)
      | (with_reducible exact ih2 _ _ _ _ _ _ _ _ _ _ _)
      | (with_reducible exact ih3 _ _ _ _ _ _ _ _ _ _ _)
      | (with_reducible exact LeO.refl _)
      | (with_reducible exact LeO.none _)
      | (with_reducible refine LeO.ite ?_ ?_)
      | (with_reducible refine LeO.bind ?_ (fun _ => ?_))
      | exact ih0 _ _ _ _ _
      | exact ih1 _ _ _ _ _ _
      | exact ih2 _ _ _ _ _ _ _ _ _ _ _
      | exact ih3 _ _ _ _ _ _ _ _ _ _ _
      | exact LeO.none _
      | refine LeO.ite ?_ ?_
      | refine LeO.bind ?_ (fun _ => ?_)
theorem tenementlaw08_writes.mono : ∀ a0 a1 a2 k, LeO (tenementlaw08_writes.f k a0 a1 a2) (tenementlaw08_writes.f (k + 1) a0 a1 a2) := by
  intro a0 a1 a2 k
  obtain ⟨ih0, ih1, ih2, ih3⟩ := tenementlaw08_writes.mono_l k
  unfold tenementlaw08_writes.f
  repeat' first
      | (with_reducible exact ih0 _ _ _ _ _)
      | (with_reducible exact ih1 _ _ _ _ _ _)
      | (with_reducible exact ih2 _ _ _ _ _ _ _ _ _ _ _)
      | (with_reducible exact ih3 _ _ _ _ _ _ _ _ _ _ _)
      | (with_reducible exact LeO.refl _)
      | (with_reducible exact LeO.none _)
      | (with_reducible refine LeO.ite ?_ ?_)
      | (with_reducible refine LeO.bind ?_ (fun _ => ?_))
      | exact ih0 _ _ _ _ _
      | exact ih1 _ _ _ _ _ _
      | exact ih2 _ _ _ _ _ _ _ _ _ _ _
      | exact ih3 _ _ _ _ _ _ _ _ _ _ _
      | exact LeO.none _
      | refine LeO.ite ?_ ?_
      | refine LeO.bind ?_ (fun _ => ?_)
set_option maxHeartbeats 8000000 in
set_option maxRecDepth 100000 in
theorem tenementlaw08_writes.calls (k : Nat) (A0 : Option Addr) (c0 : Nat) (l0 : List (S25)) (a1 : Int) (a2 : Bool) (r : List (S23)) (w : World) (hr0 : Kd.C k25 w A0 l0.length l0) (hc0 : l0.length ≤ c0) (h : tenementlaw08_writes.f k l0 a1 a2 = some r) :
    Calls Try.prog 34 #[.slice A0 l0.length c0, .int .i64 a1, .bool a2] w fun e w' => ∃ v0_ : Value, e = .returned (v0_) ∧ Kd.R k23 23 w' w.heap.size (fun _ => True) v0_ r ∧ Below w.heap.size w w' := by
  have hu25 := Try.underlying25
  have hu23 := Try.underlying23
  have HR0 := Aside0.mk hr0
  have HC0 := Aside0.mk hc0
  clear hr0 hc0
  have HB := Aside0.mk (Below.refl w.heap.size w)
  have H : (tenementlaw08_writes.l0 k l0 a1 a2 ([] : List (S23)) 0) = some r := h
  clear h
  have H' := Aside0.mk H
  clear H
  go_enter Try.func34, Try.ntmps34
  go_wp2
  repeat (go_quiet (fail); try go_wp2)
  go_loopg [7, 8] k (fun kq v7 v8 w' => ∃ (x7_1 : List (S23)) (x8_1 : Int), v8 = .int .i64 x8_1 ∧ Aside0 (tenementlaw08_writes.l0 kq l0 a1 a2 x7_1 x8_1 = some r) ∧ Aside0 (kq ≤ k) ∧ Aside0 (Kd.R k23 23 w' w.heap.size (fun _ => True) v7 x7_1) ∧ Aside0 (Below w.heap.size w w'))
  case atStart => exact ⟨(([] : List (S23))), (0), (by first | rfl | (simp; done) | (simp [*]; done)), H', ⟨Nat.le_refl _⟩, ⟨by first | exact Kd.R_nil _ _ _ _ _ | exact Kd.N_nil _ _ _ _ _ | exact Kd.V_nil _ _ _ _ _ | exact Kd.Q_nil _ _ _ _ _ | exact Kd.S_nil _ _ _ _ _⟩, ⟨Ky_ HB⟩⟩
  case round =>
    clear H'
    try clear p2
    try clear c3
    obtain ⟨x7_1, x8_1, rfl, HA, HK1, HO_7, HB⟩ := hrel
    cases gk with
    | zero => exact absurd HA.out (by simp [tenementlaw08_writes.l0])
    | succ k1 =>
      have H := HA.out
      clear HA
      simp only [tenementlaw08_writes.l0] at H
      have HC4 := Aside0.mk H
      clear H
      go_upto_region 3 with (fail)
      repeat (go_quiet (fail); go_upto_region 3 with (fail))
      go_cut [22] (fun v22 wc => ∃ (kq : Nat) (x22_3 : Bool), v22 = .bool x22_3 ∧ Aside0 (tenementlaw08_writes.j1 kq l0 a1 a2 x7_1 x8_1 x22_3 = some r) ∧ Aside0 (kq ≤ k1) ∧ Aside0 (Kd.R k23 23 wc w.heap.size (fun _ => True) u7 x7_1) ∧ Aside0 (Below w.heap.size w wc))
      case first =>
        have H := HC4.out
        clear HC4
        by_cases c5 : x8_1 < (l0.length : Int)
        rotate_left
        · rw [if_neg c5] at H
          have c5b0 : decide (x8_1 < (l0.length : Int)) = false := decide_eq_false c5
          clear c5
          (first | rw [c5b0] | (simp only [i64_w, i32_w]; rw [c5b0]) | skip)
          have H' := Aside0.mk H
          clear H
          go_wp2
          repeat (go_quiet (fail); try go_wp2)
          go_meet
          case rel => exact ⟨_, (false), (by first | rfl | (simp; done) | (simp [*]; done)), H', ⟨by have := HK1.out; first | omega | exact Nat.le_refl _⟩, ⟨by (with_reducible repeat (first | apply Kd.R_alloc | apply Kd.R_drewN | apply Kd.R_drew)); exact HO_7.out⟩, ⟨Ky_ HB⟩⟩
        rw [if_pos c5] at H
        have c5b0 : decide (x8_1 < (l0.length : Int)) = true := decide_eq_true c5
        clear c5
        (first | rw [c5b0] | (simp only [i64_w, i32_w]; rw [c5b0]) | skip)
        have H' := Aside0.mk H
        clear H
        obtain ⟨Ao6, co6, eo6⟩ := Kd.R_slice HO_7.out
        subst eo6
        go_wp2
        repeat (go_quiet (fail); try go_wp2)
        go_meet
        case rel => exact ⟨_, (decide ((x7_1.length : Int) < a1)), (by first | rfl | (simp; done) | (simp [*]; done)), H', ⟨by have := HK1.out; first | omega | exact Nat.le_refl _⟩, ⟨by (with_reducible repeat (first | apply Kd.R_alloc | apply Kd.R_drewN | apply Kd.R_drew)); exact HO_7.out⟩, ⟨Ky_ HB⟩⟩
      case rest =>
        clear HC4
        try clear p2
        try clear c3
        try clear c5
        try clear c5b0
        try clear p2
        obtain ⟨kq, x22_3, rfl, HA, HJ3, HO_7, HB⟩ := hcut
        cases kq with
        | zero => exact absurd HA.out (by simp [tenementlaw08_writes.j1])
        | succ kj3 =>
          have H := HA.out
          clear HA
          simp only [tenementlaw08_writes.j1] at H
          by_cases c7 : x22_3 = true
          rotate_left
          · replace c7 := Bool.eq_false_iff.mpr c7
            subst c7
            have H1 : (some x7_1) = some r := by rw [if_neg (show ¬ (false = true) by decide)] at H; exact H
            clear H
            have H := H1
            clear H1
            obtain rfl := Option.some.inj H
            go_wp2
            repeat (go_quiet (fail); try go_wp2)
            go_ret
            exact ⟨_, by first | rfl | (simp [errW_none, errW_some] <;> rfl) | (simp [*, errW_none, errW_some] <;> rfl), by (with_reducible repeat (first | apply Kd.R_alloc | apply Kd.R_drewN | apply Kd.R_drew)); exact HO_7.out, Ky_ HB⟩
          subst c7
          have H1 : (if 0 ≤ x8_1 then (if x8_1 < (l0.length : Int) then (if a2 = true then (tenementlaw08_writes.j2 kj3 l0 a1 a2 x7_1 x8_1 ((rd_T25 l0 x8_1).f0.f0) ((rd_T25 l0 x8_1).f0.f1) ((rd_T25 l0 x8_1).f0.f2) ((rd_T25 l0 x8_1).f0.f3) true ((rd_T25 l0 x8_1).f2)) else (tenementlaw08_writes.j2 kj3 l0 a1 a2 x7_1 x8_1 ((rd_T25 l0 x8_1).f0.f0) ((rd_T25 l0 x8_1).f0.f1) ((rd_T25 l0 x8_1).f0.f2) ((rd_T25 l0 x8_1).f0.f3) ((rd_T25 l0 x8_1).f1) ((rd_T25 l0 x8_1).f2))) else (none)) else (none)) = some r := by rw [if_pos rfl] at H; exact H
          clear H
          have H := H1
          clear H1
          by_cases c8 : 0 ≤ x8_1
          rotate_left
          · rw [if_neg c8] at H
            exact absurd H (by simp)
          rw [if_pos c8] at H
          have c8b0 : decide (0 ≤ x8_1) = true := decide_eq_true c8
          clear c8
          by_cases c9 : x8_1 < (l0.length : Int)
          rotate_left
          · rw [if_neg c9] at H
            exact absurd H (by simp)
          rw [if_pos c9] at H
          have c9b0 : decide (x8_1 < (l0.length : Int)) = true := decide_eq_true c9
          clear c9
          have HC10 := Aside0.mk H
          clear H
          have p260 : 0 ≤ (x8_1 : Int) := of_decide_eq_true (by first | (with_reducible assumption) | assumption)
          have q260 : x8_1 < (l0.length : Int) := of_decide_eq_true (by first | (with_reducible assumption) | assumption)
          obtain ⟨ad260, e260, hx260_0, hx260_1, hx260_2, hx260_3, hx260_4, hx260_5⟩ := at_T25 HR0.out x8_1 p260 q260
          cases e260
          replace hx260_0 := (HB.out.cell (World.block_lt_of_cell? w _ hx260_0)).trans hx260_0
          replace hx260_1 := (HB.out.cell (World.block_lt_of_cell? w _ hx260_1)).trans hx260_1
          replace hx260_2 := (HB.out.cell (World.block_lt_of_cell? w _ hx260_2)).trans hx260_2
          replace hx260_3 := (HB.out.cell (World.block_lt_of_cell? w _ hx260_3)).trans hx260_3
          replace hx260_4 := (HB.out.cell (World.block_lt_of_cell? w _ hx260_4)).trans hx260_4
          replace hx260_5 := (HB.out.cell (World.block_lt_of_cell? w _ hx260_5)).trans hx260_5
          replace p260 := eq_true p260
          replace q260 := eq_true q260
          go_upto_if 29 with (first | ((with_reducible refine gate_dst (N := 9) rfl ?_); refine box_event ?hg (N := 9) ?hd (cs := #[.string (⟨#[]⟩ : ByteArray), .string (⟨#[]⟩ : ByteArray), .string (⟨#[]⟩ : ByteArray), .bool false, .bool false, .int .u8 0]) (t := 25) ?hr ?_; (case hd => rfl); (case hg => rfl); (case hr => first | (go_simp; done) | (go_simp; rfl)); intro gb261 hg w11 hbox hb; have BK261 := Aside0.mk (hbox); have GW261 := Kw_ HB hg; have GE261 := GW261; replace HO_7 := Aside0.mk (Kd.R_below (Ku_ HO_7) hb); replace HB := Ks_ HB hb; clear hb hbox hg; obtain ⟨hcz12_0, hcz12_1, hcz12_2, hcz12_3, hcz12_4, hcz12_5, hfz12_0, hfz12_1, hfz12_2, hfz12_3, hfz12_4, hfz12_5⟩ := Ke6_ BK261.out))
          repeat (go_quiet (first | ((with_reducible refine gate_dst (N := 9) rfl ?_); refine box_event ?hg (N := 9) ?hd (cs := #[.string (⟨#[]⟩ : ByteArray), .string (⟨#[]⟩ : ByteArray), .string (⟨#[]⟩ : ByteArray), .bool false, .bool false, .int .u8 0]) (t := 25) ?hr ?_; (case hd => rfl); (case hg => rfl); (case hr => first | (go_simp; done) | (go_simp; rfl)); intro gb261 hg w11 hbox hb; have BK261 := Aside0.mk (hbox); have GW261 := Kw_ HB hg; have GE261 := GW261; replace HO_7 := Aside0.mk (Kd.R_below (Ku_ HO_7) hb); replace HB := Ks_ HB hb; clear hb hbox hg; obtain ⟨hcz12_0, hcz12_1, hcz12_2, hcz12_3, hcz12_4, hcz12_5, hfz12_0, hfz12_1, hfz12_2, hfz12_3, hfz12_4, hfz12_5⟩ := Ke6_ BK261.out)); go_upto_if 29 with (first | ((with_reducible refine gate_dst (N := 9) rfl ?_); refine box_event ?hg (N := 9) ?hd (cs := #[.string (⟨#[]⟩ : ByteArray), .string (⟨#[]⟩ : ByteArray), .string (⟨#[]⟩ : ByteArray), .bool false, .bool false, .int .u8 0]) (t := 25) ?hr ?_; (case hd => rfl); (case hg => rfl); (case hr => first | (go_simp; done) | (go_simp; rfl)); intro gb261 hg w11 hbox hb; have BK261 := Aside0.mk (hbox); have GW261 := Kw_ HB hg; have GE261 := GW261; replace HO_7 := Aside0.mk (Kd.R_below (Ku_ HO_7) hb); replace HB := Ks_ HB hb; clear hb hbox hg; obtain ⟨hcz12_0, hcz12_1, hcz12_2, hcz12_3, hcz12_4, hcz12_5, hfz12_0, hfz12_1, hfz12_2, hfz12_3, hfz12_4, hfz12_5⟩ := Ke6_ BK261.out)))
          (try simp only [Act.put, List.setIfInBounds_toArray, List.set_cons_zero, List.set_cons_succ])
          go_cut [] (fun wc => ∃ (kq : Nat) (x262004_9 : Bool), Aside0 (tenementlaw08_writes.j2 kq l0 a1 a2 x7_1 x8_1 ((rd_T25 l0 x8_1).f0.f0) ((rd_T25 l0 x8_1).f0.f1) ((rd_T25 l0 x8_1).f0.f2) ((rd_T25 l0 x8_1).f0.f3) x262004_9 ((rd_T25 l0 x8_1).f2) = some r) ∧ Aside0 (kq ≤ kj3) ∧ Aside0 (Kd.R k23 23 wc w.heap.size (fun _ => True) u7 x7_1) ∧ Aside0 (wc.heap[gb261]? = some (.cells #[.string ((rd_T25 l0 x8_1).f0.f0), .string ((rd_T25 l0 x8_1).f0.f1), .string ((rd_T25 l0 x8_1).f0.f2), .bool ((rd_T25 l0 x8_1).f0.f3), .bool x262004_9, .int .u8 ((rd_T25 l0 x8_1).f2)] 25 (0, 0))) ∧ Aside0 (Below w.heap.size w wc))
          case first =>
            have H := HC10.out
            clear HC10
            by_cases c13 : a2 = true
            rotate_left
            · replace c13 := Bool.eq_false_iff.mpr c13
              subst c13
              have H1 : (tenementlaw08_writes.j2 kj3 l0 a1 false x7_1 x8_1 ((rd_T25 l0 x8_1).f0.f0) ((rd_T25 l0 x8_1).f0.f1) ((rd_T25 l0 x8_1).f0.f2) ((rd_T25 l0 x8_1).f0.f3) ((rd_T25 l0 x8_1).f1) ((rd_T25 l0 x8_1).f2)) = some r := by rw [if_neg (show ¬ (false = true) by decide)] at H; exact H
              clear H
              have H := H1
              clear H1
              have H' := Aside0.mk H
              clear H
              go_wp2
              repeat (go_quiet (fail); try go_wp2)
              go_meet
              case rel => exact ⟨_, ((rd_T25 l0 x8_1).f1), H', ⟨by have := HK1.out; have := HJ3.out; first | omega | exact Nat.le_refl _⟩, ⟨by (with_reducible repeat (first | apply Kd.R_alloc | apply Kd.R_drewN | apply Kd.R_drew)); exact Kd.R_mono (Kd.R_far (p := ⟨gb261, 5, none⟩) (Kd.R_far (p := ⟨gb261, 4, none⟩) (Kd.R_far (p := ⟨gb261, 3, none⟩) (Kd.R_far (p := ⟨gb261, 2, none⟩) (Kd.R_far (p := ⟨gb261, 1, none⟩) (Kd.R_far (p := ⟨gb261, 0, none⟩) (Kd.R_types HO_7.out BK261.out (by decide)) (fun _ hk => hk.2) (.string ((rd_T25 l0 x8_1).f0.f0))) (fun _ hk => hk.2) (.string ((rd_T25 l0 x8_1).f0.f1))) (fun _ hk => hk.2) (.string ((rd_T25 l0 x8_1).f0.f2))) (fun _ hk => hk.2) (.bool ((rd_T25 l0 x8_1).f0.f3))) (fun _ hk => hk.2) (.bool ((rd_T25 l0 x8_1).f1))) (fun _ hk => hk.2) (.int .u8 ((rd_T25 l0 x8_1).f2))) (fun _ hk => trivial)⟩, ⟨by refine Kv_ ?_; refine blk_put (cs := #[.string ((rd_T25 l0 x8_1).f0.f0), .string ((rd_T25 l0 x8_1).f0.f1), .string ((rd_T25 l0 x8_1).f0.f2), .bool ((rd_T25 l0 x8_1).f0.f3), .bool ((rd_T25 l0 x8_1).f1), .int .u8 0]) ?_ 5 _ rfl; refine Kv_ ?_; refine blk_put (cs := #[.string ((rd_T25 l0 x8_1).f0.f0), .string ((rd_T25 l0 x8_1).f0.f1), .string ((rd_T25 l0 x8_1).f0.f2), .bool ((rd_T25 l0 x8_1).f0.f3), .bool false, .int .u8 0]) ?_ 4 _ rfl; refine Kv_ ?_; refine blk_put (cs := #[.string ((rd_T25 l0 x8_1).f0.f0), .string ((rd_T25 l0 x8_1).f0.f1), .string ((rd_T25 l0 x8_1).f0.f2), .bool false, .bool false, .int .u8 0]) ?_ 3 _ rfl; refine Kv_ ?_; refine blk_put (cs := #[.string ((rd_T25 l0 x8_1).f0.f0), .string ((rd_T25 l0 x8_1).f0.f1), .string (⟨#[]⟩ : ByteArray), .bool false, .bool false, .int .u8 0]) ?_ 2 _ rfl; refine Kv_ ?_; refine blk_put (cs := #[.string ((rd_T25 l0 x8_1).f0.f0), .string (⟨#[]⟩ : ByteArray), .string (⟨#[]⟩ : ByteArray), .bool false, .bool false, .int .u8 0]) ?_ 1 _ rfl; refine Kv_ ?_; refine blk_put (cs := #[.string (⟨#[]⟩ : ByteArray), .string (⟨#[]⟩ : ByteArray), .string (⟨#[]⟩ : ByteArray), .bool false, .bool false, .int .u8 0]) ?_ 0 _ rfl; exact Kq_ BK261⟩, ⟨Kz_ HB GE261⟩⟩
            subst c13
            have H1 : (tenementlaw08_writes.j2 kj3 l0 a1 true x7_1 x8_1 ((rd_T25 l0 x8_1).f0.f0) ((rd_T25 l0 x8_1).f0.f1) ((rd_T25 l0 x8_1).f0.f2) ((rd_T25 l0 x8_1).f0.f3) true ((rd_T25 l0 x8_1).f2)) = some r := by rw [if_pos rfl] at H; exact H
            clear H
            have H := H1
            clear H1
            have H' := Aside0.mk H
            clear H
            obtain ⟨hcz14_0, hcz14_1, hcz14_2, hcz14_3, hcz14_4, hcz14_5, hfz14_0, hfz14_1, hfz14_2, hfz14_3, hfz14_4, hfz14_5⟩ := Ke6_ BK261.out
            go_wp2
            repeat (go_quiet (fail); try go_wp2)
            go_meet
            case rel => exact ⟨_, (true), H', ⟨by have := HK1.out; have := HJ3.out; first | omega | exact Nat.le_refl _⟩, ⟨by (with_reducible repeat (first | apply Kd.R_alloc | apply Kd.R_drewN | apply Kd.R_drew)); exact Kd.R_mono (Kd.R_far (p := ⟨gb261, 4, none⟩) (Kd.R_far (p := ⟨gb261, 5, none⟩) (Kd.R_far (p := ⟨gb261, 4, none⟩) (Kd.R_far (p := ⟨gb261, 3, none⟩) (Kd.R_far (p := ⟨gb261, 2, none⟩) (Kd.R_far (p := ⟨gb261, 1, none⟩) (Kd.R_far (p := ⟨gb261, 0, none⟩) (Kd.R_types HO_7.out BK261.out (by decide)) (fun _ hk => hk.2) (.string ((rd_T25 l0 x8_1).f0.f0))) (fun _ hk => hk.2) (.string ((rd_T25 l0 x8_1).f0.f1))) (fun _ hk => hk.2) (.string ((rd_T25 l0 x8_1).f0.f2))) (fun _ hk => hk.2) (.bool ((rd_T25 l0 x8_1).f0.f3))) (fun _ hk => hk.2) (.bool ((rd_T25 l0 x8_1).f1))) (fun _ hk => hk.2) (.int .u8 ((rd_T25 l0 x8_1).f2))) (fun _ hk => hk.2) (.bool true)) (fun _ hk => trivial)⟩, ⟨by refine Kv_ ?_; refine blk_put (cs := #[.string ((rd_T25 l0 x8_1).f0.f0), .string ((rd_T25 l0 x8_1).f0.f1), .string ((rd_T25 l0 x8_1).f0.f2), .bool ((rd_T25 l0 x8_1).f0.f3), .bool ((rd_T25 l0 x8_1).f1), .int .u8 ((rd_T25 l0 x8_1).f2)]) ?_ 4 _ rfl; refine Kv_ ?_; refine blk_put (cs := #[.string ((rd_T25 l0 x8_1).f0.f0), .string ((rd_T25 l0 x8_1).f0.f1), .string ((rd_T25 l0 x8_1).f0.f2), .bool ((rd_T25 l0 x8_1).f0.f3), .bool ((rd_T25 l0 x8_1).f1), .int .u8 0]) ?_ 5 _ rfl; refine Kv_ ?_; refine blk_put (cs := #[.string ((rd_T25 l0 x8_1).f0.f0), .string ((rd_T25 l0 x8_1).f0.f1), .string ((rd_T25 l0 x8_1).f0.f2), .bool ((rd_T25 l0 x8_1).f0.f3), .bool false, .int .u8 0]) ?_ 4 _ rfl; refine Kv_ ?_; refine blk_put (cs := #[.string ((rd_T25 l0 x8_1).f0.f0), .string ((rd_T25 l0 x8_1).f0.f1), .string ((rd_T25 l0 x8_1).f0.f2), .bool false, .bool false, .int .u8 0]) ?_ 3 _ rfl; refine Kv_ ?_; refine blk_put (cs := #[.string ((rd_T25 l0 x8_1).f0.f0), .string ((rd_T25 l0 x8_1).f0.f1), .string (⟨#[]⟩ : ByteArray), .bool false, .bool false, .int .u8 0]) ?_ 2 _ rfl; refine Kv_ ?_; refine blk_put (cs := #[.string ((rd_T25 l0 x8_1).f0.f0), .string (⟨#[]⟩ : ByteArray), .string (⟨#[]⟩ : ByteArray), .bool false, .bool false, .int .u8 0]) ?_ 1 _ rfl; refine Kv_ ?_; refine blk_put (cs := #[.string (⟨#[]⟩ : ByteArray), .string (⟨#[]⟩ : ByteArray), .string (⟨#[]⟩ : ByteArray), .bool false, .bool false, .int .u8 0]) ?_ 0 _ rfl; exact Kq_ BK261⟩, ⟨Kz_ HB GE261⟩⟩
          case rest =>
            clear HC10
            try clear c1
            try clear p2
            try clear q2
            try clear hx2
            try clear c3
            try clear c5
            try clear c5b0
            try clear c7
            try clear c8
            try clear c8b0
            try clear c9
            try clear c9b0
            try clear c13
            try clear hcz12_0
            try clear hcz12_1
            try clear hcz12_2
            try clear hcz12_3
            try clear hcz12_4
            try clear hcz12_5
            try clear hcz14_0
            try clear hcz14_1
            try clear hcz14_2
            try clear hcz14_3
            try clear hcz14_4
            try clear hcz14_5
            try clear hfz12_0
            try clear hfz12_1
            try clear hfz12_2
            try clear hfz12_3
            try clear hfz12_4
            try clear hfz12_5
            try clear hfz14_0
            try clear hfz14_1
            try clear hfz14_2
            try clear hfz14_3
            try clear hfz14_4
            try clear hfz14_5
            try clear hx260_0
            try clear hx260_1
            try clear hx260_2
            try clear hx260_3
            try clear hx260_4
            try clear hx260_5
            try clear p2
            try clear p260
            try clear q260
            obtain ⟨kq, x262004_9, HA, HJ9, HO_7, BK261, HB⟩ := hcut
            cases kq with
            | zero => exact absurd HA.out (by simp [tenementlaw08_writes.j2])
            | succ kj9 =>
              have H := HA.out
              clear HA
              simp only [tenementlaw08_writes.j2] at H
              replace H := Option.bind_eq_some_iff.mp H
              obtain ⟨⟨t262, t263, t264, t265⟩, A150, H⟩ := H
              replace H : (tenementlaw08_writes.l1 kj9 l0 a1 a2 x7_1 x8_1 false 0 t262 t263 t264 t265) = some r := H
              have A15 := Aside0.mk A150
              clear A150
              have H' := Aside0.mk H
              clear H
              obtain ⟨hcz16_0, hcz16_1, hcz16_2, hcz16_3, hcz16_4, hcz16_5, hfz16_0, hfz16_1, hfz16_2, hfz16_3, hfz16_4, hfz16_5⟩ := Ke6_ BK261.out
              go_wp2_with (first | (go_at_call 12; (with_reducible refine (tenementlaw08_Put_write.calls ((rd_T25 l0 x8_1).f0.f0) ((rd_T25 l0 x8_1).f0.f1) ((rd_T25 l0 x8_1).f0.f2) ((rd_T25 l0 x8_1).f0.f3) x262004_9 ((rd_T25 l0 x8_1).f2) t262 t263 t264 t265 _ A15.out).mono ?_); rintro e w17 ⟨rfl, hb⟩; replace HO_7 := Aside0.mk (Kd.R_below (Ku_ HO_7) hb); replace BK261 := Kb_ BK261 hb; replace HB := Ks_ HB hb; (try clear hb); (try clear hb2); (try clear hk); (try clear hi)) | ((with_reducible refine gate_dst (N := 10) rfl ?_); refine box_event ?hg (N := 10) ?hd (cs := #[.string (⟨#[]⟩ : ByteArray), .string (⟨#[]⟩ : ByteArray), .string (⟨#[]⟩ : ByteArray), .bool false]) (t := 23) ?hr ?_; (case hd => rfl); (case hg => rfl); (case hr => first | (go_simp; done) | (go_simp; rfl)); intro gb266 hg w18 hbox hb; have BK266 := Aside0.mk (hbox); have GW266 := Kw_ HB hg; have GE266 := GW266; have NB261_266 := Kl_ BK261 hg; have NB266_261 := Kr_ BK261 hg; replace HO_7 := Aside0.mk (Kd.R_below (Kd.R_elderB (Ku_ HO_7) gb266 (Nat.le_of_eq hg.symm)) hb); replace BK261 := Kb_ BK261 hb; replace HB := Ks_ HB hb; clear hb hbox hg; have hnb19 := NB266_261.out; have hnc19 := NB261_266.out; obtain ⟨hcz20_0, hcz20_1, hcz20_2, hcz20_3, hfz20_0, hfz20_1, hfz20_2, hfz20_3⟩ := Ke4_ BK266.out))
              repeat (go_quiet (first | (go_at_call 12; (with_reducible refine (tenementlaw08_Put_write.calls ((rd_T25 l0 x8_1).f0.f0) ((rd_T25 l0 x8_1).f0.f1) ((rd_T25 l0 x8_1).f0.f2) ((rd_T25 l0 x8_1).f0.f3) x262004_9 ((rd_T25 l0 x8_1).f2) t262 t263 t264 t265 _ A15.out).mono ?_); rintro e w17 ⟨rfl, hb⟩; replace HO_7 := Aside0.mk (Kd.R_below (Ku_ HO_7) hb); replace BK261 := Kb_ BK261 hb; replace HB := Ks_ HB hb; (try clear hb); (try clear hb2); (try clear hk); (try clear hi)) | ((with_reducible refine gate_dst (N := 10) rfl ?_); refine box_event ?hg (N := 10) ?hd (cs := #[.string (⟨#[]⟩ : ByteArray), .string (⟨#[]⟩ : ByteArray), .string (⟨#[]⟩ : ByteArray), .bool false]) (t := 23) ?hr ?_; (case hd => rfl); (case hg => rfl); (case hr => first | (go_simp; done) | (go_simp; rfl)); intro gb266 hg w18 hbox hb; have BK266 := Aside0.mk (hbox); have GW266 := Kw_ HB hg; have GE266 := GW266; have NB261_266 := Kl_ BK261 hg; have NB266_261 := Kr_ BK261 hg; replace HO_7 := Aside0.mk (Kd.R_below (Kd.R_elderB (Ku_ HO_7) gb266 (Nat.le_of_eq hg.symm)) hb); replace BK261 := Kb_ BK261 hb; replace HB := Ks_ HB hb; clear hb hbox hg; have hnb19 := NB266_261.out; have hnc19 := NB261_266.out; obtain ⟨hcz20_0, hcz20_1, hcz20_2, hcz20_3, hfz20_0, hfz20_1, hfz20_2, hfz20_3⟩ := Ke4_ BK266.out)); try go_wp2_with (first | (go_at_call 12; (with_reducible refine (tenementlaw08_Put_write.calls ((rd_T25 l0 x8_1).f0.f0) ((rd_T25 l0 x8_1).f0.f1) ((rd_T25 l0 x8_1).f0.f2) ((rd_T25 l0 x8_1).f0.f3) x262004_9 ((rd_T25 l0 x8_1).f2) t262 t263 t264 t265 _ A15.out).mono ?_); rintro e w17 ⟨rfl, hb⟩; replace HO_7 := Aside0.mk (Kd.R_below (Ku_ HO_7) hb); replace BK261 := Kb_ BK261 hb; replace HB := Ks_ HB hb; (try clear hb); (try clear hb2); (try clear hk); (try clear hi)) | ((with_reducible refine gate_dst (N := 10) rfl ?_); refine box_event ?hg (N := 10) ?hd (cs := #[.string (⟨#[]⟩ : ByteArray), .string (⟨#[]⟩ : ByteArray), .string (⟨#[]⟩ : ByteArray), .bool false]) (t := 23) ?hr ?_; (case hd => rfl); (case hg => rfl); (case hr => first | (go_simp; done) | (go_simp; rfl)); intro gb266 hg w18 hbox hb; have BK266 := Aside0.mk (hbox); have GW266 := Kw_ HB hg; have GE266 := GW266; have NB261_266 := Kl_ BK261 hg; have NB266_261 := Kr_ BK261 hg; replace HO_7 := Aside0.mk (Kd.R_below (Kd.R_elderB (Ku_ HO_7) gb266 (Nat.le_of_eq hg.symm)) hb); replace BK261 := Kb_ BK261 hb; replace HB := Ks_ HB hb; clear hb hbox hg; have hnb19 := NB266_261.out; have hnc19 := NB261_266.out; obtain ⟨hcz20_0, hcz20_1, hcz20_2, hcz20_3, hfz20_0, hfz20_1, hfz20_2, hfz20_3⟩ := Ke4_ BK266.out)))
              go_loopg [11, 12] kj9 (fun kq v11 v12 w' => ∃ (x11_4 : Bool) (x12_4 : Int), v11 = .bool x11_4 ∧ v12 = .int .i64 x12_4 ∧ Aside0 (tenementlaw08_writes.l1 kq l0 a1 a2 x7_1 x8_1 x11_4 x12_4 t262 t263 t264 t265 = some r) ∧ Aside0 (kq ≤ kj9) ∧ Aside0 (Kd.R k23 23 w' w.heap.size (fun k_ => k_ ≠ gb266) u7 x7_1) ∧ Aside0 (w'.heap[gb261]? = some (.cells #[.string ((rd_T25 l0 x8_1).f0.f0), .string ((rd_T25 l0 x8_1).f0.f1), .string ((rd_T25 l0 x8_1).f0.f2), .bool ((rd_T25 l0 x8_1).f0.f3), .bool x262004_9, .int .u8 ((rd_T25 l0 x8_1).f2)] 25 (0, 0))) ∧ Aside0 (w'.heap[gb266]? = some (.cells #[.string t262, .string t263, .string t264, .bool t265] 23 (0, 0))) ∧ Aside0 (Below w.heap.size w w'))
              case atStart => exact ⟨(false), (0), (by first | rfl | (simp; done) | (simp [*]; done)), (by first | rfl | (simp; done) | (simp [*]; done)), H', ⟨Nat.le_refl _⟩, ⟨by (with_reducible repeat (first | apply Kd.R_alloc | apply Kd.R_drewN | apply Kd.R_drew)); exact Kd.R_mono (Kd.R_far (p := ⟨gb266, 3, none⟩) (Kd.R_far (p := ⟨gb266, 2, none⟩) (Kd.R_far (p := ⟨gb266, 1, none⟩) (Kd.R_far (p := ⟨gb266, 0, none⟩) (Kd.R_mono HO_7.out (fun k_ hk => (⟨hk, hk.2⟩ : _ ∧ k_ ≠ gb266))) (fun _ hk => hk.2) (.string t262)) (fun _ hk => hk.2) (.string t263)) (fun _ hk => hk.2) (.string t264)) (fun _ hk => hk.2) (.bool t265)) (fun _ hk => hk.1.2)⟩, ⟨by (repeat (first | (with_reducible first | refine blk_drewN ?_ _ | refine blk_drew ?_ | refine blk_alloc ?_ _) | refine blk_far ?_ NB261_266.out _)); exact BK261.out⟩, ⟨by refine Kv_ ?_; refine blk_put (cs := #[.string t262, .string t263, .string t264, .bool false]) ?_ 3 _ rfl; refine Kv_ ?_; refine blk_put (cs := #[.string t262, .string t263, .string (⟨#[]⟩ : ByteArray), .bool false]) ?_ 2 _ rfl; refine Kv_ ?_; refine blk_put (cs := #[.string t262, .string (⟨#[]⟩ : ByteArray), .string (⟨#[]⟩ : ByteArray), .bool false]) ?_ 1 _ rfl; refine Kv_ ?_; refine blk_put (cs := #[.string (⟨#[]⟩ : ByteArray), .string (⟨#[]⟩ : ByteArray), .string (⟨#[]⟩ : ByteArray), .bool false]) ?_ 0 _ rfl; exact Kq_ BK266⟩, ⟨by repeat (first | (with_reducible first | exact HB.out | apply below_alloc | apply pw_below_drewN | apply below_drew1 | refine below_set ?_ GE261.out | refine below_set ?_ GE266.out) | exact HB.out)⟩⟩
              case round =>
                clear H'
                try clear c1
                try clear p2
                try clear q2
                try clear hx2
                try clear c3
                try clear c5
                try clear c5b0
                try clear c7
                try clear c8
                try clear c8b0
                try clear c9
                try clear c9b0
                try clear c13
                try clear c19
                try clear hcz12_0
                try clear hcz12_1
                try clear hcz12_2
                try clear hcz12_3
                try clear hcz12_4
                try clear hcz12_5
                try clear hcz14_0
                try clear hcz14_1
                try clear hcz14_2
                try clear hcz14_3
                try clear hcz14_4
                try clear hcz14_5
                try clear hcz16_0
                try clear hcz16_1
                try clear hcz16_2
                try clear hcz16_3
                try clear hcz16_4
                try clear hcz16_5
                try clear hcz20_0
                try clear hcz20_1
                try clear hcz20_2
                try clear hcz20_3
                try clear hfz12_0
                try clear hfz12_1
                try clear hfz12_2
                try clear hfz12_3
                try clear hfz12_4
                try clear hfz12_5
                try clear hfz14_0
                try clear hfz14_1
                try clear hfz14_2
                try clear hfz14_3
                try clear hfz14_4
                try clear hfz14_5
                try clear hfz16_0
                try clear hfz16_1
                try clear hfz16_2
                try clear hfz16_3
                try clear hfz16_4
                try clear hfz16_5
                try clear hfz20_0
                try clear hfz20_1
                try clear hfz20_2
                try clear hfz20_3
                try clear hx260_0
                try clear hx260_1
                try clear hx260_2
                try clear hx260_3
                try clear hx260_4
                try clear hx260_5
                try clear p2
                try clear p260
                try clear q2
                try clear q260
                obtain ⟨x11_4, x12_4, rfl, rfl, HA, HK4, HO_7, BK261, BK266, HB⟩ := hrel
                cases gk with
                | zero => exact absurd HA.out (by simp [tenementlaw08_writes.l1])
                | succ k4 =>
                  have H := HA.out
                  clear HA
                  simp only [tenementlaw08_writes.l1] at H
                  by_cases c21 : x12_4 < (x7_1.length : Int)
                  · rw [if_pos c21] at H
                    have c21b0 : decide (x12_4 < (x7_1.length : Int)) = true := decide_eq_true c21
                    clear c21
                    by_cases c22 : x11_4 = true
                    · subst c22
                      have H1 : (tenementlaw08_writes.l1 k4 l0 a1 a2 x7_1 x8_1 true (wrap64 (x12_4 + 1)) t262 t263 t264 t265) = some r := by rw [if_pos rfl] at H; exact H
                      clear H
                      have H := H1
                      clear H1
                      have H' := Aside0.mk H
                      clear H
                      obtain ⟨Ao23, co23, eo23⟩ := Kd.R_slice HO_7.out
                      subst eo23
                      go_wp2
                      repeat (go_quiet (fail); try go_wp2)
                      go_roundg k4
                      case measure => have := HK1.out; have := HJ3.out; have := HJ9.out; have := HK4.out; omega
                      case rel => exact ⟨(true), (wrap64 (x12_4 + 1)), (by first | rfl | (simp; done) | (simp [*]; done)), (by first | rfl | (simp; done) | (simp [*]; done)), H', ⟨by have := HK1.out; have := HJ3.out; have := HJ9.out; have := HK4.out; omega⟩, ⟨by (with_reducible repeat (first | apply Kd.R_alloc | apply Kd.R_drewN | apply Kd.R_drew)); exact HO_7.out⟩, ⟨by exact Kq_ BK261⟩, ⟨by exact Kq_ BK266⟩, ⟨by repeat (first | (with_reducible first | exact HB.out | apply below_alloc | apply pw_below_drewN | apply below_drew1 | refine below_set ?_ GE261.out | refine below_set ?_ GE266.out) | exact HB.out)⟩⟩
                    replace c22 := Bool.eq_false_iff.mpr c22
                    subst c22
                    have H1 : (if 0 ≤ x12_4 then (if ((rd_T23 x7_1 x12_4).f0).toList = t262.toList then (tenementlaw08_writes.l1 k4 l0 a1 a2 x7_1 x8_1 (((rd_T23 x7_1 x12_4).f1).toList == t263.toList) (wrap64 (x12_4 + 1)) t262 t263 t264 t265) else (tenementlaw08_writes.l1 k4 l0 a1 a2 x7_1 x8_1 false (wrap64 (x12_4 + 1)) t262 t263 t264 t265)) else (none)) = some r := by rw [if_neg (show ¬ (false = true) by decide)] at H; exact H
                    clear H
                    have H := H1
                    clear H1
                    by_cases c24 : 0 ≤ x12_4
                    rotate_left
                    · rw [if_neg c24] at H
                      exact absurd H (by simp)
                    rw [if_pos c24] at H
                    have c24b0 : decide (0 ≤ x12_4) = true := decide_eq_true c24
                    clear c24
                    by_cases c25 : ((rd_T23 x7_1 x12_4).f0).toList = t262.toList
                    rotate_left
                    · rw [if_neg c25] at H
                      have c25b0 : (((rd_T23 x7_1 x12_4).f0).toList == t262.toList) = false := beq_eq_false_iff_ne.mpr c25
                      have c25b1 : (((rd_T23 x7_1 x12_4).f0).toList != t262.toList) = true := bne_iff_ne.mpr c25
                      have H' := Aside0.mk H
                      clear H
                      obtain ⟨Ao29, co29, eo29⟩ := Kd.R_slice HO_7.out
                      subst eo29
                      have p267 : 0 ≤ (x12_4 : Int) := of_decide_eq_true (by first | (with_reducible assumption) | assumption)
                      have q267 : x12_4 < (x7_1.length : Int) := of_decide_eq_true (by first | (with_reducible assumption) | assumption)
                      obtain ⟨ad267, e267, hx267_0, hx267_1, hx267_2, hx267_3⟩ := at_T23 (Kd.R_reads' HO_7.out).2.2 x12_4 p267 q267
                      cases e267
                      replace p267 := eq_true p267
                      replace q267 := eq_true q267
                      have hnb30 := NB266_261.out
                      have hnc30 := NB261_266.out
                      obtain ⟨hcz31_0, hcz31_1, hcz31_2, hcz31_3, hfz31_0, hfz31_1, hfz31_2, hfz31_3⟩ := Ke4_ BK266.out
                      go_wp2
                      repeat (go_quiet (fail); try go_wp2)
                      go_roundg k4
                      case measure => have := HK1.out; have := HJ3.out; have := HJ9.out; have := HK4.out; omega
                      case rel => exact ⟨(false), (wrap64 (x12_4 + 1)), (by first | rfl | (simp; done) | (simp [*]; done)), (by first | rfl | (simp; done) | (simp [*]; done)), H', ⟨by have := HK1.out; have := HJ3.out; have := HJ9.out; have := HK4.out; omega⟩, ⟨by (with_reducible repeat (first | apply Kd.R_alloc | apply Kd.R_drewN | apply Kd.R_drew)); exact HO_7.out⟩, ⟨by exact Kq_ BK261⟩, ⟨by exact Kq_ BK266⟩, ⟨by repeat (first | (with_reducible first | exact HB.out | apply below_alloc | apply pw_below_drewN | apply below_drew1 | refine below_set ?_ GE261.out | refine below_set ?_ GE266.out) | exact HB.out)⟩⟩
                    rw [if_pos c25] at H
                    have c25b0 : (((rd_T23 x7_1 x12_4).f0).toList == t262.toList) = true := beq_iff_eq.mpr c25
                    have c25b1 : (((rd_T23 x7_1 x12_4).f0).toList != t262.toList) = false := bne_eq_false_iff_eq.mpr c25
                    clear c25
                    have H' := Aside0.mk H
                    clear H
                    obtain ⟨Ao26, co26, eo26⟩ := Kd.R_slice HO_7.out
                    subst eo26
                    have p267 : 0 ≤ (x12_4 : Int) := of_decide_eq_true (by first | (with_reducible assumption) | assumption)
                    have q267 : x12_4 < (x7_1.length : Int) := of_decide_eq_true (by first | (with_reducible assumption) | assumption)
                    obtain ⟨ad267, e267, hx267_0, hx267_1, hx267_2, hx267_3⟩ := at_T23 (Kd.R_reads' HO_7.out).2.2 x12_4 p267 q267
                    cases e267
                    replace p267 := eq_true p267
                    replace q267 := eq_true q267
                    have hnb27 := NB266_261.out
                    have hnc27 := NB261_266.out
                    obtain ⟨hcz28_0, hcz28_1, hcz28_2, hcz28_3, hfz28_0, hfz28_1, hfz28_2, hfz28_3⟩ := Ke4_ BK266.out
                    have p268 : 0 ≤ (x12_4 : Int) := of_decide_eq_true (by first | (with_reducible assumption) | assumption)
                    have q268 : x12_4 < (x7_1.length : Int) := of_decide_eq_true (by first | (with_reducible assumption) | assumption)
                    obtain ⟨ad268, e268, hx268_0, hx268_1, hx268_2, hx268_3⟩ := at_T23 (Kd.R_reads' HO_7.out).2.2 x12_4 p268 q268
                    obtain rfl : ad267 = ad268 := (by injection e268)
                    replace p268 := eq_true p268
                    replace q268 := eq_true q268
                    go_wp2
                    repeat (go_quiet (fail); try go_wp2)
                    go_roundg k4
                    case measure => have := HK1.out; have := HJ3.out; have := HJ9.out; have := HK4.out; omega
                    case rel => exact ⟨((((rd_T23 x7_1 x12_4).f1).toList == t263.toList)), (wrap64 (x12_4 + 1)), (by first | rfl | (simp; done) | (simp [*]; done)), (by first | rfl | (simp; done) | (simp [*]; done)), H', ⟨by have := HK1.out; have := HJ3.out; have := HJ9.out; have := HK4.out; omega⟩, ⟨by (with_reducible repeat (first | apply Kd.R_alloc | apply Kd.R_drewN | apply Kd.R_drew)); exact HO_7.out⟩, ⟨by exact Kq_ BK261⟩, ⟨by exact Kq_ BK266⟩, ⟨by repeat (first | (with_reducible first | exact HB.out | apply below_alloc | apply pw_below_drewN | apply below_drew1 | refine below_set ?_ GE261.out | refine below_set ?_ GE266.out) | exact HB.out)⟩⟩
                  rw [if_neg c21] at H
                  have c21b0 : decide (x12_4 < (x7_1.length : Int)) = false := decide_eq_false c21
                  clear c21
                  by_cases c32 : a2 = true
                  rotate_left
                  · replace c32 := Bool.eq_false_iff.mpr c32
                    subst c32
                    have H1 : (if x7_1.length < 2513169434916 then (tenementlaw08_writes.l0 k4 l0 a1 false (x7_1 ++ [(⟨t262, t263, t264, t265⟩ : S23)]) (wrap64 (x8_1 + 1))) else (none)) = some r := by rw [if_neg (show ¬ (false = true) by decide)] at H; exact H
                    clear H
                    have H := H1
                    clear H1
                    by_cases c40 : x7_1.length < 2513169434916
                    rotate_left
                    · rw [if_neg c40] at H
                      exact absurd H (by simp)
                    rw [if_pos c40] at H
                    have LMc40 := Aside0.mk c40
                    clear c40
                    obtain ⟨y272, hy272⟩ : ∃ y_ : List (S23), y_ = (x7_1 ++ [(⟨t262, t263, t264, t265⟩ : S23)]) := ⟨_, rfl⟩
                    replace H : (tenementlaw08_writes.l0 k4 l0 a1 false y272 (wrap64 (x8_1 + 1))) = some r := by first | (rw [hy272]; with_reducible exact H) | (have H2_ := (Option.bind_some _ _).symm.trans H; rw [hy272]; with_reducible exact H2_) | (have H2_ := (Option.bind_some _ _).symm.trans H; with_reducible exact H2_) | with_reducible exact H | (rw [hy272]; exact H) | exact H
                    have Ny272 := Aside0.mk hy272
                    clear hy272
                    have H' := Aside0.mk H
                    clear H
                    obtain ⟨Ao41, co41, eo41⟩ := Kd.R_slice HO_7.out
                    subst eo41
                    have hnb42 := NB266_261.out
                    have hnc42 := NB261_266.out
                    obtain ⟨hcz43_0, hcz43_1, hcz43_2, hcz43_3, hfz43_0, hfz43_1, hfz43_2, hfz43_3⟩ := Ke4_ BK266.out
                    go_wp2_with (first | ((with_reducible refine gate_builtin (b := .append) (xs := #[.tmp 66, .tmp 68]) rfl ?_); at_builtin; refine Kd.R_append k23 (w0 := w) w.heap.size rfl (.tmp 66) (.tmp 68) 41 23 (.agg #[(.string ⟨#[]⟩), (.string ⟨#[]⟩), (.string ⟨#[]⟩), (.bool false)]) 56 rfl Try.underlying41 info23 rfl (by decide) (by omega) (.slice Ao41 x7_1.length co41) x7_1 (⟨t262, t263, t264, t265⟩ : S23) [.string t262, .string t263, .string t264, .bool t265] (fun k_ => k_ ≠ gb266) (fun _ => False) rfl rfl ?aP (fun _ hk => hk.elim) ?aF ?aO ?aB ?aS ?aL ?_; (case aP => exact k23_mkM _ _ _ (⟨t262, t263, t264, t265⟩ : S23)); (case aB => exact (by repeat (first | (with_reducible first | exact HB.out | apply below_alloc | apply pw_below_drewN | apply below_drew1 | refine below_set ?_ GE261.out | refine below_set ?_ GE266.out) | exact HB.out))); (case aF => exact (fun k_ hk => Kd.freshB (g := gb266) (o := .cells #[.string t262, .string t263, .string t264, .bool t265] 23 (0, 0)) (Kq_ BK266) k_ hk)); (case aO => exact (Ku_ HO_7)); (case aS => exact (below_size (by repeat (first | (with_reducible first | exact HB.out | apply below_alloc | apply pw_below_drewN | apply below_drew1 | refine below_set ?_ GE261.out | refine below_set ?_ GE266.out) | exact HB.out)))); (case aL => have := LMc40.out; omega); intro v273 w44 ho hb hg hat; rw [← Ny272.out] at ho; have HO274 := Aside0.mk (ho); replace BK261 := Aside0.mk (blk_grown (g := gb261) (o := .cells #[.string ((rd_T25 l0 x8_1).f0.f0), .string ((rd_T25 l0 x8_1).f0.f1), .string ((rd_T25 l0 x8_1).f0.f2), .bool ((rd_T25 l0 x8_1).f0.f3), .bool x262004_9, .int .u8 ((rd_T25 l0 x8_1).f2)] 25 (0, 0)) (Kq_ BK261) hg (Kd.R_ne HO_7.out BK261.out (by decide))); replace BK266 := Aside0.mk (blk_grown (g := gb266) (o := .cells #[.string t262, .string t263, .string t264, .bool t265] 23 (0, 0)) (Kq_ BK266) hg (Kd.R_away HO_7.out (fun _ hk => hk))); replace HB := Aside0.mk (hb); clear HO_7; clear ho hb hg hat))
                    repeat (go_quiet (first | ((with_reducible refine gate_builtin (b := .append) (xs := #[.tmp 66, .tmp 68]) rfl ?_); at_builtin; refine Kd.R_append k23 (w0 := w) w.heap.size rfl (.tmp 66) (.tmp 68) 41 23 (.agg #[(.string ⟨#[]⟩), (.string ⟨#[]⟩), (.string ⟨#[]⟩), (.bool false)]) 56 rfl Try.underlying41 info23 rfl (by decide) (by omega) (.slice Ao41 x7_1.length co41) x7_1 (⟨t262, t263, t264, t265⟩ : S23) [.string t262, .string t263, .string t264, .bool t265] (fun k_ => k_ ≠ gb266) (fun _ => False) rfl rfl ?aP (fun _ hk => hk.elim) ?aF ?aO ?aB ?aS ?aL ?_; (case aP => exact k23_mkM _ _ _ (⟨t262, t263, t264, t265⟩ : S23)); (case aB => exact (by repeat (first | (with_reducible first | exact HB.out | apply below_alloc | apply pw_below_drewN | apply below_drew1 | refine below_set ?_ GE261.out | refine below_set ?_ GE266.out) | exact HB.out))); (case aF => exact (fun k_ hk => Kd.freshB (g := gb266) (o := .cells #[.string t262, .string t263, .string t264, .bool t265] 23 (0, 0)) (Kq_ BK266) k_ hk)); (case aO => exact (Ku_ HO_7)); (case aS => exact (below_size (by repeat (first | (with_reducible first | exact HB.out | apply below_alloc | apply pw_below_drewN | apply below_drew1 | refine below_set ?_ GE261.out | refine below_set ?_ GE266.out) | exact HB.out)))); (case aL => have := LMc40.out; omega); intro v273 w44 ho hb hg hat; rw [← Ny272.out] at ho; have HO274 := Aside0.mk (ho); replace BK261 := Aside0.mk (blk_grown (g := gb261) (o := .cells #[.string ((rd_T25 l0 x8_1).f0.f0), .string ((rd_T25 l0 x8_1).f0.f1), .string ((rd_T25 l0 x8_1).f0.f2), .bool ((rd_T25 l0 x8_1).f0.f3), .bool x262004_9, .int .u8 ((rd_T25 l0 x8_1).f2)] 25 (0, 0)) (Kq_ BK261) hg (Kd.R_ne HO_7.out BK261.out (by decide))); replace BK266 := Aside0.mk (blk_grown (g := gb266) (o := .cells #[.string t262, .string t263, .string t264, .bool t265] 23 (0, 0)) (Kq_ BK266) hg (Kd.R_away HO_7.out (fun _ hk => hk))); replace HB := Aside0.mk (hb); clear HO_7; clear ho hb hg hat)); try go_wp2_with (first | ((with_reducible refine gate_builtin (b := .append) (xs := #[.tmp 66, .tmp 68]) rfl ?_); at_builtin; refine Kd.R_append k23 (w0 := w) w.heap.size rfl (.tmp 66) (.tmp 68) 41 23 (.agg #[(.string ⟨#[]⟩), (.string ⟨#[]⟩), (.string ⟨#[]⟩), (.bool false)]) 56 rfl Try.underlying41 info23 rfl (by decide) (by omega) (.slice Ao41 x7_1.length co41) x7_1 (⟨t262, t263, t264, t265⟩ : S23) [.string t262, .string t263, .string t264, .bool t265] (fun k_ => k_ ≠ gb266) (fun _ => False) rfl rfl ?aP (fun _ hk => hk.elim) ?aF ?aO ?aB ?aS ?aL ?_; (case aP => exact k23_mkM _ _ _ (⟨t262, t263, t264, t265⟩ : S23)); (case aB => exact (by repeat (first | (with_reducible first | exact HB.out | apply below_alloc | apply pw_below_drewN | apply below_drew1 | refine below_set ?_ GE261.out | refine below_set ?_ GE266.out) | exact HB.out))); (case aF => exact (fun k_ hk => Kd.freshB (g := gb266) (o := .cells #[.string t262, .string t263, .string t264, .bool t265] 23 (0, 0)) (Kq_ BK266) k_ hk)); (case aO => exact (Ku_ HO_7)); (case aS => exact (below_size (by repeat (first | (with_reducible first | exact HB.out | apply below_alloc | apply pw_below_drewN | apply below_drew1 | refine below_set ?_ GE261.out | refine below_set ?_ GE266.out) | exact HB.out)))); (case aL => have := LMc40.out; omega); intro v273 w44 ho hb hg hat; rw [← Ny272.out] at ho; have HO274 := Aside0.mk (ho); replace BK261 := Aside0.mk (blk_grown (g := gb261) (o := .cells #[.string ((rd_T25 l0 x8_1).f0.f0), .string ((rd_T25 l0 x8_1).f0.f1), .string ((rd_T25 l0 x8_1).f0.f2), .bool ((rd_T25 l0 x8_1).f0.f3), .bool x262004_9, .int .u8 ((rd_T25 l0 x8_1).f2)] 25 (0, 0)) (Kq_ BK261) hg (Kd.R_ne HO_7.out BK261.out (by decide))); replace BK266 := Aside0.mk (blk_grown (g := gb266) (o := .cells #[.string t262, .string t263, .string t264, .bool t265] 23 (0, 0)) (Kq_ BK266) hg (Kd.R_away HO_7.out (fun _ hk => hk))); replace HB := Aside0.mk (hb); clear HO_7; clear ho hb hg hat)))
                    go_roundg k4
                    case measure => have := HK1.out; have := HJ3.out; have := HJ9.out; have := HK4.out; omega
                    case rel => exact ⟨(y272), (wrap64 (x8_1 + 1)), (by first | rfl | (simp; done) | (simp [*]; done)), H', ⟨by have := HK1.out; have := HJ3.out; have := HJ9.out; have := HK4.out; omega⟩, ⟨by (with_reducible repeat (first | apply Kd.R_alloc | apply Kd.R_drewN | apply Kd.R_drew)); exact Kd.R_mono HO274.out (fun _ hk => trivial)⟩, ⟨by repeat (first | (with_reducible first | exact HB.out | apply below_alloc | apply pw_below_drewN | apply below_drew1 | refine below_set ?_ GE261.out | refine below_set ?_ GE266.out) | exact HB.out)⟩⟩
                  subst c32
                  have H1 : (if x11_4 = true then (tenementlaw08_writes.l0 k4 l0 a1 true x7_1 (wrap64 (x8_1 + 1))) else (if x7_1.length < 2513169434916 then (tenementlaw08_writes.l0 k4 l0 a1 true (x7_1 ++ [(⟨t262, t263, t264, t265⟩ : S23)]) (wrap64 (x8_1 + 1))) else (none))) = some r := by rw [if_pos rfl] at H; exact H
                  clear H
                  have H := H1
                  clear H1
                  by_cases c33 : x11_4 = true
                  · subst c33
                    have H1 : (tenementlaw08_writes.l0 k4 l0 a1 true x7_1 (wrap64 (x8_1 + 1))) = some r := by rw [if_pos rfl] at H; exact H
                    clear H
                    have H := H1
                    clear H1
                    have H' := Aside0.mk H
                    clear H
                    obtain ⟨Ao34, co34, eo34⟩ := Kd.R_slice HO_7.out
                    subst eo34
                    go_wp2
                    repeat (go_quiet (fail); try go_wp2)
                    go_roundg k4
                    case measure => have := HK1.out; have := HJ3.out; have := HJ9.out; have := HK4.out; omega
                    case rel => exact ⟨(x7_1), (wrap64 (x8_1 + 1)), (by first | rfl | (simp; done) | (simp [*]; done)), H', ⟨by have := HK1.out; have := HJ3.out; have := HJ9.out; have := HK4.out; omega⟩, ⟨by (with_reducible repeat (first | apply Kd.R_alloc | apply Kd.R_drewN | apply Kd.R_drew)); exact Kd.R_mono HO_7.out (fun _ hk => trivial)⟩, ⟨by repeat (first | (with_reducible first | exact HB.out | apply below_alloc | apply pw_below_drewN | apply below_drew1 | refine below_set ?_ GE261.out | refine below_set ?_ GE266.out) | exact HB.out)⟩⟩
                  replace c33 := Bool.eq_false_iff.mpr c33
                  subst c33
                  have H1 : (if x7_1.length < 2513169434916 then (tenementlaw08_writes.l0 k4 l0 a1 true (x7_1 ++ [(⟨t262, t263, t264, t265⟩ : S23)]) (wrap64 (x8_1 + 1))) else (none)) = some r := by rw [if_neg (show ¬ (false = true) by decide)] at H; exact H
                  clear H
                  have H := H1
                  clear H1
                  by_cases c35 : x7_1.length < 2513169434916
                  rotate_left
                  · rw [if_neg c35] at H
                    exact absurd H (by simp)
                  rw [if_pos c35] at H
                  have LMc35 := Aside0.mk c35
                  clear c35
                  obtain ⟨y269, hy269⟩ : ∃ y_ : List (S23), y_ = (x7_1 ++ [(⟨t262, t263, t264, t265⟩ : S23)]) := ⟨_, rfl⟩
                  replace H : (tenementlaw08_writes.l0 k4 l0 a1 true y269 (wrap64 (x8_1 + 1))) = some r := by first | (rw [hy269]; with_reducible exact H) | (have H2_ := (Option.bind_some _ _).symm.trans H; rw [hy269]; with_reducible exact H2_) | (have H2_ := (Option.bind_some _ _).symm.trans H; with_reducible exact H2_) | with_reducible exact H | (rw [hy269]; exact H) | exact H
                  have Ny269 := Aside0.mk hy269
                  clear hy269
                  have H' := Aside0.mk H
                  clear H
                  obtain ⟨Ao36, co36, eo36⟩ := Kd.R_slice HO_7.out
                  subst eo36
                  have hnb37 := NB266_261.out
                  have hnc37 := NB261_266.out
                  obtain ⟨hcz38_0, hcz38_1, hcz38_2, hcz38_3, hfz38_0, hfz38_1, hfz38_2, hfz38_3⟩ := Ke4_ BK266.out
                  go_wp2_with (first | ((with_reducible refine gate_builtin (b := .append) (xs := #[.tmp 66, .tmp 68]) rfl ?_); at_builtin; refine Kd.R_append k23 (w0 := w) w.heap.size rfl (.tmp 66) (.tmp 68) 41 23 (.agg #[(.string ⟨#[]⟩), (.string ⟨#[]⟩), (.string ⟨#[]⟩), (.bool false)]) 56 rfl Try.underlying41 info23 rfl (by decide) (by omega) (.slice Ao36 x7_1.length co36) x7_1 (⟨t262, t263, t264, t265⟩ : S23) [.string t262, .string t263, .string t264, .bool t265] (fun k_ => k_ ≠ gb266) (fun _ => False) rfl rfl ?aP (fun _ hk => hk.elim) ?aF ?aO ?aB ?aS ?aL ?_; (case aP => exact k23_mkM _ _ _ (⟨t262, t263, t264, t265⟩ : S23)); (case aB => exact (by repeat (first | (with_reducible first | exact HB.out | apply below_alloc | apply pw_below_drewN | apply below_drew1 | refine below_set ?_ GE261.out | refine below_set ?_ GE266.out) | exact HB.out))); (case aF => exact (fun k_ hk => Kd.freshB (g := gb266) (o := .cells #[.string t262, .string t263, .string t264, .bool t265] 23 (0, 0)) (Kq_ BK266) k_ hk)); (case aO => exact (Ku_ HO_7)); (case aS => exact (below_size (by repeat (first | (with_reducible first | exact HB.out | apply below_alloc | apply pw_below_drewN | apply below_drew1 | refine below_set ?_ GE261.out | refine below_set ?_ GE266.out) | exact HB.out)))); (case aL => have := LMc35.out; omega); intro v270 w39 ho hb hg hat; rw [← Ny269.out] at ho; have HO271 := Aside0.mk (ho); replace BK261 := Aside0.mk (blk_grown (g := gb261) (o := .cells #[.string ((rd_T25 l0 x8_1).f0.f0), .string ((rd_T25 l0 x8_1).f0.f1), .string ((rd_T25 l0 x8_1).f0.f2), .bool ((rd_T25 l0 x8_1).f0.f3), .bool x262004_9, .int .u8 ((rd_T25 l0 x8_1).f2)] 25 (0, 0)) (Kq_ BK261) hg (Kd.R_ne HO_7.out BK261.out (by decide))); replace BK266 := Aside0.mk (blk_grown (g := gb266) (o := .cells #[.string t262, .string t263, .string t264, .bool t265] 23 (0, 0)) (Kq_ BK266) hg (Kd.R_away HO_7.out (fun _ hk => hk))); replace HB := Aside0.mk (hb); clear HO_7; clear ho hb hg hat))
                  repeat (go_quiet (first | ((with_reducible refine gate_builtin (b := .append) (xs := #[.tmp 66, .tmp 68]) rfl ?_); at_builtin; refine Kd.R_append k23 (w0 := w) w.heap.size rfl (.tmp 66) (.tmp 68) 41 23 (.agg #[(.string ⟨#[]⟩), (.string ⟨#[]⟩), (.string ⟨#[]⟩), (.bool false)]) 56 rfl Try.underlying41 info23 rfl (by decide) (by omega) (.slice Ao36 x7_1.length co36) x7_1 (⟨t262, t263, t264, t265⟩ : S23) [.string t262, .string t263, .string t264, .bool t265] (fun k_ => k_ ≠ gb266) (fun _ => False) rfl rfl ?aP (fun _ hk => hk.elim) ?aF ?aO ?aB ?aS ?aL ?_; (case aP => exact k23_mkM _ _ _ (⟨t262, t263, t264, t265⟩ : S23)); (case aB => exact (by repeat (first | (with_reducible first | exact HB.out | apply below_alloc | apply pw_below_drewN | apply below_drew1 | refine below_set ?_ GE261.out | refine below_set ?_ GE266.out) | exact HB.out))); (case aF => exact (fun k_ hk => Kd.freshB (g := gb266) (o := .cells #[.string t262, .string t263, .string t264, .bool t265] 23 (0, 0)) (Kq_ BK266) k_ hk)); (case aO => exact (Ku_ HO_7)); (case aS => exact (below_size (by repeat (first | (with_reducible first | exact HB.out | apply below_alloc | apply pw_below_drewN | apply below_drew1 | refine below_set ?_ GE261.out | refine below_set ?_ GE266.out) | exact HB.out)))); (case aL => have := LMc35.out; omega); intro v270 w39 ho hb hg hat; rw [← Ny269.out] at ho; have HO271 := Aside0.mk (ho); replace BK261 := Aside0.mk (blk_grown (g := gb261) (o := .cells #[.string ((rd_T25 l0 x8_1).f0.f0), .string ((rd_T25 l0 x8_1).f0.f1), .string ((rd_T25 l0 x8_1).f0.f2), .bool ((rd_T25 l0 x8_1).f0.f3), .bool x262004_9, .int .u8 ((rd_T25 l0 x8_1).f2)] 25 (0, 0)) (Kq_ BK261) hg (Kd.R_ne HO_7.out BK261.out (by decide))); replace BK266 := Aside0.mk (blk_grown (g := gb266) (o := .cells #[.string t262, .string t263, .string t264, .bool t265] 23 (0, 0)) (Kq_ BK266) hg (Kd.R_away HO_7.out (fun _ hk => hk))); replace HB := Aside0.mk (hb); clear HO_7; clear ho hb hg hat)); try go_wp2_with (first | ((with_reducible refine gate_builtin (b := .append) (xs := #[.tmp 66, .tmp 68]) rfl ?_); at_builtin; refine Kd.R_append k23 (w0 := w) w.heap.size rfl (.tmp 66) (.tmp 68) 41 23 (.agg #[(.string ⟨#[]⟩), (.string ⟨#[]⟩), (.string ⟨#[]⟩), (.bool false)]) 56 rfl Try.underlying41 info23 rfl (by decide) (by omega) (.slice Ao36 x7_1.length co36) x7_1 (⟨t262, t263, t264, t265⟩ : S23) [.string t262, .string t263, .string t264, .bool t265] (fun k_ => k_ ≠ gb266) (fun _ => False) rfl rfl ?aP (fun _ hk => hk.elim) ?aF ?aO ?aB ?aS ?aL ?_; (case aP => exact k23_mkM _ _ _ (⟨t262, t263, t264, t265⟩ : S23)); (case aB => exact (by repeat (first | (with_reducible first | exact HB.out | apply below_alloc | apply pw_below_drewN | apply below_drew1 | refine below_set ?_ GE261.out | refine below_set ?_ GE266.out) | exact HB.out))); (case aF => exact (fun k_ hk => Kd.freshB (g := gb266) (o := .cells #[.string t262, .string t263, .string t264, .bool t265] 23 (0, 0)) (Kq_ BK266) k_ hk)); (case aO => exact (Ku_ HO_7)); (case aS => exact (below_size (by repeat (first | (with_reducible first | exact HB.out | apply below_alloc | apply pw_below_drewN | apply below_drew1 | refine below_set ?_ GE261.out | refine below_set ?_ GE266.out) | exact HB.out)))); (case aL => have := LMc35.out; omega); intro v270 w39 ho hb hg hat; rw [← Ny269.out] at ho; have HO271 := Aside0.mk (ho); replace BK261 := Aside0.mk (blk_grown (g := gb261) (o := .cells #[.string ((rd_T25 l0 x8_1).f0.f0), .string ((rd_T25 l0 x8_1).f0.f1), .string ((rd_T25 l0 x8_1).f0.f2), .bool ((rd_T25 l0 x8_1).f0.f3), .bool x262004_9, .int .u8 ((rd_T25 l0 x8_1).f2)] 25 (0, 0)) (Kq_ BK261) hg (Kd.R_ne HO_7.out BK261.out (by decide))); replace BK266 := Aside0.mk (blk_grown (g := gb266) (o := .cells #[.string t262, .string t263, .string t264, .bool t265] 23 (0, 0)) (Kq_ BK266) hg (Kd.R_away HO_7.out (fun _ hk => hk))); replace HB := Aside0.mk (hb); clear HO_7; clear ho hb hg hat)))
                  go_roundg k4
                  case measure => have := HK1.out; have := HJ3.out; have := HJ9.out; have := HK4.out; omega
                  case rel => exact ⟨(y269), (wrap64 (x8_1 + 1)), (by first | rfl | (simp; done) | (simp [*]; done)), H', ⟨by have := HK1.out; have := HJ3.out; have := HJ9.out; have := HK4.out; omega⟩, ⟨by (with_reducible repeat (first | apply Kd.R_alloc | apply Kd.R_drewN | apply Kd.R_drew)); exact Kd.R_mono HO271.out (fun _ hk => trivial)⟩, ⟨by repeat (first | (with_reducible first | exact HB.out | apply below_alloc | apply pw_below_drewN | apply below_drew1 | refine below_set ?_ GE261.out | refine below_set ?_ GE266.out) | exact HB.out)⟩⟩
end Go.Proofs.Ytoogchgoiciggaa.Q
