import Derived.Test.YtbjpfgmmmdfbeaaQx0
import Derived.Test.YtbjpfgmmmdfbeaaGQuotaPlays0
namespace Go.Proofs.Ytbjpfgmmmdfbeaa.Q
open Go.RowKit Go.Proofs.YtbjpfgmmmdfbeaaW.PrintWords Go.Proofs.YtbjpfgmmmdfbeaaW.PrintLast Go.Proofs.YtbjpfgmmmdfbeaaW.PrintMore
attribute [local go_sem] max2_int min2_int max_two min_two max_three min_three max_four min_four   -- for this text's walks alone
set_option linter.unusedVariables false
set_option linter.unusedSimpArgs false
/-! ### tenementlaw13_writes: function 11 -/
mutual
def tenementlaw13_writes.l0 : Nat → List (S64) → Int → Bool → List (S45) → Int → Option ((List (S45)))
  | 0, _, _, _, _, _ => none
  | k + 1, x0, x1, x2, x7, x8 => if x8 < (x0.length : Int) then (tenementlaw13_writes.j1 k x0 x1 x2 x7 x8 (decide ((x7.length : Int) < x1))) else (tenementlaw13_writes.j1 k x0 x1 x2 x7 x8 false)
def tenementlaw13_writes.j1 : Nat → List (S64) → Int → Bool → List (S45) → Int → Bool → Option ((List (S45)))
  | 0, _, _, _, _, _, _ => none
  | k + 1, x0, x1, x2, x7, x8, x22 => if x22 = true then (if 0 ≤ x8 then (if x8 < (x0.length : Int) then (if x2 = true then (tenementlaw13_writes.j2 k x0 x1 x2 x7 x8 ((rd_T64 x0 x8).f0.f0) ((rd_T64 x0 x8).f0.f1) ((rd_T64 x0 x8).f0.f2) ((rd_T64 x0 x8).f0.f3) true ((rd_T64 x0 x8).f2)) else (tenementlaw13_writes.j2 k x0 x1 x2 x7 x8 ((rd_T64 x0 x8).f0.f0) ((rd_T64 x0 x8).f0.f1) ((rd_T64 x0 x8).f0.f2) ((rd_T64 x0 x8).f0.f3) ((rd_T64 x0 x8).f1) ((rd_T64 x0 x8).f2))) else (none)) else (none)) else (some x7)
def tenementlaw13_writes.j2 : Nat → List (S64) → Int → Bool → List (S45) → Int → ByteArray → ByteArray → ByteArray → Bool → Bool → Int → Option ((List (S45)))
  | 0, _, _, _, _, _, _, _, _, _, _, _ => none
  | k + 1, x0, x1, x2, x7, x8, x107000, x107001, x107002, x107003, x107004, x107005 => (tenementlaw13_Put_write.f x107000 x107001 x107002 x107003 x107004 x107005).bind fun bt107 => (tenementlaw13_writes.l1 k x0 x1 x2 x7 x8 false 0 bt107.1 bt107.2.1 bt107.2.2.1 bt107.2.2.2)
def tenementlaw13_writes.l1 : Nat → List (S64) → Int → Bool → List (S45) → Int → Bool → Int → ByteArray → ByteArray → ByteArray → Bool → Option ((List (S45)))
  | 0, _, _, _, _, _, _, _, _, _, _, _ => none
  | k + 1, x0, x1, x2, x7, x8, x11, x12, x112000, x112001, x112002, x112003 => if x12 < (x7.length : Int) then (if x11 = true then (tenementlaw13_writes.l1 k x0 x1 x2 x7 x8 true (wrap64 (x12 + 1)) x112000 x112001 x112002 x112003) else (if 0 ≤ x12 then (if ((rd_T45 x7 x12).f0).toList = x112000.toList then (tenementlaw13_writes.l1 k x0 x1 x2 x7 x8 (((rd_T45 x7 x12).f1).toList == x112001.toList) (wrap64 (x12 + 1)) x112000 x112001 x112002 x112003) else (tenementlaw13_writes.l1 k x0 x1 x2 x7 x8 false (wrap64 (x12 + 1)) x112000 x112001 x112002 x112003)) else (none))) else (if x2 = true then (if x11 = true then (tenementlaw13_writes.l0 k x0 x1 x2 x7 (wrap64 (x8 + 1))) else (if x7.length < 2513169434916 then (tenementlaw13_writes.l0 k x0 x1 x2 (x7 ++ [(⟨x112000, x112001, x112002, x112003⟩ : S45)]) (wrap64 (x8 + 1))) else (none))) else (if x7.length < 2513169434916 then (tenementlaw13_writes.l0 k x0 x1 x2 (x7 ++ [(⟨x112000, x112001, x112002, x112003⟩ : S45)]) (wrap64 (x8 + 1))) else (none)))
end
def tenementlaw13_writes.f (k : Nat) (l0 : List (S64)) (a1 : Int) (a2 : Bool) : Option ((List (S45))) := tenementlaw13_writes.l0 k l0 a1 a2 ([] : List (S45)) 0
theorem tenementlaw13_writes.mono_l : ∀ k, (∀ y0 y1 y2 y3 y4, LeO (tenementlaw13_writes.l0 k y0 y1 y2 y3 y4) (tenementlaw13_writes.l0 (k + 1) y0 y1 y2 y3 y4)) ∧ (∀ y0 y1 y2 y3 y4 y5, LeO (tenementlaw13_writes.j1 k y0 y1 y2 y3 y4 y5) (tenementlaw13_writes.j1 (k + 1) y0 y1 y2 y3 y4 y5)) ∧ (∀ y0 y1 y2 y3 y4 y5 y6 y7 y8 y9 y10, LeO (tenementlaw13_writes.j2 k y0 y1 y2 y3 y4 y5 y6 y7 y8 y9 y10) (tenementlaw13_writes.j2 (k + 1) y0 y1 y2 y3 y4 y5 y6 y7 y8 y9 y10)) ∧ (∀ y0 y1 y2 y3 y4 y5 y6 y7 y8 y9 y10, LeO (tenementlaw13_writes.l1 k y0 y1 y2 y3 y4 y5 y6 y7 y8 y9 y10) (tenementlaw13_writes.l1 (k + 1) y0 y1 y2 y3 y4 y5 y6 y7 y8 y9 y10))
  | 0 => ⟨fun _ _ _ _ _ r h => by simp [tenementlaw13_writes.l0] at h, fun _ _ _ _ _ _ r h => by simp [tenementlaw13_writes.j1] at h, fun _ _ _ _ _ _ _ _ _ _ _ r h => by simp [tenementlaw13_writes.j2] at h, fun _ _ _ _ _ _ _ _ _ _ _ r h => by simp [tenementlaw13_writes.l1] at h⟩
  | k + 1 => by
    obtain ⟨ih0, ih1, ih2, ih3⟩ := tenementlaw13_writes.mono_l k
    refine ⟨?_, ?_, ?_, ?_⟩
    · intro y0 y1 y2 y3 y4
      unfold tenementlaw13_writes.l0
      repeat' first
      | (with_reducible exact ih0 _ _ _ _ _)
      | (with_reducible exact ih1 _ _ _ _ _ _)
      | (with_reducible exact ih2 _ _ _ _ _ _ _ _ _ _ _)
      | (with_reducible exact ih3 _ _ _ _ _ _ _ _ _ _ _)
      | (with_reducible exact LeO.refl _)
      | (with_reducible exact LeO.none _)
      | (with_reducible refine LeO.ite ?_ ?_)
      | (with_reducible refine LeO.bind ?_ (fun _ => ?_))
      | exact ih0 _ _ _ _ _
      | exact ih1 _ _ _ _ _ _
      | exact ih2 _ _ _ _ _ _ _ _ _ _ _
      | exact ih3 _ _ _ _ _ _ _ _ _ _ _
      | exact LeO.none _
      | refine LeO.ite ?_ ?_
      | refine LeO.bind ?_ (fun _ => ?_)
    · intro y0 y1 y2 y3 y4 y5
      unfold tenementlaw13_writes.j1
      repeat' first
      | (with_reducible exact ih0 _ _ _ _ _)
      | (with_reducible exact ih1 _ _ _ _ _ _)
      | (with_reducible exact ih2 _ _ _ _ _ _ _ _ _ _ _)
      | (with_reducible exact ih3 _ _ _ _ _ _ _ _ _ _ _)
      | (with_reducible exact LeO.refl _)
      | (with_reducible exact LeO.none _)
      | (with_reducible refine LeO.ite ?_ ?_)
      | (with_reducible refine LeO.bind ?_ (fun _ => ?_))
      | exact ih0 _ _ _ _ _
      | exact ih1 _ _ _ _ _ _
      | exact ih2 _ _ _ _ _ _ _ _ _ _ _
      | exact ih3 _ _ _ _ _ _ _ _ _ _ _
      | exact LeO.none _
      | refine LeO.ite ?_ ?_
      | refine LeO.bind ?_ (fun _ => ?_)
    · intro y0 y1 y2 y3 y4 y5 y6 y7 y8 y9 y10
      unfold tenementlaw13_writes.j2
      repeat' first
      | (with_reducible exact ih0 _ _ _ _ _)
      | (with_reducible exact ih1 _ _ _ _ _ _)
      | (with_reducible exact ih2 _ _ _ _ _ _ _ _ _ _ _)
      | (with_reducible exact ih3 _ _ _ _ _ _ _ _ _ _ _)
      | (with_reducible exact LeO.refl _)
      | (with_reducible exact LeO.none _)
      | (with_reducible refine LeO.ite ?_ ?_)
      | (with_reducible refine LeO.bind ?_ (fun _ => ?_))
      | exact ih0 _ _ _ _ _
      | exact ih1 _ _ _ _ _ _
      | exact ih2 _ _ _ _ _ _ _ _ _ _ _
      | exact ih3 _ _ _ _ _ _ _ _ _ _ _
      | exact LeO.none _
      | refine LeO.ite ?_ ?_
      | refine LeO.bind ?_ (fun _ => ?_)
    · intro y0 y1 y2 y3 y4 y5 y6 y7 y8 y9 y10
      unfold tenementlaw13_writes.l1
      repeat' first
      | (with_reducible exact ih0 _ _ _ _ _)
      | (with_reducible exact ih1 _ _ _ _ _ _)
      | (with_reducible exact ih2 _ _ _ _ _ _ _ _ _ _ _)
      | (with_reducible exact ih3 _ _ _ _ _ _ _ _ _ _ _)
      | (with_reducible exact LeO.refl _)
      | (with_reducible exact LeO.none _)
      | (with_reducible refine LeO.ite ?_ ?_)
      | (with_reducible refine LeO.bind ?_ (fun _ => ?_))
      | exact ih0 _ _ _ _ _
      | exact ih1 _ _ _ _ _ _
      | exact ih2 _ _ _ _ _ _ _ _ _ _ _
      | exact ih3 _ _ _ _ _ _ _ _ _ _ _
      | exact LeO.none _
      | refine LeO.ite ?_ ?_
      | refine LeO.bind ?_ (fun _ => ?_)
theorem tenementlaw13_writes.mono : ∀ a0 a1 a2 k, LeO (tenementlaw13_writes.f k a0 a1 a2) (tenementlaw13_writes.f (k + 1) a0 a1 a2) := by
  intro a0 a1 a2 k
  obtain ⟨ih0, ih1, ih2, ih3⟩ := tenementlaw13_writes.mono_l k
  unfold tenementlaw13_writes.f
  repeat' first
      | (with_reducible exact ih0 _ _ _ _ _)
      | (with_reducible exact ih1 _ _ _ _ _ _)
      | (with_reducible exact ih2 _ _ _ _ _ _ _ _ _ _ _)
      | (with_reducible exact ih3 _ _ _ _ _ _ _ _ _ _ _)
      | (with_reducible exact LeO.refl _)
      | (with_reducible exact LeO.none _)
      | (with_reducible refine LeO.ite ?_ ?_)
      | (with_reducible refine LeO.bind ?_ (fun _ => ?_))
      | exact ih0 _ _ _ _ _
      | exact ih1 _ _ _ _ _ _
      | exact ih2 _ _ _ _ _ _ _ _ _ _ _
      | exact ih3 _ _ _ _ _ _ _ _ _ _ _
      | exact LeO.none _
      | refine LeO.ite ?_ ?_
      | refine LeO.bind ?_ (fun _ => ?_)
set_option maxHeartbeats 8000000 in
set_option maxRecDepth 100000 in
theorem tenementlaw13_writes.calls (k : Nat) (A0 : Option Addr) (c0 : Nat) (l0 : List (S64)) (a1 : Int) (a2 : Bool) (r : List (S45)) (w : World) (hr0 : Kd.C k64 w A0 l0.length l0) (hc0 : l0.length ≤ c0) (h : tenementlaw13_writes.f k l0 a1 a2 = some r) :
    Calls Try.prog 11 #[.slice A0 l0.length c0, .int .i64 a1, .bool a2] w fun e w' => ∃ v0_ : Value, e = .returned (v0_) ∧ Kd.R k45 45 w' w.heap.size (fun _ => True) v0_ r ∧ Below w.heap.size w w' := by
  have hu64 := Try.underlying64
  have hu45 := Try.underlying45
  have HR0 := Aside0.mk hr0
  have HC0 := Aside0.mk hc0
  clear hr0 hc0
  have HB := Aside0.mk (Below.refl w.heap.size w)
  have H : (tenementlaw13_writes.l0 k l0 a1 a2 ([] : List (S45)) 0) = some r := h
  clear h
  have H' := Aside0.mk H
  clear H
  go_enter Try.func11, Try.ntmps11
  go_wp2
  repeat (go_quiet (fail); try go_wp2)
  go_loopg [7, 8] k (fun kq v7 v8 w' => ∃ (x7_1 : List (S45)) (x8_1 : Int), v8 = .int .i64 x8_1 ∧ Aside0 (tenementlaw13_writes.l0 kq l0 a1 a2 x7_1 x8_1 = some r) ∧ Aside0 (kq ≤ k) ∧ Aside0 (Kd.R k45 45 w' w.heap.size (fun _ => True) v7 x7_1) ∧ Aside0 (Below w.heap.size w w'))
  case atStart => exact ⟨(([] : List (S45))), (0), (by first | rfl | (simp; done) | (simp [*]; done)), H', ⟨Nat.le_refl _⟩, ⟨by first | exact Kd.R_nil _ _ _ _ _ | exact Kd.N_nil _ _ _ _ _ | exact Kd.V_nil _ _ _ _ _ | exact Kd.Q_nil _ _ _ _ _ | exact Kd.S_nil _ _ _ _ _⟩, ⟨Ky_ HB⟩⟩
  case round =>
    clear H'
    try clear c1
    try clear p2
    obtain ⟨x7_1, x8_1, rfl, HA, HK1, HO_7, HB⟩ := hrel
    cases gk with
    | zero => exact absurd HA.out (by simp [tenementlaw13_writes.l0])
    | succ k1 =>
      have H := HA.out
      clear HA
      simp only [tenementlaw13_writes.l0] at H
      have HC4 := Aside0.mk H
      clear H
      go_upto_region 3 with (fail)
      repeat (go_quiet (fail); go_upto_region 3 with (fail))
      go_cut [22] (fun v22 wc => ∃ (kq : Nat) (x22_3 : Bool), v22 = .bool x22_3 ∧ Aside0 (tenementlaw13_writes.j1 kq l0 a1 a2 x7_1 x8_1 x22_3 = some r) ∧ Aside0 (kq ≤ k1) ∧ Aside0 (Kd.R k45 45 wc w.heap.size (fun _ => True) u7 x7_1) ∧ Aside0 (Below w.heap.size w wc))
      case first =>
        have H := HC4.out
        clear HC4
        by_cases c5 : x8_1 < (l0.length : Int)
        rotate_left
        · rw [if_neg c5] at H
          have c5b0 : decide (x8_1 < (l0.length : Int)) = false := decide_eq_false c5
          clear c5
          (first | rw [c5b0] | (simp only [i64_w, i32_w]; rw [c5b0]) | skip)
          have H' := Aside0.mk H
          clear H
          go_wp2
          repeat (go_quiet (fail); try go_wp2)
          go_meet
          case rel => exact ⟨_, (false), (by first | rfl | (simp; done) | (simp [*]; done)), H', ⟨by have := HK1.out; first | omega | exact Nat.le_refl _⟩, ⟨by (with_reducible repeat (first | apply Kd.R_alloc | apply Kd.R_drewN | apply Kd.R_drew)); exact HO_7.out⟩, ⟨Ky_ HB⟩⟩
        rw [if_pos c5] at H
        have c5b0 : decide (x8_1 < (l0.length : Int)) = true := decide_eq_true c5
        clear c5
        (first | rw [c5b0] | (simp only [i64_w, i32_w]; rw [c5b0]) | skip)
        have H' := Aside0.mk H
        clear H
        obtain ⟨Ao6, co6, eo6⟩ := Kd.R_slice HO_7.out
        subst eo6
        go_wp2
        repeat (go_quiet (fail); try go_wp2)
        go_meet
        case rel => exact ⟨_, (decide ((x7_1.length : Int) < a1)), (by first | rfl | (simp; done) | (simp [*]; done)), H', ⟨by have := HK1.out; first | omega | exact Nat.le_refl _⟩, ⟨by (with_reducible repeat (first | apply Kd.R_alloc | apply Kd.R_drewN | apply Kd.R_drew)); exact HO_7.out⟩, ⟨Ky_ HB⟩⟩
      case rest =>
        clear HC4
        try clear c1
        try clear p2
        try clear c5
        try clear c5b0
        try clear p2
        obtain ⟨kq, x22_3, rfl, HA, HJ3, HO_7, HB⟩ := hcut
        cases kq with
        | zero => exact absurd HA.out (by simp [tenementlaw13_writes.j1])
        | succ kj3 =>
          have H := HA.out
          clear HA
          simp only [tenementlaw13_writes.j1] at H
          by_cases c7 : x22_3 = true
          rotate_left
          · replace c7 := Bool.eq_false_iff.mpr c7
            subst c7
            have H1 : (some x7_1) = some r := by rw [if_neg (show ¬ (false = true) by decide)] at H; exact H
            clear H
            have H := H1
            clear H1
            obtain rfl := Option.some.inj H
            go_wp2
            repeat (go_quiet (fail); try go_wp2)
            go_ret
            exact ⟨_, by first | rfl | (simp [errW_none, errW_some] <;> rfl) | (simp [*, errW_none, errW_some] <;> rfl), by (with_reducible repeat (first | apply Kd.R_alloc | apply Kd.R_drewN | apply Kd.R_drew)); exact HO_7.out, Ky_ HB⟩
          subst c7
          have H1 : (if 0 ≤ x8_1 then (if x8_1 < (l0.length : Int) then (if a2 = true then (tenementlaw13_writes.j2 kj3 l0 a1 a2 x7_1 x8_1 ((rd_T64 l0 x8_1).f0.f0) ((rd_T64 l0 x8_1).f0.f1) ((rd_T64 l0 x8_1).f0.f2) ((rd_T64 l0 x8_1).f0.f3) true ((rd_T64 l0 x8_1).f2)) else (tenementlaw13_writes.j2 kj3 l0 a1 a2 x7_1 x8_1 ((rd_T64 l0 x8_1).f0.f0) ((rd_T64 l0 x8_1).f0.f1) ((rd_T64 l0 x8_1).f0.f2) ((rd_T64 l0 x8_1).f0.f3) ((rd_T64 l0 x8_1).f1) ((rd_T64 l0 x8_1).f2))) else (none)) else (none)) = some r := by rw [if_pos rfl] at H; exact H
          clear H
          have H := H1
          clear H1
          by_cases c8 : 0 ≤ x8_1
          rotate_left
          · rw [if_neg c8] at H
            exact absurd H (by simp)
          rw [if_pos c8] at H
          have c8b0 : decide (0 ≤ x8_1) = true := decide_eq_true c8
          clear c8
          by_cases c9 : x8_1 < (l0.length : Int)
          rotate_left
          · rw [if_neg c9] at H
            exact absurd H (by simp)
          rw [if_pos c9] at H
          have c9b0 : decide (x8_1 < (l0.length : Int)) = true := decide_eq_true c9
          clear c9
          have HC10 := Aside0.mk H
          clear H
          have p105 : 0 ≤ (x8_1 : Int) := of_decide_eq_true (by first | (with_reducible assumption) | assumption)
          have q105 : x8_1 < (l0.length : Int) := of_decide_eq_true (by first | (with_reducible assumption) | assumption)
          obtain ⟨ad105, e105, hx105_0, hx105_1, hx105_2, hx105_3, hx105_4, hx105_5⟩ := at_T64 HR0.out x8_1 p105 q105
          cases e105
          replace hx105_0 := (HB.out.cell (World.block_lt_of_cell? w _ hx105_0)).trans hx105_0
          replace hx105_1 := (HB.out.cell (World.block_lt_of_cell? w _ hx105_1)).trans hx105_1
          replace hx105_2 := (HB.out.cell (World.block_lt_of_cell? w _ hx105_2)).trans hx105_2
          replace hx105_3 := (HB.out.cell (World.block_lt_of_cell? w _ hx105_3)).trans hx105_3
          replace hx105_4 := (HB.out.cell (World.block_lt_of_cell? w _ hx105_4)).trans hx105_4
          replace hx105_5 := (HB.out.cell (World.block_lt_of_cell? w _ hx105_5)).trans hx105_5
          replace p105 := eq_true p105
          replace q105 := eq_true q105
          go_upto_if 29 with (first | ((with_reducible refine gate_dst (N := 9) rfl ?_); refine box_event ?hg (N := 9) ?hd (cs := #[.string (⟨#[]⟩ : ByteArray), .string (⟨#[]⟩ : ByteArray), .string (⟨#[]⟩ : ByteArray), .bool false, .bool false, .int .u8 0]) (t := 64) ?hr ?_; (case hd => rfl); (case hg => rfl); (case hr => first | (go_simp; done) | (go_simp; rfl)); intro gb106 hg w11 hbox hb; have BK106 := Aside0.mk (hbox); have GW106 := Kw_ HB hg; have GE106 := GW106; replace HO_7 := Aside0.mk (Kd.R_below (Ku_ HO_7) hb); replace HB := Ks_ HB hb; clear hb hbox hg; obtain ⟨hcz12_0, hcz12_1, hcz12_2, hcz12_3, hcz12_4, hcz12_5, hfz12_0, hfz12_1, hfz12_2, hfz12_3, hfz12_4, hfz12_5⟩ := Ke6_ BK106.out))
          repeat (go_quiet (first | ((with_reducible refine gate_dst (N := 9) rfl ?_); refine box_event ?hg (N := 9) ?hd (cs := #[.string (⟨#[]⟩ : ByteArray), .string (⟨#[]⟩ : ByteArray), .string (⟨#[]⟩ : ByteArray), .bool false, .bool false, .int .u8 0]) (t := 64) ?hr ?_; (case hd => rfl); (case hg => rfl); (case hr => first | (go_simp; done) | (go_simp; rfl)); intro gb106 hg w11 hbox hb; have BK106 := Aside0.mk (hbox); have GW106 := Kw_ HB hg; have GE106 := GW106; replace HO_7 := Aside0.mk (Kd.R_below (Ku_ HO_7) hb); replace HB := Ks_ HB hb; clear hb hbox hg; obtain ⟨hcz12_0, hcz12_1, hcz12_2, hcz12_3, hcz12_4, hcz12_5, hfz12_0, hfz12_1, hfz12_2, hfz12_3, hfz12_4, hfz12_5⟩ := Ke6_ BK106.out)); go_upto_if 29 with (first | ((with_reducible refine gate_dst (N := 9) rfl ?_); refine box_event ?hg (N := 9) ?hd (cs := #[.string (⟨#[]⟩ : ByteArray), .string (⟨#[]⟩ : ByteArray), .string (⟨#[]⟩ : ByteArray), .bool false, .bool false, .int .u8 0]) (t := 64) ?hr ?_; (case hd => rfl); (case hg => rfl); (case hr => first | (go_simp; done) | (go_simp; rfl)); intro gb106 hg w11 hbox hb; have BK106 := Aside0.mk (hbox); have GW106 := Kw_ HB hg; have GE106 := GW106; replace HO_7 := Aside0.mk (Kd.R_below (Ku_ HO_7) hb); replace HB := Ks_ HB hb; clear hb hbox hg; obtain ⟨hcz12_0, hcz12_1, hcz12_2, hcz12_3, hcz12_4, hcz12_5, hfz12_0, hfz12_1, hfz12_2, hfz12_3, hfz12_4, hfz12_5⟩ := Ke6_ BK106.out)))
          (try simp only [Act.put, List.setIfInBounds_toArray, List.set_cons_zero, List.set_cons_succ])
          go_cut [] (fun wc => ∃ (kq : Nat) (x107004_9 : Bool), Aside0 (tenementlaw13_writes.j2 kq l0 a1 a2 x7_1 x8_1 ((rd_T64 l0 x8_1).f0.f0) ((rd_T64 l0 x8_1).f0.f1) ((rd_T64 l0 x8_1).f0.f2) ((rd_T64 l0 x8_1).f0.f3) x107004_9 ((rd_T64 l0 x8_1).f2) = some r) ∧ Aside0 (kq ≤ kj3) ∧ Aside0 (Kd.R k45 45 wc w.heap.size (fun _ => True) u7 x7_1) ∧ Aside0 (wc.heap[gb106]? = some (.cells #[.string ((rd_T64 l0 x8_1).f0.f0), .string ((rd_T64 l0 x8_1).f0.f1), .string ((rd_T64 l0 x8_1).f0.f2), .bool ((rd_T64 l0 x8_1).f0.f3), .bool x107004_9, .int .u8 ((rd_T64 l0 x8_1).f2)] 64 (0, 0))) ∧ Aside0 (Below w.heap.size w wc))
          case first =>
            have H := HC10.out
            clear HC10
            by_cases c13 : a2 = true
            rotate_left
            · replace c13 := Bool.eq_false_iff.mpr c13
              subst c13
              have H1 : (tenementlaw13_writes.j2 kj3 l0 a1 false x7_1 x8_1 ((rd_T64 l0 x8_1).f0.f0) ((rd_T64 l0 x8_1).f0.f1) ((rd_T64 l0 x8_1).f0.f2) ((rd_T64 l0 x8_1).f0.f3) ((rd_T64 l0 x8_1).f1) ((rd_T64 l0 x8_1).f2)) = some r := by rw [if_neg (show ¬ (false = true) by decide)] at H; exact H
              clear H
              have H := H1
              clear H1
              have H' := Aside0.mk H
              clear H
              go_wp2
              repeat (go_quiet (fail); try go_wp2)
              go_meet
              case rel => exact ⟨_, ((rd_T64 l0 x8_1).f1), H', ⟨by have := HK1.out; have := HJ3.out; first | omega | exact Nat.le_refl _⟩, ⟨by (with_reducible repeat (first | apply Kd.R_alloc | apply Kd.R_drewN | apply Kd.R_drew)); exact Kd.R_mono (Kd.R_far (p := ⟨gb106, 5, none⟩) (Kd.R_far (p := ⟨gb106, 4, none⟩) (Kd.R_far (p := ⟨gb106, 3, none⟩) (Kd.R_far (p := ⟨gb106, 2, none⟩) (Kd.R_far (p := ⟨gb106, 1, none⟩) (Kd.R_far (p := ⟨gb106, 0, none⟩) (Kd.R_types HO_7.out BK106.out (by decide)) (fun _ hk => hk.2) (.string ((rd_T64 l0 x8_1).f0.f0))) (fun _ hk => hk.2) (.string ((rd_T64 l0 x8_1).f0.f1))) (fun _ hk => hk.2) (.string ((rd_T64 l0 x8_1).f0.f2))) (fun _ hk => hk.2) (.bool ((rd_T64 l0 x8_1).f0.f3))) (fun _ hk => hk.2) (.bool ((rd_T64 l0 x8_1).f1))) (fun _ hk => hk.2) (.int .u8 ((rd_T64 l0 x8_1).f2))) (fun _ hk => trivial)⟩, ⟨by refine Kv_ ?_; refine blk_put (cs := #[.string ((rd_T64 l0 x8_1).f0.f0), .string ((rd_T64 l0 x8_1).f0.f1), .string ((rd_T64 l0 x8_1).f0.f2), .bool ((rd_T64 l0 x8_1).f0.f3), .bool ((rd_T64 l0 x8_1).f1), .int .u8 0]) ?_ 5 _ rfl; refine Kv_ ?_; refine blk_put (cs := #[.string ((rd_T64 l0 x8_1).f0.f0), .string ((rd_T64 l0 x8_1).f0.f1), .string ((rd_T64 l0 x8_1).f0.f2), .bool ((rd_T64 l0 x8_1).f0.f3), .bool false, .int .u8 0]) ?_ 4 _ rfl; refine Kv_ ?_; refine blk_put (cs := #[.string ((rd_T64 l0 x8_1).f0.f0), .string ((rd_T64 l0 x8_1).f0.f1), .string ((rd_T64 l0 x8_1).f0.f2), .bool false, .bool false, .int .u8 0]) ?_ 3 _ rfl; refine Kv_ ?_; refine blk_put (cs := #[.string ((rd_T64 l0 x8_1).f0.f0), .string ((rd_T64 l0 x8_1).f0.f1), .string (⟨#[]⟩ : ByteArray), .bool false, .bool false, .int .u8 0]) ?_ 2 _ rfl; refine Kv_ ?_; refine blk_put (cs := #[.string ((rd_T64 l0 x8_1).f0.f0), .string (⟨#[]⟩ : ByteArray), .string (⟨#[]⟩ : ByteArray), .bool false, .bool false, .int .u8 0]) ?_ 1 _ rfl; refine Kv_ ?_; refine blk_put (cs := #[.string (⟨#[]⟩ : ByteArray), .string (⟨#[]⟩ : ByteArray), .string (⟨#[]⟩ : ByteArray), .bool false, .bool false, .int .u8 0]) ?_ 0 _ rfl; exact Kq_ BK106⟩, ⟨Kz_ HB GE106⟩⟩
            subst c13
            have H1 : (tenementlaw13_writes.j2 kj3 l0 a1 true x7_1 x8_1 ((rd_T64 l0 x8_1).f0.f0) ((rd_T64 l0 x8_1).f0.f1) ((rd_T64 l0 x8_1).f0.f2) ((rd_T64 l0 x8_1).f0.f3) true ((rd_T64 l0 x8_1).f2)) = some r := by rw [if_pos rfl] at H; exact H
            clear H
            have H := H1
            clear H1
            have H' := Aside0.mk H
            clear H
            obtain ⟨hcz14_0, hcz14_1, hcz14_2, hcz14_3, hcz14_4, hcz14_5, hfz14_0, hfz14_1, hfz14_2, hfz14_3, hfz14_4, hfz14_5⟩ := Ke6_ BK106.out
            go_wp2
            repeat (go_quiet (fail); try go_wp2)
            go_meet
            case rel => exact ⟨_, (true), H', ⟨by have := HK1.out; have := HJ3.out; first | omega | exact Nat.le_refl _⟩, ⟨by (with_reducible repeat (first | apply Kd.R_alloc | apply Kd.R_drewN | apply Kd.R_drew)); exact Kd.R_mono (Kd.R_far (p := ⟨gb106, 4, none⟩) (Kd.R_far (p := ⟨gb106, 5, none⟩) (Kd.R_far (p := ⟨gb106, 4, none⟩) (Kd.R_far (p := ⟨gb106, 3, none⟩) (Kd.R_far (p := ⟨gb106, 2, none⟩) (Kd.R_far (p := ⟨gb106, 1, none⟩) (Kd.R_far (p := ⟨gb106, 0, none⟩) (Kd.R_types HO_7.out BK106.out (by decide)) (fun _ hk => hk.2) (.string ((rd_T64 l0 x8_1).f0.f0))) (fun _ hk => hk.2) (.string ((rd_T64 l0 x8_1).f0.f1))) (fun _ hk => hk.2) (.string ((rd_T64 l0 x8_1).f0.f2))) (fun _ hk => hk.2) (.bool ((rd_T64 l0 x8_1).f0.f3))) (fun _ hk => hk.2) (.bool ((rd_T64 l0 x8_1).f1))) (fun _ hk => hk.2) (.int .u8 ((rd_T64 l0 x8_1).f2))) (fun _ hk => hk.2) (.bool true)) (fun _ hk => trivial)⟩, ⟨by refine Kv_ ?_; refine blk_put (cs := #[.string ((rd_T64 l0 x8_1).f0.f0), .string ((rd_T64 l0 x8_1).f0.f1), .string ((rd_T64 l0 x8_1).f0.f2), .bool ((rd_T64 l0 x8_1).f0.f3), .bool ((rd_T64 l0 x8_1).f1), .int .u8 ((rd_T64 l0 x8_1).f2)]) ?_ 4 _ rfl; refine Kv_ ?_; refine blk_put (cs := #[.string ((rd_T64 l0 x8_1).f0.f0), .string ((rd_T64 l0 x8_1).f0.f1), .string ((rd_T64 l0 x8_1).f0.f2), .bool ((rd_T64 l0 x8_1).f0.f3), .bool ((rd_T64 l0 x8_1).f1), .int .u8 0]) ?_ 5 _ rfl; refine Kv_ ?_; refine blk_put (cs := #[.string ((rd_T64 l0 x8_1).f0.f0), .string ((rd_T64 l0 x8_1).f0.f1), .string ((rd_T64 l0 x8_1).f0.f2), .bool ((rd_T64 l0 x8_1).f0.f3), .bool false, .int .u8 0]) ?_ 4 _ rfl; refine Kv_ ?_; refine blk_put (cs := #[.string ((rd_T64 l0 x8_1).f0.f0), .string ((rd_T64 l0 x8_1).f0.f1), .string ((rd_T64 l0 x8_1).f0.f2), .bool false, .bool false, .int .u8 0]) ?_ 3 _ rfl; refine Kv_ ?_; refine blk_put (cs := #[.string ((rd_T64 l0 x8_1).f0.f0), .string ((rd_T64 l0 x8_1).f0.f1), .string (⟨#[]⟩ : ByteArray), .bool false, .bool false, .int .u8 0]) ?_ 2 _ rfl; refine Kv_ ?_; refine blk_put (cs := #[.string ((rd_T64 l0 x8_1).f0.f0), .string (⟨#[]⟩ : ByteArray), .string (⟨#[]⟩ : ByteArray), .bool false, .bool false, .int .u8 0]) ?_ 1 _ rfl; refine Kv_ ?_; refine blk_put (cs := #[.string (⟨#[]⟩ : ByteArray), .string (⟨#[]⟩ : ByteArray), .string (⟨#[]⟩ : ByteArray), .bool false, .bool false, .int .u8 0]) ?_ 0 _ rfl; exact Kq_ BK106⟩, ⟨Kz_ HB GE106⟩⟩
          case rest =>
            clear HC10
            try clear c1
            try clear p1
            try clear q1
            try clear hx1
            try clear p2
            try clear c5
            try clear c5b0
            try clear c7
            try clear c8
            try clear c8b0
            try clear c9
            try clear c9b0
            try clear p10
            try clear q10
            try clear hx10
            try clear c11
            try clear c13
            try clear hcz12_0
            try clear hcz12_1
            try clear hcz12_2
            try clear hcz12_3
            try clear hcz12_4
            try clear hcz12_5
            try clear hcz14_0
            try clear hcz14_1
            try clear hcz14_2
            try clear hcz14_3
            try clear hcz14_4
            try clear hcz14_5
            try clear hfz12_0
            try clear hfz12_1
            try clear hfz12_2
            try clear hfz12_3
            try clear hfz12_4
            try clear hfz12_5
            try clear hfz14_0
            try clear hfz14_1
            try clear hfz14_2
            try clear hfz14_3
            try clear hfz14_4
            try clear hfz14_5
            try clear hx105_0
            try clear hx105_1
            try clear hx105_2
            try clear hx105_3
            try clear hx105_4
            try clear hx105_5
            try clear p105
            try clear p2
            try clear q105
            obtain ⟨kq, x107004_9, HA, HJ9, HO_7, BK106, HB⟩ := hcut
            cases kq with
            | zero => exact absurd HA.out (by simp [tenementlaw13_writes.j2])
            | succ kj9 =>
              have H := HA.out
              clear HA
              simp only [tenementlaw13_writes.j2] at H
              replace H := Option.bind_eq_some_iff.mp H
              obtain ⟨⟨t107, t108, t109, t110⟩, A150, H⟩ := H
              replace H : (tenementlaw13_writes.l1 kj9 l0 a1 a2 x7_1 x8_1 false 0 t107 t108 t109 t110) = some r := H
              have A15 := Aside0.mk A150
              clear A150
              have H' := Aside0.mk H
              clear H
              obtain ⟨hcz16_0, hcz16_1, hcz16_2, hcz16_3, hcz16_4, hcz16_5, hfz16_0, hfz16_1, hfz16_2, hfz16_3, hfz16_4, hfz16_5⟩ := Ke6_ BK106.out
              go_wp2_with (first | (go_at_call 28; (with_reducible refine (tenementlaw13_Put_write.calls ((rd_T64 l0 x8_1).f0.f0) ((rd_T64 l0 x8_1).f0.f1) ((rd_T64 l0 x8_1).f0.f2) ((rd_T64 l0 x8_1).f0.f3) x107004_9 ((rd_T64 l0 x8_1).f2) t107 t108 t109 t110 _ A15.out).mono ?_); rintro e w17 ⟨rfl, hb⟩; replace HO_7 := Aside0.mk (Kd.R_below (Ku_ HO_7) hb); replace BK106 := Kb_ BK106 hb; replace HB := Ks_ HB hb; (try clear hb); (try clear hb2); (try clear hk); (try clear hi)) | ((with_reducible refine gate_dst (N := 10) rfl ?_); refine box_event ?hg (N := 10) ?hd (cs := #[.string (⟨#[]⟩ : ByteArray), .string (⟨#[]⟩ : ByteArray), .string (⟨#[]⟩ : ByteArray), .bool false]) (t := 45) ?hr ?_; (case hd => rfl); (case hg => rfl); (case hr => first | (go_simp; done) | (go_simp; rfl)); intro gb111 hg w18 hbox hb; have BK111 := Aside0.mk (hbox); have GW111 := Kw_ HB hg; have GE111 := GW111; have NB106_111 := Kl_ BK106 hg; have NB111_106 := Kr_ BK106 hg; replace HO_7 := Aside0.mk (Kd.R_below (Kd.R_elderB (Ku_ HO_7) gb111 (Nat.le_of_eq hg.symm)) hb); replace BK106 := Kb_ BK106 hb; replace HB := Ks_ HB hb; clear hb hbox hg; have hnb19 := NB111_106.out; have hnc19 := NB106_111.out; obtain ⟨hcz20_0, hcz20_1, hcz20_2, hcz20_3, hfz20_0, hfz20_1, hfz20_2, hfz20_3⟩ := Ke4_ BK111.out))
              repeat (go_quiet (first | (go_at_call 28; (with_reducible refine (tenementlaw13_Put_write.calls ((rd_T64 l0 x8_1).f0.f0) ((rd_T64 l0 x8_1).f0.f1) ((rd_T64 l0 x8_1).f0.f2) ((rd_T64 l0 x8_1).f0.f3) x107004_9 ((rd_T64 l0 x8_1).f2) t107 t108 t109 t110 _ A15.out).mono ?_); rintro e w17 ⟨rfl, hb⟩; replace HO_7 := Aside0.mk (Kd.R_below (Ku_ HO_7) hb); replace BK106 := Kb_ BK106 hb; replace HB := Ks_ HB hb; (try clear hb); (try clear hb2); (try clear hk); (try clear hi)) | ((with_reducible refine gate_dst (N := 10) rfl ?_); refine box_event ?hg (N := 10) ?hd (cs := #[.string (⟨#[]⟩ : ByteArray), .string (⟨#[]⟩ : ByteArray), .string (⟨#[]⟩ : ByteArray), .bool false]) (t := 45) ?hr ?_; (case hd => rfl); (case hg => rfl); (case hr => first | (go_simp; done) | (go_simp; rfl)); intro gb111 hg w18 hbox hb; have BK111 := Aside0.mk (hbox); have GW111 := Kw_ HB hg; have GE111 := GW111; have NB106_111 := Kl_ BK106 hg; have NB111_106 := Kr_ BK106 hg; replace HO_7 := Aside0.mk (Kd.R_below (Kd.R_elderB (Ku_ HO_7) gb111 (Nat.le_of_eq hg.symm)) hb); replace BK106 := Kb_ BK106 hb; replace HB := Ks_ HB hb; clear hb hbox hg; have hnb19 := NB111_106.out; have hnc19 := NB106_111.out; obtain ⟨hcz20_0, hcz20_1, hcz20_2, hcz20_3, hfz20_0, hfz20_1, hfz20_2, hfz20_3⟩ := Ke4_ BK111.out)); try go_wp2_with (first | (go_at_call 28; (with_reducible refine (tenementlaw13_Put_write.calls ((rd_T64 l0 x8_1).f0.f0) ((rd_T64 l0 x8_1).f0.f1) ((rd_T64 l0 x8_1).f0.f2) ((rd_T64 l0 x8_1).f0.f3) x107004_9 ((rd_T64 l0 x8_1).f2) t107 t108 t109 t110 _ A15.out).mono ?_); rintro e w17 ⟨rfl, hb⟩; replace HO_7 := Aside0.mk (Kd.R_below (Ku_ HO_7) hb); replace BK106 := Kb_ BK106 hb; replace HB := Ks_ HB hb; (try clear hb); (try clear hb2); (try clear hk); (try clear hi)) | ((with_reducible refine gate_dst (N := 10) rfl ?_); refine box_event ?hg (N := 10) ?hd (cs := #[.string (⟨#[]⟩ : ByteArray), .string (⟨#[]⟩ : ByteArray), .string (⟨#[]⟩ : ByteArray), .bool false]) (t := 45) ?hr ?_; (case hd => rfl); (case hg => rfl); (case hr => first | (go_simp; done) | (go_simp; rfl)); intro gb111 hg w18 hbox hb; have BK111 := Aside0.mk (hbox); have GW111 := Kw_ HB hg; have GE111 := GW111; have NB106_111 := Kl_ BK106 hg; have NB111_106 := Kr_ BK106 hg; replace HO_7 := Aside0.mk (Kd.R_below (Kd.R_elderB (Ku_ HO_7) gb111 (Nat.le_of_eq hg.symm)) hb); replace BK106 := Kb_ BK106 hb; replace HB := Ks_ HB hb; clear hb hbox hg; have hnb19 := NB111_106.out; have hnc19 := NB106_111.out; obtain ⟨hcz20_0, hcz20_1, hcz20_2, hcz20_3, hfz20_0, hfz20_1, hfz20_2, hfz20_3⟩ := Ke4_ BK111.out)))
              go_loopg [11, 12] kj9 (fun kq v11 v12 w' => ∃ (x11_4 : Bool) (x12_4 : Int), v11 = .bool x11_4 ∧ v12 = .int .i64 x12_4 ∧ Aside0 (tenementlaw13_writes.l1 kq l0 a1 a2 x7_1 x8_1 x11_4 x12_4 t107 t108 t109 t110 = some r) ∧ Aside0 (kq ≤ kj9) ∧ Aside0 (Kd.R k45 45 w' w.heap.size (fun k_ => k_ ≠ gb111) u7 x7_1) ∧ Aside0 (w'.heap[gb106]? = some (.cells #[.string ((rd_T64 l0 x8_1).f0.f0), .string ((rd_T64 l0 x8_1).f0.f1), .string ((rd_T64 l0 x8_1).f0.f2), .bool ((rd_T64 l0 x8_1).f0.f3), .bool x107004_9, .int .u8 ((rd_T64 l0 x8_1).f2)] 64 (0, 0))) ∧ Aside0 (w'.heap[gb111]? = some (.cells #[.string t107, .string t108, .string t109, .bool t110] 45 (0, 0))) ∧ Aside0 (Below w.heap.size w w'))
              case atStart => exact ⟨(false), (0), (by first | rfl | (simp; done) | (simp [*]; done)), (by first | rfl | (simp; done) | (simp [*]; done)), H', ⟨Nat.le_refl _⟩, ⟨by (with_reducible repeat (first | apply Kd.R_alloc | apply Kd.R_drewN | apply Kd.R_drew)); exact Kd.R_mono (Kd.R_far (p := ⟨gb111, 3, none⟩) (Kd.R_far (p := ⟨gb111, 2, none⟩) (Kd.R_far (p := ⟨gb111, 1, none⟩) (Kd.R_far (p := ⟨gb111, 0, none⟩) (Kd.R_mono HO_7.out (fun k_ hk => (⟨hk, hk.2⟩ : _ ∧ k_ ≠ gb111))) (fun _ hk => hk.2) (.string t107)) (fun _ hk => hk.2) (.string t108)) (fun _ hk => hk.2) (.string t109)) (fun _ hk => hk.2) (.bool t110)) (fun _ hk => hk.1.2)⟩, ⟨by (repeat (first | (with_reducible first | refine blk_drewN ?_ _ | refine blk_drew ?_ | refine blk_alloc ?_ _) | refine blk_far ?_ NB106_111.out _)); exact BK106.out⟩, ⟨by refine Kv_ ?_; refine blk_put (cs := #[.string t107, .string t108, .string t109, .bool false]) ?_ 3 _ rfl; refine Kv_ ?_; refine blk_put (cs := #[.string t107, .string t108, .string (⟨#[]⟩ : ByteArray), .bool false]) ?_ 2 _ rfl; refine Kv_ ?_; refine blk_put (cs := #[.string t107, .string (⟨#[]⟩ : ByteArray), .string (⟨#[]⟩ : ByteArray), .bool false]) ?_ 1 _ rfl; refine Kv_ ?_; refine blk_put (cs := #[.string (⟨#[]⟩ : ByteArray), .string (⟨#[]⟩ : ByteArray), .string (⟨#[]⟩ : ByteArray), .bool false]) ?_ 0 _ rfl; exact Kq_ BK111⟩, ⟨by repeat (first | (with_reducible first | exact HB.out | apply below_alloc | apply pw_below_drewN | apply below_drew1 | refine below_set ?_ GE106.out | refine below_set ?_ GE111.out) | exact HB.out)⟩⟩
              case round =>
                clear H'
                try clear c1
                try clear p1
                try clear q1
                try clear hx1
                try clear p2
                try clear c5
                try clear c5b0
                try clear c7
                try clear c8
                try clear c8b0
                try clear c9
                try clear c9b0
                try clear p10
                try clear q10
                try clear hx10
                try clear c11
                try clear c13
                try clear c19
                try clear hcz12_0
                try clear hcz12_1
                try clear hcz12_2
                try clear hcz12_3
                try clear hcz12_4
                try clear hcz12_5
                try clear hcz14_0
                try clear hcz14_1
                try clear hcz14_2
                try clear hcz14_3
                try clear hcz14_4
                try clear hcz14_5
                try clear hcz16_0
                try clear hcz16_1
                try clear hcz16_2
                try clear hcz16_3
                try clear hcz16_4
                try clear hcz16_5
                try clear hcz20_0
                try clear hcz20_1
                try clear hcz20_2
                try clear hcz20_3
                try clear hfz12_0
                try clear hfz12_1
                try clear hfz12_2
                try clear hfz12_3
                try clear hfz12_4
                try clear hfz12_5
                try clear hfz14_0
                try clear hfz14_1
                try clear hfz14_2
                try clear hfz14_3
                try clear hfz14_4
                try clear hfz14_5
                try clear hfz16_0
                try clear hfz16_1
                try clear hfz16_2
                try clear hfz16_3
                try clear hfz16_4
                try clear hfz16_5
                try clear hfz20_0
                try clear hfz20_1
                try clear hfz20_2
                try clear hfz20_3
                try clear hx105_0
                try clear hx105_1
                try clear hx105_2
                try clear hx105_3
                try clear hx105_4
                try clear hx105_5
                try clear p1
                try clear p10
                try clear p105
                try clear p2
                try clear q1
                try clear q10
                try clear q105
                obtain ⟨x11_4, x12_4, rfl, rfl, HA, HK4, HO_7, BK106, BK111, HB⟩ := hrel
                cases gk with
                | zero => exact absurd HA.out (by simp [tenementlaw13_writes.l1])
                | succ k4 =>
                  have H := HA.out
                  clear HA
                  simp only [tenementlaw13_writes.l1] at H
                  by_cases c21 : x12_4 < (x7_1.length : Int)
                  · rw [if_pos c21] at H
                    have c21b0 : decide (x12_4 < (x7_1.length : Int)) = true := decide_eq_true c21
                    clear c21
                    by_cases c22 : x11_4 = true
                    · subst c22
                      have H1 : (tenementlaw13_writes.l1 k4 l0 a1 a2 x7_1 x8_1 true (wrap64 (x12_4 + 1)) t107 t108 t109 t110) = some r := by rw [if_pos rfl] at H; exact H
                      clear H
                      have H := H1
                      clear H1
                      have H' := Aside0.mk H
                      clear H
                      obtain ⟨Ao23, co23, eo23⟩ := Kd.R_slice HO_7.out
                      subst eo23
                      go_wp2
                      repeat (go_quiet (fail); try go_wp2)
                      go_roundg k4
                      case measure => have := HK1.out; have := HJ3.out; have := HJ9.out; have := HK4.out; omega
                      case rel => exact ⟨(true), (wrap64 (x12_4 + 1)), (by first | rfl | (simp; done) | (simp [*]; done)), (by first | rfl | (simp; done) | (simp [*]; done)), H', ⟨by have := HK1.out; have := HJ3.out; have := HJ9.out; have := HK4.out; omega⟩, ⟨by (with_reducible repeat (first | apply Kd.R_alloc | apply Kd.R_drewN | apply Kd.R_drew)); exact HO_7.out⟩, ⟨by exact Kq_ BK106⟩, ⟨by exact Kq_ BK111⟩, ⟨by repeat (first | (with_reducible first | exact HB.out | apply below_alloc | apply pw_below_drewN | apply below_drew1 | refine below_set ?_ GE106.out | refine below_set ?_ GE111.out) | exact HB.out)⟩⟩
                    replace c22 := Bool.eq_false_iff.mpr c22
                    subst c22
                    have H1 : (if 0 ≤ x12_4 then (if ((rd_T45 x7_1 x12_4).f0).toList = t107.toList then (tenementlaw13_writes.l1 k4 l0 a1 a2 x7_1 x8_1 (((rd_T45 x7_1 x12_4).f1).toList == t108.toList) (wrap64 (x12_4 + 1)) t107 t108 t109 t110) else (tenementlaw13_writes.l1 k4 l0 a1 a2 x7_1 x8_1 false (wrap64 (x12_4 + 1)) t107 t108 t109 t110)) else (none)) = some r := by rw [if_neg (show ¬ (false = true) by decide)] at H; exact H
                    clear H
                    have H := H1
                    clear H1
                    by_cases c24 : 0 ≤ x12_4
                    rotate_left
                    · rw [if_neg c24] at H
                      exact absurd H (by simp)
                    rw [if_pos c24] at H
                    have c24b0 : decide (0 ≤ x12_4) = true := decide_eq_true c24
                    clear c24
                    by_cases c25 : ((rd_T45 x7_1 x12_4).f0).toList = t107.toList
                    rotate_left
                    · rw [if_neg c25] at H
                      have c25b0 : (((rd_T45 x7_1 x12_4).f0).toList == t107.toList) = false := beq_eq_false_iff_ne.mpr c25
                      have c25b1 : (((rd_T45 x7_1 x12_4).f0).toList != t107.toList) = true := bne_iff_ne.mpr c25
                      have H' := Aside0.mk H
                      clear H
                      obtain ⟨Ao29, co29, eo29⟩ := Kd.R_slice HO_7.out
                      subst eo29
                      have p112 : 0 ≤ (x12_4 : Int) := of_decide_eq_true (by first | (with_reducible assumption) | assumption)
                      have q112 : x12_4 < (x7_1.length : Int) := of_decide_eq_true (by first | (with_reducible assumption) | assumption)
                      obtain ⟨ad112, e112, hx112_0, hx112_1, hx112_2, hx112_3⟩ := at_T45 (Kd.R_reads' HO_7.out).2.2 x12_4 p112 q112
                      cases e112
                      replace p112 := eq_true p112
                      replace q112 := eq_true q112
                      have hnb30 := NB111_106.out
                      have hnc30 := NB106_111.out
                      obtain ⟨hcz31_0, hcz31_1, hcz31_2, hcz31_3, hfz31_0, hfz31_1, hfz31_2, hfz31_3⟩ := Ke4_ BK111.out
                      go_wp2
                      repeat (go_quiet (fail); try go_wp2)
                      go_roundg k4
                      case measure => have := HK1.out; have := HJ3.out; have := HJ9.out; have := HK4.out; omega
                      case rel => exact ⟨(false), (wrap64 (x12_4 + 1)), (by first | rfl | (simp; done) | (simp [*]; done)), (by first | rfl | (simp; done) | (simp [*]; done)), H', ⟨by have := HK1.out; have := HJ3.out; have := HJ9.out; have := HK4.out; omega⟩, ⟨by (with_reducible repeat (first | apply Kd.R_alloc | apply Kd.R_drewN | apply Kd.R_drew)); exact HO_7.out⟩, ⟨by exact Kq_ BK106⟩, ⟨by exact Kq_ BK111⟩, ⟨by repeat (first | (with_reducible first | exact HB.out | apply below_alloc | apply pw_below_drewN | apply below_drew1 | refine below_set ?_ GE106.out | refine below_set ?_ GE111.out) | exact HB.out)⟩⟩
                    rw [if_pos c25] at H
                    have c25b0 : (((rd_T45 x7_1 x12_4).f0).toList == t107.toList) = true := beq_iff_eq.mpr c25
                    have c25b1 : (((rd_T45 x7_1 x12_4).f0).toList != t107.toList) = false := bne_eq_false_iff_eq.mpr c25
                    clear c25
                    have H' := Aside0.mk H
                    clear H
                    obtain ⟨Ao26, co26, eo26⟩ := Kd.R_slice HO_7.out
                    subst eo26
                    have p112 : 0 ≤ (x12_4 : Int) := of_decide_eq_true (by first | (with_reducible assumption) | assumption)
                    have q112 : x12_4 < (x7_1.length : Int) := of_decide_eq_true (by first | (with_reducible assumption) | assumption)
                    obtain ⟨ad112, e112, hx112_0, hx112_1, hx112_2, hx112_3⟩ := at_T45 (Kd.R_reads' HO_7.out).2.2 x12_4 p112 q112
                    cases e112
                    replace p112 := eq_true p112
                    replace q112 := eq_true q112
                    have hnb27 := NB111_106.out
                    have hnc27 := NB106_111.out
                    obtain ⟨hcz28_0, hcz28_1, hcz28_2, hcz28_3, hfz28_0, hfz28_1, hfz28_2, hfz28_3⟩ := Ke4_ BK111.out
                    have p113 : 0 ≤ (x12_4 : Int) := of_decide_eq_true (by first | (with_reducible assumption) | assumption)
                    have q113 : x12_4 < (x7_1.length : Int) := of_decide_eq_true (by first | (with_reducible assumption) | assumption)
                    obtain ⟨ad113, e113, hx113_0, hx113_1, hx113_2, hx113_3⟩ := at_T45 (Kd.R_reads' HO_7.out).2.2 x12_4 p113 q113
                    obtain rfl : ad112 = ad113 := (by injection e113)
                    replace p113 := eq_true p113
                    replace q113 := eq_true q113
                    go_wp2
                    repeat (go_quiet (fail); try go_wp2)
                    go_roundg k4
                    case measure => have := HK1.out; have := HJ3.out; have := HJ9.out; have := HK4.out; omega
                    case rel => exact ⟨((((rd_T45 x7_1 x12_4).f1).toList == t108.toList)), (wrap64 (x12_4 + 1)), (by first | rfl | (simp; done) | (simp [*]; done)), (by first | rfl | (simp; done) | (simp [*]; done)), H', ⟨by have := HK1.out; have := HJ3.out; have := HJ9.out; have := HK4.out; omega⟩, ⟨by (with_reducible repeat (first | apply Kd.R_alloc | apply Kd.R_drewN | apply Kd.R_drew)); exact HO_7.out⟩, ⟨by exact Kq_ BK106⟩, ⟨by exact Kq_ BK111⟩, ⟨by repeat (first | (with_reducible first | exact HB.out | apply below_alloc | apply pw_below_drewN | apply below_drew1 | refine below_set ?_ GE106.out | refine below_set ?_ GE111.out) | exact HB.out)⟩⟩
                  rw [if_neg c21] at H
                  have c21b0 : decide (x12_4 < (x7_1.length : Int)) = false := decide_eq_false c21
                  clear c21
                  by_cases c32 : a2 = true
                  rotate_left
                  · replace c32 := Bool.eq_false_iff.mpr c32
                    subst c32
                    have H1 : (if x7_1.length < 2513169434916 then (tenementlaw13_writes.l0 k4 l0 a1 false (x7_1 ++ [(⟨t107, t108, t109, t110⟩ : S45)]) (wrap64 (x8_1 + 1))) else (none)) = some r := by rw [if_neg (show ¬ (false = true) by decide)] at H; exact H
                    clear H
                    have H := H1
                    clear H1
                    by_cases c40 : x7_1.length < 2513169434916
                    rotate_left
                    · rw [if_neg c40] at H
                      exact absurd H (by simp)
                    rw [if_pos c40] at H
                    have LMc40 := Aside0.mk c40
                    clear c40
                    obtain ⟨y117, hy117⟩ : ∃ y_ : List (S45), y_ = (x7_1 ++ [(⟨t107, t108, t109, t110⟩ : S45)]) := ⟨_, rfl⟩
                    replace H : (tenementlaw13_writes.l0 k4 l0 a1 false y117 (wrap64 (x8_1 + 1))) = some r := by first | (rw [hy117]; with_reducible exact H) | (have H2_ := (Option.bind_some _ _).symm.trans H; rw [hy117]; with_reducible exact H2_) | (have H2_ := (Option.bind_some _ _).symm.trans H; with_reducible exact H2_) | with_reducible exact H | (rw [hy117]; exact H) | exact H
                    have Ny117 := Aside0.mk hy117
                    clear hy117
                    have H' := Aside0.mk H
                    clear H
                    obtain ⟨Ao41, co41, eo41⟩ := Kd.R_slice HO_7.out
                    subst eo41
                    have hnb42 := NB111_106.out
                    have hnc42 := NB106_111.out
                    obtain ⟨hcz43_0, hcz43_1, hcz43_2, hcz43_3, hfz43_0, hfz43_1, hfz43_2, hfz43_3⟩ := Ke4_ BK111.out
                    go_wp2_with (first | ((with_reducible refine gate_builtin (b := .append) (xs := #[.tmp 66, .tmp 68]) rfl ?_); at_builtin; refine Kd.R_append k45 (w0 := w) w.heap.size rfl (.tmp 66) (.tmp 68) 31 45 (.agg #[(.string ⟨#[]⟩), (.string ⟨#[]⟩), (.string ⟨#[]⟩), (.bool false)]) 56 rfl Try.underlying31 info45 rfl (by decide) (by omega) (.slice Ao41 x7_1.length co41) x7_1 (⟨t107, t108, t109, t110⟩ : S45) [.string t107, .string t108, .string t109, .bool t110] (fun k_ => k_ ≠ gb111) (fun _ => False) rfl rfl ?aP (fun _ hk => hk.elim) ?aF ?aO ?aB ?aS ?aL ?_; (case aP => exact k45_mkM _ _ _ (⟨t107, t108, t109, t110⟩ : S45)); (case aB => exact (by repeat (first | (with_reducible first | exact HB.out | apply below_alloc | apply pw_below_drewN | apply below_drew1 | refine below_set ?_ GE106.out | refine below_set ?_ GE111.out) | exact HB.out))); (case aF => exact (fun k_ hk => Kd.freshB (g := gb111) (o := .cells #[.string t107, .string t108, .string t109, .bool t110] 45 (0, 0)) (Kq_ BK111) k_ hk)); (case aO => exact (Ku_ HO_7)); (case aS => exact (below_size (by repeat (first | (with_reducible first | exact HB.out | apply below_alloc | apply pw_below_drewN | apply below_drew1 | refine below_set ?_ GE106.out | refine below_set ?_ GE111.out) | exact HB.out)))); (case aL => have := LMc40.out; omega); intro v118 w44 ho hb hg hat; rw [← Ny117.out] at ho; have HO119 := Aside0.mk (ho); replace BK106 := Aside0.mk (blk_grown (g := gb106) (o := .cells #[.string ((rd_T64 l0 x8_1).f0.f0), .string ((rd_T64 l0 x8_1).f0.f1), .string ((rd_T64 l0 x8_1).f0.f2), .bool ((rd_T64 l0 x8_1).f0.f3), .bool x107004_9, .int .u8 ((rd_T64 l0 x8_1).f2)] 64 (0, 0)) (Kq_ BK106) hg (Kd.R_ne HO_7.out BK106.out (by decide))); replace BK111 := Aside0.mk (blk_grown (g := gb111) (o := .cells #[.string t107, .string t108, .string t109, .bool t110] 45 (0, 0)) (Kq_ BK111) hg (Kd.R_away HO_7.out (fun _ hk => hk))); replace HB := Aside0.mk (hb); clear HO_7; clear ho hb hg hat))
                    repeat (go_quiet (first | ((with_reducible refine gate_builtin (b := .append) (xs := #[.tmp 66, .tmp 68]) rfl ?_); at_builtin; refine Kd.R_append k45 (w0 := w) w.heap.size rfl (.tmp 66) (.tmp 68) 31 45 (.agg #[(.string ⟨#[]⟩), (.string ⟨#[]⟩), (.string ⟨#[]⟩), (.bool false)]) 56 rfl Try.underlying31 info45 rfl (by decide) (by omega) (.slice Ao41 x7_1.length co41) x7_1 (⟨t107, t108, t109, t110⟩ : S45) [.string t107, .string t108, .string t109, .bool t110] (fun k_ => k_ ≠ gb111) (fun _ => False) rfl rfl ?aP (fun _ hk => hk.elim) ?aF ?aO ?aB ?aS ?aL ?_; (case aP => exact k45_mkM _ _ _ (⟨t107, t108, t109, t110⟩ : S45)); (case aB => exact (by repeat (first | (with_reducible first | exact HB.out | apply below_alloc | apply pw_below_drewN | apply below_drew1 | refine below_set ?_ GE106.out | refine below_set ?_ GE111.out) | exact HB.out))); (case aF => exact (fun k_ hk => Kd.freshB (g := gb111) (o := .cells #[.string t107, .string t108, .string t109, .bool t110] 45 (0, 0)) (Kq_ BK111) k_ hk)); (case aO => exact (Ku_ HO_7)); (case aS => exact (below_size (by repeat (first | (with_reducible first | exact HB.out | apply below_alloc | apply pw_below_drewN | apply below_drew1 | refine below_set ?_ GE106.out | refine below_set ?_ GE111.out) | exact HB.out)))); (case aL => have := LMc40.out; omega); intro v118 w44 ho hb hg hat; rw [← Ny117.out] at ho; have HO119 := Aside0.mk (ho); replace BK106 := Aside0.mk (blk_grown (g := gb106) (o := .cells #[.string ((rd_T64 l0 x8_1).f0.f0), .string ((rd_T64 l0 x8_1).f0.f1), .string ((rd_T64 l0 x8_1).f0.f2), .bool ((rd_T64 l0 x8_1).f0.f3), .bool x107004_9, .int .u8 ((rd_T64 l0 x8_1).f2)] 64 (0, 0)) (Kq_ BK106) hg (Kd.R_ne HO_7.out BK106.out (by decide))); replace BK111 := Aside0.mk (blk_grown (g := gb111) (o := .cells #[.string t107, .string t108, .string t109, .bool t110] 45 (0, 0)) (Kq_ BK111) hg (Kd.R_away HO_7.out (fun _ hk => hk))); replace HB := Aside0.mk (hb); clear HO_7; clear ho hb hg hat)); try go_wp2_with (first | ((with_reducible refine gate_builtin (b := .append) (xs := #[.tmp 66, .tmp 68]) rfl ?_); at_builtin; refine Kd.R_append k45 (w0 := w) w.heap.size rfl (.tmp 66) (.tmp 68) 31 45 (.agg #[(.string ⟨#[]⟩), (.string ⟨#[]⟩), (.string ⟨#[]⟩), (.bool false)]) 56 rfl Try.underlying31 info45 rfl (by decide) (by omega) (.slice Ao41 x7_1.length co41) x7_1 (⟨t107, t108, t109, t110⟩ : S45) [.string t107, .string t108, .string t109, .bool t110] (fun k_ => k_ ≠ gb111) (fun _ => False) rfl rfl ?aP (fun _ hk => hk.elim) ?aF ?aO ?aB ?aS ?aL ?_; (case aP => exact k45_mkM _ _ _ (⟨t107, t108, t109, t110⟩ : S45)); (case aB => exact (by repeat (first | (with_reducible first | exact HB.out | apply below_alloc | apply pw_below_drewN | apply below_drew1 | refine below_set ?_ GE106.out | refine below_set ?_ GE111.out) | exact HB.out))); (case aF => exact (fun k_ hk => Kd.freshB (g := gb111) (o := .cells #[.string t107, .string t108, .string t109, .bool t110] 45 (0, 0)) (Kq_ BK111) k_ hk)); (case aO => exact (Ku_ HO_7)); (case aS => exact (below_size (by repeat (first | (with_reducible first | exact HB.out | apply below_alloc | apply pw_below_drewN | apply below_drew1 | refine below_set ?_ GE106.out | refine below_set ?_ GE111.out) | exact HB.out)))); (case aL => have := LMc40.out; omega); intro v118 w44 ho hb hg hat; rw [← Ny117.out] at ho; have HO119 := Aside0.mk (ho); replace BK106 := Aside0.mk (blk_grown (g := gb106) (o := .cells #[.string ((rd_T64 l0 x8_1).f0.f0), .string ((rd_T64 l0 x8_1).f0.f1), .string ((rd_T64 l0 x8_1).f0.f2), .bool ((rd_T64 l0 x8_1).f0.f3), .bool x107004_9, .int .u8 ((rd_T64 l0 x8_1).f2)] 64 (0, 0)) (Kq_ BK106) hg (Kd.R_ne HO_7.out BK106.out (by decide))); replace BK111 := Aside0.mk (blk_grown (g := gb111) (o := .cells #[.string t107, .string t108, .string t109, .bool t110] 45 (0, 0)) (Kq_ BK111) hg (Kd.R_away HO_7.out (fun _ hk => hk))); replace HB := Aside0.mk (hb); clear HO_7; clear ho hb hg hat)))
                    go_roundg k4
                    case measure => have := HK1.out; have := HJ3.out; have := HJ9.out; have := HK4.out; omega
                    case rel => exact ⟨(y117), (wrap64 (x8_1 + 1)), (by first | rfl | (simp; done) | (simp [*]; done)), H', ⟨by have := HK1.out; have := HJ3.out; have := HJ9.out; have := HK4.out; omega⟩, ⟨by (with_reducible repeat (first | apply Kd.R_alloc | apply Kd.R_drewN | apply Kd.R_drew)); exact Kd.R_mono HO119.out (fun _ hk => trivial)⟩, ⟨by repeat (first | (with_reducible first | exact HB.out | apply below_alloc | apply pw_below_drewN | apply below_drew1 | refine below_set ?_ GE106.out | refine below_set ?_ GE111.out) | exact HB.out)⟩⟩
                  subst c32
                  have H1 : (if x11_4 = true then (tenementlaw13_writes.l0 k4 l0 a1 true x7_1 (wrap64 (x8_1 + 1))) else (if x7_1.length < 2513169434916 then (tenementlaw13_writes.l0 k4 l0 a1 true (x7_1 ++ [(⟨t107, t108, t109, t110⟩ : S45)]) (wrap64 (x8_1 + 1))) else (none))) = some r := by rw [if_pos rfl] at H; exact H
                  clear H
                  have H := H1
                  clear H1
                  by_cases c33 : x11_4 = true
                  · subst c33
                    have H1 : (tenementlaw13_writes.l0 k4 l0 a1 true x7_1 (wrap64 (x8_1 + 1))) = some r := by rw [if_pos rfl] at H; exact H
                    clear H
                    have H := H1
                    clear H1
                    have H' := Aside0.mk H
                    clear H
                    obtain ⟨Ao34, co34, eo34⟩ := Kd.R_slice HO_7.out
                    subst eo34
                    go_wp2
                    repeat (go_quiet (fail); try go_wp2)
                    go_roundg k4
                    case measure => have := HK1.out; have := HJ3.out; have := HJ9.out; have := HK4.out; omega
                    case rel => exact ⟨(x7_1), (wrap64 (x8_1 + 1)), (by first | rfl | (simp; done) | (simp [*]; done)), H', ⟨by have := HK1.out; have := HJ3.out; have := HJ9.out; have := HK4.out; omega⟩, ⟨by (with_reducible repeat (first | apply Kd.R_alloc | apply Kd.R_drewN | apply Kd.R_drew)); exact Kd.R_mono HO_7.out (fun _ hk => trivial)⟩, ⟨by repeat (first | (with_reducible first | exact HB.out | apply below_alloc | apply pw_below_drewN | apply below_drew1 | refine below_set ?_ GE106.out | refine below_set ?_ GE111.out) | exact HB.out)⟩⟩
                  replace c33 := Bool.eq_false_iff.mpr c33
                  subst c33
                  have H1 : (if x7_1.length < 2513169434916 then (tenementlaw13_writes.l0 k4 l0 a1 true (x7_1 ++ [(⟨t107, t108, t109, t110⟩ : S45)]) (wrap64 (x8_1 + 1))) else (none)) = some r := by rw [if_neg (show ¬ (false = true) by decide)] at H; exact H
                  clear H
                  have H := H1
                  clear H1
                  by_cases c35 : x7_1.length < 2513169434916
                  rotate_left
                  · rw [if_neg c35] at H
                    exact absurd H (by simp)
                  rw [if_pos c35] at H
                  have LMc35 := Aside0.mk c35
                  clear c35
                  obtain ⟨y114, hy114⟩ : ∃ y_ : List (S45), y_ = (x7_1 ++ [(⟨t107, t108, t109, t110⟩ : S45)]) := ⟨_, rfl⟩
                  replace H : (tenementlaw13_writes.l0 k4 l0 a1 true y114 (wrap64 (x8_1 + 1))) = some r := by first | (rw [hy114]; with_reducible exact H) | (have H2_ := (Option.bind_some _ _).symm.trans H; rw [hy114]; with_reducible exact H2_) | (have H2_ := (Option.bind_some _ _).symm.trans H; with_reducible exact H2_) | with_reducible exact H | (rw [hy114]; exact H) | exact H
                  have Ny114 := Aside0.mk hy114
                  clear hy114
                  have H' := Aside0.mk H
                  clear H
                  obtain ⟨Ao36, co36, eo36⟩ := Kd.R_slice HO_7.out
                  subst eo36
                  have hnb37 := NB111_106.out
                  have hnc37 := NB106_111.out
                  obtain ⟨hcz38_0, hcz38_1, hcz38_2, hcz38_3, hfz38_0, hfz38_1, hfz38_2, hfz38_3⟩ := Ke4_ BK111.out
                  go_wp2_with (first | ((with_reducible refine gate_builtin (b := .append) (xs := #[.tmp 66, .tmp 68]) rfl ?_); at_builtin; refine Kd.R_append k45 (w0 := w) w.heap.size rfl (.tmp 66) (.tmp 68) 31 45 (.agg #[(.string ⟨#[]⟩), (.string ⟨#[]⟩), (.string ⟨#[]⟩), (.bool false)]) 56 rfl Try.underlying31 info45 rfl (by decide) (by omega) (.slice Ao36 x7_1.length co36) x7_1 (⟨t107, t108, t109, t110⟩ : S45) [.string t107, .string t108, .string t109, .bool t110] (fun k_ => k_ ≠ gb111) (fun _ => False) rfl rfl ?aP (fun _ hk => hk.elim) ?aF ?aO ?aB ?aS ?aL ?_; (case aP => exact k45_mkM _ _ _ (⟨t107, t108, t109, t110⟩ : S45)); (case aB => exact (by repeat (first | (with_reducible first | exact HB.out | apply below_alloc | apply pw_below_drewN | apply below_drew1 | refine below_set ?_ GE106.out | refine below_set ?_ GE111.out) | exact HB.out))); (case aF => exact (fun k_ hk => Kd.freshB (g := gb111) (o := .cells #[.string t107, .string t108, .string t109, .bool t110] 45 (0, 0)) (Kq_ BK111) k_ hk)); (case aO => exact (Ku_ HO_7)); (case aS => exact (below_size (by repeat (first | (with_reducible first | exact HB.out | apply below_alloc | apply pw_below_drewN | apply below_drew1 | refine below_set ?_ GE106.out | refine below_set ?_ GE111.out) | exact HB.out)))); (case aL => have := LMc35.out; omega); intro v115 w39 ho hb hg hat; rw [← Ny114.out] at ho; have HO116 := Aside0.mk (ho); replace BK106 := Aside0.mk (blk_grown (g := gb106) (o := .cells #[.string ((rd_T64 l0 x8_1).f0.f0), .string ((rd_T64 l0 x8_1).f0.f1), .string ((rd_T64 l0 x8_1).f0.f2), .bool ((rd_T64 l0 x8_1).f0.f3), .bool x107004_9, .int .u8 ((rd_T64 l0 x8_1).f2)] 64 (0, 0)) (Kq_ BK106) hg (Kd.R_ne HO_7.out BK106.out (by decide))); replace BK111 := Aside0.mk (blk_grown (g := gb111) (o := .cells #[.string t107, .string t108, .string t109, .bool t110] 45 (0, 0)) (Kq_ BK111) hg (Kd.R_away HO_7.out (fun _ hk => hk))); replace HB := Aside0.mk (hb); clear HO_7; clear ho hb hg hat))
                  repeat (go_quiet (first | ((with_reducible refine gate_builtin (b := .append) (xs := #[.tmp 66, .tmp 68]) rfl ?_); at_builtin; refine Kd.R_append k45 (w0 := w) w.heap.size rfl (.tmp 66) (.tmp 68) 31 45 (.agg #[(.string ⟨#[]⟩), (.string ⟨#[]⟩), (.string ⟨#[]⟩), (.bool false)]) 56 rfl Try.underlying31 info45 rfl (by decide) (by omega) (.slice Ao36 x7_1.length co36) x7_1 (⟨t107, t108, t109, t110⟩ : S45) [.string t107, .string t108, .string t109, .bool t110] (fun k_ => k_ ≠ gb111) (fun _ => False) rfl rfl ?aP (fun _ hk => hk.elim) ?aF ?aO ?aB ?aS ?aL ?_; (case aP => exact k45_mkM _ _ _ (⟨t107, t108, t109, t110⟩ : S45)); (case aB => exact (by repeat (first | (with_reducible first | exact HB.out | apply below_alloc | apply pw_below_drewN | apply below_drew1 | refine below_set ?_ GE106.out | refine below_set ?_ GE111.out) | exact HB.out))); (case aF => exact (fun k_ hk => Kd.freshB (g := gb111) (o := .cells #[.string t107, .string t108, .string t109, .bool t110] 45 (0, 0)) (Kq_ BK111) k_ hk)); (case aO => exact (Ku_ HO_7)); (case aS => exact (below_size (by repeat (first | (with_reducible first | exact HB.out | apply below_alloc | apply pw_below_drewN | apply below_drew1 | refine below_set ?_ GE106.out | refine below_set ?_ GE111.out) | exact HB.out)))); (case aL => have := LMc35.out; omega); intro v115 w39 ho hb hg hat; rw [← Ny114.out] at ho; have HO116 := Aside0.mk (ho); replace BK106 := Aside0.mk (blk_grown (g := gb106) (o := .cells #[.string ((rd_T64 l0 x8_1).f0.f0), .string ((rd_T64 l0 x8_1).f0.f1), .string ((rd_T64 l0 x8_1).f0.f2), .bool ((rd_T64 l0 x8_1).f0.f3), .bool x107004_9, .int .u8 ((rd_T64 l0 x8_1).f2)] 64 (0, 0)) (Kq_ BK106) hg (Kd.R_ne HO_7.out BK106.out (by decide))); replace BK111 := Aside0.mk (blk_grown (g := gb111) (o := .cells #[.string t107, .string t108, .string t109, .bool t110] 45 (0, 0)) (Kq_ BK111) hg (Kd.R_away HO_7.out (fun _ hk => hk))); replace HB := Aside0.mk (hb); clear HO_7; clear ho hb hg hat)); try go_wp2_with (first | ((with_reducible refine gate_builtin (b := .append) (xs := #[.tmp 66, .tmp 68]) rfl ?_); at_builtin; refine Kd.R_append k45 (w0 := w) w.heap.size rfl (.tmp 66) (.tmp 68) 31 45 (.agg #[(.string ⟨#[]⟩), (.string ⟨#[]⟩), (.string ⟨#[]⟩), (.bool false)]) 56 rfl Try.underlying31 info45 rfl (by decide) (by omega) (.slice Ao36 x7_1.length co36) x7_1 (⟨t107, t108, t109, t110⟩ : S45) [.string t107, .string t108, .string t109, .bool t110] (fun k_ => k_ ≠ gb111) (fun _ => False) rfl rfl ?aP (fun _ hk => hk.elim) ?aF ?aO ?aB ?aS ?aL ?_; (case aP => exact k45_mkM _ _ _ (⟨t107, t108, t109, t110⟩ : S45)); (case aB => exact (by repeat (first | (with_reducible first | exact HB.out | apply below_alloc | apply pw_below_drewN | apply below_drew1 | refine below_set ?_ GE106.out | refine below_set ?_ GE111.out) | exact HB.out))); (case aF => exact (fun k_ hk => Kd.freshB (g := gb111) (o := .cells #[.string t107, .string t108, .string t109, .bool t110] 45 (0, 0)) (Kq_ BK111) k_ hk)); (case aO => exact (Ku_ HO_7)); (case aS => exact (below_size (by repeat (first | (with_reducible first | exact HB.out | apply below_alloc | apply pw_below_drewN | apply below_drew1 | refine below_set ?_ GE106.out | refine below_set ?_ GE111.out) | exact HB.out)))); (case aL => have := LMc35.out; omega); intro v115 w39 ho hb hg hat; rw [← Ny114.out] at ho; have HO116 := Aside0.mk (ho); replace BK106 := Aside0.mk (blk_grown (g := gb106) (o := .cells #[.string ((rd_T64 l0 x8_1).f0.f0), .string ((rd_T64 l0 x8_1).f0.f1), .string ((rd_T64 l0 x8_1).f0.f2), .bool ((rd_T64 l0 x8_1).f0.f3), .bool x107004_9, .int .u8 ((rd_T64 l0 x8_1).f2)] 64 (0, 0)) (Kq_ BK106) hg (Kd.R_ne HO_7.out BK106.out (by decide))); replace BK111 := Aside0.mk (blk_grown (g := gb111) (o := .cells #[.string t107, .string t108, .string t109, .bool t110] 45 (0, 0)) (Kq_ BK111) hg (Kd.R_away HO_7.out (fun _ hk => hk))); replace HB := Aside0.mk (hb); clear HO_7; clear ho hb hg hat)))
                  go_roundg k4
                  case measure => have := HK1.out; have := HJ3.out; have := HJ9.out; have := HK4.out; omega
                  case rel => exact ⟨(y114), (wrap64 (x8_1 + 1)), (by first | rfl | (simp; done) | (simp [*]; done)), H', ⟨by have := HK1.out; have := HJ3.out; have := HJ9.out; have := HK4.out; omega⟩, ⟨by (with_reducible repeat (first | apply Kd.R_alloc | apply Kd.R_drewN | apply Kd.R_drew)); exact Kd.R_mono HO116.out (fun _ hk => trivial)⟩, ⟨by repeat (first | (with_reducible first | exact HB.out | apply below_alloc | apply pw_below_drewN | apply below_drew1 | refine below_set ?_ GE106.out | refine below_set ?_ GE111.out) | exact HB.out)⟩⟩
end Go.Proofs.Ytbjpfgmmmdfbeaa.Q
