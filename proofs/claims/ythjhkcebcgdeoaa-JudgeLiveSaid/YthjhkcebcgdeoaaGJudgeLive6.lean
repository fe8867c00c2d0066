import Derived.Test.YthjhkcebcgdeoaaGJudgeLive2
import Derived.Test.YthjhkcebcgdeoaaGJudgeLive5
import Derived.Test.YthjhkcebcgdeoaaGJudgeLive3
import Derived.Test.YthjhkcebcgdeoaaGJudgeLive1
import Derived.Deep.Slices
import Derived.OpenShut
import Derived.SizedLaws
import Derived.ChangeArms
import Derived.WideShapes
import Derived.ChangeShapes
import Derived.KernelRfl
import Derived.Test.YthjhkcebcgdeoaaGJudgeLive0
namespace Go.Proofs.Ythjhkcebcgdeoaa.Q
open Go.RowKit Go.Proofs.YthjhkcebcgdeoaaW.PrintWords Go.Proofs.YthjhkcebcgdeoaaW.PrintLast Go.Proofs.YthjhkcebcgdeoaaW.PrintMore
attribute [local go_sem] max2_int min2_int max_two min_two max_three min_three max_four min_four   -- for this text's walks alone
set_option linter.unusedVariables false
set_option linter.unusedSimpArgs false
mutual
def tenementlaw22_writes.l0 : Nat → List (S26) → Int → Bool → List (S24) → Int → Option ((List (S24)))
 | 0, _, _, _, _, _ => none
 | k + 1, x0, x1, x2, x7, x8 => if x8 < (x0.length : Int) then (tenementlaw22_writes.j1 k x0 x1 x2 x7 x8 (decide ((x7.length : Int) < x1))) else (tenementlaw22_writes.j1 k x0 x1 x2 x7 x8 false)
def tenementlaw22_writes.j1 : Nat → List (S26) → Int → Bool → List (S24) → Int → Bool → Option ((List (S24)))
 | 0, _, _, _, _, _, _ => none
 | k + 1, x0, x1, x2, x7, x8, x22 => if x22 = true then (if 0 ≤ x8 then (if x8 < (x0.length : Int) then (if x2 = true then (tenementlaw22_writes.j2 k x0 x1 x2 x7 x8 ((rd_T26 x0 x8).f0.f0) ((rd_T26 x0 x8).f0.f1) ((rd_T26 x0 x8).f0.f2) ((rd_T26 x0 x8).f0.f3) true ((rd_T26 x0 x8).f2)) else (tenementlaw22_writes.j2 k x0 x1 x2 x7 x8 ((rd_T26 x0 x8).f0.f0) ((rd_T26 x0 x8).f0.f1) ((rd_T26 x0 x8).f0.f2) ((rd_T26 x0 x8).f0.f3) ((rd_T26 x0 x8).f1) ((rd_T26 x0 x8).f2))) else (none)) else (none)) else (some x7)
def tenementlaw22_writes.j2 : Nat → List (S26) → Int → Bool → List (S24) → Int → ByteArray → ByteArray → ByteArray → Bool → Bool → Int → Option ((List (S24)))
 | 0, _, _, _, _, _, _, _, _, _, _, _ => none
 | k + 1, x0, x1, x2, x7, x8, x110, x111, x112, x113, x104, x114 => (tenementlaw22_Put_write.f x110 x111 x112 x113 x104 x114).bind fun bt124 => (tenementlaw22_writes.l1 k x0 x1 x2 x7 x8 false 0 bt124.1 bt124.2.1 bt124.2.2.1 bt124.2.2.2)
def tenementlaw22_writes.l1 : Nat → List (S26) → Int → Bool → List (S24) → Int → Bool → Int → ByteArray → ByteArray → ByteArray → Bool → Option ((List (S24)))
 | 0, _, _, _, _, _, _, _, _, _, _, _ => none
 | k + 1, x0, x1, x2, x7, x8, x11, x12, x105, x106, x107, x108 => if x12 < (x7.length : Int) then (if x11 = true then (tenementlaw22_writes.l1 k x0 x1 x2 x7 x8 true (wrap64 (x12 + 1)) x105 x106 x107 x108) else (if 0 ≤ x12 then (if ((rd_T24 x7 x12).f0).toList = x105.toList then (tenementlaw22_writes.l1 k x0 x1 x2 x7 x8 (((rd_T24 x7 x12).f1).toList == x106.toList) (wrap64 (x12 + 1)) x105 x106 x107 x108) else (tenementlaw22_writes.l1 k x0 x1 x2 x7 x8 false (wrap64 (x12 + 1)) x105 x106 x107 x108)) else (none))) else (if x2 = true then (if x11 = true then (tenementlaw22_writes.l0 k x0 x1 x2 x7 (wrap64 (x8 + 1))) else (if x7.length < 2513169434916 then (tenementlaw22_writes.l0 k x0 x1 x2 (x7 ++ [(⟨x105, x106, x107, x108⟩ : S24)]) (wrap64 (x8 + 1))) else (none))) else (if x7.length < 2513169434916 then (tenementlaw22_writes.l0 k x0 x1 x2 (x7 ++ [(⟨x105, x106, x107, x108⟩ : S24)]) (wrap64 (x8 + 1))) else (none)))
end
def tenementlaw22_writes.f (k : Nat) (l0 : List (S26)) (a1 : Int) (a2 : Bool) : Option ((List (S24))) := tenementlaw22_writes.l0 k l0 a1 a2 ([] : List (S24)) 0
set_option maxHeartbeats 8000000 in
set_option maxRecDepth 100000 in
theorem tenementlaw22_writes.calls (k : Nat) (A0 : Option Addr) (c0 : Nat) (l0 : List (S26)) (a1 : Int) (a2 : Bool) (r : List (S24)) (w : World) (hr0 : Kd.C k26 w A0 l0.length l0) (hc0 : l0.length ≤ c0) (h : tenementlaw22_writes.f k l0 a1 a2 = some r) :
  Calls Try.prog 52 #[.slice A0 l0.length c0, .int .i64 a1, .bool a2] w fun e w' => ∃ v0_ : Value, e = .returned (v0_) ∧ Kd.R k24 24 w' w.heap.size (fun _ => True) v0_ r ∧ Below w.heap.size w w' := by
 have hu26 := Try.underlying26
 have hu24 := Try.underlying24
 have HR0 := Aside0.mk hr0
 have HC0 := Aside0.mk hc0
 clear hr0 hc0
 have HB := Aside0.mk (Below.refl w.heap.size w)
 have H : (tenementlaw22_writes.l0 k l0 a1 a2 ([] : List (S24)) 0) = some r := h
 clear h
 have H' := Aside0.mk H
 clear H
 go_enter Try.func52, Try.ntmps52
 go_wp2
 repeat (go_quiet (fail); try go_wp2)
 go_loopg [7, 8] k (fun kq v7 v8 w' => ∃ (x7_1 : List (S24)) (x8_1 : Int), v8 = .int .i64 x8_1 ∧ Aside0 (tenementlaw22_writes.l0 kq l0 a1 a2 x7_1 x8_1 = some r) ∧ Aside0 (kq ≤ k) ∧ Aside0 (Kd.R k24 24 w' w.heap.size (fun _ => True) v7 x7_1) ∧ Aside0 (Below w.heap.size w w'))
 case atStart => exact ⟨(([] : List (S24))), (0), (by first | rfl | (simp; done) | (simp [*]; done)), H', ⟨Nat.le_refl _⟩, ⟨by first | exact Kd.R_nil _ _ _ _ _ | exact Kd.N_nil _ _ _ _ _ | exact Kd.V_nil _ _ _ _ _ | exact Kd.Q_nil _ _ _ _ _ | exact Kd.S_nil _ _ _ _ _⟩, ⟨Ky_ HB⟩⟩
 case round =>
  clear H'
  try clear p2
  obtain ⟨x7_1, x8_1, rfl, HA, HK1, HO_7, HB⟩ := hrel
  cases gk with
  | zero => exact absurd HA.out (by simp [tenementlaw22_writes.l0])
  | succ k1 =>
   have H := HA.out
   clear HA
   simp only [tenementlaw22_writes.l0] at H
   have HC4 := Aside0.mk H
   clear H
   go_upto_region 3 with (fail)
   repeat (go_quiet (fail); go_upto_region 3 with (fail))
   go_cut [22] (fun v22 wc => ∃ (kq : Nat) (x22_3 : Bool), v22 = .bool x22_3 ∧ Aside0 (tenementlaw22_writes.j1 kq l0 a1 a2 x7_1 x8_1 x22_3 = some r) ∧ Aside0 (kq ≤ k1) ∧ Aside0 (Kd.R k24 24 wc w.heap.size (fun _ => True) u7 x7_1) ∧ Aside0 (Below w.heap.size w wc))
   case first =>
    have H := HC4.out
    clear HC4
    by_cases c5 : x8_1 < (l0.length : Int)
    rotate_left
    ·rw [if_neg c5] at H
     have c5b0 : decide (x8_1 < (l0.length : Int)) = false := decide_eq_false c5
     clear c5
     (first | rw [c5b0] | (simp only [i64_w, i32_w]; rw [c5b0]) | skip)
     have H' := Aside0.mk H
     clear H
     go_wp2
     repeat (go_quiet (fail); try go_wp2)
     go_meet
     case rel => exact ⟨_, (false), (by first | rfl | (simp; done) | (simp [*]; done)), H', ⟨by have := HK1.out; first | omega | exact Nat.le_refl _⟩, ⟨by (with_reducible repeat (first | apply Kd.R_alloc | apply Kd.R_drewN | apply Kd.R_drew)); exact HO_7.out⟩, ⟨Ky_ HB⟩⟩
    rw [if_pos c5] at H
    have c5b0 : decide (x8_1 < (l0.length : Int)) = true := decide_eq_true c5
    clear c5
    (first | rw [c5b0] | (simp only [i64_w, i32_w]; rw [c5b0]) | skip)
    have H' := Aside0.mk H
    clear H
    obtain ⟨Ao6, co6, eo6⟩ := Kd.R_slice HO_7.out
    subst eo6
    go_wp2
    repeat (go_quiet (fail); try go_wp2)
    go_meet
    case rel => exact ⟨_, (decide ((x7_1.length : Int) < a1)), (by first | rfl | (simp; done) | (simp [*]; done)), H', ⟨by have := HK1.out; first | omega | exact Nat.le_refl _⟩, ⟨by (with_reducible repeat (first | apply Kd.R_alloc | apply Kd.R_drewN | apply Kd.R_drew)); exact HO_7.out⟩, ⟨Ky_ HB⟩⟩
   case rest =>
    clear HC4
    try clear p2
    try clear c5
    try clear c5b0
    try clear p2
    obtain ⟨kq, x22_3, rfl, HA, HJ3, HO_7, HB⟩ := hcut
    cases kq with
    | zero => exact absurd HA.out (by simp [tenementlaw22_writes.j1])
    | succ kj3 =>
     have H := HA.out
     clear HA
     simp only [tenementlaw22_writes.j1] at H
     by_cases c7 : x22_3 = true
     rotate_left
     ·replace c7 := Bool.eq_false_iff.mpr c7
      subst c7
      have H1 : (some x7_1) = some r := by rw [if_neg (show ¬ (false = true) by decide)] at H; exact H
      clear H
      have H := H1
      clear H1
      obtain rfl := Option.some.inj H
      go_wp2
      repeat (go_quiet (fail); try go_wp2)
      go_ret
      exact ⟨_, by first | rfl | (simp [errW_none, errW_some] <;> rfl) | (simp [*, errW_none, errW_some] <;> rfl), by (with_reducible repeat (first | apply Kd.R_alloc | apply Kd.R_drewN | apply Kd.R_drew)); exact HO_7.out, Ky_ HB⟩
     subst c7
     have H1 : (if 0 ≤ x8_1 then (if x8_1 < (l0.length : Int) then (if a2 = true then (tenementlaw22_writes.j2 kj3 l0 a1 a2 x7_1 x8_1 ((rd_T26 l0 x8_1).f0.f0) ((rd_T26 l0 x8_1).f0.f1) ((rd_T26 l0 x8_1).f0.f2) ((rd_T26 l0 x8_1).f0.f3) true ((rd_T26 l0 x8_1).f2)) else (tenementlaw22_writes.j2 kj3 l0 a1 a2 x7_1 x8_1 ((rd_T26 l0 x8_1).f0.f0) ((rd_T26 l0 x8_1).f0.f1) ((rd_T26 l0 x8_1).f0.f2) ((rd_T26 l0 x8_1).f0.f3) ((rd_T26 l0 x8_1).f1) ((rd_T26 l0 x8_1).f2))) else (none)) else (none)) = some r := by rw [if_pos rfl] at H; exact H
     clear H
     have H := H1
     clear H1
     by_cases c8 : 0 ≤ x8_1
     rotate_left
     ·rw [if_neg c8] at H
      exact absurd H (by simp)
     rw [if_pos c8] at H
     have c8b0 : decide (0 ≤ x8_1) = true := decide_eq_true c8
     clear c8
     by_cases c9 : x8_1 < (l0.length : Int)
     rotate_left
     ·rw [if_neg c9] at H
      exact absurd H (by simp)
     rw [if_pos c9] at H
     have c9b0 : decide (x8_1 < (l0.length : Int)) = true := decide_eq_true c9
     clear c9
     have HC10 := Aside0.mk H
     clear H
     have p122 : 0 ≤ (x8_1 : Int) := of_decide_eq_true (by first | (with_reducible assumption) | assumption)
     have q122 : x8_1 < (l0.length : Int) := of_decide_eq_true (by first | (with_reducible assumption) | assumption)
     obtain ⟨ad122, e122, hx122_0, hx122_1, hx122_2, hx122_3, hx122_4, hx122_5⟩ := at_T26 HR0.out x8_1 p122 q122
     cases e122
     replace hx122_0 := (HB.out.cell (World.block_lt_of_cell? w _ hx122_0)).trans hx122_0
     replace hx122_1 := (HB.out.cell (World.block_lt_of_cell? w _ hx122_1)).trans hx122_1
     replace hx122_2 := (HB.out.cell (World.block_lt_of_cell? w _ hx122_2)).trans hx122_2
     replace hx122_3 := (HB.out.cell (World.block_lt_of_cell? w _ hx122_3)).trans hx122_3
     replace hx122_4 := (HB.out.cell (World.block_lt_of_cell? w _ hx122_4)).trans hx122_4
     replace hx122_5 := (HB.out.cell (World.block_lt_of_cell? w _ hx122_5)).trans hx122_5
     replace p122 := eq_true p122
     replace q122 := eq_true q122
     go_upto_if 29 with (first | ((with_reducible refine gate_dst (N := 9) rfl ?_); refine Ka_ 9 #[.string (⟨#[]⟩ : ByteArray), .string (⟨#[]⟩ : ByteArray), .string (⟨#[]⟩ : ByteArray), .bool false, .bool false, .int .u8 0] 26 ?_; intro gb123 hg w11 hbox hb; have BK123 := Aside0.mk (hbox); have GW123 := Kw_ HB hg; have GE123 := GW123; replace HO_7 := Aside0.mk (Kd.R_below (Ku_ HO_7) hb); replace HB := Ks_ HB hb; clear hb hbox hg; obtain ⟨hcz12_0, hcz12_1, hcz12_2, hcz12_3, hcz12_4, hcz12_5, hfz12_0, hfz12_1, hfz12_2, hfz12_3, hfz12_4, hfz12_5⟩ := Ke6_ BK123.out))
     repeat (go_quiet (first | ((with_reducible refine gate_dst (N := 9) rfl ?_); refine Ka_ 9 #[.string (⟨#[]⟩ : ByteArray), .string (⟨#[]⟩ : ByteArray), .string (⟨#[]⟩ : ByteArray), .bool false, .bool false, .int .u8 0] 26 ?_; intro gb123 hg w11 hbox hb; have BK123 := Aside0.mk (hbox); have GW123 := Kw_ HB hg; have GE123 := GW123; replace HO_7 := Aside0.mk (Kd.R_below (Ku_ HO_7) hb); replace HB := Ks_ HB hb; clear hb hbox hg; obtain ⟨hcz12_0, hcz12_1, hcz12_2, hcz12_3, hcz12_4, hcz12_5, hfz12_0, hfz12_1, hfz12_2, hfz12_3, hfz12_4, hfz12_5⟩ := Ke6_ BK123.out)); go_upto_if 29 with (first | ((with_reducible refine gate_dst (N := 9) rfl ?_); refine Ka_ 9 #[.string (⟨#[]⟩ : ByteArray), .string (⟨#[]⟩ : ByteArray), .string (⟨#[]⟩ : ByteArray), .bool false, .bool false, .int .u8 0] 26 ?_; intro gb123 hg w11 hbox hb; have BK123 := Aside0.mk (hbox); have GW123 := Kw_ HB hg; have GE123 := GW123; replace HO_7 := Aside0.mk (Kd.R_below (Ku_ HO_7) hb); replace HB := Ks_ HB hb; clear hb hbox hg; obtain ⟨hcz12_0, hcz12_1, hcz12_2, hcz12_3, hcz12_4, hcz12_5, hfz12_0, hfz12_1, hfz12_2, hfz12_3, hfz12_4, hfz12_5⟩ := Ke6_ BK123.out)))
     (try simp only [Act.put, List.setIfInBounds_toArray, List.set_cons_zero, List.set_cons_succ])
     go_cut [] (fun wc => ∃ (kq : Nat) (x104_9 : Bool), Aside0 (tenementlaw22_writes.j2 kq l0 a1 a2 x7_1 x8_1 ((rd_T26 l0 x8_1).f0.f0) ((rd_T26 l0 x8_1).f0.f1) ((rd_T26 l0 x8_1).f0.f2) ((rd_T26 l0 x8_1).f0.f3) x104_9 ((rd_T26 l0 x8_1).f2) = some r) ∧ Aside0 (kq ≤ kj3) ∧ Aside0 (Kd.R k24 24 wc w.heap.size (fun _ => True) u7 x7_1) ∧ Aside0 (wc.heap[gb123]? = some (.cells #[.string ((rd_T26 l0 x8_1).f0.f0), .string ((rd_T26 l0 x8_1).f0.f1), .string ((rd_T26 l0 x8_1).f0.f2), .bool ((rd_T26 l0 x8_1).f0.f3), .bool x104_9, .int .u8 ((rd_T26 l0 x8_1).f2)] 26 (0, 0))) ∧ Aside0 (Below w.heap.size w wc))
     case first =>
      have H := HC10.out
      clear HC10
      by_cases c13 : a2 = true
      rotate_left
      ·replace c13 := Bool.eq_false_iff.mpr c13
       subst c13
       have H1 : (tenementlaw22_writes.j2 kj3 l0 a1 false x7_1 x8_1 ((rd_T26 l0 x8_1).f0.f0) ((rd_T26 l0 x8_1).f0.f1) ((rd_T26 l0 x8_1).f0.f2) ((rd_T26 l0 x8_1).f0.f3) ((rd_T26 l0 x8_1).f1) ((rd_T26 l0 x8_1).f2)) = some r := by rw [if_neg (show ¬ (false = true) by decide)] at H; exact H
       clear H
       have H := H1
       clear H1
       have H' := Aside0.mk H
       clear H
       go_wp2
       repeat (go_quiet (fail); try go_wp2)
       go_meet
       case rel => exact ⟨_, ((rd_T26 l0 x8_1).f1), H', ⟨by have := HK1.out; have := HJ3.out; first | omega | exact Nat.le_refl _⟩, ⟨by (with_reducible repeat (first | apply Kd.R_alloc | apply Kd.R_drewN | apply Kd.R_drew)); exact Kd.R_mono (Kd.R_far (p := ⟨gb123, 5, none⟩) (Kd.R_far (p := ⟨gb123, 4, none⟩) (Kd.R_far (p := ⟨gb123, 3, none⟩) (Kd.R_far (p := ⟨gb123, 2, none⟩) (Kd.R_far (p := ⟨gb123, 1, none⟩) (Kd.R_far (p := ⟨gb123, 0, none⟩) (Kd.R_types HO_7.out BK123.out (by decide)) (fun _ hk => hk.2) (.string ((rd_T26 l0 x8_1).f0.f0))) (fun _ hk => hk.2) (.string ((rd_T26 l0 x8_1).f0.f1))) (fun _ hk => hk.2) (.string ((rd_T26 l0 x8_1).f0.f2))) (fun _ hk => hk.2) (.bool ((rd_T26 l0 x8_1).f0.f3))) (fun _ hk => hk.2) (.bool ((rd_T26 l0 x8_1).f1))) (fun _ hk => hk.2) (.int .u8 ((rd_T26 l0 x8_1).f2))) (fun _ hk => trivial)⟩, ⟨by refine Kv_ ?_; refine blk_put (cs := #[.string ((rd_T26 l0 x8_1).f0.f0), .string ((rd_T26 l0 x8_1).f0.f1), .string ((rd_T26 l0 x8_1).f0.f2), .bool ((rd_T26 l0 x8_1).f0.f3), .bool ((rd_T26 l0 x8_1).f1), .int .u8 0]) ?_ 5 _ rfl; refine Kv_ ?_; refine blk_put (cs := #[.string ((rd_T26 l0 x8_1).f0.f0), .string ((rd_T26 l0 x8_1).f0.f1), .string ((rd_T26 l0 x8_1).f0.f2), .bool ((rd_T26 l0 x8_1).f0.f3), .bool false, .int .u8 0]) ?_ 4 _ rfl; refine Kv_ ?_; refine blk_put (cs := #[.string ((rd_T26 l0 x8_1).f0.f0), .string ((rd_T26 l0 x8_1).f0.f1), .string ((rd_T26 l0 x8_1).f0.f2), .bool false, .bool false, .int .u8 0]) ?_ 3 _ rfl; refine Kv_ ?_; refine blk_put (cs := #[.string ((rd_T26 l0 x8_1).f0.f0), .string ((rd_T26 l0 x8_1).f0.f1), .string (⟨#[]⟩ : ByteArray), .bool false, .bool false, .int .u8 0]) ?_ 2 _ rfl; refine Kv_ ?_; refine blk_put (cs := #[.string ((rd_T26 l0 x8_1).f0.f0), .string (⟨#[]⟩ : ByteArray), .string (⟨#[]⟩ : ByteArray), .bool false, .bool false, .int .u8 0]) ?_ 1 _ rfl; refine Kv_ ?_; refine blk_put (cs := #[.string (⟨#[]⟩ : ByteArray), .string (⟨#[]⟩ : ByteArray), .string (⟨#[]⟩ : ByteArray), .bool false, .bool false, .int .u8 0]) ?_ 0 _ rfl; exact Kq_ BK123⟩, ⟨Kz_ HB GE123⟩⟩
      subst c13
      have H1 : (tenementlaw22_writes.j2 kj3 l0 a1 true x7_1 x8_1 ((rd_T26 l0 x8_1).f0.f0) ((rd_T26 l0 x8_1).f0.f1) ((rd_T26 l0 x8_1).f0.f2) ((rd_T26 l0 x8_1).f0.f3) true ((rd_T26 l0 x8_1).f2)) = some r := by rw [if_pos rfl] at H; exact H
      clear H
      have H := H1
      clear H1
      have H' := Aside0.mk H
      clear H
      obtain ⟨hcz14_0, hcz14_1, hcz14_2, hcz14_3, hcz14_4, hcz14_5, hfz14_0, hfz14_1, hfz14_2, hfz14_3, hfz14_4, hfz14_5⟩ := Ke6_ BK123.out
      go_wp2
      repeat (go_quiet (fail); try go_wp2)
      go_meet
      case rel => exact ⟨_, (true), H', ⟨by have := HK1.out; have := HJ3.out; first | omega | exact Nat.le_refl _⟩, ⟨by (with_reducible repeat (first | apply Kd.R_alloc | apply Kd.R_drewN | apply Kd.R_drew)); exact Kd.R_mono (Kd.R_far (p := ⟨gb123, 4, none⟩) (Kd.R_far (p := ⟨gb123, 5, none⟩) (Kd.R_far (p := ⟨gb123, 4, none⟩) (Kd.R_far (p := ⟨gb123, 3, none⟩) (Kd.R_far (p := ⟨gb123, 2, none⟩) (Kd.R_far (p := ⟨gb123, 1, none⟩) (Kd.R_far (p := ⟨gb123, 0, none⟩) (Kd.R_types HO_7.out BK123.out (by decide)) (fun _ hk => hk.2) (.string ((rd_T26 l0 x8_1).f0.f0))) (fun _ hk => hk.2) (.string ((rd_T26 l0 x8_1).f0.f1))) (fun _ hk => hk.2) (.string ((rd_T26 l0 x8_1).f0.f2))) (fun _ hk => hk.2) (.bool ((rd_T26 l0 x8_1).f0.f3))) (fun _ hk => hk.2) (.bool ((rd_T26 l0 x8_1).f1))) (fun _ hk => hk.2) (.int .u8 ((rd_T26 l0 x8_1).f2))) (fun _ hk => hk.2) (.bool true)) (fun _ hk => trivial)⟩, ⟨by refine Kv_ ?_; refine blk_put (cs := #[.string ((rd_T26 l0 x8_1).f0.f0), .string ((rd_T26 l0 x8_1).f0.f1), .string ((rd_T26 l0 x8_1).f0.f2), .bool ((rd_T26 l0 x8_1).f0.f3), .bool ((rd_T26 l0 x8_1).f1), .int .u8 ((rd_T26 l0 x8_1).f2)]) ?_ 4 _ rfl; refine Kv_ ?_; refine blk_put (cs := #[.string ((rd_T26 l0 x8_1).f0.f0), .string ((rd_T26 l0 x8_1).f0.f1), .string ((rd_T26 l0 x8_1).f0.f2), .bool ((rd_T26 l0 x8_1).f0.f3), .bool ((rd_T26 l0 x8_1).f1), .int .u8 0]) ?_ 5 _ rfl; refine Kv_ ?_; refine blk_put (cs := #[.string ((rd_T26 l0 x8_1).f0.f0), .string ((rd_T26 l0 x8_1).f0.f1), .string ((rd_T26 l0 x8_1).f0.f2), .bool ((rd_T26 l0 x8_1).f0.f3), .bool false, .int .u8 0]) ?_ 4 _ rfl; refine Kv_ ?_; refine blk_put (cs := #[.string ((rd_T26 l0 x8_1).f0.f0), .string ((rd_T26 l0 x8_1).f0.f1), .string ((rd_T26 l0 x8_1).f0.f2), .bool false, .bool false, .int .u8 0]) ?_ 3 _ rfl; refine Kv_ ?_; refine blk_put (cs := #[.string ((rd_T26 l0 x8_1).f0.f0), .string ((rd_T26 l0 x8_1).f0.f1), .string (⟨#[]⟩ : ByteArray), .bool false, .bool false, .int .u8 0]) ?_ 2 _ rfl; refine Kv_ ?_; refine blk_put (cs := #[.string ((rd_T26 l0 x8_1).f0.f0), .string (⟨#[]⟩ : ByteArray), .string (⟨#[]⟩ : ByteArray), .bool false, .bool false, .int .u8 0]) ?_ 1 _ rfl; refine Kv_ ?_; refine blk_put (cs := #[.string (⟨#[]⟩ : ByteArray), .string (⟨#[]⟩ : ByteArray), .string (⟨#[]⟩ : ByteArray), .bool false, .bool false, .int .u8 0]) ?_ 0 _ rfl; exact Kq_ BK123⟩, ⟨Kz_ HB GE123⟩⟩
     case rest =>
      clear HC10
      try clear c1
      try clear p1
      try clear q1
      try clear hx1
      try clear p2
      try clear c5
      try clear c5b0
      try clear c7
      try clear c8
      try clear c8b0
      try clear c9
      try clear c9b0
      try clear p12
      try clear q12
      try clear hx12
      try clear c13
      try clear hcz12_0
      try clear hcz12_1
      try clear hcz12_2
      try clear hcz12_3
      try clear hcz12_4
      try clear hcz12_5
      try clear hcz14_0
      try clear hcz14_1
      try clear hcz14_2
      try clear hcz14_3
      try clear hcz14_4
      try clear hcz14_5
      try clear hfz12_0
      try clear hfz12_1
      try clear hfz12_2
      try clear hfz12_3
      try clear hfz12_4
      try clear hfz12_5
      try clear hfz14_0
      try clear hfz14_1
      try clear hfz14_2
      try clear hfz14_3
      try clear hfz14_4
      try clear hfz14_5
      try clear hx122_0
      try clear hx122_1
      try clear hx122_2
      try clear hx122_3
      try clear hx122_4
      try clear hx122_5
      try clear p122
      try clear p2
      try clear q122
      obtain ⟨kq, x104_9, HA, HJ9, HO_7, BK123, HB⟩ := hcut
      cases kq with
      | zero => exact absurd HA.out (by simp [tenementlaw22_writes.j2])
      | succ kj9 =>
       have H := HA.out
       clear HA
       simp only [tenementlaw22_writes.j2] at H
       replace H := Option.bind_eq_some_iff.mp H
       obtain ⟨⟨t124, t125, t126, t127⟩, A150, H⟩ := H
       replace H : (tenementlaw22_writes.l1 kj9 l0 a1 a2 x7_1 x8_1 false 0 t124 t125 t126 t127) = some r := H
       have A15 := Aside0.mk A150
       clear A150
       have H' := Aside0.mk H
       clear H
       obtain ⟨hcz16_0, hcz16_1, hcz16_2, hcz16_3, hcz16_4, hcz16_5, hfz16_0, hfz16_1, hfz16_2, hfz16_3, hfz16_4, hfz16_5⟩ := Ke6_ BK123.out
       go_wp2_with (first | (go_at_call 12; (with_reducible refine (tenementlaw22_Put_write.calls ((rd_T26 l0 x8_1).f0.f0) ((rd_T26 l0 x8_1).f0.f1) ((rd_T26 l0 x8_1).f0.f2) ((rd_T26 l0 x8_1).f0.f3) x104_9 ((rd_T26 l0 x8_1).f2) t124 t125 t126 t127 _ A15.out).mono ?_); rintro e w17 ⟨rfl, hb⟩; replace HO_7 := Aside0.mk (Kd.R_below (Ku_ HO_7) hb); replace BK123 := Kb_ BK123 hb; replace HB := Ks_ HB hb; (try clear hb); (try clear hb2); (try clear hk); (try clear hi)) | ((with_reducible refine gate_dst (N := 10) rfl ?_); refine Ka_ 10 #[.string (⟨#[]⟩ : ByteArray), .string (⟨#[]⟩ : ByteArray), .string (⟨#[]⟩ : ByteArray), .bool false] 24 ?_; intro gb128 hg w18 hbox hb; have BK128 := Aside0.mk (hbox); have GW128 := Kw_ HB hg; have GE128 := GW128; have NB123_128 := Kl_ BK123 hg; have NB128_123 := Kr_ BK123 hg; replace HO_7 := Aside0.mk (Kd.R_below (Kd.R_elderB (Ku_ HO_7) gb128 (Nat.le_of_eq hg.symm)) hb); replace BK123 := Kb_ BK123 hb; replace HB := Ks_ HB hb; clear hb hbox hg; have hnb19 := NB128_123.out; have hnc19 := NB123_128.out; obtain ⟨hcz20_0, hcz20_1, hcz20_2, hcz20_3, hfz20_0, hfz20_1, hfz20_2, hfz20_3⟩ := Ke4_ BK128.out))
       repeat (go_quiet (first | (go_at_call 12; (with_reducible refine (tenementlaw22_Put_write.calls ((rd_T26 l0 x8_1).f0.f0) ((rd_T26 l0 x8_1).f0.f1) ((rd_T26 l0 x8_1).f0.f2) ((rd_T26 l0 x8_1).f0.f3) x104_9 ((rd_T26 l0 x8_1).f2) t124 t125 t126 t127 _ A15.out).mono ?_); rintro e w17 ⟨rfl, hb⟩; replace HO_7 := Aside0.mk (Kd.R_below (Ku_ HO_7) hb); replace BK123 := Kb_ BK123 hb; replace HB := Ks_ HB hb; (try clear hb); (try clear hb2); (try clear hk); (try clear hi)) | ((with_reducible refine gate_dst (N := 10) rfl ?_); refine Ka_ 10 #[.string (⟨#[]⟩ : ByteArray), .string (⟨#[]⟩ : ByteArray), .string (⟨#[]⟩ : ByteArray), .bool false] 24 ?_; intro gb128 hg w18 hbox hb; have BK128 := Aside0.mk (hbox); have GW128 := Kw_ HB hg; have GE128 := GW128; have NB123_128 := Kl_ BK123 hg; have NB128_123 := Kr_ BK123 hg; replace HO_7 := Aside0.mk (Kd.R_below (Kd.R_elderB (Ku_ HO_7) gb128 (Nat.le_of_eq hg.symm)) hb); replace BK123 := Kb_ BK123 hb; replace HB := Ks_ HB hb; clear hb hbox hg; have hnb19 := NB128_123.out; have hnc19 := NB123_128.out; obtain ⟨hcz20_0, hcz20_1, hcz20_2, hcz20_3, hfz20_0, hfz20_1, hfz20_2, hfz20_3⟩ := Ke4_ BK128.out)); try go_wp2_with (first | (go_at_call 12; (with_reducible refine (tenementlaw22_Put_write.calls ((rd_T26 l0 x8_1).f0.f0) ((rd_T26 l0 x8_1).f0.f1) ((rd_T26 l0 x8_1).f0.f2) ((rd_T26 l0 x8_1).f0.f3) x104_9 ((rd_T26 l0 x8_1).f2) t124 t125 t126 t127 _ A15.out).mono ?_); rintro e w17 ⟨rfl, hb⟩; replace HO_7 := Aside0.mk (Kd.R_below (Ku_ HO_7) hb); replace BK123 := Kb_ BK123 hb; replace HB := Ks_ HB hb; (try clear hb); (try clear hb2); (try clear hk); (try clear hi)) | ((with_reducible refine gate_dst (N := 10) rfl ?_); refine Ka_ 10 #[.string (⟨#[]⟩ : ByteArray), .string (⟨#[]⟩ : ByteArray), .string (⟨#[]⟩ : ByteArray), .bool false] 24 ?_; intro gb128 hg w18 hbox hb; have BK128 := Aside0.mk (hbox); have GW128 := Kw_ HB hg; have GE128 := GW128; have NB123_128 := Kl_ BK123 hg; have NB128_123 := Kr_ BK123 hg; replace HO_7 := Aside0.mk (Kd.R_below (Kd.R_elderB (Ku_ HO_7) gb128 (Nat.le_of_eq hg.symm)) hb); replace BK123 := Kb_ BK123 hb; replace HB := Ks_ HB hb; clear hb hbox hg; have hnb19 := NB128_123.out; have hnc19 := NB123_128.out; obtain ⟨hcz20_0, hcz20_1, hcz20_2, hcz20_3, hfz20_0, hfz20_1, hfz20_2, hfz20_3⟩ := Ke4_ BK128.out)))
       go_loopg [11, 12] kj9 (fun kq v11 v12 w' => ∃ (x11_4 : Bool) (x12_4 : Int), v11 = .bool x11_4 ∧ v12 = .int .i64 x12_4 ∧ Aside0 (tenementlaw22_writes.l1 kq l0 a1 a2 x7_1 x8_1 x11_4 x12_4 t124 t125 t126 t127 = some r) ∧ Aside0 (kq ≤ kj9) ∧ Aside0 (Kd.R k24 24 w' w.heap.size (fun k_ => k_ ≠ gb128) u7 x7_1) ∧ Aside0 (w'.heap[gb123]? = some (.cells #[.string ((rd_T26 l0 x8_1).f0.f0), .string ((rd_T26 l0 x8_1).f0.f1), .string ((rd_T26 l0 x8_1).f0.f2), .bool ((rd_T26 l0 x8_1).f0.f3), .bool x104_9, .int .u8 ((rd_T26 l0 x8_1).f2)] 26 (0, 0))) ∧ Aside0 (w'.heap[gb128]? = some (.cells #[.string t124, .string t125, .string t126, .bool t127] 24 (0, 0))) ∧ Aside0 (Below w.heap.size w w'))
       case atStart => exact ⟨(false), (0), (by first | rfl | (simp; done) | (simp [*]; done)), (by first | rfl | (simp; done) | (simp [*]; done)), H', ⟨Nat.le_refl _⟩, ⟨by (with_reducible repeat (first | apply Kd.R_alloc | apply Kd.R_drewN | apply Kd.R_drew)); exact Kd.R_mono (Kd.R_far (p := ⟨gb128, 3, none⟩) (Kd.R_far (p := ⟨gb128, 2, none⟩) (Kd.R_far (p := ⟨gb128, 1, none⟩) (Kd.R_far (p := ⟨gb128, 0, none⟩) (Kd.R_mono HO_7.out (fun k_ hk => (⟨hk, hk.2⟩ : _ ∧ k_ ≠ gb128))) (fun _ hk => hk.2) (.string t124)) (fun _ hk => hk.2) (.string t125)) (fun _ hk => hk.2) (.string t126)) (fun _ hk => hk.2) (.bool t127)) (fun _ hk => hk.1.2)⟩, ⟨by exact K1b_ BK123 NB123_128⟩, ⟨by refine Kv_ ?_; refine blk_put (cs := #[.string t124, .string t125, .string t126, .bool false]) ?_ 3 _ rfl; refine Kv_ ?_; refine blk_put (cs := #[.string t124, .string t125, .string (⟨#[]⟩ : ByteArray), .bool false]) ?_ 2 _ rfl; refine Kv_ ?_; refine blk_put (cs := #[.string t124, .string (⟨#[]⟩ : ByteArray), .string (⟨#[]⟩ : ByteArray), .bool false]) ?_ 1 _ rfl; refine Kv_ ?_; refine blk_put (cs := #[.string (⟨#[]⟩ : ByteArray), .string (⟨#[]⟩ : ByteArray), .string (⟨#[]⟩ : ByteArray), .bool false]) ?_ 0 _ rfl; exact Kq_ BK128⟩, ⟨K2a_ HB GE123 GE128⟩⟩
       case round =>
        clear H'
        try clear c1
        try clear p1
        try clear q1
        try clear hx1
        try clear p2
        try clear c5
        try clear c5b0
        try clear c7
        try clear c8
        try clear c8b0
        try clear c9
        try clear c9b0
        try clear p12
        try clear q12
        try clear hx12
        try clear c13
        try clear c19
        try clear hcz12_0
        try clear hcz12_1
        try clear hcz12_2
        try clear hcz12_3
        try clear hcz12_4
        try clear hcz12_5
        try clear hcz14_0
        try clear hcz14_1
        try clear hcz14_2
        try clear hcz14_3
        try clear hcz14_4
        try clear hcz14_5
        try clear hcz16_0
        try clear hcz16_1
        try clear hcz16_2
        try clear hcz16_3
        try clear hcz16_4
        try clear hcz16_5
        try clear hcz20_0
        try clear hcz20_1
        try clear hcz20_2
        try clear hcz20_3
        try clear hfz12_0
        try clear hfz12_1
        try clear hfz12_2
        try clear hfz12_3
        try clear hfz12_4
        try clear hfz12_5
        try clear hfz14_0
        try clear hfz14_1
        try clear hfz14_2
        try clear hfz14_3
        try clear hfz14_4
        try clear hfz14_5
        try clear hfz16_0
        try clear hfz16_1
        try clear hfz16_2
        try clear hfz16_3
        try clear hfz16_4
        try clear hfz16_5
        try clear hfz20_0
        try clear hfz20_1
        try clear hfz20_2
        try clear hfz20_3
        try clear hx122_0
        try clear hx122_1
        try clear hx122_2
        try clear hx122_3
        try clear hx122_4
        try clear hx122_5
        try clear p1
        try clear p12
        try clear p122
        try clear p2
        try clear q1
        try clear q12
        try clear q122
        obtain ⟨x11_4, x12_4, rfl, rfl, HA, HK4, HO_7, BK123, BK128, HB⟩ := hrel
        cases gk with
        | zero => exact absurd HA.out (by simp [tenementlaw22_writes.l1])
        | succ k4 =>
         have H := HA.out
         clear HA
         simp only [tenementlaw22_writes.l1] at H
         by_cases c21 : x12_4 < (x7_1.length : Int)
         ·rw [if_pos c21] at H
          have c21b0 : decide (x12_4 < (x7_1.length : Int)) = true := decide_eq_true c21
          clear c21
          by_cases c22 : x11_4 = true
          ·subst c22
           have H1 : (tenementlaw22_writes.l1 k4 l0 a1 a2 x7_1 x8_1 true (wrap64 (x12_4 + 1)) t124 t125 t126 t127) = some r := by rw [if_pos rfl] at H; exact H
           clear H
           have H := H1
           clear H1
           have H' := Aside0.mk H
           clear H
           obtain ⟨Ao23, co23, eo23⟩ := Kd.R_slice HO_7.out
           subst eo23
           go_wp2
           repeat (go_quiet (fail); try go_wp2)
           go_roundg k4
           case measure => have := HK1.out; have := HJ3.out; have := HJ9.out; have := HK4.out; omega
           case rel => exact ⟨(true), (wrap64 (x12_4 + 1)), (by first | rfl | (simp; done) | (simp [*]; done)), (by first | rfl | (simp; done) | (simp [*]; done)), H', ⟨by have := HK1.out; have := HJ3.out; have := HJ9.out; have := HK4.out; omega⟩, ⟨by (with_reducible repeat (first | apply Kd.R_alloc | apply Kd.R_drewN | apply Kd.R_drew)); exact HO_7.out⟩, ⟨by exact Kq_ BK123⟩, ⟨by exact Kq_ BK128⟩, ⟨K2a_ HB GE123 GE128⟩⟩
          replace c22 := Bool.eq_false_iff.mpr c22
          subst c22
          have H1 : (if 0 ≤ x12_4 then (if ((rd_T24 x7_1 x12_4).f0).toList = t124.toList then (tenementlaw22_writes.l1 k4 l0 a1 a2 x7_1 x8_1 (((rd_T24 x7_1 x12_4).f1).toList == t125.toList) (wrap64 (x12_4 + 1)) t124 t125 t126 t127) else (tenementlaw22_writes.l1 k4 l0 a1 a2 x7_1 x8_1 false (wrap64 (x12_4 + 1)) t124 t125 t126 t127)) else (none)) = some r := by rw [if_neg (show ¬ (false = true) by decide)] at H; exact H
          clear H
          have H := H1
          clear H1
          by_cases c24 : 0 ≤ x12_4
          rotate_left
          ·rw [if_neg c24] at H
           exact absurd H (by simp)
          rw [if_pos c24] at H
          have c24b0 : decide (0 ≤ x12_4) = true := decide_eq_true c24
          clear c24
          by_cases c25 : ((rd_T24 x7_1 x12_4).f0).toList = t124.toList
          rotate_left
          ·rw [if_neg c25] at H
           have c25b0 : (((rd_T24 x7_1 x12_4).f0).toList == t124.toList) = false := beq_eq_false_iff_ne.mpr c25
           have c25b1 : (((rd_T24 x7_1 x12_4).f0).toList != t124.toList) = true := bne_iff_ne.mpr c25
           have H' := Aside0.mk H
           clear H
           obtain ⟨Ao29, co29, eo29⟩ := Kd.R_slice HO_7.out
           subst eo29
           have p129 : 0 ≤ (x12_4 : Int) := of_decide_eq_true (by first | (with_reducible assumption) | assumption)
           have q129 : x12_4 < (x7_1.length : Int) := of_decide_eq_true (by first | (with_reducible assumption) | assumption)
           obtain ⟨ad129, e129, hx129_0, hx129_1, hx129_2, hx129_3⟩ := at_T24 (Kd.R_reads' HO_7.out).2.2 x12_4 p129 q129
           cases e129
           replace p129 := eq_true p129
           replace q129 := eq_true q129
           have hnb30 := NB128_123.out
           have hnc30 := NB123_128.out
           obtain ⟨hcz31_0, hcz31_1, hcz31_2, hcz31_3, hfz31_0, hfz31_1, hfz31_2, hfz31_3⟩ := Ke4_ BK128.out
           go_wp2
           repeat (go_quiet (fail); try go_wp2)
           go_roundg k4
           case measure => have := HK1.out; have := HJ3.out; have := HJ9.out; have := HK4.out; omega
           case rel => exact ⟨(false), (wrap64 (x12_4 + 1)), (by first | rfl | (simp; done) | (simp [*]; done)), (by first | rfl | (simp; done) | (simp [*]; done)), H', ⟨by have := HK1.out; have := HJ3.out; have := HJ9.out; have := HK4.out; omega⟩, ⟨by (with_reducible repeat (first | apply Kd.R_alloc | apply Kd.R_drewN | apply Kd.R_drew)); exact HO_7.out⟩, ⟨by exact Kq_ BK123⟩, ⟨by exact Kq_ BK128⟩, ⟨K2a_ HB GE123 GE128⟩⟩
          rw [if_pos c25] at H
          have c25b0 : (((rd_T24 x7_1 x12_4).f0).toList == t124.toList) = true := beq_iff_eq.mpr c25
          have c25b1 : (((rd_T24 x7_1 x12_4).f0).toList != t124.toList) = false := bne_eq_false_iff_eq.mpr c25
          clear c25
          have H' := Aside0.mk H
          clear H
          obtain ⟨Ao26, co26, eo26⟩ := Kd.R_slice HO_7.out
          subst eo26
          have p129 : 0 ≤ (x12_4 : Int) := of_decide_eq_true (by first | (with_reducible assumption) | assumption)
          have q129 : x12_4 < (x7_1.length : Int) := of_decide_eq_true (by first | (with_reducible assumption) | assumption)
          obtain ⟨ad129, e129, hx129_0, hx129_1, hx129_2, hx129_3⟩ := at_T24 (Kd.R_reads' HO_7.out).2.2 x12_4 p129 q129
          cases e129
          replace p129 := eq_true p129
          replace q129 := eq_true q129
          have hnb27 := NB128_123.out
          have hnc27 := NB123_128.out
          obtain ⟨hcz28_0, hcz28_1, hcz28_2, hcz28_3, hfz28_0, hfz28_1, hfz28_2, hfz28_3⟩ := Ke4_ BK128.out
          have p130 : 0 ≤ (x12_4 : Int) := of_decide_eq_true (by first | (with_reducible assumption) | assumption)
          have q130 : x12_4 < (x7_1.length : Int) := of_decide_eq_true (by first | (with_reducible assumption) | assumption)
          obtain ⟨ad130, e130, hx130_0, hx130_1, hx130_2, hx130_3⟩ := at_T24 (Kd.R_reads' HO_7.out).2.2 x12_4 p130 q130
          obtain rfl : ad129 = ad130 := (by injection e130)
          replace p130 := eq_true p130
          replace q130 := eq_true q130
          go_wp2
          repeat (go_quiet (fail); try go_wp2)
          go_roundg k4
          case measure => have := HK1.out; have := HJ3.out; have := HJ9.out; have := HK4.out; omega
          case rel => exact ⟨((((rd_T24 x7_1 x12_4).f1).toList == t125.toList)), (wrap64 (x12_4 + 1)), (by first | rfl | (simp; done) | (simp [*]; done)), (by first | rfl | (simp; done) | (simp [*]; done)), H', ⟨by have := HK1.out; have := HJ3.out; have := HJ9.out; have := HK4.out; omega⟩, ⟨by (with_reducible repeat (first | apply Kd.R_alloc | apply Kd.R_drewN | apply Kd.R_drew)); exact HO_7.out⟩, ⟨by exact Kq_ BK123⟩, ⟨by exact Kq_ BK128⟩, ⟨K2a_ HB GE123 GE128⟩⟩
         rw [if_neg c21] at H
         have c21b0 : decide (x12_4 < (x7_1.length : Int)) = false := decide_eq_false c21
         clear c21
         by_cases c32 : a2 = true
         rotate_left
         ·replace c32 := Bool.eq_false_iff.mpr c32
          subst c32
          have H1 : (if x7_1.length < 2513169434916 then (tenementlaw22_writes.l0 k4 l0 a1 false (x7_1 ++ [(⟨t124, t125, t126, t127⟩ : S24)]) (wrap64 (x8_1 + 1))) else (none)) = some r := by rw [if_neg (show ¬ (false = true) by decide)] at H; exact H
          clear H
          have H := H1
          clear H1
          by_cases c40 : x7_1.length < 2513169434916
          rotate_left
          ·rw [if_neg c40] at H
           exact absurd H (by simp)
          rw [if_pos c40] at H
          have LMc40 := Aside0.mk c40
          clear c40
          obtain ⟨y134, hy134⟩ : ∃ y_ : List (S24), y_ = (x7_1 ++ [(⟨t124, t125, t126, t127⟩ : S24)]) := ⟨_, rfl⟩
          replace H : (tenementlaw22_writes.l0 k4 l0 a1 false y134 (wrap64 (x8_1 + 1))) = some r := by first | (rw [hy134]; with_reducible exact H) | (have H2_ := (Option.bind_some _ _).symm.trans H; rw [hy134]; with_reducible exact H2_) | (have H2_ := (Option.bind_some _ _).symm.trans H; with_reducible exact H2_) | with_reducible exact H | (rw [hy134]; exact H) | exact H
          have Ny134 := Aside0.mk hy134
          clear hy134
          have H' := Aside0.mk H
          clear H
          obtain ⟨Ao41, co41, eo41⟩ := Kd.R_slice HO_7.out
          subst eo41
          have hnb42 := NB128_123.out
          have hnc42 := NB123_128.out
          obtain ⟨hcz43_0, hcz43_1, hcz43_2, hcz43_3, hfz43_0, hfz43_1, hfz43_2, hfz43_3⟩ := Ke4_ BK128.out
          go_wp2_with (first | ((with_reducible refine gate_builtin (b := .append) (xs := #[.tmp 66, .tmp 68]) rfl ?_); at_builtin; refine Kd.R_append k24 (w0 := w) w.heap.size rfl (.tmp 66) (.tmp 68) 62 24 (.agg #[(.string ⟨#[]⟩), (.string ⟨#[]⟩), (.string ⟨#[]⟩), (.bool false)]) 56 rfl Try.underlying62 info24 rfl (by decide) (by omega) (.slice Ao41 x7_1.length co41) x7_1 (⟨t124, t125, t126, t127⟩ : S24) [.string t124, .string t125, .string t126, .bool t127] (fun k_ => k_ ≠ gb128) (fun _ => False) rfl rfl ?aP (fun _ hk => hk.elim) ?aF ?aO ?aB ?aS ?aL ?_; (case aP => exact k24_mkM _ _ _ (⟨t124, t125, t126, t127⟩ : S24)); (case aB => exact (K2a_ HB GE123 GE128)); (case aF => exact (fun k_ hk => Kd.freshB (g := gb128) (o := .cells #[.string t124, .string t125, .string t126, .bool t127] 24 (0, 0)) (Kq_ BK128) k_ hk)); (case aO => exact (Ku_ HO_7)); (case aS => exact (below_size (K2a_ HB GE123 GE128))); (case aL => have := LMc40.out; omega); intro v135 w44 ho hb hg hat; rw [← Ny134.out] at ho; have HO136 := Aside0.mk (ho); replace BK123 := Aside0.mk (blk_grown (g := gb123) (o := .cells #[.string ((rd_T26 l0 x8_1).f0.f0), .string ((rd_T26 l0 x8_1).f0.f1), .string ((rd_T26 l0 x8_1).f0.f2), .bool ((rd_T26 l0 x8_1).f0.f3), .bool x104_9, .int .u8 ((rd_T26 l0 x8_1).f2)] 26 (0, 0)) (Kq_ BK123) hg (Kd.R_ne HO_7.out BK123.out (by decide))); replace BK128 := Aside0.mk (blk_grown (g := gb128) (o := .cells #[.string t124, .string t125, .string t126, .bool t127] 24 (0, 0)) (Kq_ BK128) hg (Kd.R_away HO_7.out (fun _ hk => hk))); replace HB := Aside0.mk (hb); clear HO_7; clear ho hb hg hat))
          repeat (go_quiet (first | ((with_reducible refine gate_builtin (b := .append) (xs := #[.tmp 66, .tmp 68]) rfl ?_); at_builtin; refine Kd.R_append k24 (w0 := w) w.heap.size rfl (.tmp 66) (.tmp 68) 62 24 (.agg #[(.string ⟨#[]⟩), (.string ⟨#[]⟩), (.string ⟨#[]⟩), (.bool false)]) 56 rfl Try.underlying62 info24 rfl (by decide) (by omega) (.slice Ao41 x7_1.length co41) x7_1 (⟨t124, t125, t126, t127⟩ : S24) [.string t124, .string t125, .string t126, .bool t127] (fun k_ => k_ ≠ gb128) (fun _ => False) rfl rfl ?aP (fun _ hk => hk.elim) ?aF ?aO ?aB ?aS ?aL ?_; (case aP => exact k24_mkM _ _ _ (⟨t124, t125, t126, t127⟩ : S24)); (case aB => exact (K2a_ HB GE123 GE128)); (case aF => exact (fun k_ hk => Kd.freshB (g := gb128) (o := .cells #[.string t124, .string t125, .string t126, .bool t127] 24 (0, 0)) (Kq_ BK128) k_ hk)); (case aO => exact (Ku_ HO_7)); (case aS => exact (below_size (K2a_ HB GE123 GE128))); (case aL => have := LMc40.out; omega); intro v135 w44 ho hb hg hat; rw [← Ny134.out] at ho; have HO136 := Aside0.mk (ho); replace BK123 := Aside0.mk (blk_grown (g := gb123) (o := .cells #[.string ((rd_T26 l0 x8_1).f0.f0), .string ((rd_T26 l0 x8_1).f0.f1), .string ((rd_T26 l0 x8_1).f0.f2), .bool ((rd_T26 l0 x8_1).f0.f3), .bool x104_9, .int .u8 ((rd_T26 l0 x8_1).f2)] 26 (0, 0)) (Kq_ BK123) hg (Kd.R_ne HO_7.out BK123.out (by decide))); replace BK128 := Aside0.mk (blk_grown (g := gb128) (o := .cells #[.string t124, .string t125, .string t126, .bool t127] 24 (0, 0)) (Kq_ BK128) hg (Kd.R_away HO_7.out (fun _ hk => hk))); replace HB := Aside0.mk (hb); clear HO_7; clear ho hb hg hat)); try go_wp2_with (first | ((with_reducible refine gate_builtin (b := .append) (xs := #[.tmp 66, .tmp 68]) rfl ?_); at_builtin; refine Kd.R_append k24 (w0 := w) w.heap.size rfl (.tmp 66) (.tmp 68) 62 24 (.agg #[(.string ⟨#[]⟩), (.string ⟨#[]⟩), (.string ⟨#[]⟩), (.bool false)]) 56 rfl Try.underlying62 info24 rfl (by decide) (by omega) (.slice Ao41 x7_1.length co41) x7_1 (⟨t124, t125, t126, t127⟩ : S24) [.string t124, .string t125, .string t126, .bool t127] (fun k_ => k_ ≠ gb128) (fun _ => False) rfl rfl ?aP (fun _ hk => hk.elim) ?aF ?aO ?aB ?aS ?aL ?_; (case aP => exact k24_mkM _ _ _ (⟨t124, t125, t126, t127⟩ : S24)); (case aB => exact (K2a_ HB GE123 GE128)); (case aF => exact (fun k_ hk => Kd.freshB (g := gb128) (o := .cells #[.string t124, .string t125, .string t126, .bool t127] 24 (0, 0)) (Kq_ BK128) k_ hk)); (case aO => exact (Ku_ HO_7)); (case aS => exact (below_size (K2a_ HB GE123 GE128))); (case aL => have := LMc40.out; omega); intro v135 w44 ho hb hg hat; rw [← Ny134.out] at ho; have HO136 := Aside0.mk (ho); replace BK123 := Aside0.mk (blk_grown (g := gb123) (o := .cells #[.string ((rd_T26 l0 x8_1).f0.f0), .string ((rd_T26 l0 x8_1).f0.f1), .string ((rd_T26 l0 x8_1).f0.f2), .bool ((rd_T26 l0 x8_1).f0.f3), .bool x104_9, .int .u8 ((rd_T26 l0 x8_1).f2)] 26 (0, 0)) (Kq_ BK123) hg (Kd.R_ne HO_7.out BK123.out (by decide))); replace BK128 := Aside0.mk (blk_grown (g := gb128) (o := .cells #[.string t124, .string t125, .string t126, .bool t127] 24 (0, 0)) (Kq_ BK128) hg (Kd.R_away HO_7.out (fun _ hk => hk))); replace HB := Aside0.mk (hb); clear HO_7; clear ho hb hg hat)))
          go_roundg k4
          case measure => have := HK1.out; have := HJ3.out; have := HJ9.out; have := HK4.out; omega
          case rel => exact ⟨(y134), (wrap64 (x8_1 + 1)), (by first | rfl | (simp; done) | (simp [*]; done)), H', ⟨by have := HK1.out; have := HJ3.out; have := HJ9.out; have := HK4.out; omega⟩, ⟨by (with_reducible repeat (first | apply Kd.R_alloc | apply Kd.R_drewN | apply Kd.R_drew)); exact Kd.R_mono HO136.out (fun _ hk => trivial)⟩, ⟨K2a_ HB GE123 GE128⟩⟩
         subst c32
         have H1 : (if x11_4 = true then (tenementlaw22_writes.l0 k4 l0 a1 true x7_1 (wrap64 (x8_1 + 1))) else (if x7_1.length < 2513169434916 then (tenementlaw22_writes.l0 k4 l0 a1 true (x7_1 ++ [(⟨t124, t125, t126, t127⟩ : S24)]) (wrap64 (x8_1 + 1))) else (none))) = some r := by rw [if_pos rfl] at H; exact H
         clear H
         have H := H1
         clear H1
         by_cases c33 : x11_4 = true
         ·subst c33
          have H1 : (tenementlaw22_writes.l0 k4 l0 a1 true x7_1 (wrap64 (x8_1 + 1))) = some r := by rw [if_pos rfl] at H; exact H
          clear H
          have H := H1
          clear H1
          have H' := Aside0.mk H
          clear H
          obtain ⟨Ao34, co34, eo34⟩ := Kd.R_slice HO_7.out
          subst eo34
          go_wp2
          repeat (go_quiet (fail); try go_wp2)
          go_roundg k4
          case measure => have := HK1.out; have := HJ3.out; have := HJ9.out; have := HK4.out; omega
          case rel => exact ⟨(x7_1), (wrap64 (x8_1 + 1)), (by first | rfl | (simp; done) | (simp [*]; done)), H', ⟨by have := HK1.out; have := HJ3.out; have := HJ9.out; have := HK4.out; omega⟩, ⟨by (with_reducible repeat (first | apply Kd.R_alloc | apply Kd.R_drewN | apply Kd.R_drew)); exact Kd.R_mono HO_7.out (fun _ hk => trivial)⟩, ⟨K2a_ HB GE123 GE128⟩⟩
         replace c33 := Bool.eq_false_iff.mpr c33
         subst c33
         have H1 : (if x7_1.length < 2513169434916 then (tenementlaw22_writes.l0 k4 l0 a1 true (x7_1 ++ [(⟨t124, t125, t126, t127⟩ : S24)]) (wrap64 (x8_1 + 1))) else (none)) = some r := by rw [if_neg (show ¬ (false = true) by decide)] at H; exact H
         clear H
         have H := H1
         clear H1
         by_cases c35 : x7_1.length < 2513169434916
         rotate_left
         ·rw [if_neg c35] at H
          exact absurd H (by simp)
         rw [if_pos c35] at H
         have LMc35 := Aside0.mk c35
         clear c35
         obtain ⟨y131, hy131⟩ : ∃ y_ : List (S24), y_ = (x7_1 ++ [(⟨t124, t125, t126, t127⟩ : S24)]) := ⟨_, rfl⟩
         replace H : (tenementlaw22_writes.l0 k4 l0 a1 true y131 (wrap64 (x8_1 + 1))) = some r := by first | (rw [hy131]; with_reducible exact H) | (have H2_ := (Option.bind_some _ _).symm.trans H; rw [hy131]; with_reducible exact H2_) | (have H2_ := (Option.bind_some _ _).symm.trans H; with_reducible exact H2_) | with_reducible exact H | (rw [hy131]; exact H) | exact H
         have Ny131 := Aside0.mk hy131
         clear hy131
         have H' := Aside0.mk H
         clear H
         obtain ⟨Ao36, co36, eo36⟩ := Kd.R_slice HO_7.out
         subst eo36
         have hnb37 := NB128_123.out
         have hnc37 := NB123_128.out
         obtain ⟨hcz38_0, hcz38_1, hcz38_2, hcz38_3, hfz38_0, hfz38_1, hfz38_2, hfz38_3⟩ := Ke4_ BK128.out
         go_wp2_with (first | ((with_reducible refine gate_builtin (b := .append) (xs := #[.tmp 66, .tmp 68]) rfl ?_); at_builtin; refine Kd.R_append k24 (w0 := w) w.heap.size rfl (.tmp 66) (.tmp 68) 62 24 (.agg #[(.string ⟨#[]⟩), (.string ⟨#[]⟩), (.string ⟨#[]⟩), (.bool false)]) 56 rfl Try.underlying62 info24 rfl (by decide) (by omega) (.slice Ao36 x7_1.length co36) x7_1 (⟨t124, t125, t126, t127⟩ : S24) [.string t124, .string t125, .string t126, .bool t127] (fun k_ => k_ ≠ gb128) (fun _ => False) rfl rfl ?aP (fun _ hk => hk.elim) ?aF ?aO ?aB ?aS ?aL ?_; (case aP => exact k24_mkM _ _ _ (⟨t124, t125, t126, t127⟩ : S24)); (case aB => exact (K2a_ HB GE123 GE128)); (case aF => exact (fun k_ hk => Kd.freshB (g := gb128) (o := .cells #[.string t124, .string t125, .string t126, .bool t127] 24 (0, 0)) (Kq_ BK128) k_ hk)); (case aO => exact (Ku_ HO_7)); (case aS => exact (below_size (K2a_ HB GE123 GE128))); (case aL => have := LMc35.out; omega); intro v132 w39 ho hb hg hat; rw [← Ny131.out] at ho; have HO133 := Aside0.mk (ho); replace BK123 := Aside0.mk (blk_grown (g := gb123) (o := .cells #[.string ((rd_T26 l0 x8_1).f0.f0), .string ((rd_T26 l0 x8_1).f0.f1), .string ((rd_T26 l0 x8_1).f0.f2), .bool ((rd_T26 l0 x8_1).f0.f3), .bool x104_9, .int .u8 ((rd_T26 l0 x8_1).f2)] 26 (0, 0)) (Kq_ BK123) hg (Kd.R_ne HO_7.out BK123.out (by decide))); replace BK128 := Aside0.mk (blk_grown (g := gb128) (o := .cells #[.string t124, .string t125, .string t126, .bool t127] 24 (0, 0)) (Kq_ BK128) hg (Kd.R_away HO_7.out (fun _ hk => hk))); replace HB := Aside0.mk (hb); clear HO_7; clear ho hb hg hat))
         repeat (go_quiet (first | ((with_reducible refine gate_builtin (b := .append) (xs := #[.tmp 66, .tmp 68]) rfl ?_); at_builtin; refine Kd.R_append k24 (w0 := w) w.heap.size rfl (.tmp 66) (.tmp 68) 62 24 (.agg #[(.string ⟨#[]⟩), (.string ⟨#[]⟩), (.string ⟨#[]⟩), (.bool false)]) 56 rfl Try.underlying62 info24 rfl (by decide) (by omega) (.slice Ao36 x7_1.length co36) x7_1 (⟨t124, t125, t126, t127⟩ : S24) [.string t124, .string t125, .string t126, .bool t127] (fun k_ => k_ ≠ gb128) (fun _ => False) rfl rfl ?aP (fun _ hk => hk.elim) ?aF ?aO ?aB ?aS ?aL ?_; (case aP => exact k24_mkM _ _ _ (⟨t124, t125, t126, t127⟩ : S24)); (case aB => exact (K2a_ HB GE123 GE128)); (case aF => exact (fun k_ hk => Kd.freshB (g := gb128) (o := .cells #[.string t124, .string t125, .string t126, .bool t127] 24 (0, 0)) (Kq_ BK128) k_ hk)); (case aO => exact (Ku_ HO_7)); (case aS => exact (below_size (K2a_ HB GE123 GE128))); (case aL => have := LMc35.out; omega); intro v132 w39 ho hb hg hat; rw [← Ny131.out] at ho; have HO133 := Aside0.mk (ho); replace BK123 := Aside0.mk (blk_grown (g := gb123) (o := .cells #[.string ((rd_T26 l0 x8_1).f0.f0), .string ((rd_T26 l0 x8_1).f0.f1), .string ((rd_T26 l0 x8_1).f0.f2), .bool ((rd_T26 l0 x8_1).f0.f3), .bool x104_9, .int .u8 ((rd_T26 l0 x8_1).f2)] 26 (0, 0)) (Kq_ BK123) hg (Kd.R_ne HO_7.out BK123.out (by decide))); replace BK128 := Aside0.mk (blk_grown (g := gb128) (o := .cells #[.string t124, .string t125, .string t126, .bool t127] 24 (0, 0)) (Kq_ BK128) hg (Kd.R_away HO_7.out (fun _ hk => hk))); replace HB := Aside0.mk (hb); clear HO_7; clear ho hb hg hat)); try go_wp2_with (first | ((with_reducible refine gate_builtin (b := .append) (xs := #[.tmp 66, .tmp 68]) rfl ?_); at_builtin; refine Kd.R_append k24 (w0 := w) w.heap.size rfl (.tmp 66) (.tmp 68) 62 24 (.agg #[(.string ⟨#[]⟩), (.string ⟨#[]⟩), (.string ⟨#[]⟩), (.bool false)]) 56 rfl Try.underlying62 info24 rfl (by decide) (by omega) (.slice Ao36 x7_1.length co36) x7_1 (⟨t124, t125, t126, t127⟩ : S24) [.string t124, .string t125, .string t126, .bool t127] (fun k_ => k_ ≠ gb128) (fun _ => False) rfl rfl ?aP (fun _ hk => hk.elim) ?aF ?aO ?aB ?aS ?aL ?_; (case aP => exact k24_mkM _ _ _ (⟨t124, t125, t126, t127⟩ : S24)); (case aB => exact (K2a_ HB GE123 GE128)); (case aF => exact (fun k_ hk => Kd.freshB (g := gb128) (o := .cells #[.string t124, .string t125, .string t126, .bool t127] 24 (0, 0)) (Kq_ BK128) k_ hk)); (case aO => exact (Ku_ HO_7)); (case aS => exact (below_size (K2a_ HB GE123 GE128))); (case aL => have := LMc35.out; omega); intro v132 w39 ho hb hg hat; rw [← Ny131.out] at ho; have HO133 := Aside0.mk (ho); replace BK123 := Aside0.mk (blk_grown (g := gb123) (o := .cells #[.string ((rd_T26 l0 x8_1).f0.f0), .string ((rd_T26 l0 x8_1).f0.f1), .string ((rd_T26 l0 x8_1).f0.f2), .bool ((rd_T26 l0 x8_1).f0.f3), .bool x104_9, .int .u8 ((rd_T26 l0 x8_1).f2)] 26 (0, 0)) (Kq_ BK123) hg (Kd.R_ne HO_7.out BK123.out (by decide))); replace BK128 := Aside0.mk (blk_grown (g := gb128) (o := .cells #[.string t124, .string t125, .string t126, .bool t127] 24 (0, 0)) (Kq_ BK128) hg (Kd.R_away HO_7.out (fun _ hk => hk))); replace HB := Aside0.mk (hb); clear HO_7; clear ho hb hg hat)))
         go_roundg k4
         case measure => have := HK1.out; have := HJ3.out; have := HJ9.out; have := HK4.out; omega
         case rel => exact ⟨(y131), (wrap64 (x8_1 + 1)), (by first | rfl | (simp; done) | (simp [*]; done)), H', ⟨by have := HK1.out; have := HJ3.out; have := HJ9.out; have := HK4.out; omega⟩, ⟨by (with_reducible repeat (first | apply Kd.R_alloc | apply Kd.R_drewN | apply Kd.R_drew)); exact Kd.R_mono HO133.out (fun _ hk => trivial)⟩, ⟨K2a_ HB GE123 GE128⟩⟩
end Go.Proofs.Ythjhkcebcgdeoaa.Q

set_option linter.unusedVariables false
set_option linter.unusedSimpArgs false
namespace Go.Proofs.Ythjhkcebcgdeoaa.Jud
open Go Go.RowKit Go.WideShapes Go.Proofs.Ythjhkcebcgdeoaa.Q Go.Proofs.YthjhkcebcgdeoaaW.PrintWords Go.Proofs.YthjhkcebcgdeoaaW.PrintLast Go.Proofs.YthjhkcebcgdeoaaW.PrintMore
abbrev LT (w : World) (base : Nat) (ok : Nat → Prop) (v : Value) (xs : List Tx) : Prop := Kd.R k64 64 w base ok v xs
abbrev RW (w : World) (base : Nat) (ok : Nat → Prop) (v : Value) (xs : List Wr) : Prop := Kd.R k24 24 w base ok v xs
def off (v : Value) (k : Nat) : Prop := some k ≠ v.ownBlock
theorem infoT : (Try.prog.info? 64).map (fun i => (i.zero, i.size, i.bytes)) = some (some (.agg #[.int .u64 0, .int .u64 0, .int .u64 0, .int .u64 0, .int .i64 0, .slice none 0 0]), 6, 64) := by kernel_rfl
section
variable {α : Type} {d : Kd α} {e : Nat} {w w1 : World} {base : Nat} {ok : Nat → Prop} {v : Value} {xs : List α}
theorem R_lt (h : d.R e w base ok v xs) : ∀ k, v.ownBlock = some k → k < w.heap.size := by
 intro k hk
 exact ((Kd.R_bound h).1 k hk).2.2.1
theorem R_other {u u1 : Value} (h : d.R e w base (fun k => ok k ∧ off u k) v xs) (hg : w.grownBy w1 u.ownBlock) (hat : u1.ownBlock = u.ownBlock ∨ ∃ b, u1.ownBlock = some b ∧ w.heap.size ≤ b) : d.R e w1 base (fun k => ok k ∧ off u1 k) v xs := by
 have h1 := Kd.R_mono (Kd.R_grown (Kd.R_bound h) hg (fun k hk => hk.1.2)) (ok' := fun k => (ok k ∧ off u k) ∧ k < w.heap.size) (fun k hk => ⟨hk.1, hk.2.2.1⟩)
 refine Kd.R_mono h1 (fun k hk => ⟨hk.1.1, ?_⟩)
 unfold off at *
 rcases hat with e | ⟨b, hb, hle⟩
 ·rw [e]; exact hk.1.2
 ·rw [hb]
  intro hh
  injection hh with hh
  omega
end
section
variable {ops : Array Oper} {rest : List Oper} {o : Oper} {a : Act} {Q : Exit → Act → World → Prop}
theorem app2 {w0 W : World} (base : Nat) (hgd : o.guard = none) (s x : Operand) (ho : o.op = .call { callee := .builtin .append, args := #[s, x], argTypes := #[33, 33] })
  (va vs v5 : Value) (al ss : List Tx) (t : Tx) (cs : List Value) (hcs : cs = [.int .u64 t.f0.f0.f0, .int .u64 t.f0.f0.f1, .int .u64 t.f0.f0.f2, .int .u64 t.f0.f0.f3, .int .i64 t.f0.f1, v5]) (hs : a.eval s = va) (hx : a.eval x = .slice (some ⟨W.heap.size, 0, none⟩) 1 1)
  (hR : RW W base (fun k => off va k ∧ off vs k) v5 t.f1) (hA : LT W base (fun k => True ∧ off vs k) va al) (hS : LT W base (fun k => True ∧ off va k) vs ss) (HB : Below base w0 W) (hbase : base ≤ W.heap.size) (hl : al.length ≤ 1000000)
  (h : ∀ v1 w1, LT w1 base (fun k => True ∧ off vs k) v1 (al ++ [t]) → LT w1 base (fun k => True ∧ off v1 k) vs ss → RW w1 base (fun k => off v1 k ∧ off vs k) v5 t.f1 → Below base w0 w1 → W.grownBy w1 va.ownBlock → wpList Try.prog ops Q rest (a.put o.dst v1) w1) :
  wpList Try.prog ops Q (o :: rest) a (W.alloc (.cells cs.toArray 64)) := by
 subst hcs
 have hvs := R_lt hS
 refine Kd.R_append k64 (w0 := w0) base hgd s x 33 64 (.agg #[.int .u64 0, .int .u64 0, .int .u64 0, .int .u64 0, .int .i64 0, .slice none 0 0]) 64 ho Try.underlying33 infoT rfl (by decide) (by omega) va al t _ (fun k => True ∧ off vs k) (fun k => off va k ∧ off vs k) hs hx
  (k64_mkM W base _ t hR) (fun k hk => ⟨⟨trivial, hk.2⟩, hk.1⟩) (fun k hk => ⟨trivial, fun e => by have := hvs k e.symm; omega⟩) hA HB hbase (by omega) ?_
 intro v1 w1 h1 h2 h3 h4
 refine h v1 w1 h1 (R_other hS h3 h4) ?_ h2 h3
 have := R_other (ok := fun k => off vs k) (Kd.R_mono hR (fun k hk => ⟨hk.2, hk.1⟩)) h3 h4
 exact Kd.R_mono this (fun k hk => ⟨hk.2, hk.1⟩)
end
theorem RW_off {W : World} {base n : Nat} {v5 : Value} {xs : List Wr} (h : RW W n (fun _ => True) v5 xs) (hb : base ≤ n) {va vs : Value} (ha : ∀ k, va.ownBlock = some k → k < n) (hs : ∀ k, vs.ownBlock = some k → k < n) : RW W base (fun k => off va k ∧ off vs k) v5 xs :=
 Kd.R_mono (Kd.R_lower (Kd.R_bound h) hb) (fun k hk => ⟨fun e => by have := ha k e.symm; have := hk.2.1; omega, fun e => by have := hs k e.symm; have := hk.2.1; omega⟩)
theorem LT_ne {W : World} {base g t : Nat} {ok : Nat → Prop} {v : Value} {xs : List Tx} {cs : Array Value} (h : LT W base ok v xs) (hb : W.heap[g]? = some (.cells cs t (0, 0))) (ht : 64 ≠ t) : some g ≠ v.ownBlock := by
 intro e
 obtain ⟨h0, inner, ho, hr⟩ := h
 obtain ⟨cells, hc⟩ := own_typed ho g e.symm
 rw [hb] at hc
 cases hc
 exact ht rfl
theorem LT_new {W : World} {base g : Nat} {ok : Nat → Prop} {v : Value} {xs : List Tx} (h : LT W base ok v xs) (hg : W.heap.size ≤ g) : some g ≠ v.ownBlock := by
 intro e
 have := R_lt h g e.symm
 omega
theorem LT_far {W : World} {base g t i : Nat} {ok : Nat → Prop} {v : Value} {xs : List Tx} {cs : Array Value} (h : LT W base ok v xs) (hb : W.heap[g]? = some (.cells cs t (0, 0))) (ht : ∀ q, q ∈ 64 :: k64.E → q ≠ t) (u : Value) : LT (W.setCell ⟨g, i, none⟩ u) base ok v xs :=
 Kd.R_mono (Kd.R_far (p := ⟨g, i, none⟩) (Kd.R_types h hb ht) (fun _ hk => hk.2) u) (fun _ hk => hk.1)
theorem add0 (g n : Nat) : (⟨g, 0, none⟩ : Addr).add n = ⟨g, n, none⟩ := by
 unfold Addr.add
 by_cases h : n = 0
 ·subst h; rfl
 ·simp [h]
section
variable {ops : Array Oper} {rest : List Oper} {o : Oper} {a : Act} {Q : Exit → Act → World → Prop}
end
theorem park_ {P : Program} {n : Nat} {ops : Array Oper} {Q : Exit → Act → World → Prop} {a : Act} {w : World} (h : Code.wp P (.region n ops true) Q a w) : Code.wp P (.region n ops true) Q a w := h
theorem cut_full (A : Option Addr) (n c : Nat) (hc : n ≤ c) : ∀ W : World, (Instr.slice 33 (.slice A n c) none (some (.int .i64 (n : Int))) (some (.int .i64 (n : Int)))).run Try.prog W = .ok (.slice A n n) W := by
 intro W
 obtain ⟨i0, hi, hsz⟩ := Option.map_eq_some_iff.1 infoT
 have hel : Try.prog.elem 33 = 64 := by simp [Program.elem, Try.underlying33]
 have hu : Try.prog.underlying 33 = some (.slice (Try.prog.elem 33)) := by rw [hel]; exact Try.underlying33
 have ha : (A.map fun x => x.add 0) = A := by cases A <;> simp [Addr.add]
 rw [run_slice_hm W 33 A n c hu .i64 .i64 (n : Int) (n : Int) (by omega) (by omega) (by omega), hel]
 simp [sizeOf, typeInfo, hi, sliced, Result.andThen, ha]
theorem below_none {W w1 : World} (hg : W.grownBy w1 none) : Below W.heap.size W w1 := ⟨hg.os, hg.tape, hg.output, hg.size, fun k hk => hg.block k hk (by simp)⟩
theorem C_one {W : World} {g : Nat} (x : Wr) (h : W.heap[g]? = some (.cells #[.string x.f0, .string x.f1, .string x.f2, .bool x.f3] 24 (0, 0))) : Kd.C k24 W (some ⟨g, 0, none⟩) 1 [x] := by
 refine ⟨rfl, by decide, fun _ => ⟨_, rfl, fun j p hj => ?_⟩⟩
 have hj0 : j = 0 := by
  have := (List.getElem?_eq_some_iff.1 hj).1
  simp at this
  exact this
 subst hj0
 obtain rfl := Option.some.inj hj
 have hm := k24.K_of_M (k24_mkM W 0 (fun _ => True) x)
 refine ⟨_, k24.K_len hm, hm, fun i u hu => ?_⟩
 have e : (0 * k24.sz + i) = i := by omega
 rw [e, add0]
 refine (blk_cell h i).trans ?_
 simpa using hu
theorem full_run (ty : TypeId) (W : World) (A : Option Addr) (al : List Tx) (t : Tx) (cs : List Value) (hC : Kd.C k64 W A al.length al) (hK : k64.K W t cs) (hl : al.length ≤ 1000000) :
  ∃ A1 c1 w1, (Builtin.append_ #[33, 33] ty #[.slice A al.length al.length, .slice (some ⟨W.heap.size, 0, none⟩) 1 1]).run Try.prog (W.alloc (.cells cs.toArray 64)) = .ok (.slice A1 (al ++ [t]).length c1) w1 ∧ Kd.C k64 w1 A1 (al ++ [t]).length (al ++ [t]) ∧ (al ++ [t]).length ≤ c1 ∧ Below W.heap.size W w1 := by
 obtain ⟨i0, hi, hzz⟩ := Option.map_eq_some_iff.1 infoT
 simp only [Prod.mk.injEq] at hzz
 obtain ⟨hz0, hz1, hz2⟩ := hzz
 have hba := below_alloc (Below.refl W.heap.size W) (.cells cs.toArray 64)
 have hsz : (W.alloc (.cells cs.toArray 64)).heap.size = W.heap.size + 1 := World.size_alloc W _
 have hcl := k64.K_len hK
 have hnews := World.news_of_block (cs := cs.toArray) (t := 64) (fr := (0, 0)) (heap_alloc_new W (.cells cs.toArray 64))
 have fin : ∀ (olds : List Value) (v1 : Value) (w1 : World) (base : Nat), Reps (k64.K W) 6 al olds → w1.ownsRow base 64 6 v1 (al.length + 1) (olds ++ cs) → (W.alloc (.cells cs.toArray 64)).grownBy w1 none →
   ∃ A1 c1, v1 = .slice A1 (al ++ [t]).length c1 ∧ Kd.C k64 w1 A1 (al ++ [t]).length (al ++ [t]) ∧ (al ++ [t]).length ≤ c1 ∧ Below W.heap.size W w1 := by
  intro olds v1 w1 base hrep hown hg
  have hb : Below W.heap.size W w1 := below_step hba (below_none hg)
  have hlen : (al ++ [t]).length = al.length + 1 := by simp
  have hr2 : Reps (k64.K w1) 6 (al ++ [t]) (olds ++ cs) := (hrep.imp_ (fun _ _ hq => k64.K_below hb hq)).snoc (k64.K_below hb hK) hcl
  obtain ⟨A1, c1, rfl, hrow⟩ := own_reads_row hown hr2 hlen
  exact ⟨A1, c1, by rw [hlen], by rw [hlen]; exact hrow, by rw [hlen]; exact own_le hown, hb⟩
 cases A with
 | some ad =>
  obtain ⟨olds, hrep, hcells⟩ := ReadsRow.inner_ hC
  obtain ⟨v1, w1, hrun, hown, hg⟩ := run_append_arg_grows (P := Try.prog) (W.alloc (.cells cs.toArray 64)) 33 ty 64 i0 _ 6 64 Try.underlying33 hi hz0 hz1 hz2 rfl (by decide) ad al.length al.length olds hrep.1 (fun j u hu => pw_cell_below hba (hcells j u hu)) ⟨W.heap.size, 0, none⟩ 1 1 cs (by rw [hcl]; rfl) (by simpa using hnews) (by omega) (by simp only [maxLen]; omega) (by omega)
  obtain ⟨A1, c1, rfl, h1, h2, h3⟩ := fin olds v1 w1 _ hrep hown hg
  exact ⟨A1, c1, w1, hrun, h1, h2, h3⟩
 | none =>
  have h0 : al = [] := by
   rcases Nat.eq_zero_or_pos al.length with h0 | h0
   ·exact List.eq_nil_of_length_eq_zero h0
   ·obtain ⟨ad, h, _⟩ := hC.2.2 h0
    cases h
  subst h0
  obtain ⟨v1, w1, hrun, hown, hg, -, -⟩ := run_append_own_at (P := Try.prog) (W.alloc (.cells cs.toArray 64)) 0 33 ty 64 i0 _ 6 64 Try.underlying33 hi hz0 hz1 hz2 rfl (by decide) (.slice none 0 0) 0 [] (own_nil _ _ _ _) ⟨W.heap.size, 0, none⟩ 1 1 cs (by rw [hcl]; rfl) (by simpa using hnews) (k64.K_one hK) (by simp only [maxLen]; omega) (by omega) (Nat.zero_le _)
  obtain ⟨A1, c1, rfl, h1, h2, h3⟩ := fin [] v1 w1 _ (Reps.none _ _) hown hg
  exact ⟨A1, c1, w1, hrun, h1, h2, h3⟩
theorem full_step {ops : Array Oper} {o : Oper} {a : Act} {Q : Exit → Act → World → Prop} {Kc : Act → World → Prop} {W : World} (hw : Region.wanted o (yielded ops a.tmps) = true) (s x : Operand) (ho : o.op = .call { callee := .builtin .append, args := #[s, x], argTypes := #[33, 33] })
  (A : Option Addr) (al : List Tx) (t : Tx) (cs : List Value) (hs : a.eval s = .slice A al.length al.length) (hx : a.eval x = .slice (some ⟨W.heap.size, 0, none⟩) 1 1) (hC : Kd.C k64 W A al.length al) (hK : k64.K W t cs) (hl : al.length ≤ 1000000)
  (h : ∀ A1 c1 w1, Kd.C k64 w1 A1 (al ++ [t]).length (al ++ [t]) → (al ++ [t]).length ≤ c1 → Below W.heap.size W w1 → Kc (a.put o.dst (.slice A1 (al ++ [t]).length c1)) w1) :
  if Region.wanted o (yielded ops a.tmps) = true then Oper.wp Try.prog o a (W.alloc (.cells cs.toArray 64)) Kc Q else Kc (a.put o.dst undef) (W.alloc (.cells cs.toArray 64)) := by
 obtain ⟨A1, c1, w1, hrun, h1, h2, h3⟩ := full_run o.type W A al t cs hC hK hl
 rw [if_pos hw]
 unfold Oper.wp execOp
 simp only [ho, resolve, invoke, builtin, Sem.run_bind, Sem.run_pure, Result.andThen_ok, List.map_toArray, List.map_cons, List.map_nil, hs, hx, hrun]
 exact h A1 c1 w1 h1 h2 h3
end Go.Proofs.Ythjhkcebcgdeoaa.Jud

set_option linter.unusedVariables false
set_option linter.unusedSimpArgs false
namespace Go.Proofs.Ythjhkcebcgdeoaa.Open
open Go Go.RowKit Go.Deep Go.WideShapes Go.ChangeShapes Go.Proofs.YthjhkcebcgdeoaaW.PrintWords Go.Proofs.YthjhkcebcgdeoaaW.PrintLast Go.Proofs.YthjhkcebcgdeoaaW.PrintMore
structure To (P : Program) (t : TypeId) {α : Type} (K : Kd α) (wf : α → Prop) : Prop where
 sz : P.cellsOf t = K.sz
 go : ∀ {H : Type} (enc : TypeId × Value → H) (w : World) (fuel : Nat) (cs : List Value) (d : DataW H) (ps : List MemPlace),
  DataW.trod enc P w 0 (fun _ => true) true fuel t cs = some (d, ps) → (DataW.weights P t d).all (· ≤ reachBytes) = true → ∃ x : α, K.K w x cs ∧ wf x
theorem int {P : Program} {t : TypeId} {k : IntKind} (ht : P.underlying t = some (.int k)) (hs : P.cellsOf t = 1) : To P t (Kd.int k) (fun n => (Lit.int k n).wf = true) := by
 refine ⟨hs, fun enc w fuel cs d ps h _ => ?_⟩
 obtain ⟨n, rfl, _, hw⟩ := DataW.trod_int ht h
 exact ⟨n, rfl, hw⟩
theorem bool {P : Program} {t : TypeId} (ht : P.underlying t = some .bool) (hs : P.cellsOf t = 1) : To P t Kd.bool (fun _ => True) := by
 refine ⟨hs, fun enc w fuel cs d ps h _ => ?_⟩
 obtain ⟨b, rfl, _⟩ := DataW.trod_bool ht h
 exact ⟨b, rfl, trivial⟩
theorem string {P : Program} {t : TypeId} (ht : P.underlying t = some .string) (hs : P.cellsOf t = 1) : To P t Kd.string (fun s => s.size ≤ 140737488351232) := by
 refine ⟨hs, fun enc w fuel cs d ps h hw => ?_⟩
 obtain ⟨s, rfl, hx, _⟩ := DataW.trod_string ht h
 obtain ⟨rfl, _⟩ := Prod.mk.inj hx
 refine ⟨s, rfl, ?_⟩
 simp only [DataW.weights, List.all_cons, List.all_nil, Bool.and_true, reachBytes, Array.length_toList] at hw
 exact of_decide_eq_true hw
theorem weightsAll_mem {H : Type} {P : Program} {e : TypeId} : ∀ {l : List (DataW H)} {d : DataW H}, d ∈ l → (DataW.weightsAll P e l).all (· ≤ reachBytes) = true → (DataW.weights P e d).all (· ≤ reachBytes) = true
 | [], _, h, _ => by cases h
 | a :: l, d, h, hw => by
  simp only [DataW.weightsAll, List.all_append, Bool.and_eq_true] at hw
  rcases List.mem_cons.1 h with rfl | h
  ·exact hw.1
  ·exact weightsAll_mem h hw.2
theorem add_add (a : Addr) (i j : Nat) : (a.add i).add j = a.add (i + j) := by
 unfold Addr.add
 by_cases h1 : i = 0 <;> by_cases h2 : j = 0 <;> simp [h1, h2, Nat.add_assoc]
theorem slice {P : Program} {t e : TypeId} {α : Type} {K : Kd α} {wf : α → Prop} {B : Nat} (ht : P.underlying t = some (.slice e)) (hs : P.cellsOf t = 1) (hB : P.bytesOf e = B) (he : To P e K wf) :
  To P t (Kd.slice e K) (fun l => (∀ x ∈ l, wf x) ∧ l.length * B ≤ 140737488351232) := by
 refine ⟨hs, fun {H} enc w fuel cs d ps h hw => ?_⟩
 rcases open_slice ht h with ⟨rfl, _⟩ | ⟨a, len, cap, m, n, D, Pl, rfl, _, hl, hm, hmc, hx, hel⟩
 ·exact ⟨[], ⟨none, 0, rfl, Nat.le_refl _, rfl, by simp, fun h => absurd h (by simp)⟩, by simp, by simp⟩
 ·obtain ⟨rfl, _⟩ := Prod.mk.inj hx
  simp only [if_true] at hmc
  subst hmc
  have hw1 := hw
  simp only [DataW.weights, ht, List.all_cons, List.all_append, Bool.and_eq_true, decide_eq_true_eq, List.length_map, List.length_range, hB, reachBytes] at hw1
  have hchoose : ∀ i, i < len → ∃ x : α, (∃ cs', w.cells? 0 (a.add (i * P.cellsOf e)) (P.cellsOf e) = some cs' ∧ K.K w x cs') ∧ wf x := by
   intro i hi
   obtain ⟨cs', h1, h2⟩ := hel i (by omega)
   obtain ⟨x, hx1, hx2⟩ := he.go enc w n cs' (D i) (Pl i) h2 (weightsAll_mem (List.mem_map.2 ⟨i, by simpa using hi, rfl⟩) hw1.2.1)
   exact ⟨x, ⟨cs', h1, hx1⟩, hx2⟩
  have hall : ∀ k, k ≤ len → ∃ l : List α, l.length = k ∧ ∀ i x, l[i]? = some x → (∃ cs', w.cells? 0 (a.add (i * P.cellsOf e)) (P.cellsOf e) = some cs' ∧ K.K w x cs') ∧ wf x := by
   intro k
   induction k with
   | zero => intro _; exact ⟨[], rfl, fun i x h => by simp at h⟩
   | succ k ih =>
    intro hk
    obtain ⟨l, h1, h2⟩ := ih (by omega)
    obtain ⟨x, hx⟩ := hchoose k (by omega)
    refine ⟨l ++ [x], by simp [h1], fun i y hy => ?_⟩
    by_cases hi : i < l.length
    ·exact h2 i y (by rwa [List.getElem?_append_left hi] at hy)
    ·rw [List.getElem?_append_right (by omega)] at hy
     have : i = l.length := by
      have := (List.getElem?_eq_some_iff.1 hy).1
      simp at this; omega
     subst this
     simp at hy
     subst hy
     rw [h1]; exact hx
  obtain ⟨l, h1, h2⟩ := hall len (Nat.le_refl _)
  refine ⟨l, ⟨some a, m, by rw [h1], by omega, rfl, by unfold maxLen at hm; omega, fun _ => ⟨a, rfl, fun j p hj => ?_⟩⟩, ?_, ?_⟩
  ·obtain ⟨⟨cs', g1, g2⟩, _⟩ := h2 j p hj
   obtain ⟨_, g3, g4⟩ := World.cells?_some g1
   refine ⟨cs', by rw [g3, he.sz], g2, fun i u hu => ?_⟩
   have hi : i < P.cellsOf e := by
    have := (List.getElem?_eq_some_iff.1 hu).1
    omega
   rw [← hu, ← g4 i hi, add_add, he.sz]
  ·intro x hx
   obtain ⟨i, hi, rfl⟩ := List.getElem_of_mem hx
   exact (h2 i _ (List.getElem?_eq_getElem hi)).2
  ·rw [h1]
   refine Nat.le_trans (Nat.mul_le_mul_right _ ?_) (of_decide_eq_true hw1.1)
   omega
structure Fs (P : Program) (o : Nat) (fs : List (TypeId × Nat)) {α : Type} (K : Kd α) (wf : α → Prop) : Prop where
 go : ∀ {H : Type} (enc : TypeId × Value → H) (w : World) (n : Nat) (cs : List Value) (xs : List (DataW H × List MemPlace)), cs.length = o + K.sz → xs.length = fs.length →
  (∀ (i : Nat) (f : TypeId × Nat), fs[i]? = some f → DataW.trod enc P w 0 (fun _ => true) true n f.1 ((cs.drop f.2).take (P.cellsOf f.1)) = xs[i]?) →
  (DataW.weightsEach P (fs.map (·.1)) (xs.map (·.1))).all (· ≤ reachBytes) = true → ∃ x : α, K.K w x (cs.drop o) ∧ wf x
theorem one {P : Program} {o : Nat} {t : TypeId} {α : Type} {K : Kd α} {wf : α → Prop} (h : To P t K wf) : Fs P o [(t, o)] K wf := by
 refine ⟨fun enc w n cs xs hl hx hr hw => ?_⟩
 match xs, hx with
 | [x], _ =>
  have h0 := hr 0 _ rfl
  simp only [List.getElem?_cons_zero] at h0
  rw [h.sz, List.take_of_length_le (by simp; omega)] at h0
  simp only [List.map_cons, List.map_nil, DataW.weightsEach, List.append_nil] at hw
  exact h.go enc w n _ x.1 x.2 h0 hw
theorem cons {P : Program} {o : Nat} {t : TypeId} {fs : List (TypeId × Nat)} {α β : Type} {K : Kd α} {wf : α → Prop} {L : Kd β} {wg : β → Prop} (h : To P t K wf) (hs : Fs P (o + K.sz) fs L wg) :
  Fs P o ((t, o) :: fs) (Kd.pair K L) (fun x => wf x.1 ∧ wg x.2) := by
 refine ⟨fun {H} enc w n cs xs hl hx hr hw => ?_⟩
 have hsz : (Kd.pair K L).sz = K.sz + L.sz := rfl
 match xs, hx with
 | x :: xs, hx =>
  have h0 := hr 0 _ rfl
  simp only [List.getElem?_cons_zero] at h0
  rw [h.sz] at h0
  simp only [List.map_cons, DataW.weightsEach, List.all_append, Bool.and_eq_true] at hw
  obtain ⟨a, ha, hwa⟩ := h.go enc w n _ x.1 x.2 h0 hw.1
  obtain ⟨b, hb, hwb⟩ := hs.go enc w n cs xs (by omega) (by simpa using hx) (fun i f hf => by have := hr (i + 1) f (by simpa using hf); simpa using this) hw.2
  refine ⟨(a, b), ⟨_, _, ?_, ha, hb⟩, hwa, hwb⟩
  rw [← List.drop_drop, List.take_append_drop]
theorem struct {P : Program} {t : TypeId} {fs : Array Field} {gs : List (TypeId × Nat)} {α : Type} {K : Kd α} {wf : α → Prop} (ht : P.underlying t = some (.struct fs)) (hg : fs.toList.map (fun f => (f.type, f.offset)) = gs) (hs : P.cellsOf t = K.sz) (h : Fs P 0 gs K wf) : To P t K wf := by
 refine ⟨hs, fun {H} enc w fuel cs d ps hr hw => ?_⟩
 obtain ⟨xs, n, _, hx, hl, hxl, hel⟩ := DataW.trod_struct ht hr
 obtain ⟨rfl, _⟩ := Prod.mk.inj hx
 have := h.go enc w n cs xs (by omega) (by rw [← hg]; simpa using hxl) (fun i f hf => ?_) ?_
 ·simpa using this
 ·rw [← hg] at hf
  simp only [List.getElem?_map, Option.map_eq_some_iff] at hf
  obtain ⟨g, hg1, rfl⟩ := hf
  exact hel i g (by simpa using hg1)
 ·rw [← hg]
  simp only [DataW.weights, ht] at hw
  simpa [List.map_map, Function.comp_def] using hw
theorem weightsAll_each {H : Type} (P : Program) (e : TypeId) : ∀ (l : List (DataW H)) (ts : List TypeId), ts.length = l.length → (∀ t ∈ ts, t = e) → DataW.weightsEach P ts l = DataW.weightsAll P e l
 | [], [], _, _ => rfl
 | [], _ :: _, h, _ => by simp at h
 | _ :: _, [], h, _ => by simp at h
 | d :: l, t :: ts, h, ht => by
  simp only [DataW.weightsEach, DataW.weightsAll]
  rw [ht t (by simp), weightsAll_each P e l ts (by simpa using h) (fun x hx => ht x (by simp [hx]))]
theorem array {P : Program} {t e : TypeId} {n s : Nat} {α : Type} {K : Kd α} {wf : α → Prop} (ht : P.underlying t = some (.array n e)) (he : P.cellsOf e = s) (hs : P.cellsOf t = K.sz) (h : Fs P 0 ((List.range n).map fun i => (e, i * s)) K wf) : To P t K wf := by
 refine ⟨hs, fun {H} enc w fuel cs d ps hr hw => ?_⟩
 obtain ⟨xs, m, _, hx, hl, hxl, hel⟩ := DataW.trod_array ht hr
 obtain ⟨rfl, _⟩ := Prod.mk.inj hx
 have := h.go enc w m cs xs (by omega) (by simpa using hxl) (fun i f hf => ?_) ?_
 ·simpa using this
 ·simp only [List.getElem?_map, Option.map_eq_some_iff] at hf
  obtain ⟨g, hg1, rfl⟩ := hf
  have hi : i < n := by have := (List.getElem?_eq_some_iff.1 hg1).1; simpa using this
  have hgi : g = i := by
   have := (List.getElem?_eq_some_iff.1 hg1).2
   simpa using this.symm
  subst hgi
  have := hel g hi
  rw [he] at this ⊢
  exact this
 ·simp only [DataW.weights, ht] at hw
  rw [weightsAll_each P e _ _ (by simp [hxl]) (by simp)]
  exact hw
theorem iso {P : Program} {t : TypeId} {α β : Type} {K : Kd α} {wf : α → Prop} (f : β → α) (g : α → β) (hfg : ∀ a, f (g a) = a) (h : To P t K wf) : To P t (Kd.iso K f) (fun b => wf (f b)) := by
 refine ⟨h.sz, fun {H} enc w fuel cs d ps hr hw => ?_⟩
 obtain ⟨x, h1, h2⟩ := h.go enc w fuel cs d ps hr hw
 refine ⟨g x, ?_, ?_⟩
 ·show K.K w (f (g x)) cs
  rw [hfg]; exact h1
 ·rw [hfg]; exact h2
theorem imp {P : Program} {t : TypeId} {α : Type} {K : Kd α} {wf wf' : α → Prop} (h : To P t K wf) (hi : ∀ x, wf x → wf' x) : To P t K wf' :=
 ⟨h.sz, fun enc w fuel cs d ps hr hw => by
  obtain ⟨x, h1, h2⟩ := h.go enc w fuel cs d ps hr hw
  exact ⟨x, h1, hi x h2⟩⟩
theorem at_param {P : Program} {t : TypeId} {α : Type} {K : Kd α} {wf : α → Prop} (h : To P t K wf) {H : Type} {enc : TypeId × Value → H} {w : World} {v : Value} {d : DataW H} {ps : List MemPlace} {ts : List TypeId} {ds : List (DataW H)} {j : Nat}
  (hsz : (DataW.weightsEach P ts ds).all (· ≤ reachBytes) = true) (ht : ts[j]? = some t) (hd : ds[j]? = some d) (hr : DataW.Trod enc P w 0 (fun _ => true) true t v d ps) : ∃ x : α, K.K w x v.cells.toList ∧ wf x := by
 obtain ⟨fuel, hf⟩ := hr
 refine h.go enc w fuel _ d ps hf ?_
 rw [List.all_eq_true]
 intro x hx
 exact List.all_eq_true.1 hsz x (DataW.weights_mem_each ht hd x hx)
end Go.Proofs.Ythjhkcebcgdeoaa.Open

set_option linter.unusedVariables false
namespace Go.Proofs.Ythjhkcebcgdeoaa.Q
open Go.RowKit Go.Proofs.Ythjhkcebcgdeoaa.Q Go.Proofs.YthjhkcebcgdeoaaW.PrintWords Go.Proofs.YthjhkcebcgdeoaaW.PrintLast Go.Proofs.YthjhkcebcgdeoaaW.PrintMore
open Go.Proofs.Ythjhkcebcgdeoaa
def wf29 (x : S29) : Prop := ((Lit.int .u64 x.f0).wf = true) ∧ ((Lit.int .u64 x.f1).wf = true) ∧ ((Lit.int .u64 x.f2).wf = true) ∧ ((Lit.int .u64 x.f3).wf = true)
theorem to29 : Open.To Try.prog 29 k29 wf29 := Open.imp (Open.iso (fun x : S29 => (x.f0, (x.f1, (x.f2, x.f3)))) (fun y => (⟨y.1, y.2.1, y.2.2.1, y.2.2.2⟩ : S29)) (fun _ => rfl) (Open.array (n := 4) (e := 27) (s := 1) Try.underlying29 (by kernel_rfl) (by kernel_rfl) (show Open.Fs Try.prog 0 [(27, 0), (27, 1), (27, 2), (27, 3)] _ _ from (Open.cons (Open.int Try.underlying27 (by kernel_rfl)) (Open.cons (Open.int Try.underlying27 (by kernel_rfl)) (Open.cons (Open.int Try.underlying27 (by kernel_rfl)) (Open.one (Open.int Try.underlying27 (by kernel_rfl))))))))) (fun _ h => h)
def wf56 (x : S56) : Prop := (wf29 x.f0) ∧ ((Lit.int .i64 x.f1).wf = true)
theorem to56 : Open.To Try.prog 56 k56 wf56 := Open.imp (Open.iso (fun x : S56 => (x.f0, x.f1)) (fun y => (⟨y.1, y.2⟩ : S56)) (fun _ => rfl) (Open.struct Try.underlying56 (by rfl) (by kernel_rfl) (show Open.Fs Try.prog 0 [(29, 0), (3, 4)] _ _ from (Open.cons to29 (Open.one (Open.int Try.underlying3 (by kernel_rfl))))))) (fun _ h => h)
def wf58 (x : S58) : Prop := (wf56 x.f0) ∧ (True)
theorem to58 : Open.To Try.prog 58 k58 wf58 := Open.imp (Open.iso (fun x : S58 => (x.f0, x.f1)) (fun y => (⟨y.1, y.2⟩ : S58)) (fun _ => rfl) (Open.struct Try.underlying58 (by rfl) (by kernel_rfl) (show Open.Fs Try.prog 0 [(56, 0), (4, 5)] _ _ from (Open.cons to56 (Open.one (Open.bool Try.underlying4 (by kernel_rfl))))))) (fun _ h => h)
def wf24 (x : S24) : Prop := (x.f0.size ≤ 140737488351232) ∧ (x.f1.size ≤ 140737488351232) ∧ (x.f2.size ≤ 140737488351232) ∧ (True)
theorem to24 : Open.To Try.prog 24 k24 wf24 := Open.imp (Open.iso (fun x : S24 => (x.f0, (x.f1, (x.f2, x.f3)))) (fun y => (⟨y.1, y.2.1, y.2.2.1, y.2.2.2⟩ : S24)) (fun _ => rfl) (Open.struct Try.underlying24 (by rfl) (by kernel_rfl) (show Open.Fs Try.prog 0 [(9, 0), (9, 1), (9, 2), (4, 3)] _ _ from (Open.cons (Open.string Try.underlying9 (by kernel_rfl)) (Open.cons (Open.string Try.underlying9 (by kernel_rfl)) (Open.cons (Open.string Try.underlying9 (by kernel_rfl)) (Open.one (Open.bool Try.underlying4 (by kernel_rfl))))))))) (fun _ h => h)
def wf26 (x : S26) : Prop := (wf24 x.f0) ∧ (True) ∧ ((Lit.int .u8 x.f2).wf = true)
theorem to26 : Open.To Try.prog 26 k26 wf26 := Open.imp (Open.iso (fun x : S26 => (x.f0, (x.f1, x.f2))) (fun y => (⟨y.1, y.2.1, y.2.2⟩ : S26)) (fun _ => rfl) (Open.struct Try.underlying26 (by rfl) (by kernel_rfl) (show Open.Fs Try.prog 0 [(24, 0), (4, 4), (5, 5)] _ _ from (Open.cons to24 (Open.cons (Open.bool Try.underlying4 (by kernel_rfl)) (Open.one (Open.int Try.underlying5 (by kernel_rfl)))))))) (fun _ h => h)
def wf61 (x : S61) : Prop := (wf58 x.f0) ∧ ((∀ x_ ∈ x.f1, wf26 x_) ∧ x.f1.length * 64 ≤ 140737488351232) ∧ (True)
theorem to61 : Open.To Try.prog 61 k61 wf61 := Open.imp (Open.iso (fun x : S61 => (x.f0, (x.f1, x.f2))) (fun y => (⟨y.1, y.2.1, y.2.2⟩ : S61)) (fun _ => rfl) (Open.struct Try.underlying61 (by rfl) (by kernel_rfl) (show Open.Fs Try.prog 0 [(58, 0), (59, 6), (4, 7)] _ _ from (Open.cons to58 (Open.cons (Open.slice (e := 26) (B := 64) Try.underlying59 (by kernel_rfl) (by kernel_rfl) to26) (Open.one (Open.bool Try.underlying4 (by kernel_rfl)))))))) (fun _ h => h)
end Go.Proofs.Ythjhkcebcgdeoaa.Q

set_option linter.unusedVariables false
set_option linter.unusedSimpArgs false
namespace Go.Proofs.Ythjhkcebcgdeoaa.Pure
open Go.RowKit Go.Proofs.Ythjhkcebcgdeoaa.Q Go.Proofs.YthjhkcebcgdeoaaW.PrintWords Go.Proofs.YthjhkcebcgdeoaaW.PrintLast Go.Proofs.YthjhkcebcgdeoaaW.PrintMore Go.Proofs.Ythjhkcebcgdeoaa.Plain
theorem u64_of {x : Int} (h : (Lit.int .u64 x).wf = true) : 0 ≤ x ∧ x ≤ 18446744073709551615 := by
 have h : IntKind.u64.min ≤ x ∧ x ≤ IntKind.u64.max := by simpa only [Lit.wf, Bool.and_eq_true, decide_eq_true_eq] using h
 exact h
def own (a b c d e : Int) : Int := if e = 1 then a else if e = 2 then b else if e = 3 then c else if e = 4 then d else 0
def okS (a b c d e : Int) : Prop := (a ≤ 1152921504606846976 ∧ b ≤ 1152921504606846976 ∧ c ≤ 1152921504606846976 ∧ d ≤ 1152921504606846976) ∧ 0 < own a b c d e
theorem mark_loop (v0 v1 v2 v3 d D : Int) (k : Nat) : tenementlaw22_Mark_mark.l0 (k + 4) 0 v0 v1 v2 v3 d true 0 0 0 0 D =
  (if D = 1 then some (IntKind.u64.wrap (1 + Int.tmod v0 4), Int.tmod v1 4, Int.tmod v2 4, 0, D) else if D = 2 then some (Int.tmod v0 4, IntKind.u64.wrap (1 + Int.tmod v1 4), Int.tmod v2 4, 0, D) else
     if D = 3 then some (Int.tmod v0 4, Int.tmod v1 4, IntKind.u64.wrap (1 + Int.tmod v2 4), 0, D) else if D = 4 then some (Int.tmod v0 4, Int.tmod v1 4, Int.tmod v2 4, IntKind.u64.wrap (1 + 0), D) else none) := by
 rw [tenementlaw22_Mark_mark.l0, if_pos (by omega), if_pos rfl, show wrap64 (0 + 1) = 1 from wrap64_id (by omega) (by omega)]
 rw [tenementlaw22_Mark_mark.l0, if_pos (by omega), if_neg (by omega), if_pos rfl, show wrap64 (1 + 1) = 2 from wrap64_id (by omega) (by omega)]
 rw [tenementlaw22_Mark_mark.l0, if_pos (by omega), if_neg (by omega), if_neg (by omega), if_pos rfl, show wrap64 (2 + 1) = 3 from wrap64_id (by omega) (by omega)]
 rw [tenementlaw22_Mark_mark.l0, if_neg (by omega)]
theorem mark_own {v0 v1 v2 v3 d : Int} (h0 : (Lit.int .u64 v0).wf = true) (h1 : (Lit.int .u64 v1).wf = true) (h2 : (Lit.int .u64 v2).wf = true) {k : Nat} (hk : 4 ≤ k) :
  ∃ n0 n1 n2 n3 dc : Nat, tenementlaw22_Mark_mark.f k v0 v1 v2 v3 d true = some ((n0 : Int), (n1 : Int), (n2 : Int), (n3 : Int), (dc : Int)) ∧ (n0 ≤ 4 ∧ n1 ≤ 4 ∧ n2 ≤ 4 ∧ n3 ≤ 4) ∧ 1 ≤ dc ∧ dc ≤ 3 ∧ okS n0 n1 n2 n3 dc := by
 have h0 := u64_of h0
 have h1 := u64_of h1
 have h2 := u64_of h2
 obtain ⟨k, rfl⟩ : ∃ m, k = m + 4 := ⟨k - 4, by omega⟩
 unfold tenementlaw22_Mark_mark.f
 rw [if_pos rfl]
 have hw : 0 ≤ IntKind.u64.wrap d := by rw [IntKind.wrap_u64]; omega
 have hD : wrap64 (1 + (wrap64 (Int.tmod (IntKind.u64.wrap d) 3))) = 1 + (IntKind.u64.wrap d) % 3 := by
  rw [Int.tmod_eq_emod_of_nonneg hw, wrap64_id (x := (IntKind.u64.wrap d) % 3) (by omega) (by omega), wrap64_id (by omega) (by omega)]
 rw [hD, mark_loop, Int.tmod_eq_emod_of_nonneg h0.1, Int.tmod_eq_emod_of_nonneg h1.1, Int.tmod_eq_emod_of_nonneg h2.1, wrap_u64 (x := 1 + v0 % 4) (by omega) (by omega), wrap_u64 (x := 1 + v1 % 4) (by omega) (by omega), wrap_u64 (x := 1 + v2 % 4) (by omega) (by omega)]
 generalize IntKind.u64.wrap d = q at hw ⊢
 clear hD
 have c : q % 3 = 0 ∨ q % 3 = 1 ∨ q % 3 = 2 := by omega
 rcases c with c | c | c
 ·rw [c, if_pos (by omega)]
  refine ⟨(1 + v0 % 4).toNat, (v1 % 4).toNat, (v2 % 4).toNat, 0, 1, by rw [Int.toNat_of_nonneg (by omega), Int.toNat_of_nonneg (by omega), Int.toNat_of_nonneg (by omega)]; rfl, by omega, by omega, by omega, by omega, ?_⟩
  unfold own
  rw [if_pos (by omega)]
  omega
 ·rw [c, if_neg (by omega), if_pos (by omega)]
  refine ⟨(v0 % 4).toNat, (1 + v1 % 4).toNat, (v2 % 4).toNat, 0, 2, by rw [Int.toNat_of_nonneg (by omega), Int.toNat_of_nonneg (by omega), Int.toNat_of_nonneg (by omega)]; rfl, by omega, by omega, by omega, by omega, ?_⟩
  unfold own
  rw [if_neg (by omega), if_pos (by omega)]
  omega
 ·rw [c, if_neg (by omega), if_neg (by omega), if_pos (by omega)]
  refine ⟨(v0 % 4).toNat, (v1 % 4).toNat, (1 + v2 % 4).toNat, 0, 3, by rw [Int.toNat_of_nonneg (by omega), Int.toNat_of_nonneg (by omega), Int.toNat_of_nonneg (by omega)]; rfl, by omega, by omega, by omega, by omega, ?_⟩
  unfold own
  rw [if_neg (by omega), if_neg (by omega), if_pos (by omega)]
  omega
end Go.Proofs.Ythjhkcebcgdeoaa.Pure

namespace Go.Proofs.Ythjhkcebcgdeoaa.Q
open Go.RowKit Go.Proofs.YthjhkcebcgdeoaaW.PrintWords Go.Proofs.YthjhkcebcgdeoaaW.PrintLast Go.Proofs.YthjhkcebcgdeoaaW.PrintMore
attribute [local go_sem] max2_int min2_int max_two min_two max_three min_three max_four min_four   -- for this text's walks alone
set_option linter.unusedVariables false
set_option linter.unusedSimpArgs false
def vec_With.f (a0_0 a0_1 a0_2 a0_3 n x : Int) : Option (Int × Int × Int × Int) := some (if n = 1 then x else a0_0, if n = 2 then x else a0_1, if n = 3 then x else a0_2, if n = 4 then x else a0_3)
set_option maxHeartbeats 8000000 in
set_option maxRecDepth 100000 in
theorem vec_With.calls (a0_0 a0_1 a0_2 a0_3 n x : Int) (r0 r1 r2 r3 : Int) (w : World) (h : vec_With.f a0_0 a0_1 a0_2 a0_3 n x = some (r0, r1, r2, r3)) :
  Calls Try.prog 29 #[.agg #[.int .u64 a0_0, .int .u64 a0_1, .int .u64 a0_2, .int .u64 a0_3], .int .i64 n, .int .u64 x] w fun e w' => e = .returned (.agg #[.int .u64 r0, .int .u64 r1, .int .u64 r2, .int .u64 r3]) ∧ Below w.heap.size w w' := by
 unfold vec_With.f at h
 have h := Option.some.inj h
 simp only [Prod.mk.injEq] at h
 obtain ⟨rfl, rfl, rfl, rfl⟩ := h
 have hu := Try.underlying29
 have hu2 := Try.underlying27
 by_cases c0 : n = 1
 ·subst c0
  go_enter Try.func29, Try.ntmps29
  go_wp2
  refine bodyPost_ret (v := .agg #[.int .u64 x, .int .u64 a0_1, .int .u64 a0_2, .int .u64 a0_3]) (by simp [results, Try.results29, go_sem, hu, hu2]) rfl ⟨rfl, by first | exact below_alloc (Below.refl _ _) _ | (repeat (first | exact Below.refl _ _ | apply below_alloc | apply pw_below_drewN | apply below_drew1 | (refine below_set ?_ (by simp)) | (refine below_set ?_ (by simp; omega))))⟩
 by_cases c1 : n = 2
 ·subst c1
  go_enter Try.func29, Try.ntmps29
  go_wp2
  refine bodyPost_ret (v := .agg #[.int .u64 a0_0, .int .u64 x, .int .u64 a0_2, .int .u64 a0_3]) (by simp [results, Try.results29, go_sem, hu, hu2]) rfl ⟨rfl, by first | exact below_alloc (Below.refl _ _) _ | (repeat (first | exact Below.refl _ _ | apply below_alloc | apply pw_below_drewN | apply below_drew1 | (refine below_set ?_ (by simp)) | (refine below_set ?_ (by simp; omega))))⟩
 by_cases c2 : n = 3
 ·subst c2
  go_enter Try.func29, Try.ntmps29
  go_wp2
  refine bodyPost_ret (v := .agg #[.int .u64 a0_0, .int .u64 a0_1, .int .u64 x, .int .u64 a0_3]) (by simp [results, Try.results29, go_sem, hu, hu2]) rfl ⟨rfl, by first | exact below_alloc (Below.refl _ _) _ | (repeat (first | exact Below.refl _ _ | apply below_alloc | apply pw_below_drewN | apply below_drew1 | (refine below_set ?_ (by simp)) | (refine below_set ?_ (by simp; omega))))⟩
 by_cases c3 : n = 4
 ·subst c3
  go_enter Try.func29, Try.ntmps29
  go_wp2
  refine bodyPost_ret (v := .agg #[.int .u64 a0_0, .int .u64 a0_1, .int .u64 a0_2, .int .u64 x]) (by simp [results, Try.results29, go_sem, hu, hu2]) rfl ⟨rfl, by first | exact below_alloc (Below.refl _ _) _ | (repeat (first | exact Below.refl _ _ | apply below_alloc | apply pw_below_drewN | apply below_drew1 | (refine below_set ?_ (by simp)) | (refine below_set ?_ (by simp; omega))))⟩
 rw [if_neg c0, if_neg c1, if_neg c2, if_neg c3]
 have b1 : (decide (1 ≤ n) = false ∧ decide (n < 1) = true) ∨ (decide (1 ≤ n) = true ∧ decide (n < 1) = false ∧ decide (n ≤ 4) = false ∧ decide (4 < n) = true) := by
  by_cases h : 1 ≤ n
  ·exact Or.inr ⟨decide_eq_true h, decide_eq_false (by omega), decide_eq_false (by omega), decide_eq_true (by omega)⟩
  ·exact Or.inl ⟨decide_eq_false h, decide_eq_true (by omega)⟩
 clear c0 c1 c2 c3
 rcases b1 with ⟨b1, b2⟩ | ⟨b1, b2, b3, b4⟩
 ·go_enter Try.func29, Try.ntmps29
  go_wp2
  refine bodyPost_ret (v := .agg #[.int .u64 a0_0, .int .u64 a0_1, .int .u64 a0_2, .int .u64 a0_3]) (by simp [results, Try.results29, go_sem, hu, hu2]) rfl ⟨rfl, by first | exact below_alloc (Below.refl _ _) _ | (repeat (first | exact Below.refl _ _ | apply below_alloc | apply pw_below_drewN | apply below_drew1 | (refine below_set ?_ (by simp)) | (refine below_set ?_ (by simp; omega))))⟩
 ·go_enter Try.func29, Try.ntmps29
  go_wp2
  refine bodyPost_ret (v := .agg #[.int .u64 a0_0, .int .u64 a0_1, .int .u64 a0_2, .int .u64 a0_3]) (by simp [results, Try.results29, go_sem, hu, hu2]) rfl ⟨rfl, by first | exact below_alloc (Below.refl _ _) _ | (repeat (first | exact Below.refl _ _ | apply below_alloc | apply pw_below_drewN | apply below_drew1 | (refine below_set ?_ (by simp)) | (refine below_set ?_ (by simp; omega))))⟩
def tenementlaw22_Vector_vector.l0 : Nat → Int → Int → Int → Int → Int → Bool → Option (Int × Int × Int × Int)
 | 0, _, _, _, _, _, _ => none
 | k + 1, x3, x100, x101, x102, x103, x109 => if x3 < 4 then (if x3 = 0 then (tenementlaw22_Vector_vector.l0 k (wrap64 (x3 + 1)) (Int.tmod x100 4) x101 x102 x103 x109) else (if x3 = 1 then (tenementlaw22_Vector_vector.l0 k (wrap64 (x3 + 1)) x100 (Int.tmod x101 4) x102 x103 x109) else (if x3 = 2 then (tenementlaw22_Vector_vector.l0 k (wrap64 (x3 + 1)) x100 x101 (Int.tmod x102 4) x103 x109) else (if x3 = 3 then (tenementlaw22_Vector_vector.l0 k (wrap64 (x3 + 1)) x100 x101 x102 (Int.tmod x103 4) x109) else (none))))) else (some (x100, x101, x102, x103))
def tenementlaw22_Vector_vector.f (k : Nat) (a0_0 : Int) (a0_1 : Int) (a0_2 : Int) (a0_3 : Int) (a0_4 : Bool) : Option (Int × Int × Int × Int) := if a0_4 = true then (tenementlaw22_Vector_vector.l0 k 0 a0_0 a0_1 a0_2 a0_3 a0_4) else (some (a0_0, a0_1, a0_2, a0_3))
set_option maxHeartbeats 8000000 in
set_option maxRecDepth 100000 in
theorem tenementlaw22_Vector_vector.calls (k : Nat) (a0_0 : Int) (a0_1 : Int) (a0_2 : Int) (a0_3 : Int) (a0_4 : Bool) (r1 : Int) (r2 : Int) (r3 : Int) (r4 : Int) (w : World) (h : tenementlaw22_Vector_vector.f k a0_0 a0_1 a0_2 a0_3 a0_4 = some (r1, r2, r3, r4)) :
  Calls Try.prog 13 #[.agg #[.int .u64 a0_0, .int .u64 a0_1, .int .u64 a0_2, .int .u64 a0_3, .bool a0_4]] w fun e w' => e = .returned (.agg #[.int .u64 r1, .int .u64 r2, .int .u64 r3, .int .u64 r4]) ∧ Below w.heap.size w w' := by
 have hu31 := Try.underlying31
 have hu29 := Try.underlying29
 have HB := Aside0.mk (Below.refl w.heap.size w)
 have H : (if a0_4 = true then (tenementlaw22_Vector_vector.l0 k 0 a0_0 a0_1 a0_2 a0_3 a0_4) else (some (a0_0, a0_1, a0_2, a0_3))) = some (r1, r2, r3, r4) := h
 clear h
 by_cases c2 : a0_4 = true
 rotate_left
 ·replace c2 := Bool.eq_false_iff.mpr c2
  subst c2
  have H1 : (some (a0_0, a0_1, a0_2, a0_3)) = some (r1, r2, r3, r4) := by rw [if_neg (show ¬ (false = true) by decide)] at H; exact H
  clear H
  have H := H1
  clear H1
  simp only [Option.some.injEq, Prod.mk.injEq] at H
  obtain ⟨rfl, rfl, rfl, rfl⟩ := H
  go_enter Try.func13, Try.ntmps13
  go_wp2_with (first | ((with_reducible refine gate_dst (N := 1) rfl ?_); refine Ka_ 1 #[.int .u64 a0_0, .int .u64 a0_1, .int .u64 a0_2, .int .u64 a0_3, .bool false] 31 ?_; intro gb202 hg w23 hbox hb; have BK202 := Aside0.mk (hbox); have GW202 := Kw_ HB hg; have GE202 := GW202; replace HB := Ks_ HB hb; clear hb hbox hg) | ((with_reducible refine gate_dst (N := 2) rfl ?_); refine Ka_ 2 #[.int .u64 0, .int .u64 0, .int .u64 0, .int .u64 0] 29 ?_; intro gb203 hg w24 hbox hb; have BK203 := Aside0.mk (hbox); have GW203 := Kw_ HB hg; have GE203 := GW203; have NB202_203 := Kl_ BK202 hg; have NB203_202 := Kr_ BK202 hg; replace BK202 := Kb_ BK202 hb; replace HB := Ks_ HB hb; clear hb hbox hg; have hnb25 := NB202_203.out; have hnc25 := NB203_202.out; obtain ⟨hcz26_0, hcz26_1, hcz26_2, hcz26_3, hcz26_4, hfz26_0, hfz26_1, hfz26_2, hfz26_3, hfz26_4⟩ := Ke5_ BK202.out; obtain ⟨hcz27_0, hcz27_1, hcz27_2, hcz27_3, hfz27_0, hfz27_1, hfz27_2, hfz27_3⟩ := Ke4_ BK203.out))
  refine bodyPost_ret (results_cell_row rfl _ _ gb203 29 #[.int .u64 a0_0, .int .u64 a0_1, .int .u64 a0_2, .int .u64 a0_3] (0, 0) _ rfl (by refine Kv_ ?_; refine blk_put (cs := #[.int .u64 a0_0, .int .u64 a0_1, .int .u64 a0_2, .int .u64 0]) ?_ 3 _ rfl; refine Kv_ ?_; refine blk_put (cs := #[.int .u64 a0_0, .int .u64 a0_1, .int .u64 0, .int .u64 0]) ?_ 2 _ rfl; refine Kv_ ?_; refine blk_put (cs := #[.int .u64 a0_0, .int .u64 0, .int .u64 0, .int .u64 0]) ?_ 1 _ rfl; refine Kv_ ?_; refine blk_put (cs := #[.int .u64 0, .int .u64 0, .int .u64 0, .int .u64 0]) ?_ 0 _ rfl; exact Kq_ BK203) Try.underlying29 rfl (by kernel_rfl)) rfl ?_
  exact ⟨Kh_, K2a_ HB GE202 GE203⟩
 subst c2
 have H1 : (tenementlaw22_Vector_vector.l0 k 0 a0_0 a0_1 a0_2 a0_3 true) = some (r1, r2, r3, r4) := by rw [if_pos rfl] at H; exact H
 clear H
 have H := H1
 clear H1
 have H' := Aside0.mk H
 clear H
 go_enter Try.func13, Try.ntmps13
 go_wp2_with (first | ((with_reducible refine gate_dst (N := 1) rfl ?_); refine Ka_ 1 #[.int .u64 a0_0, .int .u64 a0_1, .int .u64 a0_2, .int .u64 a0_3, .bool true] 31 ?_; intro gb202 hg w3 hbox hb; have BK202 := Aside0.mk (hbox); have GW202 := Kw_ HB hg; have GE202 := GW202; replace HB := Ks_ HB hb; clear hb hbox hg) | ((with_reducible refine gate_dst (N := 2) rfl ?_); refine Ka_ 2 #[.int .u64 0, .int .u64 0, .int .u64 0, .int .u64 0] 29 ?_; intro gb203 hg w4 hbox hb; have BK203 := Aside0.mk (hbox); have GW203 := Kw_ HB hg; have GE203 := GW203; have NB202_203 := Kl_ BK202 hg; have NB203_202 := Kr_ BK202 hg; replace BK202 := Kb_ BK202 hb; replace HB := Ks_ HB hb; clear hb hbox hg; have hnb5 := NB202_203.out; have hnc5 := NB203_202.out; obtain ⟨hcz6_0, hcz6_1, hcz6_2, hcz6_3, hcz6_4, hfz6_0, hfz6_1, hfz6_2, hfz6_3, hfz6_4⟩ := Ke5_ BK202.out))
 go_loopg [3] k (fun kq v3 w' => ∃ (x3_1 : Int) (x100_1 : Int) (x101_1 : Int) (x102_1 : Int) (x103_1 : Int), v3 = .int .i64 x3_1 ∧ Aside0 (tenementlaw22_Vector_vector.l0 kq x3_1 x100_1 x101_1 x102_1 x103_1 true = some (r1, r2, r3, r4)) ∧ Aside0 (kq ≤ k) ∧ Aside0 (w'.heap[gb202]? = some (.cells #[.int .u64 x100_1, .int .u64 x101_1, .int .u64 x102_1, .int .u64 x103_1, .bool true] 31 (0, 0))) ∧ Aside0 (w'.heap[gb203]? = some (.cells #[.int .u64 0, .int .u64 0, .int .u64 0, .int .u64 0] 29 (0, 0))) ∧ Aside0 (Below w.heap.size w w'))
 case atStart => exact ⟨(0), (a0_0), (a0_1), (a0_2), (a0_3), (by first | rfl | (simp; done) | (simp [*]; done)), H', ⟨Nat.le_refl _⟩, ⟨by exact Kq_ BK202⟩, ⟨by exact Kq_ BK203⟩, ⟨K2a_ HB GE202 GE203⟩⟩
 case round =>
  clear H'
  try clear c1
  try clear c2
  try clear p2
  try clear c5
  try clear hcz6_0
  try clear hcz6_1
  try clear hcz6_2
  try clear hcz6_3
  try clear hcz6_4
  try clear hfz6_0
  try clear hfz6_1
  try clear hfz6_2
  try clear hfz6_3
  try clear hfz6_4
  obtain ⟨x3_1, x100_1, x101_1, x102_1, x103_1, rfl, HA, HK1, BK202, BK203, HB⟩ := hrel
  cases gk with
  | zero => exact absurd HA.out (by simp [tenementlaw22_Vector_vector.l0])
  | succ k1 =>
   have H := HA.out
   clear HA
   simp only [tenementlaw22_Vector_vector.l0] at H
   by_cases c7 : x3_1 < 4
   rotate_left
   ·rw [if_neg c7] at H
    have c7b0 : decide (x3_1 < 4) = false := decide_eq_false c7
    clear c7
    simp only [Option.some.injEq, Prod.mk.injEq] at H
    obtain ⟨rfl, rfl, rfl, rfl⟩ := H
    have hnb20 := NB202_203.out
    have hnc20 := NB203_202.out
    obtain ⟨hcz21_0, hcz21_1, hcz21_2, hcz21_3, hcz21_4, hfz21_0, hfz21_1, hfz21_2, hfz21_3, hfz21_4⟩ := Ke5_ BK202.out
    obtain ⟨hcz22_0, hcz22_1, hcz22_2, hcz22_3, hfz22_0, hfz22_1, hfz22_2, hfz22_3⟩ := Ke4_ BK203.out
    go_wp2
    refine bodyPost_ret (results_cell_row rfl _ _ gb203 29 #[.int .u64 x100_1, .int .u64 x101_1, .int .u64 x102_1, .int .u64 x103_1] (0, 0) _ rfl (by refine Kv_ ?_; refine blk_put (cs := #[.int .u64 x100_1, .int .u64 x101_1, .int .u64 x102_1, .int .u64 0]) ?_ 3 _ rfl; refine Kv_ ?_; refine blk_put (cs := #[.int .u64 x100_1, .int .u64 x101_1, .int .u64 0, .int .u64 0]) ?_ 2 _ rfl; refine Kv_ ?_; refine blk_put (cs := #[.int .u64 x100_1, .int .u64 0, .int .u64 0, .int .u64 0]) ?_ 1 _ rfl; refine Kv_ ?_; refine blk_put (cs := #[.int .u64 0, .int .u64 0, .int .u64 0, .int .u64 0]) ?_ 0 _ rfl; exact Kq_ BK203) Try.underlying29 rfl (by kernel_rfl)) rfl ?_
    exact ⟨Kh_, K2a_ HB GE202 GE203⟩
   rw [if_pos c7] at H
   have c7b0 : decide (x3_1 < 4) = true := decide_eq_true c7
   clear c7
   by_cases c8 : x3_1 = 0
   ·subst c8
    have H1 : (tenementlaw22_Vector_vector.l0 k1 1 (Int.tmod x100_1 4) x101_1 x102_1 x103_1 true) = some (r1, r2, r3, r4) := by rw [if_pos rfl] at H; (try simp only [show wrap64 ((0 : Int) + 1) = 1 from by first | rfl | decide | (unfold wrap64; omega), show wrap64 ((0 : Int) - 1) = -1 from by first | rfl | decide | (unfold wrap64; omega)] at H); exact H
    clear H
    have H := H1
    clear H1
    have H' := Aside0.mk H
    clear H
    have hnb9 := NB202_203.out
    have hnc9 := NB203_202.out
    obtain ⟨hcz10_0, hcz10_1, hcz10_2, hcz10_3, hcz10_4, hfz10_0, hfz10_1, hfz10_2, hfz10_3, hfz10_4⟩ := Ke5_ BK202.out
    go_wp2
    go_roundg k1
    case measure => have := HK1.out; omega
    case rel => exact ⟨(1), (Int.tmod x100_1 4), (x101_1), (x102_1), (x103_1), (by first | rfl | (simp; done) | (simp [*]; done)), H', ⟨by have := HK1.out; omega⟩, ⟨by refine Kv_ ?_; refine blk_put (cs := #[.int .u64 x100_1, .int .u64 x101_1, .int .u64 x102_1, .int .u64 x103_1, .bool true]) ?_ 0 _ rfl; exact Kq_ BK202⟩, ⟨by exact K1b_ BK203 NB203_202⟩, ⟨K2a_ HB GE202 GE203⟩⟩
   rw [if_neg c8] at H
   by_cases c11 : x3_1 = 1
   ·subst c11
    have H1 : (tenementlaw22_Vector_vector.l0 k1 2 x100_1 (Int.tmod x101_1 4) x102_1 x103_1 true) = some (r1, r2, r3, r4) := by rw [if_pos rfl] at H; (try simp only [show wrap64 ((1 : Int) + 1) = 2 from by first | rfl | decide | (unfold wrap64; omega), show wrap64 ((1 : Int) - 1) = 0 from by first | rfl | decide | (unfold wrap64; omega)] at H); exact H
    clear H
    have H := H1
    clear H1
    have H' := Aside0.mk H
    clear H
    have hnb12 := NB202_203.out
    have hnc12 := NB203_202.out
    obtain ⟨hcz13_0, hcz13_1, hcz13_2, hcz13_3, hcz13_4, hfz13_0, hfz13_1, hfz13_2, hfz13_3, hfz13_4⟩ := Ke5_ BK202.out
    go_wp2
    go_roundg k1
    case measure => have := HK1.out; omega
    case rel => exact ⟨(2), (x100_1), (Int.tmod x101_1 4), (x102_1), (x103_1), (by first | rfl | (simp; done) | (simp [*]; done)), H', ⟨by have := HK1.out; omega⟩, ⟨by refine Kv_ ?_; refine blk_put (cs := #[.int .u64 x100_1, .int .u64 x101_1, .int .u64 x102_1, .int .u64 x103_1, .bool true]) ?_ 1 _ rfl; exact Kq_ BK202⟩, ⟨by exact K1b_ BK203 NB203_202⟩, ⟨K2a_ HB GE202 GE203⟩⟩
   rw [if_neg c11] at H
   by_cases c14 : x3_1 = 2
   ·subst c14
    have H1 : (tenementlaw22_Vector_vector.l0 k1 3 x100_1 x101_1 (Int.tmod x102_1 4) x103_1 true) = some (r1, r2, r3, r4) := by rw [if_pos rfl] at H; (try simp only [show wrap64 ((2 : Int) + 1) = 3 from by first | rfl | decide | (unfold wrap64; omega), show wrap64 ((2 : Int) - 1) = 1 from by first | rfl | decide | (unfold wrap64; omega)] at H); exact H
    clear H
    have H := H1
    clear H1
    have H' := Aside0.mk H
    clear H
    have hnb15 := NB202_203.out
    have hnc15 := NB203_202.out
    obtain ⟨hcz16_0, hcz16_1, hcz16_2, hcz16_3, hcz16_4, hfz16_0, hfz16_1, hfz16_2, hfz16_3, hfz16_4⟩ := Ke5_ BK202.out
    go_wp2
    go_roundg k1
    case measure => have := HK1.out; omega
    case rel => exact ⟨(3), (x100_1), (x101_1), (Int.tmod x102_1 4), (x103_1), (by first | rfl | (simp; done) | (simp [*]; done)), H', ⟨by have := HK1.out; omega⟩, ⟨by refine Kv_ ?_; refine blk_put (cs := #[.int .u64 x100_1, .int .u64 x101_1, .int .u64 x102_1, .int .u64 x103_1, .bool true]) ?_ 2 _ rfl; exact Kq_ BK202⟩, ⟨by exact K1b_ BK203 NB203_202⟩, ⟨K2a_ HB GE202 GE203⟩⟩
   rw [if_neg c14] at H
   by_cases c17 : x3_1 = 3
   rotate_left
   ·rw [if_neg c17] at H
    exact absurd H (by simp)
   subst c17
   have H1 : (tenementlaw22_Vector_vector.l0 k1 4 x100_1 x101_1 x102_1 (Int.tmod x103_1 4) true) = some (r1, r2, r3, r4) := by rw [if_pos rfl] at H; (try simp only [show wrap64 ((3 : Int) + 1) = 4 from by first | rfl | decide | (unfold wrap64; omega), show wrap64 ((3 : Int) - 1) = 2 from by first | rfl | decide | (unfold wrap64; omega)] at H); exact H
   clear H
   have H := H1
   clear H1
   have H' := Aside0.mk H
   clear H
   have hnb18 := NB202_203.out
   have hnc18 := NB203_202.out
   obtain ⟨hcz19_0, hcz19_1, hcz19_2, hcz19_3, hcz19_4, hfz19_0, hfz19_1, hfz19_2, hfz19_3, hfz19_4⟩ := Ke5_ BK202.out
   go_wp2
   go_roundg k1
   case measure => have := HK1.out; omega
   case rel => exact ⟨(4), (x100_1), (x101_1), (x102_1), (Int.tmod x103_1 4), (by first | rfl | (simp; done) | (simp [*]; done)), H', ⟨by have := HK1.out; omega⟩, ⟨by refine Kv_ ?_; refine blk_put (cs := #[.int .u64 x100_1, .int .u64 x101_1, .int .u64 x102_1, .int .u64 x103_1, .bool true]) ?_ 3 _ rfl; exact Kq_ BK202⟩, ⟨by exact K1b_ BK203 NB203_202⟩, ⟨K2a_ HB GE202 GE203⟩⟩
end Go.Proofs.Ythjhkcebcgdeoaa.Q
