import Derived.Test.YthjhkcebcgdeoaaGJudgeAlike2
import Derived.Test.YthjhkcebcgdeoaaGJudgeAlike6
import Derived.KernelRfl
import Derived.Test.YthjhkcebcgdeoaaGJudgeAlike0
set_option linter.unusedVariables false
namespace Go.Proofs.Ythjhkcebcgdeoaa.Q
open Go.RowKit Go.Proofs.Ythjhkcebcgdeoaa.Q Go.Proofs.YthjhkcebcgdeoaaW.PrintWords Go.Proofs.YthjhkcebcgdeoaaW.PrintLast Go.Proofs.YthjhkcebcgdeoaaW.PrintMore
open Go.Proofs.Ythjhkcebcgdeoaa
def wf29 (x : S29) : Prop := ((Lit.int .u64 x.f0).wf = true) ∧ ((Lit.int .u64 x.f1).wf = true) ∧ ((Lit.int .u64 x.f2).wf = true) ∧ ((Lit.int .u64 x.f3).wf = true)
theorem to29 : Open.To Try.prog 29 k29 wf29 := Open.imp (Open.iso (fun x : S29 => (x.f0, (x.f1, (x.f2, x.f3)))) (fun y => (⟨y.1, y.2.1, y.2.2.1, y.2.2.2⟩ : S29)) (fun _ => rfl) (Open.array (n := 4) (e := 27) (s := 1) Try.underlying29 (by kernel_rfl) (by kernel_rfl) (show Open.Fs Try.prog 0 [(27, 0), (27, 1), (27, 2), (27, 3)] _ _ from (Open.cons (Open.int Try.underlying27 (by kernel_rfl)) (Open.cons (Open.int Try.underlying27 (by kernel_rfl)) (Open.cons (Open.int Try.underlying27 (by kernel_rfl)) (Open.one (Open.int Try.underlying27 (by kernel_rfl))))))))) (fun _ h => h)
def wf56 (x : S56) : Prop := (wf29 x.f0) ∧ ((Lit.int .i64 x.f1).wf = true)
theorem to56 : Open.To Try.prog 56 k56 wf56 := Open.imp (Open.iso (fun x : S56 => (x.f0, x.f1)) (fun y => (⟨y.1, y.2⟩ : S56)) (fun _ => rfl) (Open.struct Try.underlying56 (by rfl) (by kernel_rfl) (show Open.Fs Try.prog 0 [(29, 0), (3, 4)] _ _ from (Open.cons to29 (Open.one (Open.int Try.underlying3 (by kernel_rfl))))))) (fun _ h => h)
def wf58 (x : S58) : Prop := (wf56 x.f0) ∧ (True)
theorem to58 : Open.To Try.prog 58 k58 wf58 := Open.imp (Open.iso (fun x : S58 => (x.f0, x.f1)) (fun y => (⟨y.1, y.2⟩ : S58)) (fun _ => rfl) (Open.struct Try.underlying58 (by rfl) (by kernel_rfl) (show Open.Fs Try.prog 0 [(56, 0), (4, 5)] _ _ from (Open.cons to56 (Open.one (Open.bool Try.underlying4 (by kernel_rfl))))))) (fun _ h => h)
def wf24 (x : S24) : Prop := (x.f0.size ≤ 140737488351232) ∧ (x.f1.size ≤ 140737488351232) ∧ (x.f2.size ≤ 140737488351232) ∧ (True)
theorem to24 : Open.To Try.prog 24 k24 wf24 := Open.imp (Open.iso (fun x : S24 => (x.f0, (x.f1, (x.f2, x.f3)))) (fun y => (⟨y.1, y.2.1, y.2.2.1, y.2.2.2⟩ : S24)) (fun _ => rfl) (Open.struct Try.underlying24 (by rfl) (by kernel_rfl) (show Open.Fs Try.prog 0 [(9, 0), (9, 1), (9, 2), (4, 3)] _ _ from (Open.cons (Open.string Try.underlying9 (by kernel_rfl)) (Open.cons (Open.string Try.underlying9 (by kernel_rfl)) (Open.cons (Open.string Try.underlying9 (by kernel_rfl)) (Open.one (Open.bool Try.underlying4 (by kernel_rfl))))))))) (fun _ h => h)
def wf26 (x : S26) : Prop := (wf24 x.f0) ∧ (True) ∧ ((Lit.int .u8 x.f2).wf = true)
theorem to26 : Open.To Try.prog 26 k26 wf26 := Open.imp (Open.iso (fun x : S26 => (x.f0, (x.f1, x.f2))) (fun y => (⟨y.1, y.2.1, y.2.2⟩ : S26)) (fun _ => rfl) (Open.struct Try.underlying26 (by rfl) (by kernel_rfl) (show Open.Fs Try.prog 0 [(24, 0), (4, 4), (5, 5)] _ _ from (Open.cons to24 (Open.cons (Open.bool Try.underlying4 (by kernel_rfl)) (Open.one (Open.int Try.underlying5 (by kernel_rfl)))))))) (fun _ h => h)
def wf61 (x : S61) : Prop := (wf58 x.f0) ∧ ((∀ x_ ∈ x.f1, wf26 x_) ∧ x.f1.length * 64 ≤ 140737488351232) ∧ (True)
theorem to61 : Open.To Try.prog 61 k61 wf61 := Open.imp (Open.iso (fun x : S61 => (x.f0, (x.f1, x.f2))) (fun y => (⟨y.1, y.2.1, y.2.2⟩ : S61)) (fun _ => rfl) (Open.struct Try.underlying61 (by rfl) (by kernel_rfl) (show Open.Fs Try.prog 0 [(58, 0), (59, 6), (4, 7)] _ _ from (Open.cons to58 (Open.cons (Open.slice (e := 26) (B := 64) Try.underlying59 (by kernel_rfl) (by kernel_rfl) to26) (Open.one (Open.bool Try.underlying4 (by kernel_rfl)))))))) (fun _ h => h)
end Go.Proofs.Ythjhkcebcgdeoaa.Q

set_option linter.unusedVariables false
set_option linter.unusedSimpArgs false
namespace Go.Proofs.Ythjhkcebcgdeoaa.Pure
open Go.RowKit Go.Proofs.Ythjhkcebcgdeoaa.Q Go.Proofs.YthjhkcebcgdeoaaW.PrintWords Go.Proofs.YthjhkcebcgdeoaaW.PrintLast Go.Proofs.YthjhkcebcgdeoaaW.PrintMore Go.Proofs.Ythjhkcebcgdeoaa.Plain
theorem u64_of {x : Int} (h : (Lit.int .u64 x).wf = true) : 0 ≤ x ∧ x ≤ 18446744073709551615 := by
 have h : IntKind.u64.min ≤ x ∧ x ≤ IntKind.u64.max := by simpa only [Lit.wf, Bool.and_eq_true, decide_eq_true_eq] using h
 exact h
def own (a b c d e : Int) : Int := if e = 1 then a else if e = 2 then b else if e = 3 then c else if e = 4 then d else 0
def okS (a b c d e : Int) : Prop := (a ≤ 1152921504606846976 ∧ b ≤ 1152921504606846976 ∧ c ≤ 1152921504606846976 ∧ d ≤ 1152921504606846976) ∧ 0 < own a b c d e
theorem mark_loop (v0 v1 v2 v3 d D : Int) (k : Nat) : tenementlaw22_Mark_mark.l0 (k + 4) 0 v0 v1 v2 v3 d true 0 0 0 0 D =
  (if D = 1 then some (IntKind.u64.wrap (1 + Int.tmod v0 4), Int.tmod v1 4, Int.tmod v2 4, 0, D) else if D = 2 then some (Int.tmod v0 4, IntKind.u64.wrap (1 + Int.tmod v1 4), Int.tmod v2 4, 0, D) else
     if D = 3 then some (Int.tmod v0 4, Int.tmod v1 4, IntKind.u64.wrap (1 + Int.tmod v2 4), 0, D) else if D = 4 then some (Int.tmod v0 4, Int.tmod v1 4, Int.tmod v2 4, IntKind.u64.wrap (1 + 0), D) else none) := by
 rw [tenementlaw22_Mark_mark.l0, if_pos (by omega), if_pos rfl, show wrap64 (0 + 1) = 1 from wrap64_id (by omega) (by omega)]
 rw [tenementlaw22_Mark_mark.l0, if_pos (by omega), if_neg (by omega), if_pos rfl, show wrap64 (1 + 1) = 2 from wrap64_id (by omega) (by omega)]
 rw [tenementlaw22_Mark_mark.l0, if_pos (by omega), if_neg (by omega), if_neg (by omega), if_pos rfl, show wrap64 (2 + 1) = 3 from wrap64_id (by omega) (by omega)]
 rw [tenementlaw22_Mark_mark.l0, if_neg (by omega)]
theorem mark_own {v0 v1 v2 v3 d : Int} (h0 : (Lit.int .u64 v0).wf = true) (h1 : (Lit.int .u64 v1).wf = true) (h2 : (Lit.int .u64 v2).wf = true) {k : Nat} (hk : 4 ≤ k) :
  ∃ n0 n1 n2 n3 dc : Nat, tenementlaw22_Mark_mark.f k v0 v1 v2 v3 d true = some ((n0 : Int), (n1 : Int), (n2 : Int), (n3 : Int), (dc : Int)) ∧ (n0 ≤ 4 ∧ n1 ≤ 4 ∧ n2 ≤ 4 ∧ n3 ≤ 4) ∧ 1 ≤ dc ∧ dc ≤ 3 ∧ okS n0 n1 n2 n3 dc := by
 have h0 := u64_of h0
 have h1 := u64_of h1
 have h2 := u64_of h2
 obtain ⟨k, rfl⟩ : ∃ m, k = m + 4 := ⟨k - 4, by omega⟩
 unfold tenementlaw22_Mark_mark.f
 rw [if_pos rfl]
 have hw : 0 ≤ IntKind.u64.wrap d := by rw [IntKind.wrap_u64]; omega
 have hD : wrap64 (1 + (wrap64 (Int.tmod (IntKind.u64.wrap d) 3))) = 1 + (IntKind.u64.wrap d) % 3 := by
  rw [Int.tmod_eq_emod_of_nonneg hw, wrap64_id (x := (IntKind.u64.wrap d) % 3) (by omega) (by omega), wrap64_id (by omega) (by omega)]
 rw [hD, mark_loop, Int.tmod_eq_emod_of_nonneg h0.1, Int.tmod_eq_emod_of_nonneg h1.1, Int.tmod_eq_emod_of_nonneg h2.1, wrap_u64 (x := 1 + v0 % 4) (by omega) (by omega), wrap_u64 (x := 1 + v1 % 4) (by omega) (by omega), wrap_u64 (x := 1 + v2 % 4) (by omega) (by omega)]
 generalize IntKind.u64.wrap d = q at hw ⊢
 clear hD
 have c : q % 3 = 0 ∨ q % 3 = 1 ∨ q % 3 = 2 := by omega
 rcases c with c | c | c
 ·rw [c, if_pos (by omega)]
  refine ⟨(1 + v0 % 4).toNat, (v1 % 4).toNat, (v2 % 4).toNat, 0, 1, by rw [Int.toNat_of_nonneg (by omega), Int.toNat_of_nonneg (by omega), Int.toNat_of_nonneg (by omega)]; rfl, by omega, by omega, by omega, by omega, ?_⟩
  unfold own
  rw [if_pos (by omega)]
  omega
 ·rw [c, if_neg (by omega), if_pos (by omega)]
  refine ⟨(v0 % 4).toNat, (1 + v1 % 4).toNat, (v2 % 4).toNat, 0, 2, by rw [Int.toNat_of_nonneg (by omega), Int.toNat_of_nonneg (by omega), Int.toNat_of_nonneg (by omega)]; rfl, by omega, by omega, by omega, by omega, ?_⟩
  unfold own
  rw [if_neg (by omega), if_pos (by omega)]
  omega
 ·rw [c, if_neg (by omega), if_neg (by omega), if_pos (by omega)]
  refine ⟨(v0 % 4).toNat, (v1 % 4).toNat, (1 + v2 % 4).toNat, 0, 3, by rw [Int.toNat_of_nonneg (by omega), Int.toNat_of_nonneg (by omega), Int.toNat_of_nonneg (by omega)]; rfl, by omega, by omega, by omega, by omega, ?_⟩
  unfold own
  rw [if_neg (by omega), if_neg (by omega), if_pos (by omega)]
  omega
end Go.Proofs.Ythjhkcebcgdeoaa.Pure

namespace Go.Proofs.Ythjhkcebcgdeoaa.Q
open Go.RowKit Go.Proofs.YthjhkcebcgdeoaaW.PrintWords Go.Proofs.YthjhkcebcgdeoaaW.PrintLast Go.Proofs.YthjhkcebcgdeoaaW.PrintMore
attribute [local go_sem] max2_int min2_int max_two min_two max_three min_three max_four min_four   -- for this text's walks alone
set_option linter.unusedVariables false
set_option linter.unusedSimpArgs false
def tenementlaw22_Vector_vector.l0 : Nat → Int → Int → Int → Int → Int → Bool → Option (Int × Int × Int × Int)
 | 0, _, _, _, _, _, _ => none
 | k + 1, x3, x100, x101, x102, x103, x104 => if x3 < 4 then (if x3 = 0 then (tenementlaw22_Vector_vector.l0 k (wrap64 (x3 + 1)) (Int.tmod x100 4) x101 x102 x103 x104) else (if x3 = 1 then (tenementlaw22_Vector_vector.l0 k (wrap64 (x3 + 1)) x100 (Int.tmod x101 4) x102 x103 x104) else (if x3 = 2 then (tenementlaw22_Vector_vector.l0 k (wrap64 (x3 + 1)) x100 x101 (Int.tmod x102 4) x103 x104) else (if x3 = 3 then (tenementlaw22_Vector_vector.l0 k (wrap64 (x3 + 1)) x100 x101 x102 (Int.tmod x103 4) x104) else (none))))) else (some (x100, x101, x102, x103))
def tenementlaw22_Vector_vector.f (k : Nat) (a0_0 : Int) (a0_1 : Int) (a0_2 : Int) (a0_3 : Int) (a0_4 : Bool) : Option (Int × Int × Int × Int) := if a0_4 = true then (tenementlaw22_Vector_vector.l0 k 0 a0_0 a0_1 a0_2 a0_3 a0_4) else (some (a0_0, a0_1, a0_2, a0_3))
set_option maxHeartbeats 8000000 in
set_option maxRecDepth 100000 in
theorem tenementlaw22_Vector_vector.calls (k : Nat) (a0_0 : Int) (a0_1 : Int) (a0_2 : Int) (a0_3 : Int) (a0_4 : Bool) (r1 : Int) (r2 : Int) (r3 : Int) (r4 : Int) (w : World) (h : tenementlaw22_Vector_vector.f k a0_0 a0_1 a0_2 a0_3 a0_4 = some (r1, r2, r3, r4)) :
  Calls Try.prog 13 #[.agg #[.int .u64 a0_0, .int .u64 a0_1, .int .u64 a0_2, .int .u64 a0_3, .bool a0_4]] w fun e w' => e = .returned (.agg #[.int .u64 r1, .int .u64 r2, .int .u64 r3, .int .u64 r4]) ∧ Below w.heap.size w w' := by
 have hu31 := Try.underlying31
 have hu29 := Try.underlying29
 have HB := Aside0.mk (Below.refl w.heap.size w)
 have H : (if a0_4 = true then (tenementlaw22_Vector_vector.l0 k 0 a0_0 a0_1 a0_2 a0_3 a0_4) else (some (a0_0, a0_1, a0_2, a0_3))) = some (r1, r2, r3, r4) := h
 clear h
 by_cases c2 : a0_4 = true
 rotate_left
 ·replace c2 := Bool.eq_false_iff.mpr c2
  subst c2
  have H1 : (some (a0_0, a0_1, a0_2, a0_3)) = some (r1, r2, r3, r4) := by rw [if_neg (show ¬ (false = true) by decide)] at H; exact H
  clear H
  have H := H1
  clear H1
  simp only [Option.some.injEq, Prod.mk.injEq] at H
  obtain ⟨rfl, rfl, rfl, rfl⟩ := H
  go_enter Try.func13, Try.ntmps13
  go_wp2_with (first | ((with_reducible refine gate_dst (N := 1) rfl ?_); refine Ka_ 1 #[.int .u64 a0_0, .int .u64 a0_1, .int .u64 a0_2, .int .u64 a0_3, .bool false] 31 ?_; intro gb202 hg w23 hbox hb; have BK202 := Aside0.mk (hbox); have GW202 := Kw_ HB hg; have GE202 := GW202; replace HB := Ks_ HB hb; clear hb hbox hg) | ((with_reducible refine gate_dst (N := 2) rfl ?_); refine Ka_ 2 #[.int .u64 0, .int .u64 0, .int .u64 0, .int .u64 0] 29 ?_; intro gb203 hg w24 hbox hb; have BK203 := Aside0.mk (hbox); have GW203 := Kw_ HB hg; have GE203 := GW203; have NB202_203 := Kl_ BK202 hg; have NB203_202 := Kr_ BK202 hg; replace BK202 := Kb_ BK202 hb; replace HB := Ks_ HB hb; clear hb hbox hg; have hnb25 := NB202_203.out; have hnc25 := NB203_202.out; obtain ⟨hcz26_0, hcz26_1, hcz26_2, hcz26_3, hcz26_4, hfz26_0, hfz26_1, hfz26_2, hfz26_3, hfz26_4⟩ := Ke5_ BK202.out; obtain ⟨hcz27_0, hcz27_1, hcz27_2, hcz27_3, hfz27_0, hfz27_1, hfz27_2, hfz27_3⟩ := Ke4_ BK203.out))
  refine bodyPost_ret (results_cell_row rfl _ _ gb203 29 #[.int .u64 a0_0, .int .u64 a0_1, .int .u64 a0_2, .int .u64 a0_3] (0, 0) _ rfl (by refine Kv_ ?_; refine blk_put (cs := #[.int .u64 a0_0, .int .u64 a0_1, .int .u64 a0_2, .int .u64 0]) ?_ 3 _ rfl; refine Kv_ ?_; refine blk_put (cs := #[.int .u64 a0_0, .int .u64 a0_1, .int .u64 0, .int .u64 0]) ?_ 2 _ rfl; refine Kv_ ?_; refine blk_put (cs := #[.int .u64 a0_0, .int .u64 0, .int .u64 0, .int .u64 0]) ?_ 1 _ rfl; refine Kv_ ?_; refine blk_put (cs := #[.int .u64 0, .int .u64 0, .int .u64 0, .int .u64 0]) ?_ 0 _ rfl; exact Kq_ BK203) Try.underlying29 rfl (by kernel_rfl)) rfl ?_
  exact ⟨Kh_, K2a_ HB GE202 GE203⟩
 subst c2
 have H1 : (tenementlaw22_Vector_vector.l0 k 0 a0_0 a0_1 a0_2 a0_3 true) = some (r1, r2, r3, r4) := by rw [if_pos rfl] at H; exact H
 clear H
 have H := H1
 clear H1
 have H' := Aside0.mk H
 clear H
 go_enter Try.func13, Try.ntmps13
 go_wp2_with (first | ((with_reducible refine gate_dst (N := 1) rfl ?_); refine Ka_ 1 #[.int .u64 a0_0, .int .u64 a0_1, .int .u64 a0_2, .int .u64 a0_3, .bool true] 31 ?_; intro gb202 hg w3 hbox hb; have BK202 := Aside0.mk (hbox); have GW202 := Kw_ HB hg; have GE202 := GW202; replace HB := Ks_ HB hb; clear hb hbox hg) | ((with_reducible refine gate_dst (N := 2) rfl ?_); refine Ka_ 2 #[.int .u64 0, .int .u64 0, .int .u64 0, .int .u64 0] 29 ?_; intro gb203 hg w4 hbox hb; have BK203 := Aside0.mk (hbox); have GW203 := Kw_ HB hg; have GE203 := GW203; have NB202_203 := Kl_ BK202 hg; have NB203_202 := Kr_ BK202 hg; replace BK202 := Kb_ BK202 hb; replace HB := Ks_ HB hb; clear hb hbox hg; have hnb5 := NB202_203.out; have hnc5 := NB203_202.out; obtain ⟨hcz6_0, hcz6_1, hcz6_2, hcz6_3, hcz6_4, hfz6_0, hfz6_1, hfz6_2, hfz6_3, hfz6_4⟩ := Ke5_ BK202.out))
 go_loopg [3] k (fun kq v3 w' => ∃ (x3_1 : Int) (x100_1 : Int) (x101_1 : Int) (x102_1 : Int) (x103_1 : Int), v3 = .int .i64 x3_1 ∧ Aside0 (tenementlaw22_Vector_vector.l0 kq x3_1 x100_1 x101_1 x102_1 x103_1 true = some (r1, r2, r3, r4)) ∧ Aside0 (kq ≤ k) ∧ Aside0 (w'.heap[gb202]? = some (.cells #[.int .u64 x100_1, .int .u64 x101_1, .int .u64 x102_1, .int .u64 x103_1, .bool true] 31 (0, 0))) ∧ Aside0 (w'.heap[gb203]? = some (.cells #[.int .u64 0, .int .u64 0, .int .u64 0, .int .u64 0] 29 (0, 0))) ∧ Aside0 (Below w.heap.size w w'))
 case atStart => exact ⟨(0), (a0_0), (a0_1), (a0_2), (a0_3), (by first | rfl | (simp; done) | (simp [*]; done)), H', ⟨Nat.le_refl _⟩, ⟨by exact Kq_ BK202⟩, ⟨by exact Kq_ BK203⟩, ⟨K2a_ HB GE202 GE203⟩⟩
 case round =>
  clear H'
  try clear c1
  try clear c2
  try clear p2
  try clear c5
  try clear hcz6_0
  try clear hcz6_1
  try clear hcz6_2
  try clear hcz6_3
  try clear hcz6_4
  try clear hfz6_0
  try clear hfz6_1
  try clear hfz6_2
  try clear hfz6_3
  try clear hfz6_4
  obtain ⟨x3_1, x100_1, x101_1, x102_1, x103_1, rfl, HA, HK1, BK202, BK203, HB⟩ := hrel
  cases gk with
  | zero => exact absurd HA.out (by simp [tenementlaw22_Vector_vector.l0])
  | succ k1 =>
   have H := HA.out
   clear HA
   simp only [tenementlaw22_Vector_vector.l0] at H
   by_cases c7 : x3_1 < 4
   rotate_left
   ·rw [if_neg c7] at H
    have c7b0 : decide (x3_1 < 4) = false := decide_eq_false c7
    clear c7
    simp only [Option.some.injEq, Prod.mk.injEq] at H
    obtain ⟨rfl, rfl, rfl, rfl⟩ := H
    have hnb20 := NB202_203.out
    have hnc20 := NB203_202.out
    obtain ⟨hcz21_0, hcz21_1, hcz21_2, hcz21_3, hcz21_4, hfz21_0, hfz21_1, hfz21_2, hfz21_3, hfz21_4⟩ := Ke5_ BK202.out
    obtain ⟨hcz22_0, hcz22_1, hcz22_2, hcz22_3, hfz22_0, hfz22_1, hfz22_2, hfz22_3⟩ := Ke4_ BK203.out
    go_wp2
    refine bodyPost_ret (results_cell_row rfl _ _ gb203 29 #[.int .u64 x100_1, .int .u64 x101_1, .int .u64 x102_1, .int .u64 x103_1] (0, 0) _ rfl (by refine Kv_ ?_; refine blk_put (cs := #[.int .u64 x100_1, .int .u64 x101_1, .int .u64 x102_1, .int .u64 0]) ?_ 3 _ rfl; refine Kv_ ?_; refine blk_put (cs := #[.int .u64 x100_1, .int .u64 x101_1, .int .u64 0, .int .u64 0]) ?_ 2 _ rfl; refine Kv_ ?_; refine blk_put (cs := #[.int .u64 x100_1, .int .u64 0, .int .u64 0, .int .u64 0]) ?_ 1 _ rfl; refine Kv_ ?_; refine blk_put (cs := #[.int .u64 0, .int .u64 0, .int .u64 0, .int .u64 0]) ?_ 0 _ rfl; exact Kq_ BK203) Try.underlying29 rfl (by kernel_rfl)) rfl ?_
    exact ⟨Kh_, K2a_ HB GE202 GE203⟩
   rw [if_pos c7] at H
   have c7b0 : decide (x3_1 < 4) = true := decide_eq_true c7
   clear c7
   by_cases c8 : x3_1 = 0
   ·subst c8
    have H1 : (tenementlaw22_Vector_vector.l0 k1 1 (Int.tmod x100_1 4) x101_1 x102_1 x103_1 true) = some (r1, r2, r3, r4) := by rw [if_pos rfl] at H; (try simp only [show wrap64 ((0 : Int) + 1) = 1 from by first | rfl | decide | (unfold wrap64; omega), show wrap64 ((0 : Int) - 1) = -1 from by first | rfl | decide | (unfold wrap64; omega)] at H); exact H
    clear H
    have H := H1
    clear H1
    have H' := Aside0.mk H
    clear H
    have hnb9 := NB202_203.out
    have hnc9 := NB203_202.out
    obtain ⟨hcz10_0, hcz10_1, hcz10_2, hcz10_3, hcz10_4, hfz10_0, hfz10_1, hfz10_2, hfz10_3, hfz10_4⟩ := Ke5_ BK202.out
    go_wp2
    go_roundg k1
    case measure => have := HK1.out; omega
    case rel => exact ⟨(1), (Int.tmod x100_1 4), (x101_1), (x102_1), (x103_1), (by first | rfl | (simp; done) | (simp [*]; done)), H', ⟨by have := HK1.out; omega⟩, ⟨by refine Kv_ ?_; refine blk_put (cs := #[.int .u64 x100_1, .int .u64 x101_1, .int .u64 x102_1, .int .u64 x103_1, .bool true]) ?_ 0 _ rfl; exact Kq_ BK202⟩, ⟨by exact K1b_ BK203 NB203_202⟩, ⟨K2a_ HB GE202 GE203⟩⟩
   rw [if_neg c8] at H
   by_cases c11 : x3_1 = 1
   ·subst c11
    have H1 : (tenementlaw22_Vector_vector.l0 k1 2 x100_1 (Int.tmod x101_1 4) x102_1 x103_1 true) = some (r1, r2, r3, r4) := by rw [if_pos rfl] at H; (try simp only [show wrap64 ((1 : Int) + 1) = 2 from by first | rfl | decide | (unfold wrap64; omega), show wrap64 ((1 : Int) - 1) = 0 from by first | rfl | decide | (unfold wrap64; omega)] at H); exact H
    clear H
    have H := H1
    clear H1
    have H' := Aside0.mk H
    clear H
    have hnb12 := NB202_203.out
    have hnc12 := NB203_202.out
    obtain ⟨hcz13_0, hcz13_1, hcz13_2, hcz13_3, hcz13_4, hfz13_0, hfz13_1, hfz13_2, hfz13_3, hfz13_4⟩ := Ke5_ BK202.out
    go_wp2
    go_roundg k1
    case measure => have := HK1.out; omega
    case rel => exact ⟨(2), (x100_1), (Int.tmod x101_1 4), (x102_1), (x103_1), (by first | rfl | (simp; done) | (simp [*]; done)), H', ⟨by have := HK1.out; omega⟩, ⟨by refine Kv_ ?_; refine blk_put (cs := #[.int .u64 x100_1, .int .u64 x101_1, .int .u64 x102_1, .int .u64 x103_1, .bool true]) ?_ 1 _ rfl; exact Kq_ BK202⟩, ⟨by exact K1b_ BK203 NB203_202⟩, ⟨K2a_ HB GE202 GE203⟩⟩
   rw [if_neg c11] at H
   by_cases c14 : x3_1 = 2
   ·subst c14
    have H1 : (tenementlaw22_Vector_vector.l0 k1 3 x100_1 x101_1 (Int.tmod x102_1 4) x103_1 true) = some (r1, r2, r3, r4) := by rw [if_pos rfl] at H; (try simp only [show wrap64 ((2 : Int) + 1) = 3 from by first | rfl | decide | (unfold wrap64; omega), show wrap64 ((2 : Int) - 1) = 1 from by first | rfl | decide | (unfold wrap64; omega)] at H); exact H
    clear H
    have H := H1
    clear H1
    have H' := Aside0.mk H
    clear H
    have hnb15 := NB202_203.out
    have hnc15 := NB203_202.out
    obtain ⟨hcz16_0, hcz16_1, hcz16_2, hcz16_3, hcz16_4, hfz16_0, hfz16_1, hfz16_2, hfz16_3, hfz16_4⟩ := Ke5_ BK202.out
    go_wp2
    go_roundg k1
    case measure => have := HK1.out; omega
    case rel => exact ⟨(3), (x100_1), (x101_1), (Int.tmod x102_1 4), (x103_1), (by first | rfl | (simp; done) | (simp [*]; done)), H', ⟨by have := HK1.out; omega⟩, ⟨by refine Kv_ ?_; refine blk_put (cs := #[.int .u64 x100_1, .int .u64 x101_1, .int .u64 x102_1, .int .u64 x103_1, .bool true]) ?_ 2 _ rfl; exact Kq_ BK202⟩, ⟨by exact K1b_ BK203 NB203_202⟩, ⟨K2a_ HB GE202 GE203⟩⟩
   rw [if_neg c14] at H
   by_cases c17 : x3_1 = 3
   rotate_left
   ·rw [if_neg c17] at H
    exact absurd H (by simp)
   subst c17
   have H1 : (tenementlaw22_Vector_vector.l0 k1 4 x100_1 x101_1 x102_1 (Int.tmod x103_1 4) true) = some (r1, r2, r3, r4) := by rw [if_pos rfl] at H; (try simp only [show wrap64 ((3 : Int) + 1) = 4 from by first | rfl | decide | (unfold wrap64; omega), show wrap64 ((3 : Int) - 1) = 2 from by first | rfl | decide | (unfold wrap64; omega)] at H); exact H
   clear H
   have H := H1
   clear H1
   have H' := Aside0.mk H
   clear H
   have hnb18 := NB202_203.out
   have hnc18 := NB203_202.out
   obtain ⟨hcz19_0, hcz19_1, hcz19_2, hcz19_3, hcz19_4, hfz19_0, hfz19_1, hfz19_2, hfz19_3, hfz19_4⟩ := Ke5_ BK202.out
   go_wp2
   go_roundg k1
   case measure => have := HK1.out; omega
   case rel => exact ⟨(4), (x100_1), (x101_1), (x102_1), (Int.tmod x103_1 4), (by first | rfl | (simp; done) | (simp [*]; done)), H', ⟨by have := HK1.out; omega⟩, ⟨by refine Kv_ ?_; refine blk_put (cs := #[.int .u64 x100_1, .int .u64 x101_1, .int .u64 x102_1, .int .u64 x103_1, .bool true]) ?_ 3 _ rfl; exact Kq_ BK202⟩, ⟨by exact K1b_ BK203 NB203_202⟩, ⟨K2a_ HB GE202 GE203⟩⟩
end Go.Proofs.Ythjhkcebcgdeoaa.Q
