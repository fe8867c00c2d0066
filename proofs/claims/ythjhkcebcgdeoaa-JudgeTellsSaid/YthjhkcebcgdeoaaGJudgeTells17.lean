import Derived.Test.YthjhkcebcgdeoaaGJudgeTells2
import Derived.Test.YthjhkcebcgdeoaaGJudgeTells4
import Derived.Test.YthjhkcebcgdeoaaGJudgeTells5
import Derived.Test.YthjhkcebcgdeoaaGJudgeTells10
import Derived.Test.YthjhkcebcgdeoaaGJudgeTells7
import Derived.Test.YthjhkcebcgdeoaaGJudgeTells12
import Derived.Test.YthjhkcebcgdeoaaGJudgeTells13
import Derived.Test.YthjhkcebcgdeoaaGJudgeTells15
import Derived.Test.YthjhkcebcgdeoaaGJudgeTells8
namespace Go.Proofs.Ythjhkcebcgdeoaa.Q
open Go.RowKit Go.Proofs.YthjhkcebcgdeoaaW.PrintWords Go.Proofs.YthjhkcebcgdeoaaW.PrintLast Go.Proofs.YthjhkcebcgdeoaaW.PrintMore
attribute [local go_sem] max2_int min2_int max_two min_two max_three min_three max_four min_four   -- for this text's walks alone
set_option linter.unusedVariables false
set_option linter.unusedSimpArgs false
def tenementlaw22_JudgeTells.ok (l0 l1 : List S61) (a2_0 a2_1 a2_2 : ByteArray) (a2_3 a2_4 : Bool) (a2_5 : Int) (a3_0 a3_1 a3_2 a3_3 : Int) (a3_4 : Bool) (a4 : Int) (k : Nat) (a b0 : List S64) (r s0_ : List S81) (wb wk wv : ByteArray) (wg : Bool) (s0 s1 s2 s3 : Int) (c : ByteArray) (o1 : Bool) (e : ByteArray) (o2 : Bool) (os : List Int) (q : Bool) (n : Int) : Prop := (0 ≤ a4 ∧ a4 ≤ 255) ∧ tenementlaw22_deals.f k l0 = some (a, r) ∧ tenementlaw22_deals.f k l1 = some (b0, s0_) ∧ a.length ≤ 12 ∧ r.length = a.length ∧ tenementlaw22_Put_write.f a2_0 a2_1 a2_2 a2_3 a2_4 a2_5 = some (wb, wk, wv, wg) ∧ tenementlaw22_Vector_vector.f k a3_0 a3_1 a3_2 a3_3 a3_4 = some (s0, s1, s2, s3) ∧ judge_Read.f a wb wk s0 s1 s2 s3 = some (c, o1) ∧ tenementref22_Read.f k r wb wk s0 s1 s2 s3 = some (c, o1) ∧ judge_Last.f a wb wk = some (e, o2) ∧ tenementref22_Last.f k r wb wk = some (e, o2) ∧ judge_Order.f a = some os ∧ tenementref22_Order.f k r = some os ∧ os.length ≤ 1000 ∧ judge_Closed.f a s0 s1 s2 s3 = some q ∧ tenementref22_Closed.f k r s0 s1 s2 s3 = some q ∧ judge_Live.f a = some n ∧ tenementref22_Live.f k r = some n ∧ (∀ (b : List S64) (s : List S81), ((b = b0 ∧ s = s0_) ∨ ∃ m : Nat, m ≤ a.length ∧ b = a.take m ∧ s = r.take m) → ∃ p1 p2 : Bool, judge_Subset.f a b = some p1 ∧ tenementref22_Subset.f k r s = some p1 ∧ judge_Subset.f b a = some p2 ∧ tenementref22_Subset.f k s r = some p2)
open Classical in
noncomputable def tenementlaw22_JudgeTells.f (l0 l1 : List S61) (a2_0 a2_1 a2_2 : ByteArray) (a2_3 a2_4 : Bool) (a2_5 : Int) (a3_0 a3_1 a3_2 a3_3 : Int) (a3_4 : Bool) (a4 : Int) : Option Bool := if ∃ (k : Nat) (a b0 : List S64) (r s0_ : List S81) (wb wk wv : ByteArray) (wg : Bool) (s0 s1 s2 s3 : Int) (c : ByteArray) (o1 : Bool) (e : ByteArray) (o2 : Bool) (os : List Int) (q : Bool) (n : Int), tenementlaw22_JudgeTells.ok l0 l1 a2_0 a2_1 a2_2 a2_3 a2_4 a2_5 a3_0 a3_1 a3_2 a3_3 a3_4 a4 k a b0 r s0_ wb wk wv wg s0 s1 s2 s3 c o1 e o2 os q n then some true else none
set_option maxHeartbeats 32000000 in
set_option maxRecDepth 100000 in
theorem tenementlaw22_JudgeTells.calls (A0 : Option Addr) (c0 : Nat) (A1 : Option Addr) (c1 : Nat) (l0 l1 : List S61) (a2_0 a2_1 a2_2 : ByteArray) (a2_3 a2_4 : Bool) (a2_5 : Int) (a3_0 a3_1 a3_2 a3_3 : Int) (a3_4 : Bool) (a4 : Int) (r_ : Bool) (w : World) (hr0 : Kd.C k61 w A0 l0.length l0) (hc0 : l0.length ≤ c0) (hr1 : Kd.C k61 w A1 l1.length l1) (hc1 : l1.length ≤ c1) (h : tenementlaw22_JudgeTells.f l0 l1 a2_0 a2_1 a2_2 a2_3 a2_4 a2_5 a3_0 a3_1 a3_2 a3_3 a3_4 a4 = some r_) :
  Calls Try.prog 3 #[.slice A0 l0.length c0, .slice A1 l1.length c1, .agg #[.string a2_0, .string a2_1, .string a2_2, .bool a2_3, .bool a2_4, .int .u8 a2_5], .agg #[.int .u64 a3_0, .int .u64 a3_1, .int .u64 a3_2, .int .u64 a3_3, .bool a3_4], .int .u8 a4] w fun e w' => e = .returned (.bool r_) ∧ Below w.heap.size w w' := by
 unfold tenementlaw22_JudgeTells.f at h
 by_cases hw : ∃ (k : Nat) (a b0 : List S64) (r s0_ : List S81) (wb wk wv : ByteArray) (wg : Bool) (s0 s1 s2 s3 : Int) (c : ByteArray) (o1 : Bool) (e : ByteArray) (o2 : Bool) (os : List Int) (q : Bool) (n : Int), tenementlaw22_JudgeTells.ok l0 l1 a2_0 a2_1 a2_2 a2_3 a2_4 a2_5 a3_0 a3_1 a3_2 a3_3 a3_4 a4 k a b0 r s0_ wb wk wv wg s0 s1 s2 s3 c o1 e o2 os q n
 rotate_left
 ·rw [if_neg hw] at h; cases h
 rw [if_pos hw] at h
 obtain rfl := Option.some.inj h
 clear h
 obtain ⟨k, a, b0, r, s0_, wb, wk, wv, wg, s0, s1, s2, s3, c, o1, e, o2, os, q, n, hHU, hHD0, hHD1, hHL12, hHRL, hHPW, hHV, hE1, hE2, hE3, hE4, hE5, hE6, hHOL, hE7, hE8, hE9, hE10, hES⟩ := hw
 have HU := Aside0.mk hHU
 clear hHU
 have HD0 := Aside0.mk hHD0
 clear hHD0
 have HD1 := Aside0.mk hHD1
 clear hHD1
 have HL12 := Aside0.mk hHL12
 clear hHL12
 have HRL := Aside0.mk hHRL
 clear hHRL
 have HPW := Aside0.mk hHPW
 clear hHPW
 have HV := Aside0.mk hHV
 clear hHV
 have E1 := Aside0.mk hE1
 clear hE1
 have E2 := Aside0.mk hE2
 clear hE2
 have E3 := Aside0.mk hE3
 clear hE3
 have E4 := Aside0.mk hE4
 clear hE4
 have E5 := Aside0.mk hE5
 clear hE5
 have E6 := Aside0.mk hE6
 clear hE6
 have HOL := Aside0.mk hHOL
 clear hHOL
 have E7 := Aside0.mk hE7
 clear hE7
 have E8 := Aside0.mk hE8
 clear hE8
 have E9 := Aside0.mk hE9
 clear hE9
 have E10 := Aside0.mk hE10
 clear hE10
 have ES := Aside0.mk hES
 clear hES
 have HR0 := Aside0.mk hr0
 have HR1 := Aside0.mk hr1
 clear hr0 hr1
 have HZ : Aside0 (Int.tmod a4 2 = 0 ∨ ¬ Int.tmod a4 2 = 0) := ⟨by omega⟩
 obtain ⟨z, hz⟩ : ∃ z_ : Int, Int.tmod a4 2 = z_ := ⟨_, rfl⟩
 rw [hz] at HZ
 go_enter Try.func3, Try.ntmps3
 have hcase := HZ.out
 clear HZ
 rcases hcase with hz0 | hz0
 ·have zb : (z == 0) = true := beq_iff_eq.mpr hz0
  obtain ⟨l1_, hl1⟩ : ∃ l_ : Int, wrap64 ((a.length : Int) + 1) = l_ := ⟨_, rfl⟩
  have hl1w : IntKind.i64.wrap ((a.length : Int) + 1) = l1_ := (i64_w _).trans hl1
  have hl1e : l1_ = (a.length : Int) + 1 := by rw [← hl1, Go.Proofs.Ythjhkcebcgdeoaa.Pure.wrap64_id (by have := HL12.out; omega) (by have := HL12.out; omega)]
  obtain ⟨j, hj⟩ : ∃ j_ : Int, Int.tmod (wrap64 a4) l1_ = j_ := ⟨_, rfl⟩
  obtain ⟨m, hm, hml⟩ : ∃ m : Nat, j = (m : Int) ∧ m ≤ a.length := by
   have hn := HU.out
   have hlt := Int.emod_lt_of_pos a4 (show 0 < l1_ by omega)
   have hge := Int.emod_nonneg a4 (show l1_ ≠ 0 by omega)
   rw [Go.Proofs.Ythjhkcebcgdeoaa.Pure.wrap64_id (by omega) (by omega), Int.tmod_eq_emod_of_nonneg hn.1] at hj
   exact ⟨(a4 % l1_).toNat, by omega, by omega⟩
  have q0 : (l1_ == 0) = false := beq_eq_false_iff_ne.mpr (by omega)
  have q1 : ¬ l1_ = 0 := by omega
  have k0 : 0 ≤ j := by omega
  have k1 : j ≤ (a.length : Int) := by omega
  have hjm : j.toNat = m := by omega
  obtain ⟨b, hb_⟩ : ∃ y_ : List S64, y_ = a.take m := ⟨_, rfl⟩
  obtain ⟨s, hs_⟩ : ∃ y_ : List S81, y_ = r.take m := ⟨_, rfl⟩
  have lb : b.length = m := by rw [hb_, List.length_take]; omega
  have ls : s.length = m := by rw [hs_, List.length_take, HRL.out]; omega
  have HES := Aside0.mk (ES.out b s (.inr ⟨m, hml, hb_, hs_⟩))
  have HBE := Aside0.mk hb_
  have HSE := Aside0.mk hs_
  have HLB := Aside0.mk lb
  have HLS := Aside0.mk ls
  have HML := Aside0.mk hml
  clear hl1e hm hml hb_ hs_
  obtain ⟨i0, hi0, _, -, _⟩ := info_parts info64
  obtain ⟨i1, hi1, _, -, _⟩ := info_parts info81
  have hcut1 : ∀ (A12 : Option Addr) (c12 : Nat), a.length ≤ c12 → ∀ W : World, (Instr.slice 33 (.slice A12 a.length c12) none (some (.int .i64 j)) none).run Try.prog W = .ok (.slice A12 b.length c12) W := fun A12 c12 hc W => by
   have := cut_to (P := Try.prog) 33 64 .i64 Try.underlying33 hi0 A12 a.length c12 j k0 k1 hc W
   rw [hjm, ← lb] at this
   exact this
  have hcut2 : ∀ (A13 : Option Addr) (c13 : Nat), r.length ≤ c13 → ∀ W : World, (Instr.slice 34 (.slice A13 r.length c13) none (some (.int .i64 (b.length : Int))) none).run Try.prog W = .ok (.slice A13 s.length c13) W := fun A13 c13 hc W => by
   have := cut_to (P := Try.prog) 34 81 .i64 Try.underlying34 hi1 A13 r.length c13 (b.length : Int) (by omega) (by rw [HRL.out, lb]; have := HML.out; omega) hc W
   rw [Int.toNat_natCast] at this
   rw [show s.length = b.length from ls.trans lb.symm]
   exact this
  have HC1 := Aside0.mk hcut1
  have HC2 := Aside0.mk hcut2
  clear hcut1 hcut2 hi0 hi1 lb ls hjm
  replace k0 := eq_true k0
  replace k1 := eq_true k1
  have b0b : decide (0 ≤ j) = true := decide_eq_true (of_eq_true k0)
  have b1b : decide (j ≤ (a.length : Int)) = true := decide_eq_true (of_eq_true k1)
  go_wp2_with (first
    | ((with_reducible refine gate_dst (N := 7) rfl ?_); refine Ka_ 7 #[.string a2_0, .string a2_1, .string a2_2, .bool a2_3, .bool a2_4, .int .u8 a2_5] 26 ?_; intro g7 hg w1 hbox hb; have BK7 := Aside0.mk hbox; have HB := Aside0.mk hb; clear hb hbox hg)
    | ((with_reducible refine gate_dst (N := 8) rfl ?_); refine Ka_ 8 #[.int .u64 a3_0, .int .u64 a3_1, .int .u64 a3_2, .int .u64 a3_3, .bool a3_4] 31 ?_; intro g8 hg w2 hbox hb; replace BK7 := Aside0.mk (blk_below BK7.out hb); have BK8 := Aside0.mk hbox; replace HB := Aside0.mk (below_step HB.out hb); clear hb hbox hg)
    | ((with_reducible refine gate_dst (N := 29) rfl ?_); refine Kg_ (some 29) rfl rfl Try.func10 (by kernel_rfl) rfl #[] rfl ?_; (with_reducible refine (tenementlaw22_examples.calls true _ rfl).mono ?_); rintro e_ w3 ⟨rfl, hb⟩; refine ⟨_, rfl, ?_⟩; replace BK7 := Aside0.mk (blk_below BK7.out hb); replace BK8 := Aside0.mk (blk_below BK8.out hb); replace HB := Aside0.mk (below_step HB.out hb); clear hb)
    | ((with_reducible refine gate_dst (N := 34) rfl ?_); refine Kg_ (some 34) rfl rfl Try.func11 (by kernel_rfl) rfl #[.slice A0 l0.length c0] rfl ?_; (with_reducible refine (tenementlaw22_deals.calls k _ _ l0 a r _ ?s1 ?s2 HD0.out).mono ?_); (case s1 => exact Kd.C_below HR0.out HB.out); (case s2 => exact hc0); rintro e_ w4 ⟨v1_, v2_, rfl, h1, h2, hb⟩; refine ⟨_, rfl, ?_⟩; obtain ⟨A12, c12, e12⟩ := Kd.S_slice h1; obtain ⟨A13, c13, e13⟩ := Kd.S_slice h2; subst e12 e13; have HA := Aside0.mk (Kd.S_reads' h1).2.2; have LA := Aside0.mk (Kd.S_reads' h1).2.1; have HR := Aside0.mk (Kd.S_reads' h2).2.2; have LR := Aside0.mk (Kd.S_reads' h2).2.1; replace BK7 := Aside0.mk (blk_below BK7.out hb); replace BK8 := Aside0.mk (blk_below BK8.out hb); replace HB := Aside0.mk (below_step HB.out hb); clear hb h1 h2)
    | ((with_reducible refine gate_dst (N := 39) rfl ?_); refine Kg_ (some 39) rfl rfl Try.func11 (by kernel_rfl) rfl #[.slice A1 l1.length c1] rfl ?_; (with_reducible refine (tenementlaw22_deals.calls k _ _ l1 b0 s0_ _ ?s1 ?s2 HD1.out).mono ?_); (case s1 => exact Kd.C_below HR1.out HB.out); (case s2 => exact hc1); rintro e_ w5 ⟨v1_, v2_, rfl, h1, h2, hb⟩; refine ⟨_, rfl, ?_⟩; obtain ⟨A14_, c14_, e12⟩ := Kd.S_slice h1; obtain ⟨A15_, c15_, e13⟩ := Kd.S_slice h2; subst e12 e13; have HBb := Aside0.mk (Kd.S_reads' h1).2.2; have LB := Aside0.mk (Kd.S_reads' h1).2.1; have HS := Aside0.mk (Kd.S_reads' h2).2.2; have LS := Aside0.mk (Kd.S_reads' h2).2.1; replace HA := Aside0.mk (Kd.C_below HA.out hb); replace HR := Aside0.mk (Kd.C_below HR.out hb); replace BK7 := Aside0.mk (blk_below BK7.out hb); replace BK8 := Aside0.mk (blk_below BK8.out hb); replace HB := Aside0.mk (below_step HB.out hb); clear hb h1 h2; obtain ⟨A14, h_⟩ : ∃ A_, A_ = A12 := ⟨_, rfl⟩; obtain ⟨A15, h2_⟩ : ∃ A_, A_ = A13 := ⟨_, rfl⟩; obtain ⟨c14, h3_⟩ : ∃ A_, A_ = c12 := ⟨_, rfl⟩; obtain ⟨c15, h4_⟩ : ∃ A_, A_ = c13 := ⟨_, rfl⟩; have hcut1 := HC1.out A12 c12 LA.out; have hcut2 := HC2.out A13 c13 LR.out; have HBb2 : Aside0 (Kd.C k64 w5 A12 b.length b) := ⟨by rw [HBE.out]; exact Kd.C_take HA.out (by have := HML.out; omega)⟩; have HS2 : Aside0 (Kd.C k81 w5 A13 s.length s) := ⟨by rw [HSE.out]; exact Kd.C_take HR.out (by rw [HRL.out]; have := HML.out; omega)⟩; have LB2 : Aside0 (b.length ≤ c12) := ⟨by have := HLB.out; have := HML.out; have := LA.out; omega⟩; have LS2 : Aside0 (s.length ≤ c13) := ⟨by have := HLS.out; have := HML.out; have := LR.out; have := HRL.out; omega⟩; rw [← h_] at HBb2; rw [← h2_] at HS2; rw [← h3_] at LB2; rw [← h4_] at LS2; have e1_ : (Value.slice A12 b.length c12) = .slice A14 b.length c14 := (by rw [h_, h3_]); have e2_ : (Value.slice A13 s.length c13) = .slice A15 s.length c15 := (by rw [h2_, h4_]); rw [e1_] at hcut1; rw [e2_] at hcut2; clear HBb LB HS LS h_ h2_ h3_ h4_ e1_ e2_; have HBb := HBb2; have HS := HS2; have LB := LB2; have LS := LS2; clear HBb2 HS2 LB2 LS2; obtain ⟨hp0, hp1, hp2, hp3, hp4, hp5, -, -, -, -, -, -⟩ := Ke6_ BK7.out)
    | ((with_reducible refine gate_dst (N := 58) rfl ?_); refine Kg_ (some 58) rfl rfl Try.func12 (by kernel_rfl) rfl #[.agg #[.string a2_0, .string a2_1, .string a2_2, .bool a2_3, .bool a2_4, .int .u8 a2_5]] rfl ?_; (with_reducible refine (tenementlaw22_Put_write.calls a2_0 a2_1 a2_2 a2_3 a2_4 a2_5 wb wk wv wg _ HPW.out).mono ?_); rintro e_ w6 ⟨rfl, hb⟩; refine ⟨_, rfl, ?_⟩; replace HA := Aside0.mk (Kd.C_below HA.out hb); replace HR := Aside0.mk (Kd.C_below HR.out hb); replace HBb := Aside0.mk (Kd.C_below HBb.out hb); replace HS := Aside0.mk (Kd.C_below HS.out hb); replace BK8 := Aside0.mk (blk_below BK8.out hb); replace HB := Aside0.mk (below_step HB.out hb); clear hb hp0 hp1 hp2 hp3 hp4 hp5; have hv0 := (blk_cell (blk_alloc BK8.out (Obj.cells #[.string wb, .string wk, .string wv, .bool wg] 24)) 0).trans rfl; have hv1 := (blk_cell (blk_alloc BK8.out (Obj.cells #[.string wb, .string wk, .string wv, .bool wg] 24)) 1).trans rfl; have hv2 := (blk_cell (blk_alloc BK8.out (Obj.cells #[.string wb, .string wk, .string wv, .bool wg] 24)) 2).trans rfl; have hv3 := (blk_cell (blk_alloc BK8.out (Obj.cells #[.string wb, .string wk, .string wv, .bool wg] 24)) 3).trans rfl; have hv4 := (blk_cell (blk_alloc BK8.out (Obj.cells #[.string wb, .string wk, .string wv, .bool wg] 24)) 4).trans rfl)
    | ((with_reducible refine gate_dst (N := 60) rfl ?_); refine Kg_ (some 60) rfl rfl Try.func13 (by kernel_rfl) rfl #[.agg #[.int .u64 a3_0, .int .u64 a3_1, .int .u64 a3_2, .int .u64 a3_3, .bool a3_4]] rfl ?_; (with_reducible refine (tenementlaw22_Vector_vector.calls k a3_0 a3_1 a3_2 a3_3 a3_4 s0 s1 s2 s3 _ HV.out).mono ?_); rintro e_ w7 ⟨rfl, hb1⟩; refine ⟨_, rfl, ?_⟩; have hb := below_step (below_alloc (Below.refl _ _) _) hb1; replace HA := Aside0.mk (Kd.C_below HA.out hb); replace HR := Aside0.mk (Kd.C_below HR.out hb); replace HBb := Aside0.mk (Kd.C_below HBb.out hb); replace HS := Aside0.mk (Kd.C_below HS.out hb); replace HB := Aside0.mk (below_step HB.out hb); have BKw := Aside0.mk (blk_below (blk_new w6 _) hb1); clear hb hb1 hv0 hv1 hv2 hv3 hv4; generalize w6.heap.size = g16 at BKw ⊢; obtain ⟨wa0, wa1, wa2, wa3, -, -, -, -⟩ := Go.Proofs.Ythjhkcebcgdeoaa.Jud.cells4 (blk_alloc BKw.out (Obj.cells #[.int .u64 s0, .int .u64 s1, .int .u64 s2, .int .u64 s3] 29)))
    | ((with_reducible refine gate_dst (N := 68) rfl ?_); refine Kg_ (some 68) rfl rfl Try.func14 (by kernel_rfl) rfl #[.slice A12 a.length c12, .string wb, .string wk, .agg #[.int .u64 s0, .int .u64 s1, .int .u64 s2, .int .u64 s3]] rfl ?_; (with_reducible refine (judge_Read.calls A12 c12 a wb wk s0 s1 s2 s3 c o1 _ ?s1 LA.out E1.out).mono ?_); (case s1 => exact Kd.C_alloc HA.out _); rintro e_ w8 ⟨rfl, hb1⟩; refine ⟨_, rfl, ?_⟩; have hb := below_step (below_alloc (Below.refl _ _) _) hb1; have BKv := Aside0.mk (blk_below (blk_new w7 _) hb1); replace BKw := Aside0.mk (blk_below BKw.out hb); replace HA := Aside0.mk (Kd.C_below HA.out hb); replace HR := Aside0.mk (Kd.C_below HR.out hb); replace HBb := Aside0.mk (Kd.C_below HBb.out hb); replace HS := Aside0.mk (Kd.C_below HS.out hb); replace HB := Aside0.mk (below_step HB.out hb); clear hb hb1; generalize w7.heap.size = g17 at BKv ⊢; (try clear wa0 wa1 wa2 wa3); (try clear va0 va1 va2 va3); obtain ⟨wa0, wa1, wa2, wa3, -, -, -, -⟩ := Go.Proofs.Ythjhkcebcgdeoaa.Jud.cells4 BKw.out; obtain ⟨va0, va1, va2, va3, -, -, -, -⟩ := Go.Proofs.Ythjhkcebcgdeoaa.Jud.cells4 BKv.out)
    | ((with_reducible refine gate_dst (N := 78) rfl ?_); refine Kg_ (some 78) rfl rfl Try.func15 (by kernel_rfl) rfl #[.slice A13 r.length c13, .string wb, .string wk, .agg #[.int .u64 s0, .int .u64 s1, .int .u64 s2, .int .u64 s3]] rfl ?_; (with_reducible refine (tenementref22_Read.calls k A13 c13 r wb wk s0 s1 s2 s3 c o1 _ ?s1 LR.out E2.out).mono ?_); (case s1 => exact HR.out); rintro e_ w9 ⟨rfl, hb1⟩; refine ⟨_, rfl, ?_⟩; have hb := hb1; replace HA := Aside0.mk (Kd.C_below HA.out hb); replace HR := Aside0.mk (Kd.C_below HR.out hb); replace HBb := Aside0.mk (Kd.C_below HBb.out hb); replace HS := Aside0.mk (Kd.C_below HS.out hb); replace BKw := Aside0.mk (blk_below BKw.out hb); replace BKv := Aside0.mk (blk_below BKv.out hb); replace HB := Aside0.mk (below_step HB.out hb); clear hb hb1; (try clear wa0 wa1 wa2 wa3); (try clear va0 va1 va2 va3); obtain ⟨wa0, wa1, wa2, wa3, -, -, -, -⟩ := Go.Proofs.Ythjhkcebcgdeoaa.Jud.cells4 BKw.out; obtain ⟨va0, va1, va2, va3, -, -, -, -⟩ := Go.Proofs.Ythjhkcebcgdeoaa.Jud.cells4 BKv.out)
    | ((with_reducible refine gate_dst (N := 87) rfl ?_); refine Kg_ (some 87) rfl rfl Try.func16 (by kernel_rfl) rfl #[.slice A12 a.length c12, .string wb, .string wk] rfl ?_; (with_reducible refine (judge_Last.calls A12 c12 a wb wk e o2 _ ?s1 LA.out E3.out).mono ?_); (case s1 => exact HA.out); rintro e_ w10 ⟨rfl, hb1⟩; refine ⟨_, rfl, ?_⟩; have hb := hb1; replace HA := Aside0.mk (Kd.C_below HA.out hb); replace HR := Aside0.mk (Kd.C_below HR.out hb); replace HBb := Aside0.mk (Kd.C_below HBb.out hb); replace HS := Aside0.mk (Kd.C_below HS.out hb); replace BKw := Aside0.mk (blk_below BKw.out hb); replace BKv := Aside0.mk (blk_below BKv.out hb); replace HB := Aside0.mk (below_step HB.out hb); clear hb hb1; (try clear wa0 wa1 wa2 wa3); (try clear va0 va1 va2 va3); obtain ⟨wa0, wa1, wa2, wa3, -, -, -, -⟩ := Go.Proofs.Ythjhkcebcgdeoaa.Jud.cells4 BKw.out; obtain ⟨va0, va1, va2, va3, -, -, -, -⟩ := Go.Proofs.Ythjhkcebcgdeoaa.Jud.cells4 BKv.out)
    | ((with_reducible refine gate_dst (N := 96) rfl ?_); refine Kg_ (some 96) rfl rfl Try.func17 (by kernel_rfl) rfl #[.slice A13 r.length c13, .string wb, .string wk] rfl ?_; (with_reducible refine (tenementref22_Last.calls k A13 c13 r wb wk e o2 _ ?s1 LR.out E4.out).mono ?_); (case s1 => exact HR.out); rintro e_ w11 ⟨rfl, hb1⟩; refine ⟨_, rfl, ?_⟩; have hb := hb1; replace HA := Aside0.mk (Kd.C_below HA.out hb); replace HR := Aside0.mk (Kd.C_below HR.out hb); replace HBb := Aside0.mk (Kd.C_below HBb.out hb); replace HS := Aside0.mk (Kd.C_below HS.out hb); replace BKw := Aside0.mk (blk_below BKw.out hb); replace BKv := Aside0.mk (blk_below BKv.out hb); replace HB := Aside0.mk (below_step HB.out hb); clear hb hb1; (try clear wa0 wa1 wa2 wa3); (try clear va0 va1 va2 va3); obtain ⟨wa0, wa1, wa2, wa3, -, -, -, -⟩ := Go.Proofs.Ythjhkcebcgdeoaa.Jud.cells4 BKw.out; obtain ⟨va0, va1, va2, va3, -, -, -, -⟩ := Go.Proofs.Ythjhkcebcgdeoaa.Jud.cells4 BKv.out)
    | ((with_reducible refine gate_dst (N := 100) rfl ?_); refine Kg_ (some 100) rfl rfl Try.func18 (by kernel_rfl) rfl #[.slice A12 a.length c12] rfl ?_; (with_reducible refine (judge_Order.calls A12 c12 a os _ ?s1 LA.out E5.out).mono ?_); (case s1 => exact HA.out); rintro e_ w12 ⟨vo_, rfl, hR, hb⟩; refine ⟨_, rfl, ?_⟩; obtain ⟨Ao, co, eo⟩ := Kd.R_slice hR; subst eo; have HO := Aside0.mk (Kd.R_reads' hR).2.2; replace HA := Aside0.mk (Kd.C_below HA.out hb); replace HR := Aside0.mk (Kd.C_below HR.out hb); replace HBb := Aside0.mk (Kd.C_below HBb.out hb); replace HS := Aside0.mk (Kd.C_below HS.out hb); replace BKw := Aside0.mk (blk_below BKw.out hb); replace BKv := Aside0.mk (blk_below BKv.out hb); replace HB := Aside0.mk (below_step HB.out hb); clear hb hR; (try clear wa0 wa1 wa2 wa3); (try clear va0 va1 va2 va3))
    | ((with_reducible refine gate_dst (N := 102) rfl ?_); refine Kg_ (some 102) rfl rfl Try.func19 (by kernel_rfl) rfl #[.slice A13 r.length c13] rfl ?_; (with_reducible refine (tenementref22_Order.calls k A13 c13 r os _ ?s1 LR.out E6.out).mono ?_); (case s1 => exact HR.out); rintro e_ w13 ⟨vo_, rfl, hR, hb⟩; refine ⟨_, rfl, ?_⟩; obtain ⟨Aq, cq, eo⟩ := Kd.R_slice hR; subst eo; have HQ := Aside0.mk (Kd.R_reads' hR).2.2; replace HA := Aside0.mk (Kd.C_below HA.out hb); replace HR := Aside0.mk (Kd.C_below HR.out hb); replace HBb := Aside0.mk (Kd.C_below HBb.out hb); replace HS := Aside0.mk (Kd.C_below HS.out hb); replace HO := Aside0.mk (Kd.C_below HO.out hb); replace BKw := Aside0.mk (blk_below BKw.out hb); replace BKv := Aside0.mk (blk_below BKv.out hb); replace HB := Aside0.mk (below_step HB.out hb); clear hb hR; (try clear wa0 wa1 wa2 wa3); (try clear va0 va1 va2 va3)))
  try go_frame
  go_loopg [28] os.length (fun kq v28 wr => ∃ (j : Int), v28 = .int .i64 j ∧ Aside0 (0 ≤ j ∧ j ≤ (os.length : Int)) ∧ Aside0 (((os.length : Int) - j).toNat ≤ kq) ∧ Aside0 (Kd.C k64 wr A12 a.length a) ∧ Aside0 (Kd.C k81 wr A13 r.length r) ∧ Aside0 (Kd.C k64 wr A14 b.length b) ∧ Aside0 (Kd.C k81 wr A15 s.length s) ∧ Aside0 (Kd.C (Kd.int .i64) wr Ao os.length os) ∧ Aside0 (Kd.C (Kd.int .i64) wr Aq os.length os) ∧ Aside0 (wr.heap[g17]? = some (.cells #[.int .u64 s0, .int .u64 s1, .int .u64 s2, .int .u64 s3] 29 (0, 0))) ∧ Aside0 (Below w.heap.size w wr))
  case atStart => exact ⟨0, rfl, ⟨by omega, by omega⟩, ⟨by omega⟩, HA, HR, HBb, HS, HO, HQ, BKv, HB⟩
  case round =>
   clear HA HR HBb HS HO HQ BKv BKw HB
   obtain ⟨j, rfl, HJ, HK, HA, HR, HBb, HS, HO, HQ, BKv, HB⟩ := hrel
   by_cases d1 : j < (os.length : Int)
   ·have hJ := HJ.out
    have d0 : 0 ≤ j := hJ.1
    have d1b : decide (j < (os.length : Int)) = true := decide_eq_true d1
    have D0 := Aside0.mk d0
    have D1 := Aside0.mk d1
    replace d0 := eq_true d0
    replace d1 := eq_true d1
    clear hJ
    go_wp2
    replace HA := Aside0.mk (Kd.C_drew HA.out)
    replace HR := Aside0.mk (Kd.C_drew HR.out)
    replace HBb := Aside0.mk (Kd.C_drew HBb.out)
    replace HS := Aside0.mk (Kd.C_drew HS.out)
    replace HO := Aside0.mk (Kd.C_drew HO.out)
    replace HQ := Aside0.mk (Kd.C_drew HQ.out)
    replace BKv := Aside0.mk (blk_drew BKv.out)
    replace HB := Aside0.mk (below_drew1 HB.out)
    obtain ⟨ao, e1, ha⟩ := Kd.at_int HO.out j D0.out D1.out
    cases e1
    obtain ⟨aq, e1, hq⟩ := Kd.at_int HQ.out j D0.out D1.out
    cases e1
    generalize rd os j = x at ha hq
    refine start_ (n := 9) (S := fun w' => w'.cell? (ao.add j.toNat) = some (.int .i64 x) ∧ w'.cell? (aq.add j.toNat) = some (.int .i64 x)) (ds := []) (mB_ 9 0) (by kernel_rfl) rfl rfl ⟨ha, hq⟩ (fun hHeld => ?_)
    clear ha hq
    generalize wr.drew = wx at HA HR HBb HS HO HQ BKv HB hHeld ⊢
    refine Kp_ 0 114 (mB_ 9 1) (by kernel_rfl) ?_
    refine Kp_ 1 115 (mB_ 9 3) (by kernel_rfl) ?_
    refine Kp_ 2 116 (mB_ 9 7) (by kernel_rfl) ?_
    refine Kp_ 4 118 (mB_ 9 23) (by kernel_rfl) ?_
    refine Kp_ 5 119 (mB_ 9 55) (by kernel_rfl) ?_
    refine Kp_ 6 120 (mB_ 9 119) (by kernel_rfl) ?_
    refine Ko_ 3 117 (mB_ 9 127) (by kernel_rfl) hHeld ?_
    refine Ko_ 7 121 (mB_ 9 255) (by kernel_rfl) hHeld ?_
    refine Kp_ 8 122 (mB_ 9 511) (by kernel_rfl) ?_
    refine done_ (by kernel_rfl) ?_
    clear hHeld
    go_wp2
    have hjw : wrap64 (j + 1) = j + 1 := Go.Proofs.Ythjhkcebcgdeoaa.Pure.wrap64_id (by have := HJ.out; omega) (by have := D1.out; have := HOL.out; omega)
    go_roundg (((os.length : Int) - (j + 1)).toNat)
    case measure => have := HK.out; have := D1.out; omega
    case rel => exact ⟨j + 1, by first | rfl | (rw [hjw]) | simp [hjw], ⟨by have := HJ.out; omega, by have := D1.out; omega⟩, ⟨by have := HK.out; omega⟩, HA, HR, HBb, HS, HO, HQ, BKv, HB⟩
   ·have d1b : decide (j < (os.length : Int)) = false := decide_eq_false d1
    obtain ⟨p1, p2, ep1, ep2, ep3, ep4⟩ := HES.out
    have EP1 := Aside0.mk ep1
    have EP2 := Aside0.mk ep2
    have EP3 := Aside0.mk ep3
    have EP4 := Aside0.mk ep4
    clear ep1 ep2 ep3 ep4 HO HQ
    go_wp2
    replace HA := Aside0.mk (Kd.C_drew HA.out)
    replace HR := Aside0.mk (Kd.C_drew HR.out)
    replace HBb := Aside0.mk (Kd.C_drew HBb.out)
    replace HS := Aside0.mk (Kd.C_drew HS.out)
    replace BKv := Aside0.mk (blk_drew BKv.out)
    replace HB := Aside0.mk (below_drew1 HB.out)
    refine start_ (n := 56) (S := fun w' => w'.cell? ⟨g17, 0, none⟩ = some (.int .u64 s0) ∧ w'.cell? ⟨g17, 1, none⟩ = some (.int .u64 s1) ∧ w'.cell? ⟨g17, 2, none⟩ = some (.int .u64 s2) ∧ w'.cell? ⟨g17, 3, none⟩ = some (.int .u64 s3)) (ds := []) (mB_ 56 0) (by kernel_rfl) rfl rfl ⟨(blk_cell BKv.out 0).trans rfl, (blk_cell BKv.out 1).trans rfl, (blk_cell BKv.out 2).trans rfl, (blk_cell BKv.out 3).trans rfl⟩ (fun hHeld => ?_)
    generalize wr.drew = wx at HA HR HBb HS BKv HB hHeld ⊢
    refine Kp_ 0 123 (mB_ 56 1) (by kernel_rfl) ?_
    refine Kp_ 1 124 (mB_ 56 3) (by kernel_rfl) ?_
    refine Kp_ 2 125 (mB_ 56 7) (by kernel_rfl) ?_
    refine Kp_ 3 126 (mB_ 56 15) (by kernel_rfl) ?_
    refine Kp_ 4 127 (mB_ 56 31) (by kernel_rfl) ?_
    refine Kp_ 5 128 (mB_ 56 63) (by kernel_rfl) ?_
    refine Kp_ 6 129 (mB_ 56 127) (by kernel_rfl) ?_
    refine Kp_ 7 130 (mB_ 56 255) (by kernel_rfl) ?_
    refine Kp_ 8 131 (mB_ 56 511) (by kernel_rfl) ?_
    refine Kp_ 9 132 (mB_ 56 1023) (by kernel_rfl) ?_
    refine Kp_ 10 133 (mB_ 56 2047) (by kernel_rfl) ?_
    refine Kp_ 11 134 (mB_ 56 4095) (by kernel_rfl) ?_
    refine Kp_ 12 135 (mB_ 56 8191) (by kernel_rfl) ?_
    refine Kp_ 13 136 (mB_ 56 16383) (by kernel_rfl) ?_
    refine Kp_ 14 137 (mB_ 56 32767) (by kernel_rfl) ?_
    refine Kp_ 15 138 (mB_ 56 65535) (by kernel_rfl) ?_
    refine Kp_ 16 139 (mB_ 56 131071) (by kernel_rfl) ?_
    refine Kp_ 17 140 (mB_ 56 262143) (by kernel_rfl) ?_
    refine Kp_ 18 141 (mB_ 56 524287) (by kernel_rfl) ?_
    refine Kp_ 19 142 (mB_ 56 1048575) (by kernel_rfl) ?_
    refine Kp_ 20 143 (mB_ 56 2097151) (by kernel_rfl) ?_
    refine Kp_ 21 144 (mB_ 56 4194303) (by kernel_rfl) ?_
    refine Kp_ 22 145 (mB_ 56 8388607) (by kernel_rfl) ?_
    refine Kp_ 25 148 (mB_ 56 41943039) (by kernel_rfl) ?_
    refine Ko_ 23 146 (mB_ 56 50331647) (by kernel_rfl) hHeld ?_
    refine Ko_ 26 149 (mB_ 56 117440511) (by kernel_rfl) hHeld ?_
    refine one_ (i := 24) (N := some 147) (mB_ 56 134217727) rfl rfl (by kernel_rfl) (by decide) (fun K hK => ?_)
    refine goes_ Try.func20 (by kernel_rfl) rfl #[.slice A12 a.length c12, .agg #[.int .u64 s0, .int .u64 s1, .int .u64 s2, .int .u64 s3]] (by rfl) rfl rfl (by (try simp only [List.map_toArray, List.map_cons, List.map_nil]); first | done | rfl) ?_
    refine (judge_Closed.calls A12 c12 a s0 s1 s2 s3 q _ ?s1 LA.out E7.out).mono ?_
    (case s1 => exact HA.out)
    rintro e_ wy ⟨rfl, hb⟩
    refine ⟨_, rfl, ?_⟩
    replace HA := Aside0.mk (Kd.C_below HA.out hb)
    replace HR := Aside0.mk (Kd.C_below HR.out hb)
    replace HBb := Aside0.mk (Kd.C_below HBb.out hb)
    replace HS := Aside0.mk (Kd.C_below HS.out hb)
    replace BKv := Aside0.mk (blk_below BKv.out hb)
    replace HB := Aside0.mk (below_step HB.out hb)
    clear hb
    refine hK.out _ _ ⟨(blk_cell BKv.out 0).trans rfl, (blk_cell BKv.out 1).trans rfl, (blk_cell BKv.out 2).trans rfl, (blk_cell BKv.out 3).trans rfl⟩ (fun hHeld => ?_)
    clear hK K
    refine Kn_ 147 ?_
    refine one_ (i := 27) (N := some 150) (mB_ 56 268435455) rfl rfl (by kernel_rfl) (by decide) (fun K hK => ?_)
    refine goes_ Try.func21 (by kernel_rfl) rfl #[.slice A13 r.length c13, .agg #[.int .u64 s0, .int .u64 s1, .int .u64 s2, .int .u64 s3]] (by rfl) rfl rfl (by (try simp only [List.map_toArray, List.map_cons, List.map_nil]); first | done | rfl) ?_
    refine (tenementref22_Closed.calls k A13 c13 r s0 s1 s2 s3 q _ ?s1 LR.out E8.out).mono ?_
    (case s1 => exact HR.out)
    rintro e_ wy ⟨rfl, hb⟩
    refine ⟨_, rfl, ?_⟩
    replace HA := Aside0.mk (Kd.C_below HA.out hb)
    replace HR := Aside0.mk (Kd.C_below HR.out hb)
    replace HBb := Aside0.mk (Kd.C_below HBb.out hb)
    replace HS := Aside0.mk (Kd.C_below HS.out hb)
    replace BKv := Aside0.mk (blk_below BKv.out hb)
    replace HB := Aside0.mk (below_step HB.out hb)
    clear hb
    refine hK.out _ _ ⟨(blk_cell BKv.out 0).trans rfl, (blk_cell BKv.out 1).trans rfl, (blk_cell BKv.out 2).trans rfl, (blk_cell BKv.out 3).trans rfl⟩ (fun hHeld => ?_)
    clear hK K
    refine Kn_ 150 ?_
    refine Kp_ 28 151 (mB_ 56 536870911) (by kernel_rfl) ?_
    refine Kp_ 29 152 (mB_ 56 1073741823) (by kernel_rfl) ?_
    refine Kp_ 30 153 (mB_ 56 2147483647) (by kernel_rfl) ?_
    refine Kp_ 31 154 (mB_ 56 4294967295) (by kernel_rfl) ?_
    refine Kp_ 33 156 (mB_ 56 12884901887) (by kernel_rfl) ?_
    refine one_ (i := 32) (N := some 155) (mB_ 56 17179869183) rfl rfl (by kernel_rfl) (by decide) (fun K hK => ?_)
    refine goes_ Try.func22 (by kernel_rfl) rfl #[.slice A12 a.length c12] (by rfl) rfl rfl (by (try simp only [List.map_toArray, List.map_cons, List.map_nil]); first | done | rfl) ?_
    refine (judge_Live.calls A12 c12 a n _ ?s1 LA.out E9.out).mono ?_
    (case s1 => exact HA.out)
    rintro e_ wy ⟨rfl, hb⟩
    refine ⟨_, rfl, ?_⟩
    replace HA := Aside0.mk (Kd.C_below HA.out hb)
    replace HR := Aside0.mk (Kd.C_below HR.out hb)
    replace HBb := Aside0.mk (Kd.C_below HBb.out hb)
    replace HS := Aside0.mk (Kd.C_below HS.out hb)
    replace BKv := Aside0.mk (blk_below BKv.out hb)
    replace HB := Aside0.mk (below_step HB.out hb)
    clear hb
    refine hK.out _ _ ⟨(blk_cell BKv.out 0).trans rfl, (blk_cell BKv.out 1).trans rfl, (blk_cell BKv.out 2).trans rfl, (blk_cell BKv.out 3).trans rfl⟩ (fun hHeld => ?_)
    clear hK K
    refine Kn_ 155 ?_
    refine one_ (i := 34) (N := some 157) (mB_ 56 34359738367) rfl rfl (by kernel_rfl) (by decide) (fun K hK => ?_)
    refine goes_ Try.func23 (by kernel_rfl) rfl #[.slice A13 r.length c13] (by rfl) rfl rfl (by (try simp only [List.map_toArray, List.map_cons, List.map_nil]); first | done | rfl) ?_
    refine (tenementref22_Live.calls k A13 c13 r n _ ?s1 LR.out E10.out).mono ?_
    (case s1 => exact HR.out)
    rintro e_ wy ⟨rfl, hb⟩
    refine ⟨_, rfl, ?_⟩
    replace HA := Aside0.mk (Kd.C_below HA.out hb)
    replace HR := Aside0.mk (Kd.C_below HR.out hb)
    replace HBb := Aside0.mk (Kd.C_below HBb.out hb)
    replace HS := Aside0.mk (Kd.C_below HS.out hb)
    replace BKv := Aside0.mk (blk_below BKv.out hb)
    replace HB := Aside0.mk (below_step HB.out hb)
    clear hb
    refine hK.out _ _ ⟨(blk_cell BKv.out 0).trans rfl, (blk_cell BKv.out 1).trans rfl, (blk_cell BKv.out 2).trans rfl, (blk_cell BKv.out 3).trans rfl⟩ (fun hHeld => ?_)
    clear hK K
    refine Kn_ 157 ?_
    refine Kp_ 35 158 (mB_ 56 68719476735) (by kernel_rfl) ?_
    refine Kp_ 36 159 (mB_ 56 137438953471) (by kernel_rfl) ?_
    refine Kp_ 37 160 (mB_ 56 274877906943) (by kernel_rfl) ?_
    refine Kp_ 38 161 (mB_ 56 549755813887) (by kernel_rfl) ?_
    refine Kp_ 39 162 (mB_ 56 1099511627775) (by kernel_rfl) ?_
    refine Kp_ 41 164 (mB_ 56 3298534883327) (by kernel_rfl) ?_
    refine Kp_ 42 165 (mB_ 56 7696581394431) (by kernel_rfl) ?_
    refine one_ (i := 40) (N := some 163) (mB_ 56 8796093022207) rfl rfl (by kernel_rfl) (by decide) (fun K hK => ?_)
    refine goes_ Try.func24 (by kernel_rfl) rfl #[.slice A12 a.length c12, .slice A14 b.length c14] (by rfl) rfl rfl (by (try simp only [List.map_toArray, List.map_cons, List.map_nil]); first | done | rfl) ?_
    refine (judge_Subset.calls A12 c12 a A14 c14 b p1 _ ?s1 LA.out ?s3 LB.out EP1.out).mono ?_
    (case s1 => exact HA.out)
    (case s3 => exact HBb.out)
    rintro e_ wy ⟨rfl, hb⟩
    refine ⟨_, rfl, ?_⟩
    replace HA := Aside0.mk (Kd.C_below HA.out hb)
    replace HR := Aside0.mk (Kd.C_below HR.out hb)
    replace HBb := Aside0.mk (Kd.C_below HBb.out hb)
    replace HS := Aside0.mk (Kd.C_below HS.out hb)
    replace BKv := Aside0.mk (blk_below BKv.out hb)
    replace HB := Aside0.mk (below_step HB.out hb)
    clear hb
    refine hK.out _ _ ⟨(blk_cell BKv.out 0).trans rfl, (blk_cell BKv.out 1).trans rfl, (blk_cell BKv.out 2).trans rfl, (blk_cell BKv.out 3).trans rfl⟩ (fun hHeld => ?_)
    clear hK K
    refine Kn_ 163 ?_
    refine one_ (i := 43) (N := some 166) (mB_ 56 17592186044415) rfl rfl (by kernel_rfl) (by decide) (fun K hK => ?_)
    refine goes_ Try.func25 (by kernel_rfl) rfl #[.slice A13 r.length c13, .slice A15 s.length c15] (by rfl) rfl rfl (by (try simp only [List.map_toArray, List.map_cons, List.map_nil]); first | done | rfl) ?_
    refine (tenementref22_Subset.calls k A13 c13 r A15 c15 s p1 _ ?s1 LR.out ?s3 LS.out EP2.out).mono ?_
    (case s1 => exact HR.out)
    (case s3 => exact HS.out)
    rintro e_ wy ⟨rfl, hb⟩
    refine ⟨_, rfl, ?_⟩
    replace HA := Aside0.mk (Kd.C_below HA.out hb)
    replace HR := Aside0.mk (Kd.C_below HR.out hb)
    replace HBb := Aside0.mk (Kd.C_below HBb.out hb)
    replace HS := Aside0.mk (Kd.C_below HS.out hb)
    replace BKv := Aside0.mk (blk_below BKv.out hb)
    replace HB := Aside0.mk (below_step HB.out hb)
    clear hb
    refine hK.out _ _ ⟨(blk_cell BKv.out 0).trans rfl, (blk_cell BKv.out 1).trans rfl, (blk_cell BKv.out 2).trans rfl, (blk_cell BKv.out 3).trans rfl⟩ (fun hHeld => ?_)
    clear hK K
    refine Kn_ 166 ?_
    refine Kp_ 44 167 (mB_ 56 35184372088831) (by kernel_rfl) ?_
    refine Kp_ 45 168 (mB_ 56 70368744177663) (by kernel_rfl) ?_
    refine Kp_ 46 169 (mB_ 56 140737488355327) (by kernel_rfl) ?_
    refine Kp_ 47 170 (mB_ 56 281474976710655) (by kernel_rfl) ?_
    refine Kp_ 48 171 (mB_ 56 562949953421311) (by kernel_rfl) ?_
    refine Kp_ 50 173 (mB_ 56 1688849860263935) (by kernel_rfl) ?_
    refine Kp_ 51 174 (mB_ 56 3940649673949183) (by kernel_rfl) ?_
    refine one_ (i := 49) (N := some 172) (mB_ 56 4503599627370495) rfl rfl (by kernel_rfl) (by decide) (fun K hK => ?_)
    refine goes_ Try.func24 (by kernel_rfl) rfl #[.slice A14 b.length c14, .slice A12 a.length c12] (by rfl) rfl rfl (by (try simp only [List.map_toArray, List.map_cons, List.map_nil]); first | done | rfl) ?_
    refine (judge_Subset.calls A14 c14 b A12 c12 a p2 _ ?s1 LB.out ?s3 LA.out EP3.out).mono ?_
    (case s1 => exact HBb.out)
    (case s3 => exact HA.out)
    rintro e_ wy ⟨rfl, hb⟩
    refine ⟨_, rfl, ?_⟩
    replace HA := Aside0.mk (Kd.C_below HA.out hb)
    replace HR := Aside0.mk (Kd.C_below HR.out hb)
    replace HBb := Aside0.mk (Kd.C_below HBb.out hb)
    replace HS := Aside0.mk (Kd.C_below HS.out hb)
    replace BKv := Aside0.mk (blk_below BKv.out hb)
    replace HB := Aside0.mk (below_step HB.out hb)
    clear hb
    refine hK.out _ _ ⟨(blk_cell BKv.out 0).trans rfl, (blk_cell BKv.out 1).trans rfl, (blk_cell BKv.out 2).trans rfl, (blk_cell BKv.out 3).trans rfl⟩ (fun hHeld => ?_)
    clear hK K
    refine Kn_ 172 ?_
    refine one_ (i := 52) (N := some 175) (mB_ 56 9007199254740991) rfl rfl (by kernel_rfl) (by decide) (fun K hK => ?_)
    refine goes_ Try.func25 (by kernel_rfl) rfl #[.slice A15 s.length c15, .slice A13 r.length c13] (by rfl) rfl rfl (by (try simp only [List.map_toArray, List.map_cons, List.map_nil]); first | done | rfl) ?_
    refine (tenementref22_Subset.calls k A15 c15 s A13 c13 r p2 _ ?s1 LS.out ?s3 LR.out EP4.out).mono ?_
    (case s1 => exact HS.out)
    (case s3 => exact HR.out)
    rintro e_ wy ⟨rfl, hb⟩
    refine ⟨_, rfl, ?_⟩
    replace HA := Aside0.mk (Kd.C_below HA.out hb)
    replace HR := Aside0.mk (Kd.C_below HR.out hb)
    replace HBb := Aside0.mk (Kd.C_below HBb.out hb)
    replace HS := Aside0.mk (Kd.C_below HS.out hb)
    replace BKv := Aside0.mk (blk_below BKv.out hb)
    replace HB := Aside0.mk (below_step HB.out hb)
    clear hb
    refine hK.out _ _ ⟨(blk_cell BKv.out 0).trans rfl, (blk_cell BKv.out 1).trans rfl, (blk_cell BKv.out 2).trans rfl, (blk_cell BKv.out 3).trans rfl⟩ (fun hHeld => ?_)
    clear hK K
    refine Kn_ 175 ?_
    refine Kp_ 53 176 (mB_ 56 18014398509481983) (by kernel_rfl) ?_
    refine Kp_ 54 177 (mB_ 56 36028797018963967) (by kernel_rfl) ?_
    refine Kp_ 55 10 (mB_ 56 72057594037927935) (by kernel_rfl) ?_
    refine done_ (by kernel_rfl) ?_
    go_wp2
    go_ret
    exact ⟨by first | rfl | simp, HB.out⟩
 ·have zb : (z == 0) = false := beq_eq_false_iff_ne.mpr hz0
  have HES := Aside0.mk (ES.out b0 s0_ (.inl ⟨rfl, rfl⟩))
  go_wp2_with (first
    | ((with_reducible refine gate_dst (N := 7) rfl ?_); refine Ka_ 7 #[.string a2_0, .string a2_1, .string a2_2, .bool a2_3, .bool a2_4, .int .u8 a2_5] 26 ?_; intro g7 hg w1 hbox hb; have BK7 := Aside0.mk hbox; have HB := Aside0.mk hb; clear hb hbox hg)
    | ((with_reducible refine gate_dst (N := 8) rfl ?_); refine Ka_ 8 #[.int .u64 a3_0, .int .u64 a3_1, .int .u64 a3_2, .int .u64 a3_3, .bool a3_4] 31 ?_; intro g8 hg w2 hbox hb; replace BK7 := Aside0.mk (blk_below BK7.out hb); have BK8 := Aside0.mk hbox; replace HB := Aside0.mk (below_step HB.out hb); clear hb hbox hg)
    | ((with_reducible refine gate_dst (N := 29) rfl ?_); refine Kg_ (some 29) rfl rfl Try.func10 (by kernel_rfl) rfl #[] rfl ?_; (with_reducible refine (tenementlaw22_examples.calls true _ rfl).mono ?_); rintro e_ w3 ⟨rfl, hb⟩; refine ⟨_, rfl, ?_⟩; replace BK7 := Aside0.mk (blk_below BK7.out hb); replace BK8 := Aside0.mk (blk_below BK8.out hb); replace HB := Aside0.mk (below_step HB.out hb); clear hb)
    | ((with_reducible refine gate_dst (N := 34) rfl ?_); refine Kg_ (some 34) rfl rfl Try.func11 (by kernel_rfl) rfl #[.slice A0 l0.length c0] rfl ?_; (with_reducible refine (tenementlaw22_deals.calls k _ _ l0 a r _ ?s1 ?s2 HD0.out).mono ?_); (case s1 => exact Kd.C_below HR0.out HB.out); (case s2 => exact hc0); rintro e_ w4 ⟨v1_, v2_, rfl, h1, h2, hb⟩; refine ⟨_, rfl, ?_⟩; obtain ⟨A12, c12, e12⟩ := Kd.S_slice h1; obtain ⟨A13, c13, e13⟩ := Kd.S_slice h2; subst e12 e13; have HA := Aside0.mk (Kd.S_reads' h1).2.2; have LA := Aside0.mk (Kd.S_reads' h1).2.1; have HR := Aside0.mk (Kd.S_reads' h2).2.2; have LR := Aside0.mk (Kd.S_reads' h2).2.1; replace BK7 := Aside0.mk (blk_below BK7.out hb); replace BK8 := Aside0.mk (blk_below BK8.out hb); replace HB := Aside0.mk (below_step HB.out hb); clear hb h1 h2)
    | ((with_reducible refine gate_dst (N := 39) rfl ?_); refine Kg_ (some 39) rfl rfl Try.func11 (by kernel_rfl) rfl #[.slice A1 l1.length c1] rfl ?_; (with_reducible refine (tenementlaw22_deals.calls k _ _ l1 b0 s0_ _ ?s1 ?s2 HD1.out).mono ?_); (case s1 => exact Kd.C_below HR1.out HB.out); (case s2 => exact hc1); rintro e_ w5 ⟨v1_, v2_, rfl, h1, h2, hb⟩; refine ⟨_, rfl, ?_⟩; obtain ⟨A14_, c14_, e12⟩ := Kd.S_slice h1; obtain ⟨A15_, c15_, e13⟩ := Kd.S_slice h2; subst e12 e13; have HBb := Aside0.mk (Kd.S_reads' h1).2.2; have LB := Aside0.mk (Kd.S_reads' h1).2.1; have HS := Aside0.mk (Kd.S_reads' h2).2.2; have LS := Aside0.mk (Kd.S_reads' h2).2.1; replace HA := Aside0.mk (Kd.C_below HA.out hb); replace HR := Aside0.mk (Kd.C_below HR.out hb); replace BK7 := Aside0.mk (blk_below BK7.out hb); replace BK8 := Aside0.mk (blk_below BK8.out hb); replace HB := Aside0.mk (below_step HB.out hb); clear hb h1 h2; obtain ⟨A14, h_⟩ : ∃ A_, A_ = A14_ := ⟨_, rfl⟩; subst h_; obtain ⟨A15, h_⟩ : ∃ A_, A_ = A15_ := ⟨_, rfl⟩; subst h_; obtain ⟨c14, h_⟩ : ∃ A_, A_ = c14_ := ⟨_, rfl⟩; subst h_; obtain ⟨c15, h_⟩ : ∃ A_, A_ = c15_ := ⟨_, rfl⟩; subst h_; obtain ⟨b, h_⟩ : ∃ y_ : List S64, y_ = b0 := ⟨_, rfl⟩; subst h_; obtain ⟨s, h_⟩ : ∃ y_ : List S81, y_ = s0_ := ⟨_, rfl⟩; subst h_; obtain ⟨hp0, hp1, hp2, hp3, hp4, hp5, -, -, -, -, -, -⟩ := Ke6_ BK7.out)
    | ((with_reducible refine gate_dst (N := 58) rfl ?_); refine Kg_ (some 58) rfl rfl Try.func12 (by kernel_rfl) rfl #[.agg #[.string a2_0, .string a2_1, .string a2_2, .bool a2_3, .bool a2_4, .int .u8 a2_5]] rfl ?_; (with_reducible refine (tenementlaw22_Put_write.calls a2_0 a2_1 a2_2 a2_3 a2_4 a2_5 wb wk wv wg _ HPW.out).mono ?_); rintro e_ w6 ⟨rfl, hb⟩; refine ⟨_, rfl, ?_⟩; replace HA := Aside0.mk (Kd.C_below HA.out hb); replace HR := Aside0.mk (Kd.C_below HR.out hb); replace HBb := Aside0.mk (Kd.C_below HBb.out hb); replace HS := Aside0.mk (Kd.C_below HS.out hb); replace BK8 := Aside0.mk (blk_below BK8.out hb); replace HB := Aside0.mk (below_step HB.out hb); clear hb hp0 hp1 hp2 hp3 hp4 hp5; have hv0 := (blk_cell (blk_alloc BK8.out (Obj.cells #[.string wb, .string wk, .string wv, .bool wg] 24)) 0).trans rfl; have hv1 := (blk_cell (blk_alloc BK8.out (Obj.cells #[.string wb, .string wk, .string wv, .bool wg] 24)) 1).trans rfl; have hv2 := (blk_cell (blk_alloc BK8.out (Obj.cells #[.string wb, .string wk, .string wv, .bool wg] 24)) 2).trans rfl; have hv3 := (blk_cell (blk_alloc BK8.out (Obj.cells #[.string wb, .string wk, .string wv, .bool wg] 24)) 3).trans rfl; have hv4 := (blk_cell (blk_alloc BK8.out (Obj.cells #[.string wb, .string wk, .string wv, .bool wg] 24)) 4).trans rfl)
    | ((with_reducible refine gate_dst (N := 60) rfl ?_); refine Kg_ (some 60) rfl rfl Try.func13 (by kernel_rfl) rfl #[.agg #[.int .u64 a3_0, .int .u64 a3_1, .int .u64 a3_2, .int .u64 a3_3, .bool a3_4]] rfl ?_; (with_reducible refine (tenementlaw22_Vector_vector.calls k a3_0 a3_1 a3_2 a3_3 a3_4 s0 s1 s2 s3 _ HV.out).mono ?_); rintro e_ w7 ⟨rfl, hb1⟩; refine ⟨_, rfl, ?_⟩; have hb := below_step (below_alloc (Below.refl _ _) _) hb1; replace HA := Aside0.mk (Kd.C_below HA.out hb); replace HR := Aside0.mk (Kd.C_below HR.out hb); replace HBb := Aside0.mk (Kd.C_below HBb.out hb); replace HS := Aside0.mk (Kd.C_below HS.out hb); replace HB := Aside0.mk (below_step HB.out hb); have BKw := Aside0.mk (blk_below (blk_new w6 _) hb1); clear hb hb1 hv0 hv1 hv2 hv3 hv4; generalize w6.heap.size = g16 at BKw ⊢; obtain ⟨wa0, wa1, wa2, wa3, -, -, -, -⟩ := Go.Proofs.Ythjhkcebcgdeoaa.Jud.cells4 (blk_alloc BKw.out (Obj.cells #[.int .u64 s0, .int .u64 s1, .int .u64 s2, .int .u64 s3] 29)))
    | ((with_reducible refine gate_dst (N := 68) rfl ?_); refine Kg_ (some 68) rfl rfl Try.func14 (by kernel_rfl) rfl #[.slice A12 a.length c12, .string wb, .string wk, .agg #[.int .u64 s0, .int .u64 s1, .int .u64 s2, .int .u64 s3]] rfl ?_; (with_reducible refine (judge_Read.calls A12 c12 a wb wk s0 s1 s2 s3 c o1 _ ?s1 LA.out E1.out).mono ?_); (case s1 => exact Kd.C_alloc HA.out _); rintro e_ w8 ⟨rfl, hb1⟩; refine ⟨_, rfl, ?_⟩; have hb := below_step (below_alloc (Below.refl _ _) _) hb1; have BKv := Aside0.mk (blk_below (blk_new w7 _) hb1); replace BKw := Aside0.mk (blk_below BKw.out hb); replace HA := Aside0.mk (Kd.C_below HA.out hb); replace HR := Aside0.mk (Kd.C_below HR.out hb); replace HBb := Aside0.mk (Kd.C_below HBb.out hb); replace HS := Aside0.mk (Kd.C_below HS.out hb); replace HB := Aside0.mk (below_step HB.out hb); clear hb hb1; generalize w7.heap.size = g17 at BKv ⊢; (try clear wa0 wa1 wa2 wa3); (try clear va0 va1 va2 va3); obtain ⟨wa0, wa1, wa2, wa3, -, -, -, -⟩ := Go.Proofs.Ythjhkcebcgdeoaa.Jud.cells4 BKw.out; obtain ⟨va0, va1, va2, va3, -, -, -, -⟩ := Go.Proofs.Ythjhkcebcgdeoaa.Jud.cells4 BKv.out)
    | ((with_reducible refine gate_dst (N := 78) rfl ?_); refine Kg_ (some 78) rfl rfl Try.func15 (by kernel_rfl) rfl #[.slice A13 r.length c13, .string wb, .string wk, .agg #[.int .u64 s0, .int .u64 s1, .int .u64 s2, .int .u64 s3]] rfl ?_; (with_reducible refine (tenementref22_Read.calls k A13 c13 r wb wk s0 s1 s2 s3 c o1 _ ?s1 LR.out E2.out).mono ?_); (case s1 => exact HR.out); rintro e_ w9 ⟨rfl, hb1⟩; refine ⟨_, rfl, ?_⟩; have hb := hb1; replace HA := Aside0.mk (Kd.C_below HA.out hb); replace HR := Aside0.mk (Kd.C_below HR.out hb); replace HBb := Aside0.mk (Kd.C_below HBb.out hb); replace HS := Aside0.mk (Kd.C_below HS.out hb); replace BKw := Aside0.mk (blk_below BKw.out hb); replace BKv := Aside0.mk (blk_below BKv.out hb); replace HB := Aside0.mk (below_step HB.out hb); clear hb hb1; (try clear wa0 wa1 wa2 wa3); (try clear va0 va1 va2 va3); obtain ⟨wa0, wa1, wa2, wa3, -, -, -, -⟩ := Go.Proofs.Ythjhkcebcgdeoaa.Jud.cells4 BKw.out; obtain ⟨va0, va1, va2, va3, -, -, -, -⟩ := Go.Proofs.Ythjhkcebcgdeoaa.Jud.cells4 BKv.out)
    | ((with_reducible refine gate_dst (N := 87) rfl ?_); refine Kg_ (some 87) rfl rfl Try.func16 (by kernel_rfl) rfl #[.slice A12 a.length c12, .string wb, .string wk] rfl ?_; (with_reducible refine (judge_Last.calls A12 c12 a wb wk e o2 _ ?s1 LA.out E3.out).mono ?_); (case s1 => exact HA.out); rintro e_ w10 ⟨rfl, hb1⟩; refine ⟨_, rfl, ?_⟩; have hb := hb1; replace HA := Aside0.mk (Kd.C_below HA.out hb); replace HR := Aside0.mk (Kd.C_below HR.out hb); replace HBb := Aside0.mk (Kd.C_below HBb.out hb); replace HS := Aside0.mk (Kd.C_below HS.out hb); replace BKw := Aside0.mk (blk_below BKw.out hb); replace BKv := Aside0.mk (blk_below BKv.out hb); replace HB := Aside0.mk (below_step HB.out hb); clear hb hb1; (try clear wa0 wa1 wa2 wa3); (try clear va0 va1 va2 va3); obtain ⟨wa0, wa1, wa2, wa3, -, -, -, -⟩ := Go.Proofs.Ythjhkcebcgdeoaa.Jud.cells4 BKw.out; obtain ⟨va0, va1, va2, va3, -, -, -, -⟩ := Go.Proofs.Ythjhkcebcgdeoaa.Jud.cells4 BKv.out)
    | ((with_reducible refine gate_dst (N := 96) rfl ?_); refine Kg_ (some 96) rfl rfl Try.func17 (by kernel_rfl) rfl #[.slice A13 r.length c13, .string wb, .string wk] rfl ?_; (with_reducible refine (tenementref22_Last.calls k A13 c13 r wb wk e o2 _ ?s1 LR.out E4.out).mono ?_); (case s1 => exact HR.out); rintro e_ w11 ⟨rfl, hb1⟩; refine ⟨_, rfl, ?_⟩; have hb := hb1; replace HA := Aside0.mk (Kd.C_below HA.out hb); replace HR := Aside0.mk (Kd.C_below HR.out hb); replace HBb := Aside0.mk (Kd.C_below HBb.out hb); replace HS := Aside0.mk (Kd.C_below HS.out hb); replace BKw := Aside0.mk (blk_below BKw.out hb); replace BKv := Aside0.mk (blk_below BKv.out hb); replace HB := Aside0.mk (below_step HB.out hb); clear hb hb1; (try clear wa0 wa1 wa2 wa3); (try clear va0 va1 va2 va3); obtain ⟨wa0, wa1, wa2, wa3, -, -, -, -⟩ := Go.Proofs.Ythjhkcebcgdeoaa.Jud.cells4 BKw.out; obtain ⟨va0, va1, va2, va3, -, -, -, -⟩ := Go.Proofs.Ythjhkcebcgdeoaa.Jud.cells4 BKv.out)
    | ((with_reducible refine gate_dst (N := 100) rfl ?_); refine Kg_ (some 100) rfl rfl Try.func18 (by kernel_rfl) rfl #[.slice A12 a.length c12] rfl ?_; (with_reducible refine (judge_Order.calls A12 c12 a os _ ?s1 LA.out E5.out).mono ?_); (case s1 => exact HA.out); rintro e_ w12 ⟨vo_, rfl, hR, hb⟩; refine ⟨_, rfl, ?_⟩; obtain ⟨Ao, co, eo⟩ := Kd.R_slice hR; subst eo; have HO := Aside0.mk (Kd.R_reads' hR).2.2; replace HA := Aside0.mk (Kd.C_below HA.out hb); replace HR := Aside0.mk (Kd.C_below HR.out hb); replace HBb := Aside0.mk (Kd.C_below HBb.out hb); replace HS := Aside0.mk (Kd.C_below HS.out hb); replace BKw := Aside0.mk (blk_below BKw.out hb); replace BKv := Aside0.mk (blk_below BKv.out hb); replace HB := Aside0.mk (below_step HB.out hb); clear hb hR; (try clear wa0 wa1 wa2 wa3); (try clear va0 va1 va2 va3))
    | ((with_reducible refine gate_dst (N := 102) rfl ?_); refine Kg_ (some 102) rfl rfl Try.func19 (by kernel_rfl) rfl #[.slice A13 r.length c13] rfl ?_; (with_reducible refine (tenementref22_Order.calls k A13 c13 r os _ ?s1 LR.out E6.out).mono ?_); (case s1 => exact HR.out); rintro e_ w13 ⟨vo_, rfl, hR, hb⟩; refine ⟨_, rfl, ?_⟩; obtain ⟨Aq, cq, eo⟩ := Kd.R_slice hR; subst eo; have HQ := Aside0.mk (Kd.R_reads' hR).2.2; replace HA := Aside0.mk (Kd.C_below HA.out hb); replace HR := Aside0.mk (Kd.C_below HR.out hb); replace HBb := Aside0.mk (Kd.C_below HBb.out hb); replace HS := Aside0.mk (Kd.C_below HS.out hb); replace HO := Aside0.mk (Kd.C_below HO.out hb); replace BKw := Aside0.mk (blk_below BKw.out hb); replace BKv := Aside0.mk (blk_below BKv.out hb); replace HB := Aside0.mk (below_step HB.out hb); clear hb hR; (try clear wa0 wa1 wa2 wa3); (try clear va0 va1 va2 va3)))
  try go_frame
  go_loopg [28] os.length (fun kq v28 wr => ∃ (j : Int), v28 = .int .i64 j ∧ Aside0 (0 ≤ j ∧ j ≤ (os.length : Int)) ∧ Aside0 (((os.length : Int) - j).toNat ≤ kq) ∧ Aside0 (Kd.C k64 wr A12 a.length a) ∧ Aside0 (Kd.C k81 wr A13 r.length r) ∧ Aside0 (Kd.C k64 wr A14 b.length b) ∧ Aside0 (Kd.C k81 wr A15 s.length s) ∧ Aside0 (Kd.C (Kd.int .i64) wr Ao os.length os) ∧ Aside0 (Kd.C (Kd.int .i64) wr Aq os.length os) ∧ Aside0 (wr.heap[g17]? = some (.cells #[.int .u64 s0, .int .u64 s1, .int .u64 s2, .int .u64 s3] 29 (0, 0))) ∧ Aside0 (Below w.heap.size w wr))
  case atStart => exact ⟨0, rfl, ⟨by omega, by omega⟩, ⟨by omega⟩, HA, HR, HBb, HS, HO, HQ, BKv, HB⟩
  case round =>
   clear HA HR HBb HS HO HQ BKv BKw HB
   obtain ⟨j, rfl, HJ, HK, HA, HR, HBb, HS, HO, HQ, BKv, HB⟩ := hrel
   by_cases d1 : j < (os.length : Int)
   ·have hJ := HJ.out
    have d0 : 0 ≤ j := hJ.1
    have d1b : decide (j < (os.length : Int)) = true := decide_eq_true d1
    have D0 := Aside0.mk d0
    have D1 := Aside0.mk d1
    replace d0 := eq_true d0
    replace d1 := eq_true d1
    clear hJ
    go_wp2
    replace HA := Aside0.mk (Kd.C_drew HA.out)
    replace HR := Aside0.mk (Kd.C_drew HR.out)
    replace HBb := Aside0.mk (Kd.C_drew HBb.out)
    replace HS := Aside0.mk (Kd.C_drew HS.out)
    replace HO := Aside0.mk (Kd.C_drew HO.out)
    replace HQ := Aside0.mk (Kd.C_drew HQ.out)
    replace BKv := Aside0.mk (blk_drew BKv.out)
    replace HB := Aside0.mk (below_drew1 HB.out)
    obtain ⟨ao, e1, ha⟩ := Kd.at_int HO.out j D0.out D1.out
    cases e1
    obtain ⟨aq, e1, hq⟩ := Kd.at_int HQ.out j D0.out D1.out
    cases e1
    generalize rd os j = x at ha hq
    refine start_ (n := 9) (S := fun w' => w'.cell? (ao.add j.toNat) = some (.int .i64 x) ∧ w'.cell? (aq.add j.toNat) = some (.int .i64 x)) (ds := []) (mB_ 9 0) (by kernel_rfl) rfl rfl ⟨ha, hq⟩ (fun hHeld => ?_)
    clear ha hq
    generalize wr.drew = wx at HA HR HBb HS HO HQ BKv HB hHeld ⊢
    refine Kp_ 0 114 (mB_ 9 1) (by kernel_rfl) ?_
    refine Kp_ 1 115 (mB_ 9 3) (by kernel_rfl) ?_
    refine Kp_ 2 116 (mB_ 9 7) (by kernel_rfl) ?_
    refine Kp_ 4 118 (mB_ 9 23) (by kernel_rfl) ?_
    refine Kp_ 5 119 (mB_ 9 55) (by kernel_rfl) ?_
    refine Kp_ 6 120 (mB_ 9 119) (by kernel_rfl) ?_
    refine Ko_ 3 117 (mB_ 9 127) (by kernel_rfl) hHeld ?_
    refine Ko_ 7 121 (mB_ 9 255) (by kernel_rfl) hHeld ?_
    refine Kp_ 8 122 (mB_ 9 511) (by kernel_rfl) ?_
    refine done_ (by kernel_rfl) ?_
    clear hHeld
    go_wp2
    have hjw : wrap64 (j + 1) = j + 1 := Go.Proofs.Ythjhkcebcgdeoaa.Pure.wrap64_id (by have := HJ.out; omega) (by have := D1.out; have := HOL.out; omega)
    go_roundg (((os.length : Int) - (j + 1)).toNat)
    case measure => have := HK.out; have := D1.out; omega
    case rel => exact ⟨j + 1, by first | rfl | (rw [hjw]) | simp [hjw], ⟨by have := HJ.out; omega, by have := D1.out; omega⟩, ⟨by have := HK.out; omega⟩, HA, HR, HBb, HS, HO, HQ, BKv, HB⟩
   ·have d1b : decide (j < (os.length : Int)) = false := decide_eq_false d1
    obtain ⟨p1, p2, ep1, ep2, ep3, ep4⟩ := HES.out
    have EP1 := Aside0.mk ep1
    have EP2 := Aside0.mk ep2
    have EP3 := Aside0.mk ep3
    have EP4 := Aside0.mk ep4
    clear ep1 ep2 ep3 ep4 HO HQ
    go_wp2
    replace HA := Aside0.mk (Kd.C_drew HA.out)
    replace HR := Aside0.mk (Kd.C_drew HR.out)
    replace HBb := Aside0.mk (Kd.C_drew HBb.out)
    replace HS := Aside0.mk (Kd.C_drew HS.out)
    replace BKv := Aside0.mk (blk_drew BKv.out)
    replace HB := Aside0.mk (below_drew1 HB.out)
    refine start_ (n := 56) (S := fun w' => w'.cell? ⟨g17, 0, none⟩ = some (.int .u64 s0) ∧ w'.cell? ⟨g17, 1, none⟩ = some (.int .u64 s1) ∧ w'.cell? ⟨g17, 2, none⟩ = some (.int .u64 s2) ∧ w'.cell? ⟨g17, 3, none⟩ = some (.int .u64 s3)) (ds := []) (mB_ 56 0) (by kernel_rfl) rfl rfl ⟨(blk_cell BKv.out 0).trans rfl, (blk_cell BKv.out 1).trans rfl, (blk_cell BKv.out 2).trans rfl, (blk_cell BKv.out 3).trans rfl⟩ (fun hHeld => ?_)
    generalize wr.drew = wx at HA HR HBb HS BKv HB hHeld ⊢
    refine Kp_ 0 123 (mB_ 56 1) (by kernel_rfl) ?_
    refine Kp_ 1 124 (mB_ 56 3) (by kernel_rfl) ?_
    refine Kp_ 2 125 (mB_ 56 7) (by kernel_rfl) ?_
    refine Kp_ 3 126 (mB_ 56 15) (by kernel_rfl) ?_
    refine Kp_ 4 127 (mB_ 56 31) (by kernel_rfl) ?_
    refine Kp_ 5 128 (mB_ 56 63) (by kernel_rfl) ?_
    refine Kp_ 6 129 (mB_ 56 127) (by kernel_rfl) ?_
    refine Kp_ 7 130 (mB_ 56 255) (by kernel_rfl) ?_
    refine Kp_ 8 131 (mB_ 56 511) (by kernel_rfl) ?_
    refine Kp_ 9 132 (mB_ 56 1023) (by kernel_rfl) ?_
    refine Kp_ 10 133 (mB_ 56 2047) (by kernel_rfl) ?_
    refine Kp_ 11 134 (mB_ 56 4095) (by kernel_rfl) ?_
    refine Kp_ 12 135 (mB_ 56 8191) (by kernel_rfl) ?_
    refine Kp_ 13 136 (mB_ 56 16383) (by kernel_rfl) ?_
    refine Kp_ 14 137 (mB_ 56 32767) (by kernel_rfl) ?_
    refine Kp_ 15 138 (mB_ 56 65535) (by kernel_rfl) ?_
    refine Kp_ 16 139 (mB_ 56 131071) (by kernel_rfl) ?_
    refine Kp_ 17 140 (mB_ 56 262143) (by kernel_rfl) ?_
    refine Kp_ 18 141 (mB_ 56 524287) (by kernel_rfl) ?_
    refine Kp_ 19 142 (mB_ 56 1048575) (by kernel_rfl) ?_
    refine Kp_ 20 143 (mB_ 56 2097151) (by kernel_rfl) ?_
    refine Kp_ 21 144 (mB_ 56 4194303) (by kernel_rfl) ?_
    refine Kp_ 22 145 (mB_ 56 8388607) (by kernel_rfl) ?_
    refine Kp_ 25 148 (mB_ 56 41943039) (by kernel_rfl) ?_
    refine Ko_ 23 146 (mB_ 56 50331647) (by kernel_rfl) hHeld ?_
    refine Ko_ 26 149 (mB_ 56 117440511) (by kernel_rfl) hHeld ?_
    refine one_ (i := 24) (N := some 147) (mB_ 56 134217727) rfl rfl (by kernel_rfl) (by decide) (fun K hK => ?_)
    refine goes_ Try.func20 (by kernel_rfl) rfl #[.slice A12 a.length c12, .agg #[.int .u64 s0, .int .u64 s1, .int .u64 s2, .int .u64 s3]] (by rfl) rfl rfl (by (try simp only [List.map_toArray, List.map_cons, List.map_nil]); first | done | rfl) ?_
    refine (judge_Closed.calls A12 c12 a s0 s1 s2 s3 q _ ?s1 LA.out E7.out).mono ?_
    (case s1 => exact HA.out)
    rintro e_ wy ⟨rfl, hb⟩
    refine ⟨_, rfl, ?_⟩
    replace HA := Aside0.mk (Kd.C_below HA.out hb)
    replace HR := Aside0.mk (Kd.C_below HR.out hb)
    replace HBb := Aside0.mk (Kd.C_below HBb.out hb)
    replace HS := Aside0.mk (Kd.C_below HS.out hb)
    replace BKv := Aside0.mk (blk_below BKv.out hb)
    replace HB := Aside0.mk (below_step HB.out hb)
    clear hb
    refine hK.out _ _ ⟨(blk_cell BKv.out 0).trans rfl, (blk_cell BKv.out 1).trans rfl, (blk_cell BKv.out 2).trans rfl, (blk_cell BKv.out 3).trans rfl⟩ (fun hHeld => ?_)
    clear hK K
    refine Kn_ 147 ?_
    refine one_ (i := 27) (N := some 150) (mB_ 56 268435455) rfl rfl (by kernel_rfl) (by decide) (fun K hK => ?_)
    refine goes_ Try.func21 (by kernel_rfl) rfl #[.slice A13 r.length c13, .agg #[.int .u64 s0, .int .u64 s1, .int .u64 s2, .int .u64 s3]] (by rfl) rfl rfl (by (try simp only [List.map_toArray, List.map_cons, List.map_nil]); first | done | rfl) ?_
    refine (tenementref22_Closed.calls k A13 c13 r s0 s1 s2 s3 q _ ?s1 LR.out E8.out).mono ?_
    (case s1 => exact HR.out)
    rintro e_ wy ⟨rfl, hb⟩
    refine ⟨_, rfl, ?_⟩
    replace HA := Aside0.mk (Kd.C_below HA.out hb)
    replace HR := Aside0.mk (Kd.C_below HR.out hb)
    replace HBb := Aside0.mk (Kd.C_below HBb.out hb)
    replace HS := Aside0.mk (Kd.C_below HS.out hb)
    replace BKv := Aside0.mk (blk_below BKv.out hb)
    replace HB := Aside0.mk (below_step HB.out hb)
    clear hb
    refine hK.out _ _ ⟨(blk_cell BKv.out 0).trans rfl, (blk_cell BKv.out 1).trans rfl, (blk_cell BKv.out 2).trans rfl, (blk_cell BKv.out 3).trans rfl⟩ (fun hHeld => ?_)
    clear hK K
    refine Kn_ 150 ?_
    refine Kp_ 28 151 (mB_ 56 536870911) (by kernel_rfl) ?_
    refine Kp_ 29 152 (mB_ 56 1073741823) (by kernel_rfl) ?_
    refine Kp_ 30 153 (mB_ 56 2147483647) (by kernel_rfl) ?_
    refine Kp_ 31 154 (mB_ 56 4294967295) (by kernel_rfl) ?_
    refine Kp_ 33 156 (mB_ 56 12884901887) (by kernel_rfl) ?_
    refine one_ (i := 32) (N := some 155) (mB_ 56 17179869183) rfl rfl (by kernel_rfl) (by decide) (fun K hK => ?_)
    refine goes_ Try.func22 (by kernel_rfl) rfl #[.slice A12 a.length c12] (by rfl) rfl rfl (by (try simp only [List.map_toArray, List.map_cons, List.map_nil]); first | done | rfl) ?_
    refine (judge_Live.calls A12 c12 a n _ ?s1 LA.out E9.out).mono ?_
    (case s1 => exact HA.out)
    rintro e_ wy ⟨rfl, hb⟩
    refine ⟨_, rfl, ?_⟩
    replace HA := Aside0.mk (Kd.C_below HA.out hb)
    replace HR := Aside0.mk (Kd.C_below HR.out hb)
    replace HBb := Aside0.mk (Kd.C_below HBb.out hb)
    replace HS := Aside0.mk (Kd.C_below HS.out hb)
    replace BKv := Aside0.mk (blk_below BKv.out hb)
    replace HB := Aside0.mk (below_step HB.out hb)
    clear hb
    refine hK.out _ _ ⟨(blk_cell BKv.out 0).trans rfl, (blk_cell BKv.out 1).trans rfl, (blk_cell BKv.out 2).trans rfl, (blk_cell BKv.out 3).trans rfl⟩ (fun hHeld => ?_)
    clear hK K
    refine Kn_ 155 ?_
    refine one_ (i := 34) (N := some 157) (mB_ 56 34359738367) rfl rfl (by kernel_rfl) (by decide) (fun K hK => ?_)
    refine goes_ Try.func23 (by kernel_rfl) rfl #[.slice A13 r.length c13] (by rfl) rfl rfl (by (try simp only [List.map_toArray, List.map_cons, List.map_nil]); first | done | rfl) ?_
    refine (tenementref22_Live.calls k A13 c13 r n _ ?s1 LR.out E10.out).mono ?_
    (case s1 => exact HR.out)
    rintro e_ wy ⟨rfl, hb⟩
    refine ⟨_, rfl, ?_⟩
    replace HA := Aside0.mk (Kd.C_below HA.out hb)
    replace HR := Aside0.mk (Kd.C_below HR.out hb)
    replace HBb := Aside0.mk (Kd.C_below HBb.out hb)
    replace HS := Aside0.mk (Kd.C_below HS.out hb)
    replace BKv := Aside0.mk (blk_below BKv.out hb)
    replace HB := Aside0.mk (below_step HB.out hb)
    clear hb
    refine hK.out _ _ ⟨(blk_cell BKv.out 0).trans rfl, (blk_cell BKv.out 1).trans rfl, (blk_cell BKv.out 2).trans rfl, (blk_cell BKv.out 3).trans rfl⟩ (fun hHeld => ?_)
    clear hK K
    refine Kn_ 157 ?_
    refine Kp_ 35 158 (mB_ 56 68719476735) (by kernel_rfl) ?_
    refine Kp_ 36 159 (mB_ 56 137438953471) (by kernel_rfl) ?_
    refine Kp_ 37 160 (mB_ 56 274877906943) (by kernel_rfl) ?_
    refine Kp_ 38 161 (mB_ 56 549755813887) (by kernel_rfl) ?_
    refine Kp_ 39 162 (mB_ 56 1099511627775) (by kernel_rfl) ?_
    refine Kp_ 41 164 (mB_ 56 3298534883327) (by kernel_rfl) ?_
    refine Kp_ 42 165 (mB_ 56 7696581394431) (by kernel_rfl) ?_
    refine one_ (i := 40) (N := some 163) (mB_ 56 8796093022207) rfl rfl (by kernel_rfl) (by decide) (fun K hK => ?_)
    refine goes_ Try.func24 (by kernel_rfl) rfl #[.slice A12 a.length c12, .slice A14 b.length c14] (by rfl) rfl rfl (by (try simp only [List.map_toArray, List.map_cons, List.map_nil]); first | done | rfl) ?_
    refine (judge_Subset.calls A12 c12 a A14 c14 b p1 _ ?s1 LA.out ?s3 LB.out EP1.out).mono ?_
    (case s1 => exact HA.out)
    (case s3 => exact HBb.out)
    rintro e_ wy ⟨rfl, hb⟩
    refine ⟨_, rfl, ?_⟩
    replace HA := Aside0.mk (Kd.C_below HA.out hb)
    replace HR := Aside0.mk (Kd.C_below HR.out hb)
    replace HBb := Aside0.mk (Kd.C_below HBb.out hb)
    replace HS := Aside0.mk (Kd.C_below HS.out hb)
    replace BKv := Aside0.mk (blk_below BKv.out hb)
    replace HB := Aside0.mk (below_step HB.out hb)
    clear hb
    refine hK.out _ _ ⟨(blk_cell BKv.out 0).trans rfl, (blk_cell BKv.out 1).trans rfl, (blk_cell BKv.out 2).trans rfl, (blk_cell BKv.out 3).trans rfl⟩ (fun hHeld => ?_)
    clear hK K
    refine Kn_ 163 ?_
    refine one_ (i := 43) (N := some 166) (mB_ 56 17592186044415) rfl rfl (by kernel_rfl) (by decide) (fun K hK => ?_)
    refine goes_ Try.func25 (by kernel_rfl) rfl #[.slice A13 r.length c13, .slice A15 s.length c15] (by rfl) rfl rfl (by (try simp only [List.map_toArray, List.map_cons, List.map_nil]); first | done | rfl) ?_
    refine (tenementref22_Subset.calls k A13 c13 r A15 c15 s p1 _ ?s1 LR.out ?s3 LS.out EP2.out).mono ?_
    (case s1 => exact HR.out)
    (case s3 => exact HS.out)
    rintro e_ wy ⟨rfl, hb⟩
    refine ⟨_, rfl, ?_⟩
    replace HA := Aside0.mk (Kd.C_below HA.out hb)
    replace HR := Aside0.mk (Kd.C_below HR.out hb)
    replace HBb := Aside0.mk (Kd.C_below HBb.out hb)
    replace HS := Aside0.mk (Kd.C_below HS.out hb)
    replace BKv := Aside0.mk (blk_below BKv.out hb)
    replace HB := Aside0.mk (below_step HB.out hb)
    clear hb
    refine hK.out _ _ ⟨(blk_cell BKv.out 0).trans rfl, (blk_cell BKv.out 1).trans rfl, (blk_cell BKv.out 2).trans rfl, (blk_cell BKv.out 3).trans rfl⟩ (fun hHeld => ?_)
    clear hK K
    refine Kn_ 166 ?_
    refine Kp_ 44 167 (mB_ 56 35184372088831) (by kernel_rfl) ?_
    refine Kp_ 45 168 (mB_ 56 70368744177663) (by kernel_rfl) ?_
    refine Kp_ 46 169 (mB_ 56 140737488355327) (by kernel_rfl) ?_
    refine Kp_ 47 170 (mB_ 56 281474976710655) (by kernel_rfl) ?_
    refine Kp_ 48 171 (mB_ 56 562949953421311) (by kernel_rfl) ?_
    refine Kp_ 50 173 (mB_ 56 1688849860263935) (by kernel_rfl) ?_
    refine Kp_ 51 174 (mB_ 56 3940649673949183) (by kernel_rfl) ?_
    refine one_ (i := 49) (N := some 172) (mB_ 56 4503599627370495) rfl rfl (by kernel_rfl) (by decide) (fun K hK => ?_)
    refine goes_ Try.func24 (by kernel_rfl) rfl #[.slice A14 b.length c14, .slice A12 a.length c12] (by rfl) rfl rfl (by (try simp only [List.map_toArray, List.map_cons, List.map_nil]); first | done | rfl) ?_
    refine (judge_Subset.calls A14 c14 b A12 c12 a p2 _ ?s1 LB.out ?s3 LA.out EP3.out).mono ?_
    (case s1 => exact HBb.out)
    (case s3 => exact HA.out)
    rintro e_ wy ⟨rfl, hb⟩
    refine ⟨_, rfl, ?_⟩
    replace HA := Aside0.mk (Kd.C_below HA.out hb)
    replace HR := Aside0.mk (Kd.C_below HR.out hb)
    replace HBb := Aside0.mk (Kd.C_below HBb.out hb)
    replace HS := Aside0.mk (Kd.C_below HS.out hb)
    replace BKv := Aside0.mk (blk_below BKv.out hb)
    replace HB := Aside0.mk (below_step HB.out hb)
    clear hb
    refine hK.out _ _ ⟨(blk_cell BKv.out 0).trans rfl, (blk_cell BKv.out 1).trans rfl, (blk_cell BKv.out 2).trans rfl, (blk_cell BKv.out 3).trans rfl⟩ (fun hHeld => ?_)
    clear hK K
    refine Kn_ 172 ?_
    refine one_ (i := 52) (N := some 175) (mB_ 56 9007199254740991) rfl rfl (by kernel_rfl) (by decide) (fun K hK => ?_)
    refine goes_ Try.func25 (by kernel_rfl) rfl #[.slice A15 s.length c15, .slice A13 r.length c13] (by rfl) rfl rfl (by (try simp only [List.map_toArray, List.map_cons, List.map_nil]); first | done | rfl) ?_
    refine (tenementref22_Subset.calls k A15 c15 s A13 c13 r p2 _ ?s1 LS.out ?s3 LR.out EP4.out).mono ?_
    (case s1 => exact HS.out)
    (case s3 => exact HR.out)
    rintro e_ wy ⟨rfl, hb⟩
    refine ⟨_, rfl, ?_⟩
    replace HA := Aside0.mk (Kd.C_below HA.out hb)
    replace HR := Aside0.mk (Kd.C_below HR.out hb)
    replace HBb := Aside0.mk (Kd.C_below HBb.out hb)
    replace HS := Aside0.mk (Kd.C_below HS.out hb)
    replace BKv := Aside0.mk (blk_below BKv.out hb)
    replace HB := Aside0.mk (below_step HB.out hb)
    clear hb
    refine hK.out _ _ ⟨(blk_cell BKv.out 0).trans rfl, (blk_cell BKv.out 1).trans rfl, (blk_cell BKv.out 2).trans rfl, (blk_cell BKv.out 3).trans rfl⟩ (fun hHeld => ?_)
    clear hK K
    refine Kn_ 175 ?_
    refine Kp_ 53 176 (mB_ 56 18014398509481983) (by kernel_rfl) ?_
    refine Kp_ 54 177 (mB_ 56 36028797018963967) (by kernel_rfl) ?_
    refine Kp_ 55 10 (mB_ 56 72057594037927935) (by kernel_rfl) ?_
    refine done_ (by kernel_rfl) ?_
    go_wp2
    go_ret
    exact ⟨by first | rfl | simp, HB.out⟩
end Go.Proofs.Ythjhkcebcgdeoaa.Q
