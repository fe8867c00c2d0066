import Derived.Test.YthjhkcebcgdeoaaGJudgeSubsets2
import Derived.Test.YthjhkcebcgdeoaaGJudgeSubsets4
import Derived.Test.YthjhkcebcgdeoaaGJudgeSubsets5
import Derived.Test.YthjhkcebcgdeoaaGJudgeSubsets7
import Derived.Test.YthjhkcebcgdeoaaGJudgeSubsets6
import Derived.Test.YthjhkcebcgdeoaaGJudgeSubsets0
namespace Go.Proofs.Ythjhkcebcgdeoaa.Q
open Go.RowKit Go.Proofs.YthjhkcebcgdeoaaW.PrintWords Go.Proofs.YthjhkcebcgdeoaaW.PrintLast Go.Proofs.YthjhkcebcgdeoaaW.PrintMore
attribute [local go_sem] max2_int min2_int max_two min_two max_three min_three max_four min_four   -- for this text's walks alone
set_option linter.unusedVariables false
set_option linter.unusedSimpArgs false
def tenementlaw22_JudgeSubsets.made (k : Nat) (l0 : List S61) (al : List S64) : Prop := al.length = min l0.length 10 ∧ ∀ i : Nat, i < al.length → ∃ a b c g : Int, tenementlaw22_Deal_deal.f k (rd_T61 l0 i).f0.f0.f0.f0 (rd_T61 l0 i).f0.f0.f0.f1 (rd_T61 l0 i).f0.f0.f0.f2 (rd_T61 l0 i).f0.f0.f0.f3 (rd_T61 l0 i).f0.f0.f1 (rd_T61 l0 i).f0.f1 (rd_T61 l0 i).f1 true = some (a, b, c, g, (rd_T64 al i).f0.f1, (rd_T64 al i).f1) ∧ vec_With.f a b c g (rd_T64 al i).f0.f1 ((i : Int) + 1) = some ((rd_T64 al i).f0.f0.f0, (rd_T64 al i).f0.f0.f1, (rd_T64 al i).f0.f0.f2, (rd_T64 al i).f0.f0.f3)
def tenementlaw22_JudgeSubsets.ok (l0 : List S61) (a1 : Int) (k : Nat) (al : List S64) : Prop := (0 ≤ a1 ∧ a1 ≤ 255) ∧ tenementlaw22_JudgeSubsets.made k l0 al ∧ judge_Subset.f [] [] = some true ∧ judge_Subset.f al al = some true ∧ ∀ m, m < al.length → judge_Subset.f (al.take m ++ al.drop (m + 1)) al = some true ∧ judge_Subset.f al (al.take m ++ al.drop (m + 1)) = some false ∧ judge_Subset.f [] (al.take m ++ al.drop (m + 1)) = some true
open Classical in
noncomputable def tenementlaw22_JudgeSubsets.f (l0 : List S61) (a1 : Int) : Option Bool := if ∃ (k : Nat) (al : List S64), tenementlaw22_JudgeSubsets.ok l0 a1 k al then some true else none
set_option maxHeartbeats 16000000 in
set_option maxRecDepth 100000 in
theorem tenementlaw22_JudgeSubsets.calls (A0 : Option Addr) (c0 : Nat) (l0 : List S61) (a1 : Int) (r : Bool) (w : World) (hr0 : Kd.C k61 w A0 l0.length l0) (hc0 : l0.length ≤ c0) (h : tenementlaw22_JudgeSubsets.f l0 a1 = some r) :
  Calls Try.prog 9 #[.slice A0 l0.length c0, .int .u8 a1] w fun e w' => e = .returned (.bool r) ∧ Below w.heap.size w w' := by
 unfold tenementlaw22_JudgeSubsets.f at h
 by_cases hw : ∃ (k : Nat) (al : List S64), tenementlaw22_JudgeSubsets.ok l0 a1 k al
 rotate_left
 ·rw [if_neg hw] at h; cases h
 rw [if_pos hw] at h
 obtain rfl := Option.some.inj h
 clear h
 obtain ⟨k, al, h1, h2, h3, h4, h5⟩ := hw
 have HMA := Aside0.mk h2
 have HU := Aside0.mk h1
 have E0 := Aside0.mk h3
 have E1 := Aside0.mk h4
 have E2 := Aside0.mk h5
 have HR0 := Aside0.mk hr0
 clear h1 h2 h3 h4 h5 hr0
 go_enter Try.func9, Try.ntmps9
 go_wp2_with (first
  | ((with_reducible refine gate_dst (N := 12) rfl ?_); refine Kg_ (some 12) rfl rfl Try.func10 (by kernel_rfl) rfl #[] rfl ?_; (with_reducible refine (tenementlaw22_examples.calls true _ rfl).mono ?_); rintro e w1 ⟨rfl, hb⟩; refine ⟨_, rfl, ?_⟩; have HB1 := Aside0.mk hb; clear hb))
 go_loopg [6, 7] al.length (fun kq v6 v7 wr => ∃ (i : Nat), v7 = .int .i64 i ∧ Aside0 (i ≤ al.length) ∧ Aside0 (al.length - i ≤ kq) ∧ Aside0 (Go.Proofs.Ythjhkcebcgdeoaa.Jud.LT wr w.heap.size (fun k => True ∧ Go.Proofs.Ythjhkcebcgdeoaa.Jud.off (.slice none 0 0) k) v6 (al.take i)) ∧ Aside0 (Below w.heap.size w wr))
 case atStart => exact ⟨0, rfl, ⟨by omega⟩, ⟨by omega⟩, ⟨by rw [List.take_zero]; exact Kd.R_nil _ _ _ _ _⟩, HB1⟩
 case round =>
  clear HB1
  obtain ⟨i, rfl, HI, HK, HA, HB⟩ := hrel
  by_cases c1 : i < al.length
  ·have hL := HMA.out.1
   have c3 : i < l0.length := by omega
   have c4 : i < 10 := by omega
   have c1b : decide ((i : Int) < (l0.length : Int)) = true := decide_eq_true (by omega)
   have c2b : decide ((i : Int) < 10) = true := decide_eq_true (by omega)
   have c0b : decide (0 ≤ (i : Int)) = true := decide_eq_true (by omega)
   clear hL
   obtain ⟨q0, q1, q2, q3, hdl, hwi⟩ := HMA.out.2 i c1
   obtain ⟨ad, Ap, cp, e0, h0, h1, h2, h3, h4, h5, h6, h7, LP, GPh⟩ := at_T61 HR0.out (i : Int) (by omega) (by have := HMA.out.1; omega)
   cases e0
   replace h0 := (HB.out.cell (World.block_lt_of_cell? w _ h0)).trans h0
   replace h1 := (HB.out.cell (World.block_lt_of_cell? w _ h1)).trans h1
   replace h2 := (HB.out.cell (World.block_lt_of_cell? w _ h2)).trans h2
   replace h3 := (HB.out.cell (World.block_lt_of_cell? w _ h3)).trans h3
   replace h4 := (HB.out.cell (World.block_lt_of_cell? w _ h4)).trans h4
   replace h5 := (HB.out.cell (World.block_lt_of_cell? w _ h5)).trans h5
   replace h6 := (HB.out.cell (World.block_lt_of_cell? w _ h6)).trans h6
   replace h7 := (HB.out.cell (World.block_lt_of_cell? w _ h7)).trans h7
   have GP := Aside0.mk (Kd.C_below GPh HB.out)
   clear GPh
   simp only [Int.toNat_natCast] at h0 h1 h2 h3 h4 h5 h6 h7
   generalize rd_T61 l0 (i : Int) = px at h0 h1 h2 h3 h4 h5 h6 h7 LP GP hdl
   obtain ⟨⟨⟨⟨p0, p1, p2, p3⟩, p4⟩, p5⟩, p6, p7⟩ := px
   have hxx := Go.Proofs.Ythjhkcebcgdeoaa.Jud.rd64_eq al i c1
   generalize rd_T64 al (i : Int) = tx at hdl hwi hxx
   obtain ⟨⟨⟨n0, n1, n2, n3⟩, q4⟩, q5⟩ := tx
   have HDL : Aside0 (tenementlaw22_Deal_deal.f k p0 p1 p2 p3 p4 p5 p6 true = some (q0, q1, q2, q3, q4, q5)) := ⟨hdl⟩
   have HWI : Aside0 (vec_With.f q0 q1 q2 q3 q4 ((i : Int) + 1) = some (n0, n1, n2, n3)) := ⟨hwi⟩
   have LP : p6.length ≤ cp := LP
   have GP : Aside0 (Kd.C k26 wr Ap p6.length p6) := GP
   have HTK : Aside0 (al.take (i + 1) = al.take i ++ [(⟨⟨⟨n0, n1, n2, n3⟩, q4⟩, q5⟩ : S64)]) := ⟨by rw [List.take_add_one, hxx]; rfl⟩
   clear hdl hwi hxx
   simp only at h0 h1 h2 h3 h4 h5 h6 h7
   go_wp2_with (first
     | ((with_reducible refine gate_dst (N := 31) rfl ?_); refine Kg_ (some 31) rfl rfl Try.func26 (by kernel_rfl) rfl #[.agg #[.int .u64 p0, .int .u64 p1, .int .u64 p2, .int .u64 p3, .int .i64 p4, .bool p5, .slice Ap p6.length cp, .bool true]] rfl ?_; (with_reducible refine (tenementlaw22_Deal_deal.calls k p0 p1 p2 p3 p4 p5 Ap cp p6 true q0 q1 q2 q3 q4 q5 _ ?s1 LP ?s2).mono ?_); (case s1 => exact Kd.C_alloc GP.out _); (case s2 => exact HDL.out); rintro e wd ⟨vq, rfl, hR, hb⟩; refine ⟨_, rfl, ?_⟩; obtain ⟨Aq, cq, eq_⟩ := Kd.R_slice hR; subst eq_; have HRd : Aside0 (Go.Proofs.Ythjhkcebcgdeoaa.Jud.RW wd wr.heap.size (fun _ => True) (.slice Aq q5.length cq) q5) := ⟨Kd.R_lower hR (below_size (below_alloc (Below.refl _ _) _))⟩; have Hd := Aside0.mk (below_step (below_alloc (Below.refl _ _) _) hb); clear hb hR)
     | ((with_reducible refine gate_dst (N := 41) rfl ?_); refine Kg_ (some 41) rfl rfl Try.func29 (by kernel_rfl) rfl #[.agg #[.int .u64 q0, .int .u64 q1, .int .u64 q2, .int .u64 q3], .int .i64 q4, .int .u64 ((i : Int) + 1)] rfl ?_; (with_reducible refine (vec_With.calls q0 q1 q2 q3 q4 ((i : Int) + 1) n0 n1 n2 n3 _ HWI.out).mono ?_); rintro e ww ⟨rfl, hb⟩; refine ⟨_, rfl, ?_⟩; have BKw : Aside0 (ww.heap[wd.heap.size]? = some (.cells #[.int .u64 q0, .int .u64 q1, .int .u64 q2, .int .u64 q3, .int .i64 q4, .slice Aq q5.length cq] 64 (0, 0))) := ⟨blk_below (blk_new wd _) hb⟩; have GEt : Aside0 (wr.heap.size ≤ wd.heap.size) := ⟨Hd.out.size⟩; have Hw := Aside0.mk (below_step (below_alloc Hd.out _) hb); have HRw : Aside0 (Go.Proofs.Ythjhkcebcgdeoaa.Jud.RW ww wr.heap.size (fun _ => True) (.slice Aq q5.length cq) q5) := ⟨Kd.R_below HRd.out (below_step (below_alloc (Below.refl _ _) _) hb)⟩; clear hb HRd Hd; generalize wd.heap.size = gt at BKw GEt ⊢; obtain ⟨hwa0, hwa1, hwa2, hwa3, hwa4, hwa5, fwa0, fwa1, fwa2, fwa3, fwa4, fwa5⟩ := Ke6_ BKw.out)
     | ((with_reducible refine gate_builtin (b := .append) (xs := #[.tmp 44, .tmp 46]) rfl ?_); at_builtin; have Hz : Aside0 (Below wr.heap.size wr ((((ww.setCell ⟨gt, 0, none⟩ (.int .u64 n0)).setCell ⟨gt, 1, none⟩ (.int .u64 n1)).setCell ⟨gt, 2, none⟩ (.int .u64 n2)).setCell ⟨gt, 3, none⟩ (.int .u64 n3))) := ⟨((((((((Hw.out).setCell GEt.out _)).setCell GEt.out _)).setCell GEt.out _)).setCell GEt.out _)⟩; have BKz : Aside0 (((((ww.setCell ⟨gt, 0, none⟩ (.int .u64 n0)).setCell ⟨gt, 1, none⟩ (.int .u64 n1)).setCell ⟨gt, 2, none⟩ (.int .u64 n2)).setCell ⟨gt, 3, none⟩ (.int .u64 n3)).heap[gt]? = some (.cells #[.int .u64 n0, .int .u64 n1, .int .u64 n2, .int .u64 n3, .int .i64 q4, .slice Aq q5.length cq] 64 (0, 0))) := ⟨by refine Kv_ ?_; refine blk_put (cs := #[.int .u64 n0, .int .u64 n1, .int .u64 n2, .int .u64 q3, .int .i64 q4, .slice Aq q5.length cq]) ?_ 3 _ rfl; refine Kv_ ?_; refine blk_put (cs := #[.int .u64 n0, .int .u64 n1, .int .u64 q2, .int .u64 q3, .int .i64 q4, .slice Aq q5.length cq]) ?_ 2 _ rfl; refine Kv_ ?_; refine blk_put (cs := #[.int .u64 n0, .int .u64 q1, .int .u64 q2, .int .u64 q3, .int .i64 q4, .slice Aq q5.length cq]) ?_ 1 _ rfl; refine Kv_ ?_; refine blk_put (cs := #[.int .u64 q0, .int .u64 q1, .int .u64 q2, .int .u64 q3, .int .i64 q4, .slice Aq q5.length cq]) ?_ 0 _ rfl; exact Kq_ BKw⟩; have HRz : Aside0 (Go.Proofs.Ythjhkcebcgdeoaa.Jud.RW ((((ww.setCell ⟨gt, 0, none⟩ (.int .u64 n0)).setCell ⟨gt, 1, none⟩ (.int .u64 n1)).setCell ⟨gt, 2, none⟩ (.int .u64 n2)).setCell ⟨gt, 3, none⟩ (.int .u64 n3)) wr.heap.size (fun _ => True) (.slice Aq q5.length cq) q5) := ⟨Kd.R_mono (Kd.R_far (p := ⟨gt, 3, none⟩) (Kd.R_far (p := ⟨gt, 2, none⟩) (Kd.R_far (p := ⟨gt, 1, none⟩) (Kd.R_far (p := ⟨gt, 0, none⟩) (Kd.R_types HRw.out BKw.out (by decide)) (fun _ hk => hk.2) _) (fun _ hk => hk.2) _) (fun _ hk => hk.2) _) (fun _ hk => hk.2) _) (fun _ _ => trivial)⟩; have ez : ((((ww.setCell ⟨gt, 0, none⟩ (.int .u64 n0)).setCell ⟨gt, 1, none⟩ (.int .u64 n1)).setCell ⟨gt, 2, none⟩ (.int .u64 n2)).setCell ⟨gt, 3, none⟩ (.int .u64 n3)).heap.size = ww.heap.size := Go.Proofs.Ythjhkcebcgdeoaa.Jud.size4 _ _ _ _ _ _ _ _ _; generalize ((((ww.setCell ⟨gt, 0, none⟩ (.int .u64 n0)).setCell ⟨gt, 1, none⟩ (.int .u64 n1)).setCell ⟨gt, 2, none⟩ (.int .u64 n2)).setCell ⟨gt, 3, none⟩ (.int .u64 n3)) = wz at Hz BKz HRz ez ⊢; clear BKw Hw HRw; try clear hwa0 hwa1 hwa2 hwa3 hwa4 hwa5 fwa0 fwa1 fwa2 fwa3 fwa4 fwa5; refine Go.Proofs.Ythjhkcebcgdeoaa.Jud.app2 (w0 := w) (W := wz) w.heap.size rfl (.tmp 44) (.tmp 46) rfl u6 (.slice none 0 0) (.slice Aq q5.length cq) (al.take i) [] (⟨⟨⟨n0, n1, n2, n3⟩, q4⟩, q5⟩ : S64) [.int .u64 n0, .int .u64 n1, .int .u64 n2, .int .u64 n3, .int .i64 q4, .slice Aq q5.length cq] rfl rfl ?hx ?aR ?aA ?aS ?aB ?ab ?al ?_; (case hx => rw [ez]; rfl); (case aR => exact Go.Proofs.Ythjhkcebcgdeoaa.Jud.RW_off HRz.out (below_size HB.out) (Go.Proofs.Ythjhkcebcgdeoaa.Jud.R_lt HA.out) (fun k hk => by simp [Value.ownBlock] at hk)); (case aA => exact Kd.R_below HA.out Hz.out); (case aS => exact Kd.R_nil _ _ _ _ _); (case aB => exact below_step HB.out Hz.out); (case ab => exact Nat.le_trans (below_size HB.out) (below_size Hz.out)); (case al => rw [List.length_take]; have := HMA.out.1; omega); intro xa wa hA1 hS1 hR1 hb1 hg1; have HA1 := Aside0.mk hA1; have HB1 := Aside0.mk hb1; clear hA1 hS1 hR1 hb1 hg1))
   go_roundg (al.length - (i + 1))
   case measure => have := HK.out; omega
   case rel => exact ⟨i + 1, by first | rfl | (rw [show ((i + 1 : Nat) : Int) = (i : Int) + 1 by omega]; rfl) | (rw [show ((i + 1 : Nat) : Int) = (i : Int) + 1 by omega]; congr 1; exact Go.Proofs.Ythjhkcebcgdeoaa.Pure.wrap64_id (by omega) (by omega)), ⟨by omega⟩, ⟨by omega⟩, ⟨by rw [HTK.out]; exact HA1.out⟩, HB1⟩
  ·have hL := HMA.out.1
   have HIL : i = al.length := by have := HI.out; omega
   rw [List.take_of_length_le (by omega)] at HA
   have HN0 := Aside0.mk (Kd.R_N (Kd.R_mono HA.out (fun _ _ => trivial) : Go.Proofs.Ythjhkcebcgdeoaa.Jud.LT wr w.heap.size (fun _ => True) u6 al))
   have HC0 := HB
   clear HA HB
   obtain ⟨A6, c6, e6⟩ := Kd.N_slice HN0.out
   subst e6
   have hl10 : al.length ≤ 10 := by omega
   subst HIL
   by_cases cz : (al.length : Int) = 0
   ·have e1 : al = [] := List.eq_nil_of_length_eq_zero (by omega)
    have e2 : l0 = [] := List.eq_nil_of_length_eq_zero (by omega)
    subst e1 e2
    clear cz hL HI HK c1
    go_wp2_with (first
     | (go_at_call 24; (refine (judge_Subset.calls none 0 ([] : List S64) none 0 ([] : List S64) true _ ?s1 (Nat.le_refl _) ?s3 (Nat.le_refl _) E0.out).mono ?_); (case s1 => exact Kd.C_nil _ _); (case s3 => exact Kd.C_nil _ _); rintro e_ wu ⟨rfl, hb⟩; have HC1 := Aside0.mk (below_step HC0.out hb); clear hb))
    go_ret
    exact ⟨by first | rfl | simp, HC1.out⟩
   have hway : (al.length < l0.length ∧ ¬ al.length < 10) ∨ ¬ al.length < l0.length := by omega
   clear hL
   rcases hway with ⟨c2, c3⟩ | c2
   all_goals
    have cz1 : ((al.length : Int) == 0) = false := beq_eq_false_iff_ne.mpr cz
    have cz2 : ((al.length : Int) != 0) = true := bne_iff_ne.mpr cz
    have cz3 : ¬ (al = []) := fun h_ => cz (by rw [h_]; rfl)
    obtain ⟨j, hj⟩ : ∃ j_ : Int, Int.tmod (wrap64 a1) (al.length : Int) = j_ := ⟨_, rfl⟩
    obtain ⟨m, hm, hml⟩ : ∃ m : Nat, j = (m : Int) ∧ m < al.length := by
     have hn := HU.out
     have hlt := Int.emod_lt_of_pos a1 (show 0 < (al.length : Int) by omega)
     have hge := Int.emod_nonneg a1 (show (al.length : Int) ≠ 0 by omega)
     rw [Go.Proofs.Ythjhkcebcgdeoaa.Pure.wrap64_id (by omega) (by omega), Int.tmod_eq_emod_of_nonneg hn.1] at hj
     exact ⟨(a1 % (al.length : Int)).toNat, by omega, by omega⟩
    obtain ⟨j2, hj2⟩ : ∃ j_ : Int, wrap64 (j + 1) = j_ := ⟨_, rfl⟩
    have hj2w : (IntKind.i64.wrap (j + 1)) = j2 := (i64_w _).trans hj2
    have hm2 : j2 = ((m + 1 : Nat) : Int) := by rw [← hj2, hm, Go.Proofs.Ythjhkcebcgdeoaa.Pure.wrap64_id (by omega) (by omega)]; omega
    have k0 : 0 ≤ j := by omega
    have k1 : j ≤ (al.length : Int) := by omega
    have k2 : 0 ≤ j2 := by omega
    have k3 : j2 ≤ (al.length : Int) := by omega
    have t0 : j.toNat = m := by omega
    have t2 : j2.toNat = m + 1 := by omega
    obtain ⟨y1, hy1⟩ : ∃ y_ : List S64, y_ = al.take j.toNat := ⟨_, rfl⟩
    obtain ⟨y2, hy2⟩ : ∃ y_ : List S64, y_ = al.drop j2.toNat := ⟨_, rfl⟩
    obtain ⟨y3, hy3⟩ : ∃ y_ : List S64, y_ = [] ++ y1 := ⟨_, rfl⟩
    obtain ⟨y, hy⟩ : ∃ y_ : List S64, y_ = y3 ++ y2 := ⟨_, rfl⟩
    have hyy : al.take m ++ al.drop (m + 1) = y := by rw [hy, hy3, hy1, hy2, t0, t2]; rfl
    obtain ⟨EY1, EY2, EY3⟩ := E2.out m hml
    rw [hyy] at EY1 EY2 EY3
    replace EY1 := Aside0.mk EY1
    replace EY2 := Aside0.mk EY2
    replace EY3 := Aside0.mk EY3
    have HL1 : Aside0 (y1.length ≤ 10) := ⟨by rw [hy1, List.length_take]; omega⟩
    have HL3 : Aside0 (y3.length + y2.length ≤ 20) := ⟨by rw [hy3, List.nil_append, hy1, hy2, List.length_take, List.length_drop]; omega⟩
    have Ny3 := Aside0.mk hy3
    have Ny := Aside0.mk hy
    have hroom : al.length ≤ c6 := (Kd.N_reads' HN0.out).2.1
    have b0 : decide (0 ≤ j) = true := decide_eq_true k0
    have b1 : decide (j ≤ (al.length : Int)) = true := decide_eq_true k1
    have b2 : decide (0 ≤ j2) = true := decide_eq_true k2
    have b3 : decide (j2 ≤ (al.length : Int)) = true := decide_eq_true k3
    clear hyy hy hy3 hm hm2 cz
    go_wp2
    replace HN0 := Aside0.mk (Kd.N_drew HN0.out)
    replace HC0 := Aside0.mk (below_drew1 HC0.out)
    obtain ⟨i0, hi0, _, hsz0, _⟩ := info_parts info64
    have hC : Kd.F k64 _ _ A6 al.length al := (Kd.V_at (base := w.heap.size) (Kd.N_V HN0.out)).2.2
    have hcut1 := cut_to (P := Try.prog) 33 64 .i64 Try.underlying33 hi0 A6 al.length c6 j k0 k1 hroom
    have hr1 := Kd.F_take (m := (j : Int).toNat) hC (by omega)
    have ly1 : y1.length = (j : Int).toNat := by rw [hy1, List.length_take]; omega
    rw [← hy1] at hr1
    rw [← ly1] at hcut1
    have HV1 := Aside0.mk (show Kd.V k64 64 _ w.heap.size _ (.slice A6 y1.length c6) y1 from Kd.V_mk (by omega) hr1)
    have hcut2 := cut_from (P := Try.prog) 33 64 .i64 Try.underlying33 hi0 6 hsz0 A6 al.length c6 j2 k2 k3
    have hr2 := Kd.F_cut (m := (j2 : Int).toNat) (c := c6) hC (by omega) hroom
    obtain ⟨B6, hB6⟩ : ∃ A1, A1 = (if c6 = (j2 : Int).toNat then A6 else (A6 : Option Addr).map (·.add ((j2 : Int).toNat * 6))) := ⟨_, rfl⟩
    obtain ⟨d6, hd6⟩ : ∃ c1, c1 = c6 - (j2 : Int).toNat := ⟨_, rfl⟩
    have ly2 : y2.length = al.length - (j2 : Int).toNat := by rw [hy2, List.length_drop]
    rw [← hy2] at hr2
    replace hr2 : Kd.F k64 _ _ B6 y2.length y2 := (by rw [hB6]; exact hr2)
    rw [← ly2, ← hB6, ← hd6] at hcut2
    have HV2 := Aside0.mk (show Kd.V k64 64 _ w.heap.size _ (.slice B6 y2.length d6) y2 from Kd.V_mk (by rw [ly2, hd6]; exact Nat.sub_le_sub_right hroom _) hr2)
    clear hr1 hr2 hC hi0 hsz0 hy1 hy2 hB6 hd6 ly1 ly2 hroom
    replace k0 := eq_true k0
    replace k1 := eq_true k1
    replace k2 := eq_true k2
    replace k3 := eq_true k3
    refine start_ (n := 10) (S := fun w' => True) (ds := []) (mB_ 10 0) (by kernel_rfl) rfl rfl trivial (fun hHeld => ?_)
    generalize wr.drew = wx at HN0 HC0 HV1 HV2 hHeld ⊢
    refine Kp_ 0 60 (mB_ 10 1) (by kernel_rfl) ?_
    refine Kp_ 1 61 (mB_ 10 3) (by kernel_rfl) ?_
    refine Kp_ 2 62 (mB_ 10 7) (by kernel_rfl) ?_
    refine Kp_ 4 64 (mB_ 10 23) (by kernel_rfl) ?_
    refine Kp_ 5 65 (mB_ 10 55) (by kernel_rfl) ?_
    refine Kp_ 6 66 (mB_ 10 119) (by kernel_rfl) ?_
    refine Kp_ 7 67 (mB_ 10 247) (by kernel_rfl) ?_
    refine one_ (i := 3) (N := some 63) (mB_ 10 255) rfl rfl (by kernel_rfl) (by decide) (fun K hK => ?_)
    refine Kd.N_append_rows_step k64 (w0 := w) w.heap.size (by rfl) (.const (.slice none 0 0)) (.tmp 62) 33 64 (.agg #[.int .u64 0, .int .u64 0, .int .u64 0, .int .u64 0, .int .i64 0, .slice none 0 0]) 64 rfl Try.underlying33 info64 rfl (by decide) (by omega) (.slice none 0 0) ([] : List S64) y1 _ _ _ (fun _ => True) (fun k_ => ((fun _ => True)) k_ ∧ some k_ ≠ ((.slice none 0 0) : Value).ownBlock) rfl rfl ?aO ?aR (fun _ hk => hk) ?aF ?aB ?aS ?aL ?_
    (case aR => exact Kd.V_F (Kd.V_mono HV1.out (fun k_ hk => ⟨trivial, (by simp [Value.ownBlock])⟩)))
    (case aB => exact HC0.out)
    (case aF => exact (fun _ _ => trivial))
    (case aO => exact (Kd.N_nil _ _ _ _ (fun _ => True)))
    (case aS => exact below_size HC0.out)
    (case aL => have := HL1.out; simp only [List.length_nil]; omega)
    intro v3 w51 ho hb hg hat
    rw [← Ny3.out] at ho
    have HY3 := Aside0.mk ho
    replace HN0 := Aside0.mk (Kd.N_afterv (Kd.N_apart_nil HN0.out) hg hat)
    replace HV2 := Aside0.mk (Kd.V_afterv (Kd.V_apart_nil HV2.out) hg hat)
    replace HC0 := Aside0.mk hb
    clear ho hb hg hat
    refine hK.out _ _ trivial (fun hHeld => ?_)
    clear hK K
    refine Kn_ 63 ?_
    refine one_ (i := 8) (N := some 68) (mB_ 10 511) rfl rfl (by kernel_rfl) (by decide) (fun K hK => ?_)
    refine Kd.N_append_rows_step k64 (w0 := w) w.heap.size (by rfl) (.tmp 63) (.tmp 67) 33 64 (.agg #[.int .u64 0, .int .u64 0, .int .u64 0, .int .u64 0, .int .i64 0, .slice none 0 0]) 64 rfl Try.underlying33 info64 rfl (by decide) (by omega) v3 y3 y2 _ _ _ (fun _ => True) (fun k_ => ((fun _ => True)) k_ ∧ some k_ ≠ (v3 : Value).ownBlock) rfl rfl ?aO ?aR (fun _ hk => hk) ?aF ?aB ?aS ?aL ?_
    (case aR => exact Kd.V_F (Kd.V_mono HV2.out (fun k_ hk => ⟨trivial, hk.2⟩)))
    (case aB => exact HC0.out)
    (case aF => exact (fun _ _ => trivial))
    (case aO => exact HY3.out)
    (case aS => exact below_size HC0.out)
    (case aL => have := HL3.out; omega)
    intro v4 w52 ho hb hg hat
    rw [← Ny.out] at ho
    have HY0 := Aside0.mk (Kd.N_mono ho (fun _ _ => trivial))
    replace HN0 := Aside0.mk (Kd.N_afterv (ok := (fun _ => True)) HN0.out hg hat)
    replace HC0 := Aside0.mk hb
    clear HY3 ho hb hg hat
    refine hK.out _ _ trivial (fun hHeld => ?_)
    clear hK K
    refine Kn_ 68 ?_
    refine Kp_ 9 11 (mB_ 10 1023) (by kernel_rfl) ?_
    refine done_ (by kernel_rfl) ?_
    have HY0' := HY0
    obtain ⟨A4, c4, e4⟩ := Kd.N_slice HY0.out
    subst e4
    go_wp2_with (first
     | (go_at_call 24; (with_reducible refine (judge_Subset.calls _ _ y _ _ al true _ ?s1 ?s2 ?s3 ?s4 EY1.out).mono ?_); (case s1 => exact (Kd.N_reads' HY0.out).2.2); (case s2 => exact (Kd.N_reads' HY0.out).2.1); (case s3 => exact (Kd.N_reads' HN0.out).2.2); (case s4 => exact (Kd.N_reads' HN0.out).2.1); rintro e_ wu1 ⟨rfl, hb⟩; have HN1 := Aside0.mk (Kd.N_below HN0.out hb); have HY1 := Aside0.mk (Kd.N_below HY0.out hb); have HC1 := Aside0.mk (below_step HC0.out hb); clear hb)
     | (go_at_call 24; (with_reducible refine (judge_Subset.calls _ _ al _ _ y false _ ?s1 ?s2 ?s3 ?s4 EY2.out).mono ?_); (case s1 => exact (Kd.N_reads' HN1.out).2.2); (case s2 => exact (Kd.N_reads' HN1.out).2.1); (case s3 => exact (Kd.N_reads' HY1.out).2.2); (case s4 => exact (Kd.N_reads' HY1.out).2.1); rintro e_ wu2 ⟨rfl, hb⟩; have HN2 := Aside0.mk (Kd.N_below HN1.out hb); have HY2 := Aside0.mk (Kd.N_below HY1.out hb); have HC2 := Aside0.mk (below_step HC1.out hb); clear hb)
     | (go_at_call 24; (with_reducible refine (judge_Subset.calls _ _ al _ _ al true _ ?s1 ?s2 ?s3 ?s4 E1.out).mono ?_); (case s1 => exact (Kd.N_reads' HN2.out).2.2); (case s2 => exact (Kd.N_reads' HN2.out).2.1); (case s3 => exact (Kd.N_reads' HN2.out).2.2); (case s4 => exact (Kd.N_reads' HN2.out).2.1); rintro e_ wu3 ⟨rfl, hb⟩; have HN3 := Aside0.mk (Kd.N_below HN2.out hb); have HY3 := Aside0.mk (Kd.N_below HY2.out hb); have HC3 := Aside0.mk (below_step HC2.out hb); clear hb)
     | (go_at_call 24; (refine (judge_Subset.calls _ _ ([] : List S64) _ _ y true _ ?s1 ?s2 ?s3 ?s4 EY3.out).mono ?_); (case s1 => exact Kd.C_nil _ _); (case s2 => exact Nat.le_refl _); (case s3 => exact (Kd.N_reads' HY3.out).2.2); (case s4 => exact (Kd.N_reads' HY3.out).2.1); rintro e_ wu4 ⟨rfl, hb⟩; have HN4 := Aside0.mk (Kd.N_below HN3.out hb); have HY4 := Aside0.mk (Kd.N_below HY3.out hb); have HC4 := Aside0.mk (below_step HC3.out hb); clear hb))
    go_ret
    exact ⟨by first | rfl | simp, HC4.out⟩
end Go.Proofs.Ythjhkcebcgdeoaa.Q

set_option linter.unusedVariables false
namespace Go.Proofs.Ythjhkcebcgdeoaa.Q
open Go.RowKit Go.Proofs.Ythjhkcebcgdeoaa.Q Go.Proofs.YthjhkcebcgdeoaaW.PrintWords Go.Proofs.YthjhkcebcgdeoaaW.PrintLast Go.Proofs.YthjhkcebcgdeoaaW.PrintMore
def tenementlaw22_JudgeSubsets.Pure : Prop := ∀ (x0 : List (S61)) (x1 : Int), ((∀ x_ ∈ x0, wf61 x_) ∧ x0.length * 80 ≤ 140737488351232) → ((Lit.int .u8 x1).wf = true) → tenementlaw22_JudgeSubsets.f x0 x1 = some true
end Go.Proofs.Ythjhkcebcgdeoaa.Q

set_option linter.unusedVariables false
set_option linter.unusedSimpArgs false
namespace Go.Proofs.Ythjhkcebcgdeoaa.Pure
open Go.RowKit Go.Proofs.Ythjhkcebcgdeoaa.Q Go.Proofs.YthjhkcebcgdeoaaW.PrintWords Go.Proofs.YthjhkcebcgdeoaaW.PrintLast Go.Proofs.YthjhkcebcgdeoaaW.PrintMore Go.Proofs.Ythjhkcebcgdeoaa.Plain
abbrev Wr := S24
abbrev Pt := S26
def fits (x : Wr) : Prop := x.f0.size ≤ 140737488351232 ∧ x.f1.size ≤ 140737488351232 ∧ x.f2.size ≤ 140737488351232
theorem str_size (l : List Int) : (strOfNums l).size = l.length := by
 unfold strOfNums
 simp [ByteArray.size]
def wrt (p : Pt) (own : Bool) : Wr :=
 if own = true then (if 224 ≤ p.f2 then ⟨strOfNums [98, IntKind.u8.wrap (48 + Int.tmod p.f2 2)], strOfNums [IntKind.u8.wrap (97 + Int.tmod (IntKind.u8.wrap (Int.tdiv p.f2 2)) 4)], ⟨#[]⟩, true⟩
  else ⟨strOfNums [98, IntKind.u8.wrap (48 + Int.tmod p.f2 2)], strOfNums [IntKind.u8.wrap (97 + Int.tmod (IntKind.u8.wrap (Int.tdiv p.f2 2)) 4)], p.f0.f2.extract 0 (min p.f0.f2.size 8), false⟩)
 else p.f0
theorem wrt_f (p : Pt) (own : Bool) (h : fits p.f0) : tenementlaw22_Put_write.f p.f0.f0 p.f0.f1 p.f0.f2 p.f0.f3 own p.f2 = some ((wrt p own).f0, (wrt p own).f1, (wrt p own).f2, (wrt p own).f3) := by
 unfold tenementlaw22_Put_write.f wrt
 cases own with
 | true =>
  rw [if_pos rfl, if_pos rfl, if_pos (by have := h.2.2; omega)]
  by_cases c : 224 ≤ p.f2
  ·rw [if_pos c, if_pos c]
  ·rw [if_neg c, if_neg c]
 | false => rw [if_neg (by simp), if_neg (by simp)]
theorem wrt_fits (p : Pt) (own : Bool) (h : fits p.f0) : fits (wrt p own) := by
 unfold wrt
 cases own with
 | true =>
  rw [if_pos rfl]
  have z : (⟨#[]⟩ : ByteArray).size = 0 := rfl
  by_cases c : 224 ≤ p.f2
  ·rw [if_pos c]
   refine ⟨?_, ?_, ?_⟩
   ·show (strOfNums _).size ≤ _; rw [str_size]; simp
   ·show (strOfNums _).size ≤ _; rw [str_size]; simp
   ·show (⟨#[]⟩ : ByteArray).size ≤ _; omega
  ·rw [if_neg c]
   refine ⟨?_, ?_, ?_⟩
   ·show (strOfNums _).size ≤ _; rw [str_size]; simp
   ·show (strOfNums _).size ≤ _; rw [str_size]; simp
   ·show (ByteArray.extract _ _ _).size ≤ _; rw [ByteArray.size_extract]; omega
 | false => rw [if_neg (by simp)]; exact h
def same (w y : Wr) : Bool := decide (y.f0 = w.f0) && decide (y.f1 = w.f1)
def wrs (most : Nat) (whole : Bool) : List Pt → List Wr → List Wr
 | [], out => out
 | p :: ps, out => if out.length < most then (if (whole && out.any (same (wrt p (whole || p.f1)))) = true then wrs most whole ps out else wrs most whole ps (out ++ [wrt p (whole || p.f1)])) else out
theorem wrs_len (most : Nat) (whole : Bool) : ∀ l out, out.length ≤ most → (wrs most whole l out).length ≤ most
 | [], out, h => h
 | p :: ps, out, h => by
  unfold wrs
  by_cases c : out.length < most
  ·rw [if_pos c]
   split
   ·exact wrs_len most whole ps out h
   ·exact wrs_len most whole ps _ (by simp; omega)
  ·rw [if_neg c]; exact h
theorem wrs_all (most : Nat) (whole : Bool) (Q : Wr → Prop) : ∀ l out, (∀ p ∈ l, Q (wrt p (whole || p.f1))) → (∀ x ∈ out, Q x) → ∀ x ∈ wrs most whole l out, Q x
 | [], out, _, h => h
 | p :: ps, out, hl, h => by
  unfold wrs
  have hl' : ∀ q ∈ ps, Q (wrt q (whole || q.f1)) := fun q hq => hl q (by simp [hq])
  split
  ·split
   ·exact wrs_all most whole Q ps out hl' h
   ·refine wrs_all most whole Q ps _ hl' (fun x hx => ?_)
    rcases List.mem_append.1 hx with hx | hx
    ·exact h x hx
    ·rw [List.mem_singleton.1 hx]; exact hl p (by simp)
  ·exact h
theorem idx (i : Nat) (h : i ≤ 4611686018427387904) : wrap64 ((i : Int) + 1) = ((i + 1 : Nat) : Int) := by
 rw [wrap64_id (by omega) (by omega)]
 omega
theorem rdW (l : List Wr) (j : Nat) (h : j < l.length) : rd_T24 l (j : Int) = l[j] := by
 unfold rd_T24
 rw [Int.toNat_natCast, List.getD_eq_getElem?_getD, List.getElem?_eq_getElem h]
 rfl
theorem rdP (l : List Pt) (j : Nat) (h : j < l.length) : rd_T26 l (j : Int) = l[j] := by
 unfold rd_T26
 rw [Int.toNat_natCast, List.getD_eq_getElem?_getD, List.getElem?_eq_getElem h]
 rfl
theorem wr_l1 (l : List Pt) (most : Int) (whole : Bool) (out : List Wr) (i : Int) (w : Wr) (h7 : out.length ≤ 1000) (K : Nat) : ∀ d j fl, j + d = out.length →
  tenementlaw22_writes.l1 (K + d + 1) l most whole out i fl (j : Int) w.f0 w.f1 w.f2 w.f3 =
   if (whole && (fl || (out.drop j).any (same w))) = true then tenementlaw22_writes.l0 K l most whole out (wrap64 (i + 1)) else tenementlaw22_writes.l0 K l most whole (out ++ [w]) (wrap64 (i + 1)) := by
 intro d
 induction d with
 | zero =>
  intro j fl hj
  have e : out.drop j = [] := List.drop_eq_nil_of_le (by omega)
  rw [Nat.add_zero, tenementlaw22_writes.l1, if_neg (by omega), e, List.any_nil, Bool.or_false]
  cases whole with
  | true =>
   rw [if_pos rfl]
   cases fl with
   | true => rw [if_pos rfl, if_pos (by rfl)]
   | false => rw [if_neg (by simp), if_pos (by omega), if_neg (by simp)]
  | false => rw [if_neg (by simp), if_pos (by omega), if_neg (by simp)]
 | succ d ih =>
  intro j fl hj
  have hlt : j < out.length := by omega
  have e : out.drop j = out[j] :: out.drop (j + 1) := List.drop_eq_getElem_cons hlt
  rw [show K + (d + 1) + 1 = (K + d + 1) + 1 by omega, tenementlaw22_writes.l1, if_pos (by omega), idx j (by omega), e, List.any_cons]
  cases fl with
  | true =>
   rw [if_pos rfl, ih (j + 1) true (by omega)]
   simp only [Bool.true_or]
  | false =>
   rw [if_neg (by simp), if_pos (by omega), rdW out j hlt, Bool.false_or]
   by_cases c : (out[j].f0).toList = w.f0.toList
   ·rw [if_pos c, ih (j + 1) _ (by omega)]
    have c0 := toList_iff.1 c
    have hs : ((out[j].f1).toList == w.f1.toList) = same w out[j] := by
     unfold same
     rw [decide_eq_true c0, Bool.true_and]
     by_cases c1 : out[j].f1 = w.f1
     ·rw [decide_eq_true c1, c1]; simp
     ·rw [decide_eq_false c1]
      exact beq_eq_false_iff_ne.2 (fun h => c1 (toList_iff.1 h))
    rw [hs]
   ·rw [if_neg c, ih (j + 1) _ (by omega)]
    have hs : same w out[j] = false := by
     unfold same
     rw [decide_eq_false (fun h => c (by rw [h])), Bool.false_and]
    rw [hs, Bool.false_or]
theorem wr_l0 (l : List Pt) (most : Nat) (hm : most ≤ 100) (whole : Bool) (hl : ∀ p ∈ l, fits p.f0) (hz : l.length ≤ 4611686018427387904) : ∀ d i (out : List Wr) K, i + d = l.length → out.length ≤ most → (d + 1) * (most + 5) ≤ K →
  tenementlaw22_writes.l0 K l (most : Int) whole out (i : Int) = some (wrs most whole (l.drop i) out) := by
 intro d
 induction d with
 | zero =>
  intro i out K hi ho hK
  obtain ⟨K, rfl⟩ : ∃ m, K = m + 2 := ⟨K - 2, by omega⟩
  have e : l.drop i = [] := List.drop_eq_nil_of_le (by omega)
  rw [tenementlaw22_writes.l0, if_neg (by omega), tenementlaw22_writes.j1, if_neg (by simp), e]
  rfl
 | succ d ih =>
  intro i out K hi ho hK
  have hlt : i < l.length := by omega
  have e : l.drop i = l[i] :: l.drop (i + 1) := List.drop_eq_getElem_cons hlt
  have hK' : (d + 1) * (most + 5) + (most + 5) ≤ K := by
   rw [show (d + 1 + 1) * (most + 5) = (d + 1) * (most + 5) + (most + 5) by rw [Nat.add_mul, Nat.one_mul]] at hK
   exact hK
  have hf : fits l[i].f0 := hl _ (List.getElem_mem _)
  rw [e]
  unfold wrs
  by_cases c : out.length < most
  ·rw [if_pos c]
   obtain ⟨m, hm'⟩ : ∃ m, K = (m + out.length + 1) + 3 ∧ (d + 1) * (most + 5) ≤ m := ⟨K - out.length - 4, by omega, by omega⟩
   rw [hm'.1, tenementlaw22_writes.l0, if_pos (by omega), decide_eq_true (by omega : (out.length : Int) < (most : Int)), tenementlaw22_writes.j1, if_pos rfl, if_pos (by omega), if_pos (by omega), rdP l i hlt]
   have key : ∀ own : Bool, own = (whole || l[i].f1) → tenementlaw22_writes.j2 (m + out.length + 1 + 1) l (most : Int) whole out (i : Int) l[i].f0.f0 l[i].f0.f1 l[i].f0.f2 l[i].f0.f3 own l[i].f2 =
     some (if (whole && out.any (same (wrt l[i] (whole || l[i].f1)))) = true then wrs most whole (l.drop (i + 1)) out else wrs most whole (l.drop (i + 1)) (out ++ [wrt l[i] (whole || l[i].f1)])) := by
    intro own ho'
    rw [tenementlaw22_writes.j2, wrt_f _ _ hf, Option.bind_some]
    show tenementlaw22_writes.l1 (m + out.length + 1) l (most : Int) whole out (i : Int) false 0 (wrt l[i] own).f0 (wrt l[i] own).f1 (wrt l[i] own).f2 (wrt l[i] own).f3 = _
    have h1 := wr_l1 l (most : Int) whole out (i : Int) (wrt l[i] own) (by omega) m out.length 0 false (by omega)
    rw [show ((0 : Nat) : Int) = 0 from rfl] at h1
    rw [h1, List.drop_zero, Bool.false_or, idx i (by omega), ho']
    split
    ·rw [ih (i + 1) out m (by omega) ho hm'.2]
    ·rw [ih (i + 1) _ m (by omega) (by simp; omega) hm'.2]
   cases whole with
   | true =>
    rw [if_pos rfl, key true rfl]
   | false =>
    rw [if_neg (by simp), key _ (by simp)]
  ·rw [if_neg c]
   obtain ⟨m, rfl⟩ : ∃ m, K = m + 2 := ⟨K - 2, by omega⟩
   rw [tenementlaw22_writes.l0, if_pos (by omega), decide_eq_false (by omega : ¬ (out.length : Int) < (most : Int)), tenementlaw22_writes.j1, if_neg (by simp)]
theorem writes_f (l : List Pt) (most : Nat) (hm : most ≤ 100) (whole : Bool) (hl : ∀ p ∈ l, fits p.f0) (hz : l.length ≤ 4611686018427387904) {K : Nat} (hK : (l.length + 1) * (most + 5) ≤ K) :
  tenementlaw22_writes.f K l (most : Int) whole = some (wrs most whole l []) := by
 unfold tenementlaw22_writes.f
 have := wr_l0 l most hm whole hl hz l.length 0 [] K (by omega) (by simp) hK
 rw [show ((0 : Nat) : Int) = 0 from rfl, List.drop_zero] at this
 exact this
end Go.Proofs.Ythjhkcebcgdeoaa.Pure

set_option linter.unusedVariables false
set_option linter.unusedSimpArgs false
namespace Go.Proofs.Ythjhkcebcgdeoaa.Pure
open Go Go.RowKit Go.Proofs.Ythjhkcebcgdeoaa.Q Go.Proofs.YthjhkcebcgdeoaaW.PrintWords Go.Proofs.YthjhkcebcgdeoaaW.PrintLast Go.Proofs.YthjhkcebcgdeoaaW.PrintMore Go.Proofs.Ythjhkcebcgdeoaa.Plain
open Go.Proofs.Ythjhkcebcgdeoaa.Jud (Tx St)
abbrev Dl := S61
theorem deal_own3 (v0 v1 v2 v3 d : Int) (h0 : (Lit.int .u64 v0).wf = true) (h1 : (Lit.int .u64 v1).wf = true) (h2 : (Lit.int .u64 v2).wf = true) (o : Bool) (l : List Pt) (hl : ∀ p ∈ l, fits p.f0) (hz : l.length ≤ 4611686018427387904) {K : Nat} (hK : (l.length + 1) * 15 + 10 ≤ K) :
  ∃ (a b c g e : Nat) (xs : List Wr), tenementlaw22_Deal_deal.f K v0 v1 v2 v3 d o l true = some ((a : Int), (b : Int), (c : Int), (g : Int), (e : Int), xs) ∧ (a ≤ 4 ∧ b ≤ 4 ∧ c ≤ 4 ∧ g ≤ 4) ∧ 1 ≤ e ∧ e ≤ 3 ∧ (∀ x ∈ xs, fits x) ∧ 1 ≤ xs.length ∧ xs.length ≤ 8 := by
 unfold tenementlaw22_Deal_deal.f
 obtain ⟨n0, n1, n2, n3, dc, em, hn4, hd1, hd3, hS⟩ := mark_own (v3 := v3) (d := d) h0 h1 h2 (k := K) (by omega)
 have ew := writes_f l 8 (by omega) true hl hz (K := K) (by omega)
 have hln := wrs_len 8 true l [] (by simp)
 rw [show ((8 : Nat) : Int) = 8 from rfl] at ew
 rw [if_pos rfl, em, Option.bind_some, ew, Option.bind_some]
 by_cases c : ((wrs 8 true l []).length : Int) = 0
 ·rw [if_pos c]
  have z2 : (⟨#[98, 48]⟩ : ByteArray).size = 2 := rfl
  have z1 : (⟨#[97]⟩ : ByteArray).size = 1 := rfl
  have z3 : (⟨#[118]⟩ : ByteArray).size = 1 := rfl
  refine ⟨n0, n1, n2, n3, dc, _, rfl, hn4, hd1, hd3, ?_, by simp, by simp⟩
  intro x hx1
  rw [List.mem_singleton.1 hx1]
  exact ⟨show (⟨#[98, 48]⟩ : ByteArray).size ≤ _ by omega, show (⟨#[97]⟩ : ByteArray).size ≤ _ by omega, show (⟨#[118]⟩ : ByteArray).size ≤ _ by omega⟩
 ·rw [if_neg c]
  exact ⟨n0, n1, n2, n3, dc, _, rfl, hn4, hd1, hd3, wrs_all 8 true fits l [] (fun p hp => wrt_fits p _ (hl p hp)) (by simp), by omega, hln⟩
def OwnN (i : Nat) (t : Tx) : Prop := ((t.f0.f1 = 1 ∧ t.f0.f0.f0 = (i : Int) + 1) ∨ (t.f0.f1 = 2 ∧ t.f0.f0.f1 = (i : Int) + 1) ∨ (t.f0.f1 = 3 ∧ t.f0.f0.f2 = (i : Int) + 1)) ∧ 1 ≤ t.f1.length ∧ t.f1.length ≤ 8 ∧ (∀ x ∈ t.f1, fits x) ∧ (0 ≤ t.f0.f0.f0 ∧ t.f0.f0.f0 ≤ 1000) ∧ (0 ≤ t.f0.f0.f1 ∧ t.f0.f0.f1 ≤ 1000) ∧ (0 ≤ t.f0.f0.f2 ∧ t.f0.f0.f2 ≤ 1000) ∧ (0 ≤ t.f0.f0.f3 ∧ t.f0.f0.f3 ≤ 1000)
def Owned (l : List Tx) : Prop := ∀ i t, l[i]? = some t → OwnN i t
theorem owned_snoc {l : List Tx} {t : Tx} (h : Owned l) (ht : OwnN l.length t) : Owned (l ++ [t]) := by
 intro i x hx
 rcases Nat.lt_trichotomy i l.length with hlt | rfl | hgt
 ·rw [List.getElem?_append_left hlt] at hx
  exact h i x hx
 ·rw [List.getElem?_append_right (Nat.le_refl _), Nat.sub_self] at hx
  obtain rfl := Option.some.inj hx
  exact ht
 ·rw [List.getElem?_append_right (by omega), List.getElem?_eq_none (by simp; omega)] at hx
  cases hx
theorem own_deal (l : List Pt) (hl : ∀ p ∈ l, fits p.f0) (hz : l.length ≤ 4611686018427387904) (v0 v1 v2 v3 d : Int) (h0 : (Lit.int .u64 v0).wf = true) (h1 : (Lit.int .u64 v1).wf = true) (h2 : (Lit.int .u64 v2).wf = true) (o : Bool) (i : Nat) (hi : i < 100) {K : Nat} (hK : (l.length + 1) * 15 + 10 ≤ K) :
  ∃ (a b c g e : Int) (xs : List Wr) (a' b' c' g' : Int), tenementlaw22_Deal_deal.f K v0 v1 v2 v3 d o l true = some (a, b, c, g, e, xs) ∧ vec_With.f a b c g e (IntKind.u64.wrap (wrap64 ((i : Int) + 1))) = some (a', b', c', g') ∧ OwnN i ⟨⟨⟨a', b', c', g'⟩, e⟩, xs⟩ := by
 obtain ⟨a, b, c, g, e, xs, hf, hn, he1, he3, hfx, hx1, hx8⟩ := deal_own3 v0 v1 v2 v3 d h0 h1 h2 o l hl hz hK
 have hw : IntKind.u64.wrap (wrap64 ((i : Int) + 1)) = (i : Int) + 1 := by rw [wrap64_id (by omega) (by omega), IntKind.wrap_u64]; omega
 refine ⟨a, b, c, g, e, xs, _, _, _, _, hf, rfl, ?_⟩
 rw [hw]
 refine ⟨?_, hx1, hx8, hfx, ?_, ?_, ?_, ?_⟩
 ·rcases (show e = 1 ∨ e = 2 ∨ e = 3 by omega) with rfl | rfl | rfl
  ·exact .inl ⟨rfl, rfl⟩
  ·exact .inr (.inl ⟨rfl, rfl⟩)
  ·exact .inr (.inr ⟨rfl, rfl⟩)
 ·show 0 ≤ (if (e : Int) = 1 then (i : Int) + 1 else a) ∧ (if (e : Int) = 1 then (i : Int) + 1 else a) ≤ 1000
  split <;> omega
 ·show 0 ≤ (if (e : Int) = 2 then (i : Int) + 1 else b) ∧ (if (e : Int) = 2 then (i : Int) + 1 else b) ≤ 1000
  split <;> omega
 ·show 0 ≤ (if (e : Int) = 3 then (i : Int) + 1 else c) ∧ (if (e : Int) = 3 then (i : Int) + 1 else c) ≤ 1000
  split <;> omega
 ·show 0 ≤ (if (e : Int) = 4 then (i : Int) + 1 else g) ∧ (if (e : Int) = 4 then (i : Int) + 1 else g) ≤ 1000
  split <;> omega
theorem rd61 (l : List Dl) (j : Nat) (h : j < l.length) : rd_T61 l (j : Int) = l[j] := by
 unfold rd_T61
 rw [Int.toNat_natCast, List.getD_eq_getElem?_getD, List.getElem?_eq_getElem h]
 rfl
end Go.Proofs.Ythjhkcebcgdeoaa.Pure

set_option linter.unusedVariables false
set_option linter.unusedSimpArgs false
namespace Go.Proofs.Ythjhkcebcgdeoaa.Pure
open Go Go.RowKit Go.Proofs.Ythjhkcebcgdeoaa.Q Go.Proofs.YthjhkcebcgdeoaaW.PrintWords Go.Proofs.YthjhkcebcgdeoaaW.PrintLast Go.Proofs.YthjhkcebcgdeoaaW.PrintMore Go.Proofs.Ythjhkcebcgdeoaa.Plain
open Go.Proofs.Ythjhkcebcgdeoaa.Jud (Tx St one lst)
def MadeN (K : Nat) (p : Dl) (i : Nat) (t : Tx) : Prop := ∃ a b c g : Int, tenementlaw22_Deal_deal.f K p.f0.f0.f0.f0 p.f0.f0.f0.f1 p.f0.f0.f0.f2 p.f0.f0.f0.f3 p.f0.f0.f1 p.f0.f1 p.f1 true = some (a, b, c, g, t.f0.f1, t.f1) ∧ vec_With.f a b c g t.f0.f1 ((i : Int) + 1) = some (t.f0.f0.f0, t.f0.f0.f1, t.f0.f0.f2, t.f0.f0.f3)
theorem deals_most (x : List Dl) : ∃ M, ∀ p ∈ x, (p.f1.length + 1) * 15 + 10 ≤ M := by
 induction x with
 | nil => exact ⟨0, by simp⟩
 | cons p r ih =>
  obtain ⟨M, hM⟩ := ih
  refine ⟨M + ((p.f1.length + 1) * 15 + 10), fun q hq => ?_⟩
  rcases List.mem_cons.1 hq with rfl | hq
  ·omega
  ·have := hM q hq; omega
theorem rd_left (l : List Tx) (t : Tx) (i : Nat) (h : i < l.length) : rd_T64 (l ++ [t]) (i : Int) = rd_T64 l (i : Int) := by
 unfold rd_T64
 rw [Int.toNat_natCast, List.getD_eq_getElem?_getD, List.getD_eq_getElem?_getD, List.getElem?_append_left h]
theorem rd_last (l : List Tx) (t : Tx) : rd_T64 (l ++ [t]) (l.length : Int) = t := by
 unfold rd_T64
 rw [Int.toNat_natCast, List.getD_eq_getElem?_getD, List.getElem?_append_right (Nat.le_refl _), Nat.sub_self]
 rfl
theorem made_ex (x : List Dl) (hx : ∀ p ∈ x, wf61 p) {M K : Nat} (hM : ∀ p ∈ x, (p.f1.length + 1) * 15 + 10 ≤ M) (hK : M ≤ K) : ∀ n, n ≤ x.length → n ≤ 10 →
  ∃ al : List Tx, al.length = n ∧ Owned al ∧ ∀ i : Nat, i < al.length → MadeN K (rd_T61 x i) i (rd_T64 al i) := by
 intro n
 induction n with
 | zero => exact fun _ _ => ⟨[], rfl, fun i t h => by simp at h, fun i h => absurd h (Nat.not_lt_zero _)⟩
 | succ n ih =>
  intro h1 h2
  obtain ⟨al, hl, hO, hm⟩ := ih (by omega) (by omega)
  have hrd := rd61 x n (by omega)
  have hmem : x[n]'(by omega) ∈ x := List.getElem_mem _
  have hw := hx _ hmem
  have hMk := hM _ hmem
  rw [← hrd] at hw hMk
  obtain ⟨p, hp⟩ : ∃ p, p = rd_T61 x (n : Int) := ⟨_, rfl⟩
  rw [← hp] at hw hMk
  obtain ⟨⟨⟨⟨v0, v1, v2, v3⟩, dd⟩, o⟩, ps, own⟩ := p
  have hl' : ∀ p ∈ ps, fits p.f0 := fun p hp => ⟨(hw.2.1.1 p hp).1.1, (hw.2.1.1 p hp).1.2.1, (hw.2.1.1 p hp).1.2.2.1⟩
  have hps : ps.length * 64 ≤ 140737488351232 := hw.2.1.2
  obtain ⟨a, b, c', g, e, xs, a', b', c'', g', hf, hwith, hown⟩ := own_deal ps hl' (by omega) v0 v1 v2 v3 dd hw.1.1.1.1 hw.1.1.1.2.1 hw.1.1.1.2.2.1 o n (by omega) (K := K) (by simp only at hMk; omega)
  rw [show IntKind.u64.wrap (wrap64 ((n : Int) + 1)) = (n : Int) + 1 by rw [wrap64_id (by omega) (by omega), IntKind.wrap_u64]; omega] at hwith
  refine ⟨al ++ [⟨⟨⟨a', b', c'', g'⟩, e⟩, xs⟩], by simp [hl], owned_snoc hO (by rw [hl]; exact hown), fun i hi => ?_⟩
  by_cases c : i < al.length
  ·rw [rd_left al _ i c]
   exact hm i c
  ·have hin : i = n := by rw [List.length_append, List.length_singleton] at hi; omega
   subst hin
   rw [← hp, ← hl, rd_last, hl]
   exact ⟨a, b, c', g, hf, hwith⟩
def sn (a b c d : Int) (x : St) : Bool := decide (x.f0.f0 ≤ a ∧ x.f0.f1 ≤ b ∧ x.f0.f2 ≤ c ∧ x.f0.f3 ≤ d)
end Go.Proofs.Ythjhkcebcgdeoaa.Pure

set_option linter.unusedVariables false
set_option linter.unusedSimpArgs false
namespace Go.Proofs.Ythjhkcebcgdeoaa.Pure
open Go Go.RowKit Go.Proofs.Ythjhkcebcgdeoaa.Q Go.Proofs.YthjhkcebcgdeoaaW.PrintWords Go.Proofs.YthjhkcebcgdeoaaW.PrintLast Go.Proofs.YthjhkcebcgdeoaaW.PrintMore Go.Proofs.Ythjhkcebcgdeoaa.Plain
open Go.Proofs.Ythjhkcebcgdeoaa.Jud (Tx St same_self)
def smJ (x y : Tx) : Bool := sameJ x.f0.f0.f0 x.f0.f0.f1 x.f0.f0.f2 x.f0.f0.f3 x.f0.f1 x.f1 y.f0.f0.f0 y.f0.f0.f1 y.f0.f0.f2 y.f0.f0.f3 y.f0.f1 y.f1
theorem smJ_self (x : Tx) : smJ x x = true := same_self x
def okL (l : List Tx) : Prop := l.length ≤ 1000 ∧ ∀ x ∈ l, x.f1.length ≤ 1000
theorem sub_f (a b : List Tx) (ha : okL a) (hb : okL b) : judge_Subset.f a b = some (a.all fun x => b.any fun y => smJ x y) := by
 unfold judge_Subset.f
 rw [if_pos ⟨⟨Nat.le_trans ha.1 (by decide), ha.2⟩, ⟨Nat.le_trans hb.1 (by decide), hb.2⟩⟩]
 rfl
theorem sub_of (a b : List Tx) (ha : okL a) (hb : okL b) (h : ∀ x ∈ a, x ∈ b) : judge_Subset.f a b = some true := by
 rw [sub_f a b ha hb]
 congr 1
 rw [List.all_eq_true]
 exact fun x hx => List.any_eq_true.2 ⟨x, h x hx, smJ_self x⟩
theorem smJ_own {i j : Nat} {x y : Tx} (hx : OwnN i x) (hy : OwnN j y) (h : smJ x y = true) : i = j := by
 unfold smJ sameJ at h
 simp only [Bool.and_eq_true, beq_iff_eq] at h
 obtain ⟨⟨⟨⟨e0, e1, e2, e3⟩, e4⟩, _⟩, _⟩ := h
 obtain ⟨hx, _⟩ := hx
 obtain ⟨hy, _⟩ := hy
 omega
theorem owned_ok {l : List Tx} (h : Owned l) (hl : l.length ≤ 10) : okL l := by
 refine ⟨by omega, fun x hx => ?_⟩
 obtain ⟨i, hi⟩ := List.mem_iff_getElem?.1 hx
 have := (h i x hi).2.2.1
 omega
theorem subsets_at (l : List Tx) (h : Owned l) (hl : l.length ≤ 10) : judge_Subset.f ([] : List Tx) [] = some true ∧ judge_Subset.f l l = some true ∧ ∀ k, k < l.length → judge_Subset.f (l.take k ++ l.drop (k + 1)) l = some true ∧ judge_Subset.f l (l.take k ++ l.drop (k + 1)) = some false ∧ judge_Subset.f ([] : List Tx) (l.take k ++ l.drop (k + 1)) = some true := by
 have hok := owned_ok h hl
 have hnil : okL ([] : List Tx) := ⟨by simp, by simp⟩
 refine ⟨sub_of [] [] hnil hnil (by simp), sub_of _ _ hok hok (fun x hx => hx), fun k hkn => ?_⟩
 have hrest : okL (l.take k ++ l.drop (k + 1)) := by
  refine ⟨by rw [List.length_append, List.length_take, List.length_drop]; omega, fun x hx => ?_⟩
  rcases List.mem_append.1 hx with hx | hx
  ·exact hok.2 x (List.mem_of_mem_take hx)
  ·exact hok.2 x (List.mem_of_mem_drop hx)
 have e1 : judge_Subset.f (l.take k ++ l.drop (k + 1)) l = some true := sub_of _ _ hrest hok (fun x hx => by
  rcases List.mem_append.1 hx with hx | hx
  ·exact List.mem_of_mem_take hx
  ·exact List.mem_of_mem_drop hx)
 have e2 : judge_Subset.f l (l.take k ++ l.drop (k + 1)) = some false := by
  rw [sub_f _ _ hok hrest]
  congr 1
  rw [List.all_eq_false]
  have hg : l[k]? = some l[k] := List.getElem?_eq_getElem hkn
  refine ⟨l[k], List.getElem_mem hkn, ?_⟩
  simp only [Bool.not_eq_true]
  rw [List.any_eq_false]
  intro y hy hs
  rcases List.mem_append.1 hy with hy | hy
  ·obtain ⟨j, hj⟩ := List.mem_iff_getElem?.1 hy
   rw [List.getElem?_take] at hj
   split at hj
   ·have := smJ_own (h k _ hg) (h j _ hj) hs
    omega
   ·cases hj
  ·obtain ⟨j, hj⟩ := List.mem_iff_getElem?.1 hy
   rw [List.getElem?_drop] at hj
   have := smJ_own (h k _ hg) (h _ _ hj) hs
   omega
 exact ⟨e1, e2, sub_of _ _ hnil hrest (by simp)⟩
theorem JudgeSubsets : tenementlaw22_JudgeSubsets.Pure := by
 intro x n hx hn
 obtain ⟨M, hM⟩ := deals_most x
 obtain ⟨al, hl, hO, hmd⟩ := made_ex x hx.1 hM (Nat.le_refl _) (min x.length 10) (by omega) (by omega)
 obtain ⟨e1, e2, e3⟩ := subsets_at al hO (by omega)
 unfold tenementlaw22_JudgeSubsets.f
 exact if_pos ⟨M, al, u8_of hn, ⟨hl, hmd⟩, e1, e2, e3⟩
end Go.Proofs.Ythjhkcebcgdeoaa.Pure
