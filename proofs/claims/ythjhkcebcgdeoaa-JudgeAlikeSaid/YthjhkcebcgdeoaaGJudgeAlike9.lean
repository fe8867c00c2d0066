import Derived.Test.YthjhkcebcgdeoaaGJudgeAlike2
import Derived.Test.YthjhkcebcgdeoaaGJudgeAlike4
import Derived.Test.YthjhkcebcgdeoaaGJudgeAlike5
import Derived.Test.YthjhkcebcgdeoaaGJudgeAlike8
import Derived.Test.YthjhkcebcgdeoaaGJudgeAlike6
import Derived.Test.YthjhkcebcgdeoaaGJudgeAlike7
import Derived.Test.YthjhkcebcgdeoaaGJudgeAlike0
import Derived.Test.YthjhkcebcgdeoaaGJudgeAlike3
namespace Go.Proofs.Ythjhkcebcgdeoaa.Q
open Go.RowKit Go.Proofs.YthjhkcebcgdeoaaW.PrintWords Go.Proofs.YthjhkcebcgdeoaaW.PrintLast Go.Proofs.YthjhkcebcgdeoaaW.PrintMore
attribute [local go_sem] max2_int min2_int max_two min_two max_three min_three max_four min_four   -- for this text's walks alone
set_option linter.unusedVariables false
set_option linter.unusedSimpArgs false
def tenementlaw22_JudgeAlike.made (k : Nat) (l0 : List S61) (al : List S64) : Prop := al.length = min l0.length 10 ∧ ∀ i : Nat, i < al.length → ∃ a b c g : Int, tenementlaw22_Deal_deal.f k (rd_T61 l0 i).f0.f0.f0.f0 (rd_T61 l0 i).f0.f0.f0.f1 (rd_T61 l0 i).f0.f0.f0.f2 (rd_T61 l0 i).f0.f0.f0.f3 (rd_T61 l0 i).f0.f0.f1 (rd_T61 l0 i).f0.f1 (rd_T61 l0 i).f1 true = some (a, b, c, g, (rd_T64 al i).f0.f1, (rd_T64 al i).f1) ∧ vec_With.f a b c g (rd_T64 al i).f0.f1 ((i : Int) + 1) = some ((rd_T64 al i).f0.f0.f0, (rd_T64 al i).f0.f0.f1, (rd_T64 al i).f0.f0.f2, (rd_T64 al i).f0.f0.f3)
def tenementlaw22_JudgeAlike.ok (l0 : List S61) (a1_0 a1_1 a1_2 : ByteArray) (a1_3 a1_4 : Bool) (a1_5 : Int) (k : Nat) (al : List S64) (jo : Nat → Int × Int × Int × Int) (wb wk wv : ByteArray) (wg : Bool) (b : ByteArray) (o1 : Bool) (os : List Int) (n : Int) : Prop := tenementlaw22_JudgeAlike.made k l0 al ∧ jo 0 = (0, 0, 0, 0) ∧ (∀ i : Nat, i < al.length → vec_Join.f (jo i).1 (jo i).2.1 (jo i).2.2.1 (jo i).2.2.2 (rd_T64 al i).f0.f0.f0 (rd_T64 al i).f0.f0.f1 (rd_T64 al i).f0.f0.f2 (rd_T64 al i).f0.f0.f3 = some (jo (i + 1))) ∧ tenementlaw22_Put_write.f a1_0 a1_1 a1_2 a1_3 true a1_5 = some (wb, wk, wv, wg) ∧ judge_Last.f al wb wk = some (b, o1) ∧ judge_Last.f al.reverse wb wk = some (b, o1) ∧ judge_Read.f al.reverse wb wk (jo al.length).1 (jo al.length).2.1 (jo al.length).2.2.1 (jo al.length).2.2.2 = some (b, o1) ∧ judge_Order.f al = some os ∧ os.length = al.length ∧ (∀ q : Int, 0 ≤ q → q < os.length → 0 ≤ rd os q ∧ rd os q < al.length) ∧ (∀ q : Int, 1 ≤ q → q < os.length → ∃ r : Int, r < 0 ∧ stamp_Order.f k (rd_T64 al (rd os (q - 1))).f0.f0.f0 (rd_T64 al (rd os (q - 1))).f0.f0.f1 (rd_T64 al (rd os (q - 1))).f0.f0.f2 (rd_T64 al (rd os (q - 1))).f0.f0.f3 (rd_T64 al (rd os (q - 1))).f0.f1 (rd_T64 al (rd os q)).f0.f0.f0 (rd_T64 al (rd os q)).f0.f0.f1 (rd_T64 al (rd os q)).f0.f0.f2 (rd_T64 al (rd os q)).f0.f0.f3 (rd_T64 al (rd os q)).f0.f1 = some r) ∧ judge_Live.f al = some n ∧ judge_Live.f al.reverse = some n ∧ judge_Subset.f al al.reverse = some true ∧ judge_Subset.f al.reverse al = some true
open Classical in
noncomputable def tenementlaw22_JudgeAlike.f (l0 : List S61) (a1_0 a1_1 a1_2 : ByteArray) (a1_3 a1_4 : Bool) (a1_5 : Int) : Option Bool := if ∃ (k : Nat) (al : List S64) (jo : Nat → Int × Int × Int × Int) (wb wk wv : ByteArray) (wg : Bool) (b : ByteArray) (o1 : Bool) (os : List Int) (n : Int), tenementlaw22_JudgeAlike.ok l0 a1_0 a1_1 a1_2 a1_3 a1_4 a1_5 k al jo wb wk wv wg b o1 os n then some true else none
set_option maxHeartbeats 16000000 in
set_option maxRecDepth 100000 in
theorem tenementlaw22_JudgeAlike.calls (A0 : Option Addr) (c0 : Nat) (l0 : List S61) (a1_0 a1_1 a1_2 : ByteArray) (a1_3 a1_4 : Bool) (a1_5 : Int) (r : Bool) (w : World) (hr0 : Kd.C k61 w A0 l0.length l0) (hc0 : l0.length ≤ c0) (h : tenementlaw22_JudgeAlike.f l0 a1_0 a1_1 a1_2 a1_3 a1_4 a1_5 = some r) :
  Calls Try.prog 6 #[.slice A0 l0.length c0, .agg #[.string a1_0, .string a1_1, .string a1_2, .bool a1_3, .bool a1_4, .int .u8 a1_5]] w fun e w' => e = .returned (.bool r) ∧ Below w.heap.size w w' := by
 unfold tenementlaw22_JudgeAlike.f at h
 by_cases hw : ∃ (k : Nat) (al : List S64) (jo : Nat → Int × Int × Int × Int) (wb wk wv : ByteArray) (wg : Bool) (b : ByteArray) (o1 : Bool) (os : List Int) (n : Int), tenementlaw22_JudgeAlike.ok l0 a1_0 a1_1 a1_2 a1_3 a1_4 a1_5 k al jo wb wk wv wg b o1 os n
 rotate_left
 ·rw [if_neg hw] at h; cases h
 rw [if_pos hw] at h
 obtain rfl := Option.some.inj h
 clear h
 obtain ⟨k, al, jo, wb, wk, wv, wg, b, o1, os, n, h1, h2, h3, h4, h5, h6, h7, h8, h9, h10, h11, h12, h13, h14, h15⟩ := hw
 have HMA := Aside0.mk h1
 have HJ0 := Aside0.mk h2
 have HJO := Aside0.mk h3
 have HPW := Aside0.mk h4
 have E1 := Aside0.mk h5
 have E2 := Aside0.mk h6
 have E3 := Aside0.mk h7
 have E4 := Aside0.mk h8
 have HOL := Aside0.mk h9
 have HOS := Aside0.mk h10
 have HOO := Aside0.mk h11
 have E5 := Aside0.mk h12
 have E6 := Aside0.mk h13
 have E7 := Aside0.mk h14
 have E8 := Aside0.mk h15
 have HR0 := Aside0.mk hr0
 clear h1 h2 h3 h4 h5 h6 h7 h8 h9 h10 h11 h12 h13 h14 h15 hr0
 go_enter Try.func6, Try.ntmps6
 go_wp2_with (first
  | ((with_reducible refine gate_dst (N := 3) rfl ?_); refine Ka_ 3 #[.string a1_0, .string a1_1, .string a1_2, .bool a1_3, .bool a1_4, .int .u8 a1_5] 26 ?_; intro g3 hg w1 hbox hb; have GE3 : Aside0 (w.heap.size ≤ g3) := ⟨Nat.le_of_eq hg.symm⟩; have BK3a := Aside0.mk hbox; have HB1 := Aside0.mk hb; clear hb hbox hg)
  | ((with_reducible refine gate_dst (N := 21) rfl ?_); refine Kg_ (some 21) rfl rfl Try.func10 (by kernel_rfl) rfl #[] rfl ?_; (with_reducible refine (tenementlaw22_examples.calls true _ rfl).mono ?_); rintro e w2 ⟨rfl, hb⟩; refine ⟨_, rfl, ?_⟩; have BK3b := Aside0.mk (blk_below BK3a.out hb); have HB2 := Aside0.mk (below_step HB1.out hb); clear hb))
 have BK8 := Aside0.mk (blk_new w2 (Obj.cells #[.int .u64 0, .int .u64 0, .int .u64 0, .int .u64 0] 29))
 have BK3 := Aside0.mk (blk_alloc BK3b.out (Obj.cells #[.int .u64 0, .int .u64 0, .int .u64 0, .int .u64 0] 29))
 have HB3 := Aside0.mk (below_alloc HB2.out (Obj.cells #[.int .u64 0, .int .u64 0, .int .u64 0, .int .u64 0] 29))
 have GE8 : Aside0 (w.heap.size ≤ w2.heap.size) := ⟨below_size HB2.out⟩
 generalize w2.alloc (Obj.cells #[.int .u64 0, .int .u64 0, .int .u64 0, .int .u64 0] 29) = w3 at BK8 BK3 HB3 ⊢
 generalize w2.heap.size = g8 at BK8 GE8 ⊢
 clear BK3a BK3b HB1 HB2
 go_loopg [6, 7, 9] al.length (fun kq v6 v7 v9 wr => ∃ (i : Nat), v9 = .int .i64 i ∧ Aside0 (i ≤ al.length) ∧ Aside0 (al.length - i ≤ kq) ∧ Aside0 (Go.Proofs.Ythjhkcebcgdeoaa.Jud.LT wr w.heap.size (fun k => True ∧ Go.Proofs.Ythjhkcebcgdeoaa.Jud.off v7 k) v6 (al.take i)) ∧ Aside0 (Go.Proofs.Ythjhkcebcgdeoaa.Jud.LT wr w.heap.size (fun k => True ∧ Go.Proofs.Ythjhkcebcgdeoaa.Jud.off v6 k) v7 (al.take i).reverse) ∧ Aside0 (wr.heap[g8]? = some (.cells #[.int .u64 (jo i).1, .int .u64 (jo i).2.1, .int .u64 (jo i).2.2.1, .int .u64 (jo i).2.2.2] 29 (0, 0))) ∧ Aside0 (wr.heap[g3]? = some (.cells #[.string a1_0, .string a1_1, .string a1_2, .bool a1_3, .bool a1_4, .int .u8 a1_5] 26 (0, 0))) ∧ Aside0 (Below w.heap.size w wr))
 case atStart => exact ⟨0, rfl, ⟨by omega⟩, ⟨by omega⟩, ⟨by rw [List.take_zero]; exact Kd.R_nil _ _ _ _ _⟩, ⟨by rw [List.take_zero]; exact Kd.R_nil _ _ _ _ _⟩, ⟨by rw [HJ0.out]; exact BK8.out⟩, BK3, HB3⟩
 case round =>
  clear HB3 BK8 BK3
  obtain ⟨i, rfl, HI, HK, HA, HS, BK8, BK3, HB⟩ := hrel
  by_cases c1 : i < al.length
  ·have hL := HMA.out.1
   have c3 : i < l0.length := by omega
   have c4 : i < 10 := by omega
   have c1b : decide ((i : Int) < (l0.length : Int)) = true := decide_eq_true (by omega)
   have c2b : decide ((i : Int) < 10) = true := decide_eq_true (by omega)
   have c0b : decide (0 ≤ (i : Int)) = true := decide_eq_true (by omega)
   clear hL
   obtain ⟨q0, q1, q2, q3, hdl, hwi⟩ := HMA.out.2 i c1
   obtain ⟨ad, Ap, cp, e0, h0, h1, h2, h3, h4, h5, h6, h7, LP, GPh⟩ := at_T61 HR0.out (i : Int) (by omega) (by have := HMA.out.1; omega)
   cases e0
   replace h0 := (HB.out.cell (World.block_lt_of_cell? w _ h0)).trans h0
   replace h1 := (HB.out.cell (World.block_lt_of_cell? w _ h1)).trans h1
   replace h2 := (HB.out.cell (World.block_lt_of_cell? w _ h2)).trans h2
   replace h3 := (HB.out.cell (World.block_lt_of_cell? w _ h3)).trans h3
   replace h4 := (HB.out.cell (World.block_lt_of_cell? w _ h4)).trans h4
   replace h5 := (HB.out.cell (World.block_lt_of_cell? w _ h5)).trans h5
   replace h6 := (HB.out.cell (World.block_lt_of_cell? w _ h6)).trans h6
   replace h7 := (HB.out.cell (World.block_lt_of_cell? w _ h7)).trans h7
   have GP := Aside0.mk (Kd.C_below GPh HB.out)
   clear GPh
   simp only [Int.toNat_natCast] at h0 h1 h2 h3 h4 h5 h6 h7
   generalize rd_T61 l0 (i : Int) = px at h0 h1 h2 h3 h4 h5 h6 h7 LP GP hdl
   obtain ⟨⟨⟨⟨p0, p1, p2, p3⟩, p4⟩, p5⟩, p6, p7⟩ := px
   have hxx := Go.Proofs.Ythjhkcebcgdeoaa.Jud.rd64_eq al i c1
   obtain ⟨tx, htx⟩ : ∃ t_, rd_T64 al (i : Int) = t_ := ⟨_, rfl⟩
   rw [htx] at hdl hwi hxx
   obtain ⟨⟨⟨n0, n1, n2, n3⟩, q4⟩, q5⟩ := tx
   have HTT := Aside0.mk htx
   clear htx
   have HDL : Aside0 (tenementlaw22_Deal_deal.f k p0 p1 p2 p3 p4 p5 p6 true = some (q0, q1, q2, q3, q4, q5)) := ⟨hdl⟩
   have HWI : Aside0 (vec_With.f q0 q1 q2 q3 q4 ((i : Int) + 1) = some (n0, n1, n2, n3)) := ⟨hwi⟩
   have LP : p6.length ≤ cp := LP
   have GP : Aside0 (Kd.C k26 wr Ap p6.length p6) := GP
   have HTK : Aside0 (al.take (i + 1) = al.take i ++ [(⟨⟨⟨n0, n1, n2, n3⟩, q4⟩, q5⟩ : S64)]) := ⟨by rw [List.take_add_one, hxx]; rfl⟩
   clear hdl hwi hxx
   simp only at h0 h1 h2 h3 h4 h5 h6 h7
   have hjn := HJO.out i c1
   rw [HTT.out] at hjn
   obtain ⟨s0, s1, s2, s3, hs⟩ : ∃ s0 s1 s2 s3 : Int, jo i = (s0, s1, s2, s3) := ⟨_, _, _, _, rfl⟩
   obtain ⟨j0, j1, j2, j3, hs'⟩ : ∃ s0 s1 s2 s3 : Int, jo (i + 1) = (s0, s1, s2, s3) := ⟨_, _, _, _, rfl⟩
   have HJN : Aside0 (vec_Join.f s0 s1 s2 s3 n0 n1 n2 n3 = some (j0, j1, j2, j3)) := ⟨by rw [hs, hs'] at hjn; exact hjn⟩
   have HJS := Aside0.mk hs'
   rw [hs] at BK8
   simp only at BK8
   clear hjn hs hs'
   go_wp2_with (first
     | ((with_reducible refine gate_dst (N := 41) rfl ?_); refine Kg_ (some 41) rfl rfl Try.func26 (by kernel_rfl) rfl #[.agg #[.int .u64 p0, .int .u64 p1, .int .u64 p2, .int .u64 p3, .int .i64 p4, .bool p5, .slice Ap p6.length cp, .bool true]] rfl ?_; (with_reducible refine (tenementlaw22_Deal_deal.calls k p0 p1 p2 p3 p4 p5 Ap cp p6 true q0 q1 q2 q3 q4 q5 _ ?s1 LP ?s2).mono ?_); (case s1 => exact Kd.C_alloc GP.out _); (case s2 => exact HDL.out); rintro e wd ⟨vq, rfl, hR, hb⟩; refine ⟨_, rfl, ?_⟩; obtain ⟨Aq, cq, eq_⟩ := Kd.R_slice hR; subst eq_; have HRd : Aside0 (Go.Proofs.Ythjhkcebcgdeoaa.Jud.RW wd wr.heap.size (fun _ => True) (.slice Aq q5.length cq) q5) := ⟨Kd.R_lower hR (below_size (below_alloc (Below.refl _ _) _))⟩; have Hd := Aside0.mk (below_step (below_alloc (Below.refl _ _) _) hb); clear hb hR)
     | ((with_reducible refine gate_dst (N := 51) rfl ?_); refine Kg_ (some 51) rfl rfl Try.func29 (by kernel_rfl) rfl #[.agg #[.int .u64 q0, .int .u64 q1, .int .u64 q2, .int .u64 q3], .int .i64 q4, .int .u64 ((i : Int) + 1)] rfl ?_; (with_reducible refine (vec_With.calls q0 q1 q2 q3 q4 ((i : Int) + 1) n0 n1 n2 n3 _ HWI.out).mono ?_); rintro e ww ⟨rfl, hb⟩; refine ⟨_, rfl, ?_⟩; have BKw : Aside0 (ww.heap[wd.heap.size]? = some (.cells #[.int .u64 q0, .int .u64 q1, .int .u64 q2, .int .u64 q3, .int .i64 q4, .slice Aq q5.length cq] 64 (0, 0))) := ⟨blk_below (blk_new wd _) hb⟩; have GEt : Aside0 (wr.heap.size ≤ wd.heap.size) := ⟨Hd.out.size⟩; have Hw := Aside0.mk (below_step (below_alloc Hd.out _) hb); have HRw : Aside0 (Go.Proofs.Ythjhkcebcgdeoaa.Jud.RW ww wr.heap.size (fun _ => True) (.slice Aq q5.length cq) q5) := ⟨Kd.R_below HRd.out (below_step (below_alloc (Below.refl _ _) _) hb)⟩; clear hb HRd Hd; generalize wd.heap.size = gt at BKw GEt ⊢; obtain ⟨hwa0, hwa1, hwa2, hwa3, hwa4, hwa5, fwa0, fwa1, fwa2, fwa3, fwa4, fwa5⟩ := Ke6_ BKw.out)
     | ((with_reducible refine gate_builtin (b := .append) (xs := #[.tmp 54, .tmp 56]) rfl ?_); at_builtin; have Hz : Aside0 (Below wr.heap.size wr ((((ww.setCell ⟨gt, 0, none⟩ (.int .u64 n0)).setCell ⟨gt, 1, none⟩ (.int .u64 n1)).setCell ⟨gt, 2, none⟩ (.int .u64 n2)).setCell ⟨gt, 3, none⟩ (.int .u64 n3))) := ⟨((((((((Hw.out).setCell GEt.out _)).setCell GEt.out _)).setCell GEt.out _)).setCell GEt.out _)⟩; have BKz : Aside0 (((((ww.setCell ⟨gt, 0, none⟩ (.int .u64 n0)).setCell ⟨gt, 1, none⟩ (.int .u64 n1)).setCell ⟨gt, 2, none⟩ (.int .u64 n2)).setCell ⟨gt, 3, none⟩ (.int .u64 n3)).heap[gt]? = some (.cells #[.int .u64 n0, .int .u64 n1, .int .u64 n2, .int .u64 n3, .int .i64 q4, .slice Aq q5.length cq] 64 (0, 0))) := ⟨by refine Kv_ ?_; refine blk_put (cs := #[.int .u64 n0, .int .u64 n1, .int .u64 n2, .int .u64 q3, .int .i64 q4, .slice Aq q5.length cq]) ?_ 3 _ rfl; refine Kv_ ?_; refine blk_put (cs := #[.int .u64 n0, .int .u64 n1, .int .u64 q2, .int .u64 q3, .int .i64 q4, .slice Aq q5.length cq]) ?_ 2 _ rfl; refine Kv_ ?_; refine blk_put (cs := #[.int .u64 n0, .int .u64 q1, .int .u64 q2, .int .u64 q3, .int .i64 q4, .slice Aq q5.length cq]) ?_ 1 _ rfl; refine Kv_ ?_; refine blk_put (cs := #[.int .u64 q0, .int .u64 q1, .int .u64 q2, .int .u64 q3, .int .i64 q4, .slice Aq q5.length cq]) ?_ 0 _ rfl; exact Kq_ BKw⟩; have HRz : Aside0 (Go.Proofs.Ythjhkcebcgdeoaa.Jud.RW ((((ww.setCell ⟨gt, 0, none⟩ (.int .u64 n0)).setCell ⟨gt, 1, none⟩ (.int .u64 n1)).setCell ⟨gt, 2, none⟩ (.int .u64 n2)).setCell ⟨gt, 3, none⟩ (.int .u64 n3)) wr.heap.size (fun _ => True) (.slice Aq q5.length cq) q5) := ⟨Kd.R_mono (Kd.R_far (p := ⟨gt, 3, none⟩) (Kd.R_far (p := ⟨gt, 2, none⟩) (Kd.R_far (p := ⟨gt, 1, none⟩) (Kd.R_far (p := ⟨gt, 0, none⟩) (Kd.R_types HRw.out BKw.out (by decide)) (fun _ hk => hk.2) _) (fun _ hk => hk.2) _) (fun _ hk => hk.2) _) (fun _ hk => hk.2) _) (fun _ _ => trivial)⟩; have ez : ((((ww.setCell ⟨gt, 0, none⟩ (.int .u64 n0)).setCell ⟨gt, 1, none⟩ (.int .u64 n1)).setCell ⟨gt, 2, none⟩ (.int .u64 n2)).setCell ⟨gt, 3, none⟩ (.int .u64 n3)).heap.size = ww.heap.size := Go.Proofs.Ythjhkcebcgdeoaa.Jud.size4 _ _ _ _ _ _ _ _ _; generalize ((((ww.setCell ⟨gt, 0, none⟩ (.int .u64 n0)).setCell ⟨gt, 1, none⟩ (.int .u64 n1)).setCell ⟨gt, 2, none⟩ (.int .u64 n2)).setCell ⟨gt, 3, none⟩ (.int .u64 n3)) = wz at Hz BKz HRz ez ⊢; clear BKw Hw HRw; try clear hwa0 hwa1 hwa2 hwa3 hwa4 hwa5 fwa0 fwa1 fwa2 fwa3 fwa4 fwa5; refine Go.Proofs.Ythjhkcebcgdeoaa.Jud.app2 (w0 := w) (W := wz) w.heap.size rfl (.tmp 54) (.tmp 56) rfl u6 u7 (.slice Aq q5.length cq) (al.take i) (al.take i).reverse (⟨⟨⟨n0, n1, n2, n3⟩, q4⟩, q5⟩ : S64) [.int .u64 n0, .int .u64 n1, .int .u64 n2, .int .u64 n3, .int .i64 q4, .slice Aq q5.length cq] rfl rfl ?hx ?aR ?aA ?aS ?aB ?ab ?al ?_; (case hx => rw [ez]; rfl); (case aR => exact Go.Proofs.Ythjhkcebcgdeoaa.Jud.RW_off HRz.out (below_size HB.out) (Go.Proofs.Ythjhkcebcgdeoaa.Jud.R_lt HA.out) (Go.Proofs.Ythjhkcebcgdeoaa.Jud.R_lt HS.out)); (case aA => exact Kd.R_below HA.out Hz.out); (case aS => exact Kd.R_below HS.out Hz.out); (case aB => exact below_step HB.out Hz.out); (case ab => exact Nat.le_trans (below_size HB.out) (below_size Hz.out)); (case al => rw [List.length_take]; have := HMA.out.1; omega); intro xa wa hA1 hS1 hR1 hb1 hg1; have HA1 := Aside0.mk hA1; have HS1 := Aside0.mk hS1; have HR1 := Aside0.mk hR1; have HB1 := Aside0.mk hb1; have BKt1 := Aside0.mk (blk_grown BKz.out hg1 (Go.Proofs.Ythjhkcebcgdeoaa.Jud.LT_new HA.out GEt.out)); have BK8a := Aside0.mk (blk_grown (blk_below BK8.out Hz.out) hg1 (Go.Proofs.Ythjhkcebcgdeoaa.Jud.LT_ne HA.out BK8.out (by decide))); have BK3a := Aside0.mk (blk_grown (blk_below BK3.out Hz.out) hg1 (Go.Proofs.Ythjhkcebcgdeoaa.Jud.LT_ne HA.out BK3.out (by decide))); clear hA1 hS1 hR1 hb1 hg1 Hz BKz HRz ez; obtain ⟨ta0, ta1, ta2, ta3, ta4, ta5, -, -, -, -, -, -⟩ := Ke6_ BKt1.out)
     | ((with_reducible refine gate_builtin (b := .append) (xs := #[.tmp 59, .tmp 60]) rfl ?_); at_builtin; refine Go.Proofs.Ythjhkcebcgdeoaa.Jud.prep2 (w0 := w) (W := wa) w.heap.size rfl rfl (.tmp 59) (.tmp 60) rfl xa u7 (.slice Aq q5.length cq) (al.take i ++ [(⟨⟨⟨n0, n1, n2, n3⟩, q4⟩, q5⟩ : S64)]) (al.take i).reverse (⟨⟨⟨n0, n1, n2, n3⟩, q4⟩, q5⟩ : S64) [.int .u64 n0, .int .u64 n1, .int .u64 n2, .int .u64 n3, .int .i64 q4, .slice Aq q5.length cq] rfl rfl rfl ?aR ?aA ?aB ?aH ?ab ?al ?_; (case aR => exact Kd.R_mono HR1.out (fun _ hk => hk.1)); (case aA => exact Kd.R_mono HA1.out (fun _ _ => trivial)); (case aB => exact HS1.out); (case aH => exact HB1.out); (case ab => exact below_size HB1.out); (case al => rw [List.length_reverse, List.length_take]; have := HMA.out.1; omega); intro xb wc hA2 hS2 hb2 hbw; have HA2 := Aside0.mk hA2; have HS2 := Aside0.mk hS2; have HB2 := Aside0.mk hb2; have BKt2 := Aside0.mk (blk_below BKt1.out hbw); have BK8b := Aside0.mk (blk_below BK8a.out hbw); have BK3b := Aside0.mk (blk_below BK3a.out hbw); clear hA2 hS2 hb2 hbw ta0 ta1 ta2 ta3 ta4 ta5; obtain ⟨tb0, tb1, tb2, tb3, tb4, tb5, -, -, -, -, -, -⟩ := Ke6_ BKt2.out; obtain ⟨va0, va1, va2, va3, -, -, -, -⟩ := Go.Proofs.Ythjhkcebcgdeoaa.Jud.cells4 BK8b.out)
     | ((with_reducible refine gate_dst (N := 66) rfl ?_); refine Kg_ (some 66) rfl rfl Try.func30 (by kernel_rfl) rfl #[.agg #[.int .u64 s0, .int .u64 s1, .int .u64 s2, .int .u64 s3], .agg #[.int .u64 n0, .int .u64 n1, .int .u64 n2, .int .u64 n3]] rfl ?_; (with_reducible refine (vec_Join.calls s0 s1 s2 s3 n0 n1 n2 n3 j0 j1 j2 j3 _ HJN.out).mono ?_); rintro e wd ⟨rfl, hb⟩; refine ⟨_, rfl, ?_⟩; have HA3 := Aside0.mk (Kd.R_below HA2.out hb); have HS3 := Aside0.mk (Kd.R_below HS2.out hb); have HB3 := Aside0.mk (below_step HB2.out hb); have BK8c := Aside0.mk (blk_below BK8b.out hb); have BK3c := Aside0.mk (blk_below BK3b.out hb); clear hb tb0 tb1 tb2 tb3 tb4 tb5 va0 va1 va2 va3; obtain ⟨vb0, vb1, vb2, vb3, fb0, fb1, fb2, fb3⟩ := Go.Proofs.Ythjhkcebcgdeoaa.Jud.cells4 BK8c.out))
   go_roundg (al.length - (i + 1))
   case measure => have := HK.out; omega
   case rel => exact ⟨i + 1, by first | rfl | (rw [show ((i + 1 : Nat) : Int) = (i : Int) + 1 by omega]; rfl) | (rw [show ((i + 1 : Nat) : Int) = (i : Int) + 1 by omega]; congr 1; exact Go.Proofs.Ythjhkcebcgdeoaa.Pure.wrap64_id (by omega) (by omega)), ⟨by omega⟩, ⟨by omega⟩, ⟨by rw [HTK.out]; exact Go.Proofs.Ythjhkcebcgdeoaa.Jud.LT_set4 HA3.out BK8c.out (by decide) _ _ _ _⟩, ⟨by rw [HTK.out, List.reverse_append]; exact Go.Proofs.Ythjhkcebcgdeoaa.Jud.LT_set4 HS3.out BK8c.out (by decide) _ _ _ _⟩, ⟨by rw [HJS.out]; exact Go.Proofs.Ythjhkcebcgdeoaa.Jud.own_set4 BK8c.out _ _ _ _⟩, ⟨Go.Proofs.Ythjhkcebcgdeoaa.Jud.blk_set4 BK3c.out (Go.Proofs.Ythjhkcebcgdeoaa.Jud.box_ne BK3c.out BK8c.out (by decide)) _ _ _ _⟩, ⟨Go.Proofs.Ythjhkcebcgdeoaa.Jud.below_set4 HB3.out GE8.out _ _ _ _⟩⟩
  ·have hL := HMA.out.1
   have HIL : i = al.length := by have := HI.out; omega
   rw [List.take_of_length_le (by omega)] at HA HS
   subst HIL
   obtain ⟨rl, hrl⟩ : ∃ rl_ : List S64, rl_ = al.reverse := ⟨_, rfl⟩
   rw [← hrl] at HS E2 E3 E6 E7 E8
   obtain ⟨s0, s1, s2, s3, hs⟩ : ∃ s0 s1 s2 s3 : Int, jo al.length = (s0, s1, s2, s3) := ⟨_, _, _, _, rfl⟩
   rw [hs] at BK8 E3
   simp only at BK8 E3
   clear hs hrl
   obtain ⟨A6, c6, e6⟩ := Kd.R_slice HA.out
   obtain ⟨A7, c7, e7⟩ := Kd.R_slice HS.out
   subst e6 e7
   have HC6 := Aside0.mk (Kd.R_reads' HA.out).2.1
   have HC7 := Aside0.mk (Kd.R_reads' HS.out).2.1
   obtain ⟨hp0, hp1, hp2, hp3, hp4, hp5, fp0, fp1, fp2, fp3, fp4, fp5⟩ := Ke6_ BK3.out
   have hway : (al.length < l0.length ∧ ¬ al.length < 10) ∨ ¬ al.length < l0.length := by omega
   have hol10 : al.length ≤ 10 := by omega
   clear hL c1 HI
   rcases hway with ⟨c2, c3⟩ | c2
   all_goals
    go_wp2_with (first
     | ((with_reducible refine gate_dst (N := 69) rfl ?_); refine Kg_ (some 69) rfl rfl Try.func12 (by kernel_rfl) rfl #[.agg #[.string a1_0, .string a1_1, .string a1_2, .bool a1_3, .bool true, .int .u8 a1_5]] rfl ?_; (with_reducible refine (tenementlaw22_Put_write.calls a1_0 a1_1 a1_2 a1_3 true a1_5 wb wk wv wg _ HPW.out).mono ?_); have HA5 := Aside0.mk (Go.Proofs.Ythjhkcebcgdeoaa.Jud.LT_far (i := 4) HA.out BK3.out (by decide) (.bool true)); have HS5 := Aside0.mk (Go.Proofs.Ythjhkcebcgdeoaa.Jud.LT_far (i := 4) HS.out BK3.out (by decide) (.bool true)); have BK8s := Aside0.mk (blk_far (p := ⟨g3, 4, none⟩) BK8.out (Go.Proofs.Ythjhkcebcgdeoaa.Jud.box_ne BK8.out BK3.out (by decide)) (.bool true)); have HB5 : Aside0 (Below w.heap.size w (wr.setCell ⟨g3, 4, none⟩ (.bool true))) := ⟨HB.out.setCell GE3.out _⟩; clear hp0 hp1 hp2 hp3 hp4 hp5 fp0 fp1 fp2 fp3 fp4 fp5; rintro e w15 ⟨rfl, hb⟩; refine ⟨_, rfl, ?_⟩; have HA6 := Aside0.mk (Kd.R_below HA5.out hb); have HS6 := Aside0.mk (Kd.R_below HS5.out hb); have BK8t := Aside0.mk (blk_below BK8s.out hb); have HB6 := Aside0.mk (below_step HB5.out hb); clear hb)
     | ((with_reducible refine gate_dst (N := 76) rfl ?_); refine Kg_ (some 76) rfl rfl Try.func16 (by kernel_rfl) rfl #[.slice A6 al.length c6, .string wb, .string wk] rfl ?_; (with_reducible refine (judge_Last.calls A6 c6 al wb wk b o1 _ ?s1 HC6.out E1.out).mono ?_); (case s1 => exact (Kd.R_reads' (Kd.R_below HA6.out (below_alloc (Below.refl _ _) _))).2.2); rintro e w16 ⟨rfl, hb⟩; refine ⟨_, rfl, ?_⟩; have hb2 := below_step (below_alloc (Below.refl _ _) _) hb; have BKw := Aside0.mk (blk_below (blk_new w15 _) hb); have HA7 := Aside0.mk (Kd.R_below HA6.out hb2); have HS7 := Aside0.mk (Kd.R_below HS6.out hb2); have BK8u := Aside0.mk (blk_below BK8t.out hb2); have HB7 := Aside0.mk (below_step HB6.out hb2); clear hb hb2; generalize w15.heap.size = g12 at BKw ⊢; obtain ⟨we0, we1, we2, we3, -, -, -, -⟩ := Go.Proofs.Ythjhkcebcgdeoaa.Jud.cells4 BKw.out)
     | ((with_reducible refine gate_dst (N := 85) rfl ?_); refine Kg_ (some 85) rfl rfl Try.func16 (by kernel_rfl) rfl #[.slice A7 rl.length c7, .string wb, .string wk] rfl ?_; (with_reducible refine (judge_Last.calls A7 c7 rl wb wk b o1 _ ?s1 HC7.out E2.out).mono ?_); (case s1 => exact (Kd.R_reads' HS7.out).2.2); rintro e w17 ⟨rfl, hb⟩; refine ⟨_, rfl, ?_⟩; have BKw2 := Aside0.mk (blk_below BKw.out hb); have HA8 := Aside0.mk (Kd.R_below HA7.out hb); have HS8 := Aside0.mk (Kd.R_below HS7.out hb); have BK8v := Aside0.mk (blk_below BK8u.out hb); have HB8 := Aside0.mk (below_step HB7.out hb); clear hb we0 we1 we2 we3; obtain ⟨wf0, wf1, wf2, wf3, -, -, -, -⟩ := Go.Proofs.Ythjhkcebcgdeoaa.Jud.cells4 BKw2.out; obtain ⟨wg0, wg1, wg2, wg3, -, -, -, -⟩ := Go.Proofs.Ythjhkcebcgdeoaa.Jud.cells4 BK8v.out)
     | ((with_reducible refine gate_dst (N := 95) rfl ?_); refine Kg_ (some 95) rfl rfl Try.func14 (by kernel_rfl) rfl #[.slice A7 rl.length c7, .string wb, .string wk, .agg #[.int .u64 s0, .int .u64 s1, .int .u64 s2, .int .u64 s3]] rfl ?_; (with_reducible refine (judge_Read.calls A7 c7 rl wb wk s0 s1 s2 s3 b o1 _ ?s1 HC7.out E3.out).mono ?_); (case s1 => exact (Kd.R_reads' HS8.out).2.2); rintro e w18 ⟨rfl, hb⟩; refine ⟨_, rfl, ?_⟩; have HA9 := Aside0.mk (Kd.R_below HA8.out hb); have HS9 := Aside0.mk (Kd.R_below HS8.out hb); have HB9 := Aside0.mk (below_step HB8.out hb); clear hb wf0 wf1 wf2 wf3 wg0 wg1 wg2 wg3)
     | ((with_reducible refine gate_dst (N := 99) rfl ?_); refine Kg_ (some 99) rfl rfl Try.func18 (by kernel_rfl) rfl #[.slice A6 al.length c6] rfl ?_; (with_reducible refine (judge_Order.calls A6 c6 al os _ ?s1 HC6.out E4.out).mono ?_); (case s1 => exact (Kd.R_reads' HA9.out).2.2); rintro e w19 ⟨vo, rfl, hR, hb⟩; refine ⟨_, rfl, ?_⟩; obtain ⟨Ao, co, eo⟩ := Kd.R_slice hR; subst eo; have HO0 := Aside0.mk (Kd.R_lower hR (below_size HB9.out)); have HA10 := Aside0.mk (Kd.R_below HA9.out hb); have HS10 := Aside0.mk (Kd.R_below HS9.out hb); have HB10 := Aside0.mk (below_step HB9.out hb); clear hb hR))
    try go_frame
    go_loopg [20] (os.length + 1) (fun kq v20 wr => ∃ (j : Int), v20 = .int .i64 j ∧ Aside0 (1 ≤ j ∧ j ≤ (os.length : Int) + 1) ∧ Aside0 (((os.length : Int) + 1 - j).toNat ≤ kq) ∧ Aside0 (Go.Proofs.Ythjhkcebcgdeoaa.Jud.LT wr w.heap.size (fun k => True ∧ Go.Proofs.Ythjhkcebcgdeoaa.Jud.off (.slice A7 rl.length c7) k) (.slice A6 al.length c6) al) ∧ Aside0 (Go.Proofs.Ythjhkcebcgdeoaa.Jud.LT wr w.heap.size (fun k => True ∧ Go.Proofs.Ythjhkcebcgdeoaa.Jud.off (.slice A6 al.length c6) k) (.slice A7 rl.length c7) rl) ∧ Aside0 (Kd.R (Kd.int .i64) 3 wr w.heap.size (fun _ => True) (.slice Ao os.length co) os) ∧ Aside0 (Below w.heap.size w wr))
    case atStart => exact ⟨1, rfl, ⟨by omega, by omega⟩, ⟨by omega⟩, HA10, HS10, HO0, HB10⟩
    case round =>
     clear HA HS HK BK8 BK3 HB HA5 HS5 BK8s HB5 HA6 HS6 BK8t HB6 HA7 HS7 BKw BK8u HB7 BKw2 HA8 HS8 BK8v HB8 HA9 HS9 HB9 HO0 HA10 HS10 HB10
     obtain ⟨j, rfl, HJ, HK, HA, HS, HO, HB⟩ := hrel
     by_cases d1 : j < (os.length : Int)
     ·have hJ := HJ.out
      have d1b : decide (j < (os.length : Int)) = true := decide_eq_true d1
      obtain ⟨jm, hjm⟩ : ∃ m_ : Int, wrap64 (j - 1) = m_ := ⟨_, rfl⟩
      have hjmw : IntKind.i64.wrap (j - 1) = jm := (i64_w _).trans hjm
      have hol := HOL.out
      have hjm2 : jm = j - 1 := by rw [← hjm, Go.Proofs.Ythjhkcebcgdeoaa.Pure.wrap64_id (by omega) (by omega)]
      have d0 : 0 ≤ j := by omega
      have d2 : 0 ≤ jm := by omega
      have d3 : jm < (os.length : Int) := by omega
      obtain ⟨hx0, hx1⟩ := HOS.out j d0 d1
      obtain ⟨hy0, hy1⟩ := HOS.out jm d2 d3
      obtain ⟨r_, hr_, hso⟩ := HOO.out j hJ.1 d1
      rw [← hjm2] at hso
      obtain ⟨ao, e1, ha⟩ := Kd.at_int (Kd.R_reads' HO.out).2.2 j d0 d1
      cases e1
      obtain ⟨ao', e2, hb⟩ := Kd.at_int (Kd.R_reads' HO.out).2.2 jm d2 d3
      obtain rfl : ao = ao' := (by injection e2)
      obtain ⟨x, hxe⟩ : ∃ x_ : Int, rd os j = x_ := ⟨_, rfl⟩
      obtain ⟨y, hye⟩ : ∃ x_ : Int, rd os jm = x_ := ⟨_, rfl⟩
      rw [hxe] at hx0 hx1 hso ha
      rw [hye] at hy0 hy1 hso hb
      have HXE := Aside0.mk hxe
      have HYE := Aside0.mk hye
      clear hxe hye
      clear e2 hol
      have z0b : decide (x < 0) = false := decide_eq_false (by omega)
      have z1b : decide ((al.length : Int) ≤ x) = false := decide_eq_false (by omega)
      have z2b : decide (y < 0) = false := decide_eq_false (by omega)
      have z3b : decide ((al.length : Int) ≤ y) = false := decide_eq_false (by omega)
      have HX := Aside0.mk hx0
      have HX1 := Aside0.mk hx1
      have HY := Aside0.mk hy0
      have HY1 := Aside0.mk hy1
      have HSO0 := Aside0.mk hso
      have HRN := Aside0.mk hr_
      have D0 := Aside0.mk d0
      have D2 := Aside0.mk d2
      have D3 := Aside0.mk d3
      have HJM := Aside0.mk hjm2
      clear hx0 hx1 hy0 hy1 hso hr_ hjm2 hJ
      replace d0 := eq_true d0
      replace d1 := eq_true d1
      replace d2 := eq_true d2
      replace d3 := eq_true d3
      go_wp2
      have HA1 := Aside0.mk (Kd.R_drew HA.out)
      have HS1 := Aside0.mk (Kd.R_drew HS.out)
      have HO1 := Aside0.mk (Kd.R_drew HO.out)
      have HB1 := Aside0.mk (below_drew1 HB.out)
      clear ha hb
      obtain ⟨ao', e1, ha⟩ := Kd.at_int (Kd.R_reads' HO1.out).2.2 j D0.out (of_eq_true d1)
      obtain rfl : ao = ao' := (by injection e1)
      obtain ⟨ao', e2, hb⟩ := Kd.at_int (Kd.R_reads' HO1.out).2.2 jm D2.out D3.out
      obtain rfl : ao = ao' := (by injection e2)
      rw [HXE.out] at ha
      rw [HYE.out] at hb
      obtain ⟨ad, Ax, cx, e3, k0, k1, k2, k3, k4, -, -, -⟩ := at_T64 (Kd.R_reads' HA1.out).2.2 x HX.out HX1.out
      cases e3
      obtain ⟨ad', Ay, cy, e4, m0, m1, m2, m3, m4, -, -, -⟩ := at_T64 (Kd.R_reads' HA1.out).2.2 y HY.out HY1.out
      obtain rfl : ad = ad' := (by injection e4)
      clear e1 e2 e4
      have hso := HSO0.out
      generalize rd_T64 al x = tx at k0 k1 k2 k3 k4 hso
      generalize rd_T64 al y = ty at m0 m1 m2 m3 m4 hso
      obtain ⟨⟨⟨x0, x1, x2, x3⟩, x4⟩, x5⟩ := tx
      obtain ⟨⟨⟨y0, y1, y2, y3⟩, y4⟩, y5⟩ := ty
      simp only at k0 k1 k2 k3 k4 m0 m1 m2 m3 m4 hso
      have HSO := Aside0.mk hso
      clear hso HSO0
      have u0 : decide (0 ≤ x) = true := decide_eq_true HX.out
      have u1 : decide (x < (al.length : Int)) = true := decide_eq_true HX1.out
      have u2 : decide (0 ≤ y) = true := decide_eq_true HY.out
      have u3 : decide (y < (al.length : Int)) = true := decide_eq_true HY1.out
      have u4 := eq_true HX.out
      have u5 := eq_true HX1.out
      have u6 := eq_true HY.out
      have u7 := eq_true HY1.out
      refine start_ (n := 19) (S := fun w' => w'.cell? (ao.add jm.toNat) = some (.int .i64 y) ∧ w'.cell? (ad.add (y.toNat * 6)) = some (.int .u64 y0) ∧ w'.cell? ⟨(ad.add (y.toNat * 6)).block, (ad.add (y.toNat * 6)).off + 1, none⟩ = some (.int .u64 y1) ∧ w'.cell? ⟨(ad.add (y.toNat * 6)).block, (ad.add (y.toNat * 6)).off + 2, none⟩ = some (.int .u64 y2) ∧ w'.cell? ⟨(ad.add (y.toNat * 6)).block, (ad.add (y.toNat * 6)).off + 3, none⟩ = some (.int .u64 y3) ∧ w'.cell? ⟨(ad.add (y.toNat * 6)).block, (ad.add (y.toNat * 6)).off + 4, none⟩ = some (.int .i64 y4) ∧ w'.cell? (ao.add j.toNat) = some (.int .i64 x) ∧ w'.cell? (ad.add (x.toNat * 6)) = some (.int .u64 x0) ∧ w'.cell? ⟨(ad.add (x.toNat * 6)).block, (ad.add (x.toNat * 6)).off + 1, none⟩ = some (.int .u64 x1) ∧ w'.cell? ⟨(ad.add (x.toNat * 6)).block, (ad.add (x.toNat * 6)).off + 2, none⟩ = some (.int .u64 x2) ∧ w'.cell? ⟨(ad.add (x.toNat * 6)).block, (ad.add (x.toNat * 6)).off + 3, none⟩ = some (.int .u64 x3) ∧ w'.cell? ⟨(ad.add (x.toNat * 6)).block, (ad.add (x.toNat * 6)).off + 4, none⟩ = some (.int .i64 x4)) (ds := [18]) (mB_ 19 0) (by kernel_rfl) rfl rfl ⟨hb, m0, m1, m2, m3, m4, ha, k0, k1, k2, k3, k4⟩ (fun hHeld => ?_)
      clear ha hb k0 k1 k2 k3 k4 m0 m1 m2 m3 m4
      generalize wr.drew = wx at HA1 HS1 HO1 HB1 hHeld ⊢
      refine Kp_ 0 138 (mB_ 19 1) (by kernel_rfl) ?_
      refine Kp_ 1 139 (mB_ 19 3) (by kernel_rfl) ?_
      refine Kp_ 2 140 (mB_ 19 7) (by kernel_rfl) ?_
      refine Kp_ 3 141 (mB_ 19 15) (by kernel_rfl) ?_
      refine Kp_ 4 142 (mB_ 19 31) (by kernel_rfl) ?_
      refine Kp_ 9 147 (mB_ 19 543) (by kernel_rfl) ?_
      refine Kp_ 10 148 (mB_ 19 1567) (by kernel_rfl) ?_
      refine Kp_ 11 149 (mB_ 19 3615) (by kernel_rfl) ?_
      refine Kp_ 12 150 (mB_ 19 7711) (by kernel_rfl) ?_
      refine Ko_ 5 143 (mB_ 19 7743) (by kernel_rfl) hHeld ?_
      refine Kp_ 6 144 (mB_ 19 7807) (by kernel_rfl) ?_
      refine Kp_ 7 145 (mB_ 19 7935) (by kernel_rfl) ?_
      refine Ko_ 8 146 (mB_ 19 8191) (by kernel_rfl) hHeld ?_
      refine Ko_ 13 151 (mB_ 19 16383) (by kernel_rfl) hHeld ?_
      refine Kp_ 14 152 (mB_ 19 32767) (by kernel_rfl) ?_
      refine Kp_ 15 153 (mB_ 19 65535) (by kernel_rfl) ?_
      refine Ko_ 16 154 (mB_ 19 131071) (by kernel_rfl) hHeld ?_
      refine one_ (i := 17) (N := some 155) (mB_ 19 262143) rfl rfl (by kernel_rfl) (by decide) (fun K hK => ?_)
      refine goes_ Try.func28 (by kernel_rfl) rfl #[.agg #[.int .u64 y0, .int .u64 y1, .int .u64 y2, .int .u64 y3, .int .i64 y4], .agg #[.int .u64 x0, .int .u64 x1, .int .u64 x2, .int .u64 x3, .int .i64 x4]] (by rfl) rfl rfl (by (try simp only [List.map_toArray, List.map_cons, List.map_nil]); first | done | rfl) ?_
      refine (stamp_Order.calls k y0 y1 y2 y3 y4 x0 x1 x2 x3 x4 r_ _ HSO.out).mono ?_
      rintro e_ wy ⟨rfl, hb⟩
      refine ⟨_, rfl, ?_⟩
      have G0 := (hb.cell (World.block_lt_of_cell? _ _ (hHeld.1))).trans (hHeld.1)
      have G1 := (hb.cell (World.block_lt_of_cell? _ _ (hHeld.2.1))).trans (hHeld.2.1)
      have G2 := (hb.cell (World.block_lt_of_cell? _ _ (hHeld.2.2.1))).trans (hHeld.2.2.1)
      have G3 := (hb.cell (World.block_lt_of_cell? _ _ (hHeld.2.2.2.1))).trans (hHeld.2.2.2.1)
      have G4 := (hb.cell (World.block_lt_of_cell? _ _ (hHeld.2.2.2.2.1))).trans (hHeld.2.2.2.2.1)
      have G5 := (hb.cell (World.block_lt_of_cell? _ _ (hHeld.2.2.2.2.2.1))).trans (hHeld.2.2.2.2.2.1)
      have G6 := (hb.cell (World.block_lt_of_cell? _ _ (hHeld.2.2.2.2.2.2.1))).trans (hHeld.2.2.2.2.2.2.1)
      have G7 := (hb.cell (World.block_lt_of_cell? _ _ (hHeld.2.2.2.2.2.2.2.1))).trans (hHeld.2.2.2.2.2.2.2.1)
      have G8 := (hb.cell (World.block_lt_of_cell? _ _ (hHeld.2.2.2.2.2.2.2.2.1))).trans (hHeld.2.2.2.2.2.2.2.2.1)
      have G9 := (hb.cell (World.block_lt_of_cell? _ _ (hHeld.2.2.2.2.2.2.2.2.2.1))).trans (hHeld.2.2.2.2.2.2.2.2.2.1)
      have G10 := (hb.cell (World.block_lt_of_cell? _ _ (hHeld.2.2.2.2.2.2.2.2.2.2.1))).trans (hHeld.2.2.2.2.2.2.2.2.2.2.1)
      have G11 := (hb.cell (World.block_lt_of_cell? _ _ (hHeld.2.2.2.2.2.2.2.2.2.2.2))).trans (hHeld.2.2.2.2.2.2.2.2.2.2.2)
      have HA2 := Aside0.mk (Kd.R_below HA1.out hb)
      have HS2 := Aside0.mk (Kd.R_below HS1.out hb)
      have HO2 := Aside0.mk (Kd.R_below HO1.out hb)
      have HB2 := Aside0.mk (below_step HB1.out hb)
      clear hb
      refine hK.out _ _ ⟨G0, G1, G2, G3, G4, G5, G6, G7, G8, G9, G10, G11⟩ (fun hHeld => ?_)
      clear hK K
      refine Kn_ 155 ?_
      refine Kp_ 18 156 (mB_ 19 524287) (by kernel_rfl) ?_
      refine done_ (by kernel_rfl) ?_
      clear hHeld G0 G1 G2 G3 G4 G5 G6 G7 G8 G9 G10 G11
      have hrb : decide (0 ≤ r_) = false := decide_eq_false (by have := HRN.out; omega)
      have hrn : r_ < 0 := HRN.out
      go_wp2
      have hjw : wrap64 (j + 1) = j + 1 := Go.Proofs.Ythjhkcebcgdeoaa.Pure.wrap64_id (by have := HJ.out; omega) (by have := HJ.out; have := HOL.out; omega)
      go_roundg (((os.length : Int) + 1 - (j + 1)).toNat)
      case measure => have := HK.out; have := HJ.out; have := of_eq_true d1; omega
      case rel => exact ⟨j + 1, by first | rfl | (rw [hjw]) | simp [hjw], ⟨by have := HJ.out; omega, by have := of_eq_true d1; omega⟩, ⟨by have := HK.out; omega⟩, HA2, HS2, HO2, HB2⟩
     ·have d1b : decide (j < (os.length : Int)) = false := decide_eq_false d1
      have hol := HOL.out
      have hle : ((os.length : Int) == (al.length : Int)) = true := by rw [hol]; exact beq_self_eq_true _
      go_wp2_with (first
        | (go_at_call 22; (with_reducible refine (judge_Live.calls _ _ al n _ ?s1 ?s2 E5.out).mono ?_); (case s1 => exact (Kd.R_reads' HA.out).2.2); (case s2 => exact (Kd.R_reads' HA.out).2.1); rintro e_ wu1 ⟨rfl, hb⟩; have HA1 := Aside0.mk (Kd.R_below HA.out hb); have HS1 := Aside0.mk (Kd.R_below HS.out hb); have HB1 := Aside0.mk (below_step HB.out hb); clear hb)
        | (go_at_call 22; (with_reducible refine (judge_Live.calls _ _ rl n _ ?s1 ?s2 E6.out).mono ?_); (case s1 => exact (Kd.R_reads' HS1.out).2.2); (case s2 => exact (Kd.R_reads' HS1.out).2.1); rintro e_ wu2 ⟨rfl, hb⟩; have HA2 := Aside0.mk (Kd.R_below HA1.out hb); have HS2 := Aside0.mk (Kd.R_below HS1.out hb); have HB2 := Aside0.mk (below_step HB1.out hb); clear hb)
        | (go_at_call 24; (with_reducible refine (judge_Subset.calls _ _ al _ _ rl true _ ?s1 ?s2 ?s3 ?s4 E7.out).mono ?_); (case s1 => exact (Kd.R_reads' HA2.out).2.2); (case s2 => exact (Kd.R_reads' HA2.out).2.1); (case s3 => exact (Kd.R_reads' HS2.out).2.2); (case s4 => exact (Kd.R_reads' HS2.out).2.1); rintro e_ wu3 ⟨rfl, hb⟩; have HA3 := Aside0.mk (Kd.R_below HA2.out hb); have HS3 := Aside0.mk (Kd.R_below HS2.out hb); have HB3 := Aside0.mk (below_step HB2.out hb); clear hb)
        | (go_at_call 24; (with_reducible refine (judge_Subset.calls _ _ rl _ _ al true _ ?s1 ?s2 ?s3 ?s4 E8.out).mono ?_); (case s1 => exact (Kd.R_reads' HS3.out).2.2); (case s2 => exact (Kd.R_reads' HS3.out).2.1); (case s3 => exact (Kd.R_reads' HA3.out).2.2); (case s4 => exact (Kd.R_reads' HA3.out).2.1); rintro e_ wu4 ⟨rfl, hb⟩; have HA4 := Aside0.mk (Kd.R_below HA3.out hb); have HS4 := Aside0.mk (Kd.R_below HS3.out hb); have HB4 := Aside0.mk (below_step HB3.out hb); clear hb))
      go_ret
      exact ⟨by first | rfl | simp, HB4.out⟩
end Go.Proofs.Ythjhkcebcgdeoaa.Q

set_option linter.unusedVariables false
namespace Go.Proofs.Ythjhkcebcgdeoaa.Q
open Go.RowKit Go.Proofs.Ythjhkcebcgdeoaa.Q Go.Proofs.YthjhkcebcgdeoaaW.PrintWords Go.Proofs.YthjhkcebcgdeoaaW.PrintLast Go.Proofs.YthjhkcebcgdeoaaW.PrintMore
def tenementlaw22_JudgeAlike.Pure : Prop := ∀ (x0 : List (S61)) (x1 : S26), ((∀ x_ ∈ x0, wf61 x_) ∧ x0.length * 80 ≤ 140737488351232) → (wf26 x1) → tenementlaw22_JudgeAlike.f x0 (x1.f0.f0) (x1.f0.f1) (x1.f0.f2) (x1.f0.f3) (x1.f1) (x1.f2) = some true
end Go.Proofs.Ythjhkcebcgdeoaa.Q

set_option linter.unusedVariables false
set_option linter.unusedSimpArgs false
namespace Go.Proofs.Ythjhkcebcgdeoaa.Pure
open Go.RowKit Go.Proofs.Ythjhkcebcgdeoaa.Q Go.Proofs.YthjhkcebcgdeoaaW.PrintWords Go.Proofs.YthjhkcebcgdeoaaW.PrintLast Go.Proofs.YthjhkcebcgdeoaaW.PrintMore Go.Proofs.Ythjhkcebcgdeoaa.Plain
abbrev Wr := S24
abbrev Pt := S26
def fits (x : Wr) : Prop := x.f0.size ≤ 140737488351232 ∧ x.f1.size ≤ 140737488351232 ∧ x.f2.size ≤ 140737488351232
theorem str_size (l : List Int) : (strOfNums l).size = l.length := by
 unfold strOfNums
 simp [ByteArray.size]
def wrt (p : Pt) (own : Bool) : Wr :=
 if own = true then (if 224 ≤ p.f2 then ⟨strOfNums [98, IntKind.u8.wrap (48 + Int.tmod p.f2 2)], strOfNums [IntKind.u8.wrap (97 + Int.tmod (IntKind.u8.wrap (Int.tdiv p.f2 2)) 4)], ⟨#[]⟩, true⟩
  else ⟨strOfNums [98, IntKind.u8.wrap (48 + Int.tmod p.f2 2)], strOfNums [IntKind.u8.wrap (97 + Int.tmod (IntKind.u8.wrap (Int.tdiv p.f2 2)) 4)], p.f0.f2.extract 0 (min p.f0.f2.size 8), false⟩)
 else p.f0
theorem wrt_f (p : Pt) (own : Bool) (h : fits p.f0) : tenementlaw22_Put_write.f p.f0.f0 p.f0.f1 p.f0.f2 p.f0.f3 own p.f2 = some ((wrt p own).f0, (wrt p own).f1, (wrt p own).f2, (wrt p own).f3) := by
 unfold tenementlaw22_Put_write.f wrt
 cases own with
 | true =>
  rw [if_pos rfl, if_pos rfl, if_pos (by have := h.2.2; omega)]
  by_cases c : 224 ≤ p.f2
  ·rw [if_pos c, if_pos c]
  ·rw [if_neg c, if_neg c]
 | false => rw [if_neg (by simp), if_neg (by simp)]
theorem wrt_fits (p : Pt) (own : Bool) (h : fits p.f0) : fits (wrt p own) := by
 unfold wrt
 cases own with
 | true =>
  rw [if_pos rfl]
  have z : (⟨#[]⟩ : ByteArray).size = 0 := rfl
  by_cases c : 224 ≤ p.f2
  ·rw [if_pos c]
   refine ⟨?_, ?_, ?_⟩
   ·show (strOfNums _).size ≤ _; rw [str_size]; simp
   ·show (strOfNums _).size ≤ _; rw [str_size]; simp
   ·show (⟨#[]⟩ : ByteArray).size ≤ _; omega
  ·rw [if_neg c]
   refine ⟨?_, ?_, ?_⟩
   ·show (strOfNums _).size ≤ _; rw [str_size]; simp
   ·show (strOfNums _).size ≤ _; rw [str_size]; simp
   ·show (ByteArray.extract _ _ _).size ≤ _; rw [ByteArray.size_extract]; omega
 | false => rw [if_neg (by simp)]; exact h
def same (w y : Wr) : Bool := decide (y.f0 = w.f0) && decide (y.f1 = w.f1)
def wrs (most : Nat) (whole : Bool) : List Pt → List Wr → List Wr
 | [], out => out
 | p :: ps, out => if out.length < most then (if (whole && out.any (same (wrt p (whole || p.f1)))) = true then wrs most whole ps out else wrs most whole ps (out ++ [wrt p (whole || p.f1)])) else out
theorem wrs_len (most : Nat) (whole : Bool) : ∀ l out, out.length ≤ most → (wrs most whole l out).length ≤ most
 | [], out, h => h
 | p :: ps, out, h => by
  unfold wrs
  by_cases c : out.length < most
  ·rw [if_pos c]
   split
   ·exact wrs_len most whole ps out h
   ·exact wrs_len most whole ps _ (by simp; omega)
  ·rw [if_neg c]; exact h
theorem wrs_all (most : Nat) (whole : Bool) (Q : Wr → Prop) : ∀ l out, (∀ p ∈ l, Q (wrt p (whole || p.f1))) → (∀ x ∈ out, Q x) → ∀ x ∈ wrs most whole l out, Q x
 | [], out, _, h => h
 | p :: ps, out, hl, h => by
  unfold wrs
  have hl' : ∀ q ∈ ps, Q (wrt q (whole || q.f1)) := fun q hq => hl q (by simp [hq])
  split
  ·split
   ·exact wrs_all most whole Q ps out hl' h
   ·refine wrs_all most whole Q ps _ hl' (fun x hx => ?_)
    rcases List.mem_append.1 hx with hx | hx
    ·exact h x hx
    ·rw [List.mem_singleton.1 hx]; exact hl p (by simp)
  ·exact h
theorem idx (i : Nat) (h : i ≤ 4611686018427387904) : wrap64 ((i : Int) + 1) = ((i + 1 : Nat) : Int) := by
 rw [wrap64_id (by omega) (by omega)]
 omega
theorem rdW (l : List Wr) (j : Nat) (h : j < l.length) : rd_T24 l (j : Int) = l[j] := by
 unfold rd_T24
 rw [Int.toNat_natCast, List.getD_eq_getElem?_getD, List.getElem?_eq_getElem h]
 rfl
theorem rdP (l : List Pt) (j : Nat) (h : j < l.length) : rd_T26 l (j : Int) = l[j] := by
 unfold rd_T26
 rw [Int.toNat_natCast, List.getD_eq_getElem?_getD, List.getElem?_eq_getElem h]
 rfl
theorem wr_l1 (l : List Pt) (most : Int) (whole : Bool) (out : List Wr) (i : Int) (w : Wr) (h7 : out.length ≤ 1000) (K : Nat) : ∀ d j fl, j + d = out.length →
  tenementlaw22_writes.l1 (K + d + 1) l most whole out i fl (j : Int) w.f0 w.f1 w.f2 w.f3 =
   if (whole && (fl || (out.drop j).any (same w))) = true then tenementlaw22_writes.l0 K l most whole out (wrap64 (i + 1)) else tenementlaw22_writes.l0 K l most whole (out ++ [w]) (wrap64 (i + 1)) := by
 intro d
 induction d with
 | zero =>
  intro j fl hj
  have e : out.drop j = [] := List.drop_eq_nil_of_le (by omega)
  rw [Nat.add_zero, tenementlaw22_writes.l1, if_neg (by omega), e, List.any_nil, Bool.or_false]
  cases whole with
  | true =>
   rw [if_pos rfl]
   cases fl with
   | true => rw [if_pos rfl, if_pos (by rfl)]
   | false => rw [if_neg (by simp), if_pos (by omega), if_neg (by simp)]
  | false => rw [if_neg (by simp), if_pos (by omega), if_neg (by simp)]
 | succ d ih =>
  intro j fl hj
  have hlt : j < out.length := by omega
  have e : out.drop j = out[j] :: out.drop (j + 1) := List.drop_eq_getElem_cons hlt
  rw [show K + (d + 1) + 1 = (K + d + 1) + 1 by omega, tenementlaw22_writes.l1, if_pos (by omega), idx j (by omega), e, List.any_cons]
  cases fl with
  | true =>
   rw [if_pos rfl, ih (j + 1) true (by omega)]
   simp only [Bool.true_or]
  | false =>
   rw [if_neg (by simp), if_pos (by omega), rdW out j hlt, Bool.false_or]
   by_cases c : (out[j].f0).toList = w.f0.toList
   ·rw [if_pos c, ih (j + 1) _ (by omega)]
    have c0 := toList_iff.1 c
    have hs : ((out[j].f1).toList == w.f1.toList) = same w out[j] := by
     unfold same
     rw [decide_eq_true c0, Bool.true_and]
     by_cases c1 : out[j].f1 = w.f1
     ·rw [decide_eq_true c1, c1]; simp
     ·rw [decide_eq_false c1]
      exact beq_eq_false_iff_ne.2 (fun h => c1 (toList_iff.1 h))
    rw [hs]
   ·rw [if_neg c, ih (j + 1) _ (by omega)]
    have hs : same w out[j] = false := by
     unfold same
     rw [decide_eq_false (fun h => c (by rw [h])), Bool.false_and]
    rw [hs, Bool.false_or]
theorem wr_l0 (l : List Pt) (most : Nat) (hm : most ≤ 100) (whole : Bool) (hl : ∀ p ∈ l, fits p.f0) (hz : l.length ≤ 4611686018427387904) : ∀ d i (out : List Wr) K, i + d = l.length → out.length ≤ most → (d + 1) * (most + 5) ≤ K →
  tenementlaw22_writes.l0 K l (most : Int) whole out (i : Int) = some (wrs most whole (l.drop i) out) := by
 intro d
 induction d with
 | zero =>
  intro i out K hi ho hK
  obtain ⟨K, rfl⟩ : ∃ m, K = m + 2 := ⟨K - 2, by omega⟩
  have e : l.drop i = [] := List.drop_eq_nil_of_le (by omega)
  rw [tenementlaw22_writes.l0, if_neg (by omega), tenementlaw22_writes.j1, if_neg (by simp), e]
  rfl
 | succ d ih =>
  intro i out K hi ho hK
  have hlt : i < l.length := by omega
  have e : l.drop i = l[i] :: l.drop (i + 1) := List.drop_eq_getElem_cons hlt
  have hK' : (d + 1) * (most + 5) + (most + 5) ≤ K := by
   rw [show (d + 1 + 1) * (most + 5) = (d + 1) * (most + 5) + (most + 5) by rw [Nat.add_mul, Nat.one_mul]] at hK
   exact hK
  have hf : fits l[i].f0 := hl _ (List.getElem_mem _)
  rw [e]
  unfold wrs
  by_cases c : out.length < most
  ·rw [if_pos c]
   obtain ⟨m, hm'⟩ : ∃ m, K = (m + out.length + 1) + 3 ∧ (d + 1) * (most + 5) ≤ m := ⟨K - out.length - 4, by omega, by omega⟩
   rw [hm'.1, tenementlaw22_writes.l0, if_pos (by omega), decide_eq_true (by omega : (out.length : Int) < (most : Int)), tenementlaw22_writes.j1, if_pos rfl, if_pos (by omega), if_pos (by omega), rdP l i hlt]
   have key : ∀ own : Bool, own = (whole || l[i].f1) → tenementlaw22_writes.j2 (m + out.length + 1 + 1) l (most : Int) whole out (i : Int) l[i].f0.f0 l[i].f0.f1 l[i].f0.f2 l[i].f0.f3 own l[i].f2 =
     some (if (whole && out.any (same (wrt l[i] (whole || l[i].f1)))) = true then wrs most whole (l.drop (i + 1)) out else wrs most whole (l.drop (i + 1)) (out ++ [wrt l[i] (whole || l[i].f1)])) := by
    intro own ho'
    rw [tenementlaw22_writes.j2, wrt_f _ _ hf, Option.bind_some]
    show tenementlaw22_writes.l1 (m + out.length + 1) l (most : Int) whole out (i : Int) false 0 (wrt l[i] own).f0 (wrt l[i] own).f1 (wrt l[i] own).f2 (wrt l[i] own).f3 = _
    have h1 := wr_l1 l (most : Int) whole out (i : Int) (wrt l[i] own) (by omega) m out.length 0 false (by omega)
    rw [show ((0 : Nat) : Int) = 0 from rfl] at h1
    rw [h1, List.drop_zero, Bool.false_or, idx i (by omega), ho']
    split
    ·rw [ih (i + 1) out m (by omega) ho hm'.2]
    ·rw [ih (i + 1) _ m (by omega) (by simp; omega) hm'.2]
   cases whole with
   | true =>
    rw [if_pos rfl, key true rfl]
   | false =>
    rw [if_neg (by simp), key _ (by simp)]
  ·rw [if_neg c]
   obtain ⟨m, rfl⟩ : ∃ m, K = m + 2 := ⟨K - 2, by omega⟩
   rw [tenementlaw22_writes.l0, if_pos (by omega), decide_eq_false (by omega : ¬ (out.length : Int) < (most : Int)), tenementlaw22_writes.j1, if_neg (by simp)]
theorem writes_f (l : List Pt) (most : Nat) (hm : most ≤ 100) (whole : Bool) (hl : ∀ p ∈ l, fits p.f0) (hz : l.length ≤ 4611686018427387904) {K : Nat} (hK : (l.length + 1) * (most + 5) ≤ K) :
  tenementlaw22_writes.f K l (most : Int) whole = some (wrs most whole l []) := by
 unfold tenementlaw22_writes.f
 have := wr_l0 l most hm whole hl hz l.length 0 [] K (by omega) (by simp) hK
 rw [show ((0 : Nat) : Int) = 0 from rfl, List.drop_zero] at this
 exact this
end Go.Proofs.Ythjhkcebcgdeoaa.Pure

set_option linter.unusedVariables false
set_option linter.unusedSimpArgs false
namespace Go.Proofs.Ythjhkcebcgdeoaa.Pure
open Go Go.RowKit Go.Proofs.Ythjhkcebcgdeoaa.Q Go.Proofs.YthjhkcebcgdeoaaW.PrintWords Go.Proofs.YthjhkcebcgdeoaaW.PrintLast Go.Proofs.YthjhkcebcgdeoaaW.PrintMore Go.Proofs.Ythjhkcebcgdeoaa.Plain
open Go.Proofs.Ythjhkcebcgdeoaa.Jud (Tx St)
abbrev Dl := S61
theorem deal_own3 (v0 v1 v2 v3 d : Int) (h0 : (Lit.int .u64 v0).wf = true) (h1 : (Lit.int .u64 v1).wf = true) (h2 : (Lit.int .u64 v2).wf = true) (o : Bool) (l : List Pt) (hl : ∀ p ∈ l, fits p.f0) (hz : l.length ≤ 4611686018427387904) {K : Nat} (hK : (l.length + 1) * 15 + 10 ≤ K) :
  ∃ (a b c g e : Nat) (xs : List Wr), tenementlaw22_Deal_deal.f K v0 v1 v2 v3 d o l true = some ((a : Int), (b : Int), (c : Int), (g : Int), (e : Int), xs) ∧ (a ≤ 4 ∧ b ≤ 4 ∧ c ≤ 4 ∧ g ≤ 4) ∧ 1 ≤ e ∧ e ≤ 3 ∧ (∀ x ∈ xs, fits x) ∧ 1 ≤ xs.length ∧ xs.length ≤ 8 := by
 unfold tenementlaw22_Deal_deal.f
 obtain ⟨n0, n1, n2, n3, dc, em, hn4, hd1, hd3, hS⟩ := mark_own (v3 := v3) (d := d) h0 h1 h2 (k := K) (by omega)
 have ew := writes_f l 8 (by omega) true hl hz (K := K) (by omega)
 have hln := wrs_len 8 true l [] (by simp)
 rw [show ((8 : Nat) : Int) = 8 from rfl] at ew
 rw [if_pos rfl, em, Option.bind_some, ew, Option.bind_some]
 by_cases c : ((wrs 8 true l []).length : Int) = 0
 ·rw [if_pos c]
  have z2 : (⟨#[98, 48]⟩ : ByteArray).size = 2 := rfl
  have z1 : (⟨#[97]⟩ : ByteArray).size = 1 := rfl
  have z3 : (⟨#[118]⟩ : ByteArray).size = 1 := rfl
  refine ⟨n0, n1, n2, n3, dc, _, rfl, hn4, hd1, hd3, ?_, by simp, by simp⟩
  intro x hx1
  rw [List.mem_singleton.1 hx1]
  exact ⟨show (⟨#[98, 48]⟩ : ByteArray).size ≤ _ by omega, show (⟨#[97]⟩ : ByteArray).size ≤ _ by omega, show (⟨#[118]⟩ : ByteArray).size ≤ _ by omega⟩
 ·rw [if_neg c]
  exact ⟨n0, n1, n2, n3, dc, _, rfl, hn4, hd1, hd3, wrs_all 8 true fits l [] (fun p hp => wrt_fits p _ (hl p hp)) (by simp), by omega, hln⟩
def OwnN (i : Nat) (t : Tx) : Prop := ((t.f0.f1 = 1 ∧ t.f0.f0.f0 = (i : Int) + 1) ∨ (t.f0.f1 = 2 ∧ t.f0.f0.f1 = (i : Int) + 1) ∨ (t.f0.f1 = 3 ∧ t.f0.f0.f2 = (i : Int) + 1)) ∧ 1 ≤ t.f1.length ∧ t.f1.length ≤ 8 ∧ (∀ x ∈ t.f1, fits x) ∧ (0 ≤ t.f0.f0.f0 ∧ t.f0.f0.f0 ≤ 1000) ∧ (0 ≤ t.f0.f0.f1 ∧ t.f0.f0.f1 ≤ 1000) ∧ (0 ≤ t.f0.f0.f2 ∧ t.f0.f0.f2 ≤ 1000) ∧ (0 ≤ t.f0.f0.f3 ∧ t.f0.f0.f3 ≤ 1000)
def Owned (l : List Tx) : Prop := ∀ i t, l[i]? = some t → OwnN i t
theorem owned_snoc {l : List Tx} {t : Tx} (h : Owned l) (ht : OwnN l.length t) : Owned (l ++ [t]) := by
 intro i x hx
 rcases Nat.lt_trichotomy i l.length with hlt | rfl | hgt
 ·rw [List.getElem?_append_left hlt] at hx
  exact h i x hx
 ·rw [List.getElem?_append_right (Nat.le_refl _), Nat.sub_self] at hx
  obtain rfl := Option.some.inj hx
  exact ht
 ·rw [List.getElem?_append_right (by omega), List.getElem?_eq_none (by simp; omega)] at hx
  cases hx
theorem own_deal (l : List Pt) (hl : ∀ p ∈ l, fits p.f0) (hz : l.length ≤ 4611686018427387904) (v0 v1 v2 v3 d : Int) (h0 : (Lit.int .u64 v0).wf = true) (h1 : (Lit.int .u64 v1).wf = true) (h2 : (Lit.int .u64 v2).wf = true) (o : Bool) (i : Nat) (hi : i < 100) {K : Nat} (hK : (l.length + 1) * 15 + 10 ≤ K) :
  ∃ (a b c g e : Int) (xs : List Wr) (a' b' c' g' : Int), tenementlaw22_Deal_deal.f K v0 v1 v2 v3 d o l true = some (a, b, c, g, e, xs) ∧ vec_With.f a b c g e (IntKind.u64.wrap (wrap64 ((i : Int) + 1))) = some (a', b', c', g') ∧ OwnN i ⟨⟨⟨a', b', c', g'⟩, e⟩, xs⟩ := by
 obtain ⟨a, b, c, g, e, xs, hf, hn, he1, he3, hfx, hx1, hx8⟩ := deal_own3 v0 v1 v2 v3 d h0 h1 h2 o l hl hz hK
 have hw : IntKind.u64.wrap (wrap64 ((i : Int) + 1)) = (i : Int) + 1 := by rw [wrap64_id (by omega) (by omega), IntKind.wrap_u64]; omega
 refine ⟨a, b, c, g, e, xs, _, _, _, _, hf, rfl, ?_⟩
 rw [hw]
 refine ⟨?_, hx1, hx8, hfx, ?_, ?_, ?_, ?_⟩
 ·rcases (show e = 1 ∨ e = 2 ∨ e = 3 by omega) with rfl | rfl | rfl
  ·exact .inl ⟨rfl, rfl⟩
  ·exact .inr (.inl ⟨rfl, rfl⟩)
  ·exact .inr (.inr ⟨rfl, rfl⟩)
 ·show 0 ≤ (if (e : Int) = 1 then (i : Int) + 1 else a) ∧ (if (e : Int) = 1 then (i : Int) + 1 else a) ≤ 1000
  split <;> omega
 ·show 0 ≤ (if (e : Int) = 2 then (i : Int) + 1 else b) ∧ (if (e : Int) = 2 then (i : Int) + 1 else b) ≤ 1000
  split <;> omega
 ·show 0 ≤ (if (e : Int) = 3 then (i : Int) + 1 else c) ∧ (if (e : Int) = 3 then (i : Int) + 1 else c) ≤ 1000
  split <;> omega
 ·show 0 ≤ (if (e : Int) = 4 then (i : Int) + 1 else g) ∧ (if (e : Int) = 4 then (i : Int) + 1 else g) ≤ 1000
  split <;> omega
theorem rd61 (l : List Dl) (j : Nat) (h : j < l.length) : rd_T61 l (j : Int) = l[j] := by
 unfold rd_T61
 rw [Int.toNat_natCast, List.getD_eq_getElem?_getD, List.getElem?_eq_getElem h]
 rfl
end Go.Proofs.Ythjhkcebcgdeoaa.Pure

set_option linter.unusedVariables false
set_option linter.unusedSimpArgs false
namespace Go.Proofs.Ythjhkcebcgdeoaa.Pure
open Go Go.RowKit Go.Proofs.Ythjhkcebcgdeoaa.Q Go.Proofs.YthjhkcebcgdeoaaW.PrintWords Go.Proofs.YthjhkcebcgdeoaaW.PrintLast Go.Proofs.YthjhkcebcgdeoaaW.PrintMore Go.Proofs.Ythjhkcebcgdeoaa.Plain
open Go.Proofs.Ythjhkcebcgdeoaa.Jud (Tx St one lst)
def MadeN (K : Nat) (p : Dl) (i : Nat) (t : Tx) : Prop := ∃ a b c g : Int, tenementlaw22_Deal_deal.f K p.f0.f0.f0.f0 p.f0.f0.f0.f1 p.f0.f0.f0.f2 p.f0.f0.f0.f3 p.f0.f0.f1 p.f0.f1 p.f1 true = some (a, b, c, g, t.f0.f1, t.f1) ∧ vec_With.f a b c g t.f0.f1 ((i : Int) + 1) = some (t.f0.f0.f0, t.f0.f0.f1, t.f0.f0.f2, t.f0.f0.f3)
theorem deals_most (x : List Dl) : ∃ M, ∀ p ∈ x, (p.f1.length + 1) * 15 + 10 ≤ M := by
 induction x with
 | nil => exact ⟨0, by simp⟩
 | cons p r ih =>
  obtain ⟨M, hM⟩ := ih
  refine ⟨M + ((p.f1.length + 1) * 15 + 10), fun q hq => ?_⟩
  rcases List.mem_cons.1 hq with rfl | hq
  ·omega
  ·have := hM q hq; omega
theorem rd_left (l : List Tx) (t : Tx) (i : Nat) (h : i < l.length) : rd_T64 (l ++ [t]) (i : Int) = rd_T64 l (i : Int) := by
 unfold rd_T64
 rw [Int.toNat_natCast, List.getD_eq_getElem?_getD, List.getD_eq_getElem?_getD, List.getElem?_append_left h]
theorem rd_last (l : List Tx) (t : Tx) : rd_T64 (l ++ [t]) (l.length : Int) = t := by
 unfold rd_T64
 rw [Int.toNat_natCast, List.getD_eq_getElem?_getD, List.getElem?_append_right (Nat.le_refl _), Nat.sub_self]
 rfl
theorem made_ex (x : List Dl) (hx : ∀ p ∈ x, wf61 p) {M K : Nat} (hM : ∀ p ∈ x, (p.f1.length + 1) * 15 + 10 ≤ M) (hK : M ≤ K) : ∀ n, n ≤ x.length → n ≤ 10 →
  ∃ al : List Tx, al.length = n ∧ Owned al ∧ ∀ i : Nat, i < al.length → MadeN K (rd_T61 x i) i (rd_T64 al i) := by
 intro n
 induction n with
 | zero => exact fun _ _ => ⟨[], rfl, fun i t h => by simp at h, fun i h => absurd h (Nat.not_lt_zero _)⟩
 | succ n ih =>
  intro h1 h2
  obtain ⟨al, hl, hO, hm⟩ := ih (by omega) (by omega)
  have hrd := rd61 x n (by omega)
  have hmem : x[n]'(by omega) ∈ x := List.getElem_mem _
  have hw := hx _ hmem
  have hMk := hM _ hmem
  rw [← hrd] at hw hMk
  obtain ⟨p, hp⟩ : ∃ p, p = rd_T61 x (n : Int) := ⟨_, rfl⟩
  rw [← hp] at hw hMk
  obtain ⟨⟨⟨⟨v0, v1, v2, v3⟩, dd⟩, o⟩, ps, own⟩ := p
  have hl' : ∀ p ∈ ps, fits p.f0 := fun p hp => ⟨(hw.2.1.1 p hp).1.1, (hw.2.1.1 p hp).1.2.1, (hw.2.1.1 p hp).1.2.2.1⟩
  have hps : ps.length * 64 ≤ 140737488351232 := hw.2.1.2
  obtain ⟨a, b, c', g, e, xs, a', b', c'', g', hf, hwith, hown⟩ := own_deal ps hl' (by omega) v0 v1 v2 v3 dd hw.1.1.1.1 hw.1.1.1.2.1 hw.1.1.1.2.2.1 o n (by omega) (K := K) (by simp only at hMk; omega)
  rw [show IntKind.u64.wrap (wrap64 ((n : Int) + 1)) = (n : Int) + 1 by rw [wrap64_id (by omega) (by omega), IntKind.wrap_u64]; omega] at hwith
  refine ⟨al ++ [⟨⟨⟨a', b', c'', g'⟩, e⟩, xs⟩], by simp [hl], owned_snoc hO (by rw [hl]; exact hown), fun i hi => ?_⟩
  by_cases c : i < al.length
  ·rw [rd_left al _ i c]
   exact hm i c
  ·have hin : i = n := by rw [List.length_append, List.length_singleton] at hi; omega
   subst hin
   rw [← hp, ← hl, rd_last, hl]
   exact ⟨a, b, c', g, hf, hwith⟩
def sn (a b c d : Int) (x : St) : Bool := decide (x.f0.f0 ≤ a ∧ x.f0.f1 ≤ b ∧ x.f0.f2 ≤ c ∧ x.f0.f3 ≤ d)
theorem wrs_allf (is : St → Bool) (b k : ByteArray) : ∀ l : List Tx, Jud.wrs is b k l = Jud.wrs (fun _ => true) b k (l.filter fun t => is t.f0)
 | [] => rfl
 | x :: l => by
  have h := wrs_allf is b k l
  unfold Jud.wrs at h ⊢
  rw [List.flatMap_cons, h, List.filter_cons]
  cases c : is x.f0 with
  | true =>
   rw [if_pos rfl, List.flatMap_cons]
   congr 1
   unfold one
   rw [c]
  | false =>
   rw [if_neg (by simp)]
   unfold one
   rw [c]
   simp
theorem lst_all (is : St → Bool) (od : St → St → Int) (b k : ByteArray) (l : List Tx) : lst is od b k l = lst (fun _ => true) od b k (l.filter fun t => is t.f0) := by
 unfold lst
 rw [wrs_allf is b k l]
theorem owned_small {l : List Tx} (h : Owned l) (hl : l.length ≤ 10) : l.length ≤ 1000000 ∧ ∀ x ∈ l, x.f1.length ≤ 1000 := by
 refine ⟨by omega, fun x hx => ?_⟩
 obtain ⟨i, hi⟩ := List.mem_iff_getElem?.1 hx
 have := (h i x hi).2.2.1
 omega
end Go.Proofs.Ythjhkcebcgdeoaa.Pure

set_option linter.unusedVariables false
set_option linter.unusedSimpArgs false
namespace Go.Proofs.Ythjhkcebcgdeoaa.Pure
open Go Go.RowKit Go.Proofs.Ythjhkcebcgdeoaa.Q Go.Proofs.YthjhkcebcgdeoaaW.PrintWords Go.Proofs.YthjhkcebcgdeoaaW.PrintLast Go.Proofs.YthjhkcebcgdeoaaW.PrintMore Go.Proofs.Ythjhkcebcgdeoaa.Plain
open Go.Proofs.Ythjhkcebcgdeoaa.Jud (Tx St Wn one lst srt put past idxs byStamp srt_length idxs_length rdN nub nub_mem nub_nodup prs lastOf liveJ sum_perm)
theorem past_perm (cf : Int → Int → Int) (x : Int) : ∀ r : List Int, (past cf x r).Perm (x :: r)
 | [] => List.Perm.refl _
 | y :: r => by
  unfold past
  split
  ·exact ((past_perm cf x r).cons y).trans (List.Perm.swap x y r)
  ·exact List.Perm.refl _
theorem put_perm (cf : Int → Int → Int) (s : List Int) (x : Int) : (put cf s x).Perm (s ++ [x]) := by
 unfold put
 refine (List.reverse_perm _).trans ((past_perm cf x s.reverse).trans ?_)
 exact ((List.reverse_perm s).cons x).trans (List.perm_append_comm (l₁ := [x]))
def Bef (cf : Int → Int → Int) (u v : Int) : Prop := cf u v < 0 ∨ (cf u v = 0 ∧ u < v)
def ch (cf : Int → Int → Int) : List Int → Prop
 | [] => True
 | [_] => True
 | u :: v :: r => Bef cf v u ∧ ch cf (v :: r)
theorem ch_tail {cf : Int → Int → Int} {u : Int} {r : List Int} (h : ch cf (u :: r)) : ch cf r := by
 cases r with
 | nil => trivial
 | cons v r => exact h.2
theorem ch_past (cf : Int → Int → Int) (hneg : ∀ a b, cf b a = -cf a b) (x : Int) : ∀ (r : List Int), (∀ y ∈ r, y < x) → ch cf r → ch cf (past cf x r) ∧ ∀ w, cf x w < 0 → ch cf (w :: r) → ch cf (w :: past cf x r)
 | [], _, _ => ⟨trivial, fun w hw _ => ⟨.inl hw, trivial⟩⟩
 | y :: r, hlt, hc => by
  have hy := hlt y (by simp)
  have ih := ch_past cf hneg x r (fun z hz => hlt z (List.mem_cons_of_mem _ hz)) (ch_tail hc)
  by_cases c : cf x y < 0
  ·have e : past cf x (y :: r) = y :: past cf x r := by rw [past, if_pos c]
   rw [e]
   have h1 := ih.2 y c hc
   exact ⟨h1, fun w _ hw => ⟨hw.1, h1⟩⟩
  ·have e : past cf x (y :: r) = x :: y :: r := by rw [past, if_neg c]
   rw [e]
   have hb : Bef cf y x := by
    have := hneg x y
    unfold Bef
    omega
   exact ⟨⟨hb, hc⟩, fun w hw _ => ⟨.inl hw, hb, hc⟩⟩
theorem ch_srt (cf : Int → Int → Int) (hneg : ∀ a b, cf b a = -cf a b) : ∀ n, ch cf (srt cf (idxs n)).reverse ∧ ∀ y ∈ srt cf (idxs n), 0 ≤ y ∧ y < n
 | 0 => ⟨trivial, by simp [srt, idxs]⟩
 | n + 1 => by
  obtain ⟨h1, h2⟩ := ch_srt cf hneg n
  have e : srt cf (idxs (n + 1)) = put cf (srt cf (idxs n)) (n : Int) := by rw [← Go.Proofs.Ythjhkcebcgdeoaa.Jud.idxs_snoc, Go.Proofs.Ythjhkcebcgdeoaa.Jud.srt_snoc]
  rw [e]
  refine ⟨?_, ?_⟩
  ·unfold put
   rw [List.reverse_reverse]
   exact (ch_past cf hneg n _ (fun y hy => (h2 y (List.mem_reverse.1 hy)).2) h1).1
  ·intro y hy
   have := (put_perm cf (srt cf (idxs n)) n).mem_iff.1 hy
   rcases List.mem_append.1 this with h | h
   ·have := h2 y h; omega
   ·rw [List.mem_singleton.1 h]; omega
theorem ch_at {cf : Int → Int → Int} : ∀ {r : List Int} {i : Nat} {u v : Int}, ch cf r → r[i]? = some u → r[i + 1]? = some v → Bef cf v u
 | [], i, u, v, _, h, _ => by cases h
 | [a], i, u, v, _, _, h => by simp at h
 | a :: b :: r, 0, u, v, hc, h, h' => by
  obtain rfl := Option.some.inj h
  obtain rfl := Option.some.inj h'
  exact hc.1
 | a :: b :: r, i + 1, u, v, hc, h, h' => ch_at hc.2 h h'
theorem ch_rev {cf : Int → Int → Int} {s : List Int} {i : Nat} {u v : Int} (hc : ch cf s.reverse) (hu : s[i]? = some u) (hv : s[i + 1]? = some v) : Bef cf u v := by
 have hl : i + 1 < s.length := (List.getElem?_eq_some_iff.1 hv).1
 refine ch_at (i := s.length - 2 - i) hc ?_ ?_
 ·rw [List.getElem?_reverse (by omega), show s.length - 1 - (s.length - 2 - i) = i + 1 by omega]; exact hv
 ·rw [List.getElem?_reverse (by omega), show s.length - 1 - (s.length - 2 - i + 1) = i by omega]; exact hu
theorem rdI {l : List Int} {i : Nat} {x : Int} (h : l[i]? = some x) : rd l (i : Int) = x := by
 unfold rd
 rw [Int.toNat_natCast, List.getD_eq_getElem?_getD, h]
 rfl
def odT (x y : St) : Int := lex (key x.f0.f0 x.f0.f1 x.f0.f2 x.f0.f3 x.f1) (key y.f0.f0 y.f0.f1 y.f0.f2 y.f0.f3 y.f1)
theorem odT_neg (x y : St) : odT y x = -odT x y := lex_neg _ _
theorem odT_self (x : St) : odT x x = 0 := lex_self _
def ky (x : St) : List Int := key x.f0.f0 x.f0.f1 x.f0.f2 x.f0.f3 x.f1
theorem odT_trans (x y z : St) (h : odT x y ≤ 0) (h' : odT y z ≤ 0) : odT x z ≤ 0 := lex_trans (ky x) (ky y) (ky z) rfl rfl h h'
theorem odT_eq {x y : St} (h : odT x y = 0) : x = y := by
 obtain ⟨⟨a, b, c, d⟩, e⟩ := x
 obtain ⟨⟨a', b', c', d'⟩, e'⟩ := y
 obtain ⟨rfl, rfl, rfl, rfl, rfl⟩ := key_inj (lex_eq (key a b c d e) (key a' b' c' d' e') rfl h)
 rfl
def cm (x y : Wn) : Int := odT x.f0 y.f0
theorem fold_top : ∀ (r : List Wn) (m : Wn), (r.foldl (Jud.up cm) m = m ∨ r.foldl (Jud.up cm) m ∈ r) ∧ cm m (r.foldl (Jud.up cm) m) ≤ 0 ∧ ∀ y ∈ r, cm y (r.foldl (Jud.up cm) m) ≤ 0
 | [], m => ⟨.inl rfl, by show cm m m ≤ 0; unfold cm; rw [odT_self]; exact Int.le_refl 0, fun y hy => by cases hy⟩
 | x :: r, m => by
  obtain ⟨h1, h2, h3⟩ := fold_top r (Jud.up cm m x)
  rw [List.foldl_cons]
  have hm : cm m (Jud.up cm m x) ≤ 0 := by
   unfold Jud.up
   by_cases c : cm x m > 0
   ·rw [if_pos c]; have := odT_neg x.f0 m.f0; unfold cm at c ⊢; omega
   ·rw [if_neg c]; unfold cm; rw [odT_self]; exact Int.le_refl 0
  have hx : cm x (Jud.up cm m x) ≤ 0 := by
   unfold Jud.up
   by_cases c : cm x m > 0
   ·rw [if_pos c]; unfold cm; rw [odT_self]; exact Int.le_refl 0
   ·rw [if_neg c]; omega
  refine ⟨?_, odT_trans _ _ _ hm h2, fun y hy => ?_⟩
  ·rcases h1 with h1 | h1
   ·rw [h1]
    unfold Jud.up
    by_cases c : cm x m > 0
    ·rw [if_pos c]; exact .inr (by simp)
    ·rw [if_neg c]; exact .inl rfl
   ·exact .inr (List.mem_cons_of_mem _ h1)
  ·rcases List.mem_cons.1 hy with rfl | hy
   ·exact odT_trans _ _ _ hx h2
   ·exact h3 y hy
theorem mx_top (l : List Wn) (h : l ≠ []) : Jud.mx cm l ∈ l ∧ ∀ y ∈ l, cm y (Jud.mx cm l) ≤ 0 := by
 cases l with
 | nil => exact absurd rfl h
 | cons x r =>
  obtain ⟨h1, h2, h3⟩ := fold_top r x
  have e : Jud.mx cm (x :: r) = r.foldl (Jud.up cm) x := rfl
  rw [e]
  refine ⟨?_, fun y hy => ?_⟩
  ·rcases h1 with h1 | h1
   ·rw [h1]; simp
   ·exact List.mem_cons_of_mem _ h1
  ·rcases List.mem_cons.1 hy with rfl | hy
   ·exact h2
   ·exact h3 y hy
theorem one_st {is : St → Bool} {b k : ByteArray} {x : Tx} {a : Wn} (h : a ∈ one is b k x) : a.f0 = x.f0 := by
 unfold one at h
 split at h
 ·split at h
  ·rw [List.mem_singleton.1 h]
  ·cases h
 ·cases h
theorem one_eq {is : St → Bool} {b k : ByteArray} {x : Tx} {a c : Wn} (h : a ∈ one is b k x) (h' : c ∈ one is b k x) : a = c := by
 have hl := Jud.one_len is b k x
 cases e : one is b k x with
 | nil => rw [e] at h; cases h
 | cons y r =>
  rw [e] at hl h h'
  have : r = [] := by
   cases r with
   | nil => rfl
   | cons z s => simp at hl
  subst this
  rw [List.mem_singleton.1 h, List.mem_singleton.1 h']
def Inj (l : List Tx) : Prop := ∀ x ∈ l, ∀ y ∈ l, x.f0 = y.f0 → x = y
theorem lst_same (is : St → Bool) (b k : ByteArray) (l l' : List Tx) (hm : ∀ x, x ∈ l ↔ x ∈ l') (hi : Inj l) : lst is odT b k l = lst is odT b k l' := by
 have hw : ∀ a, a ∈ Jud.wrs is b k l ↔ a ∈ Jud.wrs is b k l' := by
  intro a
  unfold Jud.wrs
  rw [List.mem_flatMap, List.mem_flatMap]
  exact ⟨fun ⟨x, h1, h2⟩ => ⟨x, (hm x).1 h1, h2⟩, fun ⟨x, h1, h2⟩ => ⟨x, (hm x).2 h1, h2⟩⟩
 unfold lst
 by_cases c : Jud.wrs is b k l = []
 ·have c' : Jud.wrs is b k l' = [] := List.eq_nil_iff_forall_not_mem.2 (fun a ha => by have := (hw a).2 ha; rw [c] at this; cases this)
  rw [c, c']
 ·have c' : Jud.wrs is b k l' ≠ [] := fun e => c (List.eq_nil_iff_forall_not_mem.2 (fun a ha => by have := (hw a).1 ha; rw [e] at this; cases this))
  have e1 : (Jud.wrs is b k l).isEmpty = false := by cases e : Jud.wrs is b k l with | nil => exact absurd e c | cons _ _ => rfl
  have e2 : (Jud.wrs is b k l').isEmpty = false := by cases e : Jud.wrs is b k l' with | nil => exact absurd e c' | cons _ _ => rfl
  rw [e1, e2]
  show (Jud.mx cm (Jud.wrs is b k l)).f1 = (Jud.mx cm (Jud.wrs is b k l')).f1
  obtain ⟨h1, h2⟩ := mx_top _ c
  obtain ⟨h3, h4⟩ := mx_top _ c'
  have h5 := h2 _ ((hw _).2 h3)
  have h6 := h4 _ ((hw _).1 h1)
  generalize Jud.mx cm (Jud.wrs is b k l) = p at h1 h2 h5 h6 ⊢
  generalize Jud.mx cm (Jud.wrs is b k l') = q at h3 h4 h5 h6 ⊢
  have h7 : p.f0 = q.f0 := odT_eq (by have := odT_neg p.f0 q.f0; unfold cm at h5 h6; omega)
  have h3 := (hw _).2 h3
  unfold Jud.wrs at h1 h3
  rw [List.mem_flatMap] at h1 h3
  obtain ⟨x, hx, hp⟩ := h1
  obtain ⟨y, hy, hq⟩ := h3
  have : x = y := hi x hx y hy (by rw [← one_st hp, ← one_st hq, h7])
  subst this
  rw [one_eq hp hq]
theorem live_same (l l' : List Tx) (hm : ∀ x, x ∈ l ↔ x ∈ l') (hi : Inj l) : liveJ odT l = liveJ odT l' := by
 unfold liveJ
 congr 1
 have hp : (nub (prs l)).Perm (nub (prs l')) := by
  refine (List.perm_ext_iff_of_nodup (nub_nodup _) (nub_nodup _)).2 (fun p => ?_)
  rw [nub_mem, nub_mem]
  unfold prs
  rw [List.mem_flatMap, List.mem_flatMap]
  exact ⟨fun ⟨x, h1, h2⟩ => ⟨x, (hm x).1 h1, h2⟩, fun ⟨x, h1, h2⟩ => ⟨x, (hm x).2 h1, h2⟩⟩
 have he : (nub (prs l)).map (lastOf odT l) = (nub (prs l)).map (lastOf odT l') := by
  refine List.map_congr_left (fun p _ => ?_)
  unfold lastOf
  rw [lst_same _ _ _ l l' hm hi]
 rw [he]
 exact sum_perm (hp.map _)
theorem owned_inj {l : List Tx} (h : Owned l) : Inj l := by
 intro x hx y hy e
 obtain ⟨i, hi⟩ := List.mem_iff_getElem?.1 hx
 obtain ⟨j, hj⟩ := List.mem_iff_getElem?.1 hy
 have h1 := h i x hi
 have h2 := h j y hj
 have : i = j := by
  obtain ⟨h1, _⟩ := h1
  obtain ⟨h2, _⟩ := h2
  rw [e] at h1
  omega
 subst this
 exact Option.some.inj (hi.symm.trans hj)
end Go.Proofs.Ythjhkcebcgdeoaa.Pure

set_option linter.unusedVariables false
set_option linter.unusedSimpArgs false
namespace Go.Proofs.Ythjhkcebcgdeoaa.Pure
open Go Go.RowKit Go.Proofs.Ythjhkcebcgdeoaa.Q Go.Proofs.YthjhkcebcgdeoaaW.PrintWords Go.Proofs.YthjhkcebcgdeoaaW.PrintLast Go.Proofs.YthjhkcebcgdeoaaW.PrintMore Go.Proofs.Ythjhkcebcgdeoaa.Plain
open Go.Proofs.Ythjhkcebcgdeoaa.Jud (Tx St one lst srt idxs byStamp srt_length idxs_length liveJ same_self prs)
def joN (al : List Tx) : Nat → Int × Int × Int × Int
 | 0 => (0, 0, 0, 0)
 | i + 1 => (mx (joN al i).1 (rd_T64 al i).f0.f0.f0, mx (joN al i).2.1 (rd_T64 al i).f0.f0.f1, mx (joN al i).2.2.1 (rd_T64 al i).f0.f0.f2, mx (joN al i).2.2.2 (rd_T64 al i).f0.f0.f3)
theorem le_mxl (a b : Int) : a ≤ mx a b := by unfold mx; split <;> omega
theorem le_mxr (a b : Int) : b ≤ mx a b := by unfold mx; split <;> omega
theorem joN_le (al : List Tx) : ∀ n j : Nat, j < n → (rd_T64 al j).f0.f0.f0 ≤ (joN al n).1 ∧ (rd_T64 al j).f0.f0.f1 ≤ (joN al n).2.1 ∧ (rd_T64 al j).f0.f0.f2 ≤ (joN al n).2.2.1 ∧ (rd_T64 al j).f0.f0.f3 ≤ (joN al n).2.2.2
 | 0, j, h => absurd h (Nat.not_lt_zero _)
 | n + 1, j, h => by
  by_cases c : j = n
  ·subst c
   exact ⟨le_mxr _ _, le_mxr _ _, le_mxr _ _, le_mxr _ _⟩
  ·obtain ⟨h1, h2, h3, h4⟩ := joN_le al n j (by omega)
   exact ⟨Int.le_trans h1 (le_mxl _ _), Int.le_trans h2 (le_mxl _ _), Int.le_trans h3 (le_mxl _ _), Int.le_trans h4 (le_mxl _ _)⟩
theorem rd64_mem {al : List Tx} {t : Tx} (h : t ∈ al) : ∃ j : Nat, j < al.length ∧ rd_T64 al (j : Int) = t := by
 obtain ⟨j, hj⟩ := List.mem_iff_getElem?.1 h
 refine ⟨j, (List.getElem?_eq_some_iff.1 hj).1, ?_⟩
 unfold rd_T64
 rw [Int.toNat_natCast, List.getD_eq_getElem?_getD, hj]
 rfl
def okL (l : List Tx) : Prop := l.length ≤ 1000000 ∧ ∀ x ∈ l, x.f1.length ≤ 1000
def smJ (x y : Tx) : Bool := sameJ x.f0.f0.f0 x.f0.f0.f1 x.f0.f0.f2 x.f0.f0.f3 x.f0.f1 x.f1 y.f0.f0.f0 y.f0.f0.f1 y.f0.f0.f2 y.f0.f0.f3 y.f0.f1 y.f1
theorem sub_of (a b : List Tx) (ha : okL a) (hb : okL b) (h : ∀ x ∈ a, x ∈ b) : judge_Subset.f a b = some true := by
 unfold judge_Subset.f
 rw [if_pos ⟨ha, hb⟩]
 show some (a.all fun x => b.any fun y => smJ x y) = some true
 congr 1
 rw [List.all_eq_true]
 exact fun x hx => List.any_eq_true.2 ⟨x, h x hx, same_self x⟩
theorem okL_rev {l : List Tx} (h : okL l) : okL l.reverse := ⟨by rw [List.length_reverse]; exact h.1, fun x hx => h.2 x (List.mem_reverse.1 hx)⟩
theorem last_f (l : List Tx) (h : okL l) (b k : ByteArray) : judge_Last.f l b k = some (if (lst (fun _ => true) odT b k l).f3 then ⟨#[]⟩ else (lst (fun _ => true) odT b k l).f2, !(lst (fun _ => true) odT b k l).f3) := by
 unfold judge_Last.f
 rw [if_pos (show judge_Last.ok _ from h)]
 rfl
theorem read_all (l : List Tx) (h : okL l) (b k : ByteArray) (s0 s1 s2 s3 : Int) (hs : ∀ t ∈ l, t.f0.f0.f0 ≤ s0 ∧ t.f0.f0.f1 ≤ s1 ∧ t.f0.f0.f2 ≤ s2 ∧ t.f0.f0.f3 ≤ s3) : judge_Read.f l b k s0 s1 s2 s3 = some (if (lst (fun _ => true) odT b k l).f3 then ⟨#[]⟩ else (lst (fun _ => true) odT b k l).f2, !(lst (fun _ => true) odT b k l).f3) := by
 unfold judge_Read.f
 rw [if_pos (show judge_Read.ok _ from h), lst_all (fun x => decide (x.f0.f0 ≤ s0 ∧ x.f0.f1 ≤ s1 ∧ x.f0.f2 ≤ s2 ∧ x.f0.f3 ≤ s3)) judge_Read.od b k l, List.filter_eq_self.2 (fun t ht => decide_eq_true (hs t ht))]
 rfl
theorem live_f (l : List Tx) (h : okL l) (hk : ∀ x ∈ l, ∀ y ∈ x.f1, fits y) : judge_Live.f l = some (liveJ odT l) := by
 unfold judge_Live.f
 rw [if_pos (show judge_Live.ok l from ⟨h.1, fun x hx => ⟨h.2 x hx, fun y hy => by have := hk x hx y hy; unfold fits at this; omega⟩⟩)]
 rfl
theorem orders_at (al : List Tx) (h10 : al.length ≤ 10) (hO : Owned al) {k : Nat} (hk : 12 ≤ k) : ∃ os : List Int, judge_Order.f al = some os ∧ os.length = al.length ∧ (∀ q : Int, 0 ≤ q → q < os.length → 0 ≤ rd os q ∧ rd os q < al.length) ∧ ∀ q : Int, 1 ≤ q → q < os.length → ∃ r : Int, r < 0 ∧ stamp_Order.f k (rd_T64 al (rd os (q - 1))).f0.f0.f0 (rd_T64 al (rd os (q - 1))).f0.f0.f1 (rd_T64 al (rd os (q - 1))).f0.f0.f2 (rd_T64 al (rd os (q - 1))).f0.f0.f3 (rd_T64 al (rd os (q - 1))).f0.f1 (rd_T64 al (rd os q)).f0.f0.f0 (rd_T64 al (rd os q)).f0.f0.f1 (rd_T64 al (rd os q)).f0.f0.f2 (rd_T64 al (rd os q)).f0.f0.f3 (rd_T64 al (rd os q)).f0.f1 = some r := by
 have hneg : ∀ p q, byStamp odT al q p = -byStamp odT al p q := fun p q => odT_neg _ _
 obtain ⟨c1, c2⟩ := ch_srt (byStamp odT al) hneg al.length
 have hol : (srt (byStamp odT al) (idxs al.length)).length = al.length := by rw [srt_length, idxs_length]
 have hsm := owned_small hO h10
 refine ⟨srt (byStamp odT al) (idxs al.length), ?_, hol, ?_, ?_⟩
 ·unfold judge_Order.f
  rw [if_pos (show judge_Order.ok al from ⟨by omega, hsm.2⟩)]
  rfl
 ·intro q h0 h1
  obtain ⟨n, rfl⟩ : ∃ n : Nat, q = (n : Int) := ⟨q.toNat, by omega⟩
  have hx : (srt (byStamp odT al) (idxs al.length))[n]? = some (srt (byStamp odT al) (idxs al.length))[n] := List.getElem?_eq_getElem (by omega)
  rw [rdI hx]
  exact c2 _ (List.getElem_mem _)
 ·intro q h0 h1
  obtain ⟨n, rfl⟩ : ∃ n : Nat, q = ((n + 1 : Nat) : Int) := ⟨q.toNat - 1, by omega⟩
  rw [show ((n + 1 : Nat) : Int) - 1 = (n : Int) by omega]
  generalize srt (byStamp odT al) (idxs al.length) = o at c1 c2 hol h1
  have hu : o[n]? = some o[n] := List.getElem?_eq_getElem (by omega)
  have hv : o[n + 1]? = some o[n + 1] := List.getElem?_eq_getElem (by omega)
  have hub := c2 _ (List.getElem_mem (show n < o.length by omega))
  have hvb := c2 _ (List.getElem_mem (show n + 1 < o.length by omega))
  have hb := ch_rev c1 hu hv
  rw [rdI hu, rdI hv]
  generalize o[n] = u at hub hb
  generalize o[n + 1] = v at hvb hb
  obtain ⟨u, rfl⟩ : ∃ m : Nat, u = (m : Int) := ⟨u.toNat, by omega⟩
  obtain ⟨v, rfl⟩ : ∃ m : Nat, v = (m : Int) := ⟨v.toNat, by omega⟩
  have h1 := Jud.rd64_eq al u (by omega)
  have h2 := Jud.rd64_eq al v (by omega)
  refine ⟨odT (rd_T64 al u).f0 (rd_T64 al v).f0, ?_, order_f _ _ _ _ _ _ _ _ _ _ (by omega)⟩
  rcases hb with hb | ⟨hb, hlt⟩
  ·exact hb
  ·have he := odT_eq hb
   have h3 := hO u _ h1
   have h4 := hO v _ h2
   obtain ⟨h3, _⟩ := h3
   obtain ⟨h4, _⟩ := h4
   rw [he] at h3
   omega
theorem JudgeAlike : tenementlaw22_JudgeAlike.Pure := by
 intro x p hx hp
 obtain ⟨M, hM⟩ := deals_most x
 obtain ⟨al, hl, hO, hmd⟩ := made_ex x hx.1 hM (show M ≤ M + 50 by omega) (min x.length 10) (by omega) (by omega)
 have h10 : al.length ≤ 10 := by omega
 have hok : okL al := owned_small hO h10
 have hok' := okL_rev hok
 have hw := wrt_f p true ⟨hp.1.1, hp.1.2.1, hp.1.2.2.1⟩
 have hi := owned_inj hO
 have hm : ∀ t, t ∈ al ↔ t ∈ al.reverse := fun t => List.mem_reverse.symm
 have hft : ∀ t ∈ al, ∀ y ∈ t.f1, fits y := fun t ht y hy => by
  obtain ⟨i, h⟩ := List.mem_iff_getElem?.1 ht
  exact (hO i t h).2.2.2.1 y hy
 obtain ⟨os, ho1, ho2, ho3, ho4⟩ := orders_at al h10 hO (k := M + 50) (by omega)
 have e1 := last_f al hok (wrt p true).f0 (wrt p true).f1
 have e2 := last_f al.reverse hok' (wrt p true).f0 (wrt p true).f1
 have e3 := read_all al.reverse hok' (wrt p true).f0 (wrt p true).f1 (joN al al.length).1 (joN al al.length).2.1 (joN al al.length).2.2.1 (joN al al.length).2.2.2 (fun t ht => by
  obtain ⟨j, hj, hjt⟩ := rd64_mem (List.mem_reverse.1 ht)
  have := joN_le al al.length j hj
  rw [hjt] at this
  exact this)
 rw [← lst_same _ _ _ al al.reverse hm hi] at e2 e3
 have e5 := live_f al hok hft
 have e6 := live_f al.reverse hok' (fun t ht => hft t (List.mem_reverse.1 ht))
 rw [← live_same al al.reverse hm hi] at e6
 unfold tenementlaw22_JudgeAlike.f
 exact if_pos ⟨M + 50, al, joN al, (wrt p true).f0, (wrt p true).f1, (wrt p true).f2, (wrt p true).f3, _, _, os, _, ⟨hl, hmd⟩, rfl, fun i hi => rfl, hw, e1, e2, e3, ho1, ho2, ho3, ho4, e5, e6, sub_of _ _ hok hok' (fun t ht => (hm t).1 ht), sub_of _ _ hok' hok (fun t ht => (hm t).2 ht)⟩
end Go.Proofs.Ythjhkcebcgdeoaa.Pure
