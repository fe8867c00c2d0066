import Derived.Test.YthjhkcebcgdeoaaGJudgeLive2
import Derived.Test.YthjhkcebcgdeoaaGJudgeLive4
import Derived.Test.YthjhkcebcgdeoaaGJudgeLive5
import Derived.Test.YthjhkcebcgdeoaaGJudgeLive7
import Derived.Test.YthjhkcebcgdeoaaGJudgeLive6
import Derived.Test.YthjhkcebcgdeoaaGJudgeLive0
import Derived.Test.YthjhkcebcgdeoaaGJudgeLive3
namespace Go.Proofs.Ythjhkcebcgdeoaa.Q
open Go.RowKit Go.Proofs.YthjhkcebcgdeoaaW.PrintWords Go.Proofs.YthjhkcebcgdeoaaW.PrintLast Go.Proofs.YthjhkcebcgdeoaaW.PrintMore
attribute [local go_sem] max2_int min2_int max_two min_two max_three min_three max_four min_four   -- for this text's walks alone
set_option linter.unusedVariables false
set_option linter.unusedSimpArgs false
def tenementlaw22_JudgeLive.add (s : Int) (ws : List S24) : Int := ws.foldl (fun s y => wrap64 (s + Go.Proofs.Ythjhkcebcgdeoaa.Jud.szJ y)) s
def tenementlaw22_JudgeLive.sm (al : List S64) : Int := al.foldl (fun s t => tenementlaw22_JudgeLive.add s t.f1) 0
theorem tenementlaw22_JudgeLive.add_snoc (s : Int) (ws : List S24) (y : S24) : tenementlaw22_JudgeLive.add s (ws ++ [y]) = wrap64 (tenementlaw22_JudgeLive.add s ws + Go.Proofs.Ythjhkcebcgdeoaa.Jud.szJ y) := by unfold tenementlaw22_JudgeLive.add; rw [List.foldl_append]; rfl
theorem tenementlaw22_JudgeLive.sm_snoc (al : List S64) (t : S64) : tenementlaw22_JudgeLive.sm (al ++ [t]) = tenementlaw22_JudgeLive.add (tenementlaw22_JudgeLive.sm al) t.f1 := by unfold tenementlaw22_JudgeLive.sm; rw [List.foldl_append]; rfl
def tenementlaw22_JudgeLive.made (k : Nat) (l0 : List S61) (al : List S64) : Prop := al.length = min l0.length 10 ∧ ∀ i : Nat, i < al.length → tenementlaw22_Deal_deal.f k (rd_T61 l0 i).f0.f0.f0.f0 (rd_T61 l0 i).f0.f0.f0.f1 (rd_T61 l0 i).f0.f0.f0.f2 (rd_T61 l0 i).f0.f0.f0.f3 (rd_T61 l0 i).f0.f0.f1 (rd_T61 l0 i).f0.f1 (rd_T61 l0 i).f1 true = some ((rd_T64 al i).f0.f0.f0, (rd_T64 al i).f0.f0.f1, (rd_T64 al i).f0.f0.f2, (rd_T64 al i).f0.f0.f3, (rd_T64 al i).f0.f1, (rd_T64 al i).f1)
def tenementlaw22_JudgeLive.ok (l0 : List S61) (a1_0 a1_1 a1_2 : ByteArray) (a1_3 a1_4 : Bool) (a1_5 : Int) (k : Nat) (al : List S64) (wb wk wv : ByteArray) (wg : Bool) (v : ByteArray) (o1 : Bool) (n le d : Int) : Prop := tenementlaw22_JudgeLive.made k l0 al ∧ tenementlaw22_Put_write.f a1_0 a1_1 a1_2 a1_3 true a1_5 = some (wb, wk, wv, wg) ∧ judge_Last.f al wb wk = some (v, o1) ∧ judge_Live.f al = some n ∧ n ≤ tenementlaw22_JudgeLive.sm al ∧ le = (if o1 = true then wrap64 (wrap64 ((wb.size : Int) + (wk.size : Int)) + (v.size : Int)) else 0) ∧ le ≤ n ∧ d = wrap64 (n - le) ∧ judge_Live.f (al ++ [(⟨⟨⟨1125899906842624, 0, 0, 0⟩, 1⟩, [⟨wb, wk, ⟨#[]⟩, true⟩]⟩ : S64)]) = some d ∧ judge_Live.f [] = some 0
open Classical in
noncomputable def tenementlaw22_JudgeLive.f (l0 : List S61) (a1_0 a1_1 a1_2 : ByteArray) (a1_3 a1_4 : Bool) (a1_5 : Int) : Option Bool := if ∃ (k : Nat) (al : List S64) (wb wk wv : ByteArray) (wg : Bool) (v : ByteArray) (o1 : Bool) (n le d : Int), tenementlaw22_JudgeLive.ok l0 a1_0 a1_1 a1_2 a1_3 a1_4 a1_5 k al wb wk wv wg v o1 n le d then some true else none
set_option maxHeartbeats 16000000 in
set_option maxRecDepth 100000 in
theorem tenementlaw22_JudgeLive.calls (A0 : Option Addr) (c0 : Nat) (l0 : List S61) (a1_0 a1_1 a1_2 : ByteArray) (a1_3 a1_4 : Bool) (a1_5 : Int) (r : Bool) (w : World) (hr0 : Kd.C k61 w A0 l0.length l0) (hc0 : l0.length ≤ c0) (h : tenementlaw22_JudgeLive.f l0 a1_0 a1_1 a1_2 a1_3 a1_4 a1_5 = some r) :
  Calls Try.prog 4 #[.slice A0 l0.length c0, .agg #[.string a1_0, .string a1_1, .string a1_2, .bool a1_3, .bool a1_4, .int .u8 a1_5]] w fun e w' => e = .returned (.bool r) ∧ Below w.heap.size w w' := by
 unfold tenementlaw22_JudgeLive.f at h
 by_cases hw : ∃ (k : Nat) (al : List S64) (wb wk wv : ByteArray) (wg : Bool) (v : ByteArray) (o1 : Bool) (n le d : Int), tenementlaw22_JudgeLive.ok l0 a1_0 a1_1 a1_2 a1_3 a1_4 a1_5 k al wb wk wv wg v o1 n le d
 rotate_left
 ·rw [if_neg hw] at h; cases h
 rw [if_pos hw] at h
 obtain rfl := Option.some.inj h
 clear h
 obtain ⟨k, al, wb, wk, wv, wg, v, o1, n, le, d, h1, h2, h3, h4, h5, h6, h7, h8, h9, h10⟩ := hw
 have HMA := Aside0.mk h1
 have HPW := Aside0.mk h2
 have E1 := Aside0.mk h3
 have E2 := Aside0.mk h4
 have HNS := Aside0.mk h5
 have HLE := Aside0.mk h6
 have HLN := Aside0.mk h7
 have HD := Aside0.mk h8
 have E3 := Aside0.mk h9
 have E4 := Aside0.mk h10
 have HR0 := Aside0.mk hr0
 clear h1 h2 h3 h4 h5 h6 h7 h8 h9 h10 hr0
 go_enter Try.func4, Try.ntmps4
 go_wp2_with (first
  | ((with_reducible refine gate_dst (N := 3) rfl ?_); refine Ka_ 3 #[.string a1_0, .string a1_1, .string a1_2, .bool a1_3, .bool a1_4, .int .u8 a1_5] 26 ?_; intro g3 hg w1 hbox hb; have GE3 : Aside0 (w.heap.size ≤ g3) := ⟨Nat.le_of_eq hg.symm⟩; have BK3a := Aside0.mk hbox; have HB1 := Aside0.mk hb; clear hb hbox hg)
  | ((with_reducible refine gate_dst (N := 18) rfl ?_); refine Kg_ (some 18) rfl rfl Try.func10 (by kernel_rfl) rfl #[] rfl ?_; (with_reducible refine (tenementlaw22_examples.calls true _ rfl).mono ?_); rintro e w2 ⟨rfl, hb⟩; refine ⟨_, rfl, ?_⟩; have BK3b := Aside0.mk (blk_below BK3a.out hb); have HB2 := Aside0.mk (below_step HB1.out hb); clear hb))
 have BK3 := BK3b
 go_loopg [6, 7, 8] al.length (fun kq v6 v7 v8 wr => ∃ (i : Nat) (s : Int), v8 = .int .i64 i ∧ v7 = .int .i64 s ∧ Aside0 (s = tenementlaw22_JudgeLive.sm (al.take i)) ∧ Aside0 (i ≤ al.length) ∧ Aside0 (al.length - i ≤ kq) ∧ Aside0 (Go.Proofs.Ythjhkcebcgdeoaa.Jud.LT wr w.heap.size (fun k => True ∧ Go.Proofs.Ythjhkcebcgdeoaa.Jud.off (.slice none 0 0) k) v6 (al.take i)) ∧ Aside0 (wr.heap[g3]? = some (.cells #[.string a1_0, .string a1_1, .string a1_2, .bool a1_3, .bool a1_4, .int .u8 a1_5] 26 (0, 0))) ∧ Aside0 (Below w.heap.size w wr))
 case atStart => exact ⟨0, 0, rfl, rfl, ⟨by rw [List.take_zero]; rfl⟩, ⟨by omega⟩, ⟨by omega⟩, ⟨by rw [List.take_zero]; exact Kd.R_nil _ _ _ _ _⟩, BK3, HB2⟩
 case round =>
  clear HB2 HB1 BK3a BK3b BK3
  obtain ⟨i, s, rfl, rfl, HS, HI, HK, HA, BK3, HB⟩ := hrel
  by_cases c1 : i < al.length
  ·have hL := HMA.out.1
   have c3 : i < l0.length := by omega
   have c4 : i < 10 := by omega
   have c1b : decide ((i : Int) < (l0.length : Int)) = true := decide_eq_true (by omega)
   have c2b : decide ((i : Int) < 10) = true := decide_eq_true (by omega)
   have c0b : decide (0 ≤ (i : Int)) = true := decide_eq_true (by omega)
   clear hL
   have hdl := HMA.out.2 i c1
   obtain ⟨ad, Ap, cp, e0, h0, h1, h2, h3, h4, h5, h6, h7, LP, GPh⟩ := at_T61 HR0.out (i : Int) (by omega) (by have := HMA.out.1; omega)
   cases e0
   replace h0 := (HB.out.cell (World.block_lt_of_cell? w _ h0)).trans h0
   replace h1 := (HB.out.cell (World.block_lt_of_cell? w _ h1)).trans h1
   replace h2 := (HB.out.cell (World.block_lt_of_cell? w _ h2)).trans h2
   replace h3 := (HB.out.cell (World.block_lt_of_cell? w _ h3)).trans h3
   replace h4 := (HB.out.cell (World.block_lt_of_cell? w _ h4)).trans h4
   replace h5 := (HB.out.cell (World.block_lt_of_cell? w _ h5)).trans h5
   replace h6 := (HB.out.cell (World.block_lt_of_cell? w _ h6)).trans h6
   replace h7 := (HB.out.cell (World.block_lt_of_cell? w _ h7)).trans h7
   have GP := Aside0.mk (Kd.C_below GPh HB.out)
   clear GPh
   simp only [Int.toNat_natCast] at h0 h1 h2 h3 h4 h5 h6 h7
   generalize rd_T61 l0 (i : Int) = px at h0 h1 h2 h3 h4 h5 h6 h7 LP GP hdl
   obtain ⟨⟨⟨⟨p0, p1, p2, p3⟩, p4⟩, p5⟩, p6, p7⟩ := px
   have hxx := Go.Proofs.Ythjhkcebcgdeoaa.Jud.rd64_eq al i c1
   generalize rd_T64 al (i : Int) = tx at hdl hxx
   obtain ⟨⟨⟨q0, q1, q2, q3⟩, q4⟩, q5⟩ := tx
   have HDL : Aside0 (tenementlaw22_Deal_deal.f k p0 p1 p2 p3 p4 p5 p6 true = some (q0, q1, q2, q3, q4, q5)) := ⟨hdl⟩
   have LP : p6.length ≤ cp := LP
   have GP : Aside0 (Kd.C k26 wr Ap p6.length p6) := GP
   have HTK : Aside0 (al.take (i + 1) = al.take i ++ [(⟨⟨⟨q0, q1, q2, q3⟩, q4⟩, q5⟩ : S64)]) := ⟨by rw [List.take_add_one, hxx]; rfl⟩
   clear hdl hxx
   simp only at h0 h1 h2 h3 h4 h5 h6 h7
   go_wp2_with (first
     | ((with_reducible refine gate_dst (N := 37) rfl ?_); refine Kg_ (some 37) rfl rfl Try.func26 (by kernel_rfl) rfl #[.agg #[.int .u64 p0, .int .u64 p1, .int .u64 p2, .int .u64 p3, .int .i64 p4, .bool p5, .slice Ap p6.length cp, .bool true]] rfl ?_; (with_reducible refine (tenementlaw22_Deal_deal.calls k p0 p1 p2 p3 p4 p5 Ap cp p6 true q0 q1 q2 q3 q4 q5 _ ?s1 LP ?s2).mono ?_); (case s1 => exact Kd.C_alloc GP.out _); (case s2 => exact HDL.out); rintro e wd ⟨vq, rfl, hR, hb⟩; refine ⟨_, rfl, ?_⟩; obtain ⟨Aq, cq, eq_⟩ := Kd.R_slice hR; subst eq_; have HRd : Aside0 (Go.Proofs.Ythjhkcebcgdeoaa.Jud.RW wd wr.heap.size (fun _ => True) (.slice Aq q5.length cq) q5) := ⟨Kd.R_lower hR (below_size (below_alloc (Below.refl _ _) _))⟩; have Hd := Aside0.mk (below_step (below_alloc (Below.refl _ _) _) hb); clear hb hR)
     | ((with_reducible refine gate_builtin (b := .append) (xs := #[.tmp 38, .tmp 40]) rfl ?_); at_builtin; have BKz := Aside0.mk (blk_new wd (Obj.cells #[.int .u64 q0, .int .u64 q1, .int .u64 q2, .int .u64 q3, .int .i64 q4, .slice Aq q5.length cq] 64)); have Hz : Aside0 (Below wr.heap.size wr (wd.alloc (Obj.cells #[.int .u64 q0, .int .u64 q1, .int .u64 q2, .int .u64 q3, .int .i64 q4, .slice Aq q5.length cq] 64))) := ⟨below_alloc Hd.out _⟩; have HRz : Aside0 (Go.Proofs.Ythjhkcebcgdeoaa.Jud.RW (wd.alloc (Obj.cells #[.int .u64 q0, .int .u64 q1, .int .u64 q2, .int .u64 q3, .int .i64 q4, .slice Aq q5.length cq] 64)) wr.heap.size (fun _ => True) (.slice Aq q5.length cq) q5) := ⟨Kd.R_below HRd.out (below_alloc (Below.refl _ _) _)⟩; have ez : (wd.alloc (Obj.cells #[.int .u64 q0, .int .u64 q1, .int .u64 q2, .int .u64 q3, .int .i64 q4, .slice Aq q5.length cq] 64)).heap.size = wd.heap.size + 1 := World.size_alloc _ _; have GEt : Aside0 (wr.heap.size ≤ wd.heap.size) := ⟨Hd.out.size⟩; generalize wd.alloc (Obj.cells #[.int .u64 q0, .int .u64 q1, .int .u64 q2, .int .u64 q3, .int .i64 q4, .slice Aq q5.length cq] 64) = wz at BKz Hz HRz ez ⊢; clear Hd HRd; generalize wd.heap.size = gt at BKz GEt ez ⊢; refine Go.Proofs.Ythjhkcebcgdeoaa.Jud.app2 (w0 := w) (W := wz) w.heap.size rfl (.tmp 38) (.tmp 40) rfl u6 (.slice none 0 0) (.slice Aq q5.length cq) (al.take i) [] (⟨⟨⟨q0, q1, q2, q3⟩, q4⟩, q5⟩ : S64) [.int .u64 q0, .int .u64 q1, .int .u64 q2, .int .u64 q3, .int .i64 q4, .slice Aq q5.length cq] rfl rfl ?hx ?aR ?aA ?aS ?aB ?ab ?al ?_; (case hx => first | rfl | (rw [ez]; rfl)); (case aR => exact Go.Proofs.Ythjhkcebcgdeoaa.Jud.RW_off HRz.out (below_size HB.out) (Go.Proofs.Ythjhkcebcgdeoaa.Jud.R_lt HA.out) (fun k hk => by simp [Value.ownBlock] at hk)); (case aA => exact Kd.R_below HA.out Hz.out); (case aS => exact Kd.R_nil _ _ _ _ _); (case aB => exact below_step HB.out Hz.out); (case ab => exact Nat.le_trans (below_size HB.out) (below_size Hz.out)); (case al => rw [List.length_take]; have := HMA.out.1; omega); intro xa wa hA1 hS1 hR1 hb1 hg1; have HA1 := Aside0.mk hA1; have HR1 : Aside0 (Go.Proofs.Ythjhkcebcgdeoaa.Jud.RW wa w.heap.size (fun _ => True) (.slice Aq q5.length cq) q5) := ⟨Kd.R_mono hR1 (fun _ _ => trivial)⟩; have HB1 := Aside0.mk hb1; have BKt1 := Aside0.mk (blk_grown BKz.out hg1 (Go.Proofs.Ythjhkcebcgdeoaa.Jud.LT_new HA.out GEt.out)); have BK3a := Aside0.mk (blk_grown (blk_below BK3.out Hz.out) hg1 (Go.Proofs.Ythjhkcebcgdeoaa.Jud.LT_ne HA.out BK3.out (by decide))); clear hA1 hS1 hR1 hb1 hg1))
   try go_frame
   go_loopg [7, 11] q5.length (fun kq v7 v11 wi => ∃ (j : Nat) (a : Int), v11 = .int .i64 j ∧ v7 = .int .i64 a ∧ Aside0 (a = tenementlaw22_JudgeLive.add s (q5.take j)) ∧ Aside0 (j ≤ q5.length) ∧ Aside0 (q5.length - j ≤ kq) ∧ Aside0 (Go.Proofs.Ythjhkcebcgdeoaa.Jud.LT wi w.heap.size (fun k => True ∧ Go.Proofs.Ythjhkcebcgdeoaa.Jud.off (.slice none 0 0) k) xa (al.take i ++ [(⟨⟨⟨q0, q1, q2, q3⟩, q4⟩, q5⟩ : S64)])) ∧ Aside0 (Go.Proofs.Ythjhkcebcgdeoaa.Jud.RW wi w.heap.size (fun _ => True) (.slice Aq q5.length cq) q5) ∧ Aside0 (wi.heap[gt]? = some (.cells #[.int .u64 q0, .int .u64 q1, .int .u64 q2, .int .u64 q3, .int .i64 q4, .slice Aq q5.length cq] 64 (0, 0))) ∧ Aside0 (wi.heap[g3]? = some (.cells #[.string a1_0, .string a1_1, .string a1_2, .bool a1_3, .bool a1_4, .int .u8 a1_5] 26 (0, 0))) ∧ Aside0 (Below w.heap.size w wi))
   case atStart => exact ⟨0, s, rfl, rfl, ⟨rfl⟩, ⟨by omega⟩, ⟨by omega⟩, HA1, HR1, BKt1, BK3a, HB1⟩
   case round =>
    clear h0 h1 h2 h3 h4 h5 h6 h7 HA1 HR1 BKt1 BK3a HB1 BKz Hz HRz HA HB BK3 GP
    obtain ⟨j, a, rfl, rfl, HAJ, HJ, HKJ, HA2, HR2, BKt2, BK3b, HB2⟩ := hrel
    by_cases d1 : j < q5.length
    ·have hq5 : q5.length ≤ 9223372036854775807 := (Kd.R_reads' HR2.out).2.2.2.1
     have d1b : decide ((j : Int) < (q5.length : Int)) = true := decide_eq_true (by omega)
     have d0b : decide (0 ≤ (j : Int)) = true := decide_eq_true (by omega)
     obtain ⟨ta0, ta1, ta2, ta3, ta4, ta5, -, -, -, -, -, -⟩ := Ke6_ BKt2.out
     obtain ⟨aw, e1, k0, k1, k2, k3⟩ := at_T24 (Kd.R_reads' HR2.out).2.2 (j : Int) (by omega) (by omega)
     cases e1
     simp only [Int.toNat_natCast] at k0 k1 k2 k3
     have hyy : q5[j]? = some (rd_T24 q5 (j : Int)) := by
      unfold rd_T24
      rw [Int.toNat_natCast, List.getD_eq_getElem?_getD, List.getElem?_eq_getElem d1]
      rfl
     generalize rd_T24 q5 (j : Int) = y at k0 k1 k2 k3 hyy
     obtain ⟨y0, y1, y2, y3⟩ := y
     simp only at k0 k1 k2 k3
     obtain ⟨sz, hsz⟩ : ∃ z_ : Int, Go.Proofs.Ythjhkcebcgdeoaa.Jud.szJ ⟨y0, y1, y2, y3⟩ = z_ := ⟨_, rfl⟩
     have HSZ : Aside0 (item_Size.f y0 y1 y2 y3 = some sz) := ⟨by rw [← hsz]; exact Go.Proofs.Ythjhkcebcgdeoaa.Jud.size_f ⟨y0, y1, y2, y3⟩⟩
     have HAD : Aside0 (wrap64 (a + sz) = tenementlaw22_JudgeLive.add s (q5.take (j + 1))) := ⟨by rw [List.take_add_one, hyy, HAJ.out, ← hsz]; exact (tenementlaw22_JudgeLive.add_snoc s (q5.take j) _).symm⟩
     clear hyy hsz
     go_wp2_with (first
      | ((with_reducible refine gate_dst (N := 55) rfl ?_); refine Kg_ (some 55) rfl rfl Try.func27 (by kernel_rfl) rfl #[.agg #[.string y0, .string y1, .string y2, .bool y3]] rfl ?_; (with_reducible refine (item_Size.calls y0 y1 y2 y3 sz _ HSZ.out).mono ?_); rintro e we ⟨rfl, hb⟩; refine ⟨_, rfl, ?_⟩; have HA3 := Aside0.mk (Kd.R_below HA2.out hb); have HR3 := Aside0.mk (Kd.R_below HR2.out hb); have BKt3 := Aside0.mk (blk_below BKt2.out hb); have BK3c := Aside0.mk (blk_below BK3b.out hb); have HB3 := Aside0.mk (below_step HB2.out hb); clear hb k0 k1 k2 k3 ta0 ta1 ta2 ta3 ta4 ta5))
     go_roundg (q5.length - (j + 1))
     case measure => have := HKJ.out; omega
     case rel => exact ⟨j + 1, _, by first | rfl | (rw [show ((j + 1 : Nat) : Int) = (j : Int) + 1 by omega]; rfl) | (rw [show ((j + 1 : Nat) : Int) = (j : Int) + 1 by omega]; congr 1; exact Go.Proofs.Ythjhkcebcgdeoaa.Pure.wrap64_id (by omega) (by omega)), rfl, ⟨HAD.out⟩, ⟨by omega⟩, ⟨by omega⟩, HA3, HR3, BKt3, BK3c, HB3⟩
    ·have d1b : decide ((j : Int) < (q5.length : Int)) = false := decide_eq_false (by omega)
     have HJL : Aside0 (j = q5.length) := ⟨by have := HJ.out; omega⟩
     have HAF : Aside0 (a = tenementlaw22_JudgeLive.sm (al.take (i + 1))) := ⟨by rw [HTK.out, tenementlaw22_JudgeLive.sm_snoc, ← HS.out, HAJ.out, List.take_of_length_le (by have := HJL.out; omega)]⟩
     obtain ⟨ta0, ta1, ta2, ta3, ta4, ta5, -, -, -, -, -, -⟩ := Ke6_ BKt2.out
     go_wp2
     have hal := HMA.out.1
     go_roundg (al.length - (i + 1))
     case measure => have := HK.out; omega
     case rel => exact ⟨i + 1, a, by first | rfl | (rw [show ((i + 1 : Nat) : Int) = (i : Int) + 1 by omega]; rfl) | (rw [show ((i + 1 : Nat) : Int) = (i : Int) + 1 by omega]; congr 1; exact Go.Proofs.Ythjhkcebcgdeoaa.Pure.wrap64_id (by omega) (by omega)), rfl, HAF, ⟨by omega⟩, ⟨by omega⟩, ⟨by rw [HTK.out]; exact HA2.out⟩, BK3b, HB2⟩
  ·have hL := HMA.out.1
   have HIL : i = al.length := by have := HI.out; omega
   rw [List.take_of_length_le (by omega)] at HA HS
   subst HIL
   obtain ⟨A6, c6, e6⟩ := Kd.R_slice HA.out
   subst e6
   have HC6 := Aside0.mk (Kd.R_reads' HA.out).2.1
   obtain ⟨hp0, hp1, hp2, hp3, hp4, hp5, fp0, fp1, fp2, fp3, fp4, fp5⟩ := Ke6_ BK3.out
   have hway : (al.length < l0.length ∧ ¬ al.length < 10) ∨ ¬ al.length < l0.length := by omega
   have HL10 : Aside0 (al.length ≤ 10) := ⟨by omega⟩
   clear hL c1 HI
   have HSN : Aside0 (n ≤ s) := ⟨by rw [HS.out]; exact HNS.out⟩
   rcases hway with ⟨c2, c3⟩ | c2
   all_goals
    cases o1 with
    | false =>
     have hle := HLE.out
     rw [if_neg (by decide)] at hle
     subst hle
     go_wp2_with (first
      | ((with_reducible refine gate_dst (N := 59) rfl ?_); refine Kg_ (some 59) rfl rfl Try.func12 (by kernel_rfl) rfl #[.agg #[.string a1_0, .string a1_1, .string a1_2, .bool a1_3, .bool true, .int .u8 a1_5]] rfl ?_; (with_reducible refine (tenementlaw22_Put_write.calls a1_0 a1_1 a1_2 a1_3 true a1_5 wb wk wv wg _ HPW.out).mono ?_); have HA5 := Aside0.mk (Go.Proofs.Ythjhkcebcgdeoaa.Jud.LT_far (i := 4) HA.out BK3.out (by decide) (.bool true)); have HB5 : Aside0 (Below w.heap.size w (wr.setCell ⟨g3, 4, none⟩ (.bool true))) := ⟨HB.out.setCell GE3.out _⟩; clear hp0 hp1 hp2 hp3 hp4 hp5 fp0 fp1 fp2 fp3 fp4 fp5; rintro e w15 ⟨rfl, hb⟩; refine ⟨_, rfl, ?_⟩; have HA6 := Aside0.mk (Kd.R_below HA5.out hb); have HB6 := Aside0.mk (below_step HB5.out hb); clear hb)
      | ((with_reducible refine gate_dst (N := 66) rfl ?_); refine Kg_ (some 66) rfl rfl Try.func16 (by kernel_rfl) rfl #[.slice A6 al.length c6, .string wb, .string wk] rfl ?_; (with_reducible refine (judge_Last.calls A6 c6 al wb wk v false _ ?s1 HC6.out E1.out).mono ?_); (case s1 => exact (Kd.R_reads' (Kd.R_below HA6.out (below_alloc (Below.refl _ _) _))).2.2); rintro e w16 ⟨rfl, hb⟩; refine ⟨_, rfl, ?_⟩; have hb2 := below_step (below_alloc (Below.refl _ _) _) hb; have BKw := Aside0.mk (blk_below (blk_new w15 _) hb); have HA7 := Aside0.mk (Kd.R_below HA6.out hb2); have HB7 := Aside0.mk (below_step HB6.out hb2); clear hb hb2; generalize w15.heap.size = g12 at BKw ⊢)
      | ((with_reducible refine gate_dst (N := 70) rfl ?_); refine Kg_ (some 70) rfl rfl Try.func22 (by kernel_rfl) rfl #[.slice A6 al.length c6] rfl ?_; (with_reducible refine (judge_Live.calls A6 c6 al n _ ?s1 HC6.out E2.out).mono ?_); (case s1 => exact (Kd.R_reads' HA7.out).2.2); rintro e w17 ⟨rfl, hb⟩; refine ⟨_, rfl, ?_⟩; have BKw2 := Aside0.mk (blk_below BKw.out hb); have HA8 := Aside0.mk (Kd.R_below HA7.out hb); have HB8 := Aside0.mk (below_step HB7.out hb); clear hb; obtain ⟨we0, we1, -, -, -, -, -⟩ := Go.Proofs.Ythjhkcebcgdeoaa.Jud.cells4 BKw2.out)
      | (with_reducible refine Go.Proofs.Ythjhkcebcgdeoaa.Jud.park_ ?roundEnd))
     have hbW := below_alloc (below_alloc (Below.refl w17.heap.size w17) (Obj.cells #[.string wb, .string wk, .string (⟨#[]⟩ : ByteArray), .bool true] 24)) (Obj.cells #[.int .u64 1125899906842624, .int .u64 0, .int .u64 0, .int .u64 0, .int .i64 1, .slice (some ⟨w17.heap.size, 0, none⟩) 1 1] 64)
     have HA9 := Aside0.mk (Kd.R_drew (Kd.R_below HA8.out hbW))
     have HB9 := Aside0.mk (below_drew1 (below_step HB8.out hbW))
     have hbl := blk_new (w17.alloc (Obj.cells #[.string wb, .string wk, .string (⟨#[]⟩ : ByteArray), .bool true] 24)) (Obj.cells #[.int .u64 1125899906842624, .int .u64 0, .int .u64 0, .int .u64 0, .int .i64 1, .slice (some ⟨w17.heap.size, 0, none⟩) 1 1] 64)
     rw [World.size_alloc] at hbl
     have BKl := Aside0.mk (blk_drew hbl)
     have BKg := Aside0.mk (blk_drew (blk_alloc (blk_new w17 (Obj.cells #[.string wb, .string wk, .string (⟨#[]⟩ : ByteArray), .bool true] 24)) (Obj.cells #[.int .u64 1125899906842624, .int .u64 0, .int .u64 0, .int .u64 0, .int .i64 1, .slice (some ⟨w17.heap.size, 0, none⟩) 1 1] 64)))
     generalize w17.heap.size = gW at HA9 HB9 BKl BKg ⊢
     clear hbW hbl
     obtain ⟨nl, hnl⟩ : ∃ l_ : List S64, l_ = al ++ [(⟨⟨⟨1125899906842624, 0, 0, 0⟩, 1⟩, [⟨wb, wk, ⟨#[]⟩, true⟩]⟩ : S64)] := ⟨_, rfl⟩
     rw [← hnl] at E3
     have HNL := Aside0.mk hnl
     clear hnl
     have hcut := Go.Proofs.Ythjhkcebcgdeoaa.Jud.cut_full A6 al.length c6 HC6.out
     have b1 : decide (n ≤ s) = true := decide_eq_true HSN.out
     have b2 : decide (0 ≤ n) = true := decide_eq_true HLN.out
     have hd : wrap64 (n - 0) = d := HD.out.symm
     have hdw : IntKind.i64.wrap (n - 0) = d := (i64_w _).trans hd
     have hd0 := hd
     rw [Int.sub_zero] at hd0
     have hdw0 := hdw
     rw [Int.sub_zero] at hdw0
     refine start_ (n := 32) (S := fun w' => w'.cell? ⟨gW + 1, 0, none⟩ = some (.int .u64 1125899906842624) ∧ w'.cell? ⟨gW + 1, 1, none⟩ = some (.int .u64 0) ∧ w'.cell? ⟨gW + 1, 2, none⟩ = some (.int .u64 0) ∧ w'.cell? ⟨gW + 1, 3, none⟩ = some (.int .u64 0) ∧ w'.cell? ⟨gW + 1, 4, none⟩ = some (.int .i64 1) ∧ w'.cell? ⟨gW + 1, 5, none⟩ = some (.slice (some ⟨gW, 0, none⟩) 1 1)) (ds := []) (mB_ 32 0) (by kernel_rfl) rfl rfl ⟨(blk_cell BKl.out 0).trans rfl, (blk_cell BKl.out 1).trans rfl, (blk_cell BKl.out 2).trans rfl, (blk_cell BKl.out 3).trans rfl, (blk_cell BKl.out 4).trans rfl, (blk_cell BKl.out 5).trans rfl⟩ (fun hHeld => ?_)
     generalize ((w17.alloc (Obj.cells #[.string wb, .string wk, .string (⟨#[]⟩ : ByteArray), .bool true] 24)).alloc (Obj.cells #[.int .u64 1125899906842624, .int .u64 0, .int .u64 0, .int .u64 0, .int .i64 1, .slice (some ⟨gW, 0, none⟩) 1 1] 64)).drew = wx at HA9 HB9 BKl BKg hHeld ⊢
     refine Kp_ 0 91 (mB_ 32 1) (by kernel_rfl) ?_
     refine Kp_ 1 92 (mB_ 32 3) (by kernel_rfl) ?_
     refine Kp_ 2 93 (mB_ 32 7) (by kernel_rfl) ?_
     refine Kp_ 3 94 (mB_ 32 15) (by kernel_rfl) ?_
     refine Kp_ 4 95 (mB_ 32 31) (by kernel_rfl) ?_
     refine Kp_ 5 96 (mB_ 32 63) (by kernel_rfl) ?_
     refine Kp_ 6 97 (mB_ 32 127) (by kernel_rfl) ?_
     refine Kp_ 7 98 (mB_ 32 255) (by kernel_rfl) ?_
     refine Kp_ 8 99 (mB_ 32 511) (by kernel_rfl) ?_
     refine Kp_ 9 100 (mB_ 32 1023) (by kernel_rfl) ?_
     refine Kp_ 10 101 (mB_ 32 2047) (by kernel_rfl) ?_
     refine Kp_ 11 102 (mB_ 32 4095) (by kernel_rfl) ?_
     refine Kp_ 12 103 (mB_ 32 8191) (by kernel_rfl) ?_
     refine Kp_ 13 104 (mB_ 32 16383) (by kernel_rfl) ?_
     refine Kp_ 14 105 (mB_ 32 32767) (by kernel_rfl) ?_
     refine Kp_ 15 106 (mB_ 32 65535) (by kernel_rfl) ?_
     refine Kp_ 16 107 (mB_ 32 131071) (by kernel_rfl) ?_
     refine Kp_ 17 108 (mB_ 32 262143) (by kernel_rfl) ?_
     refine Ko_ 18 109 (mB_ 32 524287) (by kernel_rfl) hHeld ?_
     refine Kp_ 22 113 (mB_ 32 4718591) (by kernel_rfl) ?_
     refine Kp_ 23 114 (mB_ 32 13107199) (by kernel_rfl) ?_
     refine Kp_ 24 115 (mB_ 32 29884415) (by kernel_rfl) ?_
     refine one_ (i := 19) (N := some 110) (mB_ 32 30408703) rfl rfl (by kernel_rfl) (by decide) (fun K hK => ?_)
     refine value_ (w1 := ?_) (v := ?_) (by rfl) rfl ?_ ?_
     rotate_left 2
     ·go_simp
      constructor
      ·rfl
      ·rfl
     refine hK.out _ _ ⟨(blk_cell (blk_alloc BKl.out _) 0).trans rfl, (blk_cell (blk_alloc BKl.out _) 1).trans rfl, (blk_cell (blk_alloc BKl.out _) 2).trans rfl, (blk_cell (blk_alloc BKl.out _) 3).trans rfl, (blk_cell (blk_alloc BKl.out _) 4).trans rfl, (blk_cell (blk_alloc BKl.out _) 5).trans rfl⟩ (fun hHeld => ?_)
     clear hK K
     refine Kn_ 110 ?_
     refine one_ (i := 20) (N := some 111) (mB_ 32 31457279) rfl rfl (by kernel_rfl) (by decide) (fun K hK => ?_)
     refine Go.Proofs.Ythjhkcebcgdeoaa.Jud.full_step (W := wx) (by rfl) (.tmp 108) (.tmp 110) rfl A6 al (⟨⟨⟨1125899906842624, 0, 0, 0⟩, 1⟩, [⟨wb, wk, ⟨#[]⟩, true⟩]⟩ : S64) [.int .u64 1125899906842624, .int .u64 0, .int .u64 0, .int .u64 0, .int .i64 1, .slice (some ⟨gW, 0, none⟩) 1 1] rfl rfl ?fC ?fK ?fl ?_
     (case fC => exact (Kd.R_reads' HA9.out).2.2)
     (case fK => exact k64_mk wx (⟨⟨⟨1125899906842624, 0, 0, 0⟩, 1⟩, [⟨wb, wk, ⟨#[]⟩, true⟩]⟩ : S64) (A5 := some ⟨gW, 0, none⟩) (c5 := 1) (by show 1 ≤ 1; omega) (Go.Proofs.Ythjhkcebcgdeoaa.Jud.C_one ⟨wb, wk, ⟨#[]⟩, true⟩ BKg.out))
     (case fl => have := HL10.out; omega)
     intro A1 c1 wy hC1 hl1_ hb
     rw [← HNL.out] at hC1 hl1_ ⊢
     have HC1 := Aside0.mk hC1
     have HL1 := Aside0.mk hl1_
     have BKl2 := Aside0.mk (blk_below BKl.out hb)
     have HB10 := Aside0.mk (below_step HB9.out hb)
     clear hC1 hl1_ hb
     refine hK.out _ _ ⟨(blk_cell BKl2.out 0).trans rfl, (blk_cell BKl2.out 1).trans rfl, (blk_cell BKl2.out 2).trans rfl, (blk_cell BKl2.out 3).trans rfl, (blk_cell BKl2.out 4).trans rfl, (blk_cell BKl2.out 5).trans rfl⟩ (fun hHeld => ?_)
     clear hK K
     refine Kn_ 111 ?_
     refine one_ (i := 21) (N := some 112) (mB_ 32 33554431) rfl rfl (by kernel_rfl) (by decide) (fun K hK => ?_)
     refine goes_ Try.func22 (by kernel_rfl) rfl #[.slice A1 nl.length c1] (by rfl) rfl rfl (by (try simp only [List.map_toArray, List.map_cons, List.map_nil]); first | done | rfl) ?_
     refine (judge_Live.calls A1 c1 nl d _ HC1.out HL1.out E3.out).mono ?_
     rintro e_ wz ⟨rfl, hb⟩
     refine ⟨_, rfl, ?_⟩
     have BKl3 := Aside0.mk (blk_below BKl2.out hb)
     have HB11 := Aside0.mk (below_step HB10.out hb)
     clear hb
     refine hK.out _ _ ⟨(blk_cell BKl3.out 0).trans rfl, (blk_cell BKl3.out 1).trans rfl, (blk_cell BKl3.out 2).trans rfl, (blk_cell BKl3.out 3).trans rfl, (blk_cell BKl3.out 4).trans rfl, (blk_cell BKl3.out 5).trans rfl⟩ (fun hHeld => ?_)
     clear hK K
     refine Kn_ 112 ?_
     refine Kp_ 25 116 (mB_ 32 67108863) (by kernel_rfl) ?_
     refine Kp_ 26 117 (mB_ 32 134217727) (by kernel_rfl) ?_
     refine Kp_ 27 118 (mB_ 32 268435455) (by kernel_rfl) ?_
     refine one_ (i := 28) (N := some 119) (mB_ 32 536870911) rfl rfl (by kernel_rfl) (by decide) (fun K hK => ?_)
     refine goes_ Try.func22 (by kernel_rfl) rfl #[.slice none 0 0] (by rfl) rfl rfl (by (try simp only [List.map_toArray, List.map_cons, List.map_nil]); first | done | rfl) ?_
     refine (judge_Live.calls none 0 [] 0 _ (Kd.C_nil _ _) (Nat.le_refl _) E4.out).mono ?_
     rintro e_ wv_ ⟨rfl, hb⟩
     refine ⟨_, rfl, ?_⟩
     have BKl4 := Aside0.mk (blk_below BKl3.out hb)
     have HB12 := Aside0.mk (below_step HB11.out hb)
     clear hb
     refine hK.out _ _ ⟨(blk_cell BKl4.out 0).trans rfl, (blk_cell BKl4.out 1).trans rfl, (blk_cell BKl4.out 2).trans rfl, (blk_cell BKl4.out 3).trans rfl, (blk_cell BKl4.out 4).trans rfl, (blk_cell BKl4.out 5).trans rfl⟩ (fun hHeld => ?_)
     clear hK K
     refine Kn_ 119 ?_
     refine Kp_ 29 120 (mB_ 32 1073741823) (by kernel_rfl) ?_
     refine Kp_ 30 121 (mB_ 32 2147483647) (by kernel_rfl) ?_
     refine Kp_ 31 4 (mB_ 32 4294967295) (by kernel_rfl) ?_
     refine done_ (by kernel_rfl) ?_
     go_wp2
     go_ret
     exact ⟨by first | rfl | simp, HB12.out⟩
    | true =>
     have hle := HLE.out
     rw [if_pos rfl] at hle
     obtain ⟨l1, hl1⟩ : ∃ l_ : Int, wrap64 ((wb.size : Int) + (wk.size : Int)) = l_ := ⟨_, rfl⟩
     rw [hl1] at hle
     have hl2 : wrap64 (l1 + (v.size : Int)) = le := hle.symm
     have hl1w : IntKind.i64.wrap ((wb.size : Int) + (wk.size : Int)) = l1 := (i64_w _).trans hl1
     have hl2w : IntKind.i64.wrap (l1 + (v.size : Int)) = le := (i64_w _).trans hl2
     clear hle HLE
     go_wp2_with (first
      | ((with_reducible refine gate_dst (N := 59) rfl ?_); refine Kg_ (some 59) rfl rfl Try.func12 (by kernel_rfl) rfl #[.agg #[.string a1_0, .string a1_1, .string a1_2, .bool a1_3, .bool true, .int .u8 a1_5]] rfl ?_; (with_reducible refine (tenementlaw22_Put_write.calls a1_0 a1_1 a1_2 a1_3 true a1_5 wb wk wv wg _ HPW.out).mono ?_); have HA5 := Aside0.mk (Go.Proofs.Ythjhkcebcgdeoaa.Jud.LT_far (i := 4) HA.out BK3.out (by decide) (.bool true)); have HB5 : Aside0 (Below w.heap.size w (wr.setCell ⟨g3, 4, none⟩ (.bool true))) := ⟨HB.out.setCell GE3.out _⟩; clear hp0 hp1 hp2 hp3 hp4 hp5 fp0 fp1 fp2 fp3 fp4 fp5; rintro e w15 ⟨rfl, hb⟩; refine ⟨_, rfl, ?_⟩; have HA6 := Aside0.mk (Kd.R_below HA5.out hb); have HB6 := Aside0.mk (below_step HB5.out hb); clear hb)
      | ((with_reducible refine gate_dst (N := 66) rfl ?_); refine Kg_ (some 66) rfl rfl Try.func16 (by kernel_rfl) rfl #[.slice A6 al.length c6, .string wb, .string wk] rfl ?_; (with_reducible refine (judge_Last.calls A6 c6 al wb wk v true _ ?s1 HC6.out E1.out).mono ?_); (case s1 => exact (Kd.R_reads' (Kd.R_below HA6.out (below_alloc (Below.refl _ _) _))).2.2); rintro e w16 ⟨rfl, hb⟩; refine ⟨_, rfl, ?_⟩; have hb2 := below_step (below_alloc (Below.refl _ _) _) hb; have BKw := Aside0.mk (blk_below (blk_new w15 _) hb); have HA7 := Aside0.mk (Kd.R_below HA6.out hb2); have HB7 := Aside0.mk (below_step HB6.out hb2); clear hb hb2; generalize w15.heap.size = g12 at BKw ⊢)
      | ((with_reducible refine gate_dst (N := 70) rfl ?_); refine Kg_ (some 70) rfl rfl Try.func22 (by kernel_rfl) rfl #[.slice A6 al.length c6] rfl ?_; (with_reducible refine (judge_Live.calls A6 c6 al n _ ?s1 HC6.out E2.out).mono ?_); (case s1 => exact (Kd.R_reads' HA7.out).2.2); rintro e w17 ⟨rfl, hb⟩; refine ⟨_, rfl, ?_⟩; have BKw2 := Aside0.mk (blk_below BKw.out hb); have HA8 := Aside0.mk (Kd.R_below HA7.out hb); have HB8 := Aside0.mk (below_step HB7.out hb); clear hb; obtain ⟨we0, we1, -, -, -, -, -⟩ := Go.Proofs.Ythjhkcebcgdeoaa.Jud.cells4 BKw2.out)
      | (with_reducible refine Go.Proofs.Ythjhkcebcgdeoaa.Jud.park_ ?roundEnd))
     have hbW := below_alloc (below_alloc (Below.refl w17.heap.size w17) (Obj.cells #[.string wb, .string wk, .string (⟨#[]⟩ : ByteArray), .bool true] 24)) (Obj.cells #[.int .u64 1125899906842624, .int .u64 0, .int .u64 0, .int .u64 0, .int .i64 1, .slice (some ⟨w17.heap.size, 0, none⟩) 1 1] 64)
     have HA9 := Aside0.mk (Kd.R_drew (Kd.R_below HA8.out hbW))
     have HB9 := Aside0.mk (below_drew1 (below_step HB8.out hbW))
     have hbl := blk_new (w17.alloc (Obj.cells #[.string wb, .string wk, .string (⟨#[]⟩ : ByteArray), .bool true] 24)) (Obj.cells #[.int .u64 1125899906842624, .int .u64 0, .int .u64 0, .int .u64 0, .int .i64 1, .slice (some ⟨w17.heap.size, 0, none⟩) 1 1] 64)
     rw [World.size_alloc] at hbl
     have BKl := Aside0.mk (blk_drew hbl)
     have BKg := Aside0.mk (blk_drew (blk_alloc (blk_new w17 (Obj.cells #[.string wb, .string wk, .string (⟨#[]⟩ : ByteArray), .bool true] 24)) (Obj.cells #[.int .u64 1125899906842624, .int .u64 0, .int .u64 0, .int .u64 0, .int .i64 1, .slice (some ⟨w17.heap.size, 0, none⟩) 1 1] 64)))
     generalize w17.heap.size = gW at HA9 HB9 BKl BKg ⊢
     clear hbW hbl
     obtain ⟨nl, hnl⟩ : ∃ l_ : List S64, l_ = al ++ [(⟨⟨⟨1125899906842624, 0, 0, 0⟩, 1⟩, [⟨wb, wk, ⟨#[]⟩, true⟩]⟩ : S64)] := ⟨_, rfl⟩
     rw [← hnl] at E3
     have HNL := Aside0.mk hnl
     clear hnl
     have hcut := Go.Proofs.Ythjhkcebcgdeoaa.Jud.cut_full A6 al.length c6 HC6.out
     have b1 : decide (n ≤ s) = true := decide_eq_true HSN.out
     have b2 : decide (le ≤ n) = true := decide_eq_true HLN.out
     have hd : wrap64 (n - le) = d := HD.out.symm
     have hdw : IntKind.i64.wrap (n - le) = d := (i64_w _).trans hd
     refine start_ (n := 32) (S := fun w' => w'.cell? ⟨gW + 1, 0, none⟩ = some (.int .u64 1125899906842624) ∧ w'.cell? ⟨gW + 1, 1, none⟩ = some (.int .u64 0) ∧ w'.cell? ⟨gW + 1, 2, none⟩ = some (.int .u64 0) ∧ w'.cell? ⟨gW + 1, 3, none⟩ = some (.int .u64 0) ∧ w'.cell? ⟨gW + 1, 4, none⟩ = some (.int .i64 1) ∧ w'.cell? ⟨gW + 1, 5, none⟩ = some (.slice (some ⟨gW, 0, none⟩) 1 1)) (ds := []) (mB_ 32 0) (by kernel_rfl) rfl rfl ⟨(blk_cell BKl.out 0).trans rfl, (blk_cell BKl.out 1).trans rfl, (blk_cell BKl.out 2).trans rfl, (blk_cell BKl.out 3).trans rfl, (blk_cell BKl.out 4).trans rfl, (blk_cell BKl.out 5).trans rfl⟩ (fun hHeld => ?_)
     generalize ((w17.alloc (Obj.cells #[.string wb, .string wk, .string (⟨#[]⟩ : ByteArray), .bool true] 24)).alloc (Obj.cells #[.int .u64 1125899906842624, .int .u64 0, .int .u64 0, .int .u64 0, .int .i64 1, .slice (some ⟨gW, 0, none⟩) 1 1] 64)).drew = wx at HA9 HB9 BKl BKg hHeld ⊢
     refine Kp_ 0 91 (mB_ 32 1) (by kernel_rfl) ?_
     refine Kp_ 1 92 (mB_ 32 3) (by kernel_rfl) ?_
     refine Kp_ 2 93 (mB_ 32 7) (by kernel_rfl) ?_
     refine Kp_ 3 94 (mB_ 32 15) (by kernel_rfl) ?_
     refine Kp_ 4 95 (mB_ 32 31) (by kernel_rfl) ?_
     refine Kp_ 5 96 (mB_ 32 63) (by kernel_rfl) ?_
     refine Kp_ 6 97 (mB_ 32 127) (by kernel_rfl) ?_
     refine Kp_ 7 98 (mB_ 32 255) (by kernel_rfl) ?_
     refine Kp_ 8 99 (mB_ 32 511) (by kernel_rfl) ?_
     refine Kp_ 9 100 (mB_ 32 1023) (by kernel_rfl) ?_
     refine Kp_ 10 101 (mB_ 32 2047) (by kernel_rfl) ?_
     refine Kp_ 11 102 (mB_ 32 4095) (by kernel_rfl) ?_
     refine Kp_ 12 103 (mB_ 32 8191) (by kernel_rfl) ?_
     refine Kp_ 13 104 (mB_ 32 16383) (by kernel_rfl) ?_
     refine Kp_ 14 105 (mB_ 32 32767) (by kernel_rfl) ?_
     refine Kp_ 15 106 (mB_ 32 65535) (by kernel_rfl) ?_
     refine Kp_ 16 107 (mB_ 32 131071) (by kernel_rfl) ?_
     refine Kp_ 17 108 (mB_ 32 262143) (by kernel_rfl) ?_
     refine Ko_ 18 109 (mB_ 32 524287) (by kernel_rfl) hHeld ?_
     refine Kp_ 22 113 (mB_ 32 4718591) (by kernel_rfl) ?_
     refine Kp_ 23 114 (mB_ 32 13107199) (by kernel_rfl) ?_
     refine Kp_ 24 115 (mB_ 32 29884415) (by kernel_rfl) ?_
     refine one_ (i := 19) (N := some 110) (mB_ 32 30408703) rfl rfl (by kernel_rfl) (by decide) (fun K hK => ?_)
     refine value_ (w1 := ?_) (v := ?_) (by rfl) rfl ?_ ?_
     rotate_left 2
     ·go_simp
      constructor
      ·rfl
      ·rfl
     refine hK.out _ _ ⟨(blk_cell (blk_alloc BKl.out _) 0).trans rfl, (blk_cell (blk_alloc BKl.out _) 1).trans rfl, (blk_cell (blk_alloc BKl.out _) 2).trans rfl, (blk_cell (blk_alloc BKl.out _) 3).trans rfl, (blk_cell (blk_alloc BKl.out _) 4).trans rfl, (blk_cell (blk_alloc BKl.out _) 5).trans rfl⟩ (fun hHeld => ?_)
     clear hK K
     refine Kn_ 110 ?_
     refine one_ (i := 20) (N := some 111) (mB_ 32 31457279) rfl rfl (by kernel_rfl) (by decide) (fun K hK => ?_)
     refine Go.Proofs.Ythjhkcebcgdeoaa.Jud.full_step (W := wx) (by rfl) (.tmp 108) (.tmp 110) rfl A6 al (⟨⟨⟨1125899906842624, 0, 0, 0⟩, 1⟩, [⟨wb, wk, ⟨#[]⟩, true⟩]⟩ : S64) [.int .u64 1125899906842624, .int .u64 0, .int .u64 0, .int .u64 0, .int .i64 1, .slice (some ⟨gW, 0, none⟩) 1 1] rfl rfl ?fC ?fK ?fl ?_
     (case fC => exact (Kd.R_reads' HA9.out).2.2)
     (case fK => exact k64_mk wx (⟨⟨⟨1125899906842624, 0, 0, 0⟩, 1⟩, [⟨wb, wk, ⟨#[]⟩, true⟩]⟩ : S64) (A5 := some ⟨gW, 0, none⟩) (c5 := 1) (by show 1 ≤ 1; omega) (Go.Proofs.Ythjhkcebcgdeoaa.Jud.C_one ⟨wb, wk, ⟨#[]⟩, true⟩ BKg.out))
     (case fl => have := HL10.out; omega)
     intro A1 c1 wy hC1 hl1_ hb
     rw [← HNL.out] at hC1 hl1_ ⊢
     have HC1 := Aside0.mk hC1
     have HL1 := Aside0.mk hl1_
     have BKl2 := Aside0.mk (blk_below BKl.out hb)
     have HB10 := Aside0.mk (below_step HB9.out hb)
     clear hC1 hl1_ hb
     refine hK.out _ _ ⟨(blk_cell BKl2.out 0).trans rfl, (blk_cell BKl2.out 1).trans rfl, (blk_cell BKl2.out 2).trans rfl, (blk_cell BKl2.out 3).trans rfl, (blk_cell BKl2.out 4).trans rfl, (blk_cell BKl2.out 5).trans rfl⟩ (fun hHeld => ?_)
     clear hK K
     refine Kn_ 111 ?_
     refine one_ (i := 21) (N := some 112) (mB_ 32 33554431) rfl rfl (by kernel_rfl) (by decide) (fun K hK => ?_)
     refine goes_ Try.func22 (by kernel_rfl) rfl #[.slice A1 nl.length c1] (by rfl) rfl rfl (by (try simp only [List.map_toArray, List.map_cons, List.map_nil]); first | done | rfl) ?_
     refine (judge_Live.calls A1 c1 nl d _ HC1.out HL1.out E3.out).mono ?_
     rintro e_ wz ⟨rfl, hb⟩
     refine ⟨_, rfl, ?_⟩
     have BKl3 := Aside0.mk (blk_below BKl2.out hb)
     have HB11 := Aside0.mk (below_step HB10.out hb)
     clear hb
     refine hK.out _ _ ⟨(blk_cell BKl3.out 0).trans rfl, (blk_cell BKl3.out 1).trans rfl, (blk_cell BKl3.out 2).trans rfl, (blk_cell BKl3.out 3).trans rfl, (blk_cell BKl3.out 4).trans rfl, (blk_cell BKl3.out 5).trans rfl⟩ (fun hHeld => ?_)
     clear hK K
     refine Kn_ 112 ?_
     refine Kp_ 25 116 (mB_ 32 67108863) (by kernel_rfl) ?_
     refine Kp_ 26 117 (mB_ 32 134217727) (by kernel_rfl) ?_
     refine Kp_ 27 118 (mB_ 32 268435455) (by kernel_rfl) ?_
     refine one_ (i := 28) (N := some 119) (mB_ 32 536870911) rfl rfl (by kernel_rfl) (by decide) (fun K hK => ?_)
     refine goes_ Try.func22 (by kernel_rfl) rfl #[.slice none 0 0] (by rfl) rfl rfl (by (try simp only [List.map_toArray, List.map_cons, List.map_nil]); first | done | rfl) ?_
     refine (judge_Live.calls none 0 [] 0 _ (Kd.C_nil _ _) (Nat.le_refl _) E4.out).mono ?_
     rintro e_ wv_ ⟨rfl, hb⟩
     refine ⟨_, rfl, ?_⟩
     have BKl4 := Aside0.mk (blk_below BKl3.out hb)
     have HB12 := Aside0.mk (below_step HB11.out hb)
     clear hb
     refine hK.out _ _ ⟨(blk_cell BKl4.out 0).trans rfl, (blk_cell BKl4.out 1).trans rfl, (blk_cell BKl4.out 2).trans rfl, (blk_cell BKl4.out 3).trans rfl, (blk_cell BKl4.out 4).trans rfl, (blk_cell BKl4.out 5).trans rfl⟩ (fun hHeld => ?_)
     clear hK K
     refine Kn_ 119 ?_
     refine Kp_ 29 120 (mB_ 32 1073741823) (by kernel_rfl) ?_
     refine Kp_ 30 121 (mB_ 32 2147483647) (by kernel_rfl) ?_
     refine Kp_ 31 4 (mB_ 32 4294967295) (by kernel_rfl) ?_
     refine done_ (by kernel_rfl) ?_
     go_wp2
     go_ret
     exact ⟨by first | rfl | simp, HB12.out⟩
end Go.Proofs.Ythjhkcebcgdeoaa.Q

set_option linter.unusedVariables false
namespace Go.Proofs.Ythjhkcebcgdeoaa.Q
open Go.RowKit Go.Proofs.Ythjhkcebcgdeoaa.Q Go.Proofs.YthjhkcebcgdeoaaW.PrintWords Go.Proofs.YthjhkcebcgdeoaaW.PrintLast Go.Proofs.YthjhkcebcgdeoaaW.PrintMore
def tenementlaw22_JudgeLive.Pure : Prop := ∀ (x0 : List (S61)) (x1 : S26), ((∀ x_ ∈ x0, wf61 x_) ∧ x0.length * 80 ≤ 140737488351232) → (wf26 x1) → tenementlaw22_JudgeLive.f x0 (x1.f0.f0) (x1.f0.f1) (x1.f0.f2) (x1.f0.f3) (x1.f1) (x1.f2) = some true
end Go.Proofs.Ythjhkcebcgdeoaa.Q

set_option linter.unusedVariables false
set_option linter.unusedSimpArgs false
namespace Go.Proofs.Ythjhkcebcgdeoaa.Pure
open Go.RowKit Go.Proofs.Ythjhkcebcgdeoaa.Q Go.Proofs.YthjhkcebcgdeoaaW.PrintWords Go.Proofs.YthjhkcebcgdeoaaW.PrintLast Go.Proofs.YthjhkcebcgdeoaaW.PrintMore Go.Proofs.Ythjhkcebcgdeoaa.Plain
abbrev Wr := S24
abbrev Pt := S26
def fits (x : Wr) : Prop := x.f0.size ≤ 140737488351232 ∧ x.f1.size ≤ 140737488351232 ∧ x.f2.size ≤ 140737488351232
theorem str_size (l : List Int) : (strOfNums l).size = l.length := by
 unfold strOfNums
 simp [ByteArray.size]
def wrt (p : Pt) (own : Bool) : Wr :=
 if own = true then (if 224 ≤ p.f2 then ⟨strOfNums [98, IntKind.u8.wrap (48 + Int.tmod p.f2 2)], strOfNums [IntKind.u8.wrap (97 + Int.tmod (IntKind.u8.wrap (Int.tdiv p.f2 2)) 4)], ⟨#[]⟩, true⟩
  else ⟨strOfNums [98, IntKind.u8.wrap (48 + Int.tmod p.f2 2)], strOfNums [IntKind.u8.wrap (97 + Int.tmod (IntKind.u8.wrap (Int.tdiv p.f2 2)) 4)], p.f0.f2.extract 0 (min p.f0.f2.size 8), false⟩)
 else p.f0
theorem wrt_f (p : Pt) (own : Bool) (h : fits p.f0) : tenementlaw22_Put_write.f p.f0.f0 p.f0.f1 p.f0.f2 p.f0.f3 own p.f2 = some ((wrt p own).f0, (wrt p own).f1, (wrt p own).f2, (wrt p own).f3) := by
 unfold tenementlaw22_Put_write.f wrt
 cases own with
 | true =>
  rw [if_pos rfl, if_pos rfl, if_pos (by have := h.2.2; omega)]
  by_cases c : 224 ≤ p.f2
  ·rw [if_pos c, if_pos c]
  ·rw [if_neg c, if_neg c]
 | false => rw [if_neg (by simp), if_neg (by simp)]
theorem wrt_fits (p : Pt) (own : Bool) (h : fits p.f0) : fits (wrt p own) := by
 unfold wrt
 cases own with
 | true =>
  rw [if_pos rfl]
  have z : (⟨#[]⟩ : ByteArray).size = 0 := rfl
  by_cases c : 224 ≤ p.f2
  ·rw [if_pos c]
   refine ⟨?_, ?_, ?_⟩
   ·show (strOfNums _).size ≤ _; rw [str_size]; simp
   ·show (strOfNums _).size ≤ _; rw [str_size]; simp
   ·show (⟨#[]⟩ : ByteArray).size ≤ _; omega
  ·rw [if_neg c]
   refine ⟨?_, ?_, ?_⟩
   ·show (strOfNums _).size ≤ _; rw [str_size]; simp
   ·show (strOfNums _).size ≤ _; rw [str_size]; simp
   ·show (ByteArray.extract _ _ _).size ≤ _; rw [ByteArray.size_extract]; omega
 | false => rw [if_neg (by simp)]; exact h
def same (w y : Wr) : Bool := decide (y.f0 = w.f0) && decide (y.f1 = w.f1)
def wrs (most : Nat) (whole : Bool) : List Pt → List Wr → List Wr
 | [], out => out
 | p :: ps, out => if out.length < most then (if (whole && out.any (same (wrt p (whole || p.f1)))) = true then wrs most whole ps out else wrs most whole ps (out ++ [wrt p (whole || p.f1)])) else out
theorem wrs_len (most : Nat) (whole : Bool) : ∀ l out, out.length ≤ most → (wrs most whole l out).length ≤ most
 | [], out, h => h
 | p :: ps, out, h => by
  unfold wrs
  by_cases c : out.length < most
  ·rw [if_pos c]
   split
   ·exact wrs_len most whole ps out h
   ·exact wrs_len most whole ps _ (by simp; omega)
  ·rw [if_neg c]; exact h
theorem wrs_all (most : Nat) (whole : Bool) (Q : Wr → Prop) : ∀ l out, (∀ p ∈ l, Q (wrt p (whole || p.f1))) → (∀ x ∈ out, Q x) → ∀ x ∈ wrs most whole l out, Q x
 | [], out, _, h => h
 | p :: ps, out, hl, h => by
  unfold wrs
  have hl' : ∀ q ∈ ps, Q (wrt q (whole || q.f1)) := fun q hq => hl q (by simp [hq])
  split
  ·split
   ·exact wrs_all most whole Q ps out hl' h
   ·refine wrs_all most whole Q ps _ hl' (fun x hx => ?_)
    rcases List.mem_append.1 hx with hx | hx
    ·exact h x hx
    ·rw [List.mem_singleton.1 hx]; exact hl p (by simp)
  ·exact h
theorem idx (i : Nat) (h : i ≤ 4611686018427387904) : wrap64 ((i : Int) + 1) = ((i + 1 : Nat) : Int) := by
 rw [wrap64_id (by omega) (by omega)]
 omega
theorem rdW (l : List Wr) (j : Nat) (h : j < l.length) : rd_T24 l (j : Int) = l[j] := by
 unfold rd_T24
 rw [Int.toNat_natCast, List.getD_eq_getElem?_getD, List.getElem?_eq_getElem h]
 rfl
theorem rdP (l : List Pt) (j : Nat) (h : j < l.length) : rd_T26 l (j : Int) = l[j] := by
 unfold rd_T26
 rw [Int.toNat_natCast, List.getD_eq_getElem?_getD, List.getElem?_eq_getElem h]
 rfl
theorem wr_l1 (l : List Pt) (most : Int) (whole : Bool) (out : List Wr) (i : Int) (w : Wr) (h7 : out.length ≤ 1000) (K : Nat) : ∀ d j fl, j + d = out.length →
  tenementlaw22_writes.l1 (K + d + 1) l most whole out i fl (j : Int) w.f0 w.f1 w.f2 w.f3 =
   if (whole && (fl || (out.drop j).any (same w))) = true then tenementlaw22_writes.l0 K l most whole out (wrap64 (i + 1)) else tenementlaw22_writes.l0 K l most whole (out ++ [w]) (wrap64 (i + 1)) := by
 intro d
 induction d with
 | zero =>
  intro j fl hj
  have e : out.drop j = [] := List.drop_eq_nil_of_le (by omega)
  rw [Nat.add_zero, tenementlaw22_writes.l1, if_neg (by omega), e, List.any_nil, Bool.or_false]
  cases whole with
  | true =>
   rw [if_pos rfl]
   cases fl with
   | true => rw [if_pos rfl, if_pos (by rfl)]
   | false => rw [if_neg (by simp), if_pos (by omega), if_neg (by simp)]
  | false => rw [if_neg (by simp), if_pos (by omega), if_neg (by simp)]
 | succ d ih =>
  intro j fl hj
  have hlt : j < out.length := by omega
  have e : out.drop j = out[j] :: out.drop (j + 1) := List.drop_eq_getElem_cons hlt
  rw [show K + (d + 1) + 1 = (K + d + 1) + 1 by omega, tenementlaw22_writes.l1, if_pos (by omega), idx j (by omega), e, List.any_cons]
  cases fl with
  | true =>
   rw [if_pos rfl, ih (j + 1) true (by omega)]
   simp only [Bool.true_or]
  | false =>
   rw [if_neg (by simp), if_pos (by omega), rdW out j hlt, Bool.false_or]
   by_cases c : (out[j].f0).toList = w.f0.toList
   ·rw [if_pos c, ih (j + 1) _ (by omega)]
    have c0 := toList_iff.1 c
    have hs : ((out[j].f1).toList == w.f1.toList) = same w out[j] := by
     unfold same
     rw [decide_eq_true c0, Bool.true_and]
     by_cases c1 : out[j].f1 = w.f1
     ·rw [decide_eq_true c1, c1]; simp
     ·rw [decide_eq_false c1]
      exact beq_eq_false_iff_ne.2 (fun h => c1 (toList_iff.1 h))
    rw [hs]
   ·rw [if_neg c, ih (j + 1) _ (by omega)]
    have hs : same w out[j] = false := by
     unfold same
     rw [decide_eq_false (fun h => c (by rw [h])), Bool.false_and]
    rw [hs, Bool.false_or]
theorem wr_l0 (l : List Pt) (most : Nat) (hm : most ≤ 100) (whole : Bool) (hl : ∀ p ∈ l, fits p.f0) (hz : l.length ≤ 4611686018427387904) : ∀ d i (out : List Wr) K, i + d = l.length → out.length ≤ most → (d + 1) * (most + 5) ≤ K →
  tenementlaw22_writes.l0 K l (most : Int) whole out (i : Int) = some (wrs most whole (l.drop i) out) := by
 intro d
 induction d with
 | zero =>
  intro i out K hi ho hK
  obtain ⟨K, rfl⟩ : ∃ m, K = m + 2 := ⟨K - 2, by omega⟩
  have e : l.drop i = [] := List.drop_eq_nil_of_le (by omega)
  rw [tenementlaw22_writes.l0, if_neg (by omega), tenementlaw22_writes.j1, if_neg (by simp), e]
  rfl
 | succ d ih =>
  intro i out K hi ho hK
  have hlt : i < l.length := by omega
  have e : l.drop i = l[i] :: l.drop (i + 1) := List.drop_eq_getElem_cons hlt
  have hK' : (d + 1) * (most + 5) + (most + 5) ≤ K := by
   rw [show (d + 1 + 1) * (most + 5) = (d + 1) * (most + 5) + (most + 5) by rw [Nat.add_mul, Nat.one_mul]] at hK
   exact hK
  have hf : fits l[i].f0 := hl _ (List.getElem_mem _)
  rw [e]
  unfold wrs
  by_cases c : out.length < most
  ·rw [if_pos c]
   obtain ⟨m, hm'⟩ : ∃ m, K = (m + out.length + 1) + 3 ∧ (d + 1) * (most + 5) ≤ m := ⟨K - out.length - 4, by omega, by omega⟩
   rw [hm'.1, tenementlaw22_writes.l0, if_pos (by omega), decide_eq_true (by omega : (out.length : Int) < (most : Int)), tenementlaw22_writes.j1, if_pos rfl, if_pos (by omega), if_pos (by omega), rdP l i hlt]
   have key : ∀ own : Bool, own = (whole || l[i].f1) → tenementlaw22_writes.j2 (m + out.length + 1 + 1) l (most : Int) whole out (i : Int) l[i].f0.f0 l[i].f0.f1 l[i].f0.f2 l[i].f0.f3 own l[i].f2 =
     some (if (whole && out.any (same (wrt l[i] (whole || l[i].f1)))) = true then wrs most whole (l.drop (i + 1)) out else wrs most whole (l.drop (i + 1)) (out ++ [wrt l[i] (whole || l[i].f1)])) := by
    intro own ho'
    rw [tenementlaw22_writes.j2, wrt_f _ _ hf, Option.bind_some]
    show tenementlaw22_writes.l1 (m + out.length + 1) l (most : Int) whole out (i : Int) false 0 (wrt l[i] own).f0 (wrt l[i] own).f1 (wrt l[i] own).f2 (wrt l[i] own).f3 = _
    have h1 := wr_l1 l (most : Int) whole out (i : Int) (wrt l[i] own) (by omega) m out.length 0 false (by omega)
    rw [show ((0 : Nat) : Int) = 0 from rfl] at h1
    rw [h1, List.drop_zero, Bool.false_or, idx i (by omega), ho']
    split
    ·rw [ih (i + 1) out m (by omega) ho hm'.2]
    ·rw [ih (i + 1) _ m (by omega) (by simp; omega) hm'.2]
   cases whole with
   | true =>
    rw [if_pos rfl, key true rfl]
   | false =>
    rw [if_neg (by simp), key _ (by simp)]
  ·rw [if_neg c]
   obtain ⟨m, rfl⟩ : ∃ m, K = m + 2 := ⟨K - 2, by omega⟩
   rw [tenementlaw22_writes.l0, if_pos (by omega), decide_eq_false (by omega : ¬ (out.length : Int) < (most : Int)), tenementlaw22_writes.j1, if_neg (by simp)]
theorem writes_f (l : List Pt) (most : Nat) (hm : most ≤ 100) (whole : Bool) (hl : ∀ p ∈ l, fits p.f0) (hz : l.length ≤ 4611686018427387904) {K : Nat} (hK : (l.length + 1) * (most + 5) ≤ K) :
  tenementlaw22_writes.f K l (most : Int) whole = some (wrs most whole l []) := by
 unfold tenementlaw22_writes.f
 have := wr_l0 l most hm whole hl hz l.length 0 [] K (by omega) (by simp) hK
 rw [show ((0 : Nat) : Int) = 0 from rfl, List.drop_zero] at this
 exact this
end Go.Proofs.Ythjhkcebcgdeoaa.Pure

set_option linter.unusedVariables false
set_option linter.unusedSimpArgs false
namespace Go.Proofs.Ythjhkcebcgdeoaa.Pure
open Go Go.RowKit Go.Proofs.Ythjhkcebcgdeoaa.Q Go.Proofs.YthjhkcebcgdeoaaW.PrintWords Go.Proofs.YthjhkcebcgdeoaaW.PrintLast Go.Proofs.YthjhkcebcgdeoaaW.PrintMore Go.Proofs.Ythjhkcebcgdeoaa.Plain
open Go.Proofs.Ythjhkcebcgdeoaa.Jud (Tx St)
abbrev Dl := S61
theorem deal_own3 (v0 v1 v2 v3 d : Int) (h0 : (Lit.int .u64 v0).wf = true) (h1 : (Lit.int .u64 v1).wf = true) (h2 : (Lit.int .u64 v2).wf = true) (o : Bool) (l : List Pt) (hl : ∀ p ∈ l, fits p.f0) (hz : l.length ≤ 4611686018427387904) {K : Nat} (hK : (l.length + 1) * 15 + 10 ≤ K) :
  ∃ (a b c g e : Nat) (xs : List Wr), tenementlaw22_Deal_deal.f K v0 v1 v2 v3 d o l true = some ((a : Int), (b : Int), (c : Int), (g : Int), (e : Int), xs) ∧ (a ≤ 4 ∧ b ≤ 4 ∧ c ≤ 4 ∧ g ≤ 4) ∧ 1 ≤ e ∧ e ≤ 3 ∧ (∀ x ∈ xs, fits x) ∧ 1 ≤ xs.length ∧ xs.length ≤ 8 := by
 unfold tenementlaw22_Deal_deal.f
 obtain ⟨n0, n1, n2, n3, dc, em, hn4, hd1, hd3, hS⟩ := mark_own (v3 := v3) (d := d) h0 h1 h2 (k := K) (by omega)
 have ew := writes_f l 8 (by omega) true hl hz (K := K) (by omega)
 have hln := wrs_len 8 true l [] (by simp)
 rw [show ((8 : Nat) : Int) = 8 from rfl] at ew
 rw [if_pos rfl, em, Option.bind_some, ew, Option.bind_some]
 by_cases c : ((wrs 8 true l []).length : Int) = 0
 ·rw [if_pos c]
  have z2 : (⟨#[98, 48]⟩ : ByteArray).size = 2 := rfl
  have z1 : (⟨#[97]⟩ : ByteArray).size = 1 := rfl
  have z3 : (⟨#[118]⟩ : ByteArray).size = 1 := rfl
  refine ⟨n0, n1, n2, n3, dc, _, rfl, hn4, hd1, hd3, ?_, by simp, by simp⟩
  intro x hx1
  rw [List.mem_singleton.1 hx1]
  exact ⟨show (⟨#[98, 48]⟩ : ByteArray).size ≤ _ by omega, show (⟨#[97]⟩ : ByteArray).size ≤ _ by omega, show (⟨#[118]⟩ : ByteArray).size ≤ _ by omega⟩
 ·rw [if_neg c]
  exact ⟨n0, n1, n2, n3, dc, _, rfl, hn4, hd1, hd3, wrs_all 8 true fits l [] (fun p hp => wrt_fits p _ (hl p hp)) (by simp), by omega, hln⟩
theorem rd61 (l : List Dl) (j : Nat) (h : j < l.length) : rd_T61 l (j : Int) = l[j] := by
 unfold rd_T61
 rw [Int.toNat_natCast, List.getD_eq_getElem?_getD, List.getElem?_eq_getElem h]
 rfl
end Go.Proofs.Ythjhkcebcgdeoaa.Pure

set_option linter.unusedVariables false
set_option linter.unusedSimpArgs false
namespace Go.Proofs.Ythjhkcebcgdeoaa.Pure
open Go Go.RowKit Go.Proofs.Ythjhkcebcgdeoaa.Q Go.Proofs.YthjhkcebcgdeoaaW.PrintWords Go.Proofs.YthjhkcebcgdeoaaW.PrintLast Go.Proofs.YthjhkcebcgdeoaaW.PrintMore Go.Proofs.Ythjhkcebcgdeoaa.Plain
open Go.Proofs.Ythjhkcebcgdeoaa.Jud (Tx St one lst)
theorem deals_most (x : List Dl) : ∃ M, ∀ p ∈ x, (p.f1.length + 1) * 15 + 10 ≤ M := by
 induction x with
 | nil => exact ⟨0, by simp⟩
 | cons p r ih =>
  obtain ⟨M, hM⟩ := ih
  refine ⟨M + ((p.f1.length + 1) * 15 + 10), fun q hq => ?_⟩
  rcases List.mem_cons.1 hq with rfl | hq
  ·omega
  ·have := hM q hq; omega
theorem rd_left (l : List Tx) (t : Tx) (i : Nat) (h : i < l.length) : rd_T64 (l ++ [t]) (i : Int) = rd_T64 l (i : Int) := by
 unfold rd_T64
 rw [Int.toNat_natCast, List.getD_eq_getElem?_getD, List.getD_eq_getElem?_getD, List.getElem?_append_left h]
theorem rd_last (l : List Tx) (t : Tx) : rd_T64 (l ++ [t]) (l.length : Int) = t := by
 unfold rd_T64
 rw [Int.toNat_natCast, List.getD_eq_getElem?_getD, List.getElem?_append_right (Nat.le_refl _), Nat.sub_self]
 rfl
def sn (a b c d : Int) (x : St) : Bool := decide (x.f0.f0 ≤ a ∧ x.f0.f1 ≤ b ∧ x.f0.f2 ≤ c ∧ x.f0.f3 ≤ d)
end Go.Proofs.Ythjhkcebcgdeoaa.Pure

set_option linter.unusedVariables false
set_option linter.unusedSimpArgs false
namespace Go.Proofs.Ythjhkcebcgdeoaa.Pure
open Go Go.RowKit Go.Proofs.Ythjhkcebcgdeoaa.Q Go.Proofs.YthjhkcebcgdeoaaW.PrintWords Go.Proofs.YthjhkcebcgdeoaaW.PrintLast Go.Proofs.YthjhkcebcgdeoaaW.PrintMore Go.Proofs.Ythjhkcebcgdeoaa.Plain
open Go.Proofs.Ythjhkcebcgdeoaa.Jud (Tx St Wn one lst srt put past idxs byStamp srt_length idxs_length rdN nub nub_mem nub_nodup prs lastOf liveJ sum_perm)
def odT (x y : St) : Int := lex (key x.f0.f0 x.f0.f1 x.f0.f2 x.f0.f3 x.f1) (key y.f0.f0 y.f0.f1 y.f0.f2 y.f0.f3 y.f1)
theorem odT_neg (x y : St) : odT y x = -odT x y := lex_neg _ _
theorem odT_self (x : St) : odT x x = 0 := lex_self _
def ky (x : St) : List Int := key x.f0.f0 x.f0.f1 x.f0.f2 x.f0.f3 x.f1
theorem odT_trans (x y z : St) (h : odT x y ≤ 0) (h' : odT y z ≤ 0) : odT x z ≤ 0 := lex_trans (ky x) (ky y) (ky z) rfl rfl h h'
def cm (x y : Wn) : Int := odT x.f0 y.f0
theorem fold_top : ∀ (r : List Wn) (m : Wn), (r.foldl (Jud.up cm) m = m ∨ r.foldl (Jud.up cm) m ∈ r) ∧ cm m (r.foldl (Jud.up cm) m) ≤ 0 ∧ ∀ y ∈ r, cm y (r.foldl (Jud.up cm) m) ≤ 0
 | [], m => ⟨.inl rfl, by show cm m m ≤ 0; unfold cm; rw [odT_self]; exact Int.le_refl 0, fun y hy => by cases hy⟩
 | x :: r, m => by
  obtain ⟨h1, h2, h3⟩ := fold_top r (Jud.up cm m x)
  rw [List.foldl_cons]
  have hm : cm m (Jud.up cm m x) ≤ 0 := by
   unfold Jud.up
   by_cases c : cm x m > 0
   ·rw [if_pos c]; have := odT_neg x.f0 m.f0; unfold cm at c ⊢; omega
   ·rw [if_neg c]; unfold cm; rw [odT_self]; exact Int.le_refl 0
  have hx : cm x (Jud.up cm m x) ≤ 0 := by
   unfold Jud.up
   by_cases c : cm x m > 0
   ·rw [if_pos c]; unfold cm; rw [odT_self]; exact Int.le_refl 0
   ·rw [if_neg c]; omega
  refine ⟨?_, odT_trans _ _ _ hm h2, fun y hy => ?_⟩
  ·rcases h1 with h1 | h1
   ·rw [h1]
    unfold Jud.up
    by_cases c : cm x m > 0
    ·rw [if_pos c]; exact .inr (by simp)
    ·rw [if_neg c]; exact .inl rfl
   ·exact .inr (List.mem_cons_of_mem _ h1)
  ·rcases List.mem_cons.1 hy with rfl | hy
   ·exact odT_trans _ _ _ hx h2
   ·exact h3 y hy
theorem mx_top (l : List Wn) (h : l ≠ []) : Jud.mx cm l ∈ l ∧ ∀ y ∈ l, cm y (Jud.mx cm l) ≤ 0 := by
 cases l with
 | nil => exact absurd rfl h
 | cons x r =>
  obtain ⟨h1, h2, h3⟩ := fold_top r x
  have e : Jud.mx cm (x :: r) = r.foldl (Jud.up cm) x := rfl
  rw [e]
  refine ⟨?_, fun y hy => ?_⟩
  ·rcases h1 with h1 | h1
   ·rw [h1]; simp
   ·exact List.mem_cons_of_mem _ h1
  ·rcases List.mem_cons.1 hy with rfl | hy
   ·exact h2
   ·exact h3 y hy
theorem one_st {is : St → Bool} {b k : ByteArray} {x : Tx} {a : Wn} (h : a ∈ one is b k x) : a.f0 = x.f0 := by
 unfold one at h
 split at h
 ·split at h
  ·rw [List.mem_singleton.1 h]
  ·cases h
 ·cases h
end Go.Proofs.Ythjhkcebcgdeoaa.Pure

set_option linter.unusedVariables false
set_option linter.unusedSimpArgs false
namespace Go.Proofs.Ythjhkcebcgdeoaa.Pure
open Go Go.RowKit Go.Proofs.Ythjhkcebcgdeoaa.Q Go.Proofs.YthjhkcebcgdeoaaW.PrintWords Go.Proofs.YthjhkcebcgdeoaaW.PrintLast Go.Proofs.YthjhkcebcgdeoaaW.PrintMore Go.Proofs.Ythjhkcebcgdeoaa.Plain
open Go.Proofs.Ythjhkcebcgdeoaa.Jud (Tx St Wn one lst liveJ lastOf allS szJ prs nub nub_mem nub_nodup sum_perm Pr hit rdN)
abbrev BB : Int := 422212465053696
theorem szJ_at {y : Wr} (h : fits y) (g : y.f3 = false) : szJ y = (y.f0.size : Int) + (y.f1.size : Int) + (y.f2.size : Int) := by
 obtain ⟨h0, h1, h2⟩ := h
 unfold szJ
 rw [g, if_neg (by simp), wrap64_id (x := (y.f0.size : Int) + (y.f1.size : Int)) (by omega) (by omega), wrap64_id (by omega) (by omega)]
theorem szJ_gone {y : Wr} (g : y.f3 = true) : szJ y = 0 := by
 unfold szJ
 rw [g, if_pos rfl]
theorem szJ_b {y : Wr} (h : fits y) : 0 ≤ szJ y ∧ szJ y ≤ BB := by
 cases g : y.f3 with
 | true => rw [szJ_gone g]; simp [BB]
 | false =>
  rw [szJ_at h g]
  obtain ⟨h0, h1, h2⟩ := h
  show _ ∧ _ ≤ (422212465053696 : Int)
  omega
def tt (ws : List Wr) : Int := (ws.map szJ).sum
theorem tt_cons (y : Wr) (ws : List Wr) : tt (y :: ws) = szJ y + tt ws := by unfold tt; rw [List.map_cons, List.sum_cons]
theorem tt_app (a b : List Wr) : tt (a ++ b) = tt a + tt b := by unfold tt; rw [List.map_append, List.sum_append]
theorem tt_b : ∀ ws : List Wr, (∀ y ∈ ws, fits y) → 0 ≤ tt ws ∧ tt ws ≤ (ws.length : Int) * BB
 | [], _ => by simp [tt]
 | y :: ws, h => by
  have h1 := szJ_b (h y (by simp))
  have h2 := tt_b ws (fun z hz => h z (List.mem_cons_of_mem _ hz))
  rw [tt_cons, List.length_cons]
  have : ((ws.length + 1 : Nat) : Int) * BB = (ws.length : Int) * BB + BB := by rw [show ((ws.length + 1 : Nat) : Int) = (ws.length : Int) + 1 by omega, Int.add_mul, Int.one_mul]
  omega
theorem add_is : ∀ (ws : List Wr) (s : Int), (∀ y ∈ ws, fits y) → 0 ≤ s → s + (ws.length : Int) * BB ≤ 4611686018427387904 → tenementlaw22_JudgeLive.add s ws = s + tt ws
 | [], s, _, _, _ => by simp [tenementlaw22_JudgeLive.add, tt]
 | y :: ws, s, h, h0, hb => by
  have h1 := szJ_b (h y (by simp))
  have h3 : ((ws.length + 1 : Nat) : Int) * BB = (ws.length : Int) * BB + BB := by rw [show ((ws.length + 1 : Nat) : Int) = (ws.length : Int) + 1 by omega, Int.add_mul, Int.one_mul]
  rw [List.length_cons, h3] at hb
  have h4 : 0 ≤ (ws.length : Int) * BB := Int.mul_nonneg (by omega) (by decide)
  have e : tenementlaw22_JudgeLive.add s (y :: ws) = tenementlaw22_JudgeLive.add (wrap64 (s + szJ y)) ws := rfl
  rw [e, wrap64_id (by omega) (by omega), add_is ws (s + szJ y) (fun z hz => h z (List.mem_cons_of_mem _ hz)) (by omega) (by omega), tt_cons]
  omega
theorem sm_is : ∀ (l : List Tx) (s : Int), (∀ t ∈ l, t.f1.length ≤ 8 ∧ ∀ y ∈ t.f1, fits y) → 0 ≤ s → s + (l.length : Int) * 8 * BB ≤ 4611686018427387904 → l.foldl (fun s t => tenementlaw22_JudgeLive.add s t.f1) s = s + tt (l.flatMap (·.f1))
 | [], s, _, _, _ => by simp [tt]
 | t :: l, s, h, h0, hb => by
  obtain ⟨h8, hf⟩ := h t (by simp)
  have h3 : ((l.length + 1 : Nat) : Int) * 8 * BB = (l.length : Int) * 8 * BB + 8 * BB := by rw [show ((l.length + 1 : Nat) : Int) = (l.length : Int) + 1 by omega, Int.add_mul, Int.add_mul, Int.one_mul]
  rw [List.length_cons, h3] at hb
  have h4 : 0 ≤ (l.length : Int) * 8 * BB := Int.mul_nonneg (by omega) (by decide)
  have h5 : (t.f1.length : Int) * BB ≤ 8 * BB := Int.mul_le_mul_of_nonneg_right (by omega) (by decide)
  have h6 := tt_b t.f1 hf
  rw [List.foldl_cons, add_is t.f1 s hf h0 (by omega), sm_is l _ (fun z hz => h z (List.mem_cons_of_mem _ hz)) (by omega) (by omega), List.flatMap_cons, tt_app]
  omega
theorem hit_iff {b k : ByteArray} {y : Wr} : hit b k y = true ↔ y.f0 = b ∧ y.f1 = k := by
 unfold hit
 rw [Bool.and_eq_true, beq_iff_eq, beq_iff_eq, toList_iff, toList_iff]
def gn : Wr := ⟨⟨#[]⟩, ⟨#[]⟩, ⟨#[]⟩, true⟩
theorem lst_spec (b k : ByteArray) (l : List Tx) : (Jud.wrs allS b k l = [] ∧ lst allS odT b k l = gn) ∨ (Jud.wrs allS b k l ≠ [] ∧ ∃ x ∈ l, lst allS odT b k l ∈ x.f1 ∧ (lst allS odT b k l).f0 = b ∧ (lst allS odT b k l).f1 = k) := by
 unfold lst
 by_cases c : Jud.wrs allS b k l = []
 ·rw [c]
  exact .inl ⟨rfl, rfl⟩
 ·have e1 : (Jud.wrs allS b k l).isEmpty = false := by cases e : Jud.wrs allS b k l with | nil => exact absurd e c | cons _ _ => rfl
  refine .inr ⟨c, ?_⟩
  rw [e1, if_neg (by simp)]
  show ∃ x ∈ l, (Jud.mx cm (Jud.wrs allS b k l)).f1 ∈ x.f1 ∧ (Jud.mx cm (Jud.wrs allS b k l)).f1.f0 = b ∧ (Jud.mx cm (Jud.wrs allS b k l)).f1.f1 = k
  obtain ⟨h1, _⟩ := mx_top _ c
  generalize Jud.mx cm (Jud.wrs allS b k l) = p at h1 ⊢
  unfold Jud.wrs at h1
  obtain ⟨x, hx, hp⟩ := List.mem_flatMap.1 h1
  refine ⟨x, hx, ?_⟩
  unfold one at hp
  rw [if_pos (show allS x.f0 = true from rfl)] at hp
  cases e : x.f1.find? (hit b k) with
  | none => rw [e] at hp; cases hp
  | some y =>
   rw [e] at hp
   rw [List.mem_singleton.1 hp]
   exact ⟨List.mem_of_find?_eq_some e, hit_iff.1 (List.find?_some e)⟩
theorem lst_out {b k : ByteArray} {l : List Tx} (h : (b, k) ∉ prs l) : lst allS odT b k l = gn := by
 rcases lst_spec b k l with h1 | ⟨_, x, hx, hy, e0, e1⟩
 ·exact h1.2
 ·refine absurd ?_ h
  unfold prs
  exact List.mem_flatMap.2 ⟨x, hx, List.mem_map.2 ⟨_, hy, by rw [e0, e1]⟩⟩
theorem keys_le (g : Pr → Wr) : ∀ (ps : List Pr) (W : List Wr), ps.Nodup → (∀ y ∈ W, fits y) → (∀ p ∈ ps, szJ (g p) = 0 ∨ (g p ∈ W ∧ ((g p).f0, (g p).f1) = p)) → (ps.map fun p => szJ (g p)).sum ≤ tt W
 | [], W, _, hf, _ => (tt_b W hf).1
 | p :: ps, W, hn, hf, hg => by
  obtain ⟨hp, hn⟩ := List.nodup_cons.1 hn
  have hsplit : ∀ W : List Wr, tt W = tt (W.filter (hit p.1 p.2)) + tt (W.filter fun y => !hit p.1 p.2 y) := by
   intro W
   induction W with
   | nil => simp [tt]
   | cons y W ih =>
    rw [tt_cons, ih, List.filter_cons, List.filter_cons]
    cases c : hit p.1 p.2 y with
    | true => simp only [if_true, Bool.not_true, Bool.false_eq_true, if_false, tt_cons]; omega
    | false => simp only [Bool.not_false, if_true, Bool.false_eq_true, if_false, tt_cons]; omega
  have h1 : ∀ (W : List Wr) (y : Wr), (∀ y ∈ W, fits y) → y ∈ W → szJ y ≤ tt W := by
   intro W y hf hy
   induction W with
   | nil => cases hy
   | cons z W ih =>
    rw [tt_cons]
    have hz := szJ_b (hf z (by simp))
    have hW := tt_b W (fun q hq => hf q (List.mem_cons_of_mem _ hq))
    rcases List.mem_cons.1 hy with rfl | hy
    ·omega
    ·have := ih (fun q hq => hf q (List.mem_cons_of_mem _ hq)) hy
     omega
  have ih := keys_le g ps (W.filter fun y => !hit p.1 p.2 y) hn (fun y hy => hf y (List.mem_filter.1 hy).1) (fun q hq => by
   rcases hg q (List.mem_cons_of_mem _ hq) with h | ⟨h, e⟩
   ·exact .inl h
   ·refine .inr ⟨List.mem_filter.2 ⟨h, ?_⟩, e⟩
    cases c : hit p.1 p.2 (g q) with
    | false => rfl
    | true =>
     obtain ⟨e0, e1⟩ := hit_iff.1 c
     rw [e0, e1] at e
     exact absurd (show p ∈ ps by rw [show p = q from e]; exact hq) hp)
  have h2 : szJ (g p) ≤ tt (W.filter (hit p.1 p.2)) := by
   have h0 := (tt_b (W.filter (hit p.1 p.2)) (fun y hy => hf y (List.mem_filter.1 hy).1)).1
   rcases hg p (by simp) with h | ⟨h, e⟩
   ·omega
   ·refine h1 _ _ (fun y hy => hf y (List.mem_filter.1 hy).1) (List.mem_filter.2 ⟨h, hit_iff.2 ⟨congrArg Prod.fst e, congrArg Prod.snd e⟩⟩)
  rw [List.map_cons, List.sum_cons, hsplit W]
  omega
theorem sum_nonneg {α : Type} (f : α → Int) : ∀ l : List α, (∀ x ∈ l, 0 ≤ f x) → 0 ≤ (l.map f).sum ∧ ∀ x ∈ l, f x ≤ (l.map f).sum
 | [], _ => ⟨by simp, fun x hx => by cases hx⟩
 | y :: l, h => by
  obtain ⟨h1, h2⟩ := sum_nonneg f l (fun x hx => h x (List.mem_cons_of_mem _ hx))
  have h0 := h y (by simp)
  rw [List.map_cons, List.sum_cons]
  refine ⟨by omega, fun x hx => ?_⟩
  rcases List.mem_cons.1 hx with rfl | hx
  ·omega
  ·have := h2 x hx; omega
theorem sum_but (f : Pr → Int) (q : Pr) : ∀ l : List Pr, l.Nodup → (q ∈ l → (l.map fun p => if p = q then 0 else f p).sum = (l.map f).sum - f q) ∧ (q ∉ l → (l.map fun p => if p = q then 0 else f p).sum = (l.map f).sum)
 | [], _ => ⟨fun h => (by cases h), fun _ => rfl⟩
 | p :: l, hn => by
  obtain ⟨hp, hn⟩ := List.nodup_cons.1 hn
  obtain ⟨h1, h2⟩ := sum_but f q l hn
  rw [List.map_cons, List.sum_cons, List.map_cons, List.sum_cons]
  by_cases c : p = q
  ·subst c
   rw [if_pos rfl, h2 hp]
   exact ⟨fun _ => by omega, fun h => absurd (by simp) h⟩
  ·rw [if_neg c]
   refine ⟨fun h => ?_, fun h => ?_⟩
   ·rcases List.mem_cons.1 h with h | h
    ·exact absurd h.symm c
    ·have := h1 h; omega
   ·have := h2 (fun h' => h (List.mem_cons_of_mem _ h')); omega
def lt (wb wk : ByteArray) : Tx := ⟨⟨⟨1125899906842624, 0, 0, 0⟩, 1⟩, [⟨wb, wk, ⟨#[]⟩, true⟩]⟩
def small (t : Tx) : Prop := (0 ≤ t.f0.f0.f0 ∧ t.f0.f0.f0 ≤ 4) ∧ (0 ≤ t.f0.f0.f1 ∧ t.f0.f0.f1 ≤ 4) ∧ (0 ≤ t.f0.f0.f2 ∧ t.f0.f0.f2 ≤ 4) ∧ (0 ≤ t.f0.f0.f3 ∧ t.f0.f0.f3 ≤ 4)
theorem odT_top {wb wk : ByteArray} {t : Tx} (h : small t) : odT (lt wb wk).f0 t.f0 = 1 := by
 obtain ⟨h0, h1, h2, h3⟩ := h
 have e1 : sumv 1125899906842624 0 0 0 = 1125899906842624 := by decide
 have e2 : sumv t.f0.f0.f0 t.f0.f0.f1 t.f0.f0.f2 t.f0.f0.f3 = t.f0.f0.f0 + t.f0.f0.f1 + t.f0.f0.f2 + t.f0.f0.f3 := by
  unfold sumv
  simp only [IntKind.wrap_u64]
  omega
 unfold odT key
 show lex [sumv 1125899906842624 0 0 0, _, _, _, _, _] _ = 1
 rw [lex, e1, e2, if_neg (by omega), if_pos (by omega)]
theorem lst_lt (b k wb wk : ByteArray) (l : List Tx) (hs : ∀ t ∈ l, small t) : lst allS odT b k (l ++ [lt wb wk]) = if (b, k) = (wb, wk) then (⟨wb, wk, ⟨#[]⟩, true⟩ : Wr) else lst allS odT b k l := by
 have hw : Jud.wrs allS b k (l ++ [lt wb wk]) = Jud.wrs allS b k l ++ one allS b k (lt wb wk) := by
  unfold Jud.wrs
  rw [List.flatMap_append, List.flatMap_cons, List.flatMap_nil, List.append_nil]
 by_cases c : (b, k) = (wb, wk)
 ·rw [if_pos c]
  obtain ⟨rfl, rfl⟩ := Prod.mk.inj c
  have ho : one allS b k (lt b k) = [⟨(lt b k).f0, ⟨b, k, ⟨#[]⟩, true⟩⟩] := by
   unfold one lt
   rw [if_pos (show allS _ = true from rfl), List.find?_cons, show hit b k (⟨b, k, ⟨#[]⟩, true⟩ : Wr) = true from hit_iff.2 ⟨rfl, rfl⟩]
  have hm : Jud.mx cm (Jud.wrs allS b k (l ++ [lt b k])) = ⟨(lt b k).f0, ⟨b, k, ⟨#[]⟩, true⟩⟩ := by
   rw [hw, ho]
   cases e : Jud.wrs allS b k l with
   | nil => rfl
   | cons x r =>
    have e2 : Jud.mx cm (x :: r ++ [⟨(lt b k).f0, ⟨b, k, ⟨#[]⟩, true⟩⟩]) = Jud.up cm (Jud.mx cm (x :: r)) ⟨(lt b k).f0, ⟨b, k, ⟨#[]⟩, true⟩⟩ := by
     unfold Jud.mx
     rw [List.cons_append, List.tail_cons, List.foldl_append]
     rfl
    rw [e2]
    have h1 := (mx_top (x :: r) (by simp)).1
    rw [← e] at h1 ⊢
    generalize Jud.mx cm (Jud.wrs allS b k l) = p at h1 ⊢
    unfold Jud.wrs at h1
    obtain ⟨t, ht, hp⟩ := List.mem_flatMap.1 h1
    unfold Jud.up
    rw [if_pos (by show odT (lt b k).f0 p.f0 > 0; rw [one_st hp, odT_top (hs t ht)]; omega)]
  unfold lst
  have e1 : (Jud.wrs allS b k (l ++ [lt b k])).isEmpty = false := by rw [hw, ho]; simp
  rw [e1, if_neg (by simp)]
  show (Jud.mx cm (Jud.wrs allS b k (l ++ [lt b k]))).f1 = _
  rw [hm]
 ·rw [if_neg c]
  have ho : one allS b k (lt wb wk) = [] := by
   unfold one lt
   rw [if_pos (show allS _ = true from rfl), List.find?_cons]
   cases e : hit b k (⟨wb, wk, ⟨#[]⟩, true⟩ : Wr) with
   | true =>
    obtain ⟨e0, e1⟩ := hit_iff.1 e
    exact absurd (by rw [← e0, ← e1]) c
   | false => rfl
  unfold lst
  rw [hw, ho, List.append_nil]
theorem prs_lt (wb wk : ByteArray) (l : List Tx) : prs (l ++ [lt wb wk]) = prs l ++ [(wb, wk)] := by
 unfold prs
 rw [List.flatMap_append]
 rfl
def MadeL (K : Nat) (p : Dl) (t : Tx) : Prop := tenementlaw22_Deal_deal.f K p.f0.f0.f0.f0 p.f0.f0.f0.f1 p.f0.f0.f0.f2 p.f0.f0.f0.f3 p.f0.f0.f1 p.f0.f1 p.f1 true = some (t.f0.f0.f0, t.f0.f0.f1, t.f0.f0.f2, t.f0.f0.f3, t.f0.f1, t.f1)
theorem madeL_ex (x : List Dl) (hx : ∀ p ∈ x, wf61 p) {M K : Nat} (hM : ∀ p ∈ x, (p.f1.length + 1) * 15 + 10 ≤ M) (hK : M ≤ K) : ∀ n, n ≤ x.length → n ≤ 10 →
  ∃ al : List Tx, al.length = n ∧ (∀ t ∈ al, small t ∧ t.f1.length ≤ 8 ∧ ∀ y ∈ t.f1, fits y) ∧ ∀ i : Nat, i < al.length → MadeL K (rd_T61 x i) (rd_T64 al i) := by
 intro n
 induction n with
 | zero => exact fun _ _ => ⟨[], rfl, fun t h => by simp at h, fun i h => absurd h (Nat.not_lt_zero _)⟩
 | succ n ih =>
  intro h1 h2
  obtain ⟨al, hl, hO, hm⟩ := ih (by omega) (by omega)
  have hrd := rd61 x n (by omega)
  have hmem : x[n]'(by omega) ∈ x := List.getElem_mem _
  have hw := hx _ hmem
  have hMk := hM _ hmem
  rw [← hrd] at hw hMk
  obtain ⟨p, hp⟩ : ∃ p, p = rd_T61 x (n : Int) := ⟨_, rfl⟩
  rw [← hp] at hw hMk
  obtain ⟨⟨⟨⟨v0, v1, v2, v3⟩, dd⟩, o⟩, ps, own⟩ := p
  have hl' : ∀ p ∈ ps, fits p.f0 := fun p hp => ⟨(hw.2.1.1 p hp).1.1, (hw.2.1.1 p hp).1.2.1, (hw.2.1.1 p hp).1.2.2.1⟩
  have hps : ps.length * 64 ≤ 140737488351232 := hw.2.1.2
  obtain ⟨a, b, c, g, e, xs, hf, hn, he1, he3, hfx, hx1, hx8⟩ := deal_own3 v0 v1 v2 v3 dd hw.1.1.1.1 hw.1.1.1.2.1 hw.1.1.1.2.2.1 o ps hl' (by omega) (K := K) (by simp only at hMk; omega)
  refine ⟨al ++ [⟨⟨⟨a, b, c, g⟩, e⟩, xs⟩], by simp [hl], fun t ht => ?_, fun i hi => ?_⟩
  ·rcases List.mem_append.1 ht with ht | ht
   ·exact hO t ht
   ·rw [List.mem_singleton.1 ht]
    refine ⟨?_, hx8, hfx⟩
    show (0 ≤ (a : Int) ∧ (a : Int) ≤ 4) ∧ (0 ≤ (b : Int) ∧ (b : Int) ≤ 4) ∧ (0 ≤ (c : Int) ∧ (c : Int) ≤ 4) ∧ (0 ≤ (g : Int) ∧ (g : Int) ≤ 4)
    omega
  ·by_cases c0 : i < al.length
   ·rw [rd_left al _ i c0]
    exact hm i c0
   ·have hin : i = n := by rw [List.length_append, List.length_singleton] at hi; omega
    subst hin
    rw [← hp, ← hl, rd_last]
    exact hf
theorem live_sum (l : List Tx) (hl : l.length ≤ 11) (h : ∀ t ∈ l, t.f1.length ≤ 8 ∧ ∀ y ∈ t.f1, fits y) (hk : ∀ p : Pr, ∃ y : Wr, fits y ∧ lst allS odT p.1 p.2 l = y) :
  judge_Live.f l = some ((nub (prs l)).map (lastOf odT l)).sum ∧ 0 ≤ ((nub (prs l)).map (lastOf odT l)).sum ∧ ((nub (prs l)).map (lastOf odT l)).sum ≤ tt (l.flatMap (·.f1)) := by
 have hfW : ∀ y ∈ l.flatMap (·.f1), fits y := fun y hy => by
  obtain ⟨t, ht, hy⟩ := List.mem_flatMap.1 hy
  exact (h t ht).2 y hy
 have hlen : ∀ l : List Tx, (∀ t ∈ l, t.f1.length ≤ 8) → (l.flatMap (·.f1)).length ≤ l.length * 8 := by
  intro l
  induction l with
  | nil => simp
  | cons t l ih =>
   intro h
   have := ih (fun z hz => h z (List.mem_cons_of_mem _ hz))
   have := h t (by simp)
   rw [List.flatMap_cons, List.length_append, List.length_cons]
   omega
 have hl8 := hlen l (fun t ht => (h t ht).1)
 have hb := tt_b _ hfW
 have hle : ((nub (prs l)).map (lastOf odT l)).sum ≤ tt (l.flatMap (·.f1)) := keys_le (fun p : Pr => lst allS odT p.1 p.2 l) (nub (prs l)) _ (nub_nodup _) hfW (fun (p : Pr) _ => by
  rcases lst_spec p.1 p.2 l with h1 | ⟨_, x, hx, hy, e0, e1⟩
  ·left; show szJ _ = 0; rw [h1.2]; exact szJ_gone rfl
  ·right; exact ⟨List.mem_flatMap.2 ⟨x, hx, hy⟩, by rw [e0, e1]⟩)
 have hnn : 0 ≤ ((nub (prs l)).map (lastOf odT l)).sum := (sum_nonneg (lastOf odT l) _ (fun p _ => by
  obtain ⟨y, hy, e⟩ := hk p
  show 0 ≤ szJ _
  rw [e]
  exact (szJ_b hy).1)).1
 refine ⟨?_, hnn, hle⟩
 unfold judge_Live.f
 rw [if_pos (show judge_Live.ok l from ⟨by omega, fun x hx => ⟨by have := (h x hx).1; omega, fun y hy => by have := (h x hx).2 y hy; unfold fits at this; omega⟩⟩)]
 show some (wrap64 ((nub (prs l)).map (lastOf odT l)).sum) = _
 have h88 : ((l.flatMap (·.f1)).length : Int) * BB ≤ 88 * BB := Int.mul_le_mul_of_nonneg_right (by omega) (by decide)
 have hBB : (88 : Int) * BB = 37154696924725248 := by decide
 rw [wrap64_id (by omega) (by omega)]
theorem last_f' (l : List Tx) (h : l.length ≤ 1000000 ∧ ∀ x ∈ l, x.f1.length ≤ 1000) (b k : ByteArray) : judge_Last.f l b k = some (if (lst allS odT b k l).f3 then ⟨#[]⟩ else (lst allS odT b k l).f2, !(lst allS odT b k l).f3) := by
 unfold judge_Last.f
 rw [if_pos (show judge_Last.ok _ from h)]
 rfl
theorem fits_gn : fits gn := by
 have z : (⟨#[]⟩ : ByteArray).size = 0 := rfl
 exact ⟨show (⟨#[]⟩ : ByteArray).size ≤ _ by omega, show (⟨#[]⟩ : ByteArray).size ≤ _ by omega, show (⟨#[]⟩ : ByteArray).size ≤ _ by omega⟩
theorem JudgeLive : tenementlaw22_JudgeLive.Pure := by
 intro x p hx hp
 obtain ⟨M, hM⟩ := deals_most x
 obtain ⟨al, hl, hO, hmd⟩ := madeL_ex x hx.1 hM (Nat.le_refl M) (min x.length 10) (by omega) (by omega)
 have hfp : fits p.f0 := ⟨hp.1.1, hp.1.2.1, hp.1.2.2.1⟩
 have hw := wrt_f p true hfp
 have hfw := wrt_fits p true hfp
 generalize wrt p true = w at hw hfw
 obtain ⟨wb, wk, wv, wg⟩ := w
 simp only at hw
 have h8 : ∀ t ∈ al, t.f1.length ≤ 8 ∧ ∀ y ∈ t.f1, fits y := fun t ht => (hO t ht).2
 have hsm : ∀ t ∈ al, small t := fun t ht => (hO t ht).1
 have hfl : ∀ b k, fits (lst allS odT b k al) := fun b k => by
  rcases lst_spec b k al with h1 | ⟨_, x, hx, hy, _⟩
  ·rw [h1.2]; exact fits_gn
  ·exact (h8 x hx).2 _ hy
 obtain ⟨e2, hn0, hnt⟩ := live_sum al (by omega) h8 (fun q => ⟨_, hfl _ _, rfl⟩)
 have e1 := last_f' al ⟨by omega, fun t ht => by have := (h8 t ht).1; omega⟩ wb wk
 have hs : tenementlaw22_JudgeLive.sm al = tt (al.flatMap (·.f1)) := by
  have hb : (al.length : Int) * 8 * BB ≤ 80 * BB := Int.mul_le_mul_of_nonneg_right (by omega) (by decide)
  have hBB : (80 : Int) * BB = 33776997204295680 := by decide
  have := sm_is al 0 h8 (Int.le_refl 0) (by omega)
  rw [Int.zero_add] at this
  exact this
 -- the key's last write, as_ it counts
 have hle : lastOf odT al (wb, wk) = (if (!(lst allS odT wb wk al).f3) = true then wrap64 (wrap64 ((wb.size : Int) + (wk.size : Int)) + ((if (lst allS odT wb wk al).f3 then (⟨#[]⟩ : ByteArray) else (lst allS odT wb wk al).f2).size : Int)) else 0) := by
  show szJ (lst allS odT wb wk al) = _
  have hf := hfl wb wk
  rcases lst_spec wb wk al with h1 | ⟨_, x, hx, hy, f0, f1⟩
  ·rw [h1.2, szJ_gone (show gn.f3 = true from rfl), if_neg (by simp [gn])]
  ·generalize lst allS odT wb wk al = y at hf f0 f1 ⊢
   cases g : y.f3 with
   | true => rw [szJ_gone g, if_neg (by simp)]
   | false =>
    rw [if_pos (show (!false) = true from rfl), if_neg (by simp), ← f0, ← f1]
    unfold szJ
    rw [g, if_neg (by simp)]
 have hle0 : 0 ≤ lastOf odT al (wb, wk) := (szJ_b (hfl wb wk)).1
 have hzero : (wb, wk) ∉ prs al → lastOf odT al (wb, wk) = 0 := fun h => by
  show szJ (lst allS odT wb wk al) = 0
  rw [lst_out h]
  exact szJ_gone rfl
 have hlen : lastOf odT al (wb, wk) ≤ ((nub (prs al)).map (lastOf odT al)).sum := by
  by_cases c : (wb, wk) ∈ prs al
  ·exact (sum_nonneg (lastOf odT al) _ (fun q _ => (szJ_b (hfl q.1 q.2)).1)).2 _ ((nub_mem _ _).2 c)
  ·rw [hzero c]; exact hn0
 -- with the key gone
 have hfl' : ∀ b k, lst allS odT b k (al ++ [lt wb wk]) = if (b, k) = (wb, wk) then (⟨wb, wk, ⟨#[]⟩, true⟩ : Wr) else lst allS odT b k al := fun b k => lst_lt b k wb wk al hsm
 have hfg : fits (⟨wb, wk, ⟨#[]⟩, true⟩ : Wr) := ⟨hfw.1, hfw.2.1, fits_gn.1⟩
 obtain ⟨e3, hn0', _⟩ := live_sum (al ++ [lt wb wk]) (by simp; omega) (fun t ht => by
  rcases List.mem_append.1 ht with ht | ht
  ·exact h8 t ht
  ·rw [List.mem_singleton.1 ht]
   refine ⟨by show 1 ≤ 8; omega, fun y hy => ?_⟩
   rw [List.mem_singleton.1 hy]
   exact hfg) (fun q => by
  rw [hfl']
  by_cases c : (q.1, q.2) = (wb, wk)
  ·rw [if_pos c]; exact ⟨_, hfg, rfl⟩
  ·rw [if_neg c]; exact ⟨_, hfl _ _, rfl⟩)
 have hlast : lastOf odT (al ++ [lt wb wk]) = fun q => if q = (wb, wk) then 0 else lastOf odT al q := by
  funext q
  show szJ (lst allS odT q.1 q.2 (al ++ [lt wb wk])) = _
  rw [hfl']
  by_cases c : q = (wb, wk)
  ·rw [if_pos c, if_pos c]; exact szJ_gone rfl
  ·rw [if_neg c, if_neg c]; rfl
 have hsum : ((nub (prs (al ++ [lt wb wk]))).map (lastOf odT (al ++ [lt wb wk]))).sum = ((nub (prs al)).map (lastOf odT al)).sum - lastOf odT al (wb, wk) := by
  rw [hlast, prs_lt]
  have h1 := sum_but (lastOf odT al) (wb, wk) (nub (prs al)) (nub_nodup _)
  by_cases c : (wb, wk) ∈ prs al
  ·have hp : (nub (prs al ++ [(wb, wk)])).Perm (nub (prs al)) := (List.perm_ext_iff_of_nodup (nub_nodup _) (nub_nodup _)).2 (fun q => by
    rw [nub_mem, nub_mem, List.mem_append, List.mem_singleton]
    exact ⟨fun h => h.elim id (fun e => e ▸ c), .inl⟩)
   rw [sum_perm (hp.map _)]
   exact h1.1 ((nub_mem _ _).2 c)
  ·have hp : (nub (prs al ++ [(wb, wk)])).Perm (nub (prs al) ++ [(wb, wk)]) := (List.perm_ext_iff_of_nodup (nub_nodup _) (by
    rw [List.nodup_append]
    refine ⟨nub_nodup _, by simp, fun a ha b hb e => ?_⟩
    rw [List.mem_singleton.1 hb] at e
    exact c ((nub_mem _ _).1 (e ▸ ha)))).2 (fun q => by
    rw [nub_mem, List.mem_append, List.mem_append, nub_mem])
   rw [sum_perm (hp.map _), List.map_append, List.sum_append]
   have h2 := h1.2 (fun h => c ((nub_mem _ _).1 h))
   have h3 : (List.map (fun q => if q = (wb, wk) then 0 else lastOf odT al q) [(wb, wk)]).sum = 0 := by simp
   rw [hzero c, h2, h3]
   omega
 unfold tenementlaw22_JudgeLive.f
 refine if_pos ⟨M, al, wb, wk, wv, wg, _, _, _, _, _, ⟨hl, hmd⟩, hw, e1, e2, by rw [hs]; exact hnt, hle, hlen, rfl, ?_, ?_⟩
 ·show judge_Live.f (al ++ [lt wb wk]) = _
  have hb := tt_b (al.flatMap (·.f1)) (fun y hy => by
   obtain ⟨t, ht, hy⟩ := List.mem_flatMap.1 hy
   exact (h8 t ht).2 y hy)
  rw [e3, hsum]
  congr 1
  have hub : ((nub (prs al)).map (lastOf odT al)).sum ≤ 4611686018427387904 := by
   have hb2 : (al.length : Int) * 8 * BB ≤ 80 * BB := Int.mul_le_mul_of_nonneg_right (by omega) (by decide)
   have hBB : (80 : Int) * BB = 33776997204295680 := by decide
   have hlen8 : ∀ l : List Tx, (∀ t ∈ l, t.f1.length ≤ 8) → (l.flatMap (·.f1)).length ≤ l.length * 8 := by
    intro l
    induction l with
    | nil => simp
    | cons t l ih =>
     intro h
     have := ih (fun z hz => h z (List.mem_cons_of_mem _ hz))
     have := h t (by simp)
     rw [List.flatMap_cons, List.length_append, List.length_cons]
     omega
   have h80 := hlen8 al (fun t ht => (h8 t ht).1)
   have : ((al.flatMap (·.f1)).length : Int) * BB ≤ 80 * BB := Int.mul_le_mul_of_nonneg_right (by omega) (by decide)
   omega
  rw [wrap64_id (by omega) (by omega)]
 ·unfold judge_Live.f
  rw [if_pos (show judge_Live.ok [] from ⟨by simp, fun x hx => by cases hx⟩)]
  show some (wrap64 0) = some 0
  rw [wrap64_id (by omega) (by omega)]
end Go.Proofs.Ythjhkcebcgdeoaa.Pure
