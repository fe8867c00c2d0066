import Derived.Test.YtoogchgoiciggaaGItemReads2
import Derived.Test.YtoogchgoiciggaaGItemReads11
import Derived.Test.YtoogchgoiciggaaGItemReads12
import Derived.Test.YtoogchgoiciggaaGItemReads13
import Derived.Test.YtoogchgoiciggaaGItemReads6
import Derived.Test.YtoogchgoiciggaaGItemReads7
import Derived.Test.YtoogchgoiciggaaGItemReads15
import Derived.Test.YtoogchgoiciggaaGItemReads9
import Derived.Test.YtoogchgoiciggaaGItemReads14
import Derived.Test.YtoogchgoiciggaaGItemReads10
namespace Go.Proofs.Ytoogchgoiciggaa.Q
open Go.RowKit Go.Proofs.YtoogchgoiciggaaW.PrintWords Go.Proofs.YtoogchgoiciggaaW.PrintLast Go.Proofs.YtoogchgoiciggaaW.PrintMore
attribute [local go_sem] max2_int min2_int max_two min_two max_three min_three max_four min_four   -- for this text's walks alone
set_option linter.unusedVariables false
set_option linter.unusedSimpArgs false
mutual
def tenementlaw08_ItemReads.j1 : Nat → ByteArray → Bool → Option (Bool)
 | 0, _, _ => none
 | k + 1, x1, x11 => (item_Read.f k x1).bind fun bt587 => ((tenementref08_Read.f k x1).bind fun bt597 => (if x11 = true then ((tenementlaw08_refTxn.f k bt587.1 bt587.2.1 bt587.2.2.1 bt587.2.2.2.1 bt587.2.2.2.2.1 bt587.2.2.2.2.2.1).bind fun bt607 => ((tenementref08_Same.f k bt607.1 bt607.2.1 bt607.2.2.1 bt607.2.2.2.1 bt607.2.2.2.2.1 bt607.2.2.2.2.2 bt597.1 bt597.2.1 bt597.2.2.1 bt597.2.2.2.1 bt597.2.2.2.2.1 bt597.2.2.2.2.2.1).bind fun t615 => (if t615 = true then (if bt587.2.2.2.2.2.2 = bt597.2.2.2.2.2.2 then (some true) else (none)) else (none)))) else (none)))
def tenementlaw08_ItemReads.j0 : Nat → ByteArray → Int → Int → Bool → ByteArray → Int → Bool → Option (Bool)
 | 0, _, _, _, _, _, _, _ => none
 | k + 1, x1, x3, x4, x11, x12, x30, x31 => if x31 = true then ((tenementlaw08_bend.f x12 x3 x4).bind fun t586 => (tenementlaw08_ItemReads.j1 k t586 x11)) else (if x30 = 3 then (if x12.size + x1.size ≤ 9223372036854775807 then (tenementlaw08_ItemReads.j1 k (x12 ++ x1) x11) else (none)) else (tenementlaw08_ItemReads.j1 k x1 x11))
end
def tenementlaw08_ItemReads.f (k : Nat) (a0_0 : Int) (a0_1 : Int) (a0_2 : Int) (a0_3 : Int) (a0_4 : Int) (a0_5 : Bool) (l0_6 : List (S25)) (a0_7 : Bool) (a1 : ByteArray) (a2 : Int) (a3 : Int) (a4 : Int) : Option (Bool) := (tenementlaw08_examples.f k).bind fun t567 => (if t567 = true then ((tenementlaw08_Deal_deal.f k a0_0 a0_1 a0_2 a0_3 a0_4 a0_5 l0_6 true).bind fun bt568 => ((tenementlaw08_refTxn.f k bt568.1 bt568.2.1 bt568.2.2.1 bt568.2.2.2.1 bt568.2.2.2.2.1 bt568.2.2.2.2.2).bind fun bt576 => ((tenementref08_Bytes.f k bt576.1 bt576.2.1 bt576.2.2.1 bt576.2.2.2.1 bt576.2.2.2.2.1 bt576.2.2.2.2.2).bind fun bt584 => (if (Int.tmod a2 4) = 1 then (tenementlaw08_ItemReads.j0 k a1 a3 a4 t567 bt584.1 (Int.tmod a2 4) ((Int.tmod a2 4) == 1)) else (tenementlaw08_ItemReads.j0 k a1 a3 a4 t567 bt584.1 (Int.tmod a2 4) ((Int.tmod a2 4) == 2)))))) else (none))
def tenementlaw08_ItemReads.T14 : Bool × List (List Nat × List Nat) := (true, [([], []), ([0], [0]), ([1], [1]), ([2, 1, 1], [1, 2]), ([1], [1]), ([3, 4, 3, 1], [1, 3, 4]), ([1, 5], [1, 5]), ([6, 5], [6]), ([7], [7]), ([7], [7]), ([8, 9, 7], [7, 8, 9]), ([7, 10], [7, 10]), ([11, 7, 0, 1, 2, 3, 4, 5, 6, 7, 8, 9, 10, 11], [11])])
def tenementlaw08_ItemReads.B14 : List Nat := [0, 1, 3, 7, 3, 31, 63, 127, 255, 255, 1023, 2047, 4095]
theorem tenementlaw08_ItemReads.tab14 : rtab .any (opsOf Try.f5 14) = tenementlaw08_ItemReads.T14 := by kernel_rfl
theorem tenementlaw08_ItemReads.bits14 : waitsOk tenementlaw08_ItemReads.T14.2 tenementlaw08_ItemReads.B14 = true := by kernel_rfl
set_option maxHeartbeats 8000000 in
set_option maxRecDepth 100000 in
theorem tenementlaw08_ItemReads.calls (k : Nat) (a0_0 : Int) (a0_1 : Int) (a0_2 : Int) (a0_3 : Int) (a0_4 : Int) (a0_5 : Bool) (A0_6 : Option Addr) (c0_6 : Nat) (l0_6 : List (S25)) (a0_7 : Bool) (a1 : ByteArray) (a2 : Int) (a3 : Int) (a4 : Int) (r : Bool) (w : World) (hr0_6 : Kd.C k25 w A0_6 l0_6.length l0_6) (hc0_6 : l0_6.length ≤ c0_6) (h : tenementlaw08_ItemReads.f k a0_0 a0_1 a0_2 a0_3 a0_4 a0_5 l0_6 a0_7 a1 a2 a3 a4 = some r) :
  Calls Try.prog 5 #[.agg #[.int .u64 a0_0, .int .u64 a0_1, .int .u64 a0_2, .int .u64 a0_3, .int .i64 a0_4, .bool a0_5, .slice A0_6 l0_6.length c0_6, .bool a0_7], .string a1, .int .u8 a2, .int .i64 a3, .int .u8 a4] w fun e w' => e = .returned (.bool r) ∧ Below w.heap.size w w' := by
 have hu35 := Try.underlying35
 have hu43 := Try.underlying43
 have hu52 := Try.underlying52
 have HR0_6 := Aside0.mk hr0_6
 have HC0_6 := Aside0.mk hc0_6
 clear hr0_6 hc0_6
 have HB := Aside0.mk (Below.refl w.heap.size w)
 have H : ((tenementlaw08_examples.f k).bind fun t567 => (if t567 = true then ((tenementlaw08_Deal_deal.f k a0_0 a0_1 a0_2 a0_3 a0_4 a0_5 l0_6 true).bind fun bt568 => ((tenementlaw08_refTxn.f k bt568.1 bt568.2.1 bt568.2.2.1 bt568.2.2.2.1 bt568.2.2.2.2.1 bt568.2.2.2.2.2).bind fun bt576 => ((tenementref08_Bytes.f k bt576.1 bt576.2.1 bt576.2.2.1 bt576.2.2.2.1 bt576.2.2.2.2.1 bt576.2.2.2.2.2).bind fun bt584 => (if (Int.tmod a2 4) = 1 then (tenementlaw08_ItemReads.j0 k a1 a3 a4 t567 bt584.1 (Int.tmod a2 4) ((Int.tmod a2 4) == 1)) else (tenementlaw08_ItemReads.j0 k a1 a3 a4 t567 bt584.1 (Int.tmod a2 4) ((Int.tmod a2 4) == 2)))))) else (none))) = some r := h
 clear h
 replace H := Option.bind_eq_some_iff.mp H
 obtain ⟨t567, A60, H⟩ := H
 replace H : (if t567 = true then ((tenementlaw08_Deal_deal.f k a0_0 a0_1 a0_2 a0_3 a0_4 a0_5 l0_6 true).bind fun bt568 => ((tenementlaw08_refTxn.f k bt568.1 bt568.2.1 bt568.2.2.1 bt568.2.2.2.1 bt568.2.2.2.2.1 bt568.2.2.2.2.2).bind fun bt576 => ((tenementref08_Bytes.f k bt576.1 bt576.2.1 bt576.2.2.1 bt576.2.2.2.1 bt576.2.2.2.2.1 bt576.2.2.2.2.2).bind fun bt584 => (if (Int.tmod a2 4) = 1 then (tenementlaw08_ItemReads.j0 k a1 a3 a4 t567 bt584.1 (Int.tmod a2 4) ((Int.tmod a2 4) == 1)) else (tenementlaw08_ItemReads.j0 k a1 a3 a4 t567 bt584.1 (Int.tmod a2 4) ((Int.tmod a2 4) == 2)))))) else (none)) = some r := H
 have A6 := Aside0.mk A60
 clear A60
 by_cases c7 : t567 = true
 rotate_left
 ·replace c7 := Bool.eq_false_iff.mpr c7
  subst c7
  have H1 : (none) = some r := by rw [if_neg (show ¬ (false = true) by decide)] at H; exact H
  clear H
  have H := H1
  clear H1
  exact absurd H (by simp)
 subst c7
 have H1 : ((tenementlaw08_Deal_deal.f k a0_0 a0_1 a0_2 a0_3 a0_4 a0_5 l0_6 true).bind fun bt568 => ((tenementlaw08_refTxn.f k bt568.1 bt568.2.1 bt568.2.2.1 bt568.2.2.2.1 bt568.2.2.2.2.1 bt568.2.2.2.2.2).bind fun bt576 => ((tenementref08_Bytes.f k bt576.1 bt576.2.1 bt576.2.2.1 bt576.2.2.2.1 bt576.2.2.2.2.1 bt576.2.2.2.2.2).bind fun bt584 => (if (Int.tmod a2 4) = 1 then (tenementlaw08_ItemReads.j0 k a1 a3 a4 true bt584.1 (Int.tmod a2 4) ((Int.tmod a2 4) == 1)) else (tenementlaw08_ItemReads.j0 k a1 a3 a4 true bt584.1 (Int.tmod a2 4) ((Int.tmod a2 4) == 2)))))) = some r := by rw [if_pos rfl] at H; exact H
 clear H
 have H := H1
 clear H1
 replace H := Option.bind_eq_some_iff.mp H
 obtain ⟨⟨t568, t569, t570, t571, t572, t573⟩, A80, H⟩ := H
 replace H : ((tenementlaw08_refTxn.f k t568 t569 t570 t571 t572 t573).bind fun bt576 => ((tenementref08_Bytes.f k bt576.1 bt576.2.1 bt576.2.2.1 bt576.2.2.2.1 bt576.2.2.2.2.1 bt576.2.2.2.2.2).bind fun bt584 => (if (Int.tmod a2 4) = 1 then (tenementlaw08_ItemReads.j0 k a1 a3 a4 true bt584.1 (Int.tmod a2 4) ((Int.tmod a2 4) == 1)) else (tenementlaw08_ItemReads.j0 k a1 a3 a4 true bt584.1 (Int.tmod a2 4) ((Int.tmod a2 4) == 2))))) = some r := H
 have A8 := Aside0.mk A80
 clear A80
 replace H := Option.bind_eq_some_iff.mp H
 obtain ⟨⟨t576, t577, t578, t579, t580, t581⟩, A90, H⟩ := H
 replace H : ((tenementref08_Bytes.f k t576 t577 t578 t579 t580 t581).bind fun bt584 => (if (Int.tmod a2 4) = 1 then (tenementlaw08_ItemReads.j0 k a1 a3 a4 true bt584.1 (Int.tmod a2 4) ((Int.tmod a2 4) == 1)) else (tenementlaw08_ItemReads.j0 k a1 a3 a4 true bt584.1 (Int.tmod a2 4) ((Int.tmod a2 4) == 2)))) = some r := H
 have A9 := Aside0.mk A90
 clear A90
 replace H := Option.bind_eq_some_iff.mp H
 obtain ⟨⟨t584, t585⟩, A100, H⟩ := H
 replace H : (if (Int.tmod a2 4) = 1 then (tenementlaw08_ItemReads.j0 k a1 a3 a4 true t584 (Int.tmod a2 4) ((Int.tmod a2 4) == 1)) else (tenementlaw08_ItemReads.j0 k a1 a3 a4 true t584 (Int.tmod a2 4) ((Int.tmod a2 4) == 2))) = some r := H
 have A10 := Aside0.mk A100
 clear A100
 have HC11 := Aside0.mk H
 clear H
 go_enter Try.func5, Try.ntmps5
 go_upto_block 0 with (first | ((with_reducible refine gate_dst (N := 5) rfl ?_); refine Ka_ 5 #[.int .u64 a0_0, .int .u64 a0_1, .int .u64 a0_2, .int .u64 a0_3, .int .i64 a0_4, .bool a0_5, .slice A0_6 l0_6.length c0_6, .bool a0_7] 35 ?_; intro gb566 hg w12 hbox hb; have BK566 := Aside0.mk (hbox); have GW566 := Kw_ HB hg; have GE566 := GW566; replace HB := Ks_ HB hb; clear hb hbox hg) | ((with_reducible refine gate_callee (f := 11) rfl ?_); refine Kg_ (some 18) rfl rfl Try.func11 (by kernel_rfl) rfl #[] rfl ?_; (with_reducible refine (tenementlaw08_examples.calls k  true _ A6.out).mono ?_); rintro e w13 ⟨rfl, hb⟩; refine ⟨_, rfl, ?_⟩; replace BK566 := Kb_ BK566 hb; replace HB := Ks_ HB hb; (try clear hb); (try clear hb2); (try clear hk); (try clear hi); obtain ⟨hcz14_0, hcz14_1, hcz14_2, hcz14_3, hcz14_4, hcz14_5, hcz14_6, hcz14_7, hfz14_0, hfz14_1, hfz14_2, hfz14_3, hfz14_4, hfz14_5, hfz14_6, hfz14_7⟩ := Ke8_ BK566.out) | ((with_reducible refine gate_callee (f := 14) rfl ?_); refine Kg_ (some 24) rfl rfl Try.func14 (by kernel_rfl) rfl #[.agg #[.int .u64 a0_0, .int .u64 a0_1, .int .u64 a0_2, .int .u64 a0_3, .int .i64 a0_4, .bool a0_5, .slice A0_6 l0_6.length c0_6, .bool true]] rfl ?_; (with_reducible refine (tenementlaw08_Deal_deal.calls k a0_0 a0_1 a0_2 a0_3 a0_4 a0_5 _ _ l0_6 true t568 t569 t570 t571 t572 t573 _ ?side1 ?side2 A8.out).mono ?_); (case side1 => exact Kd.C_below HR0_6.out (Kz_ HB GE566)); (case side2 => exact HC0_6.out); rintro e w15 ⟨v574, rfl, ho0, hb⟩; refine ⟨_, rfl, ?_⟩; have HO575 := Aside0.mk (Kd.R_lower ho0 (below_size (Kz_ HB GE566))); replace BK566 := Aside0.mk (blk_below (g := gb566) (o := .cells #[.int .u64 a0_0, .int .u64 a0_1, .int .u64 a0_2, .int .u64 a0_3, .int .i64 a0_4, .bool a0_5, .slice A0_6 l0_6.length c0_6, .bool true] 35 (0, 0)) (by refine Kv_ ?_; refine blk_put (cs := #[.int .u64 a0_0, .int .u64 a0_1, .int .u64 a0_2, .int .u64 a0_3, .int .i64 a0_4, .bool a0_5, .slice A0_6 l0_6.length c0_6, .bool a0_7]) ?_ 7 _ rfl; exact Kq_ BK566) hb); replace HB := Kt_ HB GE566 hb; (try clear hb); (try clear hb2); (try clear hk); (try clear hi); (try clear ho0); obtain ⟨Ao16, co16, eo16⟩ := Kd.R_slice HO575.out; subst eo16) | ((with_reducible refine gate_callee (f := 17) rfl ?_); refine Kg_ (some 25) rfl rfl Try.func17 (by kernel_rfl) rfl #[.agg #[.int .u64 t568, .int .u64 t569, .int .u64 t570, .int .u64 t571, .int .i64 t572, .slice Ao16 t573.length co16]] rfl ?_; (with_reducible refine (tenementlaw08_refTxn.calls k t568 t569 t570 t571 t572 _ _ t573 t576 t577 t578 t579 t580 t581 _ ?side1 ?side2 A9.out).mono ?_); (case side1 => repeat (first | exact (Kd.R_reads' HO575.out).2.2 | (with_reducible refine Kd.C_alloc ?_ _) | (with_reducible refine Kd.C_drewN ?_ _) | (with_reducible refine Kd.C_drew ?_))); (case side2 => exact (Kd.R_reads' HO575.out).2.1); rintro e w17 ⟨v582, rfl, ho0, hb⟩; refine ⟨_, rfl, ?_⟩; have HO583 := Aside0.mk (Kd.R_lower ho0 (below_size (Kz_ HB GE566))); replace HO575 := Aside0.mk (Kd.R_below (Ku_ HO575) hb); replace BK566 := Kb_ BK566 hb; replace HB := Ks_ HB hb; (try clear hb); (try clear hb2); (try clear hk); (try clear hi); (try clear ho0); obtain ⟨Ao18, co18, eo18⟩ := Kd.R_slice HO583.out; subst eo18) | ((with_reducible refine gate_callee (f := 16) rfl ?_); refine Kg_ (some 26) rfl rfl Try.func16 (by kernel_rfl) rfl #[.agg #[.int .u64 t576, .int .u64 t577, .int .u64 t578, .int .u64 t579, .int .i64 t580, .slice Ao18 t581.length co18]] rfl ?_; (with_reducible refine (tenementref08_Bytes.calls k t576 t577 t578 t579 t580 _ _ t581 t584 t585 _ ?side1 ?side2 A10.out).mono ?_); (case side1 => repeat (first | exact (Kd.R_reads' HO583.out).2.2 | (with_reducible refine Kd.C_alloc ?_ _) | (with_reducible refine Kd.C_drewN ?_ _) | (with_reducible refine Kd.C_drew ?_))); (case side2 => exact (Kd.R_reads' HO583.out).2.1); rintro e w19 ⟨rfl, hb⟩; refine ⟨_, rfl, ?_⟩; replace HO575 := Aside0.mk (Kd.R_below (Ku_ HO575) hb); replace HO583 := Aside0.mk (Kd.R_below (Ku_ HO583) hb); replace BK566 := Kb_ BK566 hb; replace HB := Ks_ HB hb; (try clear hb); (try clear hb2); (try clear hk); (try clear hi)))
 (try simp only [Act.put, List.setIfInBounds_toArray, List.set_cons_zero, List.set_cons_succ])
 go_cut [1] (fun v1 wc => ∃ (kq : Nat) (x1_10 : ByteArray), v1 = .string x1_10 ∧ Aside0 (tenementlaw08_ItemReads.j1 kq x1_10 true = some r) ∧ Aside0 (kq ≤ k) ∧ Aside0 (wc.heap[gb566]? = some (.cells #[.int .u64 a0_0, .int .u64 a0_1, .int .u64 a0_2, .int .u64 a0_3, .int .i64 a0_4, .bool a0_5, (.slice A0_6 l0_6.length c0_6), .bool true] 35 (0, 0))) ∧ Aside0 (Below w.heap.size w wc))
 case first =>
  have H := HC11.out
  clear HC11
  have HC20 := Aside0.mk H
  clear H
  go_upto_if 31 with (fail)
  go_cut [31] (fun v31 wc => ∃ (kq : Nat) (x31_19 : Bool), v31 = .bool x31_19 ∧ Aside0 (tenementlaw08_ItemReads.j0 kq a1 a3 a4 true t584 (Int.tmod a2 4) x31_19 = some r) ∧ Aside0 (kq ≤ k) ∧ Aside0 (wc.heap[gb566]? = some (.cells #[.int .u64 a0_0, .int .u64 a0_1, .int .u64 a0_2, .int .u64 a0_3, .int .i64 a0_4, .bool a0_5, (.slice A0_6 l0_6.length c0_6), .bool true] 35 (0, 0))) ∧ Aside0 (Below w.heap.size w wc))
  case first =>
   have H := HC20.out
   clear HC20
   by_cases c21 : (Int.tmod a2 4) = 1
   rotate_left
   ·rw [if_neg c21] at H
    have c21b0 : ((Int.tmod a2 4) == 1) = false := beq_eq_false_iff_ne.mpr c21
    have c21b1 : ((Int.tmod a2 4) != 1) = true := bne_iff_ne.mpr c21
    (first | rw [c21b0] | (simp only [i64_w, i32_w]; rw [c21b0]) | skip)
    have H' := Aside0.mk H
    clear H
    go_wp2
    go_meet
    case rel => exact ⟨_, (((Int.tmod a2 4) == 2)), (by first | rfl | (simp; done) | (simp [*]; done)), H', ⟨by first | omega | exact Nat.le_refl _⟩, ⟨by exact Kq_ BK566⟩, ⟨Kz_ HB GE566⟩⟩
   rw [if_pos c21] at H
   have c21b0 : ((Int.tmod a2 4) == 1) = true := beq_iff_eq.mpr c21
   have c21b1 : ((Int.tmod a2 4) != 1) = false := bne_eq_false_iff_eq.mpr c21
   clear c21
   (first | rw [c21b0] | (simp only [i64_w, i32_w]; rw [c21b0]) | skip)
   have H' := Aside0.mk H
   clear H
   go_wp2
   go_meet
   case rel => exact ⟨_, (((Int.tmod a2 4) == 1)), (by first | rfl | (simp; done) | (simp [*]; done)), H', ⟨by first | omega | exact Nat.le_refl _⟩, ⟨by exact Kq_ BK566⟩, ⟨Kz_ HB GE566⟩⟩
  case rest =>
   clear HC20
   try clear c1
   try clear c2
   try clear p2
   try clear c5
   try clear c7
   try clear c11
   try clear c14
   try clear c16
   try clear c17
   try clear c21
   try clear c21b0
   try clear c21b1
   try clear hcz14_0
   try clear hcz14_1
   try clear hcz14_2
   try clear hcz14_3
   try clear hcz14_4
   try clear hcz14_5
   try clear hcz14_6
   try clear hcz14_7
   try clear hfz14_0
   try clear hfz14_1
   try clear hfz14_2
   try clear hfz14_3
   try clear hfz14_4
   try clear hfz14_5
   try clear hfz14_6
   try clear hfz14_7
   obtain ⟨kq, x31_19, rfl, HA, HJ19, BK566, HB⟩ := hcut
   cases kq with
   | zero => exact absurd HA.out (by simp [tenementlaw08_ItemReads.j0])
   | succ kj19 =>
    have H := HA.out
    clear HA
    simp only [tenementlaw08_ItemReads.j0] at H
    by_cases c22 : x31_19 = true
    ·subst c22
     have H1 : ((tenementlaw08_bend.f t584 a3 a4).bind fun t586 => (tenementlaw08_ItemReads.j1 kj19 t586 true)) = some r := by rw [if_pos rfl] at H; exact H
     clear H
     have H := H1
     clear H1
     replace H := Option.bind_eq_some_iff.mp H
     obtain ⟨t586, A230, H⟩ := H
     replace H : (tenementlaw08_ItemReads.j1 kj19 t586 true) = some r := H
     have A23 := Aside0.mk A230
     clear A230
     have H' := Aside0.mk H
     clear H
     go_wp2_with (first | ((with_reducible refine gate_callee (f := 30) rfl ?_); refine Kg_ (some 37) rfl rfl Try.func30 (by kernel_rfl) rfl #[.string t584, .int .i64 a3, .int .u8 a4] rfl ?_; (with_reducible refine (tenementlaw08_bend.calls t584 a3 a4 t586 _ A23.out).mono ?_); rintro e w24 ⟨rfl, hb⟩; refine ⟨_, rfl, ?_⟩; replace BK566 := Kb_ BK566 hb; replace HB := Ks_ HB hb; (try clear hb); (try clear hb2); (try clear hk); (try clear hi)))
     go_meet
     case rel => exact ⟨_, (t586), (by first | rfl | (simp; done) | (simp [*]; done)), H', ⟨by have := HJ19.out; first | omega | exact Nat.le_refl _⟩, ⟨by exact Kq_ BK566⟩, ⟨Kz_ HB GE566⟩⟩
    replace c22 := Bool.eq_false_iff.mpr c22
    subst c22
    have H1 : (if (Int.tmod a2 4) = 3 then (if t584.size + a1.size ≤ 9223372036854775807 then (tenementlaw08_ItemReads.j1 kj19 (t584 ++ a1) true) else (none)) else (tenementlaw08_ItemReads.j1 kj19 a1 true)) = some r := by rw [if_neg (show ¬ (false = true) by decide)] at H; exact H
    clear H
    have H := H1
    clear H1
    by_cases c25 : (Int.tmod a2 4) = 3
    rotate_left
    ·rw [if_neg c25] at H
     have c25b0 : ((Int.tmod a2 4) == 3) = false := beq_eq_false_iff_ne.mpr c25
     have c25b1 : ((Int.tmod a2 4) != 3) = true := bne_iff_ne.mpr c25
     have H' := Aside0.mk H
     clear H
     go_wp2
     go_meet
     case rel => exact ⟨_, (a1), (by first | rfl | (simp; done) | (simp [*]; done)), H', ⟨by have := HJ19.out; first | omega | exact Nat.le_refl _⟩, ⟨by exact Kq_ BK566⟩, ⟨Kz_ HB GE566⟩⟩
    rw [if_pos c25] at H
    have c25b0 : ((Int.tmod a2 4) == 3) = true := beq_iff_eq.mpr c25
    have c25b1 : ((Int.tmod a2 4) != 3) = false := bne_eq_false_iff_eq.mpr c25
    clear c25
    by_cases c26 : t584.size + a1.size ≤ 9223372036854775807
    rotate_left
    ·rw [if_neg c26] at H
     exact absurd H (by simp)
    rw [if_pos c26] at H
    have c26b0 := eq_true c26
    have c26b1 : decide (t584.size + a1.size ≤ 9223372036854775807) = true := decide_eq_true c26
    try have c26b2 : (9223372036854775807 < t584.size + a1.size) = False := eq_false (Nat.not_lt.2 c26)
    have H' := Aside0.mk H
    clear H
    go_wp2
    go_meet
    case rel => exact ⟨_, (t584 ++ a1), (by first | rfl | (simp; done) | (simp [*]; done)), H', ⟨by have := HJ19.out; first | omega | exact Nat.le_refl _⟩, ⟨by exact Kq_ BK566⟩, ⟨Kz_ HB GE566⟩⟩
 case rest =>
  clear HC11
  try clear c1
  try clear c2
  try clear p2
  try clear c3
  try clear c5
  try clear c7
  try clear c11
  try clear c14
  try clear c16
  try clear c17
  try clear c21
  try clear c21b0
  try clear c21b1
  try clear c22
  try clear c25
  try clear c25b0
  try clear c25b1
  try clear c26
  try clear c26b0
  try clear c26b1
  try clear c26b2
  try clear hcz14_0
  try clear hcz14_1
  try clear hcz14_2
  try clear hcz14_3
  try clear hcz14_4
  try clear hcz14_5
  try clear hcz14_6
  try clear hcz14_7
  try clear hfz14_0
  try clear hfz14_1
  try clear hfz14_2
  try clear hfz14_3
  try clear hfz14_4
  try clear hfz14_5
  try clear hfz14_6
  try clear hfz14_7
  try clear p2
  obtain ⟨kq, x1_10, rfl, HA, HJ10, BK566, HB⟩ := hcut
  cases kq with
  | zero => exact absurd HA.out (by simp [tenementlaw08_ItemReads.j1])
  | succ kj10 =>
   have H := HA.out
   clear HA
   simp only [tenementlaw08_ItemReads.j1] at H
   replace H := Option.bind_eq_some_iff.mp H
   obtain ⟨⟨t587, t588, t589, t590, t591, t592, t595⟩, A270, H⟩ := H
   replace H : ((tenementref08_Read.f kj10 x1_10).bind fun bt597 => (if true = true then ((tenementlaw08_refTxn.f kj10 t587 t588 t589 t590 t591 t592).bind fun bt607 => ((tenementref08_Same.f kj10 bt607.1 bt607.2.1 bt607.2.2.1 bt607.2.2.2.1 bt607.2.2.2.2.1 bt607.2.2.2.2.2 bt597.1 bt597.2.1 bt597.2.2.1 bt597.2.2.2.1 bt597.2.2.2.2.1 bt597.2.2.2.2.2.1).bind fun t615 => (if t615 = true then (if t595 = bt597.2.2.2.2.2.2 then (some true) else (none)) else (none)))) else (none))) = some r := H
   have A27 := Aside0.mk A270
   clear A270
   replace H := Option.bind_eq_some_iff.mp H
   obtain ⟨⟨t597, t598, t599, t600, t601, t602, t605⟩, A280, H⟩ := H
   replace H : (if true = true then ((tenementlaw08_refTxn.f kj10 t587 t588 t589 t590 t591 t592).bind fun bt607 => ((tenementref08_Same.f kj10 bt607.1 bt607.2.1 bt607.2.2.1 bt607.2.2.2.1 bt607.2.2.2.2.1 bt607.2.2.2.2.2 t597 t598 t599 t600 t601 t602).bind fun t615 => (if t615 = true then (if t595 = t605 then (some true) else (none)) else (none)))) else (none)) = some r := H
   have A28 := Aside0.mk A280
   clear A280
   replace H : ((tenementlaw08_refTxn.f kj10 t587 t588 t589 t590 t591 t592).bind fun bt607 => ((tenementref08_Same.f kj10 bt607.1 bt607.2.1 bt607.2.2.1 bt607.2.2.2.1 bt607.2.2.2.2.1 bt607.2.2.2.2.2 t597 t598 t599 t600 t601 t602).bind fun t615 => (if t615 = true then (if t595 = t605 then (some true) else (none)) else (none)))) = some r := by first | (rw [if_pos rfl] at H; exact H) | (rw [if_pos trivial] at H; exact H)
   replace H := Option.bind_eq_some_iff.mp H
   obtain ⟨⟨t607, t608, t609, t610, t611, t612⟩, A290, H⟩ := H
   replace H : ((tenementref08_Same.f kj10 t607 t608 t609 t610 t611 t612 t597 t598 t599 t600 t601 t602).bind fun t615 => (if t615 = true then (if t595 = t605 then (some true) else (none)) else (none))) = some r := H
   have A29 := Aside0.mk A290
   clear A290
   replace H := Option.bind_eq_some_iff.mp H
   obtain ⟨t615, A300, H⟩ := H
   replace H : (if t615 = true then (if t595 = t605 then (some true) else (none)) else (none)) = some r := H
   have A30 := Aside0.mk A300
   clear A300
   by_cases c31 : t615 = true
   rotate_left
   ·replace c31 := Bool.eq_false_iff.mpr c31
    subst c31
    have H1 : (none) = some r := by rw [if_neg (show ¬ (false = true) by decide)] at H; exact H
    clear H
    have H := H1
    clear H1
    exact absurd H (by simp)
   subst c31
   have H1 : (if t595 = t605 then (some true) else (none)) = some r := by rw [if_pos rfl] at H; exact H
   clear H
   have H := H1
   clear H1
   by_cases c32 : t595 = t605
   rotate_left
   ·rw [if_neg c32] at H
    exact absurd H (by simp)
   subst c32
   have H1 : (some true) = some r := by rw [if_pos rfl] at H; exact H
   clear H
   have H := H1
   clear H1
   obtain rfl := Option.some.inj H
   try go_wp2_with (first | ((with_reducible refine gate_callee (f := 31) rfl ?_); refine Kg_ (some 45) rfl rfl Try.func31 (by kernel_rfl) rfl #[.string x1_10] rfl ?_; (with_reducible refine (item_Read.calls kj10 x1_10 t587 t588 t589 t590 t591 t592 t595 _ A27.out).mono ?_); rintro e w33 ⟨v593, rfl, ho0, hb⟩; refine ⟨_, rfl, ?_⟩; have HO594 := Aside0.mk (Kd.R_lower ho0 (below_size (Kz_ HB GE566))); replace BK566 := Kb_ BK566 hb; replace HB := Ks_ HB hb; (try clear hb); (try clear hb2); (try clear hk); (try clear hi); (try clear ho0)) | ((with_reducible refine gate_dst (N := 14) rfl ?_); refine Ka_ 14 #[.int .u64 0, .int .u64 0, .int .u64 0, .int .u64 0, .int .i64 0, .slice none 0 0] 43 ?_; intro gb596 hg w34 hbox hb; have BK596 := Aside0.mk (hbox); have GW596 := Kw_ HB hg; have GE596 := GW596; have NB566_596 := Kl_ BK566 hg; have NB596_566 := Kr_ BK566 hg; replace HO594 := Aside0.mk (Kd.R_below (Ku_ HO594) hb); replace BK566 := Kb_ BK566 hb; replace HB := Ks_ HB hb; clear hb hbox hg; have hnb35 := NB596_566.out; have hnc35 := NB566_596.out; obtain ⟨hcz36_0, hcz36_1, hcz36_2, hcz36_3, hcz36_4, hcz36_5, hfz36_0, hfz36_1, hfz36_2, hfz36_3, hfz36_4, hfz36_5⟩ := Ke6_ BK596.out; obtain ⟨Ao37, co37, eo37⟩ := Kd.R_slice HO594.out; subst eo37) | ((with_reducible refine gate_callee (f := 32) rfl ?_); refine Kg_ (some 50) rfl rfl Try.func32 (by kernel_rfl) rfl #[.string x1_10] rfl ?_; (with_reducible refine (tenementref08_Read.calls kj10 x1_10 t597 t598 t599 t600 t601 t602 t595 _ A28.out).mono ?_); rintro e w38 ⟨v603, rfl, ho0, hb⟩; refine ⟨_, rfl, ?_⟩; have HO604 := Aside0.mk (Kd.R_lower ho0 (below_size (K2a_ HB GE566 GE596))); replace HO594 := Aside0.mk (Kd.R_below (by (with_reducible repeat (first | apply Kd.R_alloc | apply Kd.R_drewN | apply Kd.R_drew)); exact (Kd.R_mono (Kd.R_far (p := ⟨gb596, 5, none⟩) (Kd.R_far (p := ⟨gb596, 4, none⟩) (Kd.R_far (p := ⟨gb596, 3, none⟩) (Kd.R_far (p := ⟨gb596, 2, none⟩) (Kd.R_far (p := ⟨gb596, 1, none⟩) (Kd.R_far (p := ⟨gb596, 0, none⟩) (Kd.R_types HO594.out BK596.out (by decide)) (fun _ hk => hk.2) (.int .u64 t587)) (fun _ hk => hk.2) (.int .u64 t588)) (fun _ hk => hk.2) (.int .u64 t589)) (fun _ hk => hk.2) (.int .u64 t590)) (fun _ hk => hk.2) (.int .i64 t591)) (fun _ hk => hk.2) (.slice Ao37 t592.length co37)) (fun _ h_ => h_.1))) hb); replace BK566 := Kf_ BK566 NB566_596 hb; replace BK596 := Aside0.mk (blk_below (g := gb596) (o := .cells #[.int .u64 t587, .int .u64 t588, .int .u64 t589, .int .u64 t590, .int .i64 t591, .slice Ao37 t592.length co37] 43 (0, 0)) (by refine Kv_ ?_; refine blk_put (cs := #[.int .u64 t587, .int .u64 t588, .int .u64 t589, .int .u64 t590, .int .i64 t591, .slice none 0 0]) ?_ 5 _ rfl; refine Kv_ ?_; refine blk_put (cs := #[.int .u64 t587, .int .u64 t588, .int .u64 t589, .int .u64 t590, .int .i64 0, .slice none 0 0]) ?_ 4 _ rfl; refine Kv_ ?_; refine blk_put (cs := #[.int .u64 t587, .int .u64 t588, .int .u64 t589, .int .u64 0, .int .i64 0, .slice none 0 0]) ?_ 3 _ rfl; refine Kv_ ?_; refine blk_put (cs := #[.int .u64 t587, .int .u64 t588, .int .u64 0, .int .u64 0, .int .i64 0, .slice none 0 0]) ?_ 2 _ rfl; refine Kv_ ?_; refine blk_put (cs := #[.int .u64 t587, .int .u64 0, .int .u64 0, .int .u64 0, .int .i64 0, .slice none 0 0]) ?_ 1 _ rfl; refine Kv_ ?_; refine blk_put (cs := #[.int .u64 0, .int .u64 0, .int .u64 0, .int .u64 0, .int .i64 0, .slice none 0 0]) ?_ 0 _ rfl; exact Kq_ BK596) hb); replace HB := Kt_ HB GE596 hb; (try clear hb); (try clear hb2); (try clear hk); (try clear hi); (try clear ho0)) | ((with_reducible refine gate_dst (N := 16) rfl ?_); refine Ka_ 16 #[.int .u64 0, .int .u64 0, .int .u64 0, .int .u64 0, .int .i64 0, .slice none 0 0] 52 ?_; intro gb606 hg w39 hbox hb; have BK606 := Aside0.mk (hbox); have GW606 := Kw_ HB hg; have GE606 := GW606; have NB566_606 := Kl_ BK566 hg; have NB606_566 := Kr_ BK566 hg; have NB596_606 := Kl_ BK596 hg; have NB606_596 := Kr_ BK596 hg; replace HO594 := Aside0.mk (Kd.R_below (Ku_ HO594) hb); replace HO604 := Aside0.mk (Kd.R_below (Ku_ HO604) hb); replace BK566 := Kb_ BK566 hb; replace BK596 := Kb_ BK596 hb; replace HB := Ks_ HB hb; clear hb hbox hg; have hnb40 := NB606_566.out; have hnc40 := NB566_606.out; have hnb41 := NB606_596.out; have hnc41 := NB596_606.out; obtain ⟨hcz42_0, hcz42_1, hcz42_2, hcz42_3, hcz42_4, hcz42_5, hfz42_0, hfz42_1, hfz42_2, hfz42_3, hfz42_4, hfz42_5⟩ := Ke6_ BK606.out; obtain ⟨Ao43, co43, eo43⟩ := Kd.R_slice HO604.out; subst eo43))
   have n0_ : Aside0 (Kd.R k23 23 ((((((w39.setCell ⟨gb606, 0, none⟩ (.int .u64 t597)).setCell ⟨gb606, 1, none⟩ (.int .u64 t598)).setCell ⟨gb606, 2, none⟩ (.int .u64 t599)).setCell ⟨gb606, 3, none⟩ (.int .u64 t600)).setCell ⟨gb606, 4, none⟩ (.int .i64 t601)).setCell ⟨gb606, 5, none⟩ (.slice Ao43 t602.length co43)) w.heap.size (fun _ => True) (.slice Ao37 t592.length co37) t592) := ⟨by (with_reducible repeat (first | apply Kd.R_alloc | apply Kd.R_drewN | apply Kd.R_drew)); exact Kd.R_mono (Kd.R_far (p := ⟨gb606, 5, none⟩) (Kd.R_far (p := ⟨gb606, 4, none⟩) (Kd.R_far (p := ⟨gb606, 3, none⟩) (Kd.R_far (p := ⟨gb606, 2, none⟩) (Kd.R_far (p := ⟨gb606, 1, none⟩) (Kd.R_far (p := ⟨gb606, 0, none⟩) (Kd.R_types HO594.out BK606.out (by decide)) (fun _ hk => hk.2) (.int .u64 t597)) (fun _ hk => hk.2) (.int .u64 t598)) (fun _ hk => hk.2) (.int .u64 t599)) (fun _ hk => hk.2) (.int .u64 t600)) (fun _ hk => hk.2) (.int .i64 t601)) (fun _ hk => hk.2) (.slice Ao43 t602.length co43)) (fun _ hk => trivial)⟩
   have n1_ : Aside0 (Kd.R k38 38 ((((((w39.setCell ⟨gb606, 0, none⟩ (.int .u64 t597)).setCell ⟨gb606, 1, none⟩ (.int .u64 t598)).setCell ⟨gb606, 2, none⟩ (.int .u64 t599)).setCell ⟨gb606, 3, none⟩ (.int .u64 t600)).setCell ⟨gb606, 4, none⟩ (.int .i64 t601)).setCell ⟨gb606, 5, none⟩ (.slice Ao43 t602.length co43)) w.heap.size (fun _ => True) (.slice Ao43 t602.length co43) t602) := ⟨by (with_reducible repeat (first | apply Kd.R_alloc | apply Kd.R_drewN | apply Kd.R_drew)); exact Kd.R_mono (Kd.R_far (p := ⟨gb606, 5, none⟩) (Kd.R_far (p := ⟨gb606, 4, none⟩) (Kd.R_far (p := ⟨gb606, 3, none⟩) (Kd.R_far (p := ⟨gb606, 2, none⟩) (Kd.R_far (p := ⟨gb606, 1, none⟩) (Kd.R_far (p := ⟨gb606, 0, none⟩) (Kd.R_types HO604.out BK606.out (by decide)) (fun _ hk => hk.2) (.int .u64 t597)) (fun _ hk => hk.2) (.int .u64 t598)) (fun _ hk => hk.2) (.int .u64 t599)) (fun _ hk => hk.2) (.int .u64 t600)) (fun _ hk => hk.2) (.int .i64 t601)) (fun _ hk => hk.2) (.slice Ao43 t602.length co43)) (fun _ hk => trivial)⟩
   have n2_ : Aside0 (((((((w39.setCell ⟨gb606, 0, none⟩ (.int .u64 t597)).setCell ⟨gb606, 1, none⟩ (.int .u64 t598)).setCell ⟨gb606, 2, none⟩ (.int .u64 t599)).setCell ⟨gb606, 3, none⟩ (.int .u64 t600)).setCell ⟨gb606, 4, none⟩ (.int .i64 t601)).setCell ⟨gb606, 5, none⟩ (.slice Ao43 t602.length co43)).heap[gb566]? = some (.cells #[.int .u64 a0_0, .int .u64 a0_1, .int .u64 a0_2, .int .u64 a0_3, .int .i64 a0_4, .bool a0_5, .slice A0_6 l0_6.length c0_6, .bool true] 35 (0, 0))) := ⟨by exact K1b_ BK566 NB566_606⟩
   have n3_ : Aside0 (((((((w39.setCell ⟨gb606, 0, none⟩ (.int .u64 t597)).setCell ⟨gb606, 1, none⟩ (.int .u64 t598)).setCell ⟨gb606, 2, none⟩ (.int .u64 t599)).setCell ⟨gb606, 3, none⟩ (.int .u64 t600)).setCell ⟨gb606, 4, none⟩ (.int .i64 t601)).setCell ⟨gb606, 5, none⟩ (.slice Ao43 t602.length co43)).heap[gb596]? = some (.cells #[.int .u64 t587, .int .u64 t588, .int .u64 t589, .int .u64 t590, .int .i64 t591, .slice Ao37 t592.length co37] 43 (0, 0))) := ⟨by exact K1b_ BK596 NB596_606⟩
   have n4_ : Aside0 (((((((w39.setCell ⟨gb606, 0, none⟩ (.int .u64 t597)).setCell ⟨gb606, 1, none⟩ (.int .u64 t598)).setCell ⟨gb606, 2, none⟩ (.int .u64 t599)).setCell ⟨gb606, 3, none⟩ (.int .u64 t600)).setCell ⟨gb606, 4, none⟩ (.int .i64 t601)).setCell ⟨gb606, 5, none⟩ (.slice Ao43 t602.length co43)).heap[gb606]? = some (.cells #[.int .u64 t597, .int .u64 t598, .int .u64 t599, .int .u64 t600, .int .i64 t601, .slice Ao43 t602.length co43] 52 (0, 0))) := ⟨by refine Kv_ ?_; refine blk_put (cs := #[.int .u64 t597, .int .u64 t598, .int .u64 t599, .int .u64 t600, .int .i64 t601, .slice none 0 0]) ?_ 5 _ rfl; refine Kv_ ?_; refine blk_put (cs := #[.int .u64 t597, .int .u64 t598, .int .u64 t599, .int .u64 t600, .int .i64 0, .slice none 0 0]) ?_ 4 _ rfl; refine Kv_ ?_; refine blk_put (cs := #[.int .u64 t597, .int .u64 t598, .int .u64 t599, .int .u64 0, .int .i64 0, .slice none 0 0]) ?_ 3 _ rfl; refine Kv_ ?_; refine blk_put (cs := #[.int .u64 t597, .int .u64 t598, .int .u64 0, .int .u64 0, .int .i64 0, .slice none 0 0]) ?_ 2 _ rfl; refine Kv_ ?_; refine blk_put (cs := #[.int .u64 t597, .int .u64 0, .int .u64 0, .int .u64 0, .int .i64 0, .slice none 0 0]) ?_ 1 _ rfl; refine Kv_ ?_; refine blk_put (cs := #[.int .u64 0, .int .u64 0, .int .u64 0, .int .u64 0, .int .i64 0, .slice none 0 0]) ?_ 0 _ rfl; exact Kq_ BK606⟩
   have n5_ : Aside0 (Below w.heap.size w ((((((w39.setCell ⟨gb606, 0, none⟩ (.int .u64 t597)).setCell ⟨gb606, 1, none⟩ (.int .u64 t598)).setCell ⟨gb606, 2, none⟩ (.int .u64 t599)).setCell ⟨gb606, 3, none⟩ (.int .u64 t600)).setCell ⟨gb606, 4, none⟩ (.int .i64 t601)).setCell ⟨gb606, 5, none⟩ (.slice Ao43 t602.length co43))) := ⟨K3a_ HB GE566 GE596 GE606⟩
   (try clear HO594)
   (try clear HO604)
   (try clear BK566)
   (try clear BK596)
   (try clear BK606)
   (try clear HB)
   generalize ((((((w39.setCell ⟨gb606, 0, none⟩ (.int .u64 t597)).setCell ⟨gb606, 1, none⟩ (.int .u64 t598)).setCell ⟨gb606, 2, none⟩ (.int .u64 t599)).setCell ⟨gb606, 3, none⟩ (.int .u64 t600)).setCell ⟨gb606, 4, none⟩ (.int .i64 t601)).setCell ⟨gb606, 5, none⟩ (.slice Ao43 t602.length co43)) = w44 at n0_ n1_ n2_ n3_ n4_ n5_ ⊢
   have HO594 := n0_
   have HO604 := n1_
   have BK566 := n2_
   have BK596 := n3_
   have BK606 := n4_
   have HB := n5_
   clear n0_ n1_ n2_ n3_ n4_ n5_
   replace HO594 := Aside0.mk (Kd.R_drew HO594.out)
   replace HO604 := Aside0.mk (Kd.R_drew HO604.out)
   replace BK566 := Kd_ BK566
   replace BK596 := Kd_ BK596
   replace BK606 := Kd_ BK606
   replace HB := Aside0.mk (below_drew1 HB.out)
   refine start_ (n := 13) (S := fun w' => w'.cell? ⟨gb596, 0, none⟩ = some (.int .u64 t587) ∧ w'.cell? ⟨gb596, 1, none⟩ = some (.int .u64 t588) ∧ w'.cell? ⟨gb596, 2, none⟩ = some (.int .u64 t589) ∧ w'.cell? ⟨gb596, 3, none⟩ = some (.int .u64 t590) ∧ w'.cell? ⟨gb596, 4, none⟩ = some (.int .i64 t591) ∧ w'.cell? ⟨gb596, 5, none⟩ = some (.slice Ao37 t592.length co37) ∧ w'.cell? ⟨gb606, 0, none⟩ = some (.int .u64 t597) ∧ w'.cell? ⟨gb606, 1, none⟩ = some (.int .u64 t598) ∧ w'.cell? ⟨gb606, 2, none⟩ = some (.int .u64 t599) ∧ w'.cell? ⟨gb606, 3, none⟩ = some (.int .u64 t600) ∧ w'.cell? ⟨gb606, 4, none⟩ = some (.int .i64 t601) ∧ w'.cell? ⟨gb606, 5, none⟩ = some (.slice Ao43 t602.length co43)) (ds := []) (mB_ 13 0) (by kernel_rfl) rfl rfl ⟨(blk_cell BK596.out 0).trans rfl, (blk_cell BK596.out 1).trans rfl, (blk_cell BK596.out 2).trans rfl, (blk_cell BK596.out 3).trans rfl, (blk_cell BK596.out 4).trans rfl, (blk_cell BK596.out 5).trans rfl, (blk_cell BK606.out 0).trans rfl, (blk_cell BK606.out 1).trans rfl, (blk_cell BK606.out 2).trans rfl, (blk_cell BK606.out 3).trans rfl, (blk_cell BK606.out 4).trans rfl, (blk_cell BK606.out 5).trans rfl⟩ (fun hHeld => ?_); refine with_tabW tenementlaw08_ItemReads.tab14 tenementlaw08_ItemReads.bits14 (fun HT_ HW_ => ?_)
   generalize w44.drew = w45 at HO594 HO604 BK566 BK596 BK606 HB hHeld ⊢
   refine Kp_ 0 53 (mB_ 13 1) (any_of HT_.out (by kernel_rfl)) ?_
   refine Kp_ 1 54 (mB_ 13 3) (any_of HT_.out (by kernel_rfl)) ?_
   refine Ko_ 2 55 (mB_ 13 7) (take_ofW HT_.out HW_.out (by kernel_rfl)) hHeld ?_
   refine Ko_ 4 57 (mB_ 13 23) (take_ofW HT_.out HW_.out (by kernel_rfl)) hHeld ?_
   refine one_ (i := 3) (N := some 56) (mB_ 13 31) rfl rfl (one_of HT_.out (by kernel_rfl)) (by decide) (fun K hK => ?_)
   refine goes_ Try.func17 (by kernel_rfl) rfl #[.agg #[.int .u64 t587, .int .u64 t588, .int .u64 t589, .int .u64 t590, .int .i64 t591, .slice Ao37 t592.length co37]] (by rfl) rfl rfl (by (try simp only [List.map_toArray, List.map_cons, List.map_nil]); first | done | rfl | (simp only [List.length_drop, List.length_take]; rfl)) ?_
   with_reducible refine (tenementlaw08_refTxn.calls kj10 t587 t588 t589 t590 t591 _ _ t592 t607 t608 t609 t610 t611 t612 _ ?side1 ?side2 A29.out).mono ?_
   (case side1 => repeat (first | exact (Kd.R_reads' HO594.out).2.2 | (with_reducible refine Kd.C_alloc ?_ _) | (with_reducible refine Kd.C_drewN ?_ _) | (with_reducible refine Kd.C_drew ?_)))
   (case side2 => exact (Kd.R_reads' HO594.out).2.1)
   rintro e w46 ⟨v613, rfl, ho0, hb⟩
   refine ⟨_, rfl, ?_⟩
   have HO614 := Aside0.mk (Kd.R_lower (Kd.R_new' ho0 (Kd.R_lt (Ku_ HO604))) (below_size (K3a_ HB GE566 GE596 GE606)))
   replace HO594 := Aside0.mk (Kd.R_below (Ku_ HO594) hb)
   replace HO604 := Aside0.mk (Kd.R_elder' (Ku_ HO604) (Kd.R_base ho0) hb)
   replace BK566 := Kb_ BK566 hb
   replace BK596 := Kb_ BK596 hb
   replace BK606 := Kb_ BK606 hb
   replace HB := Ks_ HB hb
   (try clear hb)
   (try clear hb2)
   (try clear hk)
   (try clear hi)
   (try clear ho0)
   obtain ⟨Ao47, co47, eo47⟩ := Kd.R_slice HO614.out
   (first | subst eo47 | (injection eo47 with f1_ f2_ f3_; have f4_ := f1_.symm; have f5_ := f3_.symm; clear f1_ f2_ f3_; subst f4_; subst f5_))
   refine hK.out _ _ ⟨(blk_cell BK596.out 0).trans rfl, (blk_cell BK596.out 1).trans rfl, (blk_cell BK596.out 2).trans rfl, (blk_cell BK596.out 3).trans rfl, (blk_cell BK596.out 4).trans rfl, (blk_cell BK596.out 5).trans rfl, (blk_cell BK606.out 0).trans rfl, (blk_cell BK606.out 1).trans rfl, (blk_cell BK606.out 2).trans rfl, (blk_cell BK606.out 3).trans rfl, (blk_cell BK606.out 4).trans rfl, (blk_cell BK606.out 5).trans rfl⟩ (fun hHeld => ?_)
   clear hK K
   refine Kn_ 56 ?_
   refine one_ (i := 5) (N := some 58) (mB_ 13 63) rfl rfl (one_of HT_.out (by kernel_rfl)) (by decide) (fun K hK => ?_)
   refine goes_ Try.func25 (by kernel_rfl) rfl #[.agg #[.int .u64 t607, .int .u64 t608, .int .u64 t609, .int .u64 t610, .int .i64 t611, .slice Ao47 t612.length co47], .agg #[.int .u64 t597, .int .u64 t598, .int .u64 t599, .int .u64 t600, .int .i64 t601, .slice Ao43 t602.length co43]] (by rfl) rfl rfl (by (try simp only [List.map_toArray, List.map_cons, List.map_nil]); first | done | rfl | (simp only [List.length_drop, List.length_take]; rfl)) ?_
   with_reducible refine (tenementref08_Same.calls kj10 t607 t608 t609 t610 t611 _ _ t612 t597 t598 t599 t600 t601 _ _ t602 true _ ?side1 ?side2 ?side3 ?side4 A30.out).mono ?_
   (case side1 => repeat (first | exact (Kd.R_reads' HO614.out).2.2 | (with_reducible refine Kd.C_alloc ?_ _) | (with_reducible refine Kd.C_drewN ?_ _) | (with_reducible refine Kd.C_drew ?_)))
   (case side2 => exact (Kd.R_reads' HO614.out).2.1)
   (case side3 => repeat (first | exact (Kd.R_reads' HO604.out).2.2 | (with_reducible refine Kd.C_alloc ?_ _) | (with_reducible refine Kd.C_drewN ?_ _) | (with_reducible refine Kd.C_drew ?_)))
   (case side4 => exact (Kd.R_reads' HO604.out).2.1)
   rintro e w48 ⟨rfl, hb⟩
   refine ⟨_, rfl, ?_⟩
   replace HO594 := Aside0.mk (Kd.R_below (Ku_ HO594) hb)
   replace HO604 := Aside0.mk (Kd.R_below (Ku_ HO604) hb)
   replace HO614 := Aside0.mk (Kd.R_below (Ku_ HO614) hb)
   replace BK566 := Kb_ BK566 hb
   replace BK596 := Kb_ BK596 hb
   replace BK606 := Kb_ BK606 hb
   replace HB := Ks_ HB hb
   (try clear hb)
   (try clear hb2)
   (try clear hk)
   (try clear hi)
   refine hK.out _ _ ⟨(blk_cell BK596.out 0).trans rfl, (blk_cell BK596.out 1).trans rfl, (blk_cell BK596.out 2).trans rfl, (blk_cell BK596.out 3).trans rfl, (blk_cell BK596.out 4).trans rfl, (blk_cell BK596.out 5).trans rfl, (blk_cell BK606.out 0).trans rfl, (blk_cell BK606.out 1).trans rfl, (blk_cell BK606.out 2).trans rfl, (blk_cell BK606.out 3).trans rfl, (blk_cell BK606.out 4).trans rfl, (blk_cell BK606.out 5).trans rfl⟩ (fun hHeld => ?_)
   clear hK K
   refine Kn_ 58 ?_
   refine Kp_ 6 59 (mB_ 13 127) (any_of HT_.out (by kernel_rfl)) ?_
   refine Kp_ 7 60 (mB_ 13 255) (any_of HT_.out (by kernel_rfl)) ?_
   refine Kp_ 8 61 (mB_ 13 511) (any_of HT_.out (by kernel_rfl)) ?_
   refine Kp_ 9 62 (mB_ 13 1023) (any_of HT_.out (by kernel_rfl)) ?_
   refine Kp_ 10 63 (mB_ 13 2047) (any_of HT_.out (by kernel_rfl)) ?_
   refine Kp_ 11 64 (mB_ 13 4095) (any_of HT_.out (by kernel_rfl)) ?_
   refine Kp_ 12 10 (mB_ 13 8191) (any_of HT_.out (by kernel_rfl)) ?_
   refine done_ (done_of HT_.out (by kernel_rfl)) ?_
   try go_wp2
   go_ret
   exact ⟨Kh_, K3a_ HB GE566 GE596 GE606⟩
end Go.Proofs.Ytoogchgoiciggaa.Q

set_option linter.unusedVariables false
namespace Go.Proofs.Ytoogchgoiciggaa.Q
open Go.RowKit Go.Proofs.Ytoogchgoiciggaa.Q Go.Proofs.YtoogchgoiciggaaW.PrintWords Go.Proofs.YtoogchgoiciggaaW.PrintLast Go.Proofs.YtoogchgoiciggaaW.PrintMore
def tenementlaw08_ItemReads.Pure : Prop := ∀ (x0 : S35) (x1 : ByteArray) (x2 : Int) (x3 : Int) (x4 : Int), (wf35 x0) → (x1.size ≤ 140737488351232) → ((Lit.int .u8 x2).wf = true) → ((Lit.int .i64 x3).wf = true) → ((Lit.int .u8 x4).wf = true) → ∃ k, tenementlaw08_ItemReads.f k (x0.f0.f0.f0.f0) (x0.f0.f0.f0.f1) (x0.f0.f0.f0.f2) (x0.f0.f0.f0.f3) (x0.f0.f0.f1) (x0.f0.f1) (x0.f1) (x0.f2) x1 x2 x3 x4 = some true
end Go.Proofs.Ytoogchgoiciggaa.Q

set_option linter.unusedVariables false
set_option linter.unusedSimpArgs false
namespace Go.Proofs.Ytoogchgoiciggaa.Pure
open Go.RowKit Go.Proofs.Ytoogchgoiciggaa.Q Go.Proofs.YtoogchgoiciggaaW.PrintWords Go.Proofs.YtoogchgoiciggaaW.PrintLast Go.Proofs.YtoogchgoiciggaaW.PrintMore Go.Proofs.Ytoogchgoiciggaa.Plain
abbrev Rgot := Int × Int × Int × Int × Int × List Rw × Bool
theorem rtext_of {s : ByteArray} {b : Bool} {most : Int} {r : ByteArray × ByteArray × Bool} (hz : s.size ≤ 9223372036854775807) (hm : (Lit.int .i64 most).wf = true) {k : Nat} (hk : 34 ≤ k) (h : pack_Reader_Text.f k s b most = some r) : tenementref02_Reader_Text.f k s b most = some r := by
 obtain ⟨q, e1, e2, _⟩ := text_same (b := b) hz hm hk
 rw [h] at e1
 rw [e2, e1]
theorem rnum_of {s : ByteArray} {b : Bool} {r : Int × ByteArray × Bool} (hz : s.size ≤ 9223372036854775807) {k : Nat} (hk : 34 ≤ k) (h : pack_Reader_Number.f s b 1 = some r) : tenementref02_Reader_Number.f k s b 1 = some r := by
 obtain ⟨q, e1, e2, _⟩ := number_same (b := b) (K := 1) hz hk
 rw [h] at e1
 rw [e2, e1]
theorem fits_ok {x : Wr} (h : okw x = true) : fits x := by
 have := okw_size h
 exact ⟨by omega, by omega, by omega⟩
theorem rread_end {a b c g e : Nat} (s : ByteArray) (x6 x9 : Int) (xs : List Wr) (hx : ∀ x ∈ xs, fits x) (hl : xs.length ≤ 1000) (t : ByteArray) (bad : Bool) {K : Nat} (hK : 301 ≤ K) :
  ∃ r : Rgot, tenementref08_Read.j1 K s x6 x9 false t bad a b c g e (xs.map rw_) = some r ∧ (wh a b c g e xs = true → bl s = TL a b c g e xs → r = ((a : Int), (b : Int), (c : Int), (g : Int), (e : Int), xs.map rw_, true)) ∧
   (r = (0, 0, 0, 0, 0, [], false) ∨ ∃ ys : List Wr, wh a b c g e ys = true ∧ bl s = TL a b c g e ys ∧ r = ((a : Int), (b : Int), (c : Int), (g : Int), (e : Int), ys.map rw_, true)) := by
 obtain ⟨K, rfl⟩ : ∃ q, K = q + 1 := ⟨K - 1, by omega⟩
 rw [tenementref08_Read.j1, if_neg (by simp)]
 cases w : wh a b c g e xs with
 | false =>
  rw [(bytes_false w hx hl (k := K) (by omega)).2, Option.bind_some, if_neg (by simp)]
  exact ⟨_, rfl, fun h => absurd h (by simp), Or.inl rfl⟩
 | true =>
  have hb := bl_txn w
  rw [(bytes_true w hx (k := K) (by omega)).2, Option.bind_some, if_pos rfl]
  generalize enc (sp e a b c g ++ nb xs.length 1) xs = u at hb ⊢
  show ∃ r : Rgot, (if u.toList = s.toList then _ else _) = some r ∧ _
  by_cases h : u.toList = s.toList
  ·rw [if_pos h]
   exact ⟨_, rfl, fun _ _ => rfl, Or.inr ⟨xs, w, by rw [← toList_iff.1 h, hb], rfl⟩⟩
  ·rw [if_neg h]
   exact ⟨_, rfl, fun _ hh => absurd (toList_iff.2 (bl_inj (by rw [hb, hh]))) h, Or.inl rfl⟩
theorem rread_loop {a b c g e : Nat} (s : ByteArray) (many : Int) : ∀ (d i K : Nat) (xs : List Wr) (t : ByteArray) (bad : Bool), i + d = 9 → t.size ≤ 9223372036854775807 → xs.length ≤ i → (∀ x ∈ xs, fits x) → 2 * d + 400 ≤ K →
  ∃ r : Rgot, tenementref08_Read.l0 K s many (i : Int) t bad a b c g e (xs.map rw_) = some r ∧ (r = (0, 0, 0, 0, 0, [], false) ∨ ∃ ys : List Wr, wh a b c g e ys = true ∧ bl s = TL a b c g e ys ∧ r = ((a : Int), (b : Int), (c : Int), (g : Int), (e : Int), ys.map rw_, true)) := by
 intro d
 induction d with
 | zero =>
  intro i K xs t bad hi hz hl hx hK
  obtain ⟨K, rfl⟩ : ∃ q, K = q + 1 := ⟨K - 1, by omega⟩
  obtain ⟨r, e1, _, h1⟩ := rread_end (a := a) (b := b) (c := c) (g := g) (e := e) s many (i : Int) xs hx (by omega) t bad (K := K) (by omega)
  rw [tenementref08_Read.l0]
  refine ⟨r, ?_, h1⟩
  split
  ·rw [if_neg (by omega)]; exact e1
  ·exact e1
 | succ d ih =>
  intro i K xs t bad hi hz hl hx hK
  obtain ⟨K, rfl⟩ : ∃ q, K = q + 1 + 1 := ⟨K - 2, by omega⟩
  rw [tenementref08_Read.l0]
  obtain ⟨r, e1, _, h1⟩ := rread_end (a := a) (b := b) (c := c) (g := g) (e := e) s many (i : Int) xs hx (by omega) t bad (K := K + 1) (by omega)
  by_cases hm : (i : Int) < many
  ·rw [if_pos hm, if_pos (by omega)]
   cases bad with
   | true => exact ⟨r, e1, h1⟩
   | false =>
    clear e1 h1
    obtain ⟨t0, u0, c0, e0, z0, m0, _⟩ := text_step (s := t) (b := false) hz 16 (by omega) (k := K) (by omega)
    obtain ⟨t1, u1, c1, e1, z1, m1, _⟩ := text_step (s := u0) (b := c0) (by omega) 16 (by omega) (k := K) (by omega)
    obtain ⟨n, u2, c2, e2, z2, n2, _⟩ := num_step (s := u1) (b := c1) (by omega)
    have z : (⟨#[]⟩ : ByteArray).size = 0 := rfl
    have hw : IntKind.u64.wrap ((i : Int) + 1) = ((i + 1 : Nat) : Int) := by rw [wrap_u64 (by omega) (by omega)]; omega
    have hlm : (xs.map rw_).length = xs.length := List.length_map _
    have f0 := rtext_of hz (by decide) (k := K) (by omega) e0
    have f1 := rtext_of (by omega) (by decide) (k := K) (by omega) e1
    have f2 := rnum_of (by omega) (k := K) (by omega) e2
    rw [show (!false) = true from rfl, tenementref08_Read.j1, if_pos rfl, f0, Option.bind_some]
    show ∃ r : Rgot, ((tenementref02_Reader_Text.f K u0 c0 16).bind _) = some r ∧ _
    rw [f1, Option.bind_some]
    show ∃ r : Rgot, ((tenementref02_Reader_Number.f K u1 c1 1).bind _) = some r ∧ _
    rw [f2, Option.bind_some]
    show ∃ r : Rgot, (if (n : Int) = 1 then _ else _) = some r ∧ _
    by_cases n0 : (n : Int) = 1
    ·rw [if_pos n0, if_pos (by omega), hw]
     have := ih (i + 1) K (xs ++ [(⟨t0, t1, ⟨#[]⟩, ((n : Int) == 1)⟩ : Wr)]) u2 c2 (by omega) (by omega) (by simp; omega) (by
      intro x hx1
      rcases List.mem_append.1 hx1 with hx1 | hx1
      ·exact hx x hx1
      ·rw [List.mem_singleton.1 hx1]
       exact ⟨show t0.size ≤ _ by omega, show t1.size ≤ _ by omega, show (⟨#[]⟩ : ByteArray).size ≤ _ by omega⟩) (by omega)
     rw [List.map_append] at this
     exact this
    ·obtain ⟨t2, u3, c3, e3, z3, m3, _⟩ := text_step (s := u2) (b := c2) (by omega) 32 (by omega) (k := K) (by omega)
     have f3 := rtext_of (by omega) (by decide) (k := K) (by omega) e3
     rw [if_neg n0]
     show ∃ r : Rgot, ((tenementref02_Reader_Text.f K u2 c2 32).bind _) = some r ∧ _
     rw [f3, Option.bind_some, if_pos (by omega), hw]
     have := ih (i + 1) K (xs ++ [(⟨t0, t1, t2, ((n : Int) == 1)⟩ : Wr)]) u3 c3 (by omega) (by omega) (by simp; omega) (by
      intro x hx1
      rcases List.mem_append.1 hx1 with hx1 | hx1
      ·exact hx x hx1
      ·rw [List.mem_singleton.1 hx1]
       exact ⟨show t0.size ≤ _ by omega, show t1.size ≤ _ by omega, show t2.size ≤ _ by omega⟩) (by omega)
     rw [List.map_append] at this
     exact this
  ·rw [if_neg hm]
   exact ⟨r, e1, h1⟩
theorem wr_read {y : Wr} (hok : okw y = true) {t w : ByteArray} (hz : t.size ≤ 9223372036854775807) (ht : bl t = WL y ++ bl w) {K : Nat} (hK : 22 ≤ K) :
  ∃ (u0 u1 u2 : ByteArray) (n : Nat), pack_Reader_Text.f K t false 16 = some (y.f0, u0, false) ∧ u0.size ≤ t.size ∧ pack_Reader_Text.f K u0 false 16 = some (y.f1, u1, false) ∧ u1.size ≤ t.size ∧ pack_Reader_Number.f u1 false 1 = some ((n : Int), u2, false) ∧ u2.size ≤ t.size ∧
   ((y.f3 = true ∧ n = 1 ∧ u2 = w ∧ y.f2 = ⟨#[]⟩) ∨ (y.f3 = false ∧ n = 0 ∧ pack_Reader_Text.f K u2 false 32 = some (y.f2, w, false))) ∧ w.size ≤ t.size := by
 have hs := okw_size hok
 have hg := gone_nil hok
 obtain ⟨y0, y1, y2, y3⟩ := y
 have hs : y0.size ≤ 16 ∧ y1.size ≤ 16 ∧ y2.size ≤ 32 := hs
 have eW : WL (⟨y0, y1, y2, y3⟩ : Wr) = vary y0.size ++ (bl y0 ++ (vary y1.size ++ (bl y1 ++ (if y3 = true then [1] else 0 :: (vary y2.size ++ bl y2))))) := rfl
 rw [eW] at ht
 simp only [List.append_assoc] at ht
 cases y3 with
 | true =>
  obtain rfl : y2 = ⟨#[]⟩ := hg rfl
  have r0 : bl (vs y1.size ++ y1 ++ ((⟨#[1]⟩ : ByteArray) ++ w)) = vary y1.size ++ (bl y1 ++ (1 :: bl w)) := by simp only [bl_append, bl_vs, List.append_assoc]; rfl
  have ht' : bl t = vary y0.size ++ bl y0 ++ bl (vs y1.size ++ y1 ++ ((⟨#[1]⟩ : ByteArray) ++ w)) := by
   rw [ht, r0, List.append_assoc]
   simp
  have hlen := congrArg List.length ht'
  simp only [List.length_append, bl_length] at hlen
  have e0 := ReaderText_good (most := 16) hz ht' (by omega) (k := K) (by omega)
  have r1 : bl ((⟨#[1]⟩ : ByteArray) ++ w) = 1 :: bl w := by rw [bl_append]; rfl
  have e1 := ReaderText_good (s := vs y1.size ++ y1 ++ ((⟨#[1]⟩ : ByteArray) ++ w)) (t := y1) (rest := (⟨#[1]⟩ : ByteArray) ++ w) (most := 16) (by omega) (by rw [r0, r1, List.append_assoc]) (by omega) (k := K) (by omega)
  have hlen2 := congrArg List.length r0
  simp only [List.length_append, bl_length, List.length_cons] at hlen2
  have hlen3 := congrArg List.length r1
  simp only [bl_length, List.length_cons] at hlen3
  have e2 := num_good (s := (⟨#[1]⟩ : ByteArray) ++ w) (u := w) (n := 1) (by omega) r1
  exact ⟨_, _, _, 1, e0, by omega, e1, by omega, e2, by omega, Or.inl ⟨rfl, rfl, rfl, rfl⟩, by omega⟩
 | false =>
  obtain ⟨w2, hw2⟩ : ∃ w2 : ByteArray, w2 = vs y2.size ++ y2 ++ w := ⟨_, rfl⟩
  have hb2 : bl w2 = vary y2.size ++ bl y2 ++ bl w := by rw [hw2]; simp only [bl_append, bl_vs]
  have r0 : bl (vs y1.size ++ y1 ++ ((⟨#[0]⟩ : ByteArray) ++ w2)) = vary y1.size ++ (bl y1 ++ (0 :: bl w2)) := by simp only [bl_append, bl_vs, List.append_assoc]; rfl
  have ht' : bl t = vary y0.size ++ bl y0 ++ bl (vs y1.size ++ y1 ++ ((⟨#[0]⟩ : ByteArray) ++ w2)) := by
   rw [ht, r0, hb2, List.append_assoc]
   simp
  have hlen := congrArg List.length ht'
  simp only [List.length_append, bl_length] at hlen
  have e0 := ReaderText_good (most := 16) hz ht' (by omega) (k := K) (by omega)
  have r1 : bl ((⟨#[0]⟩ : ByteArray) ++ w2) = 0 :: bl w2 := by rw [bl_append]; rfl
  have e1 := ReaderText_good (s := vs y1.size ++ y1 ++ ((⟨#[0]⟩ : ByteArray) ++ w2)) (t := y1) (rest := (⟨#[0]⟩ : ByteArray) ++ w2) (most := 16) (by omega) (by rw [r0, r1, List.append_assoc]) (by omega) (k := K) (by omega)
  have hlen2 := congrArg List.length r0
  simp only [List.length_append, bl_length, List.length_cons] at hlen2
  have hlen3 := congrArg List.length r1
  simp only [bl_length, List.length_cons] at hlen3
  have hlen4 := congrArg List.length hb2
  simp only [List.length_append, bl_length] at hlen4
  have e2 := num_good (s := (⟨#[0]⟩ : ByteArray) ++ w2) (u := w2) (n := 0) (by omega) r1
  have e3 := ReaderText_good (s := w2) (t := y2) (rest := w) (most := 32) (by omega) hb2 (by omega) (k := K) (by omega)
  exact ⟨_, _, _, 0, e0, by omega, e1, by omega, e2, by omega, Or.inr ⟨rfl, rfl, e3⟩, by omega⟩
theorem rread_good {a b c g e : Nat} {s : ByteArray} {xs : List Wr} (hw : wh a b c g e xs = true) (hs : bl s = TL a b c g e xs) : ∀ (ys acc : List Wr) (K : Nat) (t : ByteArray), acc ++ ys = xs → t.size ≤ 9223372036854775807 → bl t = ys.flatMap WL → 2 * ys.length + 400 ≤ K →
  tenementref08_Read.l0 K s (xs.length : Int) (acc.length : Int) t false a b c g e (acc.map rw_) = some ((a : Int), (b : Int), (c : Int), (g : Int), (e : Int), xs.map rw_, true) := by
 obtain ⟨_, h0, h8, _, hok⟩ := wh_true hw
 intro ys
 induction ys with
 | nil =>
  intro acc K t ha hz ht hK
  rw [List.append_nil] at ha
  subst ha
  obtain ⟨K, rfl⟩ : ∃ q, K = q + 1 := ⟨K - 1, by omega⟩
  obtain ⟨r, e1, h1, _⟩ := rread_end (a := a) (b := b) (c := c) (g := g) (e := e) s (acc.length : Int) (acc.length : Int) acc (fun x hx => fits_ok (hok x hx)) (by omega) t false (K := K) (by simp at hK; omega)
  rw [tenementref08_Read.l0, if_neg (by omega), e1, h1 hw hs]
 | cons y ys ih =>
  intro acc K t ha hz ht hK
  obtain ⟨K, rfl⟩ : ∃ q, K = q + 1 + 1 := ⟨K - 2, by omega⟩
  have hln : acc.length + (ys.length + 1) = xs.length := by rw [← ha]; simp
  have hya : okw y = true := hok y (by rw [← ha]; simp)
  obtain ⟨w, hwz⟩ : ∃ w : ByteArray, bl w = ys.flatMap WL := ⟨enc ⟨#[]⟩ ys, by rw [bl_enc]; rfl⟩
  rw [List.flatMap_cons, ← hwz] at ht
  rw [List.length_cons] at hK
  obtain ⟨u0, u1, u2, n, e0, z0, e1, z1, e2, z2, h3, z3⟩ := wr_read hya hz ht (K := K) (by omega)
  have hwr : IntKind.u64.wrap ((acc.length : Int) + 1) = (((acc ++ [y]).length : Nat) : Int) := by rw [wrap_u64 (by omega) (by omega), List.length_append]; rfl
  have hlm : (acc.map rw_).length = acc.length := List.length_map _
  have f0 := rtext_of hz (by decide) (k := K) (by omega) e0
  have f1 := rtext_of (by omega) (by decide) (k := K) (by omega) e1
  have f2 := rnum_of (by omega) (k := K) (by omega) e2
  have next := ih (acc ++ [y]) K w (by rw [← ha]; simp) (by omega) hwz (by omega)
  rw [List.map_append] at next
  rw [tenementref08_Read.l0, if_pos (by omega), if_pos (by omega), show (!false) = true from rfl, tenementref08_Read.j1, if_pos rfl, f0, Option.bind_some]
  show ((tenementref02_Reader_Text.f K u0 false 16).bind _) = _
  rw [f1, Option.bind_some]
  show ((tenementref02_Reader_Number.f K u1 false 1).bind _) = _
  rw [f2, Option.bind_some]
  show (if (n : Int) = 1 then _ else _) = _
  obtain ⟨y0, y1, y2, y3⟩ := y
  rcases h3 with ⟨q1, q2, q3, q4⟩ | ⟨q1, q2, q3⟩
  ·subst q2 q3
   obtain rfl : y3 = true := q1
   obtain rfl : y2 = ⟨#[]⟩ := q4
   rw [if_pos (show ((1 : Nat) : Int) = 1 from rfl), if_pos (by omega), hwr]
   exact next
  ·subst q2
   obtain rfl : y3 = false := q1
   have f3 := rtext_of (by omega) (by decide) (k := K) (by omega) q3
   rw [if_neg (by simp)]
   show ((tenementref02_Reader_Text.f K u2 false 32).bind _) = _
   rw [f3, Option.bind_some, if_pos (by omega), hwr]
   exact next
theorem rsget_of {s : ByteArray} {b : Bool} {r : Int × Int × Int × Int × Int × ByteArray × Bool} (hz : s.size ≤ 9223372036854775807) {k : Nat} (hk : 34 ≤ k) (h : stamp_Get.f k s b = some r) : tenementref07_Get.f k s b = some r := by
 obtain ⟨q, e1, e2⟩ := sget_same (b := b) hz hk
 rw [h] at e1
 rw [e2, e1]
theorem rread_any {s : ByteArray} (hz : s.size ≤ 9223372036854775807) {k : Nat} (hk : 600 ≤ k) :
  ∃ r : Rgot, tenementref08_Read.f k s = some r ∧ (r = (0, 0, 0, 0, 0, [], false) ∨ ∃ (a b c g e : Nat) (ys : List Wr), wh a b c g e ys = true ∧ bl s = TL a b c g e ys) := by
 obtain ⟨v0, v1, v2, v3, v4, t, c, e1, z1, h1, h2⟩ := sget_step (s := s) (b := false) hz (k := k) (by omega)
 have f1 := rsget_of hz (k := k) (by omega) e1
 obtain ⟨n, u, d, e2, z2, n2, _⟩ := num_step (s := t) (b := c) (by omega)
 have f2 := rnum_of (by omega) (k := k) (by omega) e2
 have hv : ∃ m0 m1 m2 m3 m4 : Nat, v0 = m0 ∧ v1 = m1 ∧ v2 = m2 ∧ v3 = m3 ∧ v4 = m4 := by
  cases c with
  | true =>
   obtain ⟨g0, g1, g2, g3, g4⟩ := h2 rfl
   exact ⟨0, 0, 0, 0, 0, g0, g1, g2, g3, g4⟩
  | false =>
   obtain ⟨_, n0, n1, n2, n3, dc, _, _, g0, g1, g2, g3, g4⟩ := h1 rfl
   exact ⟨n0, n1, n2, n3, dc, g0, g1, g2, g3, g4⟩
 obtain ⟨m0, m1, m2, m3, m4, rfl, rfl, rfl, rfl, rfl⟩ := hv
 obtain ⟨r, e3, h3⟩ := rread_loop (a := m0) (b := m1) (c := m2) (g := m3) (e := m4) s (n : Int) 9 0 k [] u d (by omega) (by omega) (by simp) (by simp) (by omega)
 unfold tenementref08_Read.f
 rw [f1, Option.bind_some]
 show ∃ r : Rgot, (tenementref02_Reader_Number.f k t c 1).bind _ = some r ∧ _
 rw [f2, Option.bind_some]
 refine ⟨r, e3, h3.elim Or.inl (fun h => Or.inr ?_)⟩
 obtain ⟨ys, q1, q2, _⟩ := h
 exact ⟨m0, m1, m2, m3, m4, ys, q1, q2⟩
theorem rread_txn {a b c g e : Nat} {xs : List Wr} {s : ByteArray} (h : wh a b c g e xs = true) (hs : bl s = TL a b c g e xs) (hz : s.size ≤ 9223372036854775807) {k : Nat} (hk : 600 ≤ k) :
  tenementref08_Read.f k s = some ((a : Int), (b : Int), (c : Int), (g : Int), (e : Int), xs.map rw_, true) := by
 obtain ⟨hS, h0, h8, _, hok⟩ := wh_true h
 have hd := okS_dc hS
 obtain ⟨u, hu⟩ : ∃ u : ByteArray, bl u = xs.flatMap WL := ⟨enc ⟨#[]⟩ xs, by rw [bl_enc]; rfl⟩
 have hnu : bl (nb xs.length 1 ++ u) = xs.length :: bl u := by rw [bl_append, bl_nb, be_small (by omega)]; rfl
 have hs' : bl s = be 1 e ++ rv a b c g ++ bl (nb xs.length 1 ++ u) := by
  rw [hs, hnu, hu, be_small (by omega)]
  unfold TL
  simp
 have hlen := congrArg List.length hs'
 simp only [List.length_append, bl_length] at hlen
 have hlen2 := congrArg List.length hnu
 simp only [bl_length, List.length_cons] at hlen2
 have e1 := rsget_of hz (k := k) (by omega) (sget_good (s := s) (rest := nb xs.length 1 ++ u) hz hs' hS (k := k) (by omega))
 have e2 := rnum_of (by omega) (k := k) (by omega) (num_good (s := nb xs.length 1 ++ u) (u := u) (n := xs.length) (by omega) hnu)
 have e3 := rread_good h hs xs [] k u rfl (by omega) hu (by omega)
 unfold tenementref08_Read.f
 rw [e1, Option.bind_some]
 show (tenementref02_Reader_Number.f k (nb xs.length 1 ++ u) false 1).bind _ = _
 rw [e2, Option.bind_some]
 exact e3
theorem examples_60 : tenementlaw08_examples.f 60 = some true := by decide +kernel
theorem examples_f {k : Nat} (hk : 60 ≤ k) : tenementlaw08_examples.f k = some true := at_rounds tenementlaw08_examples.mono hk examples_60
theorem weq_refl (x : Wr) : weq x x = true := by
 unfold weq
 simp
theorem eqb_refl : ∀ xs : List Wr, eqb xs xs = true
 | [] => rfl
 | x :: xs => by
  unfold eqb
  rw [weq_refl, eqb_refl xs]
  rfl
theorem sameT_refl (a b c d e : Int) (xs : List Wr) : sameT a b c d e xs a b c d e xs = true := by
 unfold sameT
 rw [eqb_refl]
 simp
theorem reads_j1 {s : ByteArray} (hz : s.size ≤ 9223372036854775807) {K : Nat} (hK : 700 ≤ K) : tenementlaw08_ItemReads.j1 K s true = some true := by
 obtain ⟨K, rfl⟩ : ∃ q, K = q + 1 := ⟨K - 1, by omega⟩
 rw [tenementlaw08_ItemReads.j1]
 by_cases h : ∃ (a b c g e : Nat) (xs : List Wr), wh a b c g e xs = true ∧ bl s = TL a b c g e xs
 ·obtain ⟨a, b, c, g, e, xs, w, hs⟩ := h
  obtain ⟨_, h0, h8, _, hok⟩ := wh_true w
  have e1 := iread_txn w (fun x hx => fits_ok (hok x hx)) hs hz (k := K) (by omega)
  have e2 := rread_txn w hs hz (k := K) (by omega)
  have e3 := refTxn_f (a : Int) b c g e xs (by omega) (k := K) (by omega)
  have e4 := rsame_f (a : Int) b c g e xs a b c g e xs (by omega) (k := K) (by omega)
  rw [sameT_refl] at e4
  rw [e1, Option.bind_some, e2, Option.bind_some, if_pos rfl]
  show (tenementlaw08_refTxn.f K (a : Int) b c g e xs).bind _ = _
  rw [e3, Option.bind_some]
  show (tenementref08_Same.f K (a : Int) b c g e (xs.map rw_) a b c g e (xs.map rw_)).bind _ = _
  rw [e4, Option.bind_some, if_pos rfl, if_pos rfl]
 ·obtain ⟨r1, e1, k1, h1⟩ := iread_any hz (k := K) (by omega)
  obtain ⟨r2, e2, h2⟩ := rread_any hz (k := K) (by omega)
  have q1 : r1 = (0, 0, 0, 0, 0, [], false) := by
   cases ho : r1.2.2.2.2.2.2 with
   | false => exact k1 ho
   | true =>
    obtain ⟨a, b, c, g, e, xs, w, hs, _⟩ := h1 ho
    exact absurd ⟨a, b, c, g, e, xs, w, hs⟩ h
  have q2 : r2 = (0, 0, 0, 0, 0, [], false) := h2.elim id (fun h2 => absurd h2 h)
  subst q1 q2
  have e3 := refTxn_f 0 0 0 0 0 [] (by simp) (k := K) (by simp; omega)
  have e4 := rsame_f 0 0 0 0 0 [] 0 0 0 0 0 [] (by simp) (k := K) (by simp; omega)
  rw [sameT_refl] at e4
  rw [e1, Option.bind_some, e2, Option.bind_some, if_pos rfl]
  show (tenementlaw08_refTxn.f K 0 0 0 0 0 []).bind _ = _
  rw [e3, Option.bind_some]
  show (tenementref08_Same.f K 0 0 0 0 0 (([] : List Wr).map rw_) 0 0 0 0 0 (([] : List Wr).map rw_)).bind _ = _
  rw [e4, Option.bind_some, if_pos rfl, if_pos rfl]
theorem reads_j0 {s x : ByteArray} (hz : s.size ≤ 100000) (hx : x.size ≤ 140737488351232) {p q : Int} (hp : -9223372036854775808 ≤ p ∧ p ≤ 9223372036854775807) (m : Int) (o : Bool) {K : Nat} (hK : 701 ≤ K) : tenementlaw08_ItemReads.j0 K x p q true s m o = some true := by
 obtain ⟨K, rfl⟩ : ∃ q, K = q + 1 := ⟨K - 1, by omega⟩
 rw [tenementlaw08_ItemReads.j0]
 by_cases c : o = true
 ·obtain ⟨t, e1, z1⟩ := bend_f (s := s) (p := p) (b := q) (by omega) hp
  rw [if_pos c, e1, Option.bind_some]
  exact reads_j1 z1 (by omega)
 ·rw [if_neg c]
  by_cases c3 : m = 3
  ·rw [if_pos c3, if_pos (by omega)]
   exact reads_j1 (by rw [ByteArray.size_append]; omega) (by omega)
  ·rw [if_neg c3]
   exact reads_j1 (by omega) (by omega)
theorem ItemReads : tenementlaw08_ItemReads.Pure := by
 intro x s how at_ by_ hx hs hhow hat hby
 obtain ⟨⟨⟨⟨v0, v1, v2, v3⟩, d⟩, o⟩, l, own⟩ := x
 have hw := hx.1.1
 have hl : ∀ p ∈ l, fits p.f0 := fun p hp => ⟨(hx.2.1.1 p hp).1.1, (hx.2.1.1 p hp).1.2.1, (hx.2.1.1 p hp).1.2.2.1⟩
 have hlen : l.length * 64 ≤ 140737488351232 := hx.2.1.2
 have hat := i64_of hat
 obtain ⟨K, hK⟩ : ∃ K, K = (l.length + 1) * 15 + 5000 := ⟨_, rfl⟩
 obtain ⟨a, b, c, g, e, xs, ed, hwh, hf⟩ := deal_own v0 v1 v2 v3 d hw.1.1 hw.1.2.1 hw.1.2.2.1 o l hl (by omega) (K := K) (by omega)
 clear hx hw hl
 obtain ⟨_, h0, h8, _, hok⟩ := wh_true hwh
 have eb := (bytes_true hwh hf (k := K) (by omega)).2
 have hsz := (txn_size hwh (bl_txn hwh)).1
 generalize enc (sp e a b c g ++ nb xs.length 1) xs = t at eb hsz
 have et := refTxn_f (a : Int) b c g e xs (by omega) (k := K) (by omega)
 refine ⟨K, ?_⟩
 show tenementlaw08_ItemReads.f K v0 v1 v2 v3 d o l own s how at_ by_ = some true
 unfold tenementlaw08_ItemReads.f
 rw [examples_f (by omega), Option.bind_some, if_pos rfl, ed, Option.bind_some]
 show (tenementlaw08_refTxn.f K (a : Int) b c g e xs).bind _ = _
 rw [et, Option.bind_some]
 show (tenementref08_Bytes.f K (a : Int) b c g e (xs.map rw_)).bind _ = _
 rw [eb, Option.bind_some]
 split
 ·exact reads_j0 hsz hs hat _ _ (by omega)
 ·exact reads_j0 hsz hs hat _ _ (by omega)
end Go.Proofs.Ytoogchgoiciggaa.Pure
