import Derived.Test.YtoagfdpgnfinhaaGStreamBack2
import Derived.Test.YtoagfdpgnfinhaaGStreamBack10
import Derived.Test.YtoagfdpgnfinhaaGStreamBack3
import Derived.Test.YtoagfdpgnfinhaaGStreamBack8
import Derived.Test.YtoagfdpgnfinhaaGStreamBack9
import Derived.RegionTactic
import Derived.Test.YtoagfdpgnfinhaaGStreamBack0
import Derived.Test.YtoagfdpgnfinhaaGStreamBack6
import Derived.Test.YtoagfdpgnfinhaaGStreamBack5
namespace Go.Proofs.Ytoagfdpgnfinhaa.Q
open Go.RowKit Go.Proofs.YtoagfdpgnfinhaaW.PrintWords Go.Proofs.YtoagfdpgnfinhaaW.PrintLast Go.Proofs.YtoagfdpgnfinhaaW.PrintMore
attribute [local go_sem] max2_int min2_int max_two min_two max_three min_three max_four min_four   -- for this text's walks alone
set_option linter.unusedVariables false
set_option linter.unusedSimpArgs false
def tenementlaw15_Letter_letter.f (k : Nat) (a0_0 : Int) (a0_1 : Int) (a0_2 : Int) (a0_3 : Int) (a0_4 : Int) (a0_5 : Int) (a0_6 : Int) (a0_7 : Int) (a0_8 : Bool) (l0_9 : List (S159)) (a0_10 : Bool) (a0_11 : Bool) : Option (Int × Int × Int × Int × Int × Int × Int × Int × (List (S107))) := if a0_11 = true then (if (wrap64 (1 + (wrap64 (Int.tmod (IntKind.u64.wrap (a0_0)) 2)))) = 1 then ((tenementlaw15_Deal_deal.f k a0_3 a0_4 a0_5 a0_6 a0_7 a0_8 l0_9 true).bind fun bt359 => ((stamp_Stamp_N.f bt359.1 bt359.2.1 bt359.2.2.1 bt359.2.2.2.1 bt359.2.2.2.2.1).bind fun t367 => (some (wrap64 (1 + (wrap64 (Int.tmod (IntKind.u64.wrap (a0_0)) 2))), wrap64 (1 + (wrap64 (Int.tmod (IntKind.u64.wrap (a0_1)) 4))), t367, bt359.1, bt359.2.1, bt359.2.2.1, bt359.2.2.2.1, bt359.2.2.2.2.1, bt359.2.2.2.2.2)))) else (some (wrap64 (1 + (wrap64 (Int.tmod (IntKind.u64.wrap (a0_0)) 2))), wrap64 (1 + (wrap64 (Int.tmod (IntKind.u64.wrap (a0_1)) 4))), Int.tmod a0_2 9, 0, 0, 0, 0, 0, ([] : List (S107))))) else ((tenementlaw15_Deal_deal.f k a0_3 a0_4 a0_5 a0_6 a0_7 a0_8 l0_9 a0_10).bind fun bt350 => (some (a0_0, a0_1, a0_2, bt350.1, bt350.2.1, bt350.2.2.1, bt350.2.2.2.1, bt350.2.2.2.2.1, bt350.2.2.2.2.2)))
def tenementlaw15_Letter_letter.T2 : Bool × List (List Nat × List Nat) := (true, [([], []), ([0], [0]), ([], []), ([2], [2]), ([], []), ([4], [4]), ([], []), ([6], [6]), ([7], [7]), ([1, 3, 5, 8], [1, 3, 5, 8]), ([9, 8, 0, 1, 2, 3, 4, 5, 6, 7, 8, 9], [9])])
def tenementlaw15_Letter_letter.B2 : List Nat := [0, 1, 0, 4, 0, 16, 0, 64, 192, 511, 1023]
theorem tenementlaw15_Letter_letter.tab2 : rtab .any (opsOf Try.f26 2) = tenementlaw15_Letter_letter.T2 := by kernel_rfl
theorem tenementlaw15_Letter_letter.bits2 : waitsOk tenementlaw15_Letter_letter.T2.2 tenementlaw15_Letter_letter.B2 = true := by kernel_rfl
set_option maxHeartbeats 8000000 in
set_option maxRecDepth 100000 in
theorem tenementlaw15_Letter_letter.calls (k : Nat) (a0_0 : Int) (a0_1 : Int) (a0_2 : Int) (a0_3 : Int) (a0_4 : Int) (a0_5 : Int) (a0_6 : Int) (a0_7 : Int) (a0_8 : Bool) (A0_9 : Option Addr) (c0_9 : Nat) (l0_9 : List (S159)) (a0_10 : Bool) (a0_11 : Bool) (r1 : Int) (r2 : Int) (r3 : Int) (r4 : Int) (r5 : Int) (r6 : Int) (r7 : Int) (r8 : Int) (r9 : List (S107)) (w : World) (hr0_9 : Kd.C k159 w A0_9 l0_9.length l0_9) (hc0_9 : l0_9.length ≤ c0_9) (h : tenementlaw15_Letter_letter.f k a0_0 a0_1 a0_2 a0_3 a0_4 a0_5 a0_6 a0_7 a0_8 l0_9 a0_10 a0_11 = some (r1, r2, r3, r4, r5, r6, r7, r8, r9)) :
  Calls Try.prog 26 #[.agg #[.int .i64 a0_0, .int .i64 a0_1, .int .u64 a0_2, .int .u64 a0_3, .int .u64 a0_4, .int .u64 a0_5, .int .u64 a0_6, .int .i64 a0_7, .bool a0_8, .slice A0_9 l0_9.length c0_9, .bool a0_10, .bool a0_11]] w fun e w' => ∃ v8_ : Value, e = .returned (.agg #[.int .i64 r1, .int .i64 r2, .int .u64 r3, .int .u64 r4, .int .u64 r5, .int .u64 r6, .int .u64 r7, .int .i64 r8, v8_]) ∧ Kd.R k107 107 w' w.heap.size (fun _ => True) v8_ r9 ∧ Below w.heap.size w w' := by
 have hu65 := Try.underlying65
 have hu69 := Try.underlying69
 have hu42 := Try.underlying42
 have hu33 := Try.underlying33
 have hu30 := Try.underlying30
 have HR0_9 := Aside0.mk hr0_9
 have HC0_9 := Aside0.mk hc0_9
 clear hr0_9 hc0_9
 have HB := Aside0.mk (Below.refl w.heap.size w)
 have H : (if a0_11 = true then (if (wrap64 (1 + (wrap64 (Int.tmod (IntKind.u64.wrap (a0_0)) 2)))) = 1 then ((tenementlaw15_Deal_deal.f k a0_3 a0_4 a0_5 a0_6 a0_7 a0_8 l0_9 true).bind fun bt359 => ((stamp_Stamp_N.f bt359.1 bt359.2.1 bt359.2.2.1 bt359.2.2.2.1 bt359.2.2.2.2.1).bind fun t367 => (some (wrap64 (1 + (wrap64 (Int.tmod (IntKind.u64.wrap (a0_0)) 2))), wrap64 (1 + (wrap64 (Int.tmod (IntKind.u64.wrap (a0_1)) 4))), t367, bt359.1, bt359.2.1, bt359.2.2.1, bt359.2.2.2.1, bt359.2.2.2.2.1, bt359.2.2.2.2.2)))) else (some (wrap64 (1 + (wrap64 (Int.tmod (IntKind.u64.wrap (a0_0)) 2))), wrap64 (1 + (wrap64 (Int.tmod (IntKind.u64.wrap (a0_1)) 4))), Int.tmod a0_2 9, 0, 0, 0, 0, 0, ([] : List (S107))))) else ((tenementlaw15_Deal_deal.f k a0_3 a0_4 a0_5 a0_6 a0_7 a0_8 l0_9 a0_10).bind fun bt350 => (some (a0_0, a0_1, a0_2, bt350.1, bt350.2.1, bt350.2.2.1, bt350.2.2.2.1, bt350.2.2.2.2.1, bt350.2.2.2.2.2)))) = some (r1, r2, r3, r4, r5, r6, r7, r8, r9) := h
 clear h
 by_cases c2 : a0_11 = true
 rotate_left
 ·replace c2 := Bool.eq_false_iff.mpr c2
  subst c2
  have H1 : ((tenementlaw15_Deal_deal.f k a0_3 a0_4 a0_5 a0_6 a0_7 a0_8 l0_9 a0_10).bind fun bt350 => (some (a0_0, a0_1, a0_2, bt350.1, bt350.2.1, bt350.2.2.1, bt350.2.2.2.1, bt350.2.2.2.2.1, bt350.2.2.2.2.2))) = some (r1, r2, r3, r4, r5, r6, r7, r8, r9) := by rw [if_neg (show ¬ (false = true) by decide)] at H; exact H
  clear H
  have H := H1
  clear H1
  replace H := Option.bind_eq_some_iff.mp H
  obtain ⟨⟨t350, t351, t352, t353, t354, t355⟩, A300, H⟩ := H
  replace H : (some (a0_0, a0_1, a0_2, t350, t351, t352, t353, t354, t355)) = some (r1, r2, r3, r4, r5, r6, r7, r8, r9) := H
  have A30 := Aside0.mk A300
  clear A300
  simp only [Option.some.injEq, Prod.mk.injEq] at H
  obtain ⟨rfl, rfl, rfl, rfl, rfl, rfl, rfl, rfl, rfl⟩ := H
  go_enter Try.func26, Try.ntmps26
  try go_wp2_with (first | ((with_reducible refine gate_dst (N := 1) rfl ?_); refine Ka_ 1 #[.int .i64 a0_0, .int .i64 a0_1, .int .u64 a0_2, .int .u64 a0_3, .int .u64 a0_4, .int .u64 a0_5, .int .u64 a0_6, .int .i64 a0_7, .bool a0_8, .slice A0_9 l0_9.length c0_9, .bool a0_10, .bool false] 65 ?_; intro gb348 hg w31 hbox hb; have BK348 := Aside0.mk (hbox); have GW348 := Kw_ HB hg; have GE348 := GW348; replace HB := Ks_ HB hb; clear hb hbox hg) | ((with_reducible refine gate_dst (N := 2) rfl ?_); refine Ka_ 2 #[.int .i64 0, .int .i64 0, .int .u64 0, .int .u64 0, .int .u64 0, .int .u64 0, .int .u64 0, .int .i64 0, .slice none 0 0] 69 ?_; intro gb349 hg w32 hbox hb; have BK349 := Aside0.mk (hbox); have GW349 := Kw_ HB hg; have GE349 := GW349; have NB348_349 := Kl_ BK348 hg; have NB349_348 := Kr_ BK348 hg; replace BK348 := Kb_ BK348 hb; replace HB := Ks_ HB hb; clear hb hbox hg; have hnb33 := NB348_349.out; have hnc33 := NB349_348.out; have hcz34_0 : w32.cell? ⟨gb348, 0, none⟩ = some (.int .i64 a0_0) := (blk_cell BK348.out 0).trans rfl; have hcz34_1 : w32.cell? ⟨gb348, 1, none⟩ = some (.int .i64 a0_1) := (blk_cell BK348.out 1).trans rfl; have hcz34_2 : w32.cell? ⟨gb348, 2, none⟩ = some (.int .u64 a0_2) := (blk_cell BK348.out 2).trans rfl; have hcz34_3 : w32.cell? ⟨gb348, 3, none⟩ = some (.int .u64 a0_3) := (blk_cell BK348.out 3).trans rfl; have hcz34_4 : w32.cell? ⟨gb348, 4, none⟩ = some (.int .u64 a0_4) := (blk_cell BK348.out 4).trans rfl; have hcz34_5 : w32.cell? ⟨gb348, 5, none⟩ = some (.int .u64 a0_5) := (blk_cell BK348.out 5).trans rfl; have hcz34_6 : w32.cell? ⟨gb348, 6, none⟩ = some (.int .u64 a0_6) := (blk_cell BK348.out 6).trans rfl; have hcz34_7 : w32.cell? ⟨gb348, 7, none⟩ = some (.int .i64 a0_7) := (blk_cell BK348.out 7).trans rfl; have hcz34_8 : w32.cell? ⟨gb348, 8, none⟩ = some (.bool a0_8) := (blk_cell BK348.out 8).trans rfl; have hcz34_9 : w32.cell? ⟨gb348, 9, none⟩ = some (.slice A0_9 l0_9.length c0_9) := (blk_cell BK348.out 9).trans rfl; have hcz34_10 : w32.cell? ⟨gb348, 10, none⟩ = some (.bool a0_10) := (blk_cell BK348.out 10).trans rfl; have hcz34_11 : w32.cell? ⟨gb348, 11, none⟩ = some (.bool false) := (blk_cell BK348.out 11).trans rfl; have hfz34_0 := blk_frozen BK348.out 0; have hfz34_1 := blk_frozen BK348.out 1; have hfz34_2 := blk_frozen BK348.out 2; have hfz34_3 := blk_frozen BK348.out 3; have hfz34_4 := blk_frozen BK348.out 4; have hfz34_5 := blk_frozen BK348.out 5; have hfz34_6 := blk_frozen BK348.out 6; have hfz34_7 := blk_frozen BK348.out 7; have hfz34_8 := blk_frozen BK348.out 8; have hfz34_9 := blk_frozen BK348.out 9; have hfz34_10 := blk_frozen BK348.out 10; have hfz34_11 := blk_frozen BK348.out 11))
  replace BK348 := Kd_ BK348
  replace BK349 := Kd_ BK349
  replace HB := Aside0.mk (below_drew1 HB.out)
  refine start_ (n := 11) (S := fun w' => w'.cell? ⟨gb348, 0, none⟩ = some (.int .i64 a0_0) ∧ w'.cell? ⟨gb348, 1, none⟩ = some (.int .i64 a0_1) ∧ w'.cell? ⟨gb348, 2, none⟩ = some (.int .u64 a0_2) ∧ w'.cell? ⟨gb348, 3, none⟩ = some (.int .u64 a0_3) ∧ w'.cell? ⟨gb348, 4, none⟩ = some (.int .u64 a0_4) ∧ w'.cell? ⟨gb348, 5, none⟩ = some (.int .u64 a0_5) ∧ w'.cell? ⟨gb348, 6, none⟩ = some (.int .u64 a0_6) ∧ w'.cell? ⟨gb348, 7, none⟩ = some (.int .i64 a0_7) ∧ w'.cell? ⟨gb348, 8, none⟩ = some (.bool a0_8) ∧ w'.cell? ⟨gb348, 9, none⟩ = some (.slice A0_9 l0_9.length c0_9) ∧ w'.cell? ⟨gb348, 10, none⟩ = some (.bool a0_10) ∧ w'.cell? ⟨gb348, 11, none⟩ = some (.bool false)) (ds := []) (mB_ 11 0) (by kernel_rfl) rfl rfl ⟨Km_ BK348 0, Km_ BK348 1, Km_ BK348 2, Km_ BK348 3, Km_ BK348 4, Km_ BK348 5, Km_ BK348 6, Km_ BK348 7, Km_ BK348 8, Km_ BK348 9, Km_ BK348 10, Km_ BK348 11⟩ (fun hHeld => ?_); refine with_tabW tenementlaw15_Letter_letter.tab2 tenementlaw15_Letter_letter.bits2 (fun HT_ HW_ => ?_)
  generalize w32.drew = w35 at BK348 BK349 HB hHeld ⊢
  refine Kp_ 0 7 (mB_ 11 1) (any_of HT_.out (by kernel_rfl)) ?_
  refine Kp_ 2 9 (mB_ 11 5) (any_of HT_.out (by kernel_rfl)) ?_
  refine Kp_ 4 11 (mB_ 11 21) (any_of HT_.out (by kernel_rfl)) ?_
  refine Kp_ 6 13 (mB_ 11 85) (any_of HT_.out (by kernel_rfl)) ?_
  refine Ko_ 1 8 (mB_ 11 87) (take_ofW HT_.out HW_.out (by kernel_rfl)) hHeld ?_
  refine Ko_ 3 10 (mB_ 11 95) (take_ofW HT_.out HW_.out (by kernel_rfl)) hHeld ?_
  refine Ko_ 5 12 (mB_ 11 127) (take_ofW HT_.out HW_.out (by kernel_rfl)) hHeld ?_
  refine Ko_ 7 14 (mB_ 11 255) (take_ofW HT_.out HW_.out (by kernel_rfl)) hHeld ?_
  refine one_ (i := 8) (N := some 15) (mB_ 11 511) rfl rfl (one_of HT_.out (by kernel_rfl)) (by decide) (fun K hK => ?_)
  refine goes_ Try.func19 (by kernel_rfl) rfl #[.agg #[.int .u64 a0_3, .int .u64 a0_4, .int .u64 a0_5, .int .u64 a0_6, .int .i64 a0_7, .bool a0_8, .slice A0_9 l0_9.length c0_9, .bool a0_10]] (by rfl) rfl rfl (by (try simp only [List.map_toArray, List.map_cons, List.map_nil]); first | done | rfl | (simp only [List.length_drop, List.length_take]; rfl)) ?_
  with_reducible refine (tenementlaw15_Deal_deal.calls k a0_3 a0_4 a0_5 a0_6 a0_7 a0_8 _ _ l0_9 a0_10 t350 t351 t352 t353 t354 t355 _ ?side1 ?side2 A30.out).mono ?_
  (case side1 => repeat (first | exact (Kd.C_below HR0_9.out HB.out) | (with_reducible refine Kd.C_alloc ?_ _) | (with_reducible refine Kd.C_drewN ?_ _) | (with_reducible refine Kd.C_drew ?_)))
  (case side2 => exact HC0_9.out)
  rintro e w36 ⟨v356, rfl, ho0, hb⟩
  refine ⟨_, rfl, ?_⟩
  have HO357 := Aside0.mk (Kd.R_lower ho0 (below_size (K2a_ HB GE348 GE349)))
  replace BK348 := Kb_ BK348 hb
  replace BK349 := Kb_ BK349 hb
  replace HB := Ks_ HB hb
  (try clear hb)
  (try clear hb2)
  (try clear hk)
  (try clear hi)
  (try clear ho0)
  obtain ⟨Ao37, co37, eo37⟩ := Kd.R_slice HO357.out
  (first | subst eo37 | (injection eo37 with f1_ f2_ f3_; have f4_ := f1_.symm; have f5_ := f3_.symm; clear f1_ f2_ f3_; subst f4_; subst f5_))
  refine hK.out _ _ ⟨Km_ BK348 0, Km_ BK348 1, Km_ BK348 2, Km_ BK348 3, Km_ BK348 4, Km_ BK348 5, Km_ BK348 6, Km_ BK348 7, Km_ BK348 8, Km_ BK348 9, Km_ BK348 10, Km_ BK348 11⟩ (fun hHeld => ?_)
  clear hK K
  refine Kn_ 15 ?_
  refine Kp_ 9 16 (mB_ 11 1023) (any_of HT_.out (by kernel_rfl)) ?_
  refine one_ (i := 10) (N := none) (mB_ 11 2047) rfl rfl (one_of HT_.out (by kernel_rfl)) (by decide) (fun K hK => ?_)
  have hs38 : w36.cell? ⟨gb349, 0, none⟩ = some (.int .i64 0) := (blk_cell BK349.out 0).trans rfl
  have hfs38 := blk_frozen BK349.out 0
  have hns38_0 := NB348_349.out
  have hms38_0 := NB349_348.out
  have hs39 : w36.cell? ⟨gb349, 1, none⟩ = some (.int .i64 0) := (blk_cell BK349.out 1).trans rfl
  have hfs39 := blk_frozen BK349.out 1
  have hns39_0 := NB348_349.out
  have hms39_0 := NB349_348.out
  have hs40 : w36.cell? ⟨gb349, 2, none⟩ = some (.int .u64 0) := (blk_cell BK349.out 2).trans rfl
  have hfs40 := blk_frozen BK349.out 2
  have hns40_0 := NB348_349.out
  have hms40_0 := NB349_348.out
  have hs41 : w36.cell? ⟨gb349, 3, none⟩ = some (.int .u64 0) := (blk_cell BK349.out 3).trans rfl
  have hfs41 := blk_frozen BK349.out 3
  have hns41_0 := NB348_349.out
  have hms41_0 := NB349_348.out
  have hs42 : w36.cell? ⟨gb349, 4, none⟩ = some (.int .u64 0) := (blk_cell BK349.out 4).trans rfl
  have hfs42 := blk_frozen BK349.out 4
  have hns42_0 := NB348_349.out
  have hms42_0 := NB349_348.out
  have hs43 : w36.cell? ⟨gb349, 5, none⟩ = some (.int .u64 0) := (blk_cell BK349.out 5).trans rfl
  have hfs43 := blk_frozen BK349.out 5
  have hns43_0 := NB348_349.out
  have hms43_0 := NB349_348.out
  have hs44 : w36.cell? ⟨gb349, 6, none⟩ = some (.int .u64 0) := (blk_cell BK349.out 6).trans rfl
  have hfs44 := blk_frozen BK349.out 6
  have hns44_0 := NB348_349.out
  have hms44_0 := NB349_348.out
  have hs45 : w36.cell? ⟨gb349, 7, none⟩ = some (.int .i64 0) := (blk_cell BK349.out 7).trans rfl
  have hfs45 := blk_frozen BK349.out 7
  have hns45_0 := NB348_349.out
  have hms45_0 := NB349_348.out
  have hs46 : w36.cell? ⟨gb349, 8, none⟩ = some (.slice none 0 0) := (blk_cell BK349.out 8).trans rfl
  have hfs46 := blk_frozen BK349.out 8
  have hns46_0 := NB348_349.out
  have hms46_0 := NB349_348.out
  refine skip_ (w1 := ?_) (by rfl) rfl ?_ ?_
  rotate_left
  ·go_simp
   rfl
  refine hK.out _ _ ⟨(Kj_ NB348_349 ((Kj_ NB348_349 ((Kj_ NB348_349 ((Kj_ NB348_349 ((Kj_ NB348_349 ((Kj_ NB348_349 ((Kj_ NB348_349 ((Kj_ NB348_349 ((Kj_ NB348_349 (hHeld.1)))))))))))))))))), (Kj_ NB348_349 ((Kj_ NB348_349 ((Kj_ NB348_349 ((Kj_ NB348_349 ((Kj_ NB348_349 ((Kj_ NB348_349 ((Kj_ NB348_349 ((Kj_ NB348_349 ((Kj_ NB348_349 (hHeld.2.1)))))))))))))))))), (Kj_ NB348_349 ((Kj_ NB348_349 ((Kj_ NB348_349 ((Kj_ NB348_349 ((Kj_ NB348_349 ((Kj_ NB348_349 ((Kj_ NB348_349 ((Kj_ NB348_349 ((Kj_ NB348_349 (hHeld.2.2.1)))))))))))))))))), (Kj_ NB348_349 ((Kj_ NB348_349 ((Kj_ NB348_349 ((Kj_ NB348_349 ((Kj_ NB348_349 ((Kj_ NB348_349 ((Kj_ NB348_349 ((Kj_ NB348_349 ((Kj_ NB348_349 (hHeld.2.2.2.1)))))))))))))))))), (Kj_ NB348_349 ((Kj_ NB348_349 ((Kj_ NB348_349 ((Kj_ NB348_349 ((Kj_ NB348_349 ((Kj_ NB348_349 ((Kj_ NB348_349 ((Kj_ NB348_349 ((Kj_ NB348_349 (hHeld.2.2.2.2.1)))))))))))))))))), (Kj_ NB348_349 ((Kj_ NB348_349 ((Kj_ NB348_349 ((Kj_ NB348_349 ((Kj_ NB348_349 ((Kj_ NB348_349 ((Kj_ NB348_349 ((Kj_ NB348_349 ((Kj_ NB348_349 (hHeld.2.2.2.2.2.1)))))))))))))))))), (Kj_ NB348_349 ((Kj_ NB348_349 ((Kj_ NB348_349 ((Kj_ NB348_349 ((Kj_ NB348_349 ((Kj_ NB348_349 ((Kj_ NB348_349 ((Kj_ NB348_349 ((Kj_ NB348_349 (hHeld.2.2.2.2.2.2.1)))))))))))))))))), (Kj_ NB348_349 ((Kj_ NB348_349 ((Kj_ NB348_349 ((Kj_ NB348_349 ((Kj_ NB348_349 ((Kj_ NB348_349 ((Kj_ NB348_349 ((Kj_ NB348_349 ((Kj_ NB348_349 (hHeld.2.2.2.2.2.2.2.1)))))))))))))))))), (Kj_ NB348_349 ((Kj_ NB348_349 ((Kj_ NB348_349 ((Kj_ NB348_349 ((Kj_ NB348_349 ((Kj_ NB348_349 ((Kj_ NB348_349 ((Kj_ NB348_349 ((Kj_ NB348_349 (hHeld.2.2.2.2.2.2.2.2.1)))))))))))))))))), (Kj_ NB348_349 ((Kj_ NB348_349 ((Kj_ NB348_349 ((Kj_ NB348_349 ((Kj_ NB348_349 ((Kj_ NB348_349 ((Kj_ NB348_349 ((Kj_ NB348_349 ((Kj_ NB348_349 (hHeld.2.2.2.2.2.2.2.2.2.1)))))))))))))))))), (Kj_ NB348_349 ((Kj_ NB348_349 ((Kj_ NB348_349 ((Kj_ NB348_349 ((Kj_ NB348_349 ((Kj_ NB348_349 ((Kj_ NB348_349 ((Kj_ NB348_349 ((Kj_ NB348_349 (hHeld.2.2.2.2.2.2.2.2.2.2.1)))))))))))))))))), (Kj_ NB348_349 ((Kj_ NB348_349 ((Kj_ NB348_349 ((Kj_ NB348_349 ((Kj_ NB348_349 ((Kj_ NB348_349 ((Kj_ NB348_349 ((Kj_ NB348_349 ((Kj_ NB348_349 (hHeld.2.2.2.2.2.2.2.2.2.2.2))))))))))))))))))⟩ (fun hHeld => ?_)
  clear hK K
  refine done_ (done_of HT_.out (by kernel_rfl)) ?_
  try go_wp2
  refine bodyPost_ret (results_cell_row rfl _ _ gb349 69 #[.int .i64 a0_0, .int .i64 a0_1, .int .u64 a0_2, .int .u64 t350, .int .u64 t351, .int .u64 t352, .int .u64 t353, .int .i64 t354, .slice Ao37 t355.length co37] (0, 0) _ rfl (by refine Kv_ ?_; refine blk_put (cs := #[.int .i64 a0_0, .int .i64 a0_1, .int .u64 a0_2, .int .u64 t350, .int .u64 t351, .int .u64 t352, .int .u64 t353, .int .i64 t354, .slice none 0 0]) ?_ 8 _ rfl; refine Kv_ ?_; refine blk_put (cs := #[.int .i64 a0_0, .int .i64 a0_1, .int .u64 a0_2, .int .u64 t350, .int .u64 t351, .int .u64 t352, .int .u64 t353, .int .i64 0, .slice none 0 0]) ?_ 7 _ rfl; refine Kv_ ?_; refine blk_put (cs := #[.int .i64 a0_0, .int .i64 a0_1, .int .u64 a0_2, .int .u64 t350, .int .u64 t351, .int .u64 t352, .int .u64 0, .int .i64 0, .slice none 0 0]) ?_ 6 _ rfl; refine Kv_ ?_; refine blk_put (cs := #[.int .i64 a0_0, .int .i64 a0_1, .int .u64 a0_2, .int .u64 t350, .int .u64 t351, .int .u64 0, .int .u64 0, .int .i64 0, .slice none 0 0]) ?_ 5 _ rfl; refine Kv_ ?_; refine blk_put (cs := #[.int .i64 a0_0, .int .i64 a0_1, .int .u64 a0_2, .int .u64 t350, .int .u64 0, .int .u64 0, .int .u64 0, .int .i64 0, .slice none 0 0]) ?_ 4 _ rfl; refine Kv_ ?_; refine blk_put (cs := #[.int .i64 a0_0, .int .i64 a0_1, .int .u64 a0_2, .int .u64 0, .int .u64 0, .int .u64 0, .int .u64 0, .int .i64 0, .slice none 0 0]) ?_ 3 _ rfl; refine Kv_ ?_; refine blk_put (cs := #[.int .i64 a0_0, .int .i64 a0_1, .int .u64 0, .int .u64 0, .int .u64 0, .int .u64 0, .int .u64 0, .int .i64 0, .slice none 0 0]) ?_ 2 _ rfl; refine Kv_ ?_; refine blk_put (cs := #[.int .i64 a0_0, .int .i64 0, .int .u64 0, .int .u64 0, .int .u64 0, .int .u64 0, .int .u64 0, .int .i64 0, .slice none 0 0]) ?_ 1 _ rfl; refine Kv_ ?_; refine blk_put (cs := #[.int .i64 0, .int .i64 0, .int .u64 0, .int .u64 0, .int .u64 0, .int .u64 0, .int .u64 0, .int .i64 0, .slice none 0 0]) ?_ 0 _ rfl; exact Kq_ BK349) Try.underlying69 rfl (by kernel_rfl)) rfl ?_
  exact ⟨_, by first | rfl | (simp [errW_none, errW_some] <;> rfl) | (simp [*, errW_none, errW_some] <;> rfl), by (with_reducible repeat (first | apply Kd.R_alloc | apply Kd.R_drewN | apply Kd.R_drew)); exact Kd.R_mono (Kd.R_far (p := ⟨gb349, 8, none⟩) (Kd.R_far (p := ⟨gb349, 7, none⟩) (Kd.R_far (p := ⟨gb349, 6, none⟩) (Kd.R_far (p := ⟨gb349, 5, none⟩) (Kd.R_far (p := ⟨gb349, 4, none⟩) (Kd.R_far (p := ⟨gb349, 3, none⟩) (Kd.R_far (p := ⟨gb349, 2, none⟩) (Kd.R_far (p := ⟨gb349, 1, none⟩) (Kd.R_far (p := ⟨gb349, 0, none⟩) (Kd.R_types HO357.out BK349.out (by decide)) (fun _ hk => hk.2) (.int .i64 a0_0)) (fun _ hk => hk.2) (.int .i64 a0_1)) (fun _ hk => hk.2) (.int .u64 a0_2)) (fun _ hk => hk.2) (.int .u64 t350)) (fun _ hk => hk.2) (.int .u64 t351)) (fun _ hk => hk.2) (.int .u64 t352)) (fun _ hk => hk.2) (.int .u64 t353)) (fun _ hk => hk.2) (.int .i64 t354)) (fun _ hk => hk.2) (.slice Ao37 t355.length co37)) (fun _ hk => trivial), K2a_ HB GE348 GE349⟩
 subst c2
 have H1 : (if (wrap64 (1 + (wrap64 (Int.tmod (IntKind.u64.wrap (a0_0)) 2)))) = 1 then ((tenementlaw15_Deal_deal.f k a0_3 a0_4 a0_5 a0_6 a0_7 a0_8 l0_9 true).bind fun bt359 => ((stamp_Stamp_N.f bt359.1 bt359.2.1 bt359.2.2.1 bt359.2.2.2.1 bt359.2.2.2.2.1).bind fun t367 => (some (wrap64 (1 + (wrap64 (Int.tmod (IntKind.u64.wrap (a0_0)) 2))), wrap64 (1 + (wrap64 (Int.tmod (IntKind.u64.wrap (a0_1)) 4))), t367, bt359.1, bt359.2.1, bt359.2.2.1, bt359.2.2.2.1, bt359.2.2.2.2.1, bt359.2.2.2.2.2)))) else (some (wrap64 (1 + (wrap64 (Int.tmod (IntKind.u64.wrap (a0_0)) 2))), wrap64 (1 + (wrap64 (Int.tmod (IntKind.u64.wrap (a0_1)) 4))), Int.tmod a0_2 9, 0, 0, 0, 0, 0, ([] : List (S107))))) = some (r1, r2, r3, r4, r5, r6, r7, r8, r9) := by rw [if_pos rfl] at H; exact H
 clear H
 have H := H1
 clear H1
 by_cases c3 : (wrap64 (1 + (wrap64 (Int.tmod (IntKind.u64.wrap (a0_0)) 2)))) = 1
 rotate_left
 ·rw [if_neg c3] at H
  have c3b0 : ((wrap64 (1 + (wrap64 (Int.tmod (IntKind.u64.wrap (a0_0)) 2)))) == 1) = false := beq_eq_false_iff_ne.mpr c3
  have c3b1 : ((wrap64 (1 + (wrap64 (Int.tmod (IntKind.u64.wrap (a0_0)) 2)))) != 1) = true := bne_iff_ne.mpr c3
  simp only [Option.some.injEq, Prod.mk.injEq] at H
  obtain ⟨rfl, rfl, rfl, rfl, rfl, rfl, rfl, rfl, rfl⟩ := H
  go_enter Try.func26, Try.ntmps26
  go_wp2_with (first | ((with_reducible refine gate_dst (N := 1) rfl ?_); refine Ka_ 1 #[.int .i64 a0_0, .int .i64 a0_1, .int .u64 a0_2, .int .u64 a0_3, .int .u64 a0_4, .int .u64 a0_5, .int .u64 a0_6, .int .i64 a0_7, .bool a0_8, .slice A0_9 l0_9.length c0_9, .bool a0_10, .bool true] 65 ?_; intro gb348 hg w21 hbox hb; have BK348 := Aside0.mk (hbox); have GW348 := Kw_ HB hg; have GE348 := GW348; replace HB := Ks_ HB hb; clear hb hbox hg) | ((with_reducible refine gate_dst (N := 2) rfl ?_); refine Ka_ 2 #[.int .i64 0, .int .i64 0, .int .u64 0, .int .u64 0, .int .u64 0, .int .u64 0, .int .u64 0, .int .i64 0, .slice none 0 0] 69 ?_; intro gb349 hg w22 hbox hb; have BK349 := Aside0.mk (hbox); have GW349 := Kw_ HB hg; have GE349 := GW349; have NB348_349 := Kl_ BK348 hg; have NB349_348 := Kr_ BK348 hg; replace BK348 := Kb_ BK348 hb; replace HB := Ks_ HB hb; clear hb hbox hg; have hnb23 := NB348_349.out; have hnc23 := NB349_348.out; have hcz24_0 : w22.cell? ⟨gb348, 0, none⟩ = some (.int .i64 a0_0) := (blk_cell BK348.out 0).trans rfl; have hcz24_1 : w22.cell? ⟨gb348, 1, none⟩ = some (.int .i64 a0_1) := (blk_cell BK348.out 1).trans rfl; have hcz24_2 : w22.cell? ⟨gb348, 2, none⟩ = some (.int .u64 a0_2) := (blk_cell BK348.out 2).trans rfl; have hcz24_3 : w22.cell? ⟨gb348, 3, none⟩ = some (.int .u64 a0_3) := (blk_cell BK348.out 3).trans rfl; have hcz24_4 : w22.cell? ⟨gb348, 4, none⟩ = some (.int .u64 a0_4) := (blk_cell BK348.out 4).trans rfl; have hcz24_5 : w22.cell? ⟨gb348, 5, none⟩ = some (.int .u64 a0_5) := (blk_cell BK348.out 5).trans rfl; have hcz24_6 : w22.cell? ⟨gb348, 6, none⟩ = some (.int .u64 a0_6) := (blk_cell BK348.out 6).trans rfl; have hcz24_7 : w22.cell? ⟨gb348, 7, none⟩ = some (.int .i64 a0_7) := (blk_cell BK348.out 7).trans rfl; have hcz24_8 : w22.cell? ⟨gb348, 8, none⟩ = some (.bool a0_8) := (blk_cell BK348.out 8).trans rfl; have hcz24_9 : w22.cell? ⟨gb348, 9, none⟩ = some (.slice A0_9 l0_9.length c0_9) := (blk_cell BK348.out 9).trans rfl; have hcz24_10 : w22.cell? ⟨gb348, 10, none⟩ = some (.bool a0_10) := (blk_cell BK348.out 10).trans rfl; have hcz24_11 : w22.cell? ⟨gb348, 11, none⟩ = some (.bool true) := (blk_cell BK348.out 11).trans rfl; have hfz24_0 := blk_frozen BK348.out 0; have hfz24_1 := blk_frozen BK348.out 1; have hfz24_2 := blk_frozen BK348.out 2; have hfz24_3 := blk_frozen BK348.out 3; have hfz24_4 := blk_frozen BK348.out 4; have hfz24_5 := blk_frozen BK348.out 5; have hfz24_6 := blk_frozen BK348.out 6; have hfz24_7 := blk_frozen BK348.out 7; have hfz24_8 := blk_frozen BK348.out 8; have hfz24_9 := blk_frozen BK348.out 9; have hfz24_10 := blk_frozen BK348.out 10; have hfz24_11 := blk_frozen BK348.out 11) | ((with_reducible refine gate_dst (N := 3) rfl ?_); refine Ka_ 3 #[.int .i64 0, .int .i64 0, .int .u64 0, .int .u64 0, .int .u64 0, .int .u64 0, .int .u64 0, .int .i64 0, .slice none 0 0] 69 ?_; intro gb358 hg w25 hbox hb; have BK358 := Aside0.mk (hbox); have GW358 := Kw_ HB hg; have GE358 := GW358; have NB348_358 := Kl_ BK348 hg; have NB358_348 := Kr_ BK348 hg; have NB349_358 := Kl_ BK349 hg; have NB358_349 := Kr_ BK349 hg; replace BK348 := Kb_ BK348 hb; replace BK349 := Kb_ BK349 hb; replace HB := Ks_ HB hb; clear hb hbox hg; have hnb26 := NB358_348.out; have hnc26 := NB348_358.out; have hnb27 := NB358_349.out; have hnc27 := NB349_358.out; obtain ⟨hcz28_0, hcz28_1, hcz28_2, hcz28_3, hcz28_4, hcz28_5, hcz28_6, hcz28_7, hcz28_8, hfz28_0, hfz28_1, hfz28_2, hfz28_3, hfz28_4, hfz28_5, hfz28_6, hfz28_7, hfz28_8⟩ := Ke9_ BK358.out; obtain ⟨hcz29_0, hcz29_1, hcz29_2, hcz29_3, hcz29_4, hcz29_5, hcz29_6, hcz29_7, hcz29_8, hfz29_0, hfz29_1, hfz29_2, hfz29_3, hfz29_4, hfz29_5, hfz29_6, hfz29_7, hfz29_8⟩ := Ke9_ BK349.out))
  refine bodyPost_ret (results_cell_row rfl _ _ gb349 69 #[.int .i64 (wrap64 (1 + (wrap64 (Int.tmod (IntKind.u64.wrap (a0_0)) 2)))), .int .i64 (wrap64 (1 + (wrap64 (Int.tmod (IntKind.u64.wrap (a0_1)) 4)))), .int .u64 (Int.tmod a0_2 9), .int .u64 0, .int .u64 0, .int .u64 0, .int .u64 0, .int .i64 0, .slice none 0 0] (0, 0) _ rfl (by refine Kv_ ?_; refine blk_put (cs := #[.int .i64 (wrap64 (1 + (wrap64 (Int.tmod (IntKind.u64.wrap (a0_0)) 2)))), .int .i64 (wrap64 (1 + (wrap64 (Int.tmod (IntKind.u64.wrap (a0_1)) 4)))), .int .u64 (Int.tmod a0_2 9), .int .u64 0, .int .u64 0, .int .u64 0, .int .u64 0, .int .i64 0, .slice none 0 0]) ?_ 8 _ rfl; refine Kv_ ?_; refine blk_put (cs := #[.int .i64 (wrap64 (1 + (wrap64 (Int.tmod (IntKind.u64.wrap (a0_0)) 2)))), .int .i64 (wrap64 (1 + (wrap64 (Int.tmod (IntKind.u64.wrap (a0_1)) 4)))), .int .u64 (Int.tmod a0_2 9), .int .u64 0, .int .u64 0, .int .u64 0, .int .u64 0, .int .i64 0, .slice none 0 0]) ?_ 7 _ rfl; refine Kv_ ?_; refine blk_put (cs := #[.int .i64 (wrap64 (1 + (wrap64 (Int.tmod (IntKind.u64.wrap (a0_0)) 2)))), .int .i64 (wrap64 (1 + (wrap64 (Int.tmod (IntKind.u64.wrap (a0_1)) 4)))), .int .u64 (Int.tmod a0_2 9), .int .u64 0, .int .u64 0, .int .u64 0, .int .u64 0, .int .i64 0, .slice none 0 0]) ?_ 6 _ rfl; refine Kv_ ?_; refine blk_put (cs := #[.int .i64 (wrap64 (1 + (wrap64 (Int.tmod (IntKind.u64.wrap (a0_0)) 2)))), .int .i64 (wrap64 (1 + (wrap64 (Int.tmod (IntKind.u64.wrap (a0_1)) 4)))), .int .u64 (Int.tmod a0_2 9), .int .u64 0, .int .u64 0, .int .u64 0, .int .u64 0, .int .i64 0, .slice none 0 0]) ?_ 5 _ rfl; refine Kv_ ?_; refine blk_put (cs := #[.int .i64 (wrap64 (1 + (wrap64 (Int.tmod (IntKind.u64.wrap (a0_0)) 2)))), .int .i64 (wrap64 (1 + (wrap64 (Int.tmod (IntKind.u64.wrap (a0_1)) 4)))), .int .u64 (Int.tmod a0_2 9), .int .u64 0, .int .u64 0, .int .u64 0, .int .u64 0, .int .i64 0, .slice none 0 0]) ?_ 4 _ rfl; refine Kv_ ?_; refine blk_put (cs := #[.int .i64 (wrap64 (1 + (wrap64 (Int.tmod (IntKind.u64.wrap (a0_0)) 2)))), .int .i64 (wrap64 (1 + (wrap64 (Int.tmod (IntKind.u64.wrap (a0_1)) 4)))), .int .u64 (Int.tmod a0_2 9), .int .u64 0, .int .u64 0, .int .u64 0, .int .u64 0, .int .i64 0, .slice none 0 0]) ?_ 3 _ rfl; refine Kv_ ?_; refine blk_put (cs := #[.int .i64 (wrap64 (1 + (wrap64 (Int.tmod (IntKind.u64.wrap (a0_0)) 2)))), .int .i64 (wrap64 (1 + (wrap64 (Int.tmod (IntKind.u64.wrap (a0_1)) 4)))), .int .u64 0, .int .u64 0, .int .u64 0, .int .u64 0, .int .u64 0, .int .i64 0, .slice none 0 0]) ?_ 2 _ rfl; refine Kv_ ?_; refine blk_put (cs := #[.int .i64 (wrap64 (1 + (wrap64 (Int.tmod (IntKind.u64.wrap (a0_0)) 2)))), .int .i64 0, .int .u64 0, .int .u64 0, .int .u64 0, .int .u64 0, .int .u64 0, .int .i64 0, .slice none 0 0]) ?_ 1 _ rfl; refine Kv_ ?_; refine blk_put (cs := #[.int .i64 0, .int .i64 0, .int .u64 0, .int .u64 0, .int .u64 0, .int .u64 0, .int .u64 0, .int .i64 0, .slice none 0 0]) ?_ 0 _ rfl; exact K1b_ BK349 NB349_358) Try.underlying69 rfl (by kernel_rfl)) rfl ?_
  exact ⟨_, by first | rfl | (simp [errW_none, errW_some] <;> rfl) | (simp [*, errW_none, errW_some] <;> rfl), by first | exact Kd.R_nil _ _ _ _ _ | exact Kd.N_nil _ _ _ _ _ | exact Kd.V_nil _ _ _ _ _ | exact Kd.Q_nil _ _ _ _ _ | exact Kd.S_nil _ _ _ _ _, K3a_ HB GE348 GE349 GE358⟩
 rw [if_pos c3] at H
 have c3b0 : ((wrap64 (1 + (wrap64 (Int.tmod (IntKind.u64.wrap (a0_0)) 2)))) == 1) = true := beq_iff_eq.mpr c3
 have c3b1 : ((wrap64 (1 + (wrap64 (Int.tmod (IntKind.u64.wrap (a0_0)) 2)))) != 1) = false := bne_eq_false_iff_eq.mpr c3
 clear c3
 replace H := Option.bind_eq_some_iff.mp H
 obtain ⟨⟨t359, t360, t361, t362, t363, t364⟩, A40, H⟩ := H
 replace H : ((stamp_Stamp_N.f t359 t360 t361 t362 t363).bind fun t367 => (some (wrap64 (1 + (wrap64 (Int.tmod (IntKind.u64.wrap (a0_0)) 2))), wrap64 (1 + (wrap64 (Int.tmod (IntKind.u64.wrap (a0_1)) 4))), t367, t359, t360, t361, t362, t363, t364))) = some (r1, r2, r3, r4, r5, r6, r7, r8, r9) := H
 have A4 := Aside0.mk A40
 clear A40
 replace H := Option.bind_eq_some_iff.mp H
 obtain ⟨t367, A50, H⟩ := H
 replace H : (some (wrap64 (1 + (wrap64 (Int.tmod (IntKind.u64.wrap (a0_0)) 2))), wrap64 (1 + (wrap64 (Int.tmod (IntKind.u64.wrap (a0_1)) 4))), t367, t359, t360, t361, t362, t363, t364)) = some (r1, r2, r3, r4, r5, r6, r7, r8, r9) := H
 have A5 := Aside0.mk A50
 clear A50
 simp only [Option.some.injEq, Prod.mk.injEq] at H
 obtain ⟨rfl, rfl, rfl, rfl, rfl, rfl, rfl, rfl, rfl⟩ := H
 go_enter Try.func26, Try.ntmps26
 go_wp2_with (first | ((with_reducible refine gate_dst (N := 1) rfl ?_); refine Ka_ 1 #[.int .i64 a0_0, .int .i64 a0_1, .int .u64 a0_2, .int .u64 a0_3, .int .u64 a0_4, .int .u64 a0_5, .int .u64 a0_6, .int .i64 a0_7, .bool a0_8, .slice A0_9 l0_9.length c0_9, .bool a0_10, .bool true] 65 ?_; intro gb348 hg w6 hbox hb; have BK348 := Aside0.mk (hbox); have GW348 := Kw_ HB hg; have GE348 := GW348; replace HB := Ks_ HB hb; clear hb hbox hg) | ((with_reducible refine gate_dst (N := 2) rfl ?_); refine Ka_ 2 #[.int .i64 0, .int .i64 0, .int .u64 0, .int .u64 0, .int .u64 0, .int .u64 0, .int .u64 0, .int .i64 0, .slice none 0 0] 69 ?_; intro gb349 hg w7 hbox hb; have BK349 := Aside0.mk (hbox); have GW349 := Kw_ HB hg; have GE349 := GW349; have NB348_349 := Kl_ BK348 hg; have NB349_348 := Kr_ BK348 hg; replace BK348 := Kb_ BK348 hb; replace HB := Ks_ HB hb; clear hb hbox hg; have hnb8 := NB348_349.out; have hnc8 := NB349_348.out; have hcz9_0 : w7.cell? ⟨gb348, 0, none⟩ = some (.int .i64 a0_0) := (blk_cell BK348.out 0).trans rfl; have hcz9_1 : w7.cell? ⟨gb348, 1, none⟩ = some (.int .i64 a0_1) := (blk_cell BK348.out 1).trans rfl; have hcz9_2 : w7.cell? ⟨gb348, 2, none⟩ = some (.int .u64 a0_2) := (blk_cell BK348.out 2).trans rfl; have hcz9_3 : w7.cell? ⟨gb348, 3, none⟩ = some (.int .u64 a0_3) := (blk_cell BK348.out 3).trans rfl; have hcz9_4 : w7.cell? ⟨gb348, 4, none⟩ = some (.int .u64 a0_4) := (blk_cell BK348.out 4).trans rfl; have hcz9_5 : w7.cell? ⟨gb348, 5, none⟩ = some (.int .u64 a0_5) := (blk_cell BK348.out 5).trans rfl; have hcz9_6 : w7.cell? ⟨gb348, 6, none⟩ = some (.int .u64 a0_6) := (blk_cell BK348.out 6).trans rfl; have hcz9_7 : w7.cell? ⟨gb348, 7, none⟩ = some (.int .i64 a0_7) := (blk_cell BK348.out 7).trans rfl; have hcz9_8 : w7.cell? ⟨gb348, 8, none⟩ = some (.bool a0_8) := (blk_cell BK348.out 8).trans rfl; have hcz9_9 : w7.cell? ⟨gb348, 9, none⟩ = some (.slice A0_9 l0_9.length c0_9) := (blk_cell BK348.out 9).trans rfl; have hcz9_10 : w7.cell? ⟨gb348, 10, none⟩ = some (.bool a0_10) := (blk_cell BK348.out 10).trans rfl; have hcz9_11 : w7.cell? ⟨gb348, 11, none⟩ = some (.bool true) := (blk_cell BK348.out 11).trans rfl; have hfz9_0 := blk_frozen BK348.out 0; have hfz9_1 := blk_frozen BK348.out 1; have hfz9_2 := blk_frozen BK348.out 2; have hfz9_3 := blk_frozen BK348.out 3; have hfz9_4 := blk_frozen BK348.out 4; have hfz9_5 := blk_frozen BK348.out 5; have hfz9_6 := blk_frozen BK348.out 6; have hfz9_7 := blk_frozen BK348.out 7; have hfz9_8 := blk_frozen BK348.out 8; have hfz9_9 := blk_frozen BK348.out 9; have hfz9_10 := blk_frozen BK348.out 10; have hfz9_11 := blk_frozen BK348.out 11) | ((with_reducible refine gate_dst (N := 3) rfl ?_); refine Ka_ 3 #[.int .i64 0, .int .i64 0, .int .u64 0, .int .u64 0, .int .u64 0, .int .u64 0, .int .u64 0, .int .i64 0, .slice none 0 0] 69 ?_; intro gb358 hg w10 hbox hb; have BK358 := Aside0.mk (hbox); have GW358 := Kw_ HB hg; have GE358 := GW358; have NB348_358 := Kl_ BK348 hg; have NB358_348 := Kr_ BK348 hg; have NB349_358 := Kl_ BK349 hg; have NB358_349 := Kr_ BK349 hg; replace BK348 := Kb_ BK348 hb; replace BK349 := Kb_ BK349 hb; replace HB := Ks_ HB hb; clear hb hbox hg; have hnb11 := NB358_348.out; have hnc11 := NB348_358.out; have hnb12 := NB358_349.out; have hnc12 := NB349_358.out; obtain ⟨hcz13_0, hcz13_1, hcz13_2, hcz13_3, hcz13_4, hcz13_5, hcz13_6, hcz13_7, hcz13_8, hfz13_0, hfz13_1, hfz13_2, hfz13_3, hfz13_4, hfz13_5, hfz13_6, hfz13_7, hfz13_8⟩ := Ke9_ BK358.out; have hcz14_0 : w10.cell? ⟨gb348, 0, none⟩ = some (.int .i64 a0_0) := (blk_cell BK348.out 0).trans rfl; have hcz14_1 : w10.cell? ⟨gb348, 1, none⟩ = some (.int .i64 a0_1) := (blk_cell BK348.out 1).trans rfl; have hcz14_2 : w10.cell? ⟨gb348, 2, none⟩ = some (.int .u64 a0_2) := (blk_cell BK348.out 2).trans rfl; have hcz14_3 : w10.cell? ⟨gb348, 3, none⟩ = some (.int .u64 a0_3) := (blk_cell BK348.out 3).trans rfl; have hcz14_4 : w10.cell? ⟨gb348, 4, none⟩ = some (.int .u64 a0_4) := (blk_cell BK348.out 4).trans rfl; have hcz14_5 : w10.cell? ⟨gb348, 5, none⟩ = some (.int .u64 a0_5) := (blk_cell BK348.out 5).trans rfl; have hcz14_6 : w10.cell? ⟨gb348, 6, none⟩ = some (.int .u64 a0_6) := (blk_cell BK348.out 6).trans rfl; have hcz14_7 : w10.cell? ⟨gb348, 7, none⟩ = some (.int .i64 a0_7) := (blk_cell BK348.out 7).trans rfl; have hcz14_8 : w10.cell? ⟨gb348, 8, none⟩ = some (.bool a0_8) := (blk_cell BK348.out 8).trans rfl; have hcz14_9 : w10.cell? ⟨gb348, 9, none⟩ = some (.slice A0_9 l0_9.length c0_9) := (blk_cell BK348.out 9).trans rfl; have hcz14_10 : w10.cell? ⟨gb348, 10, none⟩ = some (.bool a0_10) := (blk_cell BK348.out 10).trans rfl; have hcz14_11 : w10.cell? ⟨gb348, 11, none⟩ = some (.bool true) := (blk_cell BK348.out 11).trans rfl; have hfz14_0 := blk_frozen BK348.out 0; have hfz14_1 := blk_frozen BK348.out 1; have hfz14_2 := blk_frozen BK348.out 2; have hfz14_3 := blk_frozen BK348.out 3; have hfz14_4 := blk_frozen BK348.out 4; have hfz14_5 := blk_frozen BK348.out 5; have hfz14_6 := blk_frozen BK348.out 6; have hfz14_7 := blk_frozen BK348.out 7; have hfz14_8 := blk_frozen BK348.out 8; have hfz14_9 := blk_frozen BK348.out 9; have hfz14_10 := blk_frozen BK348.out 10; have hfz14_11 := blk_frozen BK348.out 11) | ((with_reducible refine gate_callee (f := 19) rfl ?_); refine Kg_ (some 40) rfl rfl Try.func19 (by kernel_rfl) rfl #[.agg #[.int .u64 a0_3, .int .u64 a0_4, .int .u64 a0_5, .int .u64 a0_6, .int .i64 a0_7, .bool a0_8, .slice A0_9 l0_9.length c0_9, .bool true]] rfl ?_; (with_reducible refine (tenementlaw15_Deal_deal.calls k a0_3 a0_4 a0_5 a0_6 a0_7 a0_8 _ _ l0_9 true t359 t360 t361 t362 t363 t364 _ ?side1 ?side2 A4.out).mono ?_); (case side1 => exact Kd.C_below HR0_9.out (K3a_ HB GE348 GE349 GE358)); (case side2 => exact HC0_9.out); rintro e w15 ⟨v365, rfl, ho0, hb⟩; refine ⟨_, rfl, ?_⟩; have HO366 := Aside0.mk (Kd.R_lower ho0 (below_size (K3a_ HB GE348 GE349 GE358))); replace BK348 := Aside0.mk (blk_below (g := gb348) (o := .cells #[.int .i64 a0_0, .int .i64 a0_1, .int .u64 a0_2, .int .u64 a0_3, .int .u64 a0_4, .int .u64 a0_5, .int .u64 a0_6, .int .i64 a0_7, .bool a0_8, .slice A0_9 l0_9.length c0_9, .bool true, .bool true] 65 (0, 0)) (by refine Kv_ ?_; refine blk_put (cs := #[.int .i64 a0_0, .int .i64 a0_1, .int .u64 a0_2, .int .u64 a0_3, .int .u64 a0_4, .int .u64 a0_5, .int .u64 a0_6, .int .i64 a0_7, .bool a0_8, .slice A0_9 l0_9.length c0_9, .bool a0_10, .bool true]) ?_ 10 _ rfl; exact K1b_ BK348 NB348_358) hb); replace BK349 := Aside0.mk (blk_below (g := gb349) (o := .cells #[.int .i64 0, .int .i64 0, .int .u64 0, .int .u64 0, .int .u64 0, .int .u64 0, .int .u64 0, .int .i64 0, .slice none 0 0] 69 (0, 0)) (K2b_ BK349 NB349_348 NB349_358) hb); replace BK358 := Aside0.mk (blk_below (g := gb358) (o := .cells #[.int .i64 (wrap64 (1 + (wrap64 (Int.tmod (IntKind.u64.wrap (a0_0)) 2)))), .int .i64 (wrap64 (1 + (wrap64 (Int.tmod (IntKind.u64.wrap (a0_1)) 4)))), .int .u64 (Int.tmod a0_2 9), .int .u64 0, .int .u64 0, .int .u64 0, .int .u64 0, .int .i64 0, .slice none 0 0] 69 (0, 0)) (by (repeat (first | (with_reducible first | refine blk_drewN ?_ _ | refine blk_drew ?_ | refine blk_alloc ?_ _) | refine blk_far ?_ NB358_348.out _)); refine blk_put (cs := #[.int .i64 (wrap64 (1 + (wrap64 (Int.tmod (IntKind.u64.wrap (a0_0)) 2)))), .int .i64 (wrap64 (1 + (wrap64 (Int.tmod (IntKind.u64.wrap (a0_1)) 4)))), .int .u64 (Int.tmod a0_2 9), .int .u64 0, .int .u64 0, .int .u64 0, .int .u64 0, .int .i64 0, .slice none 0 0]) ?_ 8 _ rfl; refine Kv_ ?_; refine blk_put (cs := #[.int .i64 (wrap64 (1 + (wrap64 (Int.tmod (IntKind.u64.wrap (a0_0)) 2)))), .int .i64 (wrap64 (1 + (wrap64 (Int.tmod (IntKind.u64.wrap (a0_1)) 4)))), .int .u64 (Int.tmod a0_2 9), .int .u64 0, .int .u64 0, .int .u64 0, .int .u64 0, .int .i64 0, .slice none 0 0]) ?_ 7 _ rfl; refine Kv_ ?_; refine blk_put (cs := #[.int .i64 (wrap64 (1 + (wrap64 (Int.tmod (IntKind.u64.wrap (a0_0)) 2)))), .int .i64 (wrap64 (1 + (wrap64 (Int.tmod (IntKind.u64.wrap (a0_1)) 4)))), .int .u64 (Int.tmod a0_2 9), .int .u64 0, .int .u64 0, .int .u64 0, .int .u64 0, .int .i64 0, .slice none 0 0]) ?_ 6 _ rfl; refine Kv_ ?_; refine blk_put (cs := #[.int .i64 (wrap64 (1 + (wrap64 (Int.tmod (IntKind.u64.wrap (a0_0)) 2)))), .int .i64 (wrap64 (1 + (wrap64 (Int.tmod (IntKind.u64.wrap (a0_1)) 4)))), .int .u64 (Int.tmod a0_2 9), .int .u64 0, .int .u64 0, .int .u64 0, .int .u64 0, .int .i64 0, .slice none 0 0]) ?_ 5 _ rfl; refine Kv_ ?_; refine blk_put (cs := #[.int .i64 (wrap64 (1 + (wrap64 (Int.tmod (IntKind.u64.wrap (a0_0)) 2)))), .int .i64 (wrap64 (1 + (wrap64 (Int.tmod (IntKind.u64.wrap (a0_1)) 4)))), .int .u64 (Int.tmod a0_2 9), .int .u64 0, .int .u64 0, .int .u64 0, .int .u64 0, .int .i64 0, .slice none 0 0]) ?_ 4 _ rfl; refine Kv_ ?_; refine blk_put (cs := #[.int .i64 (wrap64 (1 + (wrap64 (Int.tmod (IntKind.u64.wrap (a0_0)) 2)))), .int .i64 (wrap64 (1 + (wrap64 (Int.tmod (IntKind.u64.wrap (a0_1)) 4)))), .int .u64 (Int.tmod a0_2 9), .int .u64 0, .int .u64 0, .int .u64 0, .int .u64 0, .int .i64 0, .slice none 0 0]) ?_ 3 _ rfl; refine Kv_ ?_; refine blk_put (cs := #[.int .i64 (wrap64 (1 + (wrap64 (Int.tmod (IntKind.u64.wrap (a0_0)) 2)))), .int .i64 (wrap64 (1 + (wrap64 (Int.tmod (IntKind.u64.wrap (a0_1)) 4)))), .int .u64 0, .int .u64 0, .int .u64 0, .int .u64 0, .int .u64 0, .int .i64 0, .slice none 0 0]) ?_ 2 _ rfl; refine Kv_ ?_; refine blk_put (cs := #[.int .i64 (wrap64 (1 + (wrap64 (Int.tmod (IntKind.u64.wrap (a0_0)) 2)))), .int .i64 0, .int .u64 0, .int .u64 0, .int .u64 0, .int .u64 0, .int .u64 0, .int .i64 0, .slice none 0 0]) ?_ 1 _ rfl; refine Kv_ ?_; refine blk_put (cs := #[.int .i64 0, .int .i64 0, .int .u64 0, .int .u64 0, .int .u64 0, .int .u64 0, .int .u64 0, .int .i64 0, .slice none 0 0]) ?_ 0 _ rfl; exact Kq_ BK358) hb); replace HB := Aside0.mk (below_step (K3a_ HB GE348 GE349 GE358) hb); (try clear hb); (try clear hb2); (try clear hk); (try clear hi); (try clear ho0); obtain ⟨hcz16_0, hcz16_1, hcz16_2, hcz16_3, hcz16_4, hcz16_5, hcz16_6, hcz16_7, hcz16_8, hfz16_0, hfz16_1, hfz16_2, hfz16_3, hfz16_4, hfz16_5, hfz16_6, hfz16_7, hfz16_8⟩ := Ke9_ BK358.out; obtain ⟨Ao17, co17, eo17⟩ := Kd.R_slice HO366.out; subst eo17) | ((with_reducible refine gate_callee (f := 47) rfl ?_); refine Kg_ (some 45) rfl rfl Try.func47 (by kernel_rfl) rfl #[.agg #[.int .u64 t359, .int .u64 t360, .int .u64 t361, .int .u64 t362, .int .i64 t363]] rfl ?_; (with_reducible refine (stamp_Stamp_N.calls t359 t360 t361 t362 t363 t367 _ A5.out).mono ?_); rintro e w18 ⟨rfl, hb⟩; refine ⟨_, rfl, ?_⟩; replace HO366 := Aside0.mk (Kd.R_below (by (with_reducible repeat (first | apply Kd.R_alloc | apply Kd.R_drewN | apply Kd.R_drew)); exact (Kd.R_mono (Kd.R_far (p := ⟨gb358, 8, none⟩) (Kd.R_far (p := ⟨gb358, 7, none⟩) (Kd.R_far (p := ⟨gb358, 6, none⟩) (Kd.R_far (p := ⟨gb358, 5, none⟩) (Kd.R_far (p := ⟨gb358, 4, none⟩) (Kd.R_far (p := ⟨gb358, 3, none⟩) (Kd.R_types HO366.out BK358.out (by decide)) (fun _ hk => hk.2) (.int .u64 t359)) (fun _ hk => hk.2) (.int .u64 t360)) (fun _ hk => hk.2) (.int .u64 t361)) (fun _ hk => hk.2) (.int .u64 t362)) (fun _ hk => hk.2) (.int .i64 t363)) (fun _ hk => hk.2) (.slice Ao17 t364.length co17)) (fun _ h_ => h_.1))) hb); replace BK348 := Kf_ BK348 NB348_358 hb; replace BK349 := Kf_ BK349 NB349_358 hb; replace BK358 := Aside0.mk (blk_below (g := gb358) (o := .cells #[.int .i64 (wrap64 (1 + (wrap64 (Int.tmod (IntKind.u64.wrap (a0_0)) 2)))), .int .i64 (wrap64 (1 + (wrap64 (Int.tmod (IntKind.u64.wrap (a0_1)) 4)))), .int .u64 (Int.tmod a0_2 9), .int .u64 t359, .int .u64 t360, .int .u64 t361, .int .u64 t362, .int .i64 t363, .slice Ao17 t364.length co17] 69 (0, 0)) (by refine Kv_ ?_; refine blk_put (cs := #[.int .i64 (wrap64 (1 + (wrap64 (Int.tmod (IntKind.u64.wrap (a0_0)) 2)))), .int .i64 (wrap64 (1 + (wrap64 (Int.tmod (IntKind.u64.wrap (a0_1)) 4)))), .int .u64 (Int.tmod a0_2 9), .int .u64 t359, .int .u64 t360, .int .u64 t361, .int .u64 t362, .int .i64 t363, .slice none 0 0]) ?_ 8 _ rfl; refine Kv_ ?_; refine blk_put (cs := #[.int .i64 (wrap64 (1 + (wrap64 (Int.tmod (IntKind.u64.wrap (a0_0)) 2)))), .int .i64 (wrap64 (1 + (wrap64 (Int.tmod (IntKind.u64.wrap (a0_1)) 4)))), .int .u64 (Int.tmod a0_2 9), .int .u64 t359, .int .u64 t360, .int .u64 t361, .int .u64 t362, .int .i64 0, .slice none 0 0]) ?_ 7 _ rfl; refine Kv_ ?_; refine blk_put (cs := #[.int .i64 (wrap64 (1 + (wrap64 (Int.tmod (IntKind.u64.wrap (a0_0)) 2)))), .int .i64 (wrap64 (1 + (wrap64 (Int.tmod (IntKind.u64.wrap (a0_1)) 4)))), .int .u64 (Int.tmod a0_2 9), .int .u64 t359, .int .u64 t360, .int .u64 t361, .int .u64 0, .int .i64 0, .slice none 0 0]) ?_ 6 _ rfl; refine Kv_ ?_; refine blk_put (cs := #[.int .i64 (wrap64 (1 + (wrap64 (Int.tmod (IntKind.u64.wrap (a0_0)) 2)))), .int .i64 (wrap64 (1 + (wrap64 (Int.tmod (IntKind.u64.wrap (a0_1)) 4)))), .int .u64 (Int.tmod a0_2 9), .int .u64 t359, .int .u64 t360, .int .u64 0, .int .u64 0, .int .i64 0, .slice none 0 0]) ?_ 5 _ rfl; refine Kv_ ?_; refine blk_put (cs := #[.int .i64 (wrap64 (1 + (wrap64 (Int.tmod (IntKind.u64.wrap (a0_0)) 2)))), .int .i64 (wrap64 (1 + (wrap64 (Int.tmod (IntKind.u64.wrap (a0_1)) 4)))), .int .u64 (Int.tmod a0_2 9), .int .u64 t359, .int .u64 0, .int .u64 0, .int .u64 0, .int .i64 0, .slice none 0 0]) ?_ 4 _ rfl; refine Kv_ ?_; refine blk_put (cs := #[.int .i64 (wrap64 (1 + (wrap64 (Int.tmod (IntKind.u64.wrap (a0_0)) 2)))), .int .i64 (wrap64 (1 + (wrap64 (Int.tmod (IntKind.u64.wrap (a0_1)) 4)))), .int .u64 (Int.tmod a0_2 9), .int .u64 0, .int .u64 0, .int .u64 0, .int .u64 0, .int .i64 0, .slice none 0 0]) ?_ 3 _ rfl; exact Kq_ BK358) hb); replace HB := Kt_ HB GE358 hb; (try clear hb); (try clear hb2); (try clear hk); (try clear hi); obtain ⟨hcz19_0, hcz19_1, hcz19_2, hcz19_3, hcz19_4, hcz19_5, hcz19_6, hcz19_7, hcz19_8, hfz19_0, hfz19_1, hfz19_2, hfz19_3, hfz19_4, hfz19_5, hfz19_6, hfz19_7, hfz19_8⟩ := Ke9_ BK358.out; obtain ⟨hcz20_0, hcz20_1, hcz20_2, hcz20_3, hcz20_4, hcz20_5, hcz20_6, hcz20_7, hcz20_8, hfz20_0, hfz20_1, hfz20_2, hfz20_3, hfz20_4, hfz20_5, hfz20_6, hfz20_7, hfz20_8⟩ := Ke9_ BK349.out))
 refine bodyPost_ret (results_cell_row rfl _ _ gb349 69 #[.int .i64 (wrap64 (1 + (wrap64 (Int.tmod (IntKind.u64.wrap (a0_0)) 2)))), .int .i64 (wrap64 (1 + (wrap64 (Int.tmod (IntKind.u64.wrap (a0_1)) 4)))), .int .u64 t367, .int .u64 t359, .int .u64 t360, .int .u64 t361, .int .u64 t362, .int .i64 t363, .slice Ao17 t364.length co17] (0, 0) _ rfl (by refine Kv_ ?_; refine blk_put (cs := #[.int .i64 (wrap64 (1 + (wrap64 (Int.tmod (IntKind.u64.wrap (a0_0)) 2)))), .int .i64 (wrap64 (1 + (wrap64 (Int.tmod (IntKind.u64.wrap (a0_1)) 4)))), .int .u64 t367, .int .u64 t359, .int .u64 t360, .int .u64 t361, .int .u64 t362, .int .i64 t363, .slice none 0 0]) ?_ 8 _ rfl; refine Kv_ ?_; refine blk_put (cs := #[.int .i64 (wrap64 (1 + (wrap64 (Int.tmod (IntKind.u64.wrap (a0_0)) 2)))), .int .i64 (wrap64 (1 + (wrap64 (Int.tmod (IntKind.u64.wrap (a0_1)) 4)))), .int .u64 t367, .int .u64 t359, .int .u64 t360, .int .u64 t361, .int .u64 t362, .int .i64 0, .slice none 0 0]) ?_ 7 _ rfl; refine Kv_ ?_; refine blk_put (cs := #[.int .i64 (wrap64 (1 + (wrap64 (Int.tmod (IntKind.u64.wrap (a0_0)) 2)))), .int .i64 (wrap64 (1 + (wrap64 (Int.tmod (IntKind.u64.wrap (a0_1)) 4)))), .int .u64 t367, .int .u64 t359, .int .u64 t360, .int .u64 t361, .int .u64 0, .int .i64 0, .slice none 0 0]) ?_ 6 _ rfl; refine Kv_ ?_; refine blk_put (cs := #[.int .i64 (wrap64 (1 + (wrap64 (Int.tmod (IntKind.u64.wrap (a0_0)) 2)))), .int .i64 (wrap64 (1 + (wrap64 (Int.tmod (IntKind.u64.wrap (a0_1)) 4)))), .int .u64 t367, .int .u64 t359, .int .u64 t360, .int .u64 0, .int .u64 0, .int .i64 0, .slice none 0 0]) ?_ 5 _ rfl; refine Kv_ ?_; refine blk_put (cs := #[.int .i64 (wrap64 (1 + (wrap64 (Int.tmod (IntKind.u64.wrap (a0_0)) 2)))), .int .i64 (wrap64 (1 + (wrap64 (Int.tmod (IntKind.u64.wrap (a0_1)) 4)))), .int .u64 t367, .int .u64 t359, .int .u64 0, .int .u64 0, .int .u64 0, .int .i64 0, .slice none 0 0]) ?_ 4 _ rfl; refine Kv_ ?_; refine blk_put (cs := #[.int .i64 (wrap64 (1 + (wrap64 (Int.tmod (IntKind.u64.wrap (a0_0)) 2)))), .int .i64 (wrap64 (1 + (wrap64 (Int.tmod (IntKind.u64.wrap (a0_1)) 4)))), .int .u64 t367, .int .u64 0, .int .u64 0, .int .u64 0, .int .u64 0, .int .i64 0, .slice none 0 0]) ?_ 3 _ rfl; refine Kv_ ?_; refine blk_put (cs := #[.int .i64 (wrap64 (1 + (wrap64 (Int.tmod (IntKind.u64.wrap (a0_0)) 2)))), .int .i64 (wrap64 (1 + (wrap64 (Int.tmod (IntKind.u64.wrap (a0_1)) 4)))), .int .u64 0, .int .u64 0, .int .u64 0, .int .u64 0, .int .u64 0, .int .i64 0, .slice none 0 0]) ?_ 2 _ rfl; refine Kv_ ?_; refine blk_put (cs := #[.int .i64 (wrap64 (1 + (wrap64 (Int.tmod (IntKind.u64.wrap (a0_0)) 2)))), .int .i64 0, .int .u64 0, .int .u64 0, .int .u64 0, .int .u64 0, .int .u64 0, .int .i64 0, .slice none 0 0]) ?_ 1 _ rfl; refine Kv_ ?_; refine blk_put (cs := #[.int .i64 0, .int .i64 0, .int .u64 0, .int .u64 0, .int .u64 0, .int .u64 0, .int .u64 0, .int .i64 0, .slice none 0 0]) ?_ 0 _ rfl; exact K1b_ BK349 NB349_358) Try.underlying69 rfl (by kernel_rfl)) rfl ?_
 exact ⟨_, by first | rfl | (simp [errW_none, errW_some] <;> rfl) | (simp [*, errW_none, errW_some] <;> rfl), by (with_reducible repeat (first | apply Kd.R_alloc | apply Kd.R_drewN | apply Kd.R_drew)); exact Kd.R_mono (Kd.R_far (p := ⟨gb349, 8, none⟩) (Kd.R_far (p := ⟨gb349, 7, none⟩) (Kd.R_far (p := ⟨gb349, 6, none⟩) (Kd.R_far (p := ⟨gb349, 5, none⟩) (Kd.R_far (p := ⟨gb349, 4, none⟩) (Kd.R_far (p := ⟨gb349, 3, none⟩) (Kd.R_far (p := ⟨gb349, 2, none⟩) (Kd.R_far (p := ⟨gb349, 1, none⟩) (Kd.R_far (p := ⟨gb349, 0, none⟩) (Kd.R_far (p := ⟨gb358, 2, none⟩) (Kd.R_types (Kd.R_types HO366.out BK358.out (by decide)) BK349.out (by decide)) (fun _ hk => hk.1.2) (.int .u64 t367)) (fun _ hk => hk.2) (.int .i64 (wrap64 (1 + (wrap64 (Int.tmod (IntKind.u64.wrap (a0_0)) 2)))))) (fun _ hk => hk.2) (.int .i64 (wrap64 (1 + (wrap64 (Int.tmod (IntKind.u64.wrap (a0_1)) 4)))))) (fun _ hk => hk.2) (.int .u64 t367)) (fun _ hk => hk.2) (.int .u64 t359)) (fun _ hk => hk.2) (.int .u64 t360)) (fun _ hk => hk.2) (.int .u64 t361)) (fun _ hk => hk.2) (.int .u64 t362)) (fun _ hk => hk.2) (.int .i64 t363)) (fun _ hk => hk.2) (.slice Ao17 t364.length co17)) (fun _ hk => trivial), K3a_ HB GE348 GE349 GE358⟩
def tenementlaw15_StreamBack.turn (l : List Int) (p : Nat) (x : Int) : List Int := l.set p (Go.bits .xor .u8 (l[p]?.getD 0) x)
def tenementlaw15_StreamBack.ok (a0_0 a0_1 a0_2 a0_3 a0_4 a0_5 a0_6 a0_7 : Int) (a0_8 : Bool) (l0_9 : List S159) (a0_10 a0_11 : Bool) (a1 a2 : Int) (k : Nat) (m1 m2 m3 m4 m5 m6 m7 m8 : Int) (xs : List S107) (s : ByteArray) (p : Nat) : Prop :=
 tenementlaw15_Letter_letter.f k a0_0 a0_1 a0_2 a0_3 a0_4 a0_5 a0_6 a0_7 a0_8 l0_9 a0_10 true = some (m1, m2, m3, m4, m5, m6, m7, m8, xs) ∧ stream_Put.f k m1 m2 m3 m4 m5 m6 m7 m8 xs = some (s, true) ∧ 1 ≤ s.size ∧ s.size ≤ 1000000 ∧ 0 ≤ a1 ∧ a1 ≤ 65535 ∧ 0 ≤ a2 ∧ a2 ≤ 255 ∧ a1 % (s.size : Int) = (p : Int) ∧
 stream_Get.f k s = some (m1, m2, m3, m4, m5, m6, m7, m8, xs, 0) ∧ stream_Get.f k (strOfNums (tenementlaw15_StreamBack.turn (bytesOf s) p (2 ^ (a2 % 8).toNat % 256))) = some (0, 0, 0, 0, 0, 0, 0, 0, [], 2) ∧ stream_Get.f k (s.extract 0 p) = some (0, 0, 0, 0, 0, 0, 0, 0, [], 2) ∧ stream_Get.f k (s ++ ⟨#[120]⟩) = some (0, 0, 0, 0, 0, 0, 0, 0, [], 2) ∧
 item_Same.f k m4 m5 m6 m7 m8 xs m4 m5 m6 m7 m8 xs = some true ∧ stream_Right.f k m1 m2 m3 m4 m5 m6 m7 m8 xs = some true
open Classical in
noncomputable def tenementlaw15_StreamBack.f (a0_0 a0_1 a0_2 a0_3 a0_4 a0_5 a0_6 a0_7 : Int) (a0_8 : Bool) (l0_9 : List S159) (a0_10 a0_11 : Bool) (a1 a2 : Int) : Option Bool := if ∃ (k : Nat) (m1 m2 m3 m4 m5 m6 m7 m8 : Int) (xs : List S107) (s : ByteArray) (p : Nat), tenementlaw15_StreamBack.ok a0_0 a0_1 a0_2 a0_3 a0_4 a0_5 a0_6 a0_7 a0_8 l0_9 a0_10 a0_11 a1 a2 k m1 m2 m3 m4 m5 m6 m7 m8 xs s p then some true else none
def tenementlaw15_StreamBack.At (W : World) (B : Nat) (l : List Int) : Prop := ∀ j, j < l.length → W.cell? ⟨B, j, none⟩ = some (.int .u8 (l.getD j 0)) ∧ W.frozen? ⟨B, j, none⟩ = false
theorem tenementlaw15_StreamBack.At.set {W : World} {B : Nat} {l : List Int} (h : tenementlaw15_StreamBack.At W B l) (p : Nat) (hp : p < l.length) (v : Int) : tenementlaw15_StreamBack.At (W.setCell ⟨B, p, none⟩ (.int .u8 v)) B (l.set p v) := by
 intro j hj
 rw [List.length_set] at hj
 obtain ⟨h1, h2⟩ := h j hj
 obtain ⟨g1, g2⟩ := h p hp
 by_cases e : j = p
 ·subst e
  refine ⟨?_, ?_⟩
  ·rw [World.cell?_setCell_same _ _ _ g1]; simp [List.getD_eq_getElem?_getD, hj]
  ·simp [go_sem, h2]
 ·refine ⟨?_, ?_⟩
  ·rw [World.cell?_setCell_other _ _ _ _ (by intro h; injection h with _ h; exact e h.symm), h1]
   simp [List.getD_eq_getElem?_getD, Ne.symm e]
  ·simp [go_sem, h2]
theorem tenementlaw15_StreamBack.At.conv {W : World} {B : Nat} {l : List Int} (h : tenementlaw15_StreamBack.At W B l) (n c : Nat) (hn : l.length = n) :
  (convert 91 9 (.slice (some ⟨B, 0, none⟩) n c)).run Try.prog W = .ok (.string (strOfNums l)) W :=
 run_convert_bytes_arg W 91 5 Try.underlying91 Try.underlying5 B 0 n c l hn (fun i hi => by rw [Nat.zero_add]; exact (h i (by omega)).1) 9 Try.underlying9
theorem tenementlaw15_StreamBack.made (w : World) (s : ByteArray) (hs : s.size ≤ 9223372036854775807) : ∃ (W : World) (c : Nat), (convert 9 91 (.string s)).run Try.prog w = .ok (.slice (some ⟨w.heap.size, 0, none⟩) s.size c) W ∧
  tenementlaw15_StreamBack.At W w.heap.size (bytesOf s) ∧ Below w.heap.size w W := by
 have hat : tenementlaw15_StreamBack.At (Lib.bytesWorld w 5 s) w.heap.size (bytesOf s) := by
  intro j hj
  rw [bytesOf_length] at hj
  refine ⟨?_, ?_⟩
  ·obtain ⟨_, _, hr⟩ := bytes_reads w 5 s hs
   obtain ⟨ad, had, hr⟩ := hr (by omega)
   have hr := hr j hj
   simp at had
   subst had
   rw [add_plain] at hr
   exact hr
  ·have hsz : (Lib.bytesCells w 5 s).size = s.size + (grownCap w s.size 0 5 - s.size) := by
    unfold Lib.bytesCells; simp
   simp only [World.frozen?, Lib.bytesWorld_at_new]
   simp; omega
 exact ⟨_, _, Lib.run_convert_string_bytes (P := Try.prog) w 9 91 5 s Try.underlying9 Try.underlying91 Try.underlying5, hat, bytes_below (Below.refl _ _) (Nat.le_refl _) _ _⟩
theorem tenementlaw15_StreamBack.conv_ {P : Program} {ops : Array Oper} {Q : Exit → Act → World → Prop} {rest : List Oper} {o : Oper} {a : Act} {W : World} (s : ByteArray) (hs : s.size ≤ 9223372036854775807) (hP : P = Try.prog) (hgd : o.guard = none) (hr : ∀ v W1, (convert 9 91 (.string s)).run P W = .ok v W1 → (execOp a.eval o).run P W = .ok (.value v) W1)
  (h : ∀ w6, w6 = W → ∀ c w1, tenementlaw15_StreamBack.At w1 w6.heap.size (bytesOf s) → Below w6.heap.size w6 w1 → wpList P ops Q rest (a.put o.dst (.slice (some ⟨w6.heap.size, 0, none⟩) s.size c)) w1) : wpList P ops Q (o :: rest) a W := by
 subst hP
 obtain ⟨w1, c, e, hat, hb⟩ := tenementlaw15_StreamBack.made W s hs
 exact Kd.event_run hgd (hr _ _ e) (h W rfl c w1 hat hb)
set_option maxHeartbeats 16000000 in
set_option maxRecDepth 100000 in
theorem tenementlaw15_StreamBack.calls (a0_0 : Int) (a0_1 : Int) (a0_2 : Int) (a0_3 : Int) (a0_4 : Int) (a0_5 : Int) (a0_6 : Int) (a0_7 : Int) (a0_8 : Bool) (A0_9 : Option Addr) (c0_9 : Nat) (l0_9 : List S159) (a0_10 : Bool) (a0_11 : Bool) (a1 : Int) (a2 : Int) (r : Bool) (w : World) (hr0_9 : Kd.C k159 w A0_9 l0_9.length l0_9) (hc0_9 : l0_9.length ≤ c0_9) (h : tenementlaw15_StreamBack.f a0_0 a0_1 a0_2 a0_3 a0_4 a0_5 a0_6 a0_7 a0_8 l0_9 a0_10 a0_11 a1 a2 = some r) :
  Calls Try.prog 8 #[.agg #[.int .i64 a0_0, .int .i64 a0_1, .int .u64 a0_2, .int .u64 a0_3, .int .u64 a0_4, .int .u64 a0_5, .int .u64 a0_6, .int .i64 a0_7, .bool a0_8, .slice A0_9 l0_9.length c0_9, .bool a0_10, .bool a0_11], .int .u16 a1, .int .u8 a2] w fun e w' => e = .returned (.bool r) ∧ Below w.heap.size w w' := by
 unfold tenementlaw15_StreamBack.f at h
 by_cases hw : ∃ (k : Nat) (m1 m2 m3 m4 m5 m6 m7 m8 : Int) (xs : List S107) (s : ByteArray) (p : Nat), tenementlaw15_StreamBack.ok a0_0 a0_1 a0_2 a0_3 a0_4 a0_5 a0_6 a0_7 a0_8 l0_9 a0_10 a0_11 a1 a2 k m1 m2 m3 m4 m5 m6 m7 m8 xs s p
 rotate_left
 ·rw [if_neg hw] at h; cases h
 rw [if_pos hw] at h
 obtain rfl := Option.some.inj h
 clear h
 obtain ⟨k, m1, m2, m3, m4, m5, m6, m7, m8, xs, s, p, hL, hP, hs1, hs2, b0, b1, b2, b3, hp, hG, hT, hC, hX, hS, hRi⟩ := hw
 have FL := Aside0.mk hL
 have FP := Aside0.mk hP
 have FG := Aside0.mk hG
 have hlen : (tenementlaw15_StreamBack.turn (bytesOf s) p (2 ^ (a2 % 8).toNat % 256)).length = s.size := by unfold tenementlaw15_StreamBack.turn; rw [List.length_set, bytesOf_length]
 obtain ⟨tn, htn⟩ : ∃ tn, tn = strOfNums (tenementlaw15_StreamBack.turn (bytesOf s) p (2 ^ (a2 % 8).toNat % 256)) := ⟨_, rfl⟩
 rw [← htn] at hT
 have HLEN := Aside0.mk hlen
 have HTN := Aside0.mk htn
 have FT := Aside0.mk hT
 have FC := Aside0.mk hC
 have FX := Aside0.mk hX
 have FS := Aside0.mk hS
 have FR := Aside0.mk hRi
 have HR := Aside0.mk hr0_9
 have hps : p < s.size := by
  have := Int.emod_lt_of_pos a1 (show 0 < (s.size : Int) by omega)
  omega
 have HPS := Aside0.mk hps
 have HS2 := Aside0.mk hs2
 have HP := Aside0.mk hp
 have hne : (s.toList == ([] : List UInt8)) = false := by
  refine beq_eq_false_iff_ne.mpr (fun e => ?_)
  have h0 : s = ByteArray.empty := by
   cases s with
   | mk d => 
    have : d.toList = [] := by
     have := e
     rw [ByteArray.toList_eq] at this
     exact this
    rw [Array.toList_eq_nil_iff] at this
    rw [this]; rfl
  rw [h0] at hs1
  exact absurd hs1 (by decide)
 clear hL hP hG hlen htn hT hC hX hS hRi hr0_9 hs1
 have HB := Aside0.mk (Below.refl w.heap.size w)
 go_enter Try.func8, Try.ntmps8
 go_wp2_with (first
  | ((with_reducible refine gate_dst (N := 3) rfl ?_); refine Ka_ 3 #[.int .i64 a0_0, .int .i64 a0_1, .int .u64 a0_2, .int .u64 a0_3, .int .u64 a0_4, .int .u64 a0_5, .int .u64 a0_6, .int .i64 a0_7, .bool a0_8, .slice A0_9 l0_9.length c0_9, .bool a0_10, .bool a0_11] 65 ?_; intro g0 hg w1 hbox hb; have GE0 := Kw_ HB hg; have BK0 := Aside0.mk hbox; have HR1 := Aside0.mk (Kd.C_below HR.out hb); have HB1 := Ks_ HB hb; clear hb hbox hg)
  | ((with_reducible refine gate_callee (f := 11) rfl ?_); refine Kg_ (some 21) rfl rfl Try.func11 (by kernel_rfl) rfl #[] rfl ?_; (with_reducible refine (tenementlaw15_examples.calls true _ rfl).mono ?_); rintro e w2 ⟨rfl, hb⟩; refine ⟨_, rfl, ?_⟩; have BK0a := Kb_ BK0 hb; have HR2 := Aside0.mk (Kd.C_below HR1.out hb); have HB2 := Ks_ HB1 hb; clear hb; have hcz0 : w2.cell? ⟨g0, 0, none⟩ = some (.int .i64 a0_0) := (blk_cell BK0a.out 0).trans rfl; have hfz0 := blk_frozen BK0a.out 0; have hcz1 : w2.cell? ⟨g0, 1, none⟩ = some (.int .i64 a0_1) := (blk_cell BK0a.out 1).trans rfl; have hfz1 := blk_frozen BK0a.out 1; have hcz2 : w2.cell? ⟨g0, 2, none⟩ = some (.int .u64 a0_2) := (blk_cell BK0a.out 2).trans rfl; have hfz2 := blk_frozen BK0a.out 2; have hcz3 : w2.cell? ⟨g0, 3, none⟩ = some (.int .u64 a0_3) := (blk_cell BK0a.out 3).trans rfl; have hfz3 := blk_frozen BK0a.out 3; have hcz4 : w2.cell? ⟨g0, 4, none⟩ = some (.int .u64 a0_4) := (blk_cell BK0a.out 4).trans rfl; have hfz4 := blk_frozen BK0a.out 4; have hcz5 : w2.cell? ⟨g0, 5, none⟩ = some (.int .u64 a0_5) := (blk_cell BK0a.out 5).trans rfl; have hfz5 := blk_frozen BK0a.out 5; have hcz6 : w2.cell? ⟨g0, 6, none⟩ = some (.int .u64 a0_6) := (blk_cell BK0a.out 6).trans rfl; have hfz6 := blk_frozen BK0a.out 6; have hcz7 : w2.cell? ⟨g0, 7, none⟩ = some (.int .i64 a0_7) := (blk_cell BK0a.out 7).trans rfl; have hfz7 := blk_frozen BK0a.out 7; have hcz8 : w2.cell? ⟨g0, 8, none⟩ = some (.bool a0_8) := (blk_cell BK0a.out 8).trans rfl; have hfz8 := blk_frozen BK0a.out 8; have hcz9 : w2.cell? ⟨g0, 9, none⟩ = some (.slice A0_9 l0_9.length c0_9) := (blk_cell BK0a.out 9).trans rfl; have hfz9 := blk_frozen BK0a.out 9; have hcz10 : w2.cell? ⟨g0, 10, none⟩ = some (.bool a0_10) := (blk_cell BK0a.out 10).trans rfl; have hfz10 := blk_frozen BK0a.out 10; have hcz11 : w2.cell? ⟨g0, 11, none⟩ = some (.bool a0_11) := (blk_cell BK0a.out 11).trans rfl; have hfz11 := blk_frozen BK0a.out 11)
  | ((with_reducible refine gate_callee (f := 26) rfl ?_); refine Kg_ (some 26) rfl rfl Try.func26 (by kernel_rfl) rfl #[.agg #[.int .i64 a0_0, .int .i64 a0_1, .int .u64 a0_2, .int .u64 a0_3, .int .u64 a0_4, .int .u64 a0_5, .int .u64 a0_6, .int .i64 a0_7, .bool a0_8, .slice A0_9 l0_9.length c0_9, .bool a0_10, .bool true]] rfl ?_; (with_reducible refine (tenementlaw15_Letter_letter.calls k a0_0 a0_1 a0_2 a0_3 a0_4 a0_5 a0_6 a0_7 a0_8 _ _ l0_9 a0_10 true m1 m2 m3 m4 m5 m6 m7 m8 xs _ ?side1 ?side2 FL.out).mono ?_); (case side1 => exact Kd.C_below HR.out (Kz_ HB2 GE0)); (case side2 => exact hc0_9); rintro e w3 ⟨v, rfl, ho, hb⟩; refine ⟨_, rfl, ?_⟩; obtain ⟨A, c, ev, hcc, hCC⟩ := Kd.R_reads ho; subst ev; have HC3 := Aside0.mk hCC; have HCC := Aside0.mk hcc; have HB3 := Kt_ HB2 GE0 hb; clear hb ho hCC hcc)
  | ((with_reducible refine gate_dst (N := 8) rfl ?_); refine Ka_ 8 #[.int .i64 0, .int .i64 0, .int .u64 0, .int .u64 0, .int .u64 0, .int .u64 0, .int .u64 0, .int .i64 0, .slice none 0 0] 69 ?_; intro g8 hg w4 hbox hb; have GE8 := Kw_ HB3 hg; have GE38 : Aside0 (w3.heap.size ≤ g8) := ⟨Nat.le_of_eq hg.symm⟩; have BK8 := Aside0.mk hbox; have HB4 := Ks_ HB3 hb; have H34 := Aside0.mk hb; clear hb hbox hg; obtain ⟨hca0, hca1, hca2, hca3, hca4, hca5, hca6, hca7, hca8, hfa0, hfa1, hfa2, hfa3, hfa4, hfa5, hfa6, hfa7, hfa8⟩ := Ke9_ BK8.out)
  | ((with_reducible refine gate_callee (f := 27) rfl ?_); refine Kg_ (some 29) rfl rfl Try.func27 (by kernel_rfl) rfl #[.agg #[.int .i64 m1, .int .i64 m2, .int .u64 m3, .int .u64 m4, .int .u64 m5, .int .u64 m6, .int .u64 m7, .int .i64 m8, .slice A xs.length c]] rfl ?_; (with_reducible refine (stream_Put.calls k m1 m2 m3 m4 m5 m6 m7 m8 _ _ xs s true _ ?side1 ?side2 FP.out).mono ?_); (case side1 => exact Kd.C_below HC3.out (Kz_ H34 GE38)); (case side2 => exact HCC.out); rintro e w5 ⟨rfl, hb⟩; refine ⟨_, rfl, ?_⟩; have HB5 := Kt_ HB4 GE8 hb; have BK8a : Aside0 (w5.heap[g8]? = some (.cells #[.int .i64 m1, .int .i64 m2, .int .u64 m3, .int .u64 m4, .int .u64 m5, .int .u64 m6, .int .u64 m7, .int .i64 m8, .slice A xs.length c] 69 (0, 0))) := ⟨blk_below (g := g8) (o := .cells #[.int .i64 m1, .int .i64 m2, .int .u64 m3, .int .u64 m4, .int .u64 m5, .int .u64 m6, .int .u64 m7, .int .i64 m8, .slice A xs.length c] 69 (0, 0)) (by refine Kv_ ?_; refine blk_put (cs := #[.int .i64 m1, .int .i64 m2, .int .u64 m3, .int .u64 m4, .int .u64 m5, .int .u64 m6, .int .u64 m7, .int .i64 m8, .slice none 0 0]) ?_ 8 _ rfl; refine Kv_ ?_; refine blk_put (cs := #[.int .i64 m1, .int .i64 m2, .int .u64 m3, .int .u64 m4, .int .u64 m5, .int .u64 m6, .int .u64 m7, .int .i64 0, .slice none 0 0]) ?_ 7 _ rfl; refine Kv_ ?_; refine blk_put (cs := #[.int .i64 m1, .int .i64 m2, .int .u64 m3, .int .u64 m4, .int .u64 m5, .int .u64 m6, .int .u64 0, .int .i64 0, .slice none 0 0]) ?_ 6 _ rfl; refine Kv_ ?_; refine blk_put (cs := #[.int .i64 m1, .int .i64 m2, .int .u64 m3, .int .u64 m4, .int .u64 m5, .int .u64 0, .int .u64 0, .int .i64 0, .slice none 0 0]) ?_ 5 _ rfl; refine Kv_ ?_; refine blk_put (cs := #[.int .i64 m1, .int .i64 m2, .int .u64 m3, .int .u64 m4, .int .u64 0, .int .u64 0, .int .u64 0, .int .i64 0, .slice none 0 0]) ?_ 4 _ rfl; refine Kv_ ?_; refine blk_put (cs := #[.int .i64 m1, .int .i64 m2, .int .u64 m3, .int .u64 0, .int .u64 0, .int .u64 0, .int .u64 0, .int .i64 0, .slice none 0 0]) ?_ 3 _ rfl; refine Kv_ ?_; refine blk_put (cs := #[.int .i64 m1, .int .i64 m2, .int .u64 0, .int .u64 0, .int .u64 0, .int .u64 0, .int .u64 0, .int .i64 0, .slice none 0 0]) ?_ 2 _ rfl; refine Kv_ ?_; refine blk_put (cs := #[.int .i64 m1, .int .i64 0, .int .u64 0, .int .u64 0, .int .u64 0, .int .u64 0, .int .u64 0, .int .i64 0, .slice none 0 0]) ?_ 1 _ rfl; refine Kv_ ?_; refine blk_put (cs := #[.int .i64 0, .int .i64 0, .int .u64 0, .int .u64 0, .int .u64 0, .int .u64 0, .int .u64 0, .int .i64 0, .slice none 0 0]) ?_ 0 _ rfl; exact Kq_ BK8) hb⟩; have HC5 := Aside0.mk (Kd.C_below HC3.out (below_step (Kz_ H34 GE38) hb)); clear hb)
  | ((with_reducible refine gate_dst (N := 36) rfl ?_); refine Kg_ (some 36) rfl rfl Try.func36 (by kernel_rfl) rfl #[.string s] rfl ?_; (with_reducible refine (stream_Get.calls k s m1 m2 m3 m4 m5 m6 m7 m8 xs 0 _ FG.out).mono ?_); rintro e w6 ⟨v, rfl, ho, hb⟩; refine ⟨_, rfl, ?_⟩; obtain ⟨Ab, cb, ev, hcc, hCC⟩ := Kd.R_reads ho; subst ev; have HCb6 := Aside0.mk hCC; have HCCb := Aside0.mk hcc; have H56 := Aside0.mk hb; clear hb ho hCC hcc)
  | ((with_reducible refine gate_dst (N := 11) rfl ?_); refine Ka_ 11 #[.int .i64 0, .int .i64 0, .int .u64 0, .int .u64 0, .int .u64 0, .int .u64 0, .int .u64 0, .int .i64 0, .slice none 0 0] 69 ?_; intro g11 hg w7 hbox hb; have GE11 : Aside0 (w6.heap.size ≤ g11) := ⟨Nat.le_of_eq hg.symm⟩; have GE511 : Aside0 (w5.heap.size ≤ g11) := ⟨by rw [hg]; exact H56.out.size⟩; have BK11 := Aside0.mk hbox; have H57 := Aside0.mk (below_step H56.out hb); have H67 := Aside0.mk hb; clear hb hbox hg; obtain ⟨hcb0, hcb1, hcb2, hcb3, hcb4, hcb5, hcb6, hcb7, hcb8, hfb0, hfb1, hfb2, hfb3, hfb4, hfb5, hfb6, hfb7, hfb8⟩ := Ke9_ BK11.out)
  | ((with_reducible refine gate_dst (N := 45) rfl ?_); refine tenementlaw15_StreamBack.conv_ s (by omega) rfl rfl ?hr ?_; (case hr => intro v W1 e; first | (go_simp; done) | (go_simp; rfl)); intro w8 e8 c14 w9 hat hb; have BK11b : Aside0 (w8.heap[g11]? = some (.cells #[.int .i64 m1, .int .i64 m2, .int .u64 m3, .int .u64 m4, .int .u64 m5, .int .u64 m6, .int .u64 m7, .int .i64 m8, .slice Ab xs.length cb] 69 (0, 0))) := ⟨by rw [e8]; exact (by refine Kv_ ?_; refine blk_put (cs := #[.int .i64 m1, .int .i64 m2, .int .u64 m3, .int .u64 m4, .int .u64 m5, .int .u64 m6, .int .u64 m7, .int .i64 m8, .slice none 0 0]) ?_ 8 _ rfl; refine Kv_ ?_; refine blk_put (cs := #[.int .i64 m1, .int .i64 m2, .int .u64 m3, .int .u64 m4, .int .u64 m5, .int .u64 m6, .int .u64 m7, .int .i64 0, .slice none 0 0]) ?_ 7 _ rfl; refine Kv_ ?_; refine blk_put (cs := #[.int .i64 m1, .int .i64 m2, .int .u64 m3, .int .u64 m4, .int .u64 m5, .int .u64 m6, .int .u64 0, .int .i64 0, .slice none 0 0]) ?_ 6 _ rfl; refine Kv_ ?_; refine blk_put (cs := #[.int .i64 m1, .int .i64 m2, .int .u64 m3, .int .u64 m4, .int .u64 m5, .int .u64 0, .int .u64 0, .int .i64 0, .slice none 0 0]) ?_ 5 _ rfl; refine Kv_ ?_; refine blk_put (cs := #[.int .i64 m1, .int .i64 m2, .int .u64 m3, .int .u64 m4, .int .u64 0, .int .u64 0, .int .u64 0, .int .i64 0, .slice none 0 0]) ?_ 4 _ rfl; refine Kv_ ?_; refine blk_put (cs := #[.int .i64 m1, .int .i64 m2, .int .u64 m3, .int .u64 0, .int .u64 0, .int .u64 0, .int .u64 0, .int .i64 0, .slice none 0 0]) ?_ 3 _ rfl; refine Kv_ ?_; refine blk_put (cs := #[.int .i64 m1, .int .i64 m2, .int .u64 0, .int .u64 0, .int .u64 0, .int .u64 0, .int .u64 0, .int .i64 0, .slice none 0 0]) ?_ 2 _ rfl; refine Kv_ ?_; refine blk_put (cs := #[.int .i64 m1, .int .i64 0, .int .u64 0, .int .u64 0, .int .u64 0, .int .u64 0, .int .u64 0, .int .i64 0, .slice none 0 0]) ?_ 1 _ rfl; refine Kv_ ?_; refine blk_put (cs := #[.int .i64 0, .int .i64 0, .int .u64 0, .int .u64 0, .int .u64 0, .int .u64 0, .int .u64 0, .int .i64 0, .slice none 0 0]) ?_ 0 _ rfl; exact Kq_ BK11)⟩; have H58 : Aside0 (Below w5.heap.size w5 w8) := ⟨by rw [e8]; exact (((((((((H57.out).setCell GE511.out _).setCell GE511.out _).setCell GE511.out _).setCell GE511.out _).setCell GE511.out _).setCell GE511.out _).setCell GE511.out _).setCell GE511.out _).setCell GE511.out _⟩; have H68 : Aside0 (Below w6.heap.size w6 w8) := ⟨by rw [e8]; exact (((((((((H67.out).setCell GE11.out _).setCell GE11.out _).setCell GE11.out _).setCell GE11.out _).setCell GE11.out _).setCell GE11.out _).setCell GE11.out _).setCell GE11.out _).setCell GE11.out _⟩; have HAT := Aside0.mk hat; have H89 := Aside0.mk hb; clear e8 hat hb; have hcp := (HAT.out p (by rw [bytesOf_length]; exact HPS.out)).1; have hfp := (HAT.out p (by rw [bytesOf_length]; exact HPS.out)).2; have hcv := (HAT.out.set p (by rw [bytesOf_length]; exact HPS.out) (Go.bits .xor .u8 ((bytesOf s)[p]?.getD 0) (2 ^ (a2 % 8).toNat % 256))).conv s.size c14 HLEN.out; rw [show strOfNums ((bytesOf s).set p (Go.bits .xor .u8 ((bytesOf s)[p]?.getD 0) (2 ^ (a2 % 8).toNat % 256))) = tn from HTN.out.symm] at hcv)
  | ((with_reducible refine gate_dst (N := 58) rfl ?_); refine Kg_ (some 58) rfl rfl Try.func36 (by kernel_rfl) rfl #[.string tn] rfl ?_; (with_reducible refine (stream_Get.calls k tn 0 0 0 0 0 0 0 0 [] 2 _ FT.out).mono ?_); rintro e w10 ⟨v, rfl, ho, hb⟩; refine ⟨_, rfl, ?_⟩; obtain ⟨A_w10, c_w10, ev, _, _⟩ := Kd.R_reads ho; subst ev; have H_w10 : Aside0 (Below w8.heap.size w8 w10) := ⟨below_step ((H89.out).setCell (Nat.le_refl _) _) hb⟩; clear hb ho)
  | ((with_reducible refine gate_dst (N := 15) rfl ?_); refine Ka_ 15 #[.int .i64 0, .int .i64 0, .int .u64 0, .int .u64 0, .int .u64 0, .int .u64 0, .int .u64 0, .int .i64 0, .slice none 0 0] 69 ?_; intro g15 hg w11 hbox hb; have GE_g15 : Aside0 (w8.heap.size ≤ g15) := ⟨by rw [hg]; exact H_w10.out.size⟩; have BK_g15 := Aside0.mk hbox; have H_w11 := Aside0.mk (below_step H_w10.out hb); clear hb hbox hg; obtain ⟨hcg150, hcg151, hcg152, hcg153, hcg154, hcg155, hcg156, hcg157, hcg158, hfg150, hfg151, hfg152, hfg153, hfg154, hfg155, hfg156, hfg157, hfg158⟩ := Ke9_ BK_g15.out)
  | ((with_reducible refine gate_dst (N := 65) rfl ?_); refine Kg_ (some 65) rfl rfl Try.func36 (by kernel_rfl) rfl #[.string (s.extract 0 p)] rfl ?_; (with_reducible refine (stream_Get.calls k (s.extract 0 p) 0 0 0 0 0 0 0 0 [] 2 _ FC.out).mono ?_); rintro e w12 ⟨v, rfl, ho, hb⟩; refine ⟨_, rfl, ?_⟩; obtain ⟨A_w12, c_w12, ev, _, _⟩ := Kd.R_reads ho; subst ev; have H_w12 : Aside0 (Below w8.heap.size w8 w12) := ⟨below_step ((((((((((H_w11.out).setCell GE_g15.out _).setCell GE_g15.out _).setCell GE_g15.out _).setCell GE_g15.out _).setCell GE_g15.out _).setCell GE_g15.out _).setCell GE_g15.out _).setCell GE_g15.out _).setCell GE_g15.out _) hb⟩; clear hb ho)
  | ((with_reducible refine gate_dst (N := 17) rfl ?_); refine Ka_ 17 #[.int .i64 0, .int .i64 0, .int .u64 0, .int .u64 0, .int .u64 0, .int .u64 0, .int .u64 0, .int .i64 0, .slice none 0 0] 69 ?_; intro g17 hg w13 hbox hb; have GE_g17 : Aside0 (w8.heap.size ≤ g17) := ⟨by rw [hg]; exact H_w12.out.size⟩; have BK_g17 := Aside0.mk hbox; have H_w13 := Aside0.mk (below_step H_w12.out hb); clear hb hbox hg; obtain ⟨hcg170, hcg171, hcg172, hcg173, hcg174, hcg175, hcg176, hcg177, hcg178, hfg170, hfg171, hfg172, hfg173, hfg174, hfg175, hfg176, hfg177, hfg178⟩ := Ke9_ BK_g17.out)
  | ((with_reducible refine gate_dst (N := 71) rfl ?_); refine Kg_ (some 71) rfl rfl Try.func36 (by kernel_rfl) rfl #[.string (s ++ ⟨#[120]⟩)] rfl ?_; (with_reducible refine (stream_Get.calls k (s ++ ⟨#[120]⟩) 0 0 0 0 0 0 0 0 [] 2 _ FX.out).mono ?_); rintro e w14 ⟨v, rfl, ho, hb⟩; refine ⟨_, rfl, ?_⟩; obtain ⟨A_w14, c_w14, ev, _, _⟩ := Kd.R_reads ho; subst ev; have H_w14 : Aside0 (Below w8.heap.size w8 w14) := ⟨below_step ((((((((((H_w13.out).setCell GE_g17.out _).setCell GE_g17.out _).setCell GE_g17.out _).setCell GE_g17.out _).setCell GE_g17.out _).setCell GE_g17.out _).setCell GE_g17.out _).setCell GE_g17.out _).setCell GE_g17.out _) hb⟩; clear hb ho)
  | ((with_reducible refine gate_dst (N := 19) rfl ?_); refine Ka_ 19 #[.int .i64 0, .int .i64 0, .int .u64 0, .int .u64 0, .int .u64 0, .int .u64 0, .int .u64 0, .int .i64 0, .slice none 0 0] 69 ?_; intro g19 hg w15 hbox hb; have GE_g19 : Aside0 (w8.heap.size ≤ g19) := ⟨by rw [hg]; exact H_w14.out.size⟩; have BK_g19 := Aside0.mk hbox; have H_w15 := Aside0.mk (below_step H_w14.out hb); clear hb hbox hg; obtain ⟨hcg190, hcg191, hcg192, hcg193, hcg194, hcg195, hcg196, hcg197, hcg198, hfg190, hfg191, hfg192, hfg193, hfg194, hfg195, hfg196, hfg197, hfg198⟩ := Ke9_ BK_g19.out; have BKa8 : Aside0 (w8.heap[g8]? = some (.cells #[.int .i64 m1, .int .i64 m2, .int .u64 m3, .int .u64 m4, .int .u64 m5, .int .u64 m6, .int .u64 m7, .int .i64 m8, .slice A xs.length c] 69 (0, 0))) := ⟨blk_below BK8a.out H58.out⟩; have na : g8 ≠ g19 := Nat.ne_of_lt (Nat.lt_of_lt_of_le (blk_lt BKa8.out) GE_g19.out); have nb : g11 ≠ g19 := Nat.ne_of_lt (Nat.lt_of_lt_of_le (blk_lt BK11b.out) GE_g19.out); have na' := na.symm; have nb' := nb.symm; obtain ⟨ca0, ca1, ca2, ca3, ca4, ca5, ca6, ca7, ca8⟩ := Kc9_ (blk_below BKa8.out H_w15.out); obtain ⟨cb0, cb1, cb2, cb3, cb4, cb5, cb6, cb7, cb8⟩ := Kc9_ (blk_below BK11b.out H_w15.out))
  | (go_at_call 50; (with_reducible refine (item_Same.calls k m4 m5 m6 m7 m8 _ _ xs m4 m5 m6 m7 m8 _ _ xs true _ ?s1 HCC.out ?s2 HCCb.out FS.out).mono ?_); (case s1 => exact Kd.C_below (Kd.C_below HC5.out H58.out) ((((((((((H_w15.out).setCell GE_g19.out _).setCell GE_g19.out _).setCell GE_g19.out _).setCell GE_g19.out _).setCell GE_g19.out _).setCell GE_g19.out _).setCell GE_g19.out _).setCell GE_g19.out _).setCell GE_g19.out _)); (case s2 => exact Kd.C_below (Kd.C_below HCb6.out H68.out) ((((((((((H_w15.out).setCell GE_g19.out _).setCell GE_g19.out _).setCell GE_g19.out _).setCell GE_g19.out _).setCell GE_g19.out _).setCell GE_g19.out _).setCell GE_g19.out _).setCell GE_g19.out _).setCell GE_g19.out _)); rintro e w21 ⟨rfl, hb⟩; have H21 : Aside0 (Below w8.heap.size w8 w21) := ⟨below_step ((((((((((H_w15.out).setCell GE_g19.out _).setCell GE_g19.out _).setCell GE_g19.out _).setCell GE_g19.out _).setCell GE_g19.out _).setCell GE_g19.out _).setCell GE_g19.out _).setCell GE_g19.out _).setCell GE_g19.out _) hb⟩; clear hb; obtain ⟨cd0, cd1, cd2, cd3, cd4, cd5, cd6, cd7, cd8⟩ := Kc9_ (blk_below BK11b.out H21.out))
  | (go_at_call 33; (with_reducible refine (stream_Right.calls k m1 m2 m3 m4 m5 m6 m7 m8 _ _ xs true _ ?s1 HCCb.out FR.out).mono ?_); (case s1 => exact Kd.C_below (Kd.C_below HCb6.out H68.out) H21.out); rintro e w22 ⟨rfl, hb⟩; have HBw3 := Aside0.mk (below_step (below_step (below_step HB5.out H58.out) H21.out) hb); clear hb))
 go_ret
 exact ⟨rfl, HBw3.out⟩
end Go.Proofs.Ytoagfdpgnfinhaa.Q

set_option linter.unusedVariables false
namespace Go.Proofs.Ytoagfdpgnfinhaa.Q
open Go.RowKit Go.Proofs.Ytoagfdpgnfinhaa.Q Go.Proofs.YtoagfdpgnfinhaaW.PrintWords Go.Proofs.YtoagfdpgnfinhaaW.PrintLast Go.Proofs.YtoagfdpgnfinhaaW.PrintMore
def tenementlaw15_StreamBack.Pure : Prop := ∀ (x0 : S65) (x1 : Int) (x2 : Int), (wf65 x0) → ((Lit.int .u16 x1).wf = true) → ((Lit.int .u8 x2).wf = true) → tenementlaw15_StreamBack.f (x0.f0) (x0.f1) (x0.f2) (x0.f3.f0.f0.f0.f0) (x0.f3.f0.f0.f0.f1) (x0.f3.f0.f0.f0.f2) (x0.f3.f0.f0.f0.f3) (x0.f3.f0.f0.f1) (x0.f3.f0.f1) (x0.f3.f1) (x0.f3.f2) (x0.f4) x1 x2 = some true
end Go.Proofs.Ytoagfdpgnfinhaa.Q

set_option linter.unusedVariables false
set_option linter.unusedSimpArgs false
namespace Go.Proofs.Ytoagfdpgnfinhaa.Pure
open Go.RowKit Go.Proofs.Ytoagfdpgnfinhaa.Q Go.Proofs.YtoagfdpgnfinhaaW.PrintWords Go.Proofs.YtoagfdpgnfinhaaW.PrintLast Go.Proofs.YtoagfdpgnfinhaaW.PrintMore Go.Proofs.Ytoagfdpgnfinhaa.Plain
abbrev Wr := S107
abbrev Pt := S159
def fits (x : Wr) : Prop := x.f0.size ≤ 140737488351232 ∧ x.f1.size ≤ 140737488351232 ∧ x.f2.size ≤ 140737488351232
theorem str_size (l : List Int) : (strOfNums l).size = l.length := by
 unfold strOfNums
 simp [ByteArray.size]
def wrt (p : Pt) (own : Bool) : Wr :=
 if own = true then (if 224 ≤ p.f2 then ⟨strOfNums [98, IntKind.u8.wrap (48 + Int.tmod p.f2 2)], strOfNums [IntKind.u8.wrap (97 + Int.tmod (IntKind.u8.wrap (Int.tdiv p.f2 2)) 4)], ⟨#[]⟩, true⟩
  else ⟨strOfNums [98, IntKind.u8.wrap (48 + Int.tmod p.f2 2)], strOfNums [IntKind.u8.wrap (97 + Int.tmod (IntKind.u8.wrap (Int.tdiv p.f2 2)) 4)], p.f0.f2.extract 0 (min p.f0.f2.size 8), false⟩)
 else p.f0
theorem wrt_f (p : Pt) (own : Bool) (h : fits p.f0) : tenementlaw15_Put_write.f p.f0.f0 p.f0.f1 p.f0.f2 p.f0.f3 own p.f2 = some ((wrt p own).f0, (wrt p own).f1, (wrt p own).f2, (wrt p own).f3) := by
 unfold tenementlaw15_Put_write.f wrt
 cases own with
 | true =>
  rw [if_pos rfl, if_pos rfl, if_pos (by have := h.2.2; omega)]
  by_cases c : 224 ≤ p.f2
  ·rw [if_pos c, if_pos c]
  ·rw [if_neg c, if_neg c]
 | false => rw [if_neg (by simp), if_neg (by simp)]
theorem wrt_fits (p : Pt) (own : Bool) (h : fits p.f0) : fits (wrt p own) := by
 unfold wrt
 cases own with
 | true =>
  rw [if_pos rfl]
  have z : (⟨#[]⟩ : ByteArray).size = 0 := rfl
  by_cases c : 224 ≤ p.f2
  ·rw [if_pos c]
   refine ⟨?_, ?_, ?_⟩
   ·show (strOfNums _).size ≤ _; rw [str_size]; simp
   ·show (strOfNums _).size ≤ _; rw [str_size]; simp
   ·show (⟨#[]⟩ : ByteArray).size ≤ _; omega
  ·rw [if_neg c]
   refine ⟨?_, ?_, ?_⟩
   ·show (strOfNums _).size ≤ _; rw [str_size]; simp
   ·show (strOfNums _).size ≤ _; rw [str_size]; simp
   ·show (ByteArray.extract _ _ _).size ≤ _; rw [ByteArray.size_extract]; omega
 | false => rw [if_neg (by simp)]; exact h
def same (w y : Wr) : Bool := decide (y.f0 = w.f0) && decide (y.f1 = w.f1)
def wrs (most : Nat) (whole : Bool) : List Pt → List Wr → List Wr
 | [], out => out
 | p :: ps, out => if out.length < most then (if (whole && out.any (same (wrt p (whole || p.f1)))) = true then wrs most whole ps out else wrs most whole ps (out ++ [wrt p (whole || p.f1)])) else out
theorem wrs_len (most : Nat) (whole : Bool) : ∀ l out, out.length ≤ most → (wrs most whole l out).length ≤ most
 | [], out, h => h
 | p :: ps, out, h => by
  unfold wrs
  by_cases c : out.length < most
  ·rw [if_pos c]
   split
   ·exact wrs_len most whole ps out h
   ·exact wrs_len most whole ps _ (by simp; omega)
  ·rw [if_neg c]; exact h
theorem wrs_all (most : Nat) (whole : Bool) (Q : Wr → Prop) : ∀ l out, (∀ p ∈ l, Q (wrt p (whole || p.f1))) → (∀ x ∈ out, Q x) → ∀ x ∈ wrs most whole l out, Q x
 | [], out, _, h => h
 | p :: ps, out, hl, h => by
  unfold wrs
  have hl' : ∀ q ∈ ps, Q (wrt q (whole || q.f1)) := fun q hq => hl q (by simp [hq])
  split
  ·split
   ·exact wrs_all most whole Q ps out hl' h
   ·refine wrs_all most whole Q ps _ hl' (fun x hx => ?_)
    rcases List.mem_append.1 hx with hx | hx
    ·exact h x hx
    ·rw [List.mem_singleton.1 hx]; exact hl p (by simp)
  ·exact h
theorem idx (i : Nat) (h : i ≤ 4611686018427387904) : wrap64 ((i : Int) + 1) = ((i + 1 : Nat) : Int) := by
 rw [wrap64_id (by omega) (by omega)]
 omega
theorem rdW (l : List Wr) (j : Nat) (h : j < l.length) : rd_T107 l (j : Int) = l[j] := by
 unfold rd_T107
 rw [Int.toNat_natCast, List.getD_eq_getElem?_getD, List.getElem?_eq_getElem h]
 rfl
theorem rdP (l : List Pt) (j : Nat) (h : j < l.length) : rd_T159 l (j : Int) = l[j] := by
 unfold rd_T159
 rw [Int.toNat_natCast, List.getD_eq_getElem?_getD, List.getElem?_eq_getElem h]
 rfl
theorem wr_l1 (l : List Pt) (most : Int) (whole : Bool) (out : List Wr) (i : Int) (w : Wr) (h7 : out.length ≤ 1000) (K : Nat) : ∀ d j fl, j + d = out.length →
  tenementlaw15_writes.l1 (K + d + 1) l most whole out i fl (j : Int) w.f0 w.f1 w.f2 w.f3 =
   if (whole && (fl || (out.drop j).any (same w))) = true then tenementlaw15_writes.l0 K l most whole out (wrap64 (i + 1)) else tenementlaw15_writes.l0 K l most whole (out ++ [w]) (wrap64 (i + 1)) := by
 intro d
 induction d with
 | zero =>
  intro j fl hj
  have e : out.drop j = [] := List.drop_eq_nil_of_le (by omega)
  rw [Nat.add_zero, tenementlaw15_writes.l1, if_neg (by omega), e, List.any_nil, Bool.or_false]
  cases whole with
  | true =>
   rw [if_pos rfl]
   cases fl with
   | true => rw [if_pos rfl, if_pos (by rfl)]
   | false => rw [if_neg (by simp), if_pos (by omega), if_neg (by simp)]
  | false => rw [if_neg (by simp), if_pos (by omega), if_neg (by simp)]
 | succ d ih =>
  intro j fl hj
  have hlt : j < out.length := by omega
  have e : out.drop j = out[j] :: out.drop (j + 1) := List.drop_eq_getElem_cons hlt
  rw [show K + (d + 1) + 1 = (K + d + 1) + 1 by omega, tenementlaw15_writes.l1, if_pos (by omega), idx j (by omega), e, List.any_cons]
  cases fl with
  | true =>
   rw [if_pos rfl, ih (j + 1) true (by omega)]
   simp only [Bool.true_or]
  | false =>
   rw [if_neg (by simp), if_pos (by omega), rdW out j hlt, Bool.false_or]
   by_cases c : (out[j].f0).toList = w.f0.toList
   ·rw [if_pos c, ih (j + 1) _ (by omega)]
    have c0 := toList_iff.1 c
    have hs : ((out[j].f1).toList == w.f1.toList) = same w out[j] := by
     unfold same
     rw [decide_eq_true c0, Bool.true_and]
     by_cases c1 : out[j].f1 = w.f1
     ·rw [decide_eq_true c1, c1]; simp
     ·rw [decide_eq_false c1]
      exact beq_eq_false_iff_ne.2 (fun h => c1 (toList_iff.1 h))
    rw [hs]
   ·rw [if_neg c, ih (j + 1) _ (by omega)]
    have hs : same w out[j] = false := by
     unfold same
     rw [decide_eq_false (fun h => c (by rw [h])), Bool.false_and]
    rw [hs, Bool.false_or]
theorem wr_l0 (l : List Pt) (most : Nat) (hm : most ≤ 100) (whole : Bool) (hl : ∀ p ∈ l, fits p.f0) (hz : l.length ≤ 4611686018427387904) : ∀ d i (out : List Wr) K, i + d = l.length → out.length ≤ most → (d + 1) * (most + 5) ≤ K →
  tenementlaw15_writes.l0 K l (most : Int) whole out (i : Int) = some (wrs most whole (l.drop i) out) := by
 intro d
 induction d with
 | zero =>
  intro i out K hi ho hK
  obtain ⟨K, rfl⟩ : ∃ m, K = m + 2 := ⟨K - 2, by omega⟩
  have e : l.drop i = [] := List.drop_eq_nil_of_le (by omega)
  rw [tenementlaw15_writes.l0, if_neg (by omega), tenementlaw15_writes.j1, if_neg (by simp), e]
  rfl
 | succ d ih =>
  intro i out K hi ho hK
  have hlt : i < l.length := by omega
  have e : l.drop i = l[i] :: l.drop (i + 1) := List.drop_eq_getElem_cons hlt
  have hK' : (d + 1) * (most + 5) + (most + 5) ≤ K := by
   rw [show (d + 1 + 1) * (most + 5) = (d + 1) * (most + 5) + (most + 5) by rw [Nat.add_mul, Nat.one_mul]] at hK
   exact hK
  have hf : fits l[i].f0 := hl _ (List.getElem_mem _)
  rw [e]
  unfold wrs
  by_cases c : out.length < most
  ·rw [if_pos c]
   obtain ⟨m, hm'⟩ : ∃ m, K = (m + out.length + 1) + 3 ∧ (d + 1) * (most + 5) ≤ m := ⟨K - out.length - 4, by omega, by omega⟩
   rw [hm'.1, tenementlaw15_writes.l0, if_pos (by omega), decide_eq_true (by omega : (out.length : Int) < (most : Int)), tenementlaw15_writes.j1, if_pos rfl, if_pos (by omega), if_pos (by omega), rdP l i hlt]
   have key : ∀ own : Bool, own = (whole || l[i].f1) → tenementlaw15_writes.j2 (m + out.length + 1 + 1) l (most : Int) whole out (i : Int) l[i].f0.f0 l[i].f0.f1 l[i].f0.f2 l[i].f0.f3 own l[i].f2 =
     some (if (whole && out.any (same (wrt l[i] (whole || l[i].f1)))) = true then wrs most whole (l.drop (i + 1)) out else wrs most whole (l.drop (i + 1)) (out ++ [wrt l[i] (whole || l[i].f1)])) := by
    intro own ho'
    rw [tenementlaw15_writes.j2, wrt_f _ _ hf, Option.bind_some]
    show tenementlaw15_writes.l1 (m + out.length + 1) l (most : Int) whole out (i : Int) false 0 (wrt l[i] own).f0 (wrt l[i] own).f1 (wrt l[i] own).f2 (wrt l[i] own).f3 = _
    have h1 := wr_l1 l (most : Int) whole out (i : Int) (wrt l[i] own) (by omega) m out.length 0 false (by omega)
    rw [show ((0 : Nat) : Int) = 0 from rfl] at h1
    rw [h1, List.drop_zero, Bool.false_or, idx i (by omega), ho']
    split
    ·rw [ih (i + 1) out m (by omega) ho hm'.2]
    ·rw [ih (i + 1) _ m (by omega) (by simp; omega) hm'.2]
   cases whole with
   | true =>
    rw [if_pos rfl, key true rfl]
   | false =>
    rw [if_neg (by simp), key _ (by simp)]
  ·rw [if_neg c]
   obtain ⟨m, rfl⟩ : ∃ m, K = m + 2 := ⟨K - 2, by omega⟩
   rw [tenementlaw15_writes.l0, if_pos (by omega), decide_eq_false (by omega : ¬ (out.length : Int) < (most : Int)), tenementlaw15_writes.j1, if_neg (by simp)]
theorem writes_f (l : List Pt) (most : Nat) (hm : most ≤ 100) (whole : Bool) (hl : ∀ p ∈ l, fits p.f0) (hz : l.length ≤ 4611686018427387904) {K : Nat} (hK : (l.length + 1) * (most + 5) ≤ K) :
  tenementlaw15_writes.f K l (most : Int) whole = some (wrs most whole l []) := by
 unfold tenementlaw15_writes.f
 have := wr_l0 l most hm whole hl hz l.length 0 [] K (by omega) (by simp) hK
 rw [show ((0 : Nat) : Int) = 0 from rfl, List.drop_zero] at this
 exact this
theorem toList_nil {s : ByteArray} : s.toList = ([] : List UInt8) ↔ s.size = 0 := by
 rw [toList_data, ← bl_length, List.length_eq_zero_iff]
 unfold bl
 rw [List.map_eq_nil_iff]
def okW (b k v : ByteArray) (g : Bool) : Prop := (1 ≤ b.size ∧ b.size ≤ 16) ∧ (1 ≤ k.size ∧ k.size ≤ 16) ∧ v.size ≤ 32 ∧ (g = true → v.size = 0)
instance (b k v : ByteArray) (g : Bool) : Decidable (okW b k v g) := by unfold okW; infer_instance
instance (a b c d e : Int) : Decidable (okS a b c d e) := by unfold okS; infer_instance
theorem named_f (s : ByteArray) : item_named.f s = some (decide (1 ≤ s.size ∧ s.size ≤ 16)) := by
 unfold item_named.f
 by_cases c : s.toList = ([] : List UInt8)
 ·rw [if_pos c, decide_eq_false (by have := toList_nil.1 c; omega)]
 ·rw [if_neg c]
  have h : s.size ≠ 0 := fun h => c (toList_nil.2 h)
  congr 1
  rw [decide_eq_decide]
  omega
theorem iright_f (b k v : ByteArray) (g : Bool) : item_Right.f b k v g = some (decide (okW b k v g)) := by
 unfold item_Right.f
 rw [named_f, Option.bind_some]
 by_cases c1 : 1 ≤ b.size ∧ b.size ≤ 16
 ·rw [if_pos (decide_eq_true c1), named_f, Option.bind_some]
  by_cases c2 : 1 ≤ k.size ∧ k.size ≤ 16
  ·rw [if_pos (decide_eq_true c2)]
   by_cases c3 : v.size ≤ 32
   ·rw [if_pos (by omega)]
    by_cases c4 : v.toList = ([] : List UInt8)
    ·rw [if_pos c4, decide_eq_true (p := okW b k v g) ⟨c1, c2, c3, fun _ => toList_nil.1 c4⟩]
    ·rw [if_neg c4]
     cases g with
     | true => rw [decide_eq_false (fun h : okW b k v true => c4 (toList_nil.2 (h.2.2.2 rfl)))]; rfl
     | false => rw [decide_eq_true (p := okW b k v false) ⟨c1, c2, c3, fun h => by cases h⟩]; rfl
   ·rw [if_neg (by omega), decide_eq_false (fun h : okW b k v g => c3 h.2.2.1)]
  ·rw [if_neg (by simpa using c2), decide_eq_false (fun h : okW b k v g => c2 h.2.1)]
 ·rw [if_neg (by simpa using c1), decide_eq_false (fun h : okW b k v g => c1 h.1)]
def okw (x : Wr) : Bool := decide (okW x.f0 x.f1 x.f2 x.f3)
def at1 (x y : Wr) : Bool := decide (x.f0.data.toList = y.f0.data.toList ∧ x.f1.data.toList = y.f1.data.toList)
def wh (a b c d e : Int) (xs : List Wr) : Bool := decide (okS a b c d e) && decide (0 < xs.length) && decide (xs.length ≤ 8) && item_Whole.apart xs && xs.all okw
theorem sright_f (a b c d e : Int) : stamp_Right.f a b c d e = some (decide (okS a b c d e)) := by
 by_cases h : okS a b c d e
 ·rw [sright_true h, decide_eq_true h]
 ·rw [sright_false h, decide_eq_false h]
theorem whole_f (a b c d e : Int) (xs : List Wr) (hx : ∀ x ∈ xs, fits x) (hz : xs.length ≤ 9223372036854775806) : item_Whole.f a b c d e xs = some (wh a b c d e xs) := by
 unfold item_Whole.f wh
 rw [if_pos ⟨fun x h => by have := hx x h; exact ⟨by have := this.1; omega, by have := this.2.1; omega⟩, hz⟩, sright_f, Option.bind_some]
 congr 2
 have hr : ∀ x : Wr, item_Whole.right x = okw x := fun x => by
  unfold item_Whole.right okw
  rw [iright_f]
  rfl
 rw [Bool.eq_iff_iff]
 simp [hr]
theorem ba_assoc (a b c : ByteArray) : a ++ b ++ c = a ++ (b ++ c) := bl_inj (by simp only [bl_append, List.append_assoc])
def wb (x : Wr) : ByteArray := vs x.f0.size ++ x.f0 ++ (vs x.f1.size ++ x.f1) ++ (if x.f3 = true then (⟨#[1]⟩ : ByteArray) else (⟨#[0]⟩ : ByteArray) ++ (vs x.f2.size ++ x.f2))
def enc (o : ByteArray) (xs : List Wr) : ByteArray := xs.foldl (fun o x => o ++ wb x) o
theorem n1 : pack_Number.f 1 1 = some (⟨#[1]⟩ : ByteArray) := Number_f 1 1 (by omega) (by omega)
theorem n0 : pack_Number.f 0 1 = some (⟨#[0]⟩ : ByteArray) := Number_f 0 1 (by omega) (by omega)
theorem z1 : (⟨#[1]⟩ : ByteArray).size = 1 := rfl
theorem z0 : (⟨#[0]⟩ : ByteArray).size = 1 := rfl
theorem okw_size {x : Wr} (h : okw x = true) : x.f0.size ≤ 16 ∧ x.f1.size ≤ 16 ∧ x.f2.size ≤ 32 := by
 have h : okW x.f0 x.f1 x.f2 x.f3 := of_decide_eq_true h
 exact ⟨h.1.2, h.2.1.2, h.2.2.1⟩
theorem wb_size {x : Wr} (h : okw x = true) : (wb x).size ≤ 100 := by
 have hs := okw_size h
 have v0 := vary_len_ten (n := x.f0.size) (by omega)
 have v1 := vary_len_ten (n := x.f1.size) (by omega)
 have v2 := vary_len_ten (n := x.f2.size) (by omega)
 unfold wb
 by_cases c : x.f3 = true
 ·rw [if_pos c]
  simp only [ByteArray.size_append, vs_size, z1]
  omega
 ·rw [if_neg c]
  simp only [ByteArray.size_append, vs_size, z0]
  omega
theorem ibytes_l0 (xs : List Wr) (hok : ∀ x ∈ xs, okw x = true) (hz : xs.length ≤ 1000) : ∀ m i K (o : ByteArray), i + m = xs.length → o.size ≤ 1000 + 100 * i → m + 12 ≤ K →
  item_Bytes.l0 K o xs (xs.length : Int) (i : Int) = some (enc o (xs.drop i), true) := by
 intro m
 induction m with
 | zero =>
  intro i K o hi ho hK
  obtain ⟨K, rfl⟩ : ∃ q, K = q + 1 := ⟨K - 1, by omega⟩
  rw [item_Bytes.l0, if_neg (by omega), List.drop_eq_nil_of_le (by omega)]
  rfl
 | succ m ih =>
  intro i K o hi ho hK
  obtain ⟨K, rfl⟩ : ∃ q, K = q + 1 := ⟨K - 1, by omega⟩
  have hlt : i < xs.length := by omega
  have hx := hok _ (List.getElem_mem hlt)
  have hs := okw_size hx
  have hw := wb_size hx
  have v0 := vary_len_ten (n := xs[i].f0.size) (by omega)
  have v1 := vary_len_ten (n := xs[i].f1.size) (by omega)
  have v2 := vary_len_ten (n := xs[i].f2.size) (by omega)
  have e0 : xs.drop i = xs[i] :: xs.drop (i + 1) := List.drop_eq_getElem_cons hlt
  have t0 := Text_f (s := xs[i].f0) (k := K) (by omega) (by omega)
  have t1 := Text_f (s := xs[i].f1) (k := K) (by omega) (by omega)
  have t2 := Text_f (s := xs[i].f2) (k := K) (by omega) (by omega)
  have s0 : (vs xs[i].f0.size ++ xs[i].f0).size ≤ 26 := by rw [ByteArray.size_append, vs_size]; omega
  have s1 : (vs xs[i].f1.size ++ xs[i].f1).size ≤ 26 := by rw [ByteArray.size_append, vs_size]; omega
  have s2 : (vs xs[i].f2.size ++ xs[i].f2).size ≤ 42 := by rw [ByteArray.size_append, vs_size]; omega
  have hnext : item_Bytes.l0 K (o ++ wb xs[i]) xs (xs.length : Int) (wrap64 ((i : Int) + 1)) = some (enc o (xs.drop i), true) := by
   rw [idx i (by omega), ih (i + 1) K _ (by omega) (by rw [ByteArray.size_append]; omega) (by omega), e0]
   rfl
  rw [item_Bytes.l0, if_pos (by omega), if_pos (by omega), if_pos (by omega), rdW xs i hlt, t0, Option.bind_some, t1, Option.bind_some, if_pos (by omega), if_pos (by rw [ByteArray.size_append]; omega)]
  unfold wb at hnext
  by_cases c : xs[i].f3 = true
  ·rw [if_pos c, n1, Option.bind_some, if_pos (by simp only [ByteArray.size_append, vs_size, z1]; omega)]
   rw [if_pos c] at hnext
   rw [ba_assoc]
   exact hnext
  ·rw [if_neg c, n0, Option.bind_some, t2, Option.bind_some, if_pos (by rw [z0]; omega), if_pos (by simp only [ByteArray.size_append, vs_size, z0]; omega)]
   rw [if_neg c] at hnext
   rw [ba_assoc]
   exact hnext
theorem wh_true {a b c d e : Int} {xs : List Wr} (h : wh a b c d e xs = true) : okS a b c d e ∧ 0 < xs.length ∧ xs.length ≤ 8 ∧ item_Whole.apart xs = true ∧ ∀ x ∈ xs, okw x = true := by
 unfold wh at h
 simp only [Bool.and_eq_true, decide_eq_true_eq, List.all_eq_true] at h
 exact ⟨h.1.1.1.1, h.1.1.1.2, h.1.1.2, h.1.2, h.2⟩
theorem ibytes_true {a b c g e : Nat} {xs : List Wr} (h : wh a b c g e xs = true) (hx : ∀ x ∈ xs, fits x) {k : Nat} (hk : 300 ≤ k) :
  item_Bytes.f k a b c g e xs = some (enc (sp e a b c g ++ nb xs.length 1) xs, true) := by
 obtain ⟨hS, h0, h8, _, hok⟩ := wh_true h
 have hb := hS.1
 have hsz := (sp_size (n0 := a) (n1 := b) (n2 := c) (n3 := g) e (by omega) (by omega) (by omega) (by omega)).1
 have hn := nb_size xs.length 1
 unfold item_Bytes.f
 rw [whole_f _ _ _ _ _ xs hx (by omega), Option.bind_some, if_pos h, sput_true hS (by omega), Option.bind_some, wrap_u64 (by omega) (by omega), Number_f xs.length 1 (by omega) (by omega), Option.bind_some]
 show (if (sp e a b c g).size + (nb xs.length 1).size ≤ 9223372036854775807 then _ else _) = _
 rw [if_pos (by omega)]
 have := ibytes_l0 xs hok (by omega) xs.length 0 k (sp e a b c g ++ nb xs.length 1) (by omega) (by rw [ByteArray.size_append]; omega) (by omega)
 rw [List.drop_zero] at this
 exact this
def weq (x y : Wr) : Bool := (x.f0.toList == y.f0.toList) && ((x.f1.toList == y.f1.toList) && ((x.f2.toList == y.f2.toList) && (x.f3 == y.f3)))
def eqb : List Wr → List Wr → Bool
 | x :: xs, y :: ys => weq x y && eqb xs ys
 | _, _ => true
theorem neq_eq (p q r s : Bool) : ((!p) || ((!q) || ((!r) || (!s)))) = !(p && (q && (r && s))) := by cases p <;> cases q <;> cases r <;> cases s <;> rfl
theorem same_l0 (xs ys : List Wr) (hl : xs.length = ys.length) (hz : xs.length ≤ 1000) (K : Nat) : ∀ m i, i + m = xs.length → item_Write_86.l0 (K + m + 1) xs ys (xs.length : Int) (i : Int) = some (eqb (xs.drop i) (ys.drop i)) := by
 intro m
 induction m with
 | zero =>
  intro i hi
  rw [Nat.add_zero, item_Write_86.l0, if_neg (by omega), List.drop_eq_nil_of_le (by omega)]
  rfl
 | succ m ih =>
  intro i hi
  have h1 : i < xs.length := by omega
  have h2 : i < ys.length := by omega
  have e1 : xs.drop i = xs[i] :: xs.drop (i + 1) := List.drop_eq_getElem_cons h1
  have e2 : ys.drop i = ys[i] :: ys.drop (i + 1) := List.drop_eq_getElem_cons h2
  rw [show K + (m + 1) + 1 = (K + m + 1) + 1 by omega, item_Write_86.l0, if_pos (by omega), if_pos (by omega), if_pos (by omega), if_pos (by omega), rdW xs i h1, rdW ys i h2, neq_eq, e1, e2]
  show (if (!weq xs[i] ys[i]) = true then _ else _) = some (weq xs[i] ys[i] && _)
  cases weq xs[i] ys[i] with
  | true => rw [if_neg (by simp), idx i (by omega), ih (i + 1) (by omega)]; rfl
  | false => rw [if_pos (show (!false) = true from rfl)]; rfl
def sameT (a b c d e : Int) (xs : List Wr) (a' b' c' d' e' : Int) (ys : List Wr) : Bool := ((a == a' && (b == b' && (c == c' && (d == d')))) && (e == e')) && decide (xs.length = ys.length) && eqb xs ys
theorem same_f (a b c d e : Int) (xs : List Wr) (a' b' c' d' e' : Int) (ys : List Wr) (hz : xs.length ≤ 1000) {k : Nat} (hk : xs.length + 1 ≤ k) : item_Same.f k a b c d e xs a' b' c' d' e' ys = some (sameT a b c d e xs a' b' c' d' e' ys) := by
 unfold item_Same.f sameT
 cases ((a == a' && (b == b' && (c == c' && (d == d')))) && (e == e')) with
 | false => rw [if_neg (by simp)]; rfl
 | true =>
  rw [if_pos rfl, Bool.true_and]
  unfold item_Write_86.f
  by_cases hl : xs.length = ys.length
  ·obtain ⟨K, rfl⟩ : ∃ m, k = m + xs.length + 1 := ⟨k - xs.length - 1, by omega⟩
   have h := same_l0 xs ys hl hz K xs.length 0 (by omega)
   rw [show ((0 : Nat) : Int) = 0 from rfl, List.drop_zero, List.drop_zero] at h
   rw [if_pos (by omega), h, Option.bind_some, decide_eq_true hl, Bool.true_and]
  ·rw [if_neg (by omega), Option.bind_some, decide_eq_false hl]; rfl
theorem apart_cons (x : Wr) (xs : List Wr) : item_Whole.apart (x :: xs) = (xs.all (fun y => !at1 x y) && item_Whole.apart xs) := rfl
theorem apart_snoc (w : Wr) : ∀ xs : List Wr, item_Whole.apart (xs ++ [w]) = (item_Whole.apart xs && xs.all (fun y => !at1 y w))
 | [] => rfl
 | x :: xs => by
  rw [List.cons_append, apart_cons, apart_snoc w xs, apart_cons, List.all_append, List.all_cons, List.all_cons, List.all_nil, Bool.and_true]
  generalize (xs.all fun y => !at1 x y) = A
  generalize (xs.all fun y => !at1 y w) = B
  generalize item_Whole.apart xs = C
  generalize (!at1 x w) = D
  cases A <;> cases B <;> cases C <;> cases D <;> rfl
theorem same_at1 (w y : Wr) (h : at1 y w = true) : same w y = true := by
 unfold at1 at h
 unfold same
 have h := of_decide_eq_true h
 have e0 : y.f0 = w.f0 := bl_inj (by unfold bl; rw [h.1])
 have e1 : y.f1 = w.f1 := bl_inj (by unfold bl; rw [h.2])
 rw [decide_eq_true e0, decide_eq_true e1]
 rfl
theorem apart_wrs : ∀ l out, item_Whole.apart out = true → item_Whole.apart (wrs 8 true l out) = true
 | [], out, h => h
 | p :: ps, out, h => by
  unfold wrs
  split
  ·split
   ·exact apart_wrs ps out h
   ·rename_i c
    refine apart_wrs ps _ ?_
    rw [apart_snoc, h, Bool.true_and, List.all_eq_true]
    intro y hy
    cases e : at1 y (wrt p (true || p.f1)) with
    | false => rfl
    | true =>
     exfalso
     apply c
     rw [Bool.true_and, List.any_eq_true]
     exact ⟨y, hy, same_at1 _ _ e⟩
  ·exact h
theorem wrt_okw (p : Pt) : okw (wrt p true) = true := by
 unfold wrt
 rw [if_pos rfl]
 have z : (⟨#[]⟩ : ByteArray).size = 0 := rfl
 by_cases c : 224 ≤ p.f2
 ·rw [if_pos c]
  refine decide_eq_true ⟨⟨?_, ?_⟩, ⟨?_, ?_⟩, ?_, fun _ => rfl⟩
  ·show 1 ≤ (strOfNums _).size; rw [str_size]; simp
  ·show (strOfNums _).size ≤ _; rw [str_size]; simp
  ·show 1 ≤ (strOfNums _).size; rw [str_size]; simp
  ·show (strOfNums _).size ≤ _; rw [str_size]; simp
  ·show (⟨#[]⟩ : ByteArray).size ≤ _; omega
 ·rw [if_neg c]
  refine decide_eq_true ⟨⟨?_, ?_⟩, ⟨?_, ?_⟩, ?_, fun h => absurd h (by simp)⟩
  ·show 1 ≤ (strOfNums _).size; rw [str_size]; simp
  ·show (strOfNums _).size ≤ _; rw [str_size]; simp
  ·show 1 ≤ (strOfNums _).size; rw [str_size]; simp
  ·show (strOfNums _).size ≤ _; rw [str_size]; simp
  ·show (ByteArray.extract _ _ _).size ≤ _; rw [ByteArray.size_extract]; omega
theorem deal_own4 (v0 v1 v2 v3 d : Int) (h0 : (Lit.int .u64 v0).wf = true) (h1 : (Lit.int .u64 v1).wf = true) (h2 : (Lit.int .u64 v2).wf = true) (o : Bool) (l : List Pt) (hl : ∀ p ∈ l, fits p.f0) (hz : l.length ≤ 4611686018427387904) {K : Nat} (hK : (l.length + 1) * 15 + 10 ≤ K) :
  ∃ (a b c g e : Nat) (xs : List Wr), tenementlaw15_Deal_deal.f K v0 v1 v2 v3 d o l true = some ((a : Int), (b : Int), (c : Int), (g : Int), (e : Int), xs) ∧ wh a b c g e xs = true ∧ (∀ x ∈ xs, fits x) ∧ xs.length ≤ 8 ∧ a ≤ 4 ∧ b ≤ 4 ∧ c ≤ 4 ∧ g ≤ 4 := by
 unfold tenementlaw15_Deal_deal.f
 obtain ⟨n0, n1, n2, n3, dc, em, hn4, _, _, hS⟩ := mark_own (v3 := v3) (d := d) h0 h1 h2 (k := K) (by omega)
 have ew := writes_f l 8 (by omega) true hl hz (K := K) (by omega)
 have hln := wrs_len 8 true l [] (by simp)
 have hap := apart_wrs l [] rfl
 have hok := wrs_all 8 true (fun x => okw x = true) l [] (fun p _ => wrt_okw p) (by simp)
 rw [show ((8 : Nat) : Int) = 8 from rfl] at ew
 rw [if_pos rfl, em, Option.bind_some, ew, Option.bind_some]
 by_cases c : ((wrs 8 true l []).length : Int) = 0
 ·rw [if_pos c]
  have z2 : (⟨#[98, 48]⟩ : ByteArray).size = 2 := rfl
  have z1 : (⟨#[97]⟩ : ByteArray).size = 1 := rfl
  have z3 : (⟨#[118]⟩ : ByteArray).size = 1 := rfl
  refine ⟨n0, n1, n2, n3, dc, _, rfl, ?_, ?_, by simp, hn4⟩
  ·unfold wh
   rw [decide_eq_true hS]
   have : okw (⟨(⟨#[98, 48]⟩ : ByteArray), (⟨#[97]⟩ : ByteArray), (⟨#[118]⟩ : ByteArray), false⟩ : Wr) = true := by
    refine decide_eq_true ⟨⟨?_, ?_⟩, ⟨?_, ?_⟩, ?_, fun h => absurd h (by simp)⟩
    ·show 1 ≤ (⟨#[98, 48]⟩ : ByteArray).size; omega
    ·show (⟨#[98, 48]⟩ : ByteArray).size ≤ _; omega
    ·show 1 ≤ (⟨#[97]⟩ : ByteArray).size; omega
    ·show (⟨#[97]⟩ : ByteArray).size ≤ _; omega
    ·show (⟨#[118]⟩ : ByteArray).size ≤ _; omega
   rw [List.all_cons, this, List.all_nil]
   rfl
  ·intro x hx1
   rw [List.mem_singleton.1 hx1]
   exact ⟨show (⟨#[98, 48]⟩ : ByteArray).size ≤ _ by omega, show (⟨#[97]⟩ : ByteArray).size ≤ _ by omega, show (⟨#[118]⟩ : ByteArray).size ≤ _ by omega⟩
 ·rw [if_neg c]
  refine ⟨n0, n1, n2, n3, dc, _, rfl, ?_, wrs_all 8 true fits l [] (fun p hp => wrt_fits p _ (hl p hp)) (by simp), hln, hn4⟩
  unfold wh
  rw [decide_eq_true hS, decide_eq_true (by omega), decide_eq_true hln, hap, List.all_eq_true.2 hok]
  rfl
def WL (x : Wr) : List Nat := vary x.f0.size ++ (bl x.f0 ++ (vary x.f1.size ++ (bl x.f1 ++ (if x.f3 = true then [1] else 0 :: (vary x.f2.size ++ bl x.f2)))))
theorem bl_wb (x : Wr) : bl (wb x) = WL x := by
 unfold wb WL
 by_cases c : x.f3 = true
 ·rw [if_pos c, if_pos c]
  simp only [bl_append, bl_vs, List.append_assoc]
  rfl
 ·rw [if_neg c, if_neg c]
  simp only [bl_append, bl_vs, List.append_assoc]
  rfl
theorem bl_enc : ∀ (xs : List Wr) (o : ByteArray), bl (enc o xs) = bl o ++ xs.flatMap WL
 | [], o => by simp [enc]
 | x :: xs, o => by
  show bl (enc (o ++ wb x) xs) = _
  rw [bl_enc xs, bl_append, bl_wb, List.flatMap_cons, List.append_assoc]
theorem text_prefix {t u : ByteArray} {r q : List Nat} (h : vary t.size ++ (bl t ++ r) = vary u.size ++ (bl u ++ q)) : t = u ∧ r = q := by
 obtain ⟨e, h⟩ := vary_prefix _ _ _ _ h
 obtain ⟨e1, e2⟩ := List.append_inj h (by rw [bl_length, bl_length, e])
 exact ⟨bl_inj e1, e2⟩
theorem gone_nil {x : Wr} (h : okw x = true) (c : x.f3 = true) : x.f2 = ⟨#[]⟩ := by
 have h : okW x.f0 x.f1 x.f2 x.f3 := of_decide_eq_true h
 have := h.2.2.2 c
 exact bl_nil.1 (List.eq_nil_of_length_eq_zero (by rw [bl_length, this]))
def TL (a b c g e : Nat) (xs : List Wr) : List Nat := e :: (rv a b c g ++ (xs.length :: xs.flatMap WL))
theorem be_small {n : Nat} (h : n < 256) : be 1 n = [n] := by simp [be]; omega
theorem bl_txn {a b c g e : Nat} {xs : List Wr} (h : wh a b c g e xs = true) : bl (enc (sp e a b c g ++ nb xs.length 1) xs) = TL a b c g e xs := by
 obtain ⟨hS, h0, h8, _, hok⟩ := wh_true h
 have hd := okS_dc hS
 unfold TL
 rw [bl_enc, bl_append, bl_sp, bl_nb, be_small (by omega), be_small (by omega)]
 simp only [List.append_assoc, List.singleton_append, List.cons_append, List.nil_append]
theorem WL_size {x : Wr} (h : okw x = true) : (WL x).length ≤ 100 := by
 rw [← bl_wb, bl_length]
 exact wb_size h
theorem WLs_size : ∀ xs : List Wr, (∀ x ∈ xs, okw x = true) → (xs.flatMap WL).length ≤ 100 * xs.length
 | [], _ => by simp
 | x :: xs, h => by
  have := WLs_size xs (fun y hy => h y (by simp [hy]))
  have := WL_size (h x (by simp))
  rw [List.flatMap_cons, List.length_append, List.length_cons]
  omega
theorem txn_size {a b c g e : Nat} {xs : List Wr} {s : ByteArray} (h : wh a b c g e xs = true) (hs : bl s = TL a b c g e xs) : s.size ≤ 100000 ∧ 1 ≤ s.size := by
 obtain ⟨hS, h0, h8, _, hok⟩ := wh_true h
 have hb := hS.1
 have hv := WLs_size xs hok
 have := (vv_size (a := a) (b := b) (c := c) (d := g) (by omega) (by omega) (by omega) (by omega)).1
 rw [← bl_length, bl_vv] at this
 rw [← bl_length, hs]
 unfold TL
 simp only [List.length_cons, List.length_append]
 omega
end Go.Proofs.Ytoagfdpgnfinhaa.Pure

set_option linter.unusedVariables false
set_option linter.unusedSimpArgs false
namespace Go.Proofs.Ytoagfdpgnfinhaa.Pure
open Go.RowKit Go.Proofs.Ytoagfdpgnfinhaa.Q Go.Proofs.YtoagfdpgnfinhaaW.PrintWords Go.Proofs.YtoagfdpgnfinhaaW.PrintLast Go.Proofs.YtoagfdpgnfinhaaW.PrintMore Go.Proofs.Ytoagfdpgnfinhaa.Plain Go.Proofs.Ytoagfdpgnfinhaa.CrcN
def okM (kind frm n a b c d e : Int) (xs : List Wr) : Bool :=
 decide (1 ≤ frm ∧ frm ≤ 4) && (if kind = 1 then (wh a b c d e xs && decide (n = own a b c d e)) else if kind = 2 then (decide (n ≤ 1152921504606846976) && sameT a b c d e xs 0 0 0 0 0 []) else false)
theorem stampN (a b c d e : Int) : stamp_Stamp_N.f a b c d e = some (own a b c d e) := rfl
theorem mright_f (kind frm n a b c d e : Int) (xs : List Wr) (hx : ∀ x ∈ xs, fits x) (hz : xs.length ≤ 1000) {k : Nat} (hk : xs.length + 2 ≤ k) : stream_Right.f k kind frm n a b c d e xs = some (okM kind frm n a b c d e xs) := by
 obtain ⟨k, rfl⟩ : ∃ m, k = m + 1 := ⟨k - 1, by omega⟩
 have J : ∀ x : Bool, stream_Right.j0 (k + 1) x kind frm n a b c d e xs = some (if x = true then false else (if kind = 1 then (wh a b c d e xs && decide (n = own a b c d e)) else if kind = 2 then (decide (n ≤ 1152921504606846976) && sameT a b c d e xs 0 0 0 0 0 []) else false)) := by
  intro x
  rw [stream_Right.j0]
  by_cases h0 : x = true
  ·rw [if_pos h0, if_pos h0]
  rw [if_neg h0, if_neg h0]
  by_cases h1 : kind = 1
  ·rw [if_pos h1, if_pos h1, whole_f _ _ _ _ _ xs hx (by omega), Option.bind_some]
   cases hw : wh a b c d e xs with
   | false => rw [if_neg (by simp)]; rfl
   | true =>
    rw [if_pos rfl, stampN, Option.bind_some, Bool.true_and]
    congr 1
  rw [if_neg h1, if_neg h1]
  by_cases h2 : kind = 2
  ·rw [if_pos h2, if_pos h2]
   by_cases h3 : n ≤ 1152921504606846976
   ·rw [if_pos h3, same_f a b c d e xs 0 0 0 0 0 [] hz (by omega), Option.bind_some, decide_eq_true h3, Bool.true_and]
   ·rw [if_neg h3, decide_eq_false h3, Bool.false_and]
  ·rw [if_neg h2, if_neg h2]
 unfold stream_Right.f okM
 by_cases f1 : frm < 1
 ·rw [if_pos f1, J, if_pos rfl, decide_eq_false (show ¬ (1 ≤ frm ∧ frm ≤ 4) by omega), Bool.false_and]
 rw [if_neg f1, J]
 by_cases f4 : frm > 4
 ·rw [decide_eq_true f4, if_pos rfl, decide_eq_false (show ¬ (1 ≤ frm ∧ frm ≤ 4) by omega), Bool.false_and]
 ·rw [decide_eq_false f4, if_neg (by simp), decide_eq_true (show 1 ≤ frm ∧ frm ≤ 4 by omega), Bool.true_and]
theorem mput_no {kind frm n a b c d e : Int} {xs : List Wr} (hx : ∀ x ∈ xs, fits x) (hz : xs.length ≤ 1000) (h : okM kind frm n a b c d e xs = false) {k : Nat} (hk : xs.length + 2 ≤ k) : stream_Put.f k kind frm n a b c d e xs = some (⟨#[]⟩, false) := by
 unfold stream_Put.f
 rw [mright_f kind frm n a b c d e xs hx hz hk, h, Option.bind_some, if_neg (by simp)]
def mq (kind frm n a b c d e : Nat) (xs : List Wr) : ByteArray := if kind = 1 then ((nb kind 1 ++ nb frm 1) ++ vs n) ++ (vs (enc (sp e a b c d ++ nb xs.length 1) xs).size ++ enc (sp e a b c d ++ nb xs.length 1) xs) else (nb kind 1 ++ nb frm 1) ++ vs n
def sealq (q : ByteArray) : ByteArray := q ++ nb (sum (bl q)) 4
theorem okM_kind {kind frm n a b c d e : Nat} {xs : List Wr} (h : okM kind frm n a b c d e xs = true) : (1 ≤ frm ∧ frm ≤ 4) ∧ ((kind = 1 ∧ wh a b c d e xs = true ∧ (n : Int) = own a b c d e) ∨ (kind = 2 ∧ n ≤ 1152921504606846976 ∧ a = 0 ∧ b = 0 ∧ c = 0 ∧ d = 0 ∧ e = 0 ∧ xs = [])) := by
 unfold okM at h
 rw [Bool.and_eq_true, decide_eq_true_eq] at h
 obtain ⟨hf, hkind⟩ := h
 refine ⟨by omega, ?_⟩
 by_cases c1 : (kind : Int) = 1
 ·rw [if_pos c1, Bool.and_eq_true, decide_eq_true_eq] at hkind
  exact Or.inl ⟨by omega, hkind.1, hkind.2⟩
 ·rw [if_neg c1] at hkind
  by_cases c2 : (kind : Int) = 2
  ·rw [if_pos c2, Bool.and_eq_true, decide_eq_true_eq] at hkind
   have hs := hkind.2
   unfold sameT at hs
   simp only [Bool.and_eq_true, decide_eq_true_eq, List.length_nil, beq_iff_eq] at hs
   obtain ⟨⟨⟨⟨h0, h1, h2, h3⟩, h4⟩, hl⟩, _⟩ := hs
   exact Or.inr ⟨by omega, by omega, by omega, by omega, by omega, by omega, by omega, List.eq_nil_of_length_eq_zero hl⟩
  ·rw [if_neg c2] at hkind; simp at hkind
theorem pre_size {kind frm n : Nat} (hn : n < 18446744073709551616) : ((nb kind 1 ++ nb frm 1) ++ vs n).size ≤ 12 ∧ 2 ≤ ((nb kind 1 ++ nb frm 1) ++ vs n).size := by
 have s1 := nb_size kind 1
 have s2 := nb_size frm 1
 have hv : (vs n).size ≤ 10 := by rw [vs_size]; exact vary_len_ten hn
 rw [ByteArray.size_append, ByteArray.size_append]
 omega
theorem own_u64 {n a b c d e : Nat} {xs : List Wr} (h : wh a b c d e xs = true) (hn : (n : Int) = own a b c d e) : n ≤ 1152921504606846976 := by
 have hS := (wh_true h).1
 have hb := hS.1
 unfold own at hn
 split at hn
 ·omega
 split at hn
 ·omega
 split at hn
 ·omega
 split at hn <;> omega
theorem mput_ok {kind frm n a b c d e : Nat} {xs : List Wr} (hx : ∀ x ∈ xs, fits x) (hz : xs.length ≤ 1000) (h : okM kind frm n a b c d e xs = true) {k : Nat} (hk : 1300 ≤ k) :
  stream_Put.f k kind frm n a b c d e xs = some (sealq (mq kind frm n a b c d e xs), true) ∧ 2 ≤ (mq kind frm n a b c d e xs).size ∧ (mq kind frm n a b c d e xs).size ≤ 100100 := by
 have hr := mright_f kind frm n a b c d e xs hx hz (k := k) (by omega)
 obtain ⟨hf, hk2⟩ := okM_kind h
 have hn : n < 18446744073709551616 := by
  rcases hk2 with ⟨_, hw, e1⟩ | ⟨_, h2, _⟩
  ·have := own_u64 hw e1; omega
  ·omega
 have e1 : IntKind.u64.wrap (kind : Int) = (kind : Int) := by simp only [IntKind.wrap_u64]; omega
 have e2 : IntKind.u64.wrap (frm : Int) = (frm : Int) := by simp only [IntKind.wrap_u64]; omega
 have s1 := nb_size kind 1
 have s2 := nb_size frm 1
 have hv : (vs n).size ≤ 10 := by rw [vs_size]; exact vary_len_ten hn
 have hp := pre_size (kind := kind) (frm := frm) hn
 unfold stream_Put.f mq
 rw [hr, h, Option.bind_some, if_pos rfl, e1, Number_f kind 1 (by omega) (by omega), Option.bind_some, e2, Number_f frm 1 (by omega) (by omega), Option.bind_some]
 simp only [show (1 : Int).toNat = 1 from rfl]
 have s3 : (nb kind 1 ++ nb frm 1).size = 2 := by rw [ByteArray.size_append]; omega
 rw [if_pos (by omega), Vary_f hn (by omega), Option.bind_some, if_pos (by omega)]
 generalize (nb kind 1 ++ nb frm 1) ++ vs n = p at *
 have fin : ∀ q : ByteArray, q.size ≤ 1000000 → ((crc_Sum.f k q).bind fun t157 => ((pack_Number.f (IntKind.u64.wrap t157) 4).bind fun t158 => (if q.size + t158.size ≤ 9223372036854775807 then (some (q ++ t158, true)) else none))) = some (sealq q, true) := by
  intro q hq
  have hs : sum (bl q) < 2 ^ 32 := sum_lt (bl_lt q)
  have ew : IntKind.u64.wrap ((sum (bl q) : Nat) : Int) = ((sum (bl q) : Nat) : Int) := by simp only [IntKind.wrap_u64]; omega
  rw [Sum_f (by omega) (by omega), Option.bind_some, ew, Number_f _ 4 (by omega) (by omega), Option.bind_some]
  have := nb_size (sum (bl q)) 4
  show (if q.size + (nb (sum (bl q)) 4).size ≤ 9223372036854775807 then _ else _) = some (q ++ nb (sum (bl q)) 4, true)
  rw [if_pos (by omega)]
  rfl
 rcases hk2 with ⟨rfl, hw, _⟩ | ⟨rfl, _, rfl, rfl, rfl, rfl, rfl, rfl⟩
 ·have ht := txn_size hw (bl_txn hw)
  rw [ibytes_true hw hx (by omega), Option.bind_some, if_pos rfl, if_pos rfl]
  generalize enc (sp e a b c d ++ nb xs.length 1) xs = u at *
  have hv2 : (vs u.size).size ≤ 10 := by rw [vs_size]; exact vary_len_ten (by omega)
  have s6 : (vs u.size ++ u).size ≤ 100010 := by rw [ByteArray.size_append]; omega
  have s7 : (p ++ (vs u.size ++ u)).size ≤ 100100 ∧ 2 ≤ (p ++ (vs u.size ++ u)).size := by rw [ByteArray.size_append]; omega
  refine ⟨?_, s7.2, s7.1⟩
  show (pack_Text.f k u).bind _ = some (_, true)
  rw [Text_f (by omega) (by omega), Option.bind_some, if_pos (by omega)]
  exact fin _ (by omega)
 ·have hw : wh ((0 : Nat) : Int) ((0 : Nat) : Int) ((0 : Nat) : Int) ((0 : Nat) : Int) ((0 : Nat) : Int) ([] : List Wr) = false := by
   unfold wh
   rw [decide_eq_false (show ¬ 0 < ([] : List Wr).length by simp)]
   simp
  have hb : item_Bytes.f k ((0 : Nat) : Int) ((0 : Nat) : Int) ((0 : Nat) : Int) ((0 : Nat) : Int) ((0 : Nat) : Int) ([] : List Wr) = some (⟨#[]⟩, false) := by
   unfold item_Bytes.f
   rw [whole_f _ _ _ _ _ [] hx (by simp), hw, Option.bind_some, if_neg (by simp)]
  rw [hb, Option.bind_some, if_neg (by simp), if_neg (by decide)]
  exact ⟨fin _ (by omega), by omega, by omega⟩
end Go.Proofs.Ytoagfdpgnfinhaa.Pure
