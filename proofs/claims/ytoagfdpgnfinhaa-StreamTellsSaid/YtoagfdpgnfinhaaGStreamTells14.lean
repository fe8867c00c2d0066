import Derived.Test.YtoagfdpgnfinhaaGStreamTells2
import Derived.Test.YtoagfdpgnfinhaaGStreamTells13
import Derived.Test.YtoagfdpgnfinhaaGStreamTells3
import Derived.Test.YtoagfdpgnfinhaaGStreamTells4
import Derived.Test.YtoagfdpgnfinhaaGStreamTells12
import Derived.Test.YtoagfdpgnfinhaaGStreamTells5
import Derived.Test.YtoagfdpgnfinhaaGStreamTells6
import Derived.Test.YtoagfdpgnfinhaaGStreamTells7
import Derived.Test.YtoagfdpgnfinhaaGStreamTells8
import Derived.Test.YtoagfdpgnfinhaaGStreamTells0
namespace Go.Proofs.Ytoagfdpgnfinhaa.Q
open Go.RowKit Go.Proofs.YtoagfdpgnfinhaaW.PrintWords Go.Proofs.YtoagfdpgnfinhaaW.PrintLast Go.Proofs.YtoagfdpgnfinhaaW.PrintMore
attribute [local go_sem] max2_int min2_int max_two min_two max_three min_three max_four min_four   -- for this text's walks alone
set_option linter.unusedVariables false
set_option linter.unusedSimpArgs false
def tenementlaw15_Letter_letter.f (k : Nat) (a0_0 : Int) (a0_1 : Int) (a0_2 : Int) (a0_3 : Int) (a0_4 : Int) (a0_5 : Int) (a0_6 : Int) (a0_7 : Int) (a0_8 : Bool) (l0_9 : List (S159)) (a0_10 : Bool) (a0_11 : Bool) : Option (Int × Int × Int × Int × Int × Int × Int × Int × (List (S107))) := if a0_11 = true then (if (wrap64 (1 + (wrap64 (Int.tmod (IntKind.u64.wrap (a0_0)) 2)))) = 1 then ((tenementlaw15_Deal_deal.f k a0_3 a0_4 a0_5 a0_6 a0_7 a0_8 l0_9 true).bind fun bt359 => ((stamp_Stamp_N.f bt359.1 bt359.2.1 bt359.2.2.1 bt359.2.2.2.1 bt359.2.2.2.2.1).bind fun t367 => (some (wrap64 (1 + (wrap64 (Int.tmod (IntKind.u64.wrap (a0_0)) 2))), wrap64 (1 + (wrap64 (Int.tmod (IntKind.u64.wrap (a0_1)) 4))), t367, bt359.1, bt359.2.1, bt359.2.2.1, bt359.2.2.2.1, bt359.2.2.2.2.1, bt359.2.2.2.2.2)))) else (some (wrap64 (1 + (wrap64 (Int.tmod (IntKind.u64.wrap (a0_0)) 2))), wrap64 (1 + (wrap64 (Int.tmod (IntKind.u64.wrap (a0_1)) 4))), Int.tmod a0_2 9, 0, 0, 0, 0, 0, ([] : List (S107))))) else ((tenementlaw15_Deal_deal.f k a0_3 a0_4 a0_5 a0_6 a0_7 a0_8 l0_9 a0_10).bind fun bt350 => (some (a0_0, a0_1, a0_2, bt350.1, bt350.2.1, bt350.2.2.1, bt350.2.2.2.1, bt350.2.2.2.2.1, bt350.2.2.2.2.2)))
def tenementlaw15_Letter_letter.T2 : Bool × List (List Nat × List Nat) := (true, [([], []), ([0], [0]), ([], []), ([2], [2]), ([], []), ([4], [4]), ([], []), ([6], [6]), ([7], [7]), ([1, 3, 5, 8], [1, 3, 5, 8]), ([9, 8, 0, 1, 2, 3, 4, 5, 6, 7, 8, 9], [9])])
def tenementlaw15_Letter_letter.B2 : List Nat := [0, 1, 0, 4, 0, 16, 0, 64, 192, 511, 1023]
theorem tenementlaw15_Letter_letter.tab2 : rtab .any (opsOf Try.f26 2) = tenementlaw15_Letter_letter.T2 := by kernel_rfl
theorem tenementlaw15_Letter_letter.bits2 : waitsOk tenementlaw15_Letter_letter.T2.2 tenementlaw15_Letter_letter.B2 = true := by kernel_rfl
set_option maxHeartbeats 8000000 in
set_option maxRecDepth 100000 in
theorem tenementlaw15_Letter_letter.calls (k : Nat) (a0_0 : Int) (a0_1 : Int) (a0_2 : Int) (a0_3 : Int) (a0_4 : Int) (a0_5 : Int) (a0_6 : Int) (a0_7 : Int) (a0_8 : Bool) (A0_9 : Option Addr) (c0_9 : Nat) (l0_9 : List (S159)) (a0_10 : Bool) (a0_11 : Bool) (r1 : Int) (r2 : Int) (r3 : Int) (r4 : Int) (r5 : Int) (r6 : Int) (r7 : Int) (r8 : Int) (r9 : List (S107)) (w : World) (hr0_9 : Kd.C k159 w A0_9 l0_9.length l0_9) (hc0_9 : l0_9.length ≤ c0_9) (h : tenementlaw15_Letter_letter.f k a0_0 a0_1 a0_2 a0_3 a0_4 a0_5 a0_6 a0_7 a0_8 l0_9 a0_10 a0_11 = some (r1, r2, r3, r4, r5, r6, r7, r8, r9)) :
  Calls Try.prog 26 #[.agg #[.int .i64 a0_0, .int .i64 a0_1, .int .u64 a0_2, .int .u64 a0_3, .int .u64 a0_4, .int .u64 a0_5, .int .u64 a0_6, .int .i64 a0_7, .bool a0_8, .slice A0_9 l0_9.length c0_9, .bool a0_10, .bool a0_11]] w fun e w' => ∃ v8_ : Value, e = .returned (.agg #[.int .i64 r1, .int .i64 r2, .int .u64 r3, .int .u64 r4, .int .u64 r5, .int .u64 r6, .int .u64 r7, .int .i64 r8, v8_]) ∧ Kd.R k107 107 w' w.heap.size (fun _ => True) v8_ r9 ∧ Below w.heap.size w w' := by
 have hu65 := Try.underlying65
 have hu69 := Try.underlying69
 have hu42 := Try.underlying42
 have hu33 := Try.underlying33
 have hu30 := Try.underlying30
 have HR0_9 := Aside0.mk hr0_9
 have HC0_9 := Aside0.mk hc0_9
 clear hr0_9 hc0_9
 have HB := Aside0.mk (Below.refl w.heap.size w)
 have H : (if a0_11 = true then (if (wrap64 (1 + (wrap64 (Int.tmod (IntKind.u64.wrap (a0_0)) 2)))) = 1 then ((tenementlaw15_Deal_deal.f k a0_3 a0_4 a0_5 a0_6 a0_7 a0_8 l0_9 true).bind fun bt359 => ((stamp_Stamp_N.f bt359.1 bt359.2.1 bt359.2.2.1 bt359.2.2.2.1 bt359.2.2.2.2.1).bind fun t367 => (some (wrap64 (1 + (wrap64 (Int.tmod (IntKind.u64.wrap (a0_0)) 2))), wrap64 (1 + (wrap64 (Int.tmod (IntKind.u64.wrap (a0_1)) 4))), t367, bt359.1, bt359.2.1, bt359.2.2.1, bt359.2.2.2.1, bt359.2.2.2.2.1, bt359.2.2.2.2.2)))) else (some (wrap64 (1 + (wrap64 (Int.tmod (IntKind.u64.wrap (a0_0)) 2))), wrap64 (1 + (wrap64 (Int.tmod (IntKind.u64.wrap (a0_1)) 4))), Int.tmod a0_2 9, 0, 0, 0, 0, 0, ([] : List (S107))))) else ((tenementlaw15_Deal_deal.f k a0_3 a0_4 a0_5 a0_6 a0_7 a0_8 l0_9 a0_10).bind fun bt350 => (some (a0_0, a0_1, a0_2, bt350.1, bt350.2.1, bt350.2.2.1, bt350.2.2.2.1, bt350.2.2.2.2.1, bt350.2.2.2.2.2)))) = some (r1, r2, r3, r4, r5, r6, r7, r8, r9) := h
 clear h
 by_cases c2 : a0_11 = true
 rotate_left
 ·replace c2 := Bool.eq_false_iff.mpr c2
  subst c2
  have H1 : ((tenementlaw15_Deal_deal.f k a0_3 a0_4 a0_5 a0_6 a0_7 a0_8 l0_9 a0_10).bind fun bt350 => (some (a0_0, a0_1, a0_2, bt350.1, bt350.2.1, bt350.2.2.1, bt350.2.2.2.1, bt350.2.2.2.2.1, bt350.2.2.2.2.2))) = some (r1, r2, r3, r4, r5, r6, r7, r8, r9) := by rw [if_neg (show ¬ (false = true) by decide)] at H; exact H
  clear H
  have H := H1
  clear H1
  replace H := Option.bind_eq_some_iff.mp H
  obtain ⟨⟨t350, t351, t352, t353, t354, t355⟩, A300, H⟩ := H
  replace H : (some (a0_0, a0_1, a0_2, t350, t351, t352, t353, t354, t355)) = some (r1, r2, r3, r4, r5, r6, r7, r8, r9) := H
  have A30 := Aside0.mk A300
  clear A300
  simp only [Option.some.injEq, Prod.mk.injEq] at H
  obtain ⟨rfl, rfl, rfl, rfl, rfl, rfl, rfl, rfl, rfl⟩ := H
  go_enter Try.func26, Try.ntmps26
  try go_wp2_with (first | ((with_reducible refine gate_dst (N := 1) rfl ?_); refine Ka_ 1 #[.int .i64 a0_0, .int .i64 a0_1, .int .u64 a0_2, .int .u64 a0_3, .int .u64 a0_4, .int .u64 a0_5, .int .u64 a0_6, .int .i64 a0_7, .bool a0_8, .slice A0_9 l0_9.length c0_9, .bool a0_10, .bool false] 65 ?_; intro gb348 hg w31 hbox hb; have BK348 := Aside0.mk (hbox); have GW348 := Kw_ HB hg; have GE348 := GW348; replace HB := Ks_ HB hb; clear hb hbox hg) | ((with_reducible refine gate_dst (N := 2) rfl ?_); refine Ka_ 2 #[.int .i64 0, .int .i64 0, .int .u64 0, .int .u64 0, .int .u64 0, .int .u64 0, .int .u64 0, .int .i64 0, .slice none 0 0] 69 ?_; intro gb349 hg w32 hbox hb; have BK349 := Aside0.mk (hbox); have GW349 := Kw_ HB hg; have GE349 := GW349; have NB348_349 := Kl_ BK348 hg; have NB349_348 := Kr_ BK348 hg; replace BK348 := Kb_ BK348 hb; replace HB := Ks_ HB hb; clear hb hbox hg; have hnb33 := NB348_349.out; have hnc33 := NB349_348.out; have hcz34_0 : w32.cell? ⟨gb348, 0, none⟩ = some (.int .i64 a0_0) := (blk_cell BK348.out 0).trans rfl; have hcz34_1 : w32.cell? ⟨gb348, 1, none⟩ = some (.int .i64 a0_1) := (blk_cell BK348.out 1).trans rfl; have hcz34_2 : w32.cell? ⟨gb348, 2, none⟩ = some (.int .u64 a0_2) := (blk_cell BK348.out 2).trans rfl; have hcz34_3 : w32.cell? ⟨gb348, 3, none⟩ = some (.int .u64 a0_3) := (blk_cell BK348.out 3).trans rfl; have hcz34_4 : w32.cell? ⟨gb348, 4, none⟩ = some (.int .u64 a0_4) := (blk_cell BK348.out 4).trans rfl; have hcz34_5 : w32.cell? ⟨gb348, 5, none⟩ = some (.int .u64 a0_5) := (blk_cell BK348.out 5).trans rfl; have hcz34_6 : w32.cell? ⟨gb348, 6, none⟩ = some (.int .u64 a0_6) := (blk_cell BK348.out 6).trans rfl; have hcz34_7 : w32.cell? ⟨gb348, 7, none⟩ = some (.int .i64 a0_7) := (blk_cell BK348.out 7).trans rfl; have hcz34_8 : w32.cell? ⟨gb348, 8, none⟩ = some (.bool a0_8) := (blk_cell BK348.out 8).trans rfl; have hcz34_9 : w32.cell? ⟨gb348, 9, none⟩ = some (.slice A0_9 l0_9.length c0_9) := (blk_cell BK348.out 9).trans rfl; have hcz34_10 : w32.cell? ⟨gb348, 10, none⟩ = some (.bool a0_10) := (blk_cell BK348.out 10).trans rfl; have hcz34_11 : w32.cell? ⟨gb348, 11, none⟩ = some (.bool false) := (blk_cell BK348.out 11).trans rfl; have hfz34_0 := blk_frozen BK348.out 0; have hfz34_1 := blk_frozen BK348.out 1; have hfz34_2 := blk_frozen BK348.out 2; have hfz34_3 := blk_frozen BK348.out 3; have hfz34_4 := blk_frozen BK348.out 4; have hfz34_5 := blk_frozen BK348.out 5; have hfz34_6 := blk_frozen BK348.out 6; have hfz34_7 := blk_frozen BK348.out 7; have hfz34_8 := blk_frozen BK348.out 8; have hfz34_9 := blk_frozen BK348.out 9; have hfz34_10 := blk_frozen BK348.out 10; have hfz34_11 := blk_frozen BK348.out 11))
  replace BK348 := Kd_ BK348
  replace BK349 := Kd_ BK349
  replace HB := Aside0.mk (below_drew1 HB.out)
  refine start_ (n := 11) (S := fun w' => w'.cell? ⟨gb348, 0, none⟩ = some (.int .i64 a0_0) ∧ w'.cell? ⟨gb348, 1, none⟩ = some (.int .i64 a0_1) ∧ w'.cell? ⟨gb348, 2, none⟩ = some (.int .u64 a0_2) ∧ w'.cell? ⟨gb348, 3, none⟩ = some (.int .u64 a0_3) ∧ w'.cell? ⟨gb348, 4, none⟩ = some (.int .u64 a0_4) ∧ w'.cell? ⟨gb348, 5, none⟩ = some (.int .u64 a0_5) ∧ w'.cell? ⟨gb348, 6, none⟩ = some (.int .u64 a0_6) ∧ w'.cell? ⟨gb348, 7, none⟩ = some (.int .i64 a0_7) ∧ w'.cell? ⟨gb348, 8, none⟩ = some (.bool a0_8) ∧ w'.cell? ⟨gb348, 9, none⟩ = some (.slice A0_9 l0_9.length c0_9) ∧ w'.cell? ⟨gb348, 10, none⟩ = some (.bool a0_10) ∧ w'.cell? ⟨gb348, 11, none⟩ = some (.bool false)) (ds := []) (mB_ 11 0) (by kernel_rfl) rfl rfl ⟨Km_ BK348 0, Km_ BK348 1, Km_ BK348 2, Km_ BK348 3, Km_ BK348 4, Km_ BK348 5, Km_ BK348 6, Km_ BK348 7, Km_ BK348 8, Km_ BK348 9, Km_ BK348 10, Km_ BK348 11⟩ (fun hHeld => ?_); refine with_tabW tenementlaw15_Letter_letter.tab2 tenementlaw15_Letter_letter.bits2 (fun HT_ HW_ => ?_)
  generalize w32.drew = w35 at BK348 BK349 HB hHeld ⊢
  refine Kp_ 0 7 (mB_ 11 1) (any_of HT_.out (by kernel_rfl)) ?_
  refine Kp_ 2 9 (mB_ 11 5) (any_of HT_.out (by kernel_rfl)) ?_
  refine Kp_ 4 11 (mB_ 11 21) (any_of HT_.out (by kernel_rfl)) ?_
  refine Kp_ 6 13 (mB_ 11 85) (any_of HT_.out (by kernel_rfl)) ?_
  refine Ko_ 1 8 (mB_ 11 87) (take_ofW HT_.out HW_.out (by kernel_rfl)) hHeld ?_
  refine Ko_ 3 10 (mB_ 11 95) (take_ofW HT_.out HW_.out (by kernel_rfl)) hHeld ?_
  refine Ko_ 5 12 (mB_ 11 127) (take_ofW HT_.out HW_.out (by kernel_rfl)) hHeld ?_
  refine Ko_ 7 14 (mB_ 11 255) (take_ofW HT_.out HW_.out (by kernel_rfl)) hHeld ?_
  refine one_ (i := 8) (N := some 15) (mB_ 11 511) rfl rfl (one_of HT_.out (by kernel_rfl)) (by decide) (fun K hK => ?_)
  refine goes_ Try.func19 (by kernel_rfl) rfl #[.agg #[.int .u64 a0_3, .int .u64 a0_4, .int .u64 a0_5, .int .u64 a0_6, .int .i64 a0_7, .bool a0_8, .slice A0_9 l0_9.length c0_9, .bool a0_10]] (by rfl) rfl rfl (by (try simp only [List.map_toArray, List.map_cons, List.map_nil]); first | done | rfl | (simp only [List.length_drop, List.length_take]; rfl)) ?_
  with_reducible refine (tenementlaw15_Deal_deal.calls k a0_3 a0_4 a0_5 a0_6 a0_7 a0_8 _ _ l0_9 a0_10 t350 t351 t352 t353 t354 t355 _ ?side1 ?side2 A30.out).mono ?_
  (case side1 => repeat (first | exact (Kd.C_below HR0_9.out HB.out) | (with_reducible refine Kd.C_alloc ?_ _) | (with_reducible refine Kd.C_drewN ?_ _) | (with_reducible refine Kd.C_drew ?_)))
  (case side2 => exact HC0_9.out)
  rintro e w36 ⟨v356, rfl, ho0, hb⟩
  refine ⟨_, rfl, ?_⟩
  have HO357 := Aside0.mk (Kd.R_lower ho0 (below_size (K2a_ HB GE348 GE349)))
  replace BK348 := Kb_ BK348 hb
  replace BK349 := Kb_ BK349 hb
  replace HB := Ks_ HB hb
  (try clear hb)
  (try clear hb2)
  (try clear hk)
  (try clear hi)
  (try clear ho0)
  obtain ⟨Ao37, co37, eo37⟩ := Kd.R_slice HO357.out
  (first | subst eo37 | (injection eo37 with f1_ f2_ f3_; have f4_ := f1_.symm; have f5_ := f3_.symm; clear f1_ f2_ f3_; subst f4_; subst f5_))
  refine hK.out _ _ ⟨Km_ BK348 0, Km_ BK348 1, Km_ BK348 2, Km_ BK348 3, Km_ BK348 4, Km_ BK348 5, Km_ BK348 6, Km_ BK348 7, Km_ BK348 8, Km_ BK348 9, Km_ BK348 10, Km_ BK348 11⟩ (fun hHeld => ?_)
  clear hK K
  refine Kn_ 15 ?_
  refine Kp_ 9 16 (mB_ 11 1023) (any_of HT_.out (by kernel_rfl)) ?_
  refine one_ (i := 10) (N := none) (mB_ 11 2047) rfl rfl (one_of HT_.out (by kernel_rfl)) (by decide) (fun K hK => ?_)
  have hs38 : w36.cell? ⟨gb349, 0, none⟩ = some (.int .i64 0) := (blk_cell BK349.out 0).trans rfl
  have hfs38 := blk_frozen BK349.out 0
  have hns38_0 := NB348_349.out
  have hms38_0 := NB349_348.out
  have hs39 : w36.cell? ⟨gb349, 1, none⟩ = some (.int .i64 0) := (blk_cell BK349.out 1).trans rfl
  have hfs39 := blk_frozen BK349.out 1
  have hns39_0 := NB348_349.out
  have hms39_0 := NB349_348.out
  have hs40 : w36.cell? ⟨gb349, 2, none⟩ = some (.int .u64 0) := (blk_cell BK349.out 2).trans rfl
  have hfs40 := blk_frozen BK349.out 2
  have hns40_0 := NB348_349.out
  have hms40_0 := NB349_348.out
  have hs41 : w36.cell? ⟨gb349, 3, none⟩ = some (.int .u64 0) := (blk_cell BK349.out 3).trans rfl
  have hfs41 := blk_frozen BK349.out 3
  have hns41_0 := NB348_349.out
  have hms41_0 := NB349_348.out
  have hs42 : w36.cell? ⟨gb349, 4, none⟩ = some (.int .u64 0) := (blk_cell BK349.out 4).trans rfl
  have hfs42 := blk_frozen BK349.out 4
  have hns42_0 := NB348_349.out
  have hms42_0 := NB349_348.out
  have hs43 : w36.cell? ⟨gb349, 5, none⟩ = some (.int .u64 0) := (blk_cell BK349.out 5).trans rfl
  have hfs43 := blk_frozen BK349.out 5
  have hns43_0 := NB348_349.out
  have hms43_0 := NB349_348.out
  have hs44 : w36.cell? ⟨gb349, 6, none⟩ = some (.int .u64 0) := (blk_cell BK349.out 6).trans rfl
  have hfs44 := blk_frozen BK349.out 6
  have hns44_0 := NB348_349.out
  have hms44_0 := NB349_348.out
  have hs45 : w36.cell? ⟨gb349, 7, none⟩ = some (.int .i64 0) := (blk_cell BK349.out 7).trans rfl
  have hfs45 := blk_frozen BK349.out 7
  have hns45_0 := NB348_349.out
  have hms45_0 := NB349_348.out
  have hs46 : w36.cell? ⟨gb349, 8, none⟩ = some (.slice none 0 0) := (blk_cell BK349.out 8).trans rfl
  have hfs46 := blk_frozen BK349.out 8
  have hns46_0 := NB348_349.out
  have hms46_0 := NB349_348.out
  refine skip_ (w1 := ?_) (by rfl) rfl ?_ ?_
  rotate_left
  ·go_simp
   rfl
  refine hK.out _ _ ⟨(Kj_ NB348_349 ((Kj_ NB348_349 ((Kj_ NB348_349 ((Kj_ NB348_349 ((Kj_ NB348_349 ((Kj_ NB348_349 ((Kj_ NB348_349 ((Kj_ NB348_349 ((Kj_ NB348_349 (hHeld.1)))))))))))))))))), (Kj_ NB348_349 ((Kj_ NB348_349 ((Kj_ NB348_349 ((Kj_ NB348_349 ((Kj_ NB348_349 ((Kj_ NB348_349 ((Kj_ NB348_349 ((Kj_ NB348_349 ((Kj_ NB348_349 (hHeld.2.1)))))))))))))))))), (Kj_ NB348_349 ((Kj_ NB348_349 ((Kj_ NB348_349 ((Kj_ NB348_349 ((Kj_ NB348_349 ((Kj_ NB348_349 ((Kj_ NB348_349 ((Kj_ NB348_349 ((Kj_ NB348_349 (hHeld.2.2.1)))))))))))))))))), (Kj_ NB348_349 ((Kj_ NB348_349 ((Kj_ NB348_349 ((Kj_ NB348_349 ((Kj_ NB348_349 ((Kj_ NB348_349 ((Kj_ NB348_349 ((Kj_ NB348_349 ((Kj_ NB348_349 (hHeld.2.2.2.1)))))))))))))))))), (Kj_ NB348_349 ((Kj_ NB348_349 ((Kj_ NB348_349 ((Kj_ NB348_349 ((Kj_ NB348_349 ((Kj_ NB348_349 ((Kj_ NB348_349 ((Kj_ NB348_349 ((Kj_ NB348_349 (hHeld.2.2.2.2.1)))))))))))))))))), (Kj_ NB348_349 ((Kj_ NB348_349 ((Kj_ NB348_349 ((Kj_ NB348_349 ((Kj_ NB348_349 ((Kj_ NB348_349 ((Kj_ NB348_349 ((Kj_ NB348_349 ((Kj_ NB348_349 (hHeld.2.2.2.2.2.1)))))))))))))))))), (Kj_ NB348_349 ((Kj_ NB348_349 ((Kj_ NB348_349 ((Kj_ NB348_349 ((Kj_ NB348_349 ((Kj_ NB348_349 ((Kj_ NB348_349 ((Kj_ NB348_349 ((Kj_ NB348_349 (hHeld.2.2.2.2.2.2.1)))))))))))))))))), (Kj_ NB348_349 ((Kj_ NB348_349 ((Kj_ NB348_349 ((Kj_ NB348_349 ((Kj_ NB348_349 ((Kj_ NB348_349 ((Kj_ NB348_349 ((Kj_ NB348_349 ((Kj_ NB348_349 (hHeld.2.2.2.2.2.2.2.1)))))))))))))))))), (Kj_ NB348_349 ((Kj_ NB348_349 ((Kj_ NB348_349 ((Kj_ NB348_349 ((Kj_ NB348_349 ((Kj_ NB348_349 ((Kj_ NB348_349 ((Kj_ NB348_349 ((Kj_ NB348_349 (hHeld.2.2.2.2.2.2.2.2.1)))))))))))))))))), (Kj_ NB348_349 ((Kj_ NB348_349 ((Kj_ NB348_349 ((Kj_ NB348_349 ((Kj_ NB348_349 ((Kj_ NB348_349 ((Kj_ NB348_349 ((Kj_ NB348_349 ((Kj_ NB348_349 (hHeld.2.2.2.2.2.2.2.2.2.1)))))))))))))))))), (Kj_ NB348_349 ((Kj_ NB348_349 ((Kj_ NB348_349 ((Kj_ NB348_349 ((Kj_ NB348_349 ((Kj_ NB348_349 ((Kj_ NB348_349 ((Kj_ NB348_349 ((Kj_ NB348_349 (hHeld.2.2.2.2.2.2.2.2.2.2.1)))))))))))))))))), (Kj_ NB348_349 ((Kj_ NB348_349 ((Kj_ NB348_349 ((Kj_ NB348_349 ((Kj_ NB348_349 ((Kj_ NB348_349 ((Kj_ NB348_349 ((Kj_ NB348_349 ((Kj_ NB348_349 (hHeld.2.2.2.2.2.2.2.2.2.2.2))))))))))))))))))⟩ (fun hHeld => ?_)
  clear hK K
  refine done_ (done_of HT_.out (by kernel_rfl)) ?_
  try go_wp2
  refine bodyPost_ret (results_cell_row rfl _ _ gb349 69 #[.int .i64 a0_0, .int .i64 a0_1, .int .u64 a0_2, .int .u64 t350, .int .u64 t351, .int .u64 t352, .int .u64 t353, .int .i64 t354, .slice Ao37 t355.length co37] (0, 0) _ rfl (by refine Kv_ ?_; refine blk_put (cs := #[.int .i64 a0_0, .int .i64 a0_1, .int .u64 a0_2, .int .u64 t350, .int .u64 t351, .int .u64 t352, .int .u64 t353, .int .i64 t354, .slice none 0 0]) ?_ 8 _ rfl; refine Kv_ ?_; refine blk_put (cs := #[.int .i64 a0_0, .int .i64 a0_1, .int .u64 a0_2, .int .u64 t350, .int .u64 t351, .int .u64 t352, .int .u64 t353, .int .i64 0, .slice none 0 0]) ?_ 7 _ rfl; refine Kv_ ?_; refine blk_put (cs := #[.int .i64 a0_0, .int .i64 a0_1, .int .u64 a0_2, .int .u64 t350, .int .u64 t351, .int .u64 t352, .int .u64 0, .int .i64 0, .slice none 0 0]) ?_ 6 _ rfl; refine Kv_ ?_; refine blk_put (cs := #[.int .i64 a0_0, .int .i64 a0_1, .int .u64 a0_2, .int .u64 t350, .int .u64 t351, .int .u64 0, .int .u64 0, .int .i64 0, .slice none 0 0]) ?_ 5 _ rfl; refine Kv_ ?_; refine blk_put (cs := #[.int .i64 a0_0, .int .i64 a0_1, .int .u64 a0_2, .int .u64 t350, .int .u64 0, .int .u64 0, .int .u64 0, .int .i64 0, .slice none 0 0]) ?_ 4 _ rfl; refine Kv_ ?_; refine blk_put (cs := #[.int .i64 a0_0, .int .i64 a0_1, .int .u64 a0_2, .int .u64 0, .int .u64 0, .int .u64 0, .int .u64 0, .int .i64 0, .slice none 0 0]) ?_ 3 _ rfl; refine Kv_ ?_; refine blk_put (cs := #[.int .i64 a0_0, .int .i64 a0_1, .int .u64 0, .int .u64 0, .int .u64 0, .int .u64 0, .int .u64 0, .int .i64 0, .slice none 0 0]) ?_ 2 _ rfl; refine Kv_ ?_; refine blk_put (cs := #[.int .i64 a0_0, .int .i64 0, .int .u64 0, .int .u64 0, .int .u64 0, .int .u64 0, .int .u64 0, .int .i64 0, .slice none 0 0]) ?_ 1 _ rfl; refine Kv_ ?_; refine blk_put (cs := #[.int .i64 0, .int .i64 0, .int .u64 0, .int .u64 0, .int .u64 0, .int .u64 0, .int .u64 0, .int .i64 0, .slice none 0 0]) ?_ 0 _ rfl; exact Kq_ BK349) Try.underlying69 rfl (by kernel_rfl)) rfl ?_
  exact ⟨_, by first | rfl | (simp [errW_none, errW_some] <;> rfl) | (simp [*, errW_none, errW_some] <;> rfl), by (with_reducible repeat (first | apply Kd.R_alloc | apply Kd.R_drewN | apply Kd.R_drew)); exact Kd.R_mono (Kd.R_far (p := ⟨gb349, 8, none⟩) (Kd.R_far (p := ⟨gb349, 7, none⟩) (Kd.R_far (p := ⟨gb349, 6, none⟩) (Kd.R_far (p := ⟨gb349, 5, none⟩) (Kd.R_far (p := ⟨gb349, 4, none⟩) (Kd.R_far (p := ⟨gb349, 3, none⟩) (Kd.R_far (p := ⟨gb349, 2, none⟩) (Kd.R_far (p := ⟨gb349, 1, none⟩) (Kd.R_far (p := ⟨gb349, 0, none⟩) (Kd.R_types HO357.out BK349.out (by decide)) (fun _ hk => hk.2) (.int .i64 a0_0)) (fun _ hk => hk.2) (.int .i64 a0_1)) (fun _ hk => hk.2) (.int .u64 a0_2)) (fun _ hk => hk.2) (.int .u64 t350)) (fun _ hk => hk.2) (.int .u64 t351)) (fun _ hk => hk.2) (.int .u64 t352)) (fun _ hk => hk.2) (.int .u64 t353)) (fun _ hk => hk.2) (.int .i64 t354)) (fun _ hk => hk.2) (.slice Ao37 t355.length co37)) (fun _ hk => trivial), K2a_ HB GE348 GE349⟩
 subst c2
 have H1 : (if (wrap64 (1 + (wrap64 (Int.tmod (IntKind.u64.wrap (a0_0)) 2)))) = 1 then ((tenementlaw15_Deal_deal.f k a0_3 a0_4 a0_5 a0_6 a0_7 a0_8 l0_9 true).bind fun bt359 => ((stamp_Stamp_N.f bt359.1 bt359.2.1 bt359.2.2.1 bt359.2.2.2.1 bt359.2.2.2.2.1).bind fun t367 => (some (wrap64 (1 + (wrap64 (Int.tmod (IntKind.u64.wrap (a0_0)) 2))), wrap64 (1 + (wrap64 (Int.tmod (IntKind.u64.wrap (a0_1)) 4))), t367, bt359.1, bt359.2.1, bt359.2.2.1, bt359.2.2.2.1, bt359.2.2.2.2.1, bt359.2.2.2.2.2)))) else (some (wrap64 (1 + (wrap64 (Int.tmod (IntKind.u64.wrap (a0_0)) 2))), wrap64 (1 + (wrap64 (Int.tmod (IntKind.u64.wrap (a0_1)) 4))), Int.tmod a0_2 9, 0, 0, 0, 0, 0, ([] : List (S107))))) = some (r1, r2, r3, r4, r5, r6, r7, r8, r9) := by rw [if_pos rfl] at H; exact H
 clear H
 have H := H1
 clear H1
 by_cases c3 : (wrap64 (1 + (wrap64 (Int.tmod (IntKind.u64.wrap (a0_0)) 2)))) = 1
 rotate_left
 ·rw [if_neg c3] at H
  have c3b0 : ((wrap64 (1 + (wrap64 (Int.tmod (IntKind.u64.wrap (a0_0)) 2)))) == 1) = false := beq_eq_false_iff_ne.mpr c3
  have c3b1 : ((wrap64 (1 + (wrap64 (Int.tmod (IntKind.u64.wrap (a0_0)) 2)))) != 1) = true := bne_iff_ne.mpr c3
  simp only [Option.some.injEq, Prod.mk.injEq] at H
  obtain ⟨rfl, rfl, rfl, rfl, rfl, rfl, rfl, rfl, rfl⟩ := H
  go_enter Try.func26, Try.ntmps26
  go_wp2_with (first | ((with_reducible refine gate_dst (N := 1) rfl ?_); refine Ka_ 1 #[.int .i64 a0_0, .int .i64 a0_1, .int .u64 a0_2, .int .u64 a0_3, .int .u64 a0_4, .int .u64 a0_5, .int .u64 a0_6, .int .i64 a0_7, .bool a0_8, .slice A0_9 l0_9.length c0_9, .bool a0_10, .bool true] 65 ?_; intro gb348 hg w21 hbox hb; have BK348 := Aside0.mk (hbox); have GW348 := Kw_ HB hg; have GE348 := GW348; replace HB := Ks_ HB hb; clear hb hbox hg) | ((with_reducible refine gate_dst (N := 2) rfl ?_); refine Ka_ 2 #[.int .i64 0, .int .i64 0, .int .u64 0, .int .u64 0, .int .u64 0, .int .u64 0, .int .u64 0, .int .i64 0, .slice none 0 0] 69 ?_; intro gb349 hg w22 hbox hb; have BK349 := Aside0.mk (hbox); have GW349 := Kw_ HB hg; have GE349 := GW349; have NB348_349 := Kl_ BK348 hg; have NB349_348 := Kr_ BK348 hg; replace BK348 := Kb_ BK348 hb; replace HB := Ks_ HB hb; clear hb hbox hg; have hnb23 := NB348_349.out; have hnc23 := NB349_348.out; have hcz24_0 : w22.cell? ⟨gb348, 0, none⟩ = some (.int .i64 a0_0) := (blk_cell BK348.out 0).trans rfl; have hcz24_1 : w22.cell? ⟨gb348, 1, none⟩ = some (.int .i64 a0_1) := (blk_cell BK348.out 1).trans rfl; have hcz24_2 : w22.cell? ⟨gb348, 2, none⟩ = some (.int .u64 a0_2) := (blk_cell BK348.out 2).trans rfl; have hcz24_3 : w22.cell? ⟨gb348, 3, none⟩ = some (.int .u64 a0_3) := (blk_cell BK348.out 3).trans rfl; have hcz24_4 : w22.cell? ⟨gb348, 4, none⟩ = some (.int .u64 a0_4) := (blk_cell BK348.out 4).trans rfl; have hcz24_5 : w22.cell? ⟨gb348, 5, none⟩ = some (.int .u64 a0_5) := (blk_cell BK348.out 5).trans rfl; have hcz24_6 : w22.cell? ⟨gb348, 6, none⟩ = some (.int .u64 a0_6) := (blk_cell BK348.out 6).trans rfl; have hcz24_7 : w22.cell? ⟨gb348, 7, none⟩ = some (.int .i64 a0_7) := (blk_cell BK348.out 7).trans rfl; have hcz24_8 : w22.cell? ⟨gb348, 8, none⟩ = some (.bool a0_8) := (blk_cell BK348.out 8).trans rfl; have hcz24_9 : w22.cell? ⟨gb348, 9, none⟩ = some (.slice A0_9 l0_9.length c0_9) := (blk_cell BK348.out 9).trans rfl; have hcz24_10 : w22.cell? ⟨gb348, 10, none⟩ = some (.bool a0_10) := (blk_cell BK348.out 10).trans rfl; have hcz24_11 : w22.cell? ⟨gb348, 11, none⟩ = some (.bool true) := (blk_cell BK348.out 11).trans rfl; have hfz24_0 := blk_frozen BK348.out 0; have hfz24_1 := blk_frozen BK348.out 1; have hfz24_2 := blk_frozen BK348.out 2; have hfz24_3 := blk_frozen BK348.out 3; have hfz24_4 := blk_frozen BK348.out 4; have hfz24_5 := blk_frozen BK348.out 5; have hfz24_6 := blk_frozen BK348.out 6; have hfz24_7 := blk_frozen BK348.out 7; have hfz24_8 := blk_frozen BK348.out 8; have hfz24_9 := blk_frozen BK348.out 9; have hfz24_10 := blk_frozen BK348.out 10; have hfz24_11 := blk_frozen BK348.out 11) | ((with_reducible refine gate_dst (N := 3) rfl ?_); refine Ka_ 3 #[.int .i64 0, .int .i64 0, .int .u64 0, .int .u64 0, .int .u64 0, .int .u64 0, .int .u64 0, .int .i64 0, .slice none 0 0] 69 ?_; intro gb358 hg w25 hbox hb; have BK358 := Aside0.mk (hbox); have GW358 := Kw_ HB hg; have GE358 := GW358; have NB348_358 := Kl_ BK348 hg; have NB358_348 := Kr_ BK348 hg; have NB349_358 := Kl_ BK349 hg; have NB358_349 := Kr_ BK349 hg; replace BK348 := Kb_ BK348 hb; replace BK349 := Kb_ BK349 hb; replace HB := Ks_ HB hb; clear hb hbox hg; have hnb26 := NB358_348.out; have hnc26 := NB348_358.out; have hnb27 := NB358_349.out; have hnc27 := NB349_358.out; obtain ⟨hcz28_0, hcz28_1, hcz28_2, hcz28_3, hcz28_4, hcz28_5, hcz28_6, hcz28_7, hcz28_8, hfz28_0, hfz28_1, hfz28_2, hfz28_3, hfz28_4, hfz28_5, hfz28_6, hfz28_7, hfz28_8⟩ := Ke9_ BK358.out; obtain ⟨hcz29_0, hcz29_1, hcz29_2, hcz29_3, hcz29_4, hcz29_5, hcz29_6, hcz29_7, hcz29_8, hfz29_0, hfz29_1, hfz29_2, hfz29_3, hfz29_4, hfz29_5, hfz29_6, hfz29_7, hfz29_8⟩ := Ke9_ BK349.out))
  refine bodyPost_ret (results_cell_row rfl _ _ gb349 69 #[.int .i64 (wrap64 (1 + (wrap64 (Int.tmod (IntKind.u64.wrap (a0_0)) 2)))), .int .i64 (wrap64 (1 + (wrap64 (Int.tmod (IntKind.u64.wrap (a0_1)) 4)))), .int .u64 (Int.tmod a0_2 9), .int .u64 0, .int .u64 0, .int .u64 0, .int .u64 0, .int .i64 0, .slice none 0 0] (0, 0) _ rfl (by refine Kv_ ?_; refine blk_put (cs := #[.int .i64 (wrap64 (1 + (wrap64 (Int.tmod (IntKind.u64.wrap (a0_0)) 2)))), .int .i64 (wrap64 (1 + (wrap64 (Int.tmod (IntKind.u64.wrap (a0_1)) 4)))), .int .u64 (Int.tmod a0_2 9), .int .u64 0, .int .u64 0, .int .u64 0, .int .u64 0, .int .i64 0, .slice none 0 0]) ?_ 8 _ rfl; refine Kv_ ?_; refine blk_put (cs := #[.int .i64 (wrap64 (1 + (wrap64 (Int.tmod (IntKind.u64.wrap (a0_0)) 2)))), .int .i64 (wrap64 (1 + (wrap64 (Int.tmod (IntKind.u64.wrap (a0_1)) 4)))), .int .u64 (Int.tmod a0_2 9), .int .u64 0, .int .u64 0, .int .u64 0, .int .u64 0, .int .i64 0, .slice none 0 0]) ?_ 7 _ rfl; refine Kv_ ?_; refine blk_put (cs := #[.int .i64 (wrap64 (1 + (wrap64 (Int.tmod (IntKind.u64.wrap (a0_0)) 2)))), .int .i64 (wrap64 (1 + (wrap64 (Int.tmod (IntKind.u64.wrap (a0_1)) 4)))), .int .u64 (Int.tmod a0_2 9), .int .u64 0, .int .u64 0, .int .u64 0, .int .u64 0, .int .i64 0, .slice none 0 0]) ?_ 6 _ rfl; refine Kv_ ?_; refine blk_put (cs := #[.int .i64 (wrap64 (1 + (wrap64 (Int.tmod (IntKind.u64.wrap (a0_0)) 2)))), .int .i64 (wrap64 (1 + (wrap64 (Int.tmod (IntKind.u64.wrap (a0_1)) 4)))), .int .u64 (Int.tmod a0_2 9), .int .u64 0, .int .u64 0, .int .u64 0, .int .u64 0, .int .i64 0, .slice none 0 0]) ?_ 5 _ rfl; refine Kv_ ?_; refine blk_put (cs := #[.int .i64 (wrap64 (1 + (wrap64 (Int.tmod (IntKind.u64.wrap (a0_0)) 2)))), .int .i64 (wrap64 (1 + (wrap64 (Int.tmod (IntKind.u64.wrap (a0_1)) 4)))), .int .u64 (Int.tmod a0_2 9), .int .u64 0, .int .u64 0, .int .u64 0, .int .u64 0, .int .i64 0, .slice none 0 0]) ?_ 4 _ rfl; refine Kv_ ?_; refine blk_put (cs := #[.int .i64 (wrap64 (1 + (wrap64 (Int.tmod (IntKind.u64.wrap (a0_0)) 2)))), .int .i64 (wrap64 (1 + (wrap64 (Int.tmod (IntKind.u64.wrap (a0_1)) 4)))), .int .u64 (Int.tmod a0_2 9), .int .u64 0, .int .u64 0, .int .u64 0, .int .u64 0, .int .i64 0, .slice none 0 0]) ?_ 3 _ rfl; refine Kv_ ?_; refine blk_put (cs := #[.int .i64 (wrap64 (1 + (wrap64 (Int.tmod (IntKind.u64.wrap (a0_0)) 2)))), .int .i64 (wrap64 (1 + (wrap64 (Int.tmod (IntKind.u64.wrap (a0_1)) 4)))), .int .u64 0, .int .u64 0, .int .u64 0, .int .u64 0, .int .u64 0, .int .i64 0, .slice none 0 0]) ?_ 2 _ rfl; refine Kv_ ?_; refine blk_put (cs := #[.int .i64 (wrap64 (1 + (wrap64 (Int.tmod (IntKind.u64.wrap (a0_0)) 2)))), .int .i64 0, .int .u64 0, .int .u64 0, .int .u64 0, .int .u64 0, .int .u64 0, .int .i64 0, .slice none 0 0]) ?_ 1 _ rfl; refine Kv_ ?_; refine blk_put (cs := #[.int .i64 0, .int .i64 0, .int .u64 0, .int .u64 0, .int .u64 0, .int .u64 0, .int .u64 0, .int .i64 0, .slice none 0 0]) ?_ 0 _ rfl; exact K1b_ BK349 NB349_358) Try.underlying69 rfl (by kernel_rfl)) rfl ?_
  exact ⟨_, by first | rfl | (simp [errW_none, errW_some] <;> rfl) | (simp [*, errW_none, errW_some] <;> rfl), by first | exact Kd.R_nil _ _ _ _ _ | exact Kd.N_nil _ _ _ _ _ | exact Kd.V_nil _ _ _ _ _ | exact Kd.Q_nil _ _ _ _ _ | exact Kd.S_nil _ _ _ _ _, K3a_ HB GE348 GE349 GE358⟩
 rw [if_pos c3] at H
 have c3b0 : ((wrap64 (1 + (wrap64 (Int.tmod (IntKind.u64.wrap (a0_0)) 2)))) == 1) = true := beq_iff_eq.mpr c3
 have c3b1 : ((wrap64 (1 + (wrap64 (Int.tmod (IntKind.u64.wrap (a0_0)) 2)))) != 1) = false := bne_eq_false_iff_eq.mpr c3
 clear c3
 replace H := Option.bind_eq_some_iff.mp H
 obtain ⟨⟨t359, t360, t361, t362, t363, t364⟩, A40, H⟩ := H
 replace H : ((stamp_Stamp_N.f t359 t360 t361 t362 t363).bind fun t367 => (some (wrap64 (1 + (wrap64 (Int.tmod (IntKind.u64.wrap (a0_0)) 2))), wrap64 (1 + (wrap64 (Int.tmod (IntKind.u64.wrap (a0_1)) 4))), t367, t359, t360, t361, t362, t363, t364))) = some (r1, r2, r3, r4, r5, r6, r7, r8, r9) := H
 have A4 := Aside0.mk A40
 clear A40
 replace H := Option.bind_eq_some_iff.mp H
 obtain ⟨t367, A50, H⟩ := H
 replace H : (some (wrap64 (1 + (wrap64 (Int.tmod (IntKind.u64.wrap (a0_0)) 2))), wrap64 (1 + (wrap64 (Int.tmod (IntKind.u64.wrap (a0_1)) 4))), t367, t359, t360, t361, t362, t363, t364)) = some (r1, r2, r3, r4, r5, r6, r7, r8, r9) := H
 have A5 := Aside0.mk A50
 clear A50
 simp only [Option.some.injEq, Prod.mk.injEq] at H
 obtain ⟨rfl, rfl, rfl, rfl, rfl, rfl, rfl, rfl, rfl⟩ := H
 go_enter Try.func26, Try.ntmps26
 go_wp2_with (first | ((with_reducible refine gate_dst (N := 1) rfl ?_); refine Ka_ 1 #[.int .i64 a0_0, .int .i64 a0_1, .int .u64 a0_2, .int .u64 a0_3, .int .u64 a0_4, .int .u64 a0_5, .int .u64 a0_6, .int .i64 a0_7, .bool a0_8, .slice A0_9 l0_9.length c0_9, .bool a0_10, .bool true] 65 ?_; intro gb348 hg w6 hbox hb; have BK348 := Aside0.mk (hbox); have GW348 := Kw_ HB hg; have GE348 := GW348; replace HB := Ks_ HB hb; clear hb hbox hg) | ((with_reducible refine gate_dst (N := 2) rfl ?_); refine Ka_ 2 #[.int .i64 0, .int .i64 0, .int .u64 0, .int .u64 0, .int .u64 0, .int .u64 0, .int .u64 0, .int .i64 0, .slice none 0 0] 69 ?_; intro gb349 hg w7 hbox hb; have BK349 := Aside0.mk (hbox); have GW349 := Kw_ HB hg; have GE349 := GW349; have NB348_349 := Kl_ BK348 hg; have NB349_348 := Kr_ BK348 hg; replace BK348 := Kb_ BK348 hb; replace HB := Ks_ HB hb; clear hb hbox hg; have hnb8 := NB348_349.out; have hnc8 := NB349_348.out; have hcz9_0 : w7.cell? ⟨gb348, 0, none⟩ = some (.int .i64 a0_0) := (blk_cell BK348.out 0).trans rfl; have hcz9_1 : w7.cell? ⟨gb348, 1, none⟩ = some (.int .i64 a0_1) := (blk_cell BK348.out 1).trans rfl; have hcz9_2 : w7.cell? ⟨gb348, 2, none⟩ = some (.int .u64 a0_2) := (blk_cell BK348.out 2).trans rfl; have hcz9_3 : w7.cell? ⟨gb348, 3, none⟩ = some (.int .u64 a0_3) := (blk_cell BK348.out 3).trans rfl; have hcz9_4 : w7.cell? ⟨gb348, 4, none⟩ = some (.int .u64 a0_4) := (blk_cell BK348.out 4).trans rfl; have hcz9_5 : w7.cell? ⟨gb348, 5, none⟩ = some (.int .u64 a0_5) := (blk_cell BK348.out 5).trans rfl; have hcz9_6 : w7.cell? ⟨gb348, 6, none⟩ = some (.int .u64 a0_6) := (blk_cell BK348.out 6).trans rfl; have hcz9_7 : w7.cell? ⟨gb348, 7, none⟩ = some (.int .i64 a0_7) := (blk_cell BK348.out 7).trans rfl; have hcz9_8 : w7.cell? ⟨gb348, 8, none⟩ = some (.bool a0_8) := (blk_cell BK348.out 8).trans rfl; have hcz9_9 : w7.cell? ⟨gb348, 9, none⟩ = some (.slice A0_9 l0_9.length c0_9) := (blk_cell BK348.out 9).trans rfl; have hcz9_10 : w7.cell? ⟨gb348, 10, none⟩ = some (.bool a0_10) := (blk_cell BK348.out 10).trans rfl; have hcz9_11 : w7.cell? ⟨gb348, 11, none⟩ = some (.bool true) := (blk_cell BK348.out 11).trans rfl; have hfz9_0 := blk_frozen BK348.out 0; have hfz9_1 := blk_frozen BK348.out 1; have hfz9_2 := blk_frozen BK348.out 2; have hfz9_3 := blk_frozen BK348.out 3; have hfz9_4 := blk_frozen BK348.out 4; have hfz9_5 := blk_frozen BK348.out 5; have hfz9_6 := blk_frozen BK348.out 6; have hfz9_7 := blk_frozen BK348.out 7; have hfz9_8 := blk_frozen BK348.out 8; have hfz9_9 := blk_frozen BK348.out 9; have hfz9_10 := blk_frozen BK348.out 10; have hfz9_11 := blk_frozen BK348.out 11) | ((with_reducible refine gate_dst (N := 3) rfl ?_); refine Ka_ 3 #[.int .i64 0, .int .i64 0, .int .u64 0, .int .u64 0, .int .u64 0, .int .u64 0, .int .u64 0, .int .i64 0, .slice none 0 0] 69 ?_; intro gb358 hg w10 hbox hb; have BK358 := Aside0.mk (hbox); have GW358 := Kw_ HB hg; have GE358 := GW358; have NB348_358 := Kl_ BK348 hg; have NB358_348 := Kr_ BK348 hg; have NB349_358 := Kl_ BK349 hg; have NB358_349 := Kr_ BK349 hg; replace BK348 := Kb_ BK348 hb; replace BK349 := Kb_ BK349 hb; replace HB := Ks_ HB hb; clear hb hbox hg; have hnb11 := NB358_348.out; have hnc11 := NB348_358.out; have hnb12 := NB358_349.out; have hnc12 := NB349_358.out; obtain ⟨hcz13_0, hcz13_1, hcz13_2, hcz13_3, hcz13_4, hcz13_5, hcz13_6, hcz13_7, hcz13_8, hfz13_0, hfz13_1, hfz13_2, hfz13_3, hfz13_4, hfz13_5, hfz13_6, hfz13_7, hfz13_8⟩ := Ke9_ BK358.out; have hcz14_0 : w10.cell? ⟨gb348, 0, none⟩ = some (.int .i64 a0_0) := (blk_cell BK348.out 0).trans rfl; have hcz14_1 : w10.cell? ⟨gb348, 1, none⟩ = some (.int .i64 a0_1) := (blk_cell BK348.out 1).trans rfl; have hcz14_2 : w10.cell? ⟨gb348, 2, none⟩ = some (.int .u64 a0_2) := (blk_cell BK348.out 2).trans rfl; have hcz14_3 : w10.cell? ⟨gb348, 3, none⟩ = some (.int .u64 a0_3) := (blk_cell BK348.out 3).trans rfl; have hcz14_4 : w10.cell? ⟨gb348, 4, none⟩ = some (.int .u64 a0_4) := (blk_cell BK348.out 4).trans rfl; have hcz14_5 : w10.cell? ⟨gb348, 5, none⟩ = some (.int .u64 a0_5) := (blk_cell BK348.out 5).trans rfl; have hcz14_6 : w10.cell? ⟨gb348, 6, none⟩ = some (.int .u64 a0_6) := (blk_cell BK348.out 6).trans rfl; have hcz14_7 : w10.cell? ⟨gb348, 7, none⟩ = some (.int .i64 a0_7) := (blk_cell BK348.out 7).trans rfl; have hcz14_8 : w10.cell? ⟨gb348, 8, none⟩ = some (.bool a0_8) := (blk_cell BK348.out 8).trans rfl; have hcz14_9 : w10.cell? ⟨gb348, 9, none⟩ = some (.slice A0_9 l0_9.length c0_9) := (blk_cell BK348.out 9).trans rfl; have hcz14_10 : w10.cell? ⟨gb348, 10, none⟩ = some (.bool a0_10) := (blk_cell BK348.out 10).trans rfl; have hcz14_11 : w10.cell? ⟨gb348, 11, none⟩ = some (.bool true) := (blk_cell BK348.out 11).trans rfl; have hfz14_0 := blk_frozen BK348.out 0; have hfz14_1 := blk_frozen BK348.out 1; have hfz14_2 := blk_frozen BK348.out 2; have hfz14_3 := blk_frozen BK348.out 3; have hfz14_4 := blk_frozen BK348.out 4; have hfz14_5 := blk_frozen BK348.out 5; have hfz14_6 := blk_frozen BK348.out 6; have hfz14_7 := blk_frozen BK348.out 7; have hfz14_8 := blk_frozen BK348.out 8; have hfz14_9 := blk_frozen BK348.out 9; have hfz14_10 := blk_frozen BK348.out 10; have hfz14_11 := blk_frozen BK348.out 11) | ((with_reducible refine gate_callee (f := 19) rfl ?_); refine Kg_ (some 40) rfl rfl Try.func19 (by kernel_rfl) rfl #[.agg #[.int .u64 a0_3, .int .u64 a0_4, .int .u64 a0_5, .int .u64 a0_6, .int .i64 a0_7, .bool a0_8, .slice A0_9 l0_9.length c0_9, .bool true]] rfl ?_; (with_reducible refine (tenementlaw15_Deal_deal.calls k a0_3 a0_4 a0_5 a0_6 a0_7 a0_8 _ _ l0_9 true t359 t360 t361 t362 t363 t364 _ ?side1 ?side2 A4.out).mono ?_); (case side1 => exact Kd.C_below HR0_9.out (K3a_ HB GE348 GE349 GE358)); (case side2 => exact HC0_9.out); rintro e w15 ⟨v365, rfl, ho0, hb⟩; refine ⟨_, rfl, ?_⟩; have HO366 := Aside0.mk (Kd.R_lower ho0 (below_size (K3a_ HB GE348 GE349 GE358))); replace BK348 := Aside0.mk (blk_below (g := gb348) (o := .cells #[.int .i64 a0_0, .int .i64 a0_1, .int .u64 a0_2, .int .u64 a0_3, .int .u64 a0_4, .int .u64 a0_5, .int .u64 a0_6, .int .i64 a0_7, .bool a0_8, .slice A0_9 l0_9.length c0_9, .bool true, .bool true] 65 (0, 0)) (by refine Kv_ ?_; refine blk_put (cs := #[.int .i64 a0_0, .int .i64 a0_1, .int .u64 a0_2, .int .u64 a0_3, .int .u64 a0_4, .int .u64 a0_5, .int .u64 a0_6, .int .i64 a0_7, .bool a0_8, .slice A0_9 l0_9.length c0_9, .bool a0_10, .bool true]) ?_ 10 _ rfl; exact K1b_ BK348 NB348_358) hb); replace BK349 := Aside0.mk (blk_below (g := gb349) (o := .cells #[.int .i64 0, .int .i64 0, .int .u64 0, .int .u64 0, .int .u64 0, .int .u64 0, .int .u64 0, .int .i64 0, .slice none 0 0] 69 (0, 0)) (K2b_ BK349 NB349_348 NB349_358) hb); replace BK358 := Aside0.mk (blk_below (g := gb358) (o := .cells #[.int .i64 (wrap64 (1 + (wrap64 (Int.tmod (IntKind.u64.wrap (a0_0)) 2)))), .int .i64 (wrap64 (1 + (wrap64 (Int.tmod (IntKind.u64.wrap (a0_1)) 4)))), .int .u64 (Int.tmod a0_2 9), .int .u64 0, .int .u64 0, .int .u64 0, .int .u64 0, .int .i64 0, .slice none 0 0] 69 (0, 0)) (by (repeat (first | (with_reducible first | refine blk_drewN ?_ _ | refine blk_drew ?_ | refine blk_alloc ?_ _) | refine blk_far ?_ NB358_348.out _)); refine blk_put (cs := #[.int .i64 (wrap64 (1 + (wrap64 (Int.tmod (IntKind.u64.wrap (a0_0)) 2)))), .int .i64 (wrap64 (1 + (wrap64 (Int.tmod (IntKind.u64.wrap (a0_1)) 4)))), .int .u64 (Int.tmod a0_2 9), .int .u64 0, .int .u64 0, .int .u64 0, .int .u64 0, .int .i64 0, .slice none 0 0]) ?_ 8 _ rfl; refine Kv_ ?_; refine blk_put (cs := #[.int .i64 (wrap64 (1 + (wrap64 (Int.tmod (IntKind.u64.wrap (a0_0)) 2)))), .int .i64 (wrap64 (1 + (wrap64 (Int.tmod (IntKind.u64.wrap (a0_1)) 4)))), .int .u64 (Int.tmod a0_2 9), .int .u64 0, .int .u64 0, .int .u64 0, .int .u64 0, .int .i64 0, .slice none 0 0]) ?_ 7 _ rfl; refine Kv_ ?_; refine blk_put (cs := #[.int .i64 (wrap64 (1 + (wrap64 (Int.tmod (IntKind.u64.wrap (a0_0)) 2)))), .int .i64 (wrap64 (1 + (wrap64 (Int.tmod (IntKind.u64.wrap (a0_1)) 4)))), .int .u64 (Int.tmod a0_2 9), .int .u64 0, .int .u64 0, .int .u64 0, .int .u64 0, .int .i64 0, .slice none 0 0]) ?_ 6 _ rfl; refine Kv_ ?_; refine blk_put (cs := #[.int .i64 (wrap64 (1 + (wrap64 (Int.tmod (IntKind.u64.wrap (a0_0)) 2)))), .int .i64 (wrap64 (1 + (wrap64 (Int.tmod (IntKind.u64.wrap (a0_1)) 4)))), .int .u64 (Int.tmod a0_2 9), .int .u64 0, .int .u64 0, .int .u64 0, .int .u64 0, .int .i64 0, .slice none 0 0]) ?_ 5 _ rfl; refine Kv_ ?_; refine blk_put (cs := #[.int .i64 (wrap64 (1 + (wrap64 (Int.tmod (IntKind.u64.wrap (a0_0)) 2)))), .int .i64 (wrap64 (1 + (wrap64 (Int.tmod (IntKind.u64.wrap (a0_1)) 4)))), .int .u64 (Int.tmod a0_2 9), .int .u64 0, .int .u64 0, .int .u64 0, .int .u64 0, .int .i64 0, .slice none 0 0]) ?_ 4 _ rfl; refine Kv_ ?_; refine blk_put (cs := #[.int .i64 (wrap64 (1 + (wrap64 (Int.tmod (IntKind.u64.wrap (a0_0)) 2)))), .int .i64 (wrap64 (1 + (wrap64 (Int.tmod (IntKind.u64.wrap (a0_1)) 4)))), .int .u64 (Int.tmod a0_2 9), .int .u64 0, .int .u64 0, .int .u64 0, .int .u64 0, .int .i64 0, .slice none 0 0]) ?_ 3 _ rfl; refine Kv_ ?_; refine blk_put (cs := #[.int .i64 (wrap64 (1 + (wrap64 (Int.tmod (IntKind.u64.wrap (a0_0)) 2)))), .int .i64 (wrap64 (1 + (wrap64 (Int.tmod (IntKind.u64.wrap (a0_1)) 4)))), .int .u64 0, .int .u64 0, .int .u64 0, .int .u64 0, .int .u64 0, .int .i64 0, .slice none 0 0]) ?_ 2 _ rfl; refine Kv_ ?_; refine blk_put (cs := #[.int .i64 (wrap64 (1 + (wrap64 (Int.tmod (IntKind.u64.wrap (a0_0)) 2)))), .int .i64 0, .int .u64 0, .int .u64 0, .int .u64 0, .int .u64 0, .int .u64 0, .int .i64 0, .slice none 0 0]) ?_ 1 _ rfl; refine Kv_ ?_; refine blk_put (cs := #[.int .i64 0, .int .i64 0, .int .u64 0, .int .u64 0, .int .u64 0, .int .u64 0, .int .u64 0, .int .i64 0, .slice none 0 0]) ?_ 0 _ rfl; exact Kq_ BK358) hb); replace HB := Aside0.mk (below_step (K3a_ HB GE348 GE349 GE358) hb); (try clear hb); (try clear hb2); (try clear hk); (try clear hi); (try clear ho0); obtain ⟨hcz16_0, hcz16_1, hcz16_2, hcz16_3, hcz16_4, hcz16_5, hcz16_6, hcz16_7, hcz16_8, hfz16_0, hfz16_1, hfz16_2, hfz16_3, hfz16_4, hfz16_5, hfz16_6, hfz16_7, hfz16_8⟩ := Ke9_ BK358.out; obtain ⟨Ao17, co17, eo17⟩ := Kd.R_slice HO366.out; subst eo17) | ((with_reducible refine gate_callee (f := 47) rfl ?_); refine Kg_ (some 45) rfl rfl Try.func47 (by kernel_rfl) rfl #[.agg #[.int .u64 t359, .int .u64 t360, .int .u64 t361, .int .u64 t362, .int .i64 t363]] rfl ?_; (with_reducible refine (stamp_Stamp_N.calls t359 t360 t361 t362 t363 t367 _ A5.out).mono ?_); rintro e w18 ⟨rfl, hb⟩; refine ⟨_, rfl, ?_⟩; replace HO366 := Aside0.mk (Kd.R_below (by (with_reducible repeat (first | apply Kd.R_alloc | apply Kd.R_drewN | apply Kd.R_drew)); exact (Kd.R_mono (Kd.R_far (p := ⟨gb358, 8, none⟩) (Kd.R_far (p := ⟨gb358, 7, none⟩) (Kd.R_far (p := ⟨gb358, 6, none⟩) (Kd.R_far (p := ⟨gb358, 5, none⟩) (Kd.R_far (p := ⟨gb358, 4, none⟩) (Kd.R_far (p := ⟨gb358, 3, none⟩) (Kd.R_types HO366.out BK358.out (by decide)) (fun _ hk => hk.2) (.int .u64 t359)) (fun _ hk => hk.2) (.int .u64 t360)) (fun _ hk => hk.2) (.int .u64 t361)) (fun _ hk => hk.2) (.int .u64 t362)) (fun _ hk => hk.2) (.int .i64 t363)) (fun _ hk => hk.2) (.slice Ao17 t364.length co17)) (fun _ h_ => h_.1))) hb); replace BK348 := Kf_ BK348 NB348_358 hb; replace BK349 := Kf_ BK349 NB349_358 hb; replace BK358 := Aside0.mk (blk_below (g := gb358) (o := .cells #[.int .i64 (wrap64 (1 + (wrap64 (Int.tmod (IntKind.u64.wrap (a0_0)) 2)))), .int .i64 (wrap64 (1 + (wrap64 (Int.tmod (IntKind.u64.wrap (a0_1)) 4)))), .int .u64 (Int.tmod a0_2 9), .int .u64 t359, .int .u64 t360, .int .u64 t361, .int .u64 t362, .int .i64 t363, .slice Ao17 t364.length co17] 69 (0, 0)) (by refine Kv_ ?_; refine blk_put (cs := #[.int .i64 (wrap64 (1 + (wrap64 (Int.tmod (IntKind.u64.wrap (a0_0)) 2)))), .int .i64 (wrap64 (1 + (wrap64 (Int.tmod (IntKind.u64.wrap (a0_1)) 4)))), .int .u64 (Int.tmod a0_2 9), .int .u64 t359, .int .u64 t360, .int .u64 t361, .int .u64 t362, .int .i64 t363, .slice none 0 0]) ?_ 8 _ rfl; refine Kv_ ?_; refine blk_put (cs := #[.int .i64 (wrap64 (1 + (wrap64 (Int.tmod (IntKind.u64.wrap (a0_0)) 2)))), .int .i64 (wrap64 (1 + (wrap64 (Int.tmod (IntKind.u64.wrap (a0_1)) 4)))), .int .u64 (Int.tmod a0_2 9), .int .u64 t359, .int .u64 t360, .int .u64 t361, .int .u64 t362, .int .i64 0, .slice none 0 0]) ?_ 7 _ rfl; refine Kv_ ?_; refine blk_put (cs := #[.int .i64 (wrap64 (1 + (wrap64 (Int.tmod (IntKind.u64.wrap (a0_0)) 2)))), .int .i64 (wrap64 (1 + (wrap64 (Int.tmod (IntKind.u64.wrap (a0_1)) 4)))), .int .u64 (Int.tmod a0_2 9), .int .u64 t359, .int .u64 t360, .int .u64 t361, .int .u64 0, .int .i64 0, .slice none 0 0]) ?_ 6 _ rfl; refine Kv_ ?_; refine blk_put (cs := #[.int .i64 (wrap64 (1 + (wrap64 (Int.tmod (IntKind.u64.wrap (a0_0)) 2)))), .int .i64 (wrap64 (1 + (wrap64 (Int.tmod (IntKind.u64.wrap (a0_1)) 4)))), .int .u64 (Int.tmod a0_2 9), .int .u64 t359, .int .u64 t360, .int .u64 0, .int .u64 0, .int .i64 0, .slice none 0 0]) ?_ 5 _ rfl; refine Kv_ ?_; refine blk_put (cs := #[.int .i64 (wrap64 (1 + (wrap64 (Int.tmod (IntKind.u64.wrap (a0_0)) 2)))), .int .i64 (wrap64 (1 + (wrap64 (Int.tmod (IntKind.u64.wrap (a0_1)) 4)))), .int .u64 (Int.tmod a0_2 9), .int .u64 t359, .int .u64 0, .int .u64 0, .int .u64 0, .int .i64 0, .slice none 0 0]) ?_ 4 _ rfl; refine Kv_ ?_; refine blk_put (cs := #[.int .i64 (wrap64 (1 + (wrap64 (Int.tmod (IntKind.u64.wrap (a0_0)) 2)))), .int .i64 (wrap64 (1 + (wrap64 (Int.tmod (IntKind.u64.wrap (a0_1)) 4)))), .int .u64 (Int.tmod a0_2 9), .int .u64 0, .int .u64 0, .int .u64 0, .int .u64 0, .int .i64 0, .slice none 0 0]) ?_ 3 _ rfl; exact Kq_ BK358) hb); replace HB := Kt_ HB GE358 hb; (try clear hb); (try clear hb2); (try clear hk); (try clear hi); obtain ⟨hcz19_0, hcz19_1, hcz19_2, hcz19_3, hcz19_4, hcz19_5, hcz19_6, hcz19_7, hcz19_8, hfz19_0, hfz19_1, hfz19_2, hfz19_3, hfz19_4, hfz19_5, hfz19_6, hfz19_7, hfz19_8⟩ := Ke9_ BK358.out; obtain ⟨hcz20_0, hcz20_1, hcz20_2, hcz20_3, hcz20_4, hcz20_5, hcz20_6, hcz20_7, hcz20_8, hfz20_0, hfz20_1, hfz20_2, hfz20_3, hfz20_4, hfz20_5, hfz20_6, hfz20_7, hfz20_8⟩ := Ke9_ BK349.out))
 refine bodyPost_ret (results_cell_row rfl _ _ gb349 69 #[.int .i64 (wrap64 (1 + (wrap64 (Int.tmod (IntKind.u64.wrap (a0_0)) 2)))), .int .i64 (wrap64 (1 + (wrap64 (Int.tmod (IntKind.u64.wrap (a0_1)) 4)))), .int .u64 t367, .int .u64 t359, .int .u64 t360, .int .u64 t361, .int .u64 t362, .int .i64 t363, .slice Ao17 t364.length co17] (0, 0) _ rfl (by refine Kv_ ?_; refine blk_put (cs := #[.int .i64 (wrap64 (1 + (wrap64 (Int.tmod (IntKind.u64.wrap (a0_0)) 2)))), .int .i64 (wrap64 (1 + (wrap64 (Int.tmod (IntKind.u64.wrap (a0_1)) 4)))), .int .u64 t367, .int .u64 t359, .int .u64 t360, .int .u64 t361, .int .u64 t362, .int .i64 t363, .slice none 0 0]) ?_ 8 _ rfl; refine Kv_ ?_; refine blk_put (cs := #[.int .i64 (wrap64 (1 + (wrap64 (Int.tmod (IntKind.u64.wrap (a0_0)) 2)))), .int .i64 (wrap64 (1 + (wrap64 (Int.tmod (IntKind.u64.wrap (a0_1)) 4)))), .int .u64 t367, .int .u64 t359, .int .u64 t360, .int .u64 t361, .int .u64 t362, .int .i64 0, .slice none 0 0]) ?_ 7 _ rfl; refine Kv_ ?_; refine blk_put (cs := #[.int .i64 (wrap64 (1 + (wrap64 (Int.tmod (IntKind.u64.wrap (a0_0)) 2)))), .int .i64 (wrap64 (1 + (wrap64 (Int.tmod (IntKind.u64.wrap (a0_1)) 4)))), .int .u64 t367, .int .u64 t359, .int .u64 t360, .int .u64 t361, .int .u64 0, .int .i64 0, .slice none 0 0]) ?_ 6 _ rfl; refine Kv_ ?_; refine blk_put (cs := #[.int .i64 (wrap64 (1 + (wrap64 (Int.tmod (IntKind.u64.wrap (a0_0)) 2)))), .int .i64 (wrap64 (1 + (wrap64 (Int.tmod (IntKind.u64.wrap (a0_1)) 4)))), .int .u64 t367, .int .u64 t359, .int .u64 t360, .int .u64 0, .int .u64 0, .int .i64 0, .slice none 0 0]) ?_ 5 _ rfl; refine Kv_ ?_; refine blk_put (cs := #[.int .i64 (wrap64 (1 + (wrap64 (Int.tmod (IntKind.u64.wrap (a0_0)) 2)))), .int .i64 (wrap64 (1 + (wrap64 (Int.tmod (IntKind.u64.wrap (a0_1)) 4)))), .int .u64 t367, .int .u64 t359, .int .u64 0, .int .u64 0, .int .u64 0, .int .i64 0, .slice none 0 0]) ?_ 4 _ rfl; refine Kv_ ?_; refine blk_put (cs := #[.int .i64 (wrap64 (1 + (wrap64 (Int.tmod (IntKind.u64.wrap (a0_0)) 2)))), .int .i64 (wrap64 (1 + (wrap64 (Int.tmod (IntKind.u64.wrap (a0_1)) 4)))), .int .u64 t367, .int .u64 0, .int .u64 0, .int .u64 0, .int .u64 0, .int .i64 0, .slice none 0 0]) ?_ 3 _ rfl; refine Kv_ ?_; refine blk_put (cs := #[.int .i64 (wrap64 (1 + (wrap64 (Int.tmod (IntKind.u64.wrap (a0_0)) 2)))), .int .i64 (wrap64 (1 + (wrap64 (Int.tmod (IntKind.u64.wrap (a0_1)) 4)))), .int .u64 0, .int .u64 0, .int .u64 0, .int .u64 0, .int .u64 0, .int .i64 0, .slice none 0 0]) ?_ 2 _ rfl; refine Kv_ ?_; refine blk_put (cs := #[.int .i64 (wrap64 (1 + (wrap64 (Int.tmod (IntKind.u64.wrap (a0_0)) 2)))), .int .i64 0, .int .u64 0, .int .u64 0, .int .u64 0, .int .u64 0, .int .u64 0, .int .i64 0, .slice none 0 0]) ?_ 1 _ rfl; refine Kv_ ?_; refine blk_put (cs := #[.int .i64 0, .int .i64 0, .int .u64 0, .int .u64 0, .int .u64 0, .int .u64 0, .int .u64 0, .int .i64 0, .slice none 0 0]) ?_ 0 _ rfl; exact K1b_ BK349 NB349_358) Try.underlying69 rfl (by kernel_rfl)) rfl ?_
 exact ⟨_, by first | rfl | (simp [errW_none, errW_some] <;> rfl) | (simp [*, errW_none, errW_some] <;> rfl), by (with_reducible repeat (first | apply Kd.R_alloc | apply Kd.R_drewN | apply Kd.R_drew)); exact Kd.R_mono (Kd.R_far (p := ⟨gb349, 8, none⟩) (Kd.R_far (p := ⟨gb349, 7, none⟩) (Kd.R_far (p := ⟨gb349, 6, none⟩) (Kd.R_far (p := ⟨gb349, 5, none⟩) (Kd.R_far (p := ⟨gb349, 4, none⟩) (Kd.R_far (p := ⟨gb349, 3, none⟩) (Kd.R_far (p := ⟨gb349, 2, none⟩) (Kd.R_far (p := ⟨gb349, 1, none⟩) (Kd.R_far (p := ⟨gb349, 0, none⟩) (Kd.R_far (p := ⟨gb358, 2, none⟩) (Kd.R_types (Kd.R_types HO366.out BK358.out (by decide)) BK349.out (by decide)) (fun _ hk => hk.1.2) (.int .u64 t367)) (fun _ hk => hk.2) (.int .i64 (wrap64 (1 + (wrap64 (Int.tmod (IntKind.u64.wrap (a0_0)) 2)))))) (fun _ hk => hk.2) (.int .i64 (wrap64 (1 + (wrap64 (Int.tmod (IntKind.u64.wrap (a0_1)) 4)))))) (fun _ hk => hk.2) (.int .u64 t367)) (fun _ hk => hk.2) (.int .u64 t359)) (fun _ hk => hk.2) (.int .u64 t360)) (fun _ hk => hk.2) (.int .u64 t361)) (fun _ hk => hk.2) (.int .u64 t362)) (fun _ hk => hk.2) (.int .i64 t363)) (fun _ hk => hk.2) (.slice Ao17 t364.length co17)) (fun _ hk => trivial), K3a_ HB GE348 GE349 GE358⟩
def tenementlaw15_StreamTells.f (k : Nat) (a0_0 : Int) (a0_1 : Int) (a0_2 : Int) (a0_3 : Int) (a0_4 : Bool) (a1_0 : Int) (a1_1 : Int) (a1_2 : Int) (a1_3 : Int) (a1_4 : Int) (a1_5 : Bool) (a2_0 : Int) (a2_1 : Int) (a2_2 : Int) (a2_3 : Int) (a2_4 : Int) (a2_5 : Int) (a2_6 : Int) (a2_7 : Int) (a2_8 : Bool) (l2_9 : List (S159)) (a2_10 : Bool) (a2_11 : Bool) : Option (Bool) := (tenementlaw15_examples.f).bind fun t449 => (if t449 = true then ((tenementlaw15_Vector_vector.f k a0_0 a0_1 a0_2 a0_3 a0_4).bind fun bt450 => ((tenementlaw15_Mark_mark.f k a1_0 a1_1 a1_2 a1_3 a1_4 a1_5).bind fun bt455 => ((tenementlaw15_Letter_letter.f k a2_0 a2_1 a2_2 a2_3 a2_4 a2_5 a2_6 a2_7 a2_8 l2_9 a2_10 a2_11).bind fun bt461 => ((stream_Put.f k bt461.1 bt461.2.1 bt461.2.2.1 bt461.2.2.2.1 bt461.2.2.2.2.1 bt461.2.2.2.2.2.1 bt461.2.2.2.2.2.2.1 bt461.2.2.2.2.2.2.2.1 bt461.2.2.2.2.2.2.2.2).bind fun bt473 => ((tenementlaw15_refMsg.f k bt461.1 bt461.2.1 bt461.2.2.1 bt461.2.2.2.1 bt461.2.2.2.2.1 bt461.2.2.2.2.2.1 bt461.2.2.2.2.2.2.1 bt461.2.2.2.2.2.2.2.1 bt461.2.2.2.2.2.2.2.2).bind fun bt475 => ((tenementref15_Put.f k bt475.1 bt475.2.1 bt475.2.2.1 bt475.2.2.2.1 bt475.2.2.2.2.1 bt475.2.2.2.2.2.1 bt475.2.2.2.2.2.2.1 bt475.2.2.2.2.2.2.2.1 bt475.2.2.2.2.2.2.2.2).bind fun bt486 => ((stream_Ready.f bt450.1 bt450.2.1 bt450.2.2.1 bt450.2.2.2 bt455.1 bt455.2.1 bt455.2.2.1 bt455.2.2.2.1 bt455.2.2.2.2).bind fun t488 => ((tenementlaw15_refStamp.f bt455.1 bt455.2.1 bt455.2.2.1 bt455.2.2.2.1 bt455.2.2.2.2).bind fun bt489 => ((tenementref15_Ready.f k bt450.1 bt450.2.1 bt450.2.2.1 bt450.2.2.2 bt489.1 bt489.2.1 bt489.2.2.1 bt489.2.2.2.1 bt489.2.2.2.2).bind fun t494 => (if t488 = t494 then ((stream_Right.f k bt461.1 bt461.2.1 bt461.2.2.1 bt461.2.2.2.1 bt461.2.2.2.2.1 bt461.2.2.2.2.2.1 bt461.2.2.2.2.2.2.1 bt461.2.2.2.2.2.2.2.1 bt461.2.2.2.2.2.2.2.2).bind fun t495 => ((tenementlaw15_refMsg.f k bt461.1 bt461.2.1 bt461.2.2.1 bt461.2.2.2.1 bt461.2.2.2.2.1 bt461.2.2.2.2.2.1 bt461.2.2.2.2.2.2.1 bt461.2.2.2.2.2.2.2.1 bt461.2.2.2.2.2.2.2.2).bind fun bt496 => ((tenementref15_Right.f k bt496.1 bt496.2.1 bt496.2.2.1 bt496.2.2.2.1 bt496.2.2.2.2.1 bt496.2.2.2.2.2.1 bt496.2.2.2.2.2.2.1 bt496.2.2.2.2.2.2.2.1 bt496.2.2.2.2.2.2.2.2).bind fun t507 => (if t495 = t507 then (if bt473.1.toList = bt486.1.toList then (if bt473.2 = bt486.2 then (some true) else (none)) else (none)) else (none))))) else (none))))))))))) else (none))
def tenementlaw15_StreamTells.T9 : Bool × List (List Nat × List Nat) := (true, [([], []), ([0], [0]), ([1], [1]), ([1], [1]), ([2, 3, 1, 1], [1, 2, 3]), ([1], [1]), ([1], [1]), ([6, 4, 1], [1, 6]), ([5, 7, 7, 1], [1, 5, 7]), ([4, 8, 1], [1, 4, 8]), ([1, 9], [1, 9]), ([10, 8], [10]), ([11], [11]), ([12, 11, 11], [11, 12]), ([11], [11]), ([14, 13, 11], [11, 14]), ([15, 15, 11], [11, 15]), ([13, 16, 11], [11, 13, 16]), ([11, 17], [11, 17]), ([18, 16], [18]), ([19], [19]), ([19], [19]), ([20, 21, 19], [19, 20, 21]), ([19, 22], [19, 22]), ([23, 19], [23]), ([24], [24]), ([24], [24]), ([25, 26, 24], [24, 25, 26]), ([24, 27], [24, 27]), ([28, 24, 0, 1, 2, 3, 4, 5, 6, 7, 8, 9, 10, 11, 12, 13, 14, 15, 16, 17, 18, 19, 20, 21, 22, 23, 24, 25, 26, 27, 28], [28])])
def tenementlaw15_StreamTells.B9 : List Nat := [0, 1, 3, 3, 15, 3, 3, 95, 255, 511, 1023, 2047, 4095, 8191, 4095, 32767, 65535, 131071, 262143, 524287, 1048575, 1048575, 4194303, 8388607, 16777215, 33554431, 33554431, 134217727, 268435455, 536870911]
theorem tenementlaw15_StreamTells.tab9 : rtab .any (opsOf Try.f4 9) = tenementlaw15_StreamTells.T9 := by kernel_rfl
theorem tenementlaw15_StreamTells.bits9 : waitsOk tenementlaw15_StreamTells.T9.2 tenementlaw15_StreamTells.B9 = true := by kernel_rfl
set_option maxHeartbeats 8000000 in
set_option maxRecDepth 100000 in
theorem tenementlaw15_StreamTells.calls (k : Nat) (a0_0 : Int) (a0_1 : Int) (a0_2 : Int) (a0_3 : Int) (a0_4 : Bool) (a1_0 : Int) (a1_1 : Int) (a1_2 : Int) (a1_3 : Int) (a1_4 : Int) (a1_5 : Bool) (a2_0 : Int) (a2_1 : Int) (a2_2 : Int) (a2_3 : Int) (a2_4 : Int) (a2_5 : Int) (a2_6 : Int) (a2_7 : Int) (a2_8 : Bool) (A2_9 : Option Addr) (c2_9 : Nat) (l2_9 : List (S159)) (a2_10 : Bool) (a2_11 : Bool) (r : Bool) (w : World) (hr2_9 : Kd.C k159 w A2_9 l2_9.length l2_9) (hc2_9 : l2_9.length ≤ c2_9) (h : tenementlaw15_StreamTells.f k a0_0 a0_1 a0_2 a0_3 a0_4 a1_0 a1_1 a1_2 a1_3 a1_4 a1_5 a2_0 a2_1 a2_2 a2_3 a2_4 a2_5 a2_6 a2_7 a2_8 l2_9 a2_10 a2_11 = some r) :
  Calls Try.prog 4 #[.agg #[.int .u64 a0_0, .int .u64 a0_1, .int .u64 a0_2, .int .u64 a0_3, .bool a0_4], .agg #[.int .u64 a1_0, .int .u64 a1_1, .int .u64 a1_2, .int .u64 a1_3, .int .i64 a1_4, .bool a1_5], .agg #[.int .i64 a2_0, .int .i64 a2_1, .int .u64 a2_2, .int .u64 a2_3, .int .u64 a2_4, .int .u64 a2_5, .int .u64 a2_6, .int .i64 a2_7, .bool a2_8, .slice A2_9 l2_9.length c2_9, .bool a2_10, .bool a2_11]] w fun e w' => e = .returned (.bool r) ∧ Below w.heap.size w w' := by
 have hu63 := Try.underlying63
 have hu39 := Try.underlying39
 have hu65 := Try.underlying65
 have hu28 := Try.underlying28
 have hu30 := Try.underlying30
 have hu69 := Try.underlying69
 have HR2_9 := Aside0.mk hr2_9
 have HC2_9 := Aside0.mk hc2_9
 clear hr2_9 hc2_9
 have HB := Aside0.mk (Below.refl w.heap.size w)
 have H : ((tenementlaw15_examples.f).bind fun t449 => (if t449 = true then ((tenementlaw15_Vector_vector.f k a0_0 a0_1 a0_2 a0_3 a0_4).bind fun bt450 => ((tenementlaw15_Mark_mark.f k a1_0 a1_1 a1_2 a1_3 a1_4 a1_5).bind fun bt455 => ((tenementlaw15_Letter_letter.f k a2_0 a2_1 a2_2 a2_3 a2_4 a2_5 a2_6 a2_7 a2_8 l2_9 a2_10 a2_11).bind fun bt461 => ((stream_Put.f k bt461.1 bt461.2.1 bt461.2.2.1 bt461.2.2.2.1 bt461.2.2.2.2.1 bt461.2.2.2.2.2.1 bt461.2.2.2.2.2.2.1 bt461.2.2.2.2.2.2.2.1 bt461.2.2.2.2.2.2.2.2).bind fun bt473 => ((tenementlaw15_refMsg.f k bt461.1 bt461.2.1 bt461.2.2.1 bt461.2.2.2.1 bt461.2.2.2.2.1 bt461.2.2.2.2.2.1 bt461.2.2.2.2.2.2.1 bt461.2.2.2.2.2.2.2.1 bt461.2.2.2.2.2.2.2.2).bind fun bt475 => ((tenementref15_Put.f k bt475.1 bt475.2.1 bt475.2.2.1 bt475.2.2.2.1 bt475.2.2.2.2.1 bt475.2.2.2.2.2.1 bt475.2.2.2.2.2.2.1 bt475.2.2.2.2.2.2.2.1 bt475.2.2.2.2.2.2.2.2).bind fun bt486 => ((stream_Ready.f bt450.1 bt450.2.1 bt450.2.2.1 bt450.2.2.2 bt455.1 bt455.2.1 bt455.2.2.1 bt455.2.2.2.1 bt455.2.2.2.2).bind fun t488 => ((tenementlaw15_refStamp.f bt455.1 bt455.2.1 bt455.2.2.1 bt455.2.2.2.1 bt455.2.2.2.2).bind fun bt489 => ((tenementref15_Ready.f k bt450.1 bt450.2.1 bt450.2.2.1 bt450.2.2.2 bt489.1 bt489.2.1 bt489.2.2.1 bt489.2.2.2.1 bt489.2.2.2.2).bind fun t494 => (if t488 = t494 then ((stream_Right.f k bt461.1 bt461.2.1 bt461.2.2.1 bt461.2.2.2.1 bt461.2.2.2.2.1 bt461.2.2.2.2.2.1 bt461.2.2.2.2.2.2.1 bt461.2.2.2.2.2.2.2.1 bt461.2.2.2.2.2.2.2.2).bind fun t495 => ((tenementlaw15_refMsg.f k bt461.1 bt461.2.1 bt461.2.2.1 bt461.2.2.2.1 bt461.2.2.2.2.1 bt461.2.2.2.2.2.1 bt461.2.2.2.2.2.2.1 bt461.2.2.2.2.2.2.2.1 bt461.2.2.2.2.2.2.2.2).bind fun bt496 => ((tenementref15_Right.f k bt496.1 bt496.2.1 bt496.2.2.1 bt496.2.2.2.1 bt496.2.2.2.2.1 bt496.2.2.2.2.2.1 bt496.2.2.2.2.2.2.1 bt496.2.2.2.2.2.2.2.1 bt496.2.2.2.2.2.2.2.2).bind fun t507 => (if t495 = t507 then (if bt473.1.toList = bt486.1.toList then (if bt473.2 = bt486.2 then (some true) else (none)) else (none)) else (none))))) else (none))))))))))) else (none))) = some r := h
 clear h
 replace H := Option.bind_eq_some_iff.mp H
 obtain ⟨t449, A40, H⟩ := H
 replace H : (if t449 = true then ((tenementlaw15_Vector_vector.f k a0_0 a0_1 a0_2 a0_3 a0_4).bind fun bt450 => ((tenementlaw15_Mark_mark.f k a1_0 a1_1 a1_2 a1_3 a1_4 a1_5).bind fun bt455 => ((tenementlaw15_Letter_letter.f k a2_0 a2_1 a2_2 a2_3 a2_4 a2_5 a2_6 a2_7 a2_8 l2_9 a2_10 a2_11).bind fun bt461 => ((stream_Put.f k bt461.1 bt461.2.1 bt461.2.2.1 bt461.2.2.2.1 bt461.2.2.2.2.1 bt461.2.2.2.2.2.1 bt461.2.2.2.2.2.2.1 bt461.2.2.2.2.2.2.2.1 bt461.2.2.2.2.2.2.2.2).bind fun bt473 => ((tenementlaw15_refMsg.f k bt461.1 bt461.2.1 bt461.2.2.1 bt461.2.2.2.1 bt461.2.2.2.2.1 bt461.2.2.2.2.2.1 bt461.2.2.2.2.2.2.1 bt461.2.2.2.2.2.2.2.1 bt461.2.2.2.2.2.2.2.2).bind fun bt475 => ((tenementref15_Put.f k bt475.1 bt475.2.1 bt475.2.2.1 bt475.2.2.2.1 bt475.2.2.2.2.1 bt475.2.2.2.2.2.1 bt475.2.2.2.2.2.2.1 bt475.2.2.2.2.2.2.2.1 bt475.2.2.2.2.2.2.2.2).bind fun bt486 => ((stream_Ready.f bt450.1 bt450.2.1 bt450.2.2.1 bt450.2.2.2 bt455.1 bt455.2.1 bt455.2.2.1 bt455.2.2.2.1 bt455.2.2.2.2).bind fun t488 => ((tenementlaw15_refStamp.f bt455.1 bt455.2.1 bt455.2.2.1 bt455.2.2.2.1 bt455.2.2.2.2).bind fun bt489 => ((tenementref15_Ready.f k bt450.1 bt450.2.1 bt450.2.2.1 bt450.2.2.2 bt489.1 bt489.2.1 bt489.2.2.1 bt489.2.2.2.1 bt489.2.2.2.2).bind fun t494 => (if t488 = t494 then ((stream_Right.f k bt461.1 bt461.2.1 bt461.2.2.1 bt461.2.2.2.1 bt461.2.2.2.2.1 bt461.2.2.2.2.2.1 bt461.2.2.2.2.2.2.1 bt461.2.2.2.2.2.2.2.1 bt461.2.2.2.2.2.2.2.2).bind fun t495 => ((tenementlaw15_refMsg.f k bt461.1 bt461.2.1 bt461.2.2.1 bt461.2.2.2.1 bt461.2.2.2.2.1 bt461.2.2.2.2.2.1 bt461.2.2.2.2.2.2.1 bt461.2.2.2.2.2.2.2.1 bt461.2.2.2.2.2.2.2.2).bind fun bt496 => ((tenementref15_Right.f k bt496.1 bt496.2.1 bt496.2.2.1 bt496.2.2.2.1 bt496.2.2.2.2.1 bt496.2.2.2.2.2.1 bt496.2.2.2.2.2.2.1 bt496.2.2.2.2.2.2.2.1 bt496.2.2.2.2.2.2.2.2).bind fun t507 => (if t495 = t507 then (if bt473.1.toList = bt486.1.toList then (if bt473.2 = bt486.2 then (some true) else (none)) else (none)) else (none))))) else (none))))))))))) else (none)) = some r := H
 have A4 := Aside0.mk A40
 clear A40
 by_cases c5 : t449 = true
 rotate_left
 ·replace c5 := Bool.eq_false_iff.mpr c5
  subst c5
  have H1 : (none) = some r := by rw [if_neg (show ¬ (false = true) by decide)] at H; exact H
  clear H
  have H := H1
  clear H1
  exact absurd H (by simp)
 subst c5
 have H1 : ((tenementlaw15_Vector_vector.f k a0_0 a0_1 a0_2 a0_3 a0_4).bind fun bt450 => ((tenementlaw15_Mark_mark.f k a1_0 a1_1 a1_2 a1_3 a1_4 a1_5).bind fun bt455 => ((tenementlaw15_Letter_letter.f k a2_0 a2_1 a2_2 a2_3 a2_4 a2_5 a2_6 a2_7 a2_8 l2_9 a2_10 a2_11).bind fun bt461 => ((stream_Put.f k bt461.1 bt461.2.1 bt461.2.2.1 bt461.2.2.2.1 bt461.2.2.2.2.1 bt461.2.2.2.2.2.1 bt461.2.2.2.2.2.2.1 bt461.2.2.2.2.2.2.2.1 bt461.2.2.2.2.2.2.2.2).bind fun bt473 => ((tenementlaw15_refMsg.f k bt461.1 bt461.2.1 bt461.2.2.1 bt461.2.2.2.1 bt461.2.2.2.2.1 bt461.2.2.2.2.2.1 bt461.2.2.2.2.2.2.1 bt461.2.2.2.2.2.2.2.1 bt461.2.2.2.2.2.2.2.2).bind fun bt475 => ((tenementref15_Put.f k bt475.1 bt475.2.1 bt475.2.2.1 bt475.2.2.2.1 bt475.2.2.2.2.1 bt475.2.2.2.2.2.1 bt475.2.2.2.2.2.2.1 bt475.2.2.2.2.2.2.2.1 bt475.2.2.2.2.2.2.2.2).bind fun bt486 => ((stream_Ready.f bt450.1 bt450.2.1 bt450.2.2.1 bt450.2.2.2 bt455.1 bt455.2.1 bt455.2.2.1 bt455.2.2.2.1 bt455.2.2.2.2).bind fun t488 => ((tenementlaw15_refStamp.f bt455.1 bt455.2.1 bt455.2.2.1 bt455.2.2.2.1 bt455.2.2.2.2).bind fun bt489 => ((tenementref15_Ready.f k bt450.1 bt450.2.1 bt450.2.2.1 bt450.2.2.2 bt489.1 bt489.2.1 bt489.2.2.1 bt489.2.2.2.1 bt489.2.2.2.2).bind fun t494 => (if t488 = t494 then ((stream_Right.f k bt461.1 bt461.2.1 bt461.2.2.1 bt461.2.2.2.1 bt461.2.2.2.2.1 bt461.2.2.2.2.2.1 bt461.2.2.2.2.2.2.1 bt461.2.2.2.2.2.2.2.1 bt461.2.2.2.2.2.2.2.2).bind fun t495 => ((tenementlaw15_refMsg.f k bt461.1 bt461.2.1 bt461.2.2.1 bt461.2.2.2.1 bt461.2.2.2.2.1 bt461.2.2.2.2.2.1 bt461.2.2.2.2.2.2.1 bt461.2.2.2.2.2.2.2.1 bt461.2.2.2.2.2.2.2.2).bind fun bt496 => ((tenementref15_Right.f k bt496.1 bt496.2.1 bt496.2.2.1 bt496.2.2.2.1 bt496.2.2.2.2.1 bt496.2.2.2.2.2.1 bt496.2.2.2.2.2.2.1 bt496.2.2.2.2.2.2.2.1 bt496.2.2.2.2.2.2.2.2).bind fun t507 => (if t495 = t507 then (if bt473.1.toList = bt486.1.toList then (if bt473.2 = bt486.2 then (some true) else (none)) else (none)) else (none))))) else (none))))))))))) = some r := by rw [if_pos rfl] at H; exact H
 clear H
 have H := H1
 clear H1
 replace H := Option.bind_eq_some_iff.mp H
 obtain ⟨⟨t450, t451, t452, t453⟩, A60, H⟩ := H
 replace H : ((tenementlaw15_Mark_mark.f k a1_0 a1_1 a1_2 a1_3 a1_4 a1_5).bind fun bt455 => ((tenementlaw15_Letter_letter.f k a2_0 a2_1 a2_2 a2_3 a2_4 a2_5 a2_6 a2_7 a2_8 l2_9 a2_10 a2_11).bind fun bt461 => ((stream_Put.f k bt461.1 bt461.2.1 bt461.2.2.1 bt461.2.2.2.1 bt461.2.2.2.2.1 bt461.2.2.2.2.2.1 bt461.2.2.2.2.2.2.1 bt461.2.2.2.2.2.2.2.1 bt461.2.2.2.2.2.2.2.2).bind fun bt473 => ((tenementlaw15_refMsg.f k bt461.1 bt461.2.1 bt461.2.2.1 bt461.2.2.2.1 bt461.2.2.2.2.1 bt461.2.2.2.2.2.1 bt461.2.2.2.2.2.2.1 bt461.2.2.2.2.2.2.2.1 bt461.2.2.2.2.2.2.2.2).bind fun bt475 => ((tenementref15_Put.f k bt475.1 bt475.2.1 bt475.2.2.1 bt475.2.2.2.1 bt475.2.2.2.2.1 bt475.2.2.2.2.2.1 bt475.2.2.2.2.2.2.1 bt475.2.2.2.2.2.2.2.1 bt475.2.2.2.2.2.2.2.2).bind fun bt486 => ((stream_Ready.f t450 t451 t452 t453 bt455.1 bt455.2.1 bt455.2.2.1 bt455.2.2.2.1 bt455.2.2.2.2).bind fun t488 => ((tenementlaw15_refStamp.f bt455.1 bt455.2.1 bt455.2.2.1 bt455.2.2.2.1 bt455.2.2.2.2).bind fun bt489 => ((tenementref15_Ready.f k t450 t451 t452 t453 bt489.1 bt489.2.1 bt489.2.2.1 bt489.2.2.2.1 bt489.2.2.2.2).bind fun t494 => (if t488 = t494 then ((stream_Right.f k bt461.1 bt461.2.1 bt461.2.2.1 bt461.2.2.2.1 bt461.2.2.2.2.1 bt461.2.2.2.2.2.1 bt461.2.2.2.2.2.2.1 bt461.2.2.2.2.2.2.2.1 bt461.2.2.2.2.2.2.2.2).bind fun t495 => ((tenementlaw15_refMsg.f k bt461.1 bt461.2.1 bt461.2.2.1 bt461.2.2.2.1 bt461.2.2.2.2.1 bt461.2.2.2.2.2.1 bt461.2.2.2.2.2.2.1 bt461.2.2.2.2.2.2.2.1 bt461.2.2.2.2.2.2.2.2).bind fun bt496 => ((tenementref15_Right.f k bt496.1 bt496.2.1 bt496.2.2.1 bt496.2.2.2.1 bt496.2.2.2.2.1 bt496.2.2.2.2.2.1 bt496.2.2.2.2.2.2.1 bt496.2.2.2.2.2.2.2.1 bt496.2.2.2.2.2.2.2.2).bind fun t507 => (if t495 = t507 then (if bt473.1.toList = bt486.1.toList then (if bt473.2 = bt486.2 then (some true) else (none)) else (none)) else (none))))) else (none)))))))))) = some r := H
 have A6 := Aside0.mk A60
 clear A60
 replace H := Option.bind_eq_some_iff.mp H
 obtain ⟨⟨t455, t456, t457, t458, t459⟩, A70, H⟩ := H
 replace H : ((tenementlaw15_Letter_letter.f k a2_0 a2_1 a2_2 a2_3 a2_4 a2_5 a2_6 a2_7 a2_8 l2_9 a2_10 a2_11).bind fun bt461 => ((stream_Put.f k bt461.1 bt461.2.1 bt461.2.2.1 bt461.2.2.2.1 bt461.2.2.2.2.1 bt461.2.2.2.2.2.1 bt461.2.2.2.2.2.2.1 bt461.2.2.2.2.2.2.2.1 bt461.2.2.2.2.2.2.2.2).bind fun bt473 => ((tenementlaw15_refMsg.f k bt461.1 bt461.2.1 bt461.2.2.1 bt461.2.2.2.1 bt461.2.2.2.2.1 bt461.2.2.2.2.2.1 bt461.2.2.2.2.2.2.1 bt461.2.2.2.2.2.2.2.1 bt461.2.2.2.2.2.2.2.2).bind fun bt475 => ((tenementref15_Put.f k bt475.1 bt475.2.1 bt475.2.2.1 bt475.2.2.2.1 bt475.2.2.2.2.1 bt475.2.2.2.2.2.1 bt475.2.2.2.2.2.2.1 bt475.2.2.2.2.2.2.2.1 bt475.2.2.2.2.2.2.2.2).bind fun bt486 => ((stream_Ready.f t450 t451 t452 t453 t455 t456 t457 t458 t459).bind fun t488 => ((tenementlaw15_refStamp.f t455 t456 t457 t458 t459).bind fun bt489 => ((tenementref15_Ready.f k t450 t451 t452 t453 bt489.1 bt489.2.1 bt489.2.2.1 bt489.2.2.2.1 bt489.2.2.2.2).bind fun t494 => (if t488 = t494 then ((stream_Right.f k bt461.1 bt461.2.1 bt461.2.2.1 bt461.2.2.2.1 bt461.2.2.2.2.1 bt461.2.2.2.2.2.1 bt461.2.2.2.2.2.2.1 bt461.2.2.2.2.2.2.2.1 bt461.2.2.2.2.2.2.2.2).bind fun t495 => ((tenementlaw15_refMsg.f k bt461.1 bt461.2.1 bt461.2.2.1 bt461.2.2.2.1 bt461.2.2.2.2.1 bt461.2.2.2.2.2.1 bt461.2.2.2.2.2.2.1 bt461.2.2.2.2.2.2.2.1 bt461.2.2.2.2.2.2.2.2).bind fun bt496 => ((tenementref15_Right.f k bt496.1 bt496.2.1 bt496.2.2.1 bt496.2.2.2.1 bt496.2.2.2.2.1 bt496.2.2.2.2.2.1 bt496.2.2.2.2.2.2.1 bt496.2.2.2.2.2.2.2.1 bt496.2.2.2.2.2.2.2.2).bind fun t507 => (if t495 = t507 then (if bt473.1.toList = bt486.1.toList then (if bt473.2 = bt486.2 then (some true) else (none)) else (none)) else (none))))) else (none))))))))) = some r := H
 have A7 := Aside0.mk A70
 clear A70
 replace H := Option.bind_eq_some_iff.mp H
 obtain ⟨⟨t461, t462, t463, t464, t465, t466, t467, t468, t469⟩, A80, H⟩ := H
 replace H : ((stream_Put.f k t461 t462 t463 t464 t465 t466 t467 t468 t469).bind fun bt473 => ((tenementlaw15_refMsg.f k t461 t462 t463 t464 t465 t466 t467 t468 t469).bind fun bt475 => ((tenementref15_Put.f k bt475.1 bt475.2.1 bt475.2.2.1 bt475.2.2.2.1 bt475.2.2.2.2.1 bt475.2.2.2.2.2.1 bt475.2.2.2.2.2.2.1 bt475.2.2.2.2.2.2.2.1 bt475.2.2.2.2.2.2.2.2).bind fun bt486 => ((stream_Ready.f t450 t451 t452 t453 t455 t456 t457 t458 t459).bind fun t488 => ((tenementlaw15_refStamp.f t455 t456 t457 t458 t459).bind fun bt489 => ((tenementref15_Ready.f k t450 t451 t452 t453 bt489.1 bt489.2.1 bt489.2.2.1 bt489.2.2.2.1 bt489.2.2.2.2).bind fun t494 => (if t488 = t494 then ((stream_Right.f k t461 t462 t463 t464 t465 t466 t467 t468 t469).bind fun t495 => ((tenementlaw15_refMsg.f k t461 t462 t463 t464 t465 t466 t467 t468 t469).bind fun bt496 => ((tenementref15_Right.f k bt496.1 bt496.2.1 bt496.2.2.1 bt496.2.2.2.1 bt496.2.2.2.2.1 bt496.2.2.2.2.2.1 bt496.2.2.2.2.2.2.1 bt496.2.2.2.2.2.2.2.1 bt496.2.2.2.2.2.2.2.2).bind fun t507 => (if t495 = t507 then (if bt473.1.toList = bt486.1.toList then (if bt473.2 = bt486.2 then (some true) else (none)) else (none)) else (none))))) else (none)))))))) = some r := H
 have A8 := Aside0.mk A80
 clear A80
 replace H := Option.bind_eq_some_iff.mp H
 obtain ⟨⟨t473, t474⟩, A90, H⟩ := H
 replace H : ((tenementlaw15_refMsg.f k t461 t462 t463 t464 t465 t466 t467 t468 t469).bind fun bt475 => ((tenementref15_Put.f k bt475.1 bt475.2.1 bt475.2.2.1 bt475.2.2.2.1 bt475.2.2.2.2.1 bt475.2.2.2.2.2.1 bt475.2.2.2.2.2.2.1 bt475.2.2.2.2.2.2.2.1 bt475.2.2.2.2.2.2.2.2).bind fun bt486 => ((stream_Ready.f t450 t451 t452 t453 t455 t456 t457 t458 t459).bind fun t488 => ((tenementlaw15_refStamp.f t455 t456 t457 t458 t459).bind fun bt489 => ((tenementref15_Ready.f k t450 t451 t452 t453 bt489.1 bt489.2.1 bt489.2.2.1 bt489.2.2.2.1 bt489.2.2.2.2).bind fun t494 => (if t488 = t494 then ((stream_Right.f k t461 t462 t463 t464 t465 t466 t467 t468 t469).bind fun t495 => ((tenementlaw15_refMsg.f k t461 t462 t463 t464 t465 t466 t467 t468 t469).bind fun bt496 => ((tenementref15_Right.f k bt496.1 bt496.2.1 bt496.2.2.1 bt496.2.2.2.1 bt496.2.2.2.2.1 bt496.2.2.2.2.2.1 bt496.2.2.2.2.2.2.1 bt496.2.2.2.2.2.2.2.1 bt496.2.2.2.2.2.2.2.2).bind fun t507 => (if t495 = t507 then (if t473.toList = bt486.1.toList then (if t474 = bt486.2 then (some true) else (none)) else (none)) else (none))))) else (none))))))) = some r := H
 have A9 := Aside0.mk A90
 clear A90
 replace H := Option.bind_eq_some_iff.mp H
 obtain ⟨⟨t475, t476, t477, t478, t479, t480, t481, t482, t483⟩, A100, H⟩ := H
 replace H : ((tenementref15_Put.f k t475 t476 t477 t478 t479 t480 t481 t482 t483).bind fun bt486 => ((stream_Ready.f t450 t451 t452 t453 t455 t456 t457 t458 t459).bind fun t488 => ((tenementlaw15_refStamp.f t455 t456 t457 t458 t459).bind fun bt489 => ((tenementref15_Ready.f k t450 t451 t452 t453 bt489.1 bt489.2.1 bt489.2.2.1 bt489.2.2.2.1 bt489.2.2.2.2).bind fun t494 => (if t488 = t494 then ((stream_Right.f k t461 t462 t463 t464 t465 t466 t467 t468 t469).bind fun t495 => ((tenementlaw15_refMsg.f k t461 t462 t463 t464 t465 t466 t467 t468 t469).bind fun bt496 => ((tenementref15_Right.f k bt496.1 bt496.2.1 bt496.2.2.1 bt496.2.2.2.1 bt496.2.2.2.2.1 bt496.2.2.2.2.2.1 bt496.2.2.2.2.2.2.1 bt496.2.2.2.2.2.2.2.1 bt496.2.2.2.2.2.2.2.2).bind fun t507 => (if t495 = t507 then (if t473.toList = bt486.1.toList then (if t474 = bt486.2 then (some true) else (none)) else (none)) else (none))))) else (none)))))) = some r := H
 have A10 := Aside0.mk A100
 clear A100
 replace H := Option.bind_eq_some_iff.mp H
 obtain ⟨⟨t486, t487⟩, A110, H⟩ := H
 replace H : ((stream_Ready.f t450 t451 t452 t453 t455 t456 t457 t458 t459).bind fun t488 => ((tenementlaw15_refStamp.f t455 t456 t457 t458 t459).bind fun bt489 => ((tenementref15_Ready.f k t450 t451 t452 t453 bt489.1 bt489.2.1 bt489.2.2.1 bt489.2.2.2.1 bt489.2.2.2.2).bind fun t494 => (if t488 = t494 then ((stream_Right.f k t461 t462 t463 t464 t465 t466 t467 t468 t469).bind fun t495 => ((tenementlaw15_refMsg.f k t461 t462 t463 t464 t465 t466 t467 t468 t469).bind fun bt496 => ((tenementref15_Right.f k bt496.1 bt496.2.1 bt496.2.2.1 bt496.2.2.2.1 bt496.2.2.2.2.1 bt496.2.2.2.2.2.1 bt496.2.2.2.2.2.2.1 bt496.2.2.2.2.2.2.2.1 bt496.2.2.2.2.2.2.2.2).bind fun t507 => (if t495 = t507 then (if t473.toList = t486.toList then (if t474 = t487 then (some true) else (none)) else (none)) else (none))))) else (none))))) = some r := H
 have A11 := Aside0.mk A110
 clear A110
 replace H := Option.bind_eq_some_iff.mp H
 obtain ⟨t488, A120, H⟩ := H
 replace H : ((tenementlaw15_refStamp.f t455 t456 t457 t458 t459).bind fun bt489 => ((tenementref15_Ready.f k t450 t451 t452 t453 bt489.1 bt489.2.1 bt489.2.2.1 bt489.2.2.2.1 bt489.2.2.2.2).bind fun t494 => (if t488 = t494 then ((stream_Right.f k t461 t462 t463 t464 t465 t466 t467 t468 t469).bind fun t495 => ((tenementlaw15_refMsg.f k t461 t462 t463 t464 t465 t466 t467 t468 t469).bind fun bt496 => ((tenementref15_Right.f k bt496.1 bt496.2.1 bt496.2.2.1 bt496.2.2.2.1 bt496.2.2.2.2.1 bt496.2.2.2.2.2.1 bt496.2.2.2.2.2.2.1 bt496.2.2.2.2.2.2.2.1 bt496.2.2.2.2.2.2.2.2).bind fun t507 => (if t495 = t507 then (if t473.toList = t486.toList then (if t474 = t487 then (some true) else (none)) else (none)) else (none))))) else (none)))) = some r := H
 have A12 := Aside0.mk A120
 clear A120
 replace H := Option.bind_eq_some_iff.mp H
 obtain ⟨⟨t489, t490, t491, t492, t493⟩, A130, H⟩ := H
 replace H : ((tenementref15_Ready.f k t450 t451 t452 t453 t489 t490 t491 t492 t493).bind fun t494 => (if t488 = t494 then ((stream_Right.f k t461 t462 t463 t464 t465 t466 t467 t468 t469).bind fun t495 => ((tenementlaw15_refMsg.f k t461 t462 t463 t464 t465 t466 t467 t468 t469).bind fun bt496 => ((tenementref15_Right.f k bt496.1 bt496.2.1 bt496.2.2.1 bt496.2.2.2.1 bt496.2.2.2.2.1 bt496.2.2.2.2.2.1 bt496.2.2.2.2.2.2.1 bt496.2.2.2.2.2.2.2.1 bt496.2.2.2.2.2.2.2.2).bind fun t507 => (if t495 = t507 then (if t473.toList = t486.toList then (if t474 = t487 then (some true) else (none)) else (none)) else (none))))) else (none))) = some r := H
 have A13 := Aside0.mk A130
 clear A130
 replace H := Option.bind_eq_some_iff.mp H
 obtain ⟨t494, A140, H⟩ := H
 replace H : (if t488 = t494 then ((stream_Right.f k t461 t462 t463 t464 t465 t466 t467 t468 t469).bind fun t495 => ((tenementlaw15_refMsg.f k t461 t462 t463 t464 t465 t466 t467 t468 t469).bind fun bt496 => ((tenementref15_Right.f k bt496.1 bt496.2.1 bt496.2.2.1 bt496.2.2.2.1 bt496.2.2.2.2.1 bt496.2.2.2.2.2.1 bt496.2.2.2.2.2.2.1 bt496.2.2.2.2.2.2.2.1 bt496.2.2.2.2.2.2.2.2).bind fun t507 => (if t495 = t507 then (if t473.toList = t486.toList then (if t474 = t487 then (some true) else (none)) else (none)) else (none))))) else (none)) = some r := H
 have A14 := Aside0.mk A140
 clear A140
 by_cases c15 : t488 = t494
 rotate_left
 ·rw [if_neg c15] at H
  exact absurd H (by simp)
 rw [if_pos c15] at H
 have c15b0 : (t488 == t494) = true := beq_iff_eq.mpr c15
 have c15b1 : (t488 != t494) = false := bne_eq_false_iff_eq.mpr c15
 clear c15
 replace H := Option.bind_eq_some_iff.mp H
 obtain ⟨t495, A160, H⟩ := H
 replace H : ((tenementlaw15_refMsg.f k t461 t462 t463 t464 t465 t466 t467 t468 t469).bind fun bt496 => ((tenementref15_Right.f k bt496.1 bt496.2.1 bt496.2.2.1 bt496.2.2.2.1 bt496.2.2.2.2.1 bt496.2.2.2.2.2.1 bt496.2.2.2.2.2.2.1 bt496.2.2.2.2.2.2.2.1 bt496.2.2.2.2.2.2.2.2).bind fun t507 => (if t495 = t507 then (if t473.toList = t486.toList then (if t474 = t487 then (some true) else (none)) else (none)) else (none)))) = some r := H
 have A16 := Aside0.mk A160
 clear A160
 replace H := Option.bind_eq_some_iff.mp H
 obtain ⟨⟨t496, t497, t498, t499, t500, t501, t502, t503, t504⟩, A170, H⟩ := H
 replace H : ((tenementref15_Right.f k t496 t497 t498 t499 t500 t501 t502 t503 t504).bind fun t507 => (if t495 = t507 then (if t473.toList = t486.toList then (if t474 = t487 then (some true) else (none)) else (none)) else (none))) = some r := H
 have A17 := Aside0.mk A170
 clear A170
 replace H := Option.bind_eq_some_iff.mp H
 obtain ⟨t507, A180, H⟩ := H
 replace H : (if t495 = t507 then (if t473.toList = t486.toList then (if t474 = t487 then (some true) else (none)) else (none)) else (none)) = some r := H
 have A18 := Aside0.mk A180
 clear A180
 by_cases c19 : t495 = t507
 rotate_left
 ·rw [if_neg c19] at H
  exact absurd H (by simp)
 subst c19
 have H1 : (if t473.toList = t486.toList then (if t474 = t487 then (some true) else (none)) else (none)) = some r := by rw [if_pos rfl] at H; exact H
 clear H
 have H := H1
 clear H1
 by_cases c20 : t473.toList = t486.toList
 rotate_left
 ·rw [if_neg c20] at H
  exact absurd H (by simp)
 rw [if_pos c20] at H
 have c20b0 : (t473.toList == t486.toList) = true := beq_iff_eq.mpr c20
 have c20b1 : (t473.toList != t486.toList) = false := bne_eq_false_iff_eq.mpr c20
 clear c20
 by_cases c21 : t474 = t487
 rotate_left
 ·rw [if_neg c21] at H
  exact absurd H (by simp)
 subst c21
 have H1 : (some true) = some r := by rw [if_pos rfl] at H; exact H
 clear H
 have H := H1
 clear H1
 obtain rfl := Option.some.inj H
 go_enter Try.func4, Try.ntmps4
 try go_wp2_with (first | ((with_reducible refine gate_dst (N := 3) rfl ?_); refine Ka_ 3 #[.int .u64 a0_0, .int .u64 a0_1, .int .u64 a0_2, .int .u64 a0_3, .bool a0_4] 63 ?_; intro gb446 hg w22 hbox hb; have BK446 := Aside0.mk (hbox); have GW446 := Kw_ HB hg; have GE446 := GW446; replace HB := Ks_ HB hb; clear hb hbox hg) | ((with_reducible refine gate_dst (N := 4) rfl ?_); refine Ka_ 4 #[.int .u64 a1_0, .int .u64 a1_1, .int .u64 a1_2, .int .u64 a1_3, .int .i64 a1_4, .bool a1_5] 39 ?_; intro gb447 hg w23 hbox hb; have BK447 := Aside0.mk (hbox); have GW447 := Kw_ HB hg; have GE447 := GW447; have NB446_447 := Kl_ BK446 hg; have NB447_446 := Kr_ BK446 hg; replace BK446 := Kb_ BK446 hb; replace HB := Ks_ HB hb; clear hb hbox hg) | ((with_reducible refine gate_dst (N := 5) rfl ?_); refine Ka_ 5 #[.int .i64 a2_0, .int .i64 a2_1, .int .u64 a2_2, .int .u64 a2_3, .int .u64 a2_4, .int .u64 a2_5, .int .u64 a2_6, .int .i64 a2_7, .bool a2_8, .slice A2_9 l2_9.length c2_9, .bool a2_10, .bool a2_11] 65 ?_; intro gb448 hg w24 hbox hb; have BK448 := Aside0.mk (hbox); have GW448 := Kw_ HB hg; have GE448 := GW448; have NB446_448 := Kl_ BK446 hg; have NB448_446 := Kr_ BK446 hg; have NB447_448 := Kl_ BK447 hg; have NB448_447 := Kr_ BK447 hg; replace BK446 := Kb_ BK446 hb; replace BK447 := Kb_ BK447 hb; replace HB := Ks_ HB hb; clear hb hbox hg) | ((with_reducible refine gate_callee (f := 11) rfl ?_); refine Kg_ (some 15) rfl rfl Try.func11 (by kernel_rfl) rfl #[] rfl ?_; (with_reducible refine (tenementlaw15_examples.calls  true _ A4.out).mono ?_); rintro e w25 ⟨rfl, hb⟩; refine ⟨_, rfl, ?_⟩; replace BK446 := Kb_ BK446 hb; replace BK447 := Kb_ BK447 hb; replace BK448 := Kb_ BK448 hb; replace HB := Ks_ HB hb; (try clear hb); (try clear hb2); (try clear hk); (try clear hi); have hnb26 := NB446_447.out; have hnc26 := NB447_446.out; have hnb27 := NB446_448.out; have hnc27 := NB448_446.out; obtain ⟨hcz28_0, hcz28_1, hcz28_2, hcz28_3, hcz28_4, hfz28_0, hfz28_1, hfz28_2, hfz28_3, hfz28_4⟩ := Ke5_ BK446.out) | ((with_reducible refine gate_callee (f := 24) rfl ?_); refine Kg_ (some 19) rfl rfl Try.func24 (by kernel_rfl) rfl #[.agg #[.int .u64 a0_0, .int .u64 a0_1, .int .u64 a0_2, .int .u64 a0_3, .bool a0_4]] rfl ?_; (with_reducible refine (tenementlaw15_Vector_vector.calls k a0_0 a0_1 a0_2 a0_3 a0_4 t450 t451 t452 t453 _ A6.out).mono ?_); rintro e w29 ⟨rfl, hb⟩; refine ⟨_, rfl, ?_⟩; replace BK446 := Kb_ BK446 hb; replace BK447 := Kb_ BK447 hb; replace BK448 := Kb_ BK448 hb; replace HB := Ks_ HB hb; (try clear hb); (try clear hb2); (try clear hk); (try clear hi)) | ((with_reducible refine gate_dst (N := 8) rfl ?_); refine Ka_ 8 #[.int .u64 0, .int .u64 0, .int .u64 0, .int .u64 0] 28 ?_; intro gb454 hg w30 hbox hb; have BK454 := Aside0.mk (hbox); have GW454 := Kw_ HB hg; have GE454 := GW454; have NB446_454 := Kl_ BK446 hg; have NB454_446 := Kr_ BK446 hg; have NB447_454 := Kl_ BK447 hg; have NB454_447 := Kr_ BK447 hg; have NB448_454 := Kl_ BK448 hg; have NB454_448 := Kr_ BK448 hg; replace BK446 := Kb_ BK446 hb; replace BK447 := Kb_ BK447 hb; replace BK448 := Kb_ BK448 hb; replace HB := Ks_ HB hb; clear hb hbox hg; have hnb31 := NB454_446.out; have hnc31 := NB446_454.out; have hnb32 := NB454_447.out; have hnc32 := NB447_454.out; have hnb33 := NB454_448.out; have hnc33 := NB448_454.out; obtain ⟨hcz34_0, hcz34_1, hcz34_2, hcz34_3, hfz34_0, hfz34_1, hfz34_2, hfz34_3⟩ := Ke4_ BK454.out; have hnb35 := NB447_448.out; have hnc35 := NB448_447.out; obtain ⟨hcz36_0, hcz36_1, hcz36_2, hcz36_3, hcz36_4, hcz36_5, hfz36_0, hfz36_1, hfz36_2, hfz36_3, hfz36_4, hfz36_5⟩ := Ke6_ BK447.out) | ((with_reducible refine gate_callee (f := 25) rfl ?_); refine Kg_ (some 21) rfl rfl Try.func25 (by kernel_rfl) rfl #[.agg #[.int .u64 a1_0, .int .u64 a1_1, .int .u64 a1_2, .int .u64 a1_3, .int .i64 a1_4, .bool a1_5]] rfl ?_; (with_reducible refine (tenementlaw15_Mark_mark.calls k a1_0 a1_1 a1_2 a1_3 a1_4 a1_5 t455 t456 t457 t458 t459 _ A7.out).mono ?_); rintro e w37 ⟨rfl, hb⟩; refine ⟨_, rfl, ?_⟩; replace BK446 := Kf_ BK446 NB446_454 hb; replace BK447 := Kf_ BK447 NB447_454 hb; replace BK448 := Kf_ BK448 NB448_454 hb; replace BK454 := Aside0.mk (blk_below (g := gb454) (o := .cells #[.int .u64 t450, .int .u64 t451, .int .u64 t452, .int .u64 t453] 28 (0, 0)) (by refine Kv_ ?_; refine blk_put (cs := #[.int .u64 t450, .int .u64 t451, .int .u64 t452, .int .u64 0]) ?_ 3 _ rfl; refine Kv_ ?_; refine blk_put (cs := #[.int .u64 t450, .int .u64 t451, .int .u64 0, .int .u64 0]) ?_ 2 _ rfl; refine Kv_ ?_; refine blk_put (cs := #[.int .u64 t450, .int .u64 0, .int .u64 0, .int .u64 0]) ?_ 1 _ rfl; refine Kv_ ?_; refine blk_put (cs := #[.int .u64 0, .int .u64 0, .int .u64 0, .int .u64 0]) ?_ 0 _ rfl; exact Kq_ BK454) hb); replace HB := Kt_ HB GE454 hb; (try clear hb); (try clear hb2); (try clear hk); (try clear hi)) | ((with_reducible refine gate_dst (N := 9) rfl ?_); refine Ka_ 9 #[.int .u64 0, .int .u64 0, .int .u64 0, .int .u64 0, .int .i64 0] 30 ?_; intro gb460 hg w38 hbox hb; have BK460 := Aside0.mk (hbox); have GW460 := Kw_ HB hg; have GE460 := GW460; have NB446_460 := Kl_ BK446 hg; have NB460_446 := Kr_ BK446 hg; have NB447_460 := Kl_ BK447 hg; have NB460_447 := Kr_ BK447 hg; have NB448_460 := Kl_ BK448 hg; have NB460_448 := Kr_ BK448 hg; have NB454_460 := Kl_ BK454 hg; have NB460_454 := Kr_ BK454 hg; replace BK446 := Kb_ BK446 hb; replace BK447 := Kb_ BK447 hb; replace BK448 := Kb_ BK448 hb; replace BK454 := Kb_ BK454 hb; replace HB := Ks_ HB hb; clear hb hbox hg; have hnb39 := NB460_446.out; have hnc39 := NB446_460.out; have hnb40 := NB460_447.out; have hnc40 := NB447_460.out; have hnb41 := NB460_448.out; have hnc41 := NB448_460.out; have hnb42 := NB460_454.out; have hnc42 := NB454_460.out; obtain ⟨hcz43_0, hcz43_1, hcz43_2, hcz43_3, hcz43_4, hfz43_0, hfz43_1, hfz43_2, hfz43_3, hfz43_4⟩ := Ke5_ BK460.out; have hcz44_0 : w38.cell? ⟨gb448, 0, none⟩ = some (.int .i64 a2_0) := (blk_cell BK448.out 0).trans rfl; have hcz44_1 : w38.cell? ⟨gb448, 1, none⟩ = some (.int .i64 a2_1) := (blk_cell BK448.out 1).trans rfl; have hcz44_2 : w38.cell? ⟨gb448, 2, none⟩ = some (.int .u64 a2_2) := (blk_cell BK448.out 2).trans rfl; have hcz44_3 : w38.cell? ⟨gb448, 3, none⟩ = some (.int .u64 a2_3) := (blk_cell BK448.out 3).trans rfl; have hcz44_4 : w38.cell? ⟨gb448, 4, none⟩ = some (.int .u64 a2_4) := (blk_cell BK448.out 4).trans rfl; have hcz44_5 : w38.cell? ⟨gb448, 5, none⟩ = some (.int .u64 a2_5) := (blk_cell BK448.out 5).trans rfl; have hcz44_6 : w38.cell? ⟨gb448, 6, none⟩ = some (.int .u64 a2_6) := (blk_cell BK448.out 6).trans rfl; have hcz44_7 : w38.cell? ⟨gb448, 7, none⟩ = some (.int .i64 a2_7) := (blk_cell BK448.out 7).trans rfl; have hcz44_8 : w38.cell? ⟨gb448, 8, none⟩ = some (.bool a2_8) := (blk_cell BK448.out 8).trans rfl; have hcz44_9 : w38.cell? ⟨gb448, 9, none⟩ = some (.slice A2_9 l2_9.length c2_9) := (blk_cell BK448.out 9).trans rfl; have hcz44_10 : w38.cell? ⟨gb448, 10, none⟩ = some (.bool a2_10) := (blk_cell BK448.out 10).trans rfl; have hcz44_11 : w38.cell? ⟨gb448, 11, none⟩ = some (.bool a2_11) := (blk_cell BK448.out 11).trans rfl; have hfz44_0 := blk_frozen BK448.out 0; have hfz44_1 := blk_frozen BK448.out 1; have hfz44_2 := blk_frozen BK448.out 2; have hfz44_3 := blk_frozen BK448.out 3; have hfz44_4 := blk_frozen BK448.out 4; have hfz44_5 := blk_frozen BK448.out 5; have hfz44_6 := blk_frozen BK448.out 6; have hfz44_7 := blk_frozen BK448.out 7; have hfz44_8 := blk_frozen BK448.out 8; have hfz44_9 := blk_frozen BK448.out 9; have hfz44_10 := blk_frozen BK448.out 10; have hfz44_11 := blk_frozen BK448.out 11) | ((with_reducible refine gate_callee (f := 26) rfl ?_); refine Kg_ (some 23) rfl rfl Try.func26 (by kernel_rfl) rfl #[.agg #[.int .i64 a2_0, .int .i64 a2_1, .int .u64 a2_2, .int .u64 a2_3, .int .u64 a2_4, .int .u64 a2_5, .int .u64 a2_6, .int .i64 a2_7, .bool a2_8, .slice A2_9 l2_9.length c2_9, .bool a2_10, .bool a2_11]] rfl ?_; (with_reducible refine (tenementlaw15_Letter_letter.calls k a2_0 a2_1 a2_2 a2_3 a2_4 a2_5 a2_6 a2_7 a2_8 _ _ l2_9 a2_10 a2_11 t461 t462 t463 t464 t465 t466 t467 t468 t469 _ ?side1 ?side2 A8.out).mono ?_); (case side1 => exact Kd.C_below HR2_9.out (by repeat (first | (with_reducible first | exact HB.out | apply below_alloc | apply pw_below_drewN | apply below_drew1 | refine below_set ?_ GE446.out | refine below_set ?_ GE447.out | refine below_set ?_ GE448.out | refine below_set ?_ GE454.out | refine below_set ?_ GE460.out) | exact HB.out))); (case side2 => exact HC2_9.out); rintro e w45 ⟨v470, rfl, ho0, hb⟩; refine ⟨_, rfl, ?_⟩; have HO471 := Aside0.mk (Kd.R_lower ho0 (below_size (by repeat (first | (with_reducible first | exact HB.out | apply below_alloc | apply pw_below_drewN | apply below_drew1 | refine below_set ?_ GE446.out | refine below_set ?_ GE447.out | refine below_set ?_ GE448.out | refine below_set ?_ GE454.out | refine below_set ?_ GE460.out) | exact HB.out)))); replace BK446 := Kf_ BK446 NB446_460 hb; replace BK447 := Kf_ BK447 NB447_460 hb; replace BK448 := Kf_ BK448 NB448_460 hb; replace BK454 := Kf_ BK454 NB454_460 hb; replace BK460 := Aside0.mk (blk_below (g := gb460) (o := .cells #[.int .u64 t455, .int .u64 t456, .int .u64 t457, .int .u64 t458, .int .i64 t459] 30 (0, 0)) (by refine Kv_ ?_; refine blk_put (cs := #[.int .u64 t455, .int .u64 t456, .int .u64 t457, .int .u64 t458, .int .i64 0]) ?_ 4 _ rfl; refine Kv_ ?_; refine blk_put (cs := #[.int .u64 t455, .int .u64 t456, .int .u64 t457, .int .u64 0, .int .i64 0]) ?_ 3 _ rfl; refine Kv_ ?_; refine blk_put (cs := #[.int .u64 t455, .int .u64 t456, .int .u64 0, .int .u64 0, .int .i64 0]) ?_ 2 _ rfl; refine Kv_ ?_; refine blk_put (cs := #[.int .u64 t455, .int .u64 0, .int .u64 0, .int .u64 0, .int .i64 0]) ?_ 1 _ rfl; refine Kv_ ?_; refine blk_put (cs := #[.int .u64 0, .int .u64 0, .int .u64 0, .int .u64 0, .int .i64 0]) ?_ 0 _ rfl; exact Kq_ BK460) hb); replace HB := Kt_ HB GE460 hb; (try clear hb); (try clear hb2); (try clear hk); (try clear hi); (try clear ho0)) | ((with_reducible refine gate_dst (N := 10) rfl ?_); refine Ka_ 10 #[.int .i64 0, .int .i64 0, .int .u64 0, .int .u64 0, .int .u64 0, .int .u64 0, .int .u64 0, .int .i64 0, .slice none 0 0] 69 ?_; intro gb472 hg w46 hbox hb; have BK472 := Aside0.mk (hbox); have GW472 := Kw_ HB hg; have GE472 := GW472; have NB446_472 := Kl_ BK446 hg; have NB472_446 := Kr_ BK446 hg; have NB447_472 := Kl_ BK447 hg; have NB472_447 := Kr_ BK447 hg; have NB448_472 := Kl_ BK448 hg; have NB472_448 := Kr_ BK448 hg; have NB454_472 := Kl_ BK454 hg; have NB472_454 := Kr_ BK454 hg; have NB460_472 := Kl_ BK460 hg; have NB472_460 := Kr_ BK460 hg; replace HO471 := Aside0.mk (Kd.R_below (Ku_ HO471) hb); replace BK446 := Kb_ BK446 hb; replace BK447 := Kb_ BK447 hb; replace BK448 := Kb_ BK448 hb; replace BK454 := Kb_ BK454 hb; replace BK460 := Kb_ BK460 hb; replace HB := Ks_ HB hb; clear hb hbox hg; have hnb47 := NB472_446.out; have hnc47 := NB446_472.out; have hnb48 := NB472_447.out; have hnc48 := NB447_472.out; have hnb49 := NB472_448.out; have hnc49 := NB448_472.out; have hnb50 := NB472_454.out; have hnc50 := NB454_472.out; have hnb51 := NB472_460.out; have hnc51 := NB460_472.out; obtain ⟨hcz52_0, hcz52_1, hcz52_2, hcz52_3, hcz52_4, hcz52_5, hcz52_6, hcz52_7, hcz52_8, hfz52_0, hfz52_1, hfz52_2, hfz52_3, hfz52_4, hfz52_5, hfz52_6, hfz52_7, hfz52_8⟩ := Ke9_ BK472.out; obtain ⟨Ao53, co53, eo53⟩ := Kd.R_slice HO471.out; subst eo53) | ((with_reducible refine gate_callee (f := 27) rfl ?_); refine Kg_ (some 26) rfl rfl Try.func27 (by kernel_rfl) rfl #[.agg #[.int .i64 t461, .int .i64 t462, .int .u64 t463, .int .u64 t464, .int .u64 t465, .int .u64 t466, .int .u64 t467, .int .i64 t468, .slice Ao53 t469.length co53]] rfl ?_; (with_reducible refine (stream_Put.calls k t461 t462 t463 t464 t465 t466 t467 t468 _ _ t469 t473 t474 _ ?side1 ?side2 A9.out).mono ?_); (case side1 => refine (Kd.R_reads' (e := 107) (base := w.heap.size) (ok := fun k_ => True) (n := t469.length) (c := co53) ?_).2.2; exact (by (with_reducible repeat (first | apply Kd.R_alloc | apply Kd.R_drewN | apply Kd.R_drew)); exact (Kd.R_mono (Kd.R_far (p := ⟨gb472, 8, none⟩) (Kd.R_far (p := ⟨gb472, 7, none⟩) (Kd.R_far (p := ⟨gb472, 6, none⟩) (Kd.R_far (p := ⟨gb472, 5, none⟩) (Kd.R_far (p := ⟨gb472, 4, none⟩) (Kd.R_far (p := ⟨gb472, 3, none⟩) (Kd.R_far (p := ⟨gb472, 2, none⟩) (Kd.R_far (p := ⟨gb472, 1, none⟩) (Kd.R_far (p := ⟨gb472, 0, none⟩) (Kd.R_types HO471.out BK472.out (by decide)) (fun _ hk => hk.2) (.int .i64 t461)) (fun _ hk => hk.2) (.int .i64 t462)) (fun _ hk => hk.2) (.int .u64 t463)) (fun _ hk => hk.2) (.int .u64 t464)) (fun _ hk => hk.2) (.int .u64 t465)) (fun _ hk => hk.2) (.int .u64 t466)) (fun _ hk => hk.2) (.int .u64 t467)) (fun _ hk => hk.2) (.int .i64 t468)) (fun _ hk => hk.2) (.slice Ao53 t469.length co53)) (fun _ h_ => h_.1)))); (case side2 => exact (Kd.R_reads' HO471.out).2.1); rintro e w54 ⟨rfl, hb⟩; refine ⟨_, rfl, ?_⟩; replace HO471 := Aside0.mk (Kd.R_below (by (with_reducible repeat (first | apply Kd.R_alloc | apply Kd.R_drewN | apply Kd.R_drew)); exact (Kd.R_mono (Kd.R_far (p := ⟨gb472, 8, none⟩) (Kd.R_far (p := ⟨gb472, 7, none⟩) (Kd.R_far (p := ⟨gb472, 6, none⟩) (Kd.R_far (p := ⟨gb472, 5, none⟩) (Kd.R_far (p := ⟨gb472, 4, none⟩) (Kd.R_far (p := ⟨gb472, 3, none⟩) (Kd.R_far (p := ⟨gb472, 2, none⟩) (Kd.R_far (p := ⟨gb472, 1, none⟩) (Kd.R_far (p := ⟨gb472, 0, none⟩) (Kd.R_types HO471.out BK472.out (by decide)) (fun _ hk => hk.2) (.int .i64 t461)) (fun _ hk => hk.2) (.int .i64 t462)) (fun _ hk => hk.2) (.int .u64 t463)) (fun _ hk => hk.2) (.int .u64 t464)) (fun _ hk => hk.2) (.int .u64 t465)) (fun _ hk => hk.2) (.int .u64 t466)) (fun _ hk => hk.2) (.int .u64 t467)) (fun _ hk => hk.2) (.int .i64 t468)) (fun _ hk => hk.2) (.slice Ao53 t469.length co53)) (fun _ h_ => h_.1))) hb); replace BK446 := Kf_ BK446 NB446_472 hb; replace BK447 := Kf_ BK447 NB447_472 hb; replace BK448 := Kf_ BK448 NB448_472 hb; replace BK454 := Kf_ BK454 NB454_472 hb; replace BK460 := Kf_ BK460 NB460_472 hb; replace BK472 := Aside0.mk (blk_below (g := gb472) (o := .cells #[.int .i64 t461, .int .i64 t462, .int .u64 t463, .int .u64 t464, .int .u64 t465, .int .u64 t466, .int .u64 t467, .int .i64 t468, .slice Ao53 t469.length co53] 69 (0, 0)) (by refine Kv_ ?_; refine blk_put (cs := #[.int .i64 t461, .int .i64 t462, .int .u64 t463, .int .u64 t464, .int .u64 t465, .int .u64 t466, .int .u64 t467, .int .i64 t468, .slice none 0 0]) ?_ 8 _ rfl; refine Kv_ ?_; refine blk_put (cs := #[.int .i64 t461, .int .i64 t462, .int .u64 t463, .int .u64 t464, .int .u64 t465, .int .u64 t466, .int .u64 t467, .int .i64 0, .slice none 0 0]) ?_ 7 _ rfl; refine Kv_ ?_; refine blk_put (cs := #[.int .i64 t461, .int .i64 t462, .int .u64 t463, .int .u64 t464, .int .u64 t465, .int .u64 t466, .int .u64 0, .int .i64 0, .slice none 0 0]) ?_ 6 _ rfl; refine Kv_ ?_; refine blk_put (cs := #[.int .i64 t461, .int .i64 t462, .int .u64 t463, .int .u64 t464, .int .u64 t465, .int .u64 0, .int .u64 0, .int .i64 0, .slice none 0 0]) ?_ 5 _ rfl; refine Kv_ ?_; refine blk_put (cs := #[.int .i64 t461, .int .i64 t462, .int .u64 t463, .int .u64 t464, .int .u64 0, .int .u64 0, .int .u64 0, .int .i64 0, .slice none 0 0]) ?_ 4 _ rfl; refine Kv_ ?_; refine blk_put (cs := #[.int .i64 t461, .int .i64 t462, .int .u64 t463, .int .u64 0, .int .u64 0, .int .u64 0, .int .u64 0, .int .i64 0, .slice none 0 0]) ?_ 3 _ rfl; refine Kv_ ?_; refine blk_put (cs := #[.int .i64 t461, .int .i64 t462, .int .u64 0, .int .u64 0, .int .u64 0, .int .u64 0, .int .u64 0, .int .i64 0, .slice none 0 0]) ?_ 2 _ rfl; refine Kv_ ?_; refine blk_put (cs := #[.int .i64 t461, .int .i64 0, .int .u64 0, .int .u64 0, .int .u64 0, .int .u64 0, .int .u64 0, .int .i64 0, .slice none 0 0]) ?_ 1 _ rfl; refine Kv_ ?_; refine blk_put (cs := #[.int .i64 0, .int .i64 0, .int .u64 0, .int .u64 0, .int .u64 0, .int .u64 0, .int .u64 0, .int .i64 0, .slice none 0 0]) ?_ 0 _ rfl; exact Kq_ BK472) hb); replace HB := Kt_ HB GE472 hb; (try clear hb); (try clear hb2); (try clear hk); (try clear hi); obtain ⟨hcz55_0, hcz55_1, hcz55_2, hcz55_3, hcz55_4, hcz55_5, hcz55_6, hcz55_7, hcz55_8, hfz55_0, hfz55_1, hfz55_2, hfz55_3, hfz55_4, hfz55_5, hfz55_6, hfz55_7, hfz55_8⟩ := Ke9_ BK472.out) | ((with_reducible refine gate_callee (f := 29) rfl ?_); refine Kg_ (some 31) rfl rfl Try.func29 (by kernel_rfl) rfl #[.agg #[.int .i64 t461, .int .i64 t462, .int .u64 t463, .int .u64 t464, .int .u64 t465, .int .u64 t466, .int .u64 t467, .int .i64 t468, .slice Ao53 t469.length co53]] rfl ?_; (with_reducible refine (tenementlaw15_refMsg.calls k t461 t462 t463 t464 t465 t466 t467 t468 _ _ t469 t475 t476 t477 t478 t479 t480 t481 t482 t483 _ ?side1 ?side2 A10.out).mono ?_); (case side1 => repeat (first | exact (Kd.R_reads' HO471.out).2.2 | (with_reducible refine Kd.C_alloc ?_ _) | (with_reducible refine Kd.C_drewN ?_ _) | (with_reducible refine Kd.C_drew ?_))); (case side2 => exact (Kd.R_reads' HO471.out).2.1); rintro e w56 ⟨v484, rfl, ho0, hb⟩; refine ⟨_, rfl, ?_⟩; have HO485 := Aside0.mk (Kd.R_lower ho0 (below_size (by repeat (first | (with_reducible first | exact HB.out | apply below_alloc | apply pw_below_drewN | apply below_drew1 | refine below_set ?_ GE446.out | refine below_set ?_ GE447.out | refine below_set ?_ GE448.out | refine below_set ?_ GE454.out | refine below_set ?_ GE460.out | refine below_set ?_ GE472.out) | exact HB.out)))); replace HO471 := Aside0.mk (Kd.R_below (Ku_ HO471) hb); replace BK446 := Kb_ BK446 hb; replace BK447 := Kb_ BK447 hb; replace BK448 := Kb_ BK448 hb; replace BK454 := Kb_ BK454 hb; replace BK460 := Kb_ BK460 hb; replace BK472 := Kb_ BK472 hb; replace HB := Ks_ HB hb; (try clear hb); (try clear hb2); (try clear hk); (try clear hi); (try clear ho0); obtain ⟨Ao57, co57, eo57⟩ := Kd.R_slice HO485.out; subst eo57) | ((with_reducible refine gate_callee (f := 28) rfl ?_); refine Kg_ (some 32) rfl rfl Try.func28 (by kernel_rfl) rfl #[.agg #[.int .i64 t475, .int .i64 t476, .int .u64 t477, .int .u64 t478, .int .u64 t479, .int .u64 t480, .int .u64 t481, .int .i64 t482, .slice Ao57 t483.length co57]] rfl ?_; (with_reducible refine (tenementref15_Put.calls k t475 t476 t477 t478 t479 t480 t481 t482 _ _ t483 t486 t474 _ ?side1 ?side2 A11.out).mono ?_); (case side1 => repeat (first | exact (Kd.R_reads' HO485.out).2.2 | (with_reducible refine Kd.C_alloc ?_ _) | (with_reducible refine Kd.C_drewN ?_ _) | (with_reducible refine Kd.C_drew ?_))); (case side2 => exact (Kd.R_reads' HO485.out).2.1); rintro e w58 ⟨rfl, hb⟩; refine ⟨_, rfl, ?_⟩; replace HO471 := Aside0.mk (Kd.R_below (Ku_ HO471) hb); replace HO485 := Aside0.mk (Kd.R_below (Ku_ HO485) hb); replace BK446 := Kb_ BK446 hb; replace BK447 := Kb_ BK447 hb; replace BK448 := Kb_ BK448 hb; replace BK454 := Kb_ BK454 hb; replace BK460 := Kb_ BK460 hb; replace BK472 := Kb_ BK472 hb; replace HB := Ks_ HB hb; (try clear hb); (try clear hb2); (try clear hk); (try clear hi)))
 replace HO471 := Aside0.mk (Kd.R_drew HO471.out)
 replace HO485 := Aside0.mk (Kd.R_drew HO485.out)
 replace BK446 := Kd_ BK446
 replace BK447 := Kd_ BK447
 replace BK448 := Kd_ BK448
 replace BK454 := Kd_ BK454
 replace BK460 := Kd_ BK460
 replace BK472 := Kd_ BK472
 replace HB := Aside0.mk (below_drew1 HB.out)
 refine start_ (n := 30) (S := fun w' => w'.cell? ⟨gb454, 0, none⟩ = some (.int .u64 t450) ∧ w'.cell? ⟨gb454, 1, none⟩ = some (.int .u64 t451) ∧ w'.cell? ⟨gb454, 2, none⟩ = some (.int .u64 t452) ∧ w'.cell? ⟨gb454, 3, none⟩ = some (.int .u64 t453) ∧ w'.cell? ⟨gb460, 0, none⟩ = some (.int .u64 t455) ∧ w'.cell? ⟨gb460, 1, none⟩ = some (.int .u64 t456) ∧ w'.cell? ⟨gb460, 2, none⟩ = some (.int .u64 t457) ∧ w'.cell? ⟨gb460, 3, none⟩ = some (.int .u64 t458) ∧ w'.cell? ⟨gb460, 4, none⟩ = some (.int .i64 t459) ∧ w'.cell? ⟨gb472, 0, none⟩ = some (.int .i64 t461) ∧ w'.cell? ⟨gb472, 1, none⟩ = some (.int .i64 t462) ∧ w'.cell? ⟨gb472, 2, none⟩ = some (.int .u64 t463) ∧ w'.cell? ⟨gb472, 3, none⟩ = some (.int .u64 t464) ∧ w'.cell? ⟨gb472, 4, none⟩ = some (.int .u64 t465) ∧ w'.cell? ⟨gb472, 5, none⟩ = some (.int .u64 t466) ∧ w'.cell? ⟨gb472, 6, none⟩ = some (.int .u64 t467) ∧ w'.cell? ⟨gb472, 7, none⟩ = some (.int .i64 t468) ∧ w'.cell? ⟨gb472, 8, none⟩ = some (.slice Ao53 t469.length co53)) (ds := []) (mB_ 30 0) (by kernel_rfl) rfl rfl ⟨Km_ BK454 0, Km_ BK454 1, Km_ BK454 2, Km_ BK454 3, Km_ BK460 0, Km_ BK460 1, Km_ BK460 2, Km_ BK460 3, Km_ BK460 4, Km_ BK472 0, Km_ BK472 1, Km_ BK472 2, Km_ BK472 3, Km_ BK472 4, Km_ BK472 5, Km_ BK472 6, Km_ BK472 7, Km_ BK472 8⟩ (fun hHeld => ?_); refine with_tabW tenementlaw15_StreamTells.tab9 tenementlaw15_StreamTells.bits9 (fun HT_ HW_ => ?_)
 generalize w58.drew = w59 at HO471 HO485 BK446 BK447 BK448 BK454 BK460 BK472 HB hHeld ⊢
 refine Kp_ 0 35 (Bz 30 1) (any_of HT_.out (by kernel_rfl)) ?_
 refine Kp_ 1 36 (Bz 30 3) (any_of HT_.out (by kernel_rfl)) ?_
 refine Ko_ 2 37 (Bz 30 7) (take_ofW HT_.out HW_.out (by kernel_rfl)) hHeld ?_
 refine Ko_ 3 38 (Bz 30 15) (take_ofW HT_.out HW_.out (by kernel_rfl)) hHeld ?_
 refine Ko_ 5 40 (Bz 30 47) (take_ofW HT_.out HW_.out (by kernel_rfl)) hHeld ?_
 refine Ko_ 6 41 (Bz 30 111) (take_ofW HT_.out HW_.out (by kernel_rfl)) hHeld ?_
 refine one_ (i := 4) (N := some 39) (Bz 30 127) rfl rfl (one_of HT_.out (by kernel_rfl)) (by decide) (fun K hK => ?_)
 refine goes_ Try.func30 (by kernel_rfl) rfl #[.agg #[.int .u64 t450, .int .u64 t451, .int .u64 t452, .int .u64 t453], .agg #[.int .u64 t455, .int .u64 t456, .int .u64 t457, .int .u64 t458, .int .i64 t459]] (by rfl) rfl rfl (by (try simp only [List.map_toArray, List.map_cons, List.map_nil]); first | done | rfl | (simp only [List.length_drop, List.length_take]; rfl)) ?_
 with_reducible refine (stream_Ready.calls t450 t451 t452 t453 t455 t456 t457 t458 t459 t488 _ A12.out).mono ?_
 rintro e w60 ⟨rfl, hb⟩
 refine ⟨_, rfl, ?_⟩
 replace HO471 := Aside0.mk (Kd.R_below (Ku_ HO471) hb)
 replace HO485 := Aside0.mk (Kd.R_below (Ku_ HO485) hb)
 replace BK446 := Kb_ BK446 hb
 replace BK447 := Kb_ BK447 hb
 replace BK448 := Kb_ BK448 hb
 replace BK454 := Kb_ BK454 hb
 replace BK460 := Kb_ BK460 hb
 replace BK472 := Kb_ BK472 hb
 replace HB := Ks_ HB hb
 (try clear hb)
 (try clear hb2)
 (try clear hk)
 (try clear hi)
 refine hK.out _ _ ⟨Km_ BK454 0, Km_ BK454 1, Km_ BK454 2, Km_ BK454 3, Km_ BK460 0, Km_ BK460 1, Km_ BK460 2, Km_ BK460 3, Km_ BK460 4, Km_ BK472 0, Km_ BK472 1, Km_ BK472 2, Km_ BK472 3, Km_ BK472 4, Km_ BK472 5, Km_ BK472 6, Km_ BK472 7, Km_ BK472 8⟩ (fun hHeld => ?_)
 clear hK K
 refine Kn_ 39 ?_
 refine one_ (i := 7) (N := some 42) (Bz 30 255) rfl rfl (one_of HT_.out (by kernel_rfl)) (by decide) (fun K hK => ?_)
 refine goes_ Try.func32 (by kernel_rfl) rfl #[.agg #[.int .u64 t455, .int .u64 t456, .int .u64 t457, .int .u64 t458, .int .i64 t459]] (by rfl) rfl rfl (by (try simp only [List.map_toArray, List.map_cons, List.map_nil]); first | done | rfl | (simp only [List.length_drop, List.length_take]; rfl)) ?_
 with_reducible refine (tenementlaw15_refStamp.calls t455 t456 t457 t458 t459 t489 t490 t491 t492 t493 _ A13.out).mono ?_
 rintro e w61 ⟨rfl, hb⟩
 refine ⟨_, rfl, ?_⟩
 replace HO471 := Aside0.mk (Kd.R_below (Ku_ HO471) hb)
 replace HO485 := Aside0.mk (Kd.R_below (Ku_ HO485) hb)
 replace BK446 := Kb_ BK446 hb
 replace BK447 := Kb_ BK447 hb
 replace BK448 := Kb_ BK448 hb
 replace BK454 := Kb_ BK454 hb
 replace BK460 := Kb_ BK460 hb
 replace BK472 := Kb_ BK472 hb
 replace HB := Ks_ HB hb
 (try clear hb)
 (try clear hb2)
 (try clear hk)
 (try clear hi)
 refine hK.out _ _ ⟨Km_ BK454 0, Km_ BK454 1, Km_ BK454 2, Km_ BK454 3, Km_ BK460 0, Km_ BK460 1, Km_ BK460 2, Km_ BK460 3, Km_ BK460 4, Km_ BK472 0, Km_ BK472 1, Km_ BK472 2, Km_ BK472 3, Km_ BK472 4, Km_ BK472 5, Km_ BK472 6, Km_ BK472 7, Km_ BK472 8⟩ (fun hHeld => ?_)
 clear hK K
 refine Kn_ 42 ?_
 refine one_ (i := 8) (N := some 43) (Bz 30 511) rfl rfl (one_of HT_.out (by kernel_rfl)) (by decide) (fun K hK => ?_)
 refine goes_ Try.func31 (by kernel_rfl) rfl #[.agg #[.int .u64 t450, .int .u64 t451, .int .u64 t452, .int .u64 t453], .agg #[.int .u64 t489, .int .u64 t490, .int .u64 t491, .int .u64 t492, .int .i64 t493]] (by rfl) rfl rfl (by (try simp only [List.map_toArray, List.map_cons, List.map_nil]); first | done | rfl | (simp only [List.length_drop, List.length_take]; rfl)) ?_
 with_reducible refine (tenementref15_Ready.calls k t450 t451 t452 t453 t489 t490 t491 t492 t493 t494 _ A14.out).mono ?_
 rintro e w62 ⟨rfl, hb⟩
 refine ⟨_, rfl, ?_⟩
 replace HO471 := Aside0.mk (Kd.R_below (Ku_ HO471) hb)
 replace HO485 := Aside0.mk (Kd.R_below (Ku_ HO485) hb)
 replace BK446 := Kb_ BK446 hb
 replace BK447 := Kb_ BK447 hb
 replace BK448 := Kb_ BK448 hb
 replace BK454 := Kb_ BK454 hb
 replace BK460 := Kb_ BK460 hb
 replace BK472 := Kb_ BK472 hb
 replace HB := Ks_ HB hb
 (try clear hb)
 (try clear hb2)
 (try clear hk)
 (try clear hi)
 refine hK.out _ _ ⟨Km_ BK454 0, Km_ BK454 1, Km_ BK454 2, Km_ BK454 3, Km_ BK460 0, Km_ BK460 1, Km_ BK460 2, Km_ BK460 3, Km_ BK460 4, Km_ BK472 0, Km_ BK472 1, Km_ BK472 2, Km_ BK472 3, Km_ BK472 4, Km_ BK472 5, Km_ BK472 6, Km_ BK472 7, Km_ BK472 8⟩ (fun hHeld => ?_)
 clear hK K
 refine Kn_ 43 ?_
 refine Kp_ 9 44 (Bz 30 1023) (any_of HT_.out (by kernel_rfl)) ?_
 refine Kp_ 10 45 (Bz 30 2047) (any_of HT_.out (by kernel_rfl)) ?_
 refine Kp_ 11 46 (Bz 30 4095) (any_of HT_.out (by kernel_rfl)) ?_
 refine Ko_ 12 47 (Bz 30 8191) (take_ofW HT_.out HW_.out (by kernel_rfl)) hHeld ?_
 refine Ko_ 14 49 (Bz 30 24575) (take_ofW HT_.out HW_.out (by kernel_rfl)) hHeld ?_
 refine one_ (i := 13) (N := some 48) (Bz 30 32767) rfl rfl (one_of HT_.out (by kernel_rfl)) (by decide) (fun K hK => ?_)
 refine goes_ Try.func33 (by kernel_rfl) rfl #[.agg #[.int .i64 t461, .int .i64 t462, .int .u64 t463, .int .u64 t464, .int .u64 t465, .int .u64 t466, .int .u64 t467, .int .i64 t468, .slice Ao53 t469.length co53]] (by rfl) rfl rfl (by (try simp only [List.map_toArray, List.map_cons, List.map_nil]); first | done | rfl | (simp only [List.length_drop, List.length_take]; rfl)) ?_
 with_reducible refine (stream_Right.calls k t461 t462 t463 t464 t465 t466 t467 t468 _ _ t469 t495 _ ?side1 ?side2 A16.out).mono ?_
 (case side1 => repeat (first | exact (Kd.R_reads' HO471.out).2.2 | (with_reducible refine Kd.C_alloc ?_ _) | (with_reducible refine Kd.C_drewN ?_ _) | (with_reducible refine Kd.C_drew ?_)))
 (case side2 => exact (Kd.R_reads' HO471.out).2.1)
 rintro e w63 ⟨rfl, hb⟩
 refine ⟨_, rfl, ?_⟩
 replace HO471 := Aside0.mk (Kd.R_below (Ku_ HO471) hb)
 replace HO485 := Aside0.mk (Kd.R_below (Ku_ HO485) hb)
 replace BK446 := Kb_ BK446 hb
 replace BK447 := Kb_ BK447 hb
 replace BK448 := Kb_ BK448 hb
 replace BK454 := Kb_ BK454 hb
 replace BK460 := Kb_ BK460 hb
 replace BK472 := Kb_ BK472 hb
 replace HB := Ks_ HB hb
 (try clear hb)
 (try clear hb2)
 (try clear hk)
 (try clear hi)
 refine hK.out _ _ ⟨Km_ BK454 0, Km_ BK454 1, Km_ BK454 2, Km_ BK454 3, Km_ BK460 0, Km_ BK460 1, Km_ BK460 2, Km_ BK460 3, Km_ BK460 4, Km_ BK472 0, Km_ BK472 1, Km_ BK472 2, Km_ BK472 3, Km_ BK472 4, Km_ BK472 5, Km_ BK472 6, Km_ BK472 7, Km_ BK472 8⟩ (fun hHeld => ?_)
 clear hK K
 refine Kn_ 48 ?_
 refine one_ (i := 15) (N := some 50) (Bz 30 65535) rfl rfl (one_of HT_.out (by kernel_rfl)) (by decide) (fun K hK => ?_)
 refine goes_ Try.func29 (by kernel_rfl) rfl #[.agg #[.int .i64 t461, .int .i64 t462, .int .u64 t463, .int .u64 t464, .int .u64 t465, .int .u64 t466, .int .u64 t467, .int .i64 t468, .slice Ao53 t469.length co53]] (by rfl) rfl rfl (by (try simp only [List.map_toArray, List.map_cons, List.map_nil]); first | done | rfl | (simp only [List.length_drop, List.length_take]; rfl)) ?_
 with_reducible refine (tenementlaw15_refMsg.calls k t461 t462 t463 t464 t465 t466 t467 t468 _ _ t469 t496 t497 t498 t499 t500 t501 t502 t503 t504 _ ?side1 ?side2 A17.out).mono ?_
 (case side1 => repeat (first | exact (Kd.R_reads' HO471.out).2.2 | (with_reducible refine Kd.C_alloc ?_ _) | (with_reducible refine Kd.C_drewN ?_ _) | (with_reducible refine Kd.C_drew ?_)))
 (case side2 => exact (Kd.R_reads' HO471.out).2.1)
 rintro e w64 ⟨v505, rfl, ho0, hb⟩
 refine ⟨_, rfl, ?_⟩
 have HO506 := Aside0.mk (Kd.R_lower (Kd.R_new' ho0 (Kd.R_lt (Ku_ HO485))) (below_size (by repeat (first | (with_reducible first | exact HB.out | apply below_alloc | apply pw_below_drewN | apply below_drew1 | refine below_set ?_ GE446.out | refine below_set ?_ GE447.out | refine below_set ?_ GE448.out | refine below_set ?_ GE454.out | refine below_set ?_ GE460.out | refine below_set ?_ GE472.out) | exact HB.out))))
 replace HO471 := Aside0.mk (Kd.R_below (Ku_ HO471) hb)
 replace HO485 := Aside0.mk (Kd.R_elder' (Ku_ HO485) (Kd.R_base ho0) hb)
 replace BK446 := Kb_ BK446 hb
 replace BK447 := Kb_ BK447 hb
 replace BK448 := Kb_ BK448 hb
 replace BK454 := Kb_ BK454 hb
 replace BK460 := Kb_ BK460 hb
 replace BK472 := Kb_ BK472 hb
 replace HB := Ks_ HB hb
 (try clear hb)
 (try clear hb2)
 (try clear hk)
 (try clear hi)
 (try clear ho0)
 obtain ⟨Ao65, co65, eo65⟩ := Kd.R_slice HO506.out
 (first | subst eo65 | (injection eo65 with f1_ f2_ f3_; have f4_ := f1_.symm; have f5_ := f3_.symm; clear f1_ f2_ f3_; subst f4_; subst f5_))
 refine hK.out _ _ ⟨Km_ BK454 0, Km_ BK454 1, Km_ BK454 2, Km_ BK454 3, Km_ BK460 0, Km_ BK460 1, Km_ BK460 2, Km_ BK460 3, Km_ BK460 4, Km_ BK472 0, Km_ BK472 1, Km_ BK472 2, Km_ BK472 3, Km_ BK472 4, Km_ BK472 5, Km_ BK472 6, Km_ BK472 7, Km_ BK472 8⟩ (fun hHeld => ?_)
 clear hK K
 refine Kn_ 50 ?_
 refine one_ (i := 16) (N := some 51) (Bz 30 131071) rfl rfl (one_of HT_.out (by kernel_rfl)) (by decide) (fun K hK => ?_)
 refine goes_ Try.func34 (by kernel_rfl) rfl #[.agg #[.int .i64 t496, .int .i64 t497, .int .u64 t498, .int .u64 t499, .int .u64 t500, .int .u64 t501, .int .u64 t502, .int .i64 t503, .slice Ao65 t504.length co65]] (by rfl) rfl rfl (by (try simp only [List.map_toArray, List.map_cons, List.map_nil]); first | done | rfl | (simp only [List.length_drop, List.length_take]; rfl)) ?_
 with_reducible refine (tenementref15_Right.calls k t496 t497 t498 t499 t500 t501 t502 t503 _ _ t504 t495 _ ?side1 ?side2 A18.out).mono ?_
 (case side1 => repeat (first | exact (Kd.R_reads' HO506.out).2.2 | (with_reducible refine Kd.C_alloc ?_ _) | (with_reducible refine Kd.C_drewN ?_ _) | (with_reducible refine Kd.C_drew ?_)))
 (case side2 => exact (Kd.R_reads' HO506.out).2.1)
 rintro e w66 ⟨rfl, hb⟩
 refine ⟨_, rfl, ?_⟩
 replace HO471 := Aside0.mk (Kd.R_below (Ku_ HO471) hb)
 replace HO485 := Aside0.mk (Kd.R_below (Ku_ HO485) hb)
 replace HO506 := Aside0.mk (Kd.R_below (Ku_ HO506) hb)
 replace BK446 := Kb_ BK446 hb
 replace BK447 := Kb_ BK447 hb
 replace BK448 := Kb_ BK448 hb
 replace BK454 := Kb_ BK454 hb
 replace BK460 := Kb_ BK460 hb
 replace BK472 := Kb_ BK472 hb
 replace HB := Ks_ HB hb
 (try clear hb)
 (try clear hb2)
 (try clear hk)
 (try clear hi)
 refine hK.out _ _ ⟨Km_ BK454 0, Km_ BK454 1, Km_ BK454 2, Km_ BK454 3, Km_ BK460 0, Km_ BK460 1, Km_ BK460 2, Km_ BK460 3, Km_ BK460 4, Km_ BK472 0, Km_ BK472 1, Km_ BK472 2, Km_ BK472 3, Km_ BK472 4, Km_ BK472 5, Km_ BK472 6, Km_ BK472 7, Km_ BK472 8⟩ (fun hHeld => ?_)
 clear hK K
 refine Kn_ 51 ?_
 refine Kp_ 17 52 (Bz 30 262143) (any_of HT_.out (by kernel_rfl)) ?_
 refine Kp_ 18 53 (Bz 30 524287) (any_of HT_.out (by kernel_rfl)) ?_
 refine Kp_ 19 54 (Bz 30 1048575) (any_of HT_.out (by kernel_rfl)) ?_
 refine Kp_ 20 55 (Bz 30 2097151) (any_of HT_.out (by kernel_rfl)) ?_
 refine Kp_ 21 56 (Bz 30 4194303) (any_of HT_.out (by kernel_rfl)) ?_
 refine Kp_ 22 57 (Bz 30 8388607) (any_of HT_.out (by kernel_rfl)) ?_
 refine Kp_ 23 58 (Bz 30 16777215) (any_of HT_.out (by kernel_rfl)) ?_
 refine Kp_ 24 59 (Bz 30 33554431) (any_of HT_.out (by kernel_rfl)) ?_
 refine Kp_ 25 60 (Bz 30 67108863) (any_of HT_.out (by kernel_rfl)) ?_
 refine Kp_ 26 61 (Bz 30 134217727) (any_of HT_.out (by kernel_rfl)) ?_
 refine Kp_ 27 62 (Bz 30 268435455) (any_of HT_.out (by kernel_rfl)) ?_
 refine Kp_ 28 63 (Bz 30 536870911) (any_of HT_.out (by kernel_rfl)) ?_
 refine Kp_ 29 6 (Bz 30 1073741823) (any_of HT_.out (by kernel_rfl)) ?_
 refine done_ (done_of HT_.out (by kernel_rfl)) ?_
 try go_wp2
 go_ret
 exact ⟨Kh_, by repeat (first | (with_reducible first | exact HB.out | apply below_alloc | apply pw_below_drewN | apply below_drew1 | refine below_set ?_ GE446.out | refine below_set ?_ GE447.out | refine below_set ?_ GE448.out | refine below_set ?_ GE454.out | refine below_set ?_ GE460.out | refine below_set ?_ GE472.out) | exact HB.out)⟩
end Go.Proofs.Ytoagfdpgnfinhaa.Q

set_option linter.unusedVariables false
namespace Go.Proofs.Ytoagfdpgnfinhaa.Q
open Go.RowKit Go.Proofs.Ytoagfdpgnfinhaa.Q Go.Proofs.YtoagfdpgnfinhaaW.PrintWords Go.Proofs.YtoagfdpgnfinhaaW.PrintLast Go.Proofs.YtoagfdpgnfinhaaW.PrintMore
def tenementlaw15_StreamTells.Pure : Prop := ∀ (x0 : S63) (x1 : S39) (x2 : S65), (wf63 x0) → (wf39 x1) → (wf65 x2) → ∃ k, tenementlaw15_StreamTells.f k (x0.f0.f0) (x0.f0.f1) (x0.f0.f2) (x0.f0.f3) (x0.f1) (x1.f0.f0.f0) (x1.f0.f0.f1) (x1.f0.f0.f2) (x1.f0.f0.f3) (x1.f0.f1) (x1.f1) (x2.f0) (x2.f1) (x2.f2) (x2.f3.f0.f0.f0.f0) (x2.f3.f0.f0.f0.f1) (x2.f3.f0.f0.f0.f2) (x2.f3.f0.f0.f0.f3) (x2.f3.f0.f0.f1) (x2.f3.f0.f1) (x2.f3.f1) (x2.f3.f2) (x2.f4) = some true
end Go.Proofs.Ytoagfdpgnfinhaa.Q

set_option linter.unusedVariables false
set_option linter.unusedSimpArgs false
namespace Go.Proofs.Ytoagfdpgnfinhaa.Pure
open Go.RowKit Go.Proofs.Ytoagfdpgnfinhaa.Q Go.Proofs.YtoagfdpgnfinhaaW.PrintWords Go.Proofs.YtoagfdpgnfinhaaW.PrintLast Go.Proofs.YtoagfdpgnfinhaaW.PrintMore Go.Proofs.Ytoagfdpgnfinhaa.Plain
abbrev Wr := S107
abbrev Pt := S159
def fits (x : Wr) : Prop := x.f0.size ≤ 140737488351232 ∧ x.f1.size ≤ 140737488351232 ∧ x.f2.size ≤ 140737488351232
theorem str_size (l : List Int) : (strOfNums l).size = l.length := by
 unfold strOfNums
 simp [ByteArray.size]
def wrt (p : Pt) (own : Bool) : Wr :=
 if own = true then (if 224 ≤ p.f2 then ⟨strOfNums [98, IntKind.u8.wrap (48 + Int.tmod p.f2 2)], strOfNums [IntKind.u8.wrap (97 + Int.tmod (IntKind.u8.wrap (Int.tdiv p.f2 2)) 4)], ⟨#[]⟩, true⟩
  else ⟨strOfNums [98, IntKind.u8.wrap (48 + Int.tmod p.f2 2)], strOfNums [IntKind.u8.wrap (97 + Int.tmod (IntKind.u8.wrap (Int.tdiv p.f2 2)) 4)], p.f0.f2.extract 0 (min p.f0.f2.size 8), false⟩)
 else p.f0
theorem wrt_f (p : Pt) (own : Bool) (h : fits p.f0) : tenementlaw15_Put_write.f p.f0.f0 p.f0.f1 p.f0.f2 p.f0.f3 own p.f2 = some ((wrt p own).f0, (wrt p own).f1, (wrt p own).f2, (wrt p own).f3) := by
 unfold tenementlaw15_Put_write.f wrt
 cases own with
 | true =>
  rw [if_pos rfl, if_pos rfl, if_pos (by have := h.2.2; omega)]
  by_cases c : 224 ≤ p.f2
  ·rw [if_pos c, if_pos c]
  ·rw [if_neg c, if_neg c]
 | false => rw [if_neg (by simp), if_neg (by simp)]
theorem wrt_fits (p : Pt) (own : Bool) (h : fits p.f0) : fits (wrt p own) := by
 unfold wrt
 cases own with
 | true =>
  rw [if_pos rfl]
  have z : (⟨#[]⟩ : ByteArray).size = 0 := rfl
  by_cases c : 224 ≤ p.f2
  ·rw [if_pos c]
   refine ⟨?_, ?_, ?_⟩
   ·show (strOfNums _).size ≤ _; rw [str_size]; simp
   ·show (strOfNums _).size ≤ _; rw [str_size]; simp
   ·show (⟨#[]⟩ : ByteArray).size ≤ _; omega
  ·rw [if_neg c]
   refine ⟨?_, ?_, ?_⟩
   ·show (strOfNums _).size ≤ _; rw [str_size]; simp
   ·show (strOfNums _).size ≤ _; rw [str_size]; simp
   ·show (ByteArray.extract _ _ _).size ≤ _; rw [ByteArray.size_extract]; omega
 | false => rw [if_neg (by simp)]; exact h
def same (w y : Wr) : Bool := decide (y.f0 = w.f0) && decide (y.f1 = w.f1)
def wrs (most : Nat) (whole : Bool) : List Pt → List Wr → List Wr
 | [], out => out
 | p :: ps, out => if out.length < most then (if (whole && out.any (same (wrt p (whole || p.f1)))) = true then wrs most whole ps out else wrs most whole ps (out ++ [wrt p (whole || p.f1)])) else out
theorem wrs_len (most : Nat) (whole : Bool) : ∀ l out, out.length ≤ most → (wrs most whole l out).length ≤ most
 | [], out, h => h
 | p :: ps, out, h => by
  unfold wrs
  by_cases c : out.length < most
  ·rw [if_pos c]
   split
   ·exact wrs_len most whole ps out h
   ·exact wrs_len most whole ps _ (by simp; omega)
  ·rw [if_neg c]; exact h
theorem wrs_all (most : Nat) (whole : Bool) (Q : Wr → Prop) : ∀ l out, (∀ p ∈ l, Q (wrt p (whole || p.f1))) → (∀ x ∈ out, Q x) → ∀ x ∈ wrs most whole l out, Q x
 | [], out, _, h => h
 | p :: ps, out, hl, h => by
  unfold wrs
  have hl' : ∀ q ∈ ps, Q (wrt q (whole || q.f1)) := fun q hq => hl q (by simp [hq])
  split
  ·split
   ·exact wrs_all most whole Q ps out hl' h
   ·refine wrs_all most whole Q ps _ hl' (fun x hx => ?_)
    rcases List.mem_append.1 hx with hx | hx
    ·exact h x hx
    ·rw [List.mem_singleton.1 hx]; exact hl p (by simp)
  ·exact h
theorem idx (i : Nat) (h : i ≤ 4611686018427387904) : wrap64 ((i : Int) + 1) = ((i + 1 : Nat) : Int) := by
 rw [wrap64_id (by omega) (by omega)]
 omega
theorem rdW (l : List Wr) (j : Nat) (h : j < l.length) : rd_T107 l (j : Int) = l[j] := by
 unfold rd_T107
 rw [Int.toNat_natCast, List.getD_eq_getElem?_getD, List.getElem?_eq_getElem h]
 rfl
theorem rdP (l : List Pt) (j : Nat) (h : j < l.length) : rd_T159 l (j : Int) = l[j] := by
 unfold rd_T159
 rw [Int.toNat_natCast, List.getD_eq_getElem?_getD, List.getElem?_eq_getElem h]
 rfl
theorem wr_l1 (l : List Pt) (most : Int) (whole : Bool) (out : List Wr) (i : Int) (w : Wr) (h7 : out.length ≤ 1000) (K : Nat) : ∀ d j fl, j + d = out.length →
  tenementlaw15_writes.l1 (K + d + 1) l most whole out i fl (j : Int) w.f0 w.f1 w.f2 w.f3 =
   if (whole && (fl || (out.drop j).any (same w))) = true then tenementlaw15_writes.l0 K l most whole out (wrap64 (i + 1)) else tenementlaw15_writes.l0 K l most whole (out ++ [w]) (wrap64 (i + 1)) := by
 intro d
 induction d with
 | zero =>
  intro j fl hj
  have e : out.drop j = [] := List.drop_eq_nil_of_le (by omega)
  rw [Nat.add_zero, tenementlaw15_writes.l1, if_neg (by omega), e, List.any_nil, Bool.or_false]
  cases whole with
  | true =>
   rw [if_pos rfl]
   cases fl with
   | true => rw [if_pos rfl, if_pos (by rfl)]
   | false => rw [if_neg (by simp), if_pos (by omega), if_neg (by simp)]
  | false => rw [if_neg (by simp), if_pos (by omega), if_neg (by simp)]
 | succ d ih =>
  intro j fl hj
  have hlt : j < out.length := by omega
  have e : out.drop j = out[j] :: out.drop (j + 1) := List.drop_eq_getElem_cons hlt
  rw [show K + (d + 1) + 1 = (K + d + 1) + 1 by omega, tenementlaw15_writes.l1, if_pos (by omega), idx j (by omega), e, List.any_cons]
  cases fl with
  | true =>
   rw [if_pos rfl, ih (j + 1) true (by omega)]
   simp only [Bool.true_or]
  | false =>
   rw [if_neg (by simp), if_pos (by omega), rdW out j hlt, Bool.false_or]
   by_cases c : (out[j].f0).toList = w.f0.toList
   ·rw [if_pos c, ih (j + 1) _ (by omega)]
    have c0 := toList_iff.1 c
    have hs : ((out[j].f1).toList == w.f1.toList) = same w out[j] := by
     unfold same
     rw [decide_eq_true c0, Bool.true_and]
     by_cases c1 : out[j].f1 = w.f1
     ·rw [decide_eq_true c1, c1]; simp
     ·rw [decide_eq_false c1]
      exact beq_eq_false_iff_ne.2 (fun h => c1 (toList_iff.1 h))
    rw [hs]
   ·rw [if_neg c, ih (j + 1) _ (by omega)]
    have hs : same w out[j] = false := by
     unfold same
     rw [decide_eq_false (fun h => c (by rw [h])), Bool.false_and]
    rw [hs, Bool.false_or]
theorem wr_l0 (l : List Pt) (most : Nat) (hm : most ≤ 100) (whole : Bool) (hl : ∀ p ∈ l, fits p.f0) (hz : l.length ≤ 4611686018427387904) : ∀ d i (out : List Wr) K, i + d = l.length → out.length ≤ most → (d + 1) * (most + 5) ≤ K →
  tenementlaw15_writes.l0 K l (most : Int) whole out (i : Int) = some (wrs most whole (l.drop i) out) := by
 intro d
 induction d with
 | zero =>
  intro i out K hi ho hK
  obtain ⟨K, rfl⟩ : ∃ m, K = m + 2 := ⟨K - 2, by omega⟩
  have e : l.drop i = [] := List.drop_eq_nil_of_le (by omega)
  rw [tenementlaw15_writes.l0, if_neg (by omega), tenementlaw15_writes.j1, if_neg (by simp), e]
  rfl
 | succ d ih =>
  intro i out K hi ho hK
  have hlt : i < l.length := by omega
  have e : l.drop i = l[i] :: l.drop (i + 1) := List.drop_eq_getElem_cons hlt
  have hK' : (d + 1) * (most + 5) + (most + 5) ≤ K := by
   rw [show (d + 1 + 1) * (most + 5) = (d + 1) * (most + 5) + (most + 5) by rw [Nat.add_mul, Nat.one_mul]] at hK
   exact hK
  have hf : fits l[i].f0 := hl _ (List.getElem_mem _)
  rw [e]
  unfold wrs
  by_cases c : out.length < most
  ·rw [if_pos c]
   obtain ⟨m, hm'⟩ : ∃ m, K = (m + out.length + 1) + 3 ∧ (d + 1) * (most + 5) ≤ m := ⟨K - out.length - 4, by omega, by omega⟩
   rw [hm'.1, tenementlaw15_writes.l0, if_pos (by omega), decide_eq_true (by omega : (out.length : Int) < (most : Int)), tenementlaw15_writes.j1, if_pos rfl, if_pos (by omega), if_pos (by omega), rdP l i hlt]
   have key : ∀ own : Bool, own = (whole || l[i].f1) → tenementlaw15_writes.j2 (m + out.length + 1 + 1) l (most : Int) whole out (i : Int) l[i].f0.f0 l[i].f0.f1 l[i].f0.f2 l[i].f0.f3 own l[i].f2 =
     some (if (whole && out.any (same (wrt l[i] (whole || l[i].f1)))) = true then wrs most whole (l.drop (i + 1)) out else wrs most whole (l.drop (i + 1)) (out ++ [wrt l[i] (whole || l[i].f1)])) := by
    intro own ho'
    rw [tenementlaw15_writes.j2, wrt_f _ _ hf, Option.bind_some]
    show tenementlaw15_writes.l1 (m + out.length + 1) l (most : Int) whole out (i : Int) false 0 (wrt l[i] own).f0 (wrt l[i] own).f1 (wrt l[i] own).f2 (wrt l[i] own).f3 = _
    have h1 := wr_l1 l (most : Int) whole out (i : Int) (wrt l[i] own) (by omega) m out.length 0 false (by omega)
    rw [show ((0 : Nat) : Int) = 0 from rfl] at h1
    rw [h1, List.drop_zero, Bool.false_or, idx i (by omega), ho']
    split
    ·rw [ih (i + 1) out m (by omega) ho hm'.2]
    ·rw [ih (i + 1) _ m (by omega) (by simp; omega) hm'.2]
   cases whole with
   | true =>
    rw [if_pos rfl, key true rfl]
   | false =>
    rw [if_neg (by simp), key _ (by simp)]
  ·rw [if_neg c]
   obtain ⟨m, rfl⟩ : ∃ m, K = m + 2 := ⟨K - 2, by omega⟩
   rw [tenementlaw15_writes.l0, if_pos (by omega), decide_eq_false (by omega : ¬ (out.length : Int) < (most : Int)), tenementlaw15_writes.j1, if_neg (by simp)]
theorem writes_f (l : List Pt) (most : Nat) (hm : most ≤ 100) (whole : Bool) (hl : ∀ p ∈ l, fits p.f0) (hz : l.length ≤ 4611686018427387904) {K : Nat} (hK : (l.length + 1) * (most + 5) ≤ K) :
  tenementlaw15_writes.f K l (most : Int) whole = some (wrs most whole l []) := by
 unfold tenementlaw15_writes.f
 have := wr_l0 l most hm whole hl hz l.length 0 [] K (by omega) (by simp) hK
 rw [show ((0 : Nat) : Int) = 0 from rfl, List.drop_zero] at this
 exact this
end Go.Proofs.Ytoagfdpgnfinhaa.Pure
