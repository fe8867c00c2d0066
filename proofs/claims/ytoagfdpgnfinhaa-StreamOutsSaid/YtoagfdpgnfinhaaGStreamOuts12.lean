import Derived.Test.YtoagfdpgnfinhaaGStreamOuts2
import Derived.Test.YtoagfdpgnfinhaaGStreamOuts6
namespace Go.Proofs.Ytoagfdpgnfinhaa.Q
open Go.RowKit Go.Proofs.YtoagfdpgnfinhaaW.PrintWords Go.Proofs.YtoagfdpgnfinhaaW.PrintLast Go.Proofs.YtoagfdpgnfinhaaW.PrintMore
attribute [local go_sem] max2_int min2_int max_two min_two max_three min_three max_four min_four   -- for this text's walks alone
set_option linter.unusedVariables false
set_option linter.unusedSimpArgs false
def tenementlaw15_Deal_deal.f (k : Nat) (a0_0 : Int) (a0_1 : Int) (a0_2 : Int) (a0_3 : Int) (a0_4 : Int) (a0_5 : Bool) (l0_6 : List (S159)) (a0_7 : Bool) : Option (Int × Int × Int × Int × Int × (List (S107))) := if a0_7 = true then ((tenementlaw15_Mark_mark.f k a0_0 a0_1 a0_2 a0_3 a0_4 true).bind fun bt327 => ((tenementlaw15_writes.f k l0_6 8 true).bind fun t332 => (if (t332.length : Int) = 0 then (some (bt327.1, bt327.2.1, bt327.2.2.1, bt327.2.2.2.1, bt327.2.2.2.2, (([(⟨(⟨#[98, 48]⟩ : ByteArray), (⟨#[97]⟩ : ByteArray), (⟨#[118]⟩ : ByteArray), false⟩ : S107)] : List (S107))))) else (some (bt327.1, bt327.2.1, bt327.2.2.1, bt327.2.2.2.1, bt327.2.2.2.2, t332))))) else ((tenementlaw15_Mark_mark.f k a0_0 a0_1 a0_2 a0_3 a0_4 a0_5).bind fun bt319 => ((tenementlaw15_writes.f k l0_6 10 false).bind fun t324 => (some (bt319.1, bt319.2.1, bt319.2.2.1, bt319.2.2.2.1, bt319.2.2.2.2, t324))))
def tenementlaw15_Deal_deal.T2 : Bool × List (List Nat × List Nat) := (true, [([], []), ([0], [0]), ([1], [1]), ([], []), ([3], [3]), ([4, 2], [4]), ([2, 5], [2, 5]), ([6, 5, 0, 1, 2, 3, 4, 5, 6], [6])])
def tenementlaw15_Deal_deal.B2 : List Nat := [0, 1, 3, 0, 8, 31, 63, 127]
theorem tenementlaw15_Deal_deal.tab2 : rtab .any (opsOf Try.f19 2) = tenementlaw15_Deal_deal.T2 := by kernel_rfl
theorem tenementlaw15_Deal_deal.bits2 : waitsOk tenementlaw15_Deal_deal.T2.2 tenementlaw15_Deal_deal.B2 = true := by kernel_rfl
def tenementlaw15_Deal_deal.T4 : Bool × List (List Nat × List Nat) := (true, [([], []), ([0], [0]), ([1], [1]), ([], []), ([3], [3]), ([4, 2], [4]), ([2, 5], [2, 5]), ([], []), ([7, 6, 5, 0, 1, 2, 3, 4, 5, 6, 7], [6, 7])])
def tenementlaw15_Deal_deal.B4 : List Nat := [0, 1, 3, 0, 8, 31, 63, 0, 255]
theorem tenementlaw15_Deal_deal.tab4 : rtab .any (opsOf Try.f19 4) = tenementlaw15_Deal_deal.T4 := by kernel_rfl
theorem tenementlaw15_Deal_deal.bits4 : waitsOk tenementlaw15_Deal_deal.T4.2 tenementlaw15_Deal_deal.B4 = true := by kernel_rfl
set_option maxHeartbeats 8000000 in
set_option maxRecDepth 100000 in
theorem tenementlaw15_Deal_deal.calls (k : Nat) (a0_0 : Int) (a0_1 : Int) (a0_2 : Int) (a0_3 : Int) (a0_4 : Int) (a0_5 : Bool) (A0_6 : Option Addr) (c0_6 : Nat) (l0_6 : List (S159)) (a0_7 : Bool) (r1 : Int) (r2 : Int) (r3 : Int) (r4 : Int) (r5 : Int) (r6 : List (S107)) (w : World) (hr0_6 : Kd.C k159 w A0_6 l0_6.length l0_6) (hc0_6 : l0_6.length ≤ c0_6) (h : tenementlaw15_Deal_deal.f k a0_0 a0_1 a0_2 a0_3 a0_4 a0_5 l0_6 a0_7 = some (r1, r2, r3, r4, r5, r6)) :
  Calls Try.prog 19 #[.agg #[.int .u64 a0_0, .int .u64 a0_1, .int .u64 a0_2, .int .u64 a0_3, .int .i64 a0_4, .bool a0_5, .slice A0_6 l0_6.length c0_6, .bool a0_7]] w fun e w' => ∃ v5_ : Value, e = .returned (.agg #[.int .u64 r1, .int .u64 r2, .int .u64 r3, .int .u64 r4, .int .i64 r5, v5_]) ∧ Kd.R k107 107 w' w.heap.size (fun _ => True) v5_ r6 ∧ Below w.heap.size w w' := by
 have hu42 := Try.underlying42
 have hu33 := Try.underlying33
 have hu39 := Try.underlying39
 have hu107 := Try.underlying107
 have HR0_6 := Aside0.mk hr0_6
 have HC0_6 := Aside0.mk hc0_6
 clear hr0_6 hc0_6
 have HB := Aside0.mk (Below.refl w.heap.size w)
 have H : (if a0_7 = true then ((tenementlaw15_Mark_mark.f k a0_0 a0_1 a0_2 a0_3 a0_4 true).bind fun bt327 => ((tenementlaw15_writes.f k l0_6 8 true).bind fun t332 => (if (t332.length : Int) = 0 then (some (bt327.1, bt327.2.1, bt327.2.2.1, bt327.2.2.2.1, bt327.2.2.2.2, (([(⟨(⟨#[98, 48]⟩ : ByteArray), (⟨#[97]⟩ : ByteArray), (⟨#[118]⟩ : ByteArray), false⟩ : S107)] : List (S107))))) else (some (bt327.1, bt327.2.1, bt327.2.2.1, bt327.2.2.2.1, bt327.2.2.2.2, t332))))) else ((tenementlaw15_Mark_mark.f k a0_0 a0_1 a0_2 a0_3 a0_4 a0_5).bind fun bt319 => ((tenementlaw15_writes.f k l0_6 10 false).bind fun t324 => (some (bt319.1, bt319.2.1, bt319.2.2.1, bt319.2.2.2.1, bt319.2.2.2.2, t324))))) = some (r1, r2, r3, r4, r5, r6) := h
 clear h
 by_cases c2 : a0_7 = true
 rotate_left
 ·replace c2 := Bool.eq_false_iff.mpr c2
  subst c2
  have H1 : ((tenementlaw15_Mark_mark.f k a0_0 a0_1 a0_2 a0_3 a0_4 a0_5).bind fun bt319 => ((tenementlaw15_writes.f k l0_6 10 false).bind fun t324 => (some (bt319.1, bt319.2.1, bt319.2.2.1, bt319.2.2.2.1, bt319.2.2.2.2, t324)))) = some (r1, r2, r3, r4, r5, r6) := by rw [if_neg (show ¬ (false = true) by decide)] at H; exact H
  clear H
  have H := H1
  clear H1
  replace H := Option.bind_eq_some_iff.mp H
  obtain ⟨⟨t319, t320, t321, t322, t323⟩, A540, H⟩ := H
  replace H : ((tenementlaw15_writes.f k l0_6 10 false).bind fun t324 => (some (t319, t320, t321, t322, t323, t324))) = some (r1, r2, r3, r4, r5, r6) := H
  have A54 := Aside0.mk A540
  clear A540
  replace H := Option.bind_eq_some_iff.mp H
  obtain ⟨t324, A550, H⟩ := H
  replace H : (some (t319, t320, t321, t322, t323, t324)) = some (r1, r2, r3, r4, r5, r6) := H
  have A55 := Aside0.mk A550
  clear A550
  simp only [Option.some.injEq, Prod.mk.injEq] at H
  obtain ⟨rfl, rfl, rfl, rfl, rfl, rfl⟩ := H
  go_enter Try.func19, Try.ntmps19
  try go_wp2_with (first | ((with_reducible refine gate_dst (N := 1) rfl ?_); refine Ka_ 1 #[.int .u64 a0_0, .int .u64 a0_1, .int .u64 a0_2, .int .u64 a0_3, .int .i64 a0_4, .bool a0_5, .slice A0_6 l0_6.length c0_6, .bool false] 42 ?_; intro gb317 hg w56 hbox hb; have BK317 := Aside0.mk (hbox); have GW317 := Kw_ HB hg; have GE317 := GW317; replace HB := Ks_ HB hb; clear hb hbox hg) | ((with_reducible refine gate_dst (N := 2) rfl ?_); refine Ka_ 2 #[.int .u64 0, .int .u64 0, .int .u64 0, .int .u64 0, .int .i64 0, .slice none 0 0] 33 ?_; intro gb318 hg w57 hbox hb; have BK318 := Aside0.mk (hbox); have GW318 := Kw_ HB hg; have GE318 := GW318; have NB317_318 := Kl_ BK317 hg; have NB318_317 := Kr_ BK317 hg; replace BK317 := Kb_ BK317 hb; replace HB := Ks_ HB hb; clear hb hbox hg; have hnb58 := NB317_318.out; have hnc58 := NB318_317.out; obtain ⟨hcz59_0, hcz59_1, hcz59_2, hcz59_3, hcz59_4, hcz59_5, hcz59_6, hcz59_7, hfz59_0, hfz59_1, hfz59_2, hfz59_3, hfz59_4, hfz59_5, hfz59_6, hfz59_7⟩ := Ke8_ BK317.out))
  replace BK317 := Kd_ BK317
  replace BK318 := Kd_ BK318
  replace HB := Aside0.mk (below_drew1 HB.out)
  refine start_ (n := 8) (S := fun w' => w'.cell? ⟨gb317, 0, none⟩ = some (.int .u64 a0_0) ∧ w'.cell? ⟨gb317, 1, none⟩ = some (.int .u64 a0_1) ∧ w'.cell? ⟨gb317, 2, none⟩ = some (.int .u64 a0_2) ∧ w'.cell? ⟨gb317, 3, none⟩ = some (.int .u64 a0_3) ∧ w'.cell? ⟨gb317, 4, none⟩ = some (.int .i64 a0_4) ∧ w'.cell? ⟨gb317, 5, none⟩ = some (.bool a0_5) ∧ w'.cell? ⟨gb317, 6, none⟩ = some (.slice A0_6 l0_6.length c0_6) ∧ w'.cell? ⟨gb317, 7, none⟩ = some (.bool false)) (ds := []) (mB_ 8 0) (by kernel_rfl) rfl rfl (Kc8_ BK317.out) (fun hHeld => ?_); refine with_tabW tenementlaw15_Deal_deal.tab2 tenementlaw15_Deal_deal.bits2 (fun HT_ HW_ => ?_)
  generalize w57.drew = w60 at BK317 BK318 HB hHeld ⊢
  refine Kp_ 0 7 (mB_ 8 1) (any_of HT_.out (by kernel_rfl)) ?_
  refine Kp_ 3 10 (mB_ 8 9) (any_of HT_.out (by kernel_rfl)) ?_
  refine Ko_ 1 8 (mB_ 8 11) (take_ofW HT_.out HW_.out (by kernel_rfl)) hHeld ?_
  refine Ko_ 4 11 (mB_ 8 27) (take_ofW HT_.out HW_.out (by kernel_rfl)) hHeld ?_
  refine one_ (i := 2) (N := some 9) (mB_ 8 31) rfl rfl (one_of HT_.out (by kernel_rfl)) (by decide) (fun K hK => ?_)
  refine goes_ Try.func25 (by kernel_rfl) rfl #[.agg #[.int .u64 a0_0, .int .u64 a0_1, .int .u64 a0_2, .int .u64 a0_3, .int .i64 a0_4, .bool a0_5]] (by rfl) rfl rfl (by (try simp only [List.map_toArray, List.map_cons, List.map_nil]); first | done | rfl | (simp only [List.length_drop, List.length_take]; rfl)) ?_
  with_reducible refine (tenementlaw15_Mark_mark.calls k a0_0 a0_1 a0_2 a0_3 a0_4 a0_5 t319 t320 t321 t322 t323 _ A54.out).mono ?_
  rintro e w61 ⟨rfl, hb⟩
  refine ⟨_, rfl, ?_⟩
  replace BK317 := Kb_ BK317 hb
  replace BK318 := Kb_ BK318 hb
  replace HB := Ks_ HB hb
  (try clear hb)
  (try clear hb2)
  (try clear hk)
  (try clear hi)
  refine hK.out _ _ (Kc8_ BK317.out) (fun hHeld => ?_)
  clear hK K
  refine Kn_ 9 ?_
  refine one_ (i := 5) (N := some 12) (mB_ 8 63) rfl rfl (one_of HT_.out (by kernel_rfl)) (by decide) (fun K hK => ?_)
  refine goes_ Try.func58 (by kernel_rfl) rfl #[.slice A0_6 l0_6.length c0_6, .int .i64 10, .bool false] (by rfl) rfl rfl (by (try simp only [List.map_toArray, List.map_cons, List.map_nil]); first | done | rfl | (simp only [List.length_drop, List.length_take]; rfl)) ?_
  with_reducible refine (tenementlaw15_writes.calls k _ _ l0_6 10 false t324 _ ?side1 ?side2 A55.out).mono ?_
  (case side1 => repeat (first | exact (Kd.C_below HR0_6.out HB.out) | (with_reducible refine Kd.C_alloc ?_ _) | (with_reducible refine Kd.C_drewN ?_ _) | (with_reducible refine Kd.C_drew ?_)))
  (case side2 => exact HC0_6.out)
  rintro e w62 ⟨v325, rfl, ho0, hb⟩
  refine ⟨_, rfl, ?_⟩
  have HO326 := Aside0.mk (Kd.R_lower ho0 (below_size (K2a_ HB GE317 GE318)))
  replace BK317 := Kb_ BK317 hb
  replace BK318 := Kb_ BK318 hb
  replace HB := Ks_ HB hb
  (try clear hb)
  (try clear hb2)
  (try clear hk)
  (try clear hi)
  (try clear ho0)
  obtain ⟨Ao63, co63, eo63⟩ := Kd.R_slice HO326.out
  (first | subst eo63 | (injection eo63 with f1_ f2_ f3_; have f4_ := f1_.symm; have f5_ := f3_.symm; clear f1_ f2_ f3_; subst f4_; subst f5_))
  refine hK.out _ _ (Kc8_ BK317.out) (fun hHeld => ?_)
  clear hK K
  refine Kn_ 12 ?_
  refine Kp_ 6 13 (mB_ 8 127) (any_of HT_.out (by kernel_rfl)) ?_
  refine one_ (i := 7) (N := none) (mB_ 8 255) rfl rfl (one_of HT_.out (by kernel_rfl)) (by decide) (fun K hK => ?_)
  have hs64 : w62.cell? ⟨gb318, 0, none⟩ = some (.int .u64 0) := (blk_cell BK318.out 0).trans rfl
  have hfs64 := blk_frozen BK318.out 0
  have hns64_0 := NB317_318.out
  have hms64_0 := NB318_317.out
  have hs65 : w62.cell? ⟨gb318, 1, none⟩ = some (.int .u64 0) := (blk_cell BK318.out 1).trans rfl
  have hfs65 := blk_frozen BK318.out 1
  have hns65_0 := NB317_318.out
  have hms65_0 := NB318_317.out
  have hs66 : w62.cell? ⟨gb318, 2, none⟩ = some (.int .u64 0) := (blk_cell BK318.out 2).trans rfl
  have hfs66 := blk_frozen BK318.out 2
  have hns66_0 := NB317_318.out
  have hms66_0 := NB318_317.out
  have hs67 : w62.cell? ⟨gb318, 3, none⟩ = some (.int .u64 0) := (blk_cell BK318.out 3).trans rfl
  have hfs67 := blk_frozen BK318.out 3
  have hns67_0 := NB317_318.out
  have hms67_0 := NB318_317.out
  have hs68 : w62.cell? ⟨gb318, 4, none⟩ = some (.int .i64 0) := (blk_cell BK318.out 4).trans rfl
  have hfs68 := blk_frozen BK318.out 4
  have hns68_0 := NB317_318.out
  have hms68_0 := NB318_317.out
  have hs69 : w62.cell? ⟨gb318, 5, none⟩ = some (.slice none 0 0) := (blk_cell BK318.out 5).trans rfl
  have hfs69 := blk_frozen BK318.out 5
  have hns69_0 := NB317_318.out
  have hms69_0 := NB318_317.out
  refine skip_ (w1 := ?_) (by rfl) rfl ?_ ?_
  rotate_left
  ·go_simp
   rfl
  refine hK.out _ _ ⟨(Kj_ NB317_318 ((Kj_ NB317_318 ((Kj_ NB317_318 ((Kj_ NB317_318 ((Kj_ NB317_318 ((Kj_ NB317_318 (hHeld.1)))))))))))), (Kj_ NB317_318 ((Kj_ NB317_318 ((Kj_ NB317_318 ((Kj_ NB317_318 ((Kj_ NB317_318 ((Kj_ NB317_318 (hHeld.2.1)))))))))))), (Kj_ NB317_318 ((Kj_ NB317_318 ((Kj_ NB317_318 ((Kj_ NB317_318 ((Kj_ NB317_318 ((Kj_ NB317_318 (hHeld.2.2.1)))))))))))), (Kj_ NB317_318 ((Kj_ NB317_318 ((Kj_ NB317_318 ((Kj_ NB317_318 ((Kj_ NB317_318 ((Kj_ NB317_318 (hHeld.2.2.2.1)))))))))))), (Kj_ NB317_318 ((Kj_ NB317_318 ((Kj_ NB317_318 ((Kj_ NB317_318 ((Kj_ NB317_318 ((Kj_ NB317_318 (hHeld.2.2.2.2.1)))))))))))), (Kj_ NB317_318 ((Kj_ NB317_318 ((Kj_ NB317_318 ((Kj_ NB317_318 ((Kj_ NB317_318 ((Kj_ NB317_318 (hHeld.2.2.2.2.2.1)))))))))))), (Kj_ NB317_318 ((Kj_ NB317_318 ((Kj_ NB317_318 ((Kj_ NB317_318 ((Kj_ NB317_318 ((Kj_ NB317_318 (hHeld.2.2.2.2.2.2.1)))))))))))), (Kj_ NB317_318 ((Kj_ NB317_318 ((Kj_ NB317_318 ((Kj_ NB317_318 ((Kj_ NB317_318 ((Kj_ NB317_318 (hHeld.2.2.2.2.2.2.2))))))))))))⟩ (fun hHeld => ?_)
  clear hK K
  refine done_ (done_of HT_.out (by kernel_rfl)) ?_
  try go_wp2
  refine bodyPost_ret (results_cell_row rfl _ _ gb318 33 #[.int .u64 t319, .int .u64 t320, .int .u64 t321, .int .u64 t322, .int .i64 t323, .slice Ao63 t324.length co63] (0, 0) _ rfl (by refine Kv_ ?_; refine blk_put (cs := #[.int .u64 t319, .int .u64 t320, .int .u64 t321, .int .u64 t322, .int .i64 t323, .slice none 0 0]) ?_ 5 _ rfl; refine Kv_ ?_; refine blk_put (cs := #[.int .u64 t319, .int .u64 t320, .int .u64 t321, .int .u64 t322, .int .i64 0, .slice none 0 0]) ?_ 4 _ rfl; refine Kv_ ?_; refine blk_put (cs := #[.int .u64 t319, .int .u64 t320, .int .u64 t321, .int .u64 0, .int .i64 0, .slice none 0 0]) ?_ 3 _ rfl; refine Kv_ ?_; refine blk_put (cs := #[.int .u64 t319, .int .u64 t320, .int .u64 0, .int .u64 0, .int .i64 0, .slice none 0 0]) ?_ 2 _ rfl; refine Kv_ ?_; refine blk_put (cs := #[.int .u64 t319, .int .u64 0, .int .u64 0, .int .u64 0, .int .i64 0, .slice none 0 0]) ?_ 1 _ rfl; refine Kv_ ?_; refine blk_put (cs := #[.int .u64 0, .int .u64 0, .int .u64 0, .int .u64 0, .int .i64 0, .slice none 0 0]) ?_ 0 _ rfl; exact Kq_ BK318) Try.underlying33 rfl (by kernel_rfl)) rfl ?_
  exact ⟨_, by first | rfl | (simp [errW_none, errW_some] <;> rfl) | (simp [*, errW_none, errW_some] <;> rfl), by (with_reducible repeat (first | apply Kd.R_alloc | apply Kd.R_drewN | apply Kd.R_drew)); exact Kd.R_mono (Kd.R_far (p := ⟨gb318, 5, none⟩) (Kd.R_far (p := ⟨gb318, 4, none⟩) (Kd.R_far (p := ⟨gb318, 3, none⟩) (Kd.R_far (p := ⟨gb318, 2, none⟩) (Kd.R_far (p := ⟨gb318, 1, none⟩) (Kd.R_far (p := ⟨gb318, 0, none⟩) (Kd.R_types HO326.out BK318.out (by decide)) (fun _ hk => hk.2) (.int .u64 t319)) (fun _ hk => hk.2) (.int .u64 t320)) (fun _ hk => hk.2) (.int .u64 t321)) (fun _ hk => hk.2) (.int .u64 t322)) (fun _ hk => hk.2) (.int .i64 t323)) (fun _ hk => hk.2) (.slice Ao63 t324.length co63)) (fun _ hk => trivial), K2a_ HB GE317 GE318⟩
 subst c2
 have H1 : ((tenementlaw15_Mark_mark.f k a0_0 a0_1 a0_2 a0_3 a0_4 true).bind fun bt327 => ((tenementlaw15_writes.f k l0_6 8 true).bind fun t332 => (if (t332.length : Int) = 0 then (some (bt327.1, bt327.2.1, bt327.2.2.1, bt327.2.2.2.1, bt327.2.2.2.2, (([(⟨(⟨#[98, 48]⟩ : ByteArray), (⟨#[97]⟩ : ByteArray), (⟨#[118]⟩ : ByteArray), false⟩ : S107)] : List (S107))))) else (some (bt327.1, bt327.2.1, bt327.2.2.1, bt327.2.2.2.1, bt327.2.2.2.2, t332))))) = some (r1, r2, r3, r4, r5, r6) := by rw [if_pos rfl] at H; exact H
 clear H
 have H := H1
 clear H1
 replace H := Option.bind_eq_some_iff.mp H
 obtain ⟨⟨t327, t328, t329, t330, t331⟩, A30, H⟩ := H
 replace H : ((tenementlaw15_writes.f k l0_6 8 true).bind fun t332 => (if (t332.length : Int) = 0 then (some (t327, t328, t329, t330, t331, (([(⟨(⟨#[98, 48]⟩ : ByteArray), (⟨#[97]⟩ : ByteArray), (⟨#[118]⟩ : ByteArray), false⟩ : S107)] : List (S107))))) else (some (t327, t328, t329, t330, t331, t332)))) = some (r1, r2, r3, r4, r5, r6) := H
 have A3 := Aside0.mk A30
 clear A30
 replace H := Option.bind_eq_some_iff.mp H
 obtain ⟨t332, A40, H⟩ := H
 replace H : (if (t332.length : Int) = 0 then (some (t327, t328, t329, t330, t331, (([(⟨(⟨#[98, 48]⟩ : ByteArray), (⟨#[97]⟩ : ByteArray), (⟨#[118]⟩ : ByteArray), false⟩ : S107)] : List (S107))))) else (some (t327, t328, t329, t330, t331, t332))) = some (r1, r2, r3, r4, r5, r6) := H
 have A4 := Aside0.mk A40
 clear A40
 by_cases c5 : (t332.length : Int) = 0
 rotate_left
 ·rw [if_neg c5] at H
  have c5b0 : ((t332.length : Int) == 0) = false := beq_eq_false_iff_ne.mpr c5
  have c5b1 : ((t332.length : Int) != 0) = true := bne_iff_ne.mpr c5
  have c5b2 : ¬ (t332 = []) := fun h_ => c5 (by rw [h_]; rfl)
  simp only [Option.some.injEq, Prod.mk.injEq] at H
  obtain ⟨rfl, rfl, rfl, rfl, rfl, rfl⟩ := H
  go_enter Try.func19, Try.ntmps19
  try go_wp2_with (first | ((with_reducible refine gate_dst (N := 1) rfl ?_); refine Ka_ 1 #[.int .u64 a0_0, .int .u64 a0_1, .int .u64 a0_2, .int .u64 a0_3, .int .i64 a0_4, .bool a0_5, .slice A0_6 l0_6.length c0_6, .bool true] 42 ?_; intro gb317 hg w32 hbox hb; have BK317 := Aside0.mk (hbox); have GW317 := Kw_ HB hg; have GE317 := GW317; replace HB := Ks_ HB hb; clear hb hbox hg) | ((with_reducible refine gate_dst (N := 2) rfl ?_); refine Ka_ 2 #[.int .u64 0, .int .u64 0, .int .u64 0, .int .u64 0, .int .i64 0, .slice none 0 0] 33 ?_; intro gb318 hg w33 hbox hb; have BK318 := Aside0.mk (hbox); have GW318 := Kw_ HB hg; have GE318 := GW318; have NB317_318 := Kl_ BK317 hg; have NB318_317 := Kr_ BK317 hg; replace BK317 := Kb_ BK317 hb; replace HB := Ks_ HB hb; clear hb hbox hg; have hnb34 := NB317_318.out; have hnc34 := NB318_317.out; obtain ⟨hcz35_0, hcz35_1, hcz35_2, hcz35_3, hcz35_4, hcz35_5, hcz35_6, hcz35_7, hfz35_0, hfz35_1, hfz35_2, hfz35_3, hfz35_4, hfz35_5, hfz35_6, hfz35_7⟩ := Ke8_ BK317.out))
  have n0_ : Aside0 ((w33.setCell ⟨gb317, 5, none⟩ (.bool true)).heap[gb317]? = some (.cells #[.int .u64 a0_0, .int .u64 a0_1, .int .u64 a0_2, .int .u64 a0_3, .int .i64 a0_4, .bool true, .slice A0_6 l0_6.length c0_6, .bool true] 42 (0, 0))) := ⟨by refine Kv_ ?_; refine blk_put (cs := #[.int .u64 a0_0, .int .u64 a0_1, .int .u64 a0_2, .int .u64 a0_3, .int .i64 a0_4, .bool a0_5, .slice A0_6 l0_6.length c0_6, .bool true]) ?_ 5 _ rfl; exact Kq_ BK317⟩
  have n1_ : Aside0 ((w33.setCell ⟨gb317, 5, none⟩ (.bool true)).heap[gb318]? = some (.cells #[.int .u64 0, .int .u64 0, .int .u64 0, .int .u64 0, .int .i64 0, .slice none 0 0] 33 (0, 0))) := ⟨by exact K1b_ BK318 NB318_317⟩
  have n2_ : Aside0 (Below w.heap.size w (w33.setCell ⟨gb317, 5, none⟩ (.bool true))) := ⟨K2a_ HB GE317 GE318⟩
  (try clear BK317)
  (try clear BK318)
  (try clear HB)
  generalize (w33.setCell ⟨gb317, 5, none⟩ (.bool true)) = w36 at n0_ n1_ n2_ ⊢
  have BK317 := n0_
  have BK318 := n1_
  have HB := n2_
  clear n0_ n1_ n2_
  replace BK317 := Kd_ BK317
  replace BK318 := Kd_ BK318
  replace HB := Aside0.mk (below_drew1 HB.out)
  refine start_ (n := 9) (S := fun w' => w'.cell? ⟨gb317, 0, none⟩ = some (.int .u64 a0_0) ∧ w'.cell? ⟨gb317, 1, none⟩ = some (.int .u64 a0_1) ∧ w'.cell? ⟨gb317, 2, none⟩ = some (.int .u64 a0_2) ∧ w'.cell? ⟨gb317, 3, none⟩ = some (.int .u64 a0_3) ∧ w'.cell? ⟨gb317, 4, none⟩ = some (.int .i64 a0_4) ∧ w'.cell? ⟨gb317, 5, none⟩ = some (.bool true) ∧ w'.cell? ⟨gb317, 6, none⟩ = some (.slice A0_6 l0_6.length c0_6) ∧ w'.cell? ⟨gb317, 7, none⟩ = some (.bool true)) (ds := []) (mB_ 9 0) (by kernel_rfl) rfl rfl (Kc8_ BK317.out) (fun hHeld => ?_); refine with_tabW tenementlaw15_Deal_deal.tab4 tenementlaw15_Deal_deal.bits4 (fun HT_ HW_ => ?_)
  generalize w36.drew = w37 at BK317 BK318 HB hHeld ⊢
  refine Kp_ 0 16 (mB_ 9 1) (any_of HT_.out (by kernel_rfl)) ?_
  refine Kp_ 3 19 (mB_ 9 9) (any_of HT_.out (by kernel_rfl)) ?_
  refine Ko_ 1 17 (mB_ 9 11) (take_ofW HT_.out HW_.out (by kernel_rfl)) hHeld ?_
  refine Ko_ 4 20 (mB_ 9 27) (take_ofW HT_.out HW_.out (by kernel_rfl)) hHeld ?_
  refine join_ (σ := Value × Nat) 1 (mB_ 9 255) (fun s_ => [(18, .agg #[.int .u64 t327, .int .u64 t328, .int .u64 t329, .int .u64 t330, .int .i64 t331]), (21, s_.1), (3, .pointer (some ⟨s_.2, 0, none⟩)), (22, .agg #[.int .u64 t327, .int .u64 t328, .int .u64 t329, .int .u64 t330, .int .i64 t331, s_.1])]) (fun s_ w' => (w'.cell? ⟨gb317, 0, none⟩ = some (.int .u64 a0_0) ∧ w'.cell? ⟨gb317, 1, none⟩ = some (.int .u64 a0_1) ∧ w'.cell? ⟨gb317, 2, none⟩ = some (.int .u64 a0_2) ∧ w'.cell? ⟨gb317, 3, none⟩ = some (.int .u64 a0_3) ∧ w'.cell? ⟨gb317, 4, none⟩ = some (.int .i64 a0_4) ∧ w'.cell? ⟨gb317, 5, none⟩ = some (.bool true) ∧ w'.cell? ⟨gb317, 6, none⟩ = some (.slice A0_6 l0_6.length c0_6) ∧ w'.cell? ⟨gb317, 7, none⟩ = some (.bool true)) ∧ (Kd.R k107 107 w' w.heap.size (fun _ => True) s_.1 t332) ∧ (w'.heap[gb317]? = some (.cells #[.int .u64 a0_0, .int .u64 a0_1, .int .u64 a0_2, .int .u64 a0_3, .int .i64 a0_4, .bool true, .slice A0_6 l0_6.length c0_6, .bool true] 42 (0, 0))) ∧ (w'.heap[gb318]? = some (.cells #[.int .u64 0, .int .u64 0, .int .u64 0, .int .u64 0, .int .i64 0, .slice none 0 0] 33 (0, 0))) ∧ (w'.heap[s_.2]? = some (.cells #[.int .u64 0, .int .u64 0, .int .u64 0, .int .u64 0, .int .i64 0, .slice none 0 0] 33 (0, 0))) ∧ (w.heap.size ≤ s_.2) ∧ (w.heap.size ≤ s_.2) ∧ (gb317 ≠ s_.2) ∧ (s_.2 ≠ gb317) ∧ (gb318 ≠ s_.2) ∧ (s_.2 ≠ gb318) ∧ (Below w.heap.size w w')) ?_ ?_
  rotate_left
  ·intro hCont
   refine two_ (i := 2) (j := 7) (Ni := some 18) (Nj := some 3) (mB_ 9 31) (mB_ 9 155) rfl rfl rfl rfl (two_of HT_.out (by kernel_rfl)) (by decide) (by decide) (fun K hK => ?_) (fun K hK => ?_)
   ·skip
    refine goes_ Try.func25 (by kernel_rfl) rfl #[.agg #[.int .u64 a0_0, .int .u64 a0_1, .int .u64 a0_2, .int .u64 a0_3, .int .i64 a0_4, .bool true]] (by rfl) rfl rfl (by (try simp only [List.map_toArray, List.map_cons, List.map_nil]); first | done | rfl | (simp only [List.length_drop, List.length_take]; rfl)) ?_
    with_reducible refine (tenementlaw15_Mark_mark.calls k a0_0 a0_1 a0_2 a0_3 a0_4 true t327 t328 t329 t330 t331 _ A3.out).mono ?_
    rintro e w38 ⟨rfl, hb⟩
    refine ⟨_, rfl, ?_⟩
    replace BK317 := Kb_ BK317 hb
    replace BK318 := Kb_ BK318 hb
    replace HB := Ks_ HB hb
    (try clear hb)
    (try clear hb2)
    (try clear hk)
    (try clear hi)
    refine hK.out _ _ (Kc8_ BK317.out) (fun hHeld => ?_)
    clear hK K
    refine Kn_ 18 ?_
    refine two_ (i := 5) (j := 7) (Ni := some 21) (Nj := some 3) (mB_ 9 63) (mB_ 9 159) rfl rfl rfl rfl (two_of HT_.out (by kernel_rfl)) (by decide) (by decide) (fun K hK => ?_) (fun K hK => ?_)
    ·skip
     refine goes_ Try.func58 (by kernel_rfl) rfl #[.slice A0_6 l0_6.length c0_6, .int .i64 8, .bool true] (by rfl) rfl rfl (by (try simp only [List.map_toArray, List.map_cons, List.map_nil]); first | done | rfl | (simp only [List.length_drop, List.length_take]; rfl)) ?_
     with_reducible refine (tenementlaw15_writes.calls k _ _ l0_6 8 true t332 _ ?side1 ?side2 A4.out).mono ?_
     (case side1 => repeat (first | exact (Kd.C_below HR0_6.out HB.out) | (with_reducible refine Kd.C_alloc ?_ _) | (with_reducible refine Kd.C_drewN ?_ _) | (with_reducible refine Kd.C_drew ?_)))
     (case side2 => exact HC0_6.out)
     rintro e w39 ⟨v333, rfl, ho0, hb⟩
     refine ⟨_, rfl, ?_⟩
     have HO334 := Aside0.mk (Kd.R_lower ho0 (below_size (K2a_ HB GE317 GE318)))
     replace BK317 := Kb_ BK317 hb
     replace BK318 := Kb_ BK318 hb
     replace HB := Ks_ HB hb
     (try clear hb)
     (try clear hb2)
     (try clear hk)
     (try clear hi)
     (try clear ho0)
     obtain ⟨Ao40, co40, eo40⟩ := Kd.R_slice HO334.out
     (first | subst eo40 | (injection eo40 with f1_ f2_ f3_; have f4_ := f1_.symm; have f5_ := f3_.symm; clear f1_ f2_ f3_; subst f4_; subst f5_))
     refine hK.out _ _ (Kc8_ BK317.out) (fun hHeld => ?_)
     clear hK K
     refine Kn_ 21 ?_
     refine Kp_ 6 22 (mB_ 9 127) (any_of HT_.out (by kernel_rfl)) ?_
     refine one_ (i := 7) (N := some 3) (mB_ 9 255) rfl rfl (one_of HT_.out (by kernel_rfl)) (by decide) (fun K hK => ?_)
     refine box_step ?hg (N := 3) ?hd (cs := #[.int .u64 0, .int .u64 0, .int .u64 0, .int .u64 0, .int .i64 0, .slice none 0 0]) (t := 33) ?hr ?_; (case hd => rfl); (case hg => rfl); (case hr => first | (go_simp; done) | (go_simp; rfl))
     intro gb335 hg w41 hbox hb
     have BK335 := Aside0.mk (hbox)
     have GW335 := Kw_ HB hg
     have GE335 := GW335
     have NB317_335 := Kl_ BK317 hg
     have NB335_317 := Kr_ BK317 hg
     have NB318_335 := Kl_ BK318 hg
     have NB335_318 := Kr_ BK318 hg
     replace HO334 := Aside0.mk (Kd.R_below (Ku_ HO334) hb)
     replace BK317 := Kb_ BK317 hb
     replace BK318 := Kb_ BK318 hb
     replace HB := Ks_ HB hb
     clear hb hbox hg
     refine hK.out _ _ (Kc8_ BK317.out) (fun hHeld => ?_)
     clear hK K
     refine Kn_ 3 ?_
     exact norm_ (by simp only [putAll, Act.put, List.setIfInBounds_toArray, List.set_cons_zero, List.set_cons_succ]) (hCont (.slice Ao40 t332.length co40, gb335) _ ⟨hHeld, (Ku_ HO334), (Kq_ BK317), (Kq_ BK318), (Kq_ BK335), GW335.out, GE335.out, NB317_335.out, NB335_317.out, NB318_335.out, NB335_318.out, (K3a_ HB GE317 GE318 GE335)⟩)
    ·skip
     refine box_step ?hg (N := 3) ?hd (cs := #[.int .u64 0, .int .u64 0, .int .u64 0, .int .u64 0, .int .i64 0, .slice none 0 0]) (t := 33) ?hr ?_; (case hd => rfl); (case hg => rfl); (case hr => first | (go_simp; done) | (go_simp; rfl))
     intro gb335 hg w39 hbox hb
     have BK335 := Aside0.mk (hbox)
     have GW335 := Kw_ HB hg
     have GE335 := GW335
     have NB317_335 := Kl_ BK317 hg
     have NB335_317 := Kr_ BK317 hg
     have NB318_335 := Kl_ BK318 hg
     have NB335_318 := Kr_ BK318 hg
     replace BK317 := Kb_ BK317 hb
     replace BK318 := Kb_ BK318 hb
     replace HB := Ks_ HB hb
     clear hb hbox hg
     refine hK.out _ _ (Kc8_ BK317.out) (fun hHeld => ?_)
     clear hK K
     refine Kn_ 3 ?_
     refine one_ (i := 5) (N := some 21) (mB_ 9 191) rfl rfl (one_of HT_.out (by kernel_rfl)) (by decide) (fun K hK => ?_)
     refine goes_ Try.func58 (by kernel_rfl) rfl #[.slice A0_6 l0_6.length c0_6, .int .i64 8, .bool true] (by rfl) rfl rfl (by (try simp only [List.map_toArray, List.map_cons, List.map_nil]); first | done | rfl | (simp only [List.length_drop, List.length_take]; rfl)) ?_
     with_reducible refine (tenementlaw15_writes.calls k _ _ l0_6 8 true t332 _ ?side1 ?side2 A4.out).mono ?_
     (case side1 => repeat (first | exact (Kd.C_below HR0_6.out HB.out) | (with_reducible refine Kd.C_alloc ?_ _) | (with_reducible refine Kd.C_drewN ?_ _) | (with_reducible refine Kd.C_drew ?_)))
     (case side2 => exact HC0_6.out)
     rintro e w40 ⟨v333, rfl, ho0, hb⟩
     refine ⟨_, rfl, ?_⟩
     have HO334 := Aside0.mk (Kd.R_lower ho0 (below_size (K3a_ HB GE317 GE318 GE335)))
     replace BK317 := Kb_ BK317 hb
     replace BK318 := Kb_ BK318 hb
     replace BK335 := Kb_ BK335 hb
     replace HB := Ks_ HB hb
     (try clear hb)
     (try clear hb2)
     (try clear hk)
     (try clear hi)
     (try clear ho0)
     obtain ⟨Ao41, co41, eo41⟩ := Kd.R_slice HO334.out
     (first | subst eo41 | (injection eo41 with f1_ f2_ f3_; have f4_ := f1_.symm; have f5_ := f3_.symm; clear f1_ f2_ f3_; subst f4_; subst f5_))
     refine hK.out _ _ (Kc8_ BK317.out) (fun hHeld => ?_)
     clear hK K
     refine Kn_ 21 ?_
     refine Kp_ 6 22 (mB_ 9 255) (any_of HT_.out (by kernel_rfl)) ?_
     exact norm_ (by simp only [putAll, Act.put, List.setIfInBounds_toArray, List.set_cons_zero, List.set_cons_succ]) (hCont (.slice Ao41 t332.length co41, gb335) _ ⟨hHeld, (Ku_ HO334), (Kq_ BK317), (Kq_ BK318), (Kq_ BK335), GW335.out, GE335.out, NB317_335.out, NB335_317.out, NB318_335.out, NB335_318.out, (K3a_ HB GE317 GE318 GE335)⟩)
   ·skip
    refine box_step ?hg (N := 3) ?hd (cs := #[.int .u64 0, .int .u64 0, .int .u64 0, .int .u64 0, .int .i64 0, .slice none 0 0]) (t := 33) ?hr ?_; (case hd => rfl); (case hg => rfl); (case hr => first | (go_simp; done) | (go_simp; rfl))
    intro gb335 hg w38 hbox hb
    have BK335 := Aside0.mk (hbox)
    have GW335 := Kw_ HB hg
    have GE335 := GW335
    have NB317_335 := Kl_ BK317 hg
    have NB335_317 := Kr_ BK317 hg
    have NB318_335 := Kl_ BK318 hg
    have NB335_318 := Kr_ BK318 hg
    replace BK317 := Kb_ BK317 hb
    replace BK318 := Kb_ BK318 hb
    replace HB := Ks_ HB hb
    clear hb hbox hg
    refine hK.out _ _ (Kc8_ BK317.out) (fun hHeld => ?_)
    clear hK K
    refine Kn_ 3 ?_
    refine one_ (i := 2) (N := some 18) (mB_ 9 159) rfl rfl (one_of HT_.out (by kernel_rfl)) (by decide) (fun K hK => ?_)
    refine goes_ Try.func25 (by kernel_rfl) rfl #[.agg #[.int .u64 a0_0, .int .u64 a0_1, .int .u64 a0_2, .int .u64 a0_3, .int .i64 a0_4, .bool true]] (by rfl) rfl rfl (by (try simp only [List.map_toArray, List.map_cons, List.map_nil]); first | done | rfl | (simp only [List.length_drop, List.length_take]; rfl)) ?_
    with_reducible refine (tenementlaw15_Mark_mark.calls k a0_0 a0_1 a0_2 a0_3 a0_4 true t327 t328 t329 t330 t331 _ A3.out).mono ?_
    rintro e w39 ⟨rfl, hb⟩
    refine ⟨_, rfl, ?_⟩
    replace BK317 := Kb_ BK317 hb
    replace BK318 := Kb_ BK318 hb
    replace BK335 := Kb_ BK335 hb
    replace HB := Ks_ HB hb
    (try clear hb)
    (try clear hb2)
    (try clear hk)
    (try clear hi)
    refine hK.out _ _ (Kc8_ BK317.out) (fun hHeld => ?_)
    clear hK K
    refine Kn_ 18 ?_
    refine one_ (i := 5) (N := some 21) (mB_ 9 191) rfl rfl (one_of HT_.out (by kernel_rfl)) (by decide) (fun K hK => ?_)
    refine goes_ Try.func58 (by kernel_rfl) rfl #[.slice A0_6 l0_6.length c0_6, .int .i64 8, .bool true] (by rfl) rfl rfl (by (try simp only [List.map_toArray, List.map_cons, List.map_nil]); first | done | rfl | (simp only [List.length_drop, List.length_take]; rfl)) ?_
    with_reducible refine (tenementlaw15_writes.calls k _ _ l0_6 8 true t332 _ ?side1 ?side2 A4.out).mono ?_
    (case side1 => repeat (first | exact (Kd.C_below HR0_6.out HB.out) | (with_reducible refine Kd.C_alloc ?_ _) | (with_reducible refine Kd.C_drewN ?_ _) | (with_reducible refine Kd.C_drew ?_)))
    (case side2 => exact HC0_6.out)
    rintro e w40 ⟨v333, rfl, ho0, hb⟩
    refine ⟨_, rfl, ?_⟩
    have HO334 := Aside0.mk (Kd.R_lower ho0 (below_size (K3a_ HB GE317 GE318 GE335)))
    replace BK317 := Kb_ BK317 hb
    replace BK318 := Kb_ BK318 hb
    replace BK335 := Kb_ BK335 hb
    replace HB := Ks_ HB hb
    (try clear hb)
    (try clear hb2)
    (try clear hk)
    (try clear hi)
    (try clear ho0)
    obtain ⟨Ao41, co41, eo41⟩ := Kd.R_slice HO334.out
    (first | subst eo41 | (injection eo41 with f1_ f2_ f3_; have f4_ := f1_.symm; have f5_ := f3_.symm; clear f1_ f2_ f3_; subst f4_; subst f5_))
    refine hK.out _ _ (Kc8_ BK317.out) (fun hHeld => ?_)
    clear hK K
    refine Kn_ 21 ?_
    refine Kp_ 6 22 (mB_ 9 255) (any_of HT_.out (by kernel_rfl)) ?_
    exact norm_ (by simp only [putAll, Act.put, List.setIfInBounds_toArray, List.set_cons_zero, List.set_cons_succ]) (hCont (.slice Ao41 t332.length co41, gb335) _ ⟨hHeld, (Ku_ HO334), (Kq_ BK317), (Kq_ BK318), (Kq_ BK335), GW335.out, GE335.out, NB317_335.out, NB335_317.out, NB318_335.out, NB335_318.out, (K3a_ HB GE317 GE318 GE335)⟩)
  rintro ⟨v333, gb335⟩ w42 ⟨hS_, h0_, h1_, h2_, h3_, h4_, h5_, h6_, h7_, h8_, h9_, h10_⟩
  have n0_ : Aside0 (Kd.R k107 107 w42 w.heap.size (fun _ => True) v333 t332) := ⟨h0_⟩
  have n1_ : Aside0 (w42.heap[gb317]? = some (.cells #[.int .u64 a0_0, .int .u64 a0_1, .int .u64 a0_2, .int .u64 a0_3, .int .i64 a0_4, .bool true, .slice A0_6 l0_6.length c0_6, .bool true] 42 (0, 0))) := ⟨h1_⟩
  have n2_ : Aside0 (w42.heap[gb318]? = some (.cells #[.int .u64 0, .int .u64 0, .int .u64 0, .int .u64 0, .int .i64 0, .slice none 0 0] 33 (0, 0))) := ⟨h2_⟩
  have n3_ : Aside0 (w42.heap[gb335]? = some (.cells #[.int .u64 0, .int .u64 0, .int .u64 0, .int .u64 0, .int .i64 0, .slice none 0 0] 33 (0, 0))) := ⟨h3_⟩
  have n4_ : Aside0 (w.heap.size ≤ gb335) := ⟨h4_⟩
  have n5_ : Aside0 (w.heap.size ≤ gb335) := ⟨h5_⟩
  have n6_ : Aside0 (gb317 ≠ gb335) := ⟨h6_⟩
  have n7_ : Aside0 (gb335 ≠ gb317) := ⟨h7_⟩
  have n8_ : Aside0 (gb318 ≠ gb335) := ⟨h8_⟩
  have n9_ : Aside0 (gb335 ≠ gb318) := ⟨h9_⟩
  have n10_ : Aside0 (Below w.heap.size w w42) := ⟨h10_⟩
  clear BK317
  clear BK318
  clear HB
  clear h0_ h1_ h2_ h3_ h4_ h5_ h6_ h7_ h8_ h9_ h10_
  have HO334 := n0_
  have BK317 := n1_
  have BK318 := n2_
  have BK335 := n3_
  have GW335 := n4_
  have GE335 := n5_
  have NB317_335 := n6_
  have NB335_317 := n7_
  have NB318_335 := n8_
  have NB335_318 := n9_
  have HB := n10_
  clear n0_ n1_ n2_ n3_ n4_ n5_ n6_ n7_ n8_ n9_ n10_
  have hHeld : w42.cell? ⟨gb317, 0, none⟩ = some (.int .u64 a0_0) ∧ w42.cell? ⟨gb317, 1, none⟩ = some (.int .u64 a0_1) ∧ w42.cell? ⟨gb317, 2, none⟩ = some (.int .u64 a0_2) ∧ w42.cell? ⟨gb317, 3, none⟩ = some (.int .u64 a0_3) ∧ w42.cell? ⟨gb317, 4, none⟩ = some (.int .i64 a0_4) ∧ w42.cell? ⟨gb317, 5, none⟩ = some (.bool true) ∧ w42.cell? ⟨gb317, 6, none⟩ = some (.slice A0_6 l0_6.length c0_6) ∧ w42.cell? ⟨gb317, 7, none⟩ = some (.bool true) := hS_
  obtain ⟨Ao43, co43, eo43⟩ := Kd.R_slice HO334.out
  (first | subst eo43 | (injection eo43 with f1_ f2_ f3_; have f4_ := f1_.symm; have f5_ := f3_.symm; clear f1_ f2_ f3_; subst f4_; subst f5_))
  refine norm_ (a' := ?_) ?_ ?_
  rotate_left
  ·simp only [putAll, Act.put, List.setIfInBounds_toArray, List.set_cons_zero, List.set_cons_succ]
   rfl
  refine one_ (i := 8) (N := none) (mB_ 9 511) rfl rfl (one_of HT_.out (by kernel_rfl)) (by decide) (fun K hK => ?_)
  have hs44 : w42.cell? ⟨gb335, 0, none⟩ = some (.int .u64 0) := (blk_cell BK335.out 0).trans rfl
  have hfs44 := blk_frozen BK335.out 0
  have hns44_0 := NB317_335.out
  have hns44_1 := NB318_335.out
  have hms44_0 := NB335_317.out
  have hms44_1 := NB335_318.out
  have hs45 : w42.cell? ⟨gb335, 1, none⟩ = some (.int .u64 0) := (blk_cell BK335.out 1).trans rfl
  have hfs45 := blk_frozen BK335.out 1
  have hns45_0 := NB317_335.out
  have hns45_1 := NB318_335.out
  have hms45_0 := NB335_317.out
  have hms45_1 := NB335_318.out
  have hs46 : w42.cell? ⟨gb335, 2, none⟩ = some (.int .u64 0) := (blk_cell BK335.out 2).trans rfl
  have hfs46 := blk_frozen BK335.out 2
  have hns46_0 := NB317_335.out
  have hns46_1 := NB318_335.out
  have hms46_0 := NB335_317.out
  have hms46_1 := NB335_318.out
  have hs47 : w42.cell? ⟨gb335, 3, none⟩ = some (.int .u64 0) := (blk_cell BK335.out 3).trans rfl
  have hfs47 := blk_frozen BK335.out 3
  have hns47_0 := NB317_335.out
  have hns47_1 := NB318_335.out
  have hms47_0 := NB335_317.out
  have hms47_1 := NB335_318.out
  have hs48 : w42.cell? ⟨gb335, 4, none⟩ = some (.int .i64 0) := (blk_cell BK335.out 4).trans rfl
  have hfs48 := blk_frozen BK335.out 4
  have hns48_0 := NB317_335.out
  have hns48_1 := NB318_335.out
  have hms48_0 := NB335_317.out
  have hms48_1 := NB335_318.out
  have hs49 : w42.cell? ⟨gb335, 5, none⟩ = some (.slice none 0 0) := (blk_cell BK335.out 5).trans rfl
  have hfs49 := blk_frozen BK335.out 5
  have hns49_0 := NB317_335.out
  have hns49_1 := NB318_335.out
  have hms49_0 := NB335_317.out
  have hms49_1 := NB335_318.out
  refine skip_ (w1 := ?_) (by rfl) rfl ?_ ?_
  rotate_left
  ·go_simp
   rfl
  refine hK.out _ _ ⟨(Kj_ NB317_335 ((Kj_ NB317_335 ((Kj_ NB317_335 ((Kj_ NB317_335 ((Kj_ NB317_335 ((Kj_ NB317_335 (hHeld.1)))))))))))), (Kj_ NB317_335 ((Kj_ NB317_335 ((Kj_ NB317_335 ((Kj_ NB317_335 ((Kj_ NB317_335 ((Kj_ NB317_335 (hHeld.2.1)))))))))))), (Kj_ NB317_335 ((Kj_ NB317_335 ((Kj_ NB317_335 ((Kj_ NB317_335 ((Kj_ NB317_335 ((Kj_ NB317_335 (hHeld.2.2.1)))))))))))), (Kj_ NB317_335 ((Kj_ NB317_335 ((Kj_ NB317_335 ((Kj_ NB317_335 ((Kj_ NB317_335 ((Kj_ NB317_335 (hHeld.2.2.2.1)))))))))))), (Kj_ NB317_335 ((Kj_ NB317_335 ((Kj_ NB317_335 ((Kj_ NB317_335 ((Kj_ NB317_335 ((Kj_ NB317_335 (hHeld.2.2.2.2.1)))))))))))), (Kj_ NB317_335 ((Kj_ NB317_335 ((Kj_ NB317_335 ((Kj_ NB317_335 ((Kj_ NB317_335 ((Kj_ NB317_335 (hHeld.2.2.2.2.2.1)))))))))))), (Kj_ NB317_335 ((Kj_ NB317_335 ((Kj_ NB317_335 ((Kj_ NB317_335 ((Kj_ NB317_335 ((Kj_ NB317_335 (hHeld.2.2.2.2.2.2.1)))))))))))), (Kj_ NB317_335 ((Kj_ NB317_335 ((Kj_ NB317_335 ((Kj_ NB317_335 ((Kj_ NB317_335 ((Kj_ NB317_335 (hHeld.2.2.2.2.2.2.2))))))))))))⟩ (fun hHeld => ?_)
  clear hK K
  refine done_ (done_of HT_.out (by kernel_rfl)) ?_
  have hnb50 := NB335_317.out
  have hnc50 := NB317_335.out
  have hnb51 := NB335_318.out
  have hnc51 := NB318_335.out
  obtain ⟨hcz52_0, hcz52_1, hcz52_2, hcz52_3, hcz52_4, hcz52_5, hfz52_0, hfz52_1, hfz52_2, hfz52_3, hfz52_4, hfz52_5⟩ := Ke6_ BK335.out
  obtain ⟨hcz53_0, hcz53_1, hcz53_2, hcz53_3, hcz53_4, hcz53_5, hfz53_0, hfz53_1, hfz53_2, hfz53_3, hfz53_4, hfz53_5⟩ := Ke6_ BK318.out
  try go_wp2
  refine bodyPost_ret (results_cell_row rfl _ _ gb318 33 #[.int .u64 t327, .int .u64 t328, .int .u64 t329, .int .u64 t330, .int .i64 t331, .slice Ao43 t332.length co43] (0, 0) _ rfl (by refine Kv_ ?_; refine blk_put (cs := #[.int .u64 t327, .int .u64 t328, .int .u64 t329, .int .u64 t330, .int .i64 t331, .slice none 0 0]) ?_ 5 _ rfl; refine Kv_ ?_; refine blk_put (cs := #[.int .u64 t327, .int .u64 t328, .int .u64 t329, .int .u64 t330, .int .i64 0, .slice none 0 0]) ?_ 4 _ rfl; refine Kv_ ?_; refine blk_put (cs := #[.int .u64 t327, .int .u64 t328, .int .u64 t329, .int .u64 0, .int .i64 0, .slice none 0 0]) ?_ 3 _ rfl; refine Kv_ ?_; refine blk_put (cs := #[.int .u64 t327, .int .u64 t328, .int .u64 0, .int .u64 0, .int .i64 0, .slice none 0 0]) ?_ 2 _ rfl; refine Kv_ ?_; refine blk_put (cs := #[.int .u64 t327, .int .u64 0, .int .u64 0, .int .u64 0, .int .i64 0, .slice none 0 0]) ?_ 1 _ rfl; refine Kv_ ?_; refine blk_put (cs := #[.int .u64 0, .int .u64 0, .int .u64 0, .int .u64 0, .int .i64 0, .slice none 0 0]) ?_ 0 _ rfl; exact K1b_ BK318 NB318_335) Try.underlying33 rfl (by kernel_rfl)) rfl ?_
  exact ⟨_, by first | rfl | (simp [errW_none, errW_some] <;> rfl) | (simp [*, errW_none, errW_some] <;> rfl), by (with_reducible repeat (first | apply Kd.R_alloc | apply Kd.R_drewN | apply Kd.R_drew)); exact Kd.R_mono (Kd.R_far (p := ⟨gb318, 5, none⟩) (Kd.R_far (p := ⟨gb318, 4, none⟩) (Kd.R_far (p := ⟨gb318, 3, none⟩) (Kd.R_far (p := ⟨gb318, 2, none⟩) (Kd.R_far (p := ⟨gb318, 1, none⟩) (Kd.R_far (p := ⟨gb318, 0, none⟩) (Kd.R_far (p := ⟨gb335, 5, none⟩) (Kd.R_far (p := ⟨gb335, 4, none⟩) (Kd.R_far (p := ⟨gb335, 3, none⟩) (Kd.R_far (p := ⟨gb335, 2, none⟩) (Kd.R_far (p := ⟨gb335, 1, none⟩) (Kd.R_far (p := ⟨gb335, 0, none⟩) (Kd.R_types (Kd.R_types HO334.out BK335.out (by decide)) BK318.out (by decide)) (fun _ hk => hk.1.2) (.int .u64 t327)) (fun _ hk => hk.1.2) (.int .u64 t328)) (fun _ hk => hk.1.2) (.int .u64 t329)) (fun _ hk => hk.1.2) (.int .u64 t330)) (fun _ hk => hk.1.2) (.int .i64 t331)) (fun _ hk => hk.1.2) (.slice Ao43 t332.length co43)) (fun _ hk => hk.2) (.int .u64 t327)) (fun _ hk => hk.2) (.int .u64 t328)) (fun _ hk => hk.2) (.int .u64 t329)) (fun _ hk => hk.2) (.int .u64 t330)) (fun _ hk => hk.2) (.int .i64 t331)) (fun _ hk => hk.2) (.slice Ao43 t332.length co43)) (fun _ hk => trivial), K3a_ HB GE317 GE318 GE335⟩
 rw [if_pos c5] at H
 have c5b0 : ((t332.length : Int) == 0) = true := beq_iff_eq.mpr c5
 have c5b1 : ((t332.length : Int) != 0) = false := bne_eq_false_iff_eq.mpr c5
 clear c5
 obtain ⟨y336, hy336⟩ : ∃ y_ : List (S107), y_ = (([(⟨(⟨#[98, 48]⟩ : ByteArray), (⟨#[97]⟩ : ByteArray), (⟨#[118]⟩ : ByteArray), false⟩ : S107)] : List (S107))) := ⟨_, rfl⟩
 replace H : (some (t327, t328, t329, t330, t331, y336)) = some (r1, r2, r3, r4, r5, r6) := by first | (rw [hy336]; with_reducible exact H) | (have H2_ := (Option.bind_some _ _).symm.trans H; rw [hy336]; with_reducible exact H2_) | (have H2_ := (Option.bind_some _ _).symm.trans H; with_reducible exact H2_) | with_reducible exact H | (rw [hy336]; exact H) | exact H
 have Ny336 := Aside0.mk hy336
 clear hy336
 simp only [Option.some.injEq, Prod.mk.injEq] at H
 obtain ⟨rfl, rfl, rfl, rfl, rfl, rfl⟩ := H
 go_enter Try.func19, Try.ntmps19
 try go_wp2_with (first | ((with_reducible refine gate_dst (N := 1) rfl ?_); refine Ka_ 1 #[.int .u64 a0_0, .int .u64 a0_1, .int .u64 a0_2, .int .u64 a0_3, .int .i64 a0_4, .bool a0_5, .slice A0_6 l0_6.length c0_6, .bool true] 42 ?_; intro gb317 hg w6 hbox hb; have BK317 := Aside0.mk (hbox); have GW317 := Kw_ HB hg; have GE317 := GW317; replace HB := Ks_ HB hb; clear hb hbox hg) | ((with_reducible refine gate_dst (N := 2) rfl ?_); refine Ka_ 2 #[.int .u64 0, .int .u64 0, .int .u64 0, .int .u64 0, .int .i64 0, .slice none 0 0] 33 ?_; intro gb318 hg w7 hbox hb; have BK318 := Aside0.mk (hbox); have GW318 := Kw_ HB hg; have GE318 := GW318; have NB317_318 := Kl_ BK317 hg; have NB318_317 := Kr_ BK317 hg; replace BK317 := Kb_ BK317 hb; replace HB := Ks_ HB hb; clear hb hbox hg; have hnb8 := NB317_318.out; have hnc8 := NB318_317.out; obtain ⟨hcz9_0, hcz9_1, hcz9_2, hcz9_3, hcz9_4, hcz9_5, hcz9_6, hcz9_7, hfz9_0, hfz9_1, hfz9_2, hfz9_3, hfz9_4, hfz9_5, hfz9_6, hfz9_7⟩ := Ke8_ BK317.out))
 have n0_ : Aside0 ((w7.setCell ⟨gb317, 5, none⟩ (.bool true)).heap[gb317]? = some (.cells #[.int .u64 a0_0, .int .u64 a0_1, .int .u64 a0_2, .int .u64 a0_3, .int .i64 a0_4, .bool true, .slice A0_6 l0_6.length c0_6, .bool true] 42 (0, 0))) := ⟨by refine Kv_ ?_; refine blk_put (cs := #[.int .u64 a0_0, .int .u64 a0_1, .int .u64 a0_2, .int .u64 a0_3, .int .i64 a0_4, .bool a0_5, .slice A0_6 l0_6.length c0_6, .bool true]) ?_ 5 _ rfl; exact Kq_ BK317⟩
 have n1_ : Aside0 ((w7.setCell ⟨gb317, 5, none⟩ (.bool true)).heap[gb318]? = some (.cells #[.int .u64 0, .int .u64 0, .int .u64 0, .int .u64 0, .int .i64 0, .slice none 0 0] 33 (0, 0))) := ⟨by exact K1b_ BK318 NB318_317⟩
 have n2_ : Aside0 (Below w.heap.size w (w7.setCell ⟨gb317, 5, none⟩ (.bool true))) := ⟨K2a_ HB GE317 GE318⟩
 (try clear BK317)
 (try clear BK318)
 (try clear HB)
 generalize (w7.setCell ⟨gb317, 5, none⟩ (.bool true)) = w10 at n0_ n1_ n2_ ⊢
 have BK317 := n0_
 have BK318 := n1_
 have HB := n2_
 clear n0_ n1_ n2_
 replace BK317 := Kd_ BK317
 replace BK318 := Kd_ BK318
 replace HB := Aside0.mk (below_drew1 HB.out)
 refine start_ (n := 9) (S := fun w' => w'.cell? ⟨gb317, 0, none⟩ = some (.int .u64 a0_0) ∧ w'.cell? ⟨gb317, 1, none⟩ = some (.int .u64 a0_1) ∧ w'.cell? ⟨gb317, 2, none⟩ = some (.int .u64 a0_2) ∧ w'.cell? ⟨gb317, 3, none⟩ = some (.int .u64 a0_3) ∧ w'.cell? ⟨gb317, 4, none⟩ = some (.int .i64 a0_4) ∧ w'.cell? ⟨gb317, 5, none⟩ = some (.bool true) ∧ w'.cell? ⟨gb317, 6, none⟩ = some (.slice A0_6 l0_6.length c0_6) ∧ w'.cell? ⟨gb317, 7, none⟩ = some (.bool true)) (ds := []) (mB_ 9 0) (by kernel_rfl) rfl rfl (Kc8_ BK317.out) (fun hHeld => ?_); refine with_tabW tenementlaw15_Deal_deal.tab4 tenementlaw15_Deal_deal.bits4 (fun HT_ HW_ => ?_)
 generalize w10.drew = w11 at BK317 BK318 HB hHeld ⊢
 refine Kp_ 0 16 (mB_ 9 1) (any_of HT_.out (by kernel_rfl)) ?_
 refine Kp_ 3 19 (mB_ 9 9) (any_of HT_.out (by kernel_rfl)) ?_
 refine Ko_ 1 17 (mB_ 9 11) (take_ofW HT_.out HW_.out (by kernel_rfl)) hHeld ?_
 refine Ko_ 4 20 (mB_ 9 27) (take_ofW HT_.out HW_.out (by kernel_rfl)) hHeld ?_
 refine join_ (σ := Value × Nat) 1 (mB_ 9 255) (fun s_ => [(18, .agg #[.int .u64 t327, .int .u64 t328, .int .u64 t329, .int .u64 t330, .int .i64 t331]), (21, s_.1), (3, .pointer (some ⟨s_.2, 0, none⟩)), (22, .agg #[.int .u64 t327, .int .u64 t328, .int .u64 t329, .int .u64 t330, .int .i64 t331, s_.1])]) (fun s_ w' => (w'.cell? ⟨gb317, 0, none⟩ = some (.int .u64 a0_0) ∧ w'.cell? ⟨gb317, 1, none⟩ = some (.int .u64 a0_1) ∧ w'.cell? ⟨gb317, 2, none⟩ = some (.int .u64 a0_2) ∧ w'.cell? ⟨gb317, 3, none⟩ = some (.int .u64 a0_3) ∧ w'.cell? ⟨gb317, 4, none⟩ = some (.int .i64 a0_4) ∧ w'.cell? ⟨gb317, 5, none⟩ = some (.bool true) ∧ w'.cell? ⟨gb317, 6, none⟩ = some (.slice A0_6 l0_6.length c0_6) ∧ w'.cell? ⟨gb317, 7, none⟩ = some (.bool true)) ∧ (Kd.R k107 107 w' w.heap.size (fun _ => True) s_.1 t332) ∧ (w'.heap[gb317]? = some (.cells #[.int .u64 a0_0, .int .u64 a0_1, .int .u64 a0_2, .int .u64 a0_3, .int .i64 a0_4, .bool true, .slice A0_6 l0_6.length c0_6, .bool true] 42 (0, 0))) ∧ (w'.heap[gb318]? = some (.cells #[.int .u64 0, .int .u64 0, .int .u64 0, .int .u64 0, .int .i64 0, .slice none 0 0] 33 (0, 0))) ∧ (w'.heap[s_.2]? = some (.cells #[.int .u64 0, .int .u64 0, .int .u64 0, .int .u64 0, .int .i64 0, .slice none 0 0] 33 (0, 0))) ∧ (w.heap.size ≤ s_.2) ∧ (w.heap.size ≤ s_.2) ∧ (gb317 ≠ s_.2) ∧ (s_.2 ≠ gb317) ∧ (gb318 ≠ s_.2) ∧ (s_.2 ≠ gb318) ∧ (Below w.heap.size w w')) ?_ ?_
 rotate_left
 ·intro hCont
  refine two_ (i := 2) (j := 7) (Ni := some 18) (Nj := some 3) (mB_ 9 31) (mB_ 9 155) rfl rfl rfl rfl (two_of HT_.out (by kernel_rfl)) (by decide) (by decide) (fun K hK => ?_) (fun K hK => ?_)
  ·skip
   refine goes_ Try.func25 (by kernel_rfl) rfl #[.agg #[.int .u64 a0_0, .int .u64 a0_1, .int .u64 a0_2, .int .u64 a0_3, .int .i64 a0_4, .bool true]] (by rfl) rfl rfl (by (try simp only [List.map_toArray, List.map_cons, List.map_nil]); first | done | rfl | (simp only [List.length_drop, List.length_take]; rfl)) ?_
   with_reducible refine (tenementlaw15_Mark_mark.calls k a0_0 a0_1 a0_2 a0_3 a0_4 true t327 t328 t329 t330 t331 _ A3.out).mono ?_
   rintro e w12 ⟨rfl, hb⟩
   refine ⟨_, rfl, ?_⟩
   replace BK317 := Kb_ BK317 hb
   replace BK318 := Kb_ BK318 hb
   replace HB := Ks_ HB hb
   (try clear hb)
   (try clear hb2)
   (try clear hk)
   (try clear hi)
   refine hK.out _ _ (Kc8_ BK317.out) (fun hHeld => ?_)
   clear hK K
   refine Kn_ 18 ?_
   refine two_ (i := 5) (j := 7) (Ni := some 21) (Nj := some 3) (mB_ 9 63) (mB_ 9 159) rfl rfl rfl rfl (two_of HT_.out (by kernel_rfl)) (by decide) (by decide) (fun K hK => ?_) (fun K hK => ?_)
   ·skip
    refine goes_ Try.func58 (by kernel_rfl) rfl #[.slice A0_6 l0_6.length c0_6, .int .i64 8, .bool true] (by rfl) rfl rfl (by (try simp only [List.map_toArray, List.map_cons, List.map_nil]); first | done | rfl | (simp only [List.length_drop, List.length_take]; rfl)) ?_
    with_reducible refine (tenementlaw15_writes.calls k _ _ l0_6 8 true t332 _ ?side1 ?side2 A4.out).mono ?_
    (case side1 => repeat (first | exact (Kd.C_below HR0_6.out HB.out) | (with_reducible refine Kd.C_alloc ?_ _) | (with_reducible refine Kd.C_drewN ?_ _) | (with_reducible refine Kd.C_drew ?_)))
    (case side2 => exact HC0_6.out)
    rintro e w13 ⟨v333, rfl, ho0, hb⟩
    refine ⟨_, rfl, ?_⟩
    have HO334 := Aside0.mk (Kd.R_lower ho0 (below_size (K2a_ HB GE317 GE318)))
    replace BK317 := Kb_ BK317 hb
    replace BK318 := Kb_ BK318 hb
    replace HB := Ks_ HB hb
    (try clear hb)
    (try clear hb2)
    (try clear hk)
    (try clear hi)
    (try clear ho0)
    obtain ⟨Ao14, co14, eo14⟩ := Kd.R_slice HO334.out
    (first | subst eo14 | (injection eo14 with f1_ f2_ f3_; have f4_ := f1_.symm; have f5_ := f3_.symm; clear f1_ f2_ f3_; subst f4_; subst f5_))
    refine hK.out _ _ (Kc8_ BK317.out) (fun hHeld => ?_)
    clear hK K
    refine Kn_ 21 ?_
    refine Kp_ 6 22 (mB_ 9 127) (any_of HT_.out (by kernel_rfl)) ?_
    refine one_ (i := 7) (N := some 3) (mB_ 9 255) rfl rfl (one_of HT_.out (by kernel_rfl)) (by decide) (fun K hK => ?_)
    refine box_step ?hg (N := 3) ?hd (cs := #[.int .u64 0, .int .u64 0, .int .u64 0, .int .u64 0, .int .i64 0, .slice none 0 0]) (t := 33) ?hr ?_; (case hd => rfl); (case hg => rfl); (case hr => first | (go_simp; done) | (go_simp; rfl))
    intro gb335 hg w15 hbox hb
    have BK335 := Aside0.mk (hbox)
    have GW335 := Kw_ HB hg
    have GE335 := GW335
    have NB317_335 := Kl_ BK317 hg
    have NB335_317 := Kr_ BK317 hg
    have NB318_335 := Kl_ BK318 hg
    have NB335_318 := Kr_ BK318 hg
    replace HO334 := Aside0.mk (Kd.R_below (Ku_ HO334) hb)
    replace BK317 := Kb_ BK317 hb
    replace BK318 := Kb_ BK318 hb
    replace HB := Ks_ HB hb
    clear hb hbox hg
    refine hK.out _ _ (Kc8_ BK317.out) (fun hHeld => ?_)
    clear hK K
    refine Kn_ 3 ?_
    exact norm_ (by simp only [putAll, Act.put, List.setIfInBounds_toArray, List.set_cons_zero, List.set_cons_succ]) (hCont (.slice Ao14 t332.length co14, gb335) _ ⟨hHeld, (Ku_ HO334), (Kq_ BK317), (Kq_ BK318), (Kq_ BK335), GW335.out, GE335.out, NB317_335.out, NB335_317.out, NB318_335.out, NB335_318.out, (K3a_ HB GE317 GE318 GE335)⟩)
   ·skip
    refine box_step ?hg (N := 3) ?hd (cs := #[.int .u64 0, .int .u64 0, .int .u64 0, .int .u64 0, .int .i64 0, .slice none 0 0]) (t := 33) ?hr ?_; (case hd => rfl); (case hg => rfl); (case hr => first | (go_simp; done) | (go_simp; rfl))
    intro gb335 hg w13 hbox hb
    have BK335 := Aside0.mk (hbox)
    have GW335 := Kw_ HB hg
    have GE335 := GW335
    have NB317_335 := Kl_ BK317 hg
    have NB335_317 := Kr_ BK317 hg
    have NB318_335 := Kl_ BK318 hg
    have NB335_318 := Kr_ BK318 hg
    replace BK317 := Kb_ BK317 hb
    replace BK318 := Kb_ BK318 hb
    replace HB := Ks_ HB hb
    clear hb hbox hg
    refine hK.out _ _ (Kc8_ BK317.out) (fun hHeld => ?_)
    clear hK K
    refine Kn_ 3 ?_
    refine one_ (i := 5) (N := some 21) (mB_ 9 191) rfl rfl (one_of HT_.out (by kernel_rfl)) (by decide) (fun K hK => ?_)
    refine goes_ Try.func58 (by kernel_rfl) rfl #[.slice A0_6 l0_6.length c0_6, .int .i64 8, .bool true] (by rfl) rfl rfl (by (try simp only [List.map_toArray, List.map_cons, List.map_nil]); first | done | rfl | (simp only [List.length_drop, List.length_take]; rfl)) ?_
    with_reducible refine (tenementlaw15_writes.calls k _ _ l0_6 8 true t332 _ ?side1 ?side2 A4.out).mono ?_
    (case side1 => repeat (first | exact (Kd.C_below HR0_6.out HB.out) | (with_reducible refine Kd.C_alloc ?_ _) | (with_reducible refine Kd.C_drewN ?_ _) | (with_reducible refine Kd.C_drew ?_)))
    (case side2 => exact HC0_6.out)
    rintro e w14 ⟨v333, rfl, ho0, hb⟩
    refine ⟨_, rfl, ?_⟩
    have HO334 := Aside0.mk (Kd.R_lower ho0 (below_size (K3a_ HB GE317 GE318 GE335)))
    replace BK317 := Kb_ BK317 hb
    replace BK318 := Kb_ BK318 hb
    replace BK335 := Kb_ BK335 hb
    replace HB := Ks_ HB hb
    (try clear hb)
    (try clear hb2)
    (try clear hk)
    (try clear hi)
    (try clear ho0)
    obtain ⟨Ao15, co15, eo15⟩ := Kd.R_slice HO334.out
    (first | subst eo15 | (injection eo15 with f1_ f2_ f3_; have f4_ := f1_.symm; have f5_ := f3_.symm; clear f1_ f2_ f3_; subst f4_; subst f5_))
    refine hK.out _ _ (Kc8_ BK317.out) (fun hHeld => ?_)
    clear hK K
    refine Kn_ 21 ?_
    refine Kp_ 6 22 (mB_ 9 255) (any_of HT_.out (by kernel_rfl)) ?_
    exact norm_ (by simp only [putAll, Act.put, List.setIfInBounds_toArray, List.set_cons_zero, List.set_cons_succ]) (hCont (.slice Ao15 t332.length co15, gb335) _ ⟨hHeld, (Ku_ HO334), (Kq_ BK317), (Kq_ BK318), (Kq_ BK335), GW335.out, GE335.out, NB317_335.out, NB335_317.out, NB318_335.out, NB335_318.out, (K3a_ HB GE317 GE318 GE335)⟩)
  ·skip
   refine box_step ?hg (N := 3) ?hd (cs := #[.int .u64 0, .int .u64 0, .int .u64 0, .int .u64 0, .int .i64 0, .slice none 0 0]) (t := 33) ?hr ?_; (case hd => rfl); (case hg => rfl); (case hr => first | (go_simp; done) | (go_simp; rfl))
   intro gb335 hg w12 hbox hb
   have BK335 := Aside0.mk (hbox)
   have GW335 := Kw_ HB hg
   have GE335 := GW335
   have NB317_335 := Kl_ BK317 hg
   have NB335_317 := Kr_ BK317 hg
   have NB318_335 := Kl_ BK318 hg
   have NB335_318 := Kr_ BK318 hg
   replace BK317 := Kb_ BK317 hb
   replace BK318 := Kb_ BK318 hb
   replace HB := Ks_ HB hb
   clear hb hbox hg
   refine hK.out _ _ (Kc8_ BK317.out) (fun hHeld => ?_)
   clear hK K
   refine Kn_ 3 ?_
   refine one_ (i := 2) (N := some 18) (mB_ 9 159) rfl rfl (one_of HT_.out (by kernel_rfl)) (by decide) (fun K hK => ?_)
   refine goes_ Try.func25 (by kernel_rfl) rfl #[.agg #[.int .u64 a0_0, .int .u64 a0_1, .int .u64 a0_2, .int .u64 a0_3, .int .i64 a0_4, .bool true]] (by rfl) rfl rfl (by (try simp only [List.map_toArray, List.map_cons, List.map_nil]); first | done | rfl | (simp only [List.length_drop, List.length_take]; rfl)) ?_
   with_reducible refine (tenementlaw15_Mark_mark.calls k a0_0 a0_1 a0_2 a0_3 a0_4 true t327 t328 t329 t330 t331 _ A3.out).mono ?_
   rintro e w13 ⟨rfl, hb⟩
   refine ⟨_, rfl, ?_⟩
   replace BK317 := Kb_ BK317 hb
   replace BK318 := Kb_ BK318 hb
   replace BK335 := Kb_ BK335 hb
   replace HB := Ks_ HB hb
   (try clear hb)
   (try clear hb2)
   (try clear hk)
   (try clear hi)
   refine hK.out _ _ (Kc8_ BK317.out) (fun hHeld => ?_)
   clear hK K
   refine Kn_ 18 ?_
   refine one_ (i := 5) (N := some 21) (mB_ 9 191) rfl rfl (one_of HT_.out (by kernel_rfl)) (by decide) (fun K hK => ?_)
   refine goes_ Try.func58 (by kernel_rfl) rfl #[.slice A0_6 l0_6.length c0_6, .int .i64 8, .bool true] (by rfl) rfl rfl (by (try simp only [List.map_toArray, List.map_cons, List.map_nil]); first | done | rfl | (simp only [List.length_drop, List.length_take]; rfl)) ?_
   with_reducible refine (tenementlaw15_writes.calls k _ _ l0_6 8 true t332 _ ?side1 ?side2 A4.out).mono ?_
   (case side1 => repeat (first | exact (Kd.C_below HR0_6.out HB.out) | (with_reducible refine Kd.C_alloc ?_ _) | (with_reducible refine Kd.C_drewN ?_ _) | (with_reducible refine Kd.C_drew ?_)))
   (case side2 => exact HC0_6.out)
   rintro e w14 ⟨v333, rfl, ho0, hb⟩
   refine ⟨_, rfl, ?_⟩
   have HO334 := Aside0.mk (Kd.R_lower ho0 (below_size (K3a_ HB GE317 GE318 GE335)))
   replace BK317 := Kb_ BK317 hb
   replace BK318 := Kb_ BK318 hb
   replace BK335 := Kb_ BK335 hb
   replace HB := Ks_ HB hb
   (try clear hb)
   (try clear hb2)
   (try clear hk)
   (try clear hi)
   (try clear ho0)
   obtain ⟨Ao15, co15, eo15⟩ := Kd.R_slice HO334.out
   (first | subst eo15 | (injection eo15 with f1_ f2_ f3_; have f4_ := f1_.symm; have f5_ := f3_.symm; clear f1_ f2_ f3_; subst f4_; subst f5_))
   refine hK.out _ _ (Kc8_ BK317.out) (fun hHeld => ?_)
   clear hK K
   refine Kn_ 21 ?_
   refine Kp_ 6 22 (mB_ 9 255) (any_of HT_.out (by kernel_rfl)) ?_
   exact norm_ (by simp only [putAll, Act.put, List.setIfInBounds_toArray, List.set_cons_zero, List.set_cons_succ]) (hCont (.slice Ao15 t332.length co15, gb335) _ ⟨hHeld, (Ku_ HO334), (Kq_ BK317), (Kq_ BK318), (Kq_ BK335), GW335.out, GE335.out, NB317_335.out, NB335_317.out, NB318_335.out, NB335_318.out, (K3a_ HB GE317 GE318 GE335)⟩)
 rintro ⟨v333, gb335⟩ w16 ⟨hS_, h0_, h1_, h2_, h3_, h4_, h5_, h6_, h7_, h8_, h9_, h10_⟩
 have n0_ : Aside0 (Kd.R k107 107 w16 w.heap.size (fun _ => True) v333 t332) := ⟨h0_⟩
 have n1_ : Aside0 (w16.heap[gb317]? = some (.cells #[.int .u64 a0_0, .int .u64 a0_1, .int .u64 a0_2, .int .u64 a0_3, .int .i64 a0_4, .bool true, .slice A0_6 l0_6.length c0_6, .bool true] 42 (0, 0))) := ⟨h1_⟩
 have n2_ : Aside0 (w16.heap[gb318]? = some (.cells #[.int .u64 0, .int .u64 0, .int .u64 0, .int .u64 0, .int .i64 0, .slice none 0 0] 33 (0, 0))) := ⟨h2_⟩
 have n3_ : Aside0 (w16.heap[gb335]? = some (.cells #[.int .u64 0, .int .u64 0, .int .u64 0, .int .u64 0, .int .i64 0, .slice none 0 0] 33 (0, 0))) := ⟨h3_⟩
 have n4_ : Aside0 (w.heap.size ≤ gb335) := ⟨h4_⟩
 have n5_ : Aside0 (w.heap.size ≤ gb335) := ⟨h5_⟩
 have n6_ : Aside0 (gb317 ≠ gb335) := ⟨h6_⟩
 have n7_ : Aside0 (gb335 ≠ gb317) := ⟨h7_⟩
 have n8_ : Aside0 (gb318 ≠ gb335) := ⟨h8_⟩
 have n9_ : Aside0 (gb335 ≠ gb318) := ⟨h9_⟩
 have n10_ : Aside0 (Below w.heap.size w w16) := ⟨h10_⟩
 clear BK317
 clear BK318
 clear HB
 clear h0_ h1_ h2_ h3_ h4_ h5_ h6_ h7_ h8_ h9_ h10_
 have HO334 := n0_
 have BK317 := n1_
 have BK318 := n2_
 have BK335 := n3_
 have GW335 := n4_
 have GE335 := n5_
 have NB317_335 := n6_
 have NB335_317 := n7_
 have NB318_335 := n8_
 have NB335_318 := n9_
 have HB := n10_
 clear n0_ n1_ n2_ n3_ n4_ n5_ n6_ n7_ n8_ n9_ n10_
 have hHeld : w16.cell? ⟨gb317, 0, none⟩ = some (.int .u64 a0_0) ∧ w16.cell? ⟨gb317, 1, none⟩ = some (.int .u64 a0_1) ∧ w16.cell? ⟨gb317, 2, none⟩ = some (.int .u64 a0_2) ∧ w16.cell? ⟨gb317, 3, none⟩ = some (.int .u64 a0_3) ∧ w16.cell? ⟨gb317, 4, none⟩ = some (.int .i64 a0_4) ∧ w16.cell? ⟨gb317, 5, none⟩ = some (.bool true) ∧ w16.cell? ⟨gb317, 6, none⟩ = some (.slice A0_6 l0_6.length c0_6) ∧ w16.cell? ⟨gb317, 7, none⟩ = some (.bool true) := hS_
 obtain ⟨Ao17, co17, eo17⟩ := Kd.R_slice HO334.out
 (first | subst eo17 | (injection eo17 with f1_ f2_ f3_; have f4_ := f1_.symm; have f5_ := f3_.symm; clear f1_ f2_ f3_; subst f4_; subst f5_))
 refine norm_ (a' := ?_) ?_ ?_
 rotate_left
 ·simp only [putAll, Act.put, List.setIfInBounds_toArray, List.set_cons_zero, List.set_cons_succ]
  rfl
 refine one_ (i := 8) (N := none) (mB_ 9 511) rfl rfl (one_of HT_.out (by kernel_rfl)) (by decide) (fun K hK => ?_)
 have hs18 : w16.cell? ⟨gb335, 0, none⟩ = some (.int .u64 0) := (blk_cell BK335.out 0).trans rfl
 have hfs18 := blk_frozen BK335.out 0
 have hns18_0 := NB317_335.out
 have hns18_1 := NB318_335.out
 have hms18_0 := NB335_317.out
 have hms18_1 := NB335_318.out
 have hs19 : w16.cell? ⟨gb335, 1, none⟩ = some (.int .u64 0) := (blk_cell BK335.out 1).trans rfl
 have hfs19 := blk_frozen BK335.out 1
 have hns19_0 := NB317_335.out
 have hns19_1 := NB318_335.out
 have hms19_0 := NB335_317.out
 have hms19_1 := NB335_318.out
 have hs20 : w16.cell? ⟨gb335, 2, none⟩ = some (.int .u64 0) := (blk_cell BK335.out 2).trans rfl
 have hfs20 := blk_frozen BK335.out 2
 have hns20_0 := NB317_335.out
 have hns20_1 := NB318_335.out
 have hms20_0 := NB335_317.out
 have hms20_1 := NB335_318.out
 have hs21 : w16.cell? ⟨gb335, 3, none⟩ = some (.int .u64 0) := (blk_cell BK335.out 3).trans rfl
 have hfs21 := blk_frozen BK335.out 3
 have hns21_0 := NB317_335.out
 have hns21_1 := NB318_335.out
 have hms21_0 := NB335_317.out
 have hms21_1 := NB335_318.out
 have hs22 : w16.cell? ⟨gb335, 4, none⟩ = some (.int .i64 0) := (blk_cell BK335.out 4).trans rfl
 have hfs22 := blk_frozen BK335.out 4
 have hns22_0 := NB317_335.out
 have hns22_1 := NB318_335.out
 have hms22_0 := NB335_317.out
 have hms22_1 := NB335_318.out
 have hs23 : w16.cell? ⟨gb335, 5, none⟩ = some (.slice none 0 0) := (blk_cell BK335.out 5).trans rfl
 have hfs23 := blk_frozen BK335.out 5
 have hns23_0 := NB317_335.out
 have hns23_1 := NB318_335.out
 have hms23_0 := NB335_317.out
 have hms23_1 := NB335_318.out
 refine skip_ (w1 := ?_) (by rfl) rfl ?_ ?_
 rotate_left
 ·go_simp
  rfl
 refine hK.out _ _ ⟨(Kj_ NB317_335 ((Kj_ NB317_335 ((Kj_ NB317_335 ((Kj_ NB317_335 ((Kj_ NB317_335 ((Kj_ NB317_335 (hHeld.1)))))))))))), (Kj_ NB317_335 ((Kj_ NB317_335 ((Kj_ NB317_335 ((Kj_ NB317_335 ((Kj_ NB317_335 ((Kj_ NB317_335 (hHeld.2.1)))))))))))), (Kj_ NB317_335 ((Kj_ NB317_335 ((Kj_ NB317_335 ((Kj_ NB317_335 ((Kj_ NB317_335 ((Kj_ NB317_335 (hHeld.2.2.1)))))))))))), (Kj_ NB317_335 ((Kj_ NB317_335 ((Kj_ NB317_335 ((Kj_ NB317_335 ((Kj_ NB317_335 ((Kj_ NB317_335 (hHeld.2.2.2.1)))))))))))), (Kj_ NB317_335 ((Kj_ NB317_335 ((Kj_ NB317_335 ((Kj_ NB317_335 ((Kj_ NB317_335 ((Kj_ NB317_335 (hHeld.2.2.2.2.1)))))))))))), (Kj_ NB317_335 ((Kj_ NB317_335 ((Kj_ NB317_335 ((Kj_ NB317_335 ((Kj_ NB317_335 ((Kj_ NB317_335 (hHeld.2.2.2.2.2.1)))))))))))), (Kj_ NB317_335 ((Kj_ NB317_335 ((Kj_ NB317_335 ((Kj_ NB317_335 ((Kj_ NB317_335 ((Kj_ NB317_335 (hHeld.2.2.2.2.2.2.1)))))))))))), (Kj_ NB317_335 ((Kj_ NB317_335 ((Kj_ NB317_335 ((Kj_ NB317_335 ((Kj_ NB317_335 ((Kj_ NB317_335 (hHeld.2.2.2.2.2.2.2))))))))))))⟩ (fun hHeld => ?_)
 clear hK K
 refine done_ (done_of HT_.out (by kernel_rfl)) ?_
 have hnb24 := NB335_317.out
 have hnc24 := NB317_335.out
 have hnb25 := NB335_318.out
 have hnc25 := NB318_335.out
 obtain ⟨hcz26_0, hcz26_1, hcz26_2, hcz26_3, hcz26_4, hcz26_5, hfz26_0, hfz26_1, hfz26_2, hfz26_3, hfz26_4, hfz26_5⟩ := Ke6_ BK335.out
 try go_wp2_with (first | ((with_reducible refine gate_dst (N := 28) rfl ?_); refine Kd.R_lit k107 _ 107 ?hg (N := 28) ?hd (xs := ([(⟨(⟨#[98, 48]⟩ : ByteArray), (⟨#[97]⟩ : ByteArray), (⟨#[118]⟩ : ByteArray), false⟩ : S107)] : List (S107))) (inner := [.string (⟨#[98, 48]⟩ : ByteArray), .string (⟨#[97]⟩ : ByteArray), .string (⟨#[118]⟩ : ByteArray), .bool false]) (ok := fun _ => True) (okp := fun _ => True) ?hr ?hp (fun _ hk => hk) trivial (Below.refl _ _) (Nat.le_refl _) (by simp) ?_; (case hd => rfl); (case hg => rfl); (case hr => first | (go_simp; done) | (go_simp; rfl)); (case hp => exact (Reps.c4 (show Kd.M k107 _ _ _ (⟨(⟨#[98, 48]⟩ : ByteArray), (⟨#[97]⟩ : ByteArray), (⟨#[118]⟩ : ByteArray), false⟩ : S107) [.string (⟨#[98, 48]⟩ : ByteArray), .string (⟨#[97]⟩ : ByteArray), .string (⟨#[118]⟩ : ByteArray), .bool false] from (k107_mkM _ _ _ (⟨(⟨#[98, 48]⟩ : ByteArray), (⟨#[97]⟩ : ByteArray), (⟨#[118]⟩ : ByteArray), false⟩ : S107) )) (Reps.none _ _))); intro v337 w27 ho28 hb hg_ hnew_; clear hg_ hnew_; (first | rw [← Ny336.out] at ho28 | (simp only [Int.reduceToNat] at ho28; rw [← Ny336.out] at ho28)); have HO338 := Aside0.mk (Kd.R_lower (Kd.R_new' ho28 (Kd.R_lt (by (with_reducible repeat (first | apply Kd.R_alloc | apply Kd.R_drewN | apply Kd.R_drew)); exact (Kd.R_mono (Kd.R_far (p := ⟨gb335, 5, none⟩) (Kd.R_far (p := ⟨gb335, 4, none⟩) (Kd.R_far (p := ⟨gb335, 3, none⟩) (Kd.R_far (p := ⟨gb335, 2, none⟩) (Kd.R_far (p := ⟨gb335, 1, none⟩) (Kd.R_far (p := ⟨gb335, 0, none⟩) (Kd.R_types HO334.out BK335.out (by decide)) (fun _ hk => hk.2) (.int .u64 t327)) (fun _ hk => hk.2) (.int .u64 t328)) (fun _ hk => hk.2) (.int .u64 t329)) (fun _ hk => hk.2) (.int .u64 t330)) (fun _ hk => hk.2) (.int .i64 t331)) (fun _ hk => hk.2) (.slice Ao17 t332.length co17)) (fun _ h_ => h_.1))))) (below_size (K3a_ HB GE317 GE318 GE335))); replace HO334 := Aside0.mk (Kd.R_elder' (by (with_reducible repeat (first | apply Kd.R_alloc | apply Kd.R_drewN | apply Kd.R_drew)); exact (Kd.R_mono (Kd.R_far (p := ⟨gb335, 5, none⟩) (Kd.R_far (p := ⟨gb335, 4, none⟩) (Kd.R_far (p := ⟨gb335, 3, none⟩) (Kd.R_far (p := ⟨gb335, 2, none⟩) (Kd.R_far (p := ⟨gb335, 1, none⟩) (Kd.R_far (p := ⟨gb335, 0, none⟩) (Kd.R_types HO334.out BK335.out (by decide)) (fun _ hk => hk.2) (.int .u64 t327)) (fun _ hk => hk.2) (.int .u64 t328)) (fun _ hk => hk.2) (.int .u64 t329)) (fun _ hk => hk.2) (.int .u64 t330)) (fun _ hk => hk.2) (.int .i64 t331)) (fun _ hk => hk.2) (.slice Ao17 t332.length co17)) (fun _ h_ => h_.1))) (Kd.R_base ho28) hb); replace BK317 := Kf_ BK317 NB317_335 hb; replace BK318 := Kf_ BK318 NB318_335 hb; replace BK335 := Aside0.mk (blk_below (g := gb335) (o := .cells #[.int .u64 t327, .int .u64 t328, .int .u64 t329, .int .u64 t330, .int .i64 t331, .slice Ao17 t332.length co17] 33 (0, 0)) (by refine Kv_ ?_; refine blk_put (cs := #[.int .u64 t327, .int .u64 t328, .int .u64 t329, .int .u64 t330, .int .i64 t331, .slice none 0 0]) ?_ 5 _ rfl; refine Kv_ ?_; refine blk_put (cs := #[.int .u64 t327, .int .u64 t328, .int .u64 t329, .int .u64 t330, .int .i64 0, .slice none 0 0]) ?_ 4 _ rfl; refine Kv_ ?_; refine blk_put (cs := #[.int .u64 t327, .int .u64 t328, .int .u64 t329, .int .u64 0, .int .i64 0, .slice none 0 0]) ?_ 3 _ rfl; refine Kv_ ?_; refine blk_put (cs := #[.int .u64 t327, .int .u64 t328, .int .u64 0, .int .u64 0, .int .i64 0, .slice none 0 0]) ?_ 2 _ rfl; refine Kv_ ?_; refine blk_put (cs := #[.int .u64 t327, .int .u64 0, .int .u64 0, .int .u64 0, .int .i64 0, .slice none 0 0]) ?_ 1 _ rfl; refine Kv_ ?_; refine blk_put (cs := #[.int .u64 0, .int .u64 0, .int .u64 0, .int .u64 0, .int .i64 0, .slice none 0 0]) ?_ 0 _ rfl; exact Kq_ BK335) hb); replace HB := Kt_ HB GE335 hb; clear hb ho28; obtain ⟨Ao29, co29, eo29⟩ := Kd.R_slice HO338.out; subst eo29; obtain ⟨hcz30_0, hcz30_1, hcz30_2, hcz30_3, hcz30_4, hcz30_5, hfz30_0, hfz30_1, hfz30_2, hfz30_3, hfz30_4, hfz30_5⟩ := Ke6_ BK335.out; obtain ⟨hcz31_0, hcz31_1, hcz31_2, hcz31_3, hcz31_4, hcz31_5, hfz31_0, hfz31_1, hfz31_2, hfz31_3, hfz31_4, hfz31_5⟩ := Ke6_ BK318.out))
 refine bodyPost_ret (results_cell_row rfl _ _ gb318 33 #[.int .u64 t327, .int .u64 t328, .int .u64 t329, .int .u64 t330, .int .i64 t331, .slice Ao29 y336.length co29] (0, 0) _ rfl (by refine Kv_ ?_; refine blk_put (cs := #[.int .u64 t327, .int .u64 t328, .int .u64 t329, .int .u64 t330, .int .i64 t331, .slice none 0 0]) ?_ 5 _ rfl; refine Kv_ ?_; refine blk_put (cs := #[.int .u64 t327, .int .u64 t328, .int .u64 t329, .int .u64 t330, .int .i64 0, .slice none 0 0]) ?_ 4 _ rfl; refine Kv_ ?_; refine blk_put (cs := #[.int .u64 t327, .int .u64 t328, .int .u64 t329, .int .u64 0, .int .i64 0, .slice none 0 0]) ?_ 3 _ rfl; refine Kv_ ?_; refine blk_put (cs := #[.int .u64 t327, .int .u64 t328, .int .u64 0, .int .u64 0, .int .i64 0, .slice none 0 0]) ?_ 2 _ rfl; refine Kv_ ?_; refine blk_put (cs := #[.int .u64 t327, .int .u64 0, .int .u64 0, .int .u64 0, .int .i64 0, .slice none 0 0]) ?_ 1 _ rfl; refine Kv_ ?_; refine blk_put (cs := #[.int .u64 0, .int .u64 0, .int .u64 0, .int .u64 0, .int .i64 0, .slice none 0 0]) ?_ 0 _ rfl; exact K1b_ BK318 NB318_335) Try.underlying33 rfl (by kernel_rfl)) rfl ?_
 exact ⟨_, by first | rfl | (simp [errW_none, errW_some] <;> rfl) | (simp [*, errW_none, errW_some] <;> rfl), by (with_reducible repeat (first | apply Kd.R_alloc | apply Kd.R_drewN | apply Kd.R_drew)); exact Kd.R_mono (Kd.R_far (p := ⟨gb318, 5, none⟩) (Kd.R_far (p := ⟨gb318, 4, none⟩) (Kd.R_far (p := ⟨gb318, 3, none⟩) (Kd.R_far (p := ⟨gb318, 2, none⟩) (Kd.R_far (p := ⟨gb318, 1, none⟩) (Kd.R_far (p := ⟨gb318, 0, none⟩) (Kd.R_far (p := ⟨gb335, 5, none⟩) (Kd.R_types (Kd.R_types HO338.out BK335.out (by decide)) BK318.out (by decide)) (fun _ hk => hk.1.2) (.slice Ao29 y336.length co29)) (fun _ hk => hk.2) (.int .u64 t327)) (fun _ hk => hk.2) (.int .u64 t328)) (fun _ hk => hk.2) (.int .u64 t329)) (fun _ hk => hk.2) (.int .u64 t330)) (fun _ hk => hk.2) (.int .i64 t331)) (fun _ hk => hk.2) (.slice Ao29 y336.length co29)) (fun _ hk => trivial), K3a_ HB GE317 GE318 GE335⟩
end Go.Proofs.Ytoagfdpgnfinhaa.Q
