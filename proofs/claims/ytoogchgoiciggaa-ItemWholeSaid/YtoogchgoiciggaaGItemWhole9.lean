import Derived.Test.YtoogchgoiciggaaGItemWhole2
import Derived.Test.YtoogchgoiciggaaGItemWhole5
namespace Go.Proofs.Ytoogchgoiciggaa.Q
open Go.RowKit Go.Proofs.YtoogchgoiciggaaW.PrintWords Go.Proofs.YtoogchgoiciggaaW.PrintLast Go.Proofs.YtoogchgoiciggaaW.PrintMore
attribute [local go_sem] max2_int min2_int max_two min_two max_three min_three max_four min_four   -- for this text's walks alone
set_option linter.unusedVariables false
set_option linter.unusedSimpArgs false
def tenementlaw08_Deal_deal.f (k : Nat) (a0_0 : Int) (a0_1 : Int) (a0_2 : Int) (a0_3 : Int) (a0_4 : Int) (a0_5 : Bool) (l0_6 : List (S25)) (a0_7 : Bool) : Option (Int × Int × Int × Int × Int × (List (S23))) := if a0_7 = true then ((tenementlaw08_Mark_mark.f k a0_0 a0_1 a0_2 a0_3 a0_4 true).bind fun bt285 => ((tenementlaw08_writes.f k l0_6 8 true).bind fun t290 => (if (t290.length : Int) = 0 then (some (bt285.1, bt285.2.1, bt285.2.2.1, bt285.2.2.2.1, bt285.2.2.2.2, (([(⟨(⟨#[98, 48]⟩ : ByteArray), (⟨#[97]⟩ : ByteArray), (⟨#[118]⟩ : ByteArray), false⟩ : S23)] : List (S23))))) else (some (bt285.1, bt285.2.1, bt285.2.2.1, bt285.2.2.2.1, bt285.2.2.2.2, t290))))) else ((tenementlaw08_Mark_mark.f k a0_0 a0_1 a0_2 a0_3 a0_4 a0_5).bind fun bt277 => ((tenementlaw08_writes.f k l0_6 10 false).bind fun t282 => (some (bt277.1, bt277.2.1, bt277.2.2.1, bt277.2.2.2.1, bt277.2.2.2.2, t282))))
def tenementlaw08_Deal_deal.T2 : Bool × List (List Nat × List Nat) := (true, [([], []), ([0], [0]), ([1], [1]), ([], []), ([3], [3]), ([4, 2], [4]), ([2, 5], [2, 5]), ([6, 5, 0, 1, 2, 3, 4, 5, 6], [6])])
def tenementlaw08_Deal_deal.B2 : List Nat := [0, 1, 3, 0, 8, 31, 63, 127]
theorem tenementlaw08_Deal_deal.tab2 : rtab .any (opsOf Try.f14 2) = tenementlaw08_Deal_deal.T2 := by kernel_rfl
theorem tenementlaw08_Deal_deal.bits2 : waitsOk tenementlaw08_Deal_deal.T2.2 tenementlaw08_Deal_deal.B2 = true := by kernel_rfl
def tenementlaw08_Deal_deal.T4 : Bool × List (List Nat × List Nat) := (true, [([], []), ([0], [0]), ([1], [1]), ([], []), ([3], [3]), ([4, 2], [4]), ([2, 5], [2, 5]), ([], []), ([7, 6, 5, 0, 1, 2, 3, 4, 5, 6, 7], [6, 7])])
def tenementlaw08_Deal_deal.B4 : List Nat := [0, 1, 3, 0, 8, 31, 63, 0, 255]
theorem tenementlaw08_Deal_deal.tab4 : rtab .any (opsOf Try.f14 4) = tenementlaw08_Deal_deal.T4 := by kernel_rfl
theorem tenementlaw08_Deal_deal.bits4 : waitsOk tenementlaw08_Deal_deal.T4.2 tenementlaw08_Deal_deal.B4 = true := by kernel_rfl
set_option maxHeartbeats 8000000 in
set_option maxRecDepth 100000 in
theorem tenementlaw08_Deal_deal.calls (k : Nat) (a0_0 : Int) (a0_1 : Int) (a0_2 : Int) (a0_3 : Int) (a0_4 : Int) (a0_5 : Bool) (A0_6 : Option Addr) (c0_6 : Nat) (l0_6 : List (S25)) (a0_7 : Bool) (r1 : Int) (r2 : Int) (r3 : Int) (r4 : Int) (r5 : Int) (r6 : List (S23)) (w : World) (hr0_6 : Kd.C k25 w A0_6 l0_6.length l0_6) (hc0_6 : l0_6.length ≤ c0_6) (h : tenementlaw08_Deal_deal.f k a0_0 a0_1 a0_2 a0_3 a0_4 a0_5 l0_6 a0_7 = some (r1, r2, r3, r4, r5, r6)) :
  Calls Try.prog 14 #[.agg #[.int .u64 a0_0, .int .u64 a0_1, .int .u64 a0_2, .int .u64 a0_3, .int .i64 a0_4, .bool a0_5, .slice A0_6 l0_6.length c0_6, .bool a0_7]] w fun e w' => ∃ v5_ : Value, e = .returned (.agg #[.int .u64 r1, .int .u64 r2, .int .u64 r3, .int .u64 r4, .int .i64 r5, v5_]) ∧ Kd.R k23 23 w' w.heap.size (fun _ => True) v5_ r6 ∧ Below w.heap.size w w' := by
 have hu35 := Try.underlying35
 have hu43 := Try.underlying43
 have hu32 := Try.underlying32
 have hu23 := Try.underlying23
 have HR0_6 := Aside0.mk hr0_6
 have HC0_6 := Aside0.mk hc0_6
 clear hr0_6 hc0_6
 have HB := Aside0.mk (Below.refl w.heap.size w)
 have H : (if a0_7 = true then ((tenementlaw08_Mark_mark.f k a0_0 a0_1 a0_2 a0_3 a0_4 true).bind fun bt285 => ((tenementlaw08_writes.f k l0_6 8 true).bind fun t290 => (if (t290.length : Int) = 0 then (some (bt285.1, bt285.2.1, bt285.2.2.1, bt285.2.2.2.1, bt285.2.2.2.2, (([(⟨(⟨#[98, 48]⟩ : ByteArray), (⟨#[97]⟩ : ByteArray), (⟨#[118]⟩ : ByteArray), false⟩ : S23)] : List (S23))))) else (some (bt285.1, bt285.2.1, bt285.2.2.1, bt285.2.2.2.1, bt285.2.2.2.2, t290))))) else ((tenementlaw08_Mark_mark.f k a0_0 a0_1 a0_2 a0_3 a0_4 a0_5).bind fun bt277 => ((tenementlaw08_writes.f k l0_6 10 false).bind fun t282 => (some (bt277.1, bt277.2.1, bt277.2.2.1, bt277.2.2.2.1, bt277.2.2.2.2, t282))))) = some (r1, r2, r3, r4, r5, r6) := h
 clear h
 by_cases c2 : a0_7 = true
 rotate_left
 ·replace c2 := Bool.eq_false_iff.mpr c2
  subst c2
  have H1 : ((tenementlaw08_Mark_mark.f k a0_0 a0_1 a0_2 a0_3 a0_4 a0_5).bind fun bt277 => ((tenementlaw08_writes.f k l0_6 10 false).bind fun t282 => (some (bt277.1, bt277.2.1, bt277.2.2.1, bt277.2.2.2.1, bt277.2.2.2.2, t282)))) = some (r1, r2, r3, r4, r5, r6) := by rw [if_neg (show ¬ (false = true) by decide)] at H; exact H
  clear H
  have H := H1
  clear H1
  replace H := Option.bind_eq_some_iff.mp H
  obtain ⟨⟨t277, t278, t279, t280, t281⟩, A540, H⟩ := H
  replace H : ((tenementlaw08_writes.f k l0_6 10 false).bind fun t282 => (some (t277, t278, t279, t280, t281, t282))) = some (r1, r2, r3, r4, r5, r6) := H
  have A54 := Aside0.mk A540
  clear A540
  replace H := Option.bind_eq_some_iff.mp H
  obtain ⟨t282, A550, H⟩ := H
  replace H : (some (t277, t278, t279, t280, t281, t282)) = some (r1, r2, r3, r4, r5, r6) := H
  have A55 := Aside0.mk A550
  clear A550
  simp only [Option.some.injEq, Prod.mk.injEq] at H
  obtain ⟨rfl, rfl, rfl, rfl, rfl, rfl⟩ := H
  go_enter Try.func14, Try.ntmps14
  try go_wp2_with (first | ((with_reducible refine gate_dst (N := 1) rfl ?_); refine Ka_ 1 #[.int .u64 a0_0, .int .u64 a0_1, .int .u64 a0_2, .int .u64 a0_3, .int .i64 a0_4, .bool a0_5, .slice A0_6 l0_6.length c0_6, .bool false] 35 ?_; intro gb275 hg w56 hbox hb; have BK275 := Aside0.mk (hbox); have GW275 := Kw_ HB hg; have GE275 := GW275; replace HB := Ks_ HB hb; clear hb hbox hg) | ((with_reducible refine gate_dst (N := 2) rfl ?_); refine Ka_ 2 #[.int .u64 0, .int .u64 0, .int .u64 0, .int .u64 0, .int .i64 0, .slice none 0 0] 43 ?_; intro gb276 hg w57 hbox hb; have BK276 := Aside0.mk (hbox); have GW276 := Kw_ HB hg; have GE276 := GW276; have NB275_276 := Kl_ BK275 hg; have NB276_275 := Kr_ BK275 hg; replace BK275 := Kb_ BK275 hb; replace HB := Ks_ HB hb; clear hb hbox hg; have hnb58 := NB275_276.out; have hnc58 := NB276_275.out; obtain ⟨hcz59_0, hcz59_1, hcz59_2, hcz59_3, hcz59_4, hcz59_5, hcz59_6, hcz59_7, hfz59_0, hfz59_1, hfz59_2, hfz59_3, hfz59_4, hfz59_5, hfz59_6, hfz59_7⟩ := Ke8_ BK275.out))
  replace BK275 := Kd_ BK275
  replace BK276 := Kd_ BK276
  replace HB := Aside0.mk (below_drew1 HB.out)
  refine start_ (n := 8) (S := fun w' => w'.cell? ⟨gb275, 0, none⟩ = some (.int .u64 a0_0) ∧ w'.cell? ⟨gb275, 1, none⟩ = some (.int .u64 a0_1) ∧ w'.cell? ⟨gb275, 2, none⟩ = some (.int .u64 a0_2) ∧ w'.cell? ⟨gb275, 3, none⟩ = some (.int .u64 a0_3) ∧ w'.cell? ⟨gb275, 4, none⟩ = some (.int .i64 a0_4) ∧ w'.cell? ⟨gb275, 5, none⟩ = some (.bool a0_5) ∧ w'.cell? ⟨gb275, 6, none⟩ = some (.slice A0_6 l0_6.length c0_6) ∧ w'.cell? ⟨gb275, 7, none⟩ = some (.bool false)) (ds := []) (mB_ 8 0) (by kernel_rfl) rfl rfl (Kc8_ BK275.out) (fun hHeld => ?_); refine with_tabW tenementlaw08_Deal_deal.tab2 tenementlaw08_Deal_deal.bits2 (fun HT_ HW_ => ?_)
  generalize w57.drew = w60 at BK275 BK276 HB hHeld ⊢
  refine Kp_ 0 7 (mB_ 8 1) (any_of HT_.out (by kernel_rfl)) ?_
  refine Kp_ 3 10 (mB_ 8 9) (any_of HT_.out (by kernel_rfl)) ?_
  refine Ko_ 1 8 (mB_ 8 11) (take_ofW HT_.out HW_.out (by kernel_rfl)) hHeld ?_
  refine Ko_ 4 11 (mB_ 8 27) (take_ofW HT_.out HW_.out (by kernel_rfl)) hHeld ?_
  refine one_ (i := 2) (N := some 9) (mB_ 8 31) rfl rfl (one_of HT_.out (by kernel_rfl)) (by decide) (fun K hK => ?_)
  refine goes_ Try.func33 (by kernel_rfl) rfl #[.agg #[.int .u64 a0_0, .int .u64 a0_1, .int .u64 a0_2, .int .u64 a0_3, .int .i64 a0_4, .bool a0_5]] (by rfl) rfl rfl (by (try simp only [List.map_toArray, List.map_cons, List.map_nil]); first | done | rfl | (simp only [List.length_drop, List.length_take]; rfl)) ?_
  with_reducible refine (tenementlaw08_Mark_mark.calls k a0_0 a0_1 a0_2 a0_3 a0_4 a0_5 t277 t278 t279 t280 t281 _ A54.out).mono ?_
  rintro e w61 ⟨rfl, hb⟩
  refine ⟨_, rfl, ?_⟩
  replace BK275 := Kb_ BK275 hb
  replace BK276 := Kb_ BK276 hb
  replace HB := Ks_ HB hb
  (try clear hb)
  (try clear hb2)
  (try clear hk)
  (try clear hi)
  refine hK.out _ _ (Kc8_ BK275.out) (fun hHeld => ?_)
  clear hK K
  refine Kn_ 9 ?_
  refine one_ (i := 5) (N := some 12) (mB_ 8 63) rfl rfl (one_of HT_.out (by kernel_rfl)) (by decide) (fun K hK => ?_)
  refine goes_ Try.func34 (by kernel_rfl) rfl #[.slice A0_6 l0_6.length c0_6, .int .i64 10, .bool false] (by rfl) rfl rfl (by (try simp only [List.map_toArray, List.map_cons, List.map_nil]); first | done | rfl | (simp only [List.length_drop, List.length_take]; rfl)) ?_
  with_reducible refine (tenementlaw08_writes.calls k _ _ l0_6 10 false t282 _ ?side1 ?side2 A55.out).mono ?_
  (case side1 => repeat (first | exact (Kd.C_below HR0_6.out HB.out) | (with_reducible refine Kd.C_alloc ?_ _) | (with_reducible refine Kd.C_drewN ?_ _) | (with_reducible refine Kd.C_drew ?_)))
  (case side2 => exact HC0_6.out)
  rintro e w62 ⟨v283, rfl, ho0, hb⟩
  refine ⟨_, rfl, ?_⟩
  have HO284 := Aside0.mk (Kd.R_lower ho0 (below_size (K2a_ HB GE275 GE276)))
  replace BK275 := Kb_ BK275 hb
  replace BK276 := Kb_ BK276 hb
  replace HB := Ks_ HB hb
  (try clear hb)
  (try clear hb2)
  (try clear hk)
  (try clear hi)
  (try clear ho0)
  obtain ⟨Ao63, co63, eo63⟩ := Kd.R_slice HO284.out
  (first | subst eo63 | (injection eo63 with f1_ f2_ f3_; have f4_ := f1_.symm; have f5_ := f3_.symm; clear f1_ f2_ f3_; subst f4_; subst f5_))
  refine hK.out _ _ (Kc8_ BK275.out) (fun hHeld => ?_)
  clear hK K
  refine Kn_ 12 ?_
  refine Kp_ 6 13 (mB_ 8 127) (any_of HT_.out (by kernel_rfl)) ?_
  refine one_ (i := 7) (N := none) (mB_ 8 255) rfl rfl (one_of HT_.out (by kernel_rfl)) (by decide) (fun K hK => ?_)
  have hs64 : w62.cell? ⟨gb276, 0, none⟩ = some (.int .u64 0) := (blk_cell BK276.out 0).trans rfl
  have hfs64 := blk_frozen BK276.out 0
  have hns64_0 := NB275_276.out
  have hms64_0 := NB276_275.out
  have hs65 : w62.cell? ⟨gb276, 1, none⟩ = some (.int .u64 0) := (blk_cell BK276.out 1).trans rfl
  have hfs65 := blk_frozen BK276.out 1
  have hns65_0 := NB275_276.out
  have hms65_0 := NB276_275.out
  have hs66 : w62.cell? ⟨gb276, 2, none⟩ = some (.int .u64 0) := (blk_cell BK276.out 2).trans rfl
  have hfs66 := blk_frozen BK276.out 2
  have hns66_0 := NB275_276.out
  have hms66_0 := NB276_275.out
  have hs67 : w62.cell? ⟨gb276, 3, none⟩ = some (.int .u64 0) := (blk_cell BK276.out 3).trans rfl
  have hfs67 := blk_frozen BK276.out 3
  have hns67_0 := NB275_276.out
  have hms67_0 := NB276_275.out
  have hs68 : w62.cell? ⟨gb276, 4, none⟩ = some (.int .i64 0) := (blk_cell BK276.out 4).trans rfl
  have hfs68 := blk_frozen BK276.out 4
  have hns68_0 := NB275_276.out
  have hms68_0 := NB276_275.out
  have hs69 : w62.cell? ⟨gb276, 5, none⟩ = some (.slice none 0 0) := (blk_cell BK276.out 5).trans rfl
  have hfs69 := blk_frozen BK276.out 5
  have hns69_0 := NB275_276.out
  have hms69_0 := NB276_275.out
  refine skip_ (w1 := ?_) (by rfl) rfl ?_ ?_
  rotate_left
  ·go_simp
   rfl
  refine hK.out _ _ ⟨(Kj_ NB275_276 ((Kj_ NB275_276 ((Kj_ NB275_276 ((Kj_ NB275_276 ((Kj_ NB275_276 ((Kj_ NB275_276 (hHeld.1)))))))))))), (Kj_ NB275_276 ((Kj_ NB275_276 ((Kj_ NB275_276 ((Kj_ NB275_276 ((Kj_ NB275_276 ((Kj_ NB275_276 (hHeld.2.1)))))))))))), (Kj_ NB275_276 ((Kj_ NB275_276 ((Kj_ NB275_276 ((Kj_ NB275_276 ((Kj_ NB275_276 ((Kj_ NB275_276 (hHeld.2.2.1)))))))))))), (Kj_ NB275_276 ((Kj_ NB275_276 ((Kj_ NB275_276 ((Kj_ NB275_276 ((Kj_ NB275_276 ((Kj_ NB275_276 (hHeld.2.2.2.1)))))))))))), (Kj_ NB275_276 ((Kj_ NB275_276 ((Kj_ NB275_276 ((Kj_ NB275_276 ((Kj_ NB275_276 ((Kj_ NB275_276 (hHeld.2.2.2.2.1)))))))))))), (Kj_ NB275_276 ((Kj_ NB275_276 ((Kj_ NB275_276 ((Kj_ NB275_276 ((Kj_ NB275_276 ((Kj_ NB275_276 (hHeld.2.2.2.2.2.1)))))))))))), (Kj_ NB275_276 ((Kj_ NB275_276 ((Kj_ NB275_276 ((Kj_ NB275_276 ((Kj_ NB275_276 ((Kj_ NB275_276 (hHeld.2.2.2.2.2.2.1)))))))))))), (Kj_ NB275_276 ((Kj_ NB275_276 ((Kj_ NB275_276 ((Kj_ NB275_276 ((Kj_ NB275_276 ((Kj_ NB275_276 (hHeld.2.2.2.2.2.2.2))))))))))))⟩ (fun hHeld => ?_)
  clear hK K
  refine done_ (done_of HT_.out (by kernel_rfl)) ?_
  try go_wp2
  refine bodyPost_ret (results_cell_row rfl _ _ gb276 43 #[.int .u64 t277, .int .u64 t278, .int .u64 t279, .int .u64 t280, .int .i64 t281, .slice Ao63 t282.length co63] (0, 0) _ rfl (by refine Kv_ ?_; refine blk_put (cs := #[.int .u64 t277, .int .u64 t278, .int .u64 t279, .int .u64 t280, .int .i64 t281, .slice none 0 0]) ?_ 5 _ rfl; refine Kv_ ?_; refine blk_put (cs := #[.int .u64 t277, .int .u64 t278, .int .u64 t279, .int .u64 t280, .int .i64 0, .slice none 0 0]) ?_ 4 _ rfl; refine Kv_ ?_; refine blk_put (cs := #[.int .u64 t277, .int .u64 t278, .int .u64 t279, .int .u64 0, .int .i64 0, .slice none 0 0]) ?_ 3 _ rfl; refine Kv_ ?_; refine blk_put (cs := #[.int .u64 t277, .int .u64 t278, .int .u64 0, .int .u64 0, .int .i64 0, .slice none 0 0]) ?_ 2 _ rfl; refine Kv_ ?_; refine blk_put (cs := #[.int .u64 t277, .int .u64 0, .int .u64 0, .int .u64 0, .int .i64 0, .slice none 0 0]) ?_ 1 _ rfl; refine Kv_ ?_; refine blk_put (cs := #[.int .u64 0, .int .u64 0, .int .u64 0, .int .u64 0, .int .i64 0, .slice none 0 0]) ?_ 0 _ rfl; exact Kq_ BK276) Try.underlying43 rfl (by kernel_rfl)) rfl ?_
  exact ⟨_, by first | rfl | (simp [errW_none, errW_some] <;> rfl) | (simp [*, errW_none, errW_some] <;> rfl), by (with_reducible repeat (first | apply Kd.R_alloc | apply Kd.R_drewN | apply Kd.R_drew)); exact Kd.R_mono (Kd.R_far (p := ⟨gb276, 5, none⟩) (Kd.R_far (p := ⟨gb276, 4, none⟩) (Kd.R_far (p := ⟨gb276, 3, none⟩) (Kd.R_far (p := ⟨gb276, 2, none⟩) (Kd.R_far (p := ⟨gb276, 1, none⟩) (Kd.R_far (p := ⟨gb276, 0, none⟩) (Kd.R_types HO284.out BK276.out (by decide)) (fun _ hk => hk.2) (.int .u64 t277)) (fun _ hk => hk.2) (.int .u64 t278)) (fun _ hk => hk.2) (.int .u64 t279)) (fun _ hk => hk.2) (.int .u64 t280)) (fun _ hk => hk.2) (.int .i64 t281)) (fun _ hk => hk.2) (.slice Ao63 t282.length co63)) (fun _ hk => trivial), K2a_ HB GE275 GE276⟩
 subst c2
 have H1 : ((tenementlaw08_Mark_mark.f k a0_0 a0_1 a0_2 a0_3 a0_4 true).bind fun bt285 => ((tenementlaw08_writes.f k l0_6 8 true).bind fun t290 => (if (t290.length : Int) = 0 then (some (bt285.1, bt285.2.1, bt285.2.2.1, bt285.2.2.2.1, bt285.2.2.2.2, (([(⟨(⟨#[98, 48]⟩ : ByteArray), (⟨#[97]⟩ : ByteArray), (⟨#[118]⟩ : ByteArray), false⟩ : S23)] : List (S23))))) else (some (bt285.1, bt285.2.1, bt285.2.2.1, bt285.2.2.2.1, bt285.2.2.2.2, t290))))) = some (r1, r2, r3, r4, r5, r6) := by rw [if_pos rfl] at H; exact H
 clear H
 have H := H1
 clear H1
 replace H := Option.bind_eq_some_iff.mp H
 obtain ⟨⟨t285, t286, t287, t288, t289⟩, A30, H⟩ := H
 replace H : ((tenementlaw08_writes.f k l0_6 8 true).bind fun t290 => (if (t290.length : Int) = 0 then (some (t285, t286, t287, t288, t289, (([(⟨(⟨#[98, 48]⟩ : ByteArray), (⟨#[97]⟩ : ByteArray), (⟨#[118]⟩ : ByteArray), false⟩ : S23)] : List (S23))))) else (some (t285, t286, t287, t288, t289, t290)))) = some (r1, r2, r3, r4, r5, r6) := H
 have A3 := Aside0.mk A30
 clear A30
 replace H := Option.bind_eq_some_iff.mp H
 obtain ⟨t290, A40, H⟩ := H
 replace H : (if (t290.length : Int) = 0 then (some (t285, t286, t287, t288, t289, (([(⟨(⟨#[98, 48]⟩ : ByteArray), (⟨#[97]⟩ : ByteArray), (⟨#[118]⟩ : ByteArray), false⟩ : S23)] : List (S23))))) else (some (t285, t286, t287, t288, t289, t290))) = some (r1, r2, r3, r4, r5, r6) := H
 have A4 := Aside0.mk A40
 clear A40
 by_cases c5 : (t290.length : Int) = 0
 rotate_left
 ·rw [if_neg c5] at H
  have c5b0 : ((t290.length : Int) == 0) = false := beq_eq_false_iff_ne.mpr c5
  have c5b1 : ((t290.length : Int) != 0) = true := bne_iff_ne.mpr c5
  have c5b2 : ¬ (t290 = []) := fun h_ => c5 (by rw [h_]; rfl)
  simp only [Option.some.injEq, Prod.mk.injEq] at H
  obtain ⟨rfl, rfl, rfl, rfl, rfl, rfl⟩ := H
  go_enter Try.func14, Try.ntmps14
  try go_wp2_with (first | ((with_reducible refine gate_dst (N := 1) rfl ?_); refine Ka_ 1 #[.int .u64 a0_0, .int .u64 a0_1, .int .u64 a0_2, .int .u64 a0_3, .int .i64 a0_4, .bool a0_5, .slice A0_6 l0_6.length c0_6, .bool true] 35 ?_; intro gb275 hg w32 hbox hb; have BK275 := Aside0.mk (hbox); have GW275 := Kw_ HB hg; have GE275 := GW275; replace HB := Ks_ HB hb; clear hb hbox hg) | ((with_reducible refine gate_dst (N := 2) rfl ?_); refine Ka_ 2 #[.int .u64 0, .int .u64 0, .int .u64 0, .int .u64 0, .int .i64 0, .slice none 0 0] 43 ?_; intro gb276 hg w33 hbox hb; have BK276 := Aside0.mk (hbox); have GW276 := Kw_ HB hg; have GE276 := GW276; have NB275_276 := Kl_ BK275 hg; have NB276_275 := Kr_ BK275 hg; replace BK275 := Kb_ BK275 hb; replace HB := Ks_ HB hb; clear hb hbox hg; have hnb34 := NB275_276.out; have hnc34 := NB276_275.out; obtain ⟨hcz35_0, hcz35_1, hcz35_2, hcz35_3, hcz35_4, hcz35_5, hcz35_6, hcz35_7, hfz35_0, hfz35_1, hfz35_2, hfz35_3, hfz35_4, hfz35_5, hfz35_6, hfz35_7⟩ := Ke8_ BK275.out))
  have n0_ : Aside0 ((w33.setCell ⟨gb275, 5, none⟩ (.bool true)).heap[gb275]? = some (.cells #[.int .u64 a0_0, .int .u64 a0_1, .int .u64 a0_2, .int .u64 a0_3, .int .i64 a0_4, .bool true, .slice A0_6 l0_6.length c0_6, .bool true] 35 (0, 0))) := ⟨by refine Kv_ ?_; refine blk_put (cs := #[.int .u64 a0_0, .int .u64 a0_1, .int .u64 a0_2, .int .u64 a0_3, .int .i64 a0_4, .bool a0_5, .slice A0_6 l0_6.length c0_6, .bool true]) ?_ 5 _ rfl; exact Kq_ BK275⟩
  have n1_ : Aside0 ((w33.setCell ⟨gb275, 5, none⟩ (.bool true)).heap[gb276]? = some (.cells #[.int .u64 0, .int .u64 0, .int .u64 0, .int .u64 0, .int .i64 0, .slice none 0 0] 43 (0, 0))) := ⟨by exact K1b_ BK276 NB276_275⟩
  have n2_ : Aside0 (Below w.heap.size w (w33.setCell ⟨gb275, 5, none⟩ (.bool true))) := ⟨K2a_ HB GE275 GE276⟩
  (try clear BK275)
  (try clear BK276)
  (try clear HB)
  generalize (w33.setCell ⟨gb275, 5, none⟩ (.bool true)) = w36 at n0_ n1_ n2_ ⊢
  have BK275 := n0_
  have BK276 := n1_
  have HB := n2_
  clear n0_ n1_ n2_
  replace BK275 := Kd_ BK275
  replace BK276 := Kd_ BK276
  replace HB := Aside0.mk (below_drew1 HB.out)
  refine start_ (n := 9) (S := fun w' => w'.cell? ⟨gb275, 0, none⟩ = some (.int .u64 a0_0) ∧ w'.cell? ⟨gb275, 1, none⟩ = some (.int .u64 a0_1) ∧ w'.cell? ⟨gb275, 2, none⟩ = some (.int .u64 a0_2) ∧ w'.cell? ⟨gb275, 3, none⟩ = some (.int .u64 a0_3) ∧ w'.cell? ⟨gb275, 4, none⟩ = some (.int .i64 a0_4) ∧ w'.cell? ⟨gb275, 5, none⟩ = some (.bool true) ∧ w'.cell? ⟨gb275, 6, none⟩ = some (.slice A0_6 l0_6.length c0_6) ∧ w'.cell? ⟨gb275, 7, none⟩ = some (.bool true)) (ds := []) (mB_ 9 0) (by kernel_rfl) rfl rfl (Kc8_ BK275.out) (fun hHeld => ?_); refine with_tabW tenementlaw08_Deal_deal.tab4 tenementlaw08_Deal_deal.bits4 (fun HT_ HW_ => ?_)
  generalize w36.drew = w37 at BK275 BK276 HB hHeld ⊢
  refine Kp_ 0 16 (mB_ 9 1) (any_of HT_.out (by kernel_rfl)) ?_
  refine Kp_ 3 19 (mB_ 9 9) (any_of HT_.out (by kernel_rfl)) ?_
  refine Ko_ 1 17 (mB_ 9 11) (take_ofW HT_.out HW_.out (by kernel_rfl)) hHeld ?_
  refine Ko_ 4 20 (mB_ 9 27) (take_ofW HT_.out HW_.out (by kernel_rfl)) hHeld ?_
  refine join_ (σ := Value × Nat) 1 (mB_ 9 255) (fun s_ => [(18, .agg #[.int .u64 t285, .int .u64 t286, .int .u64 t287, .int .u64 t288, .int .i64 t289]), (21, s_.1), (3, .pointer (some ⟨s_.2, 0, none⟩)), (22, .agg #[.int .u64 t285, .int .u64 t286, .int .u64 t287, .int .u64 t288, .int .i64 t289, s_.1])]) (fun s_ w' => (w'.cell? ⟨gb275, 0, none⟩ = some (.int .u64 a0_0) ∧ w'.cell? ⟨gb275, 1, none⟩ = some (.int .u64 a0_1) ∧ w'.cell? ⟨gb275, 2, none⟩ = some (.int .u64 a0_2) ∧ w'.cell? ⟨gb275, 3, none⟩ = some (.int .u64 a0_3) ∧ w'.cell? ⟨gb275, 4, none⟩ = some (.int .i64 a0_4) ∧ w'.cell? ⟨gb275, 5, none⟩ = some (.bool true) ∧ w'.cell? ⟨gb275, 6, none⟩ = some (.slice A0_6 l0_6.length c0_6) ∧ w'.cell? ⟨gb275, 7, none⟩ = some (.bool true)) ∧ (Kd.R k23 23 w' w.heap.size (fun _ => True) s_.1 t290) ∧ (w'.heap[gb275]? = some (.cells #[.int .u64 a0_0, .int .u64 a0_1, .int .u64 a0_2, .int .u64 a0_3, .int .i64 a0_4, .bool true, .slice A0_6 l0_6.length c0_6, .bool true] 35 (0, 0))) ∧ (w'.heap[gb276]? = some (.cells #[.int .u64 0, .int .u64 0, .int .u64 0, .int .u64 0, .int .i64 0, .slice none 0 0] 43 (0, 0))) ∧ (w'.heap[s_.2]? = some (.cells #[.int .u64 0, .int .u64 0, .int .u64 0, .int .u64 0, .int .i64 0, .slice none 0 0] 43 (0, 0))) ∧ (w.heap.size ≤ s_.2) ∧ (w.heap.size ≤ s_.2) ∧ (gb275 ≠ s_.2) ∧ (s_.2 ≠ gb275) ∧ (gb276 ≠ s_.2) ∧ (s_.2 ≠ gb276) ∧ (Below w.heap.size w w')) ?_ ?_
  rotate_left
  ·intro hCont
   refine two_ (i := 2) (j := 7) (Ni := some 18) (Nj := some 3) (mB_ 9 31) (mB_ 9 155) rfl rfl rfl rfl (two_of HT_.out (by kernel_rfl)) (by decide) (by decide) (fun K hK => ?_) (fun K hK => ?_)
   ·skip
    refine goes_ Try.func33 (by kernel_rfl) rfl #[.agg #[.int .u64 a0_0, .int .u64 a0_1, .int .u64 a0_2, .int .u64 a0_3, .int .i64 a0_4, .bool true]] (by rfl) rfl rfl (by (try simp only [List.map_toArray, List.map_cons, List.map_nil]); first | done | rfl | (simp only [List.length_drop, List.length_take]; rfl)) ?_
    with_reducible refine (tenementlaw08_Mark_mark.calls k a0_0 a0_1 a0_2 a0_3 a0_4 true t285 t286 t287 t288 t289 _ A3.out).mono ?_
    rintro e w38 ⟨rfl, hb⟩
    refine ⟨_, rfl, ?_⟩
    replace BK275 := Kb_ BK275 hb
    replace BK276 := Kb_ BK276 hb
    replace HB := Ks_ HB hb
    (try clear hb)
    (try clear hb2)
    (try clear hk)
    (try clear hi)
    refine hK.out _ _ (Kc8_ BK275.out) (fun hHeld => ?_)
    clear hK K
    refine Kn_ 18 ?_
    refine two_ (i := 5) (j := 7) (Ni := some 21) (Nj := some 3) (mB_ 9 63) (mB_ 9 159) rfl rfl rfl rfl (two_of HT_.out (by kernel_rfl)) (by decide) (by decide) (fun K hK => ?_) (fun K hK => ?_)
    ·skip
     refine goes_ Try.func34 (by kernel_rfl) rfl #[.slice A0_6 l0_6.length c0_6, .int .i64 8, .bool true] (by rfl) rfl rfl (by (try simp only [List.map_toArray, List.map_cons, List.map_nil]); first | done | rfl | (simp only [List.length_drop, List.length_take]; rfl)) ?_
     with_reducible refine (tenementlaw08_writes.calls k _ _ l0_6 8 true t290 _ ?side1 ?side2 A4.out).mono ?_
     (case side1 => repeat (first | exact (Kd.C_below HR0_6.out HB.out) | (with_reducible refine Kd.C_alloc ?_ _) | (with_reducible refine Kd.C_drewN ?_ _) | (with_reducible refine Kd.C_drew ?_)))
     (case side2 => exact HC0_6.out)
     rintro e w39 ⟨v291, rfl, ho0, hb⟩
     refine ⟨_, rfl, ?_⟩
     have HO292 := Aside0.mk (Kd.R_lower ho0 (below_size (K2a_ HB GE275 GE276)))
     replace BK275 := Kb_ BK275 hb
     replace BK276 := Kb_ BK276 hb
     replace HB := Ks_ HB hb
     (try clear hb)
     (try clear hb2)
     (try clear hk)
     (try clear hi)
     (try clear ho0)
     obtain ⟨Ao40, co40, eo40⟩ := Kd.R_slice HO292.out
     (first | subst eo40 | (injection eo40 with f1_ f2_ f3_; have f4_ := f1_.symm; have f5_ := f3_.symm; clear f1_ f2_ f3_; subst f4_; subst f5_))
     refine hK.out _ _ (Kc8_ BK275.out) (fun hHeld => ?_)
     clear hK K
     refine Kn_ 21 ?_
     refine Kp_ 6 22 (mB_ 9 127) (any_of HT_.out (by kernel_rfl)) ?_
     refine one_ (i := 7) (N := some 3) (mB_ 9 255) rfl rfl (one_of HT_.out (by kernel_rfl)) (by decide) (fun K hK => ?_)
     refine box_step ?hg (N := 3) ?hd (cs := #[.int .u64 0, .int .u64 0, .int .u64 0, .int .u64 0, .int .i64 0, .slice none 0 0]) (t := 43) ?hr ?_; (case hd => rfl); (case hg => rfl); (case hr => first | (go_simp; done) | (go_simp; rfl))
     intro gb293 hg w41 hbox hb
     have BK293 := Aside0.mk (hbox)
     have GW293 := Kw_ HB hg
     have GE293 := GW293
     have NB275_293 := Kl_ BK275 hg
     have NB293_275 := Kr_ BK275 hg
     have NB276_293 := Kl_ BK276 hg
     have NB293_276 := Kr_ BK276 hg
     replace HO292 := Aside0.mk (Kd.R_below (Ku_ HO292) hb)
     replace BK275 := Kb_ BK275 hb
     replace BK276 := Kb_ BK276 hb
     replace HB := Ks_ HB hb
     clear hb hbox hg
     refine hK.out _ _ (Kc8_ BK275.out) (fun hHeld => ?_)
     clear hK K
     refine Kn_ 3 ?_
     exact norm_ (by simp only [putAll, Act.put, List.setIfInBounds_toArray, List.set_cons_zero, List.set_cons_succ]) (hCont (.slice Ao40 t290.length co40, gb293) _ ⟨hHeld, (Ku_ HO292), (Kq_ BK275), (Kq_ BK276), (Kq_ BK293), GW293.out, GE293.out, NB275_293.out, NB293_275.out, NB276_293.out, NB293_276.out, (K3a_ HB GE275 GE276 GE293)⟩)
    ·skip
     refine box_step ?hg (N := 3) ?hd (cs := #[.int .u64 0, .int .u64 0, .int .u64 0, .int .u64 0, .int .i64 0, .slice none 0 0]) (t := 43) ?hr ?_; (case hd => rfl); (case hg => rfl); (case hr => first | (go_simp; done) | (go_simp; rfl))
     intro gb293 hg w39 hbox hb
     have BK293 := Aside0.mk (hbox)
     have GW293 := Kw_ HB hg
     have GE293 := GW293
     have NB275_293 := Kl_ BK275 hg
     have NB293_275 := Kr_ BK275 hg
     have NB276_293 := Kl_ BK276 hg
     have NB293_276 := Kr_ BK276 hg
     replace BK275 := Kb_ BK275 hb
     replace BK276 := Kb_ BK276 hb
     replace HB := Ks_ HB hb
     clear hb hbox hg
     refine hK.out _ _ (Kc8_ BK275.out) (fun hHeld => ?_)
     clear hK K
     refine Kn_ 3 ?_
     refine one_ (i := 5) (N := some 21) (mB_ 9 191) rfl rfl (one_of HT_.out (by kernel_rfl)) (by decide) (fun K hK => ?_)
     refine goes_ Try.func34 (by kernel_rfl) rfl #[.slice A0_6 l0_6.length c0_6, .int .i64 8, .bool true] (by rfl) rfl rfl (by (try simp only [List.map_toArray, List.map_cons, List.map_nil]); first | done | rfl | (simp only [List.length_drop, List.length_take]; rfl)) ?_
     with_reducible refine (tenementlaw08_writes.calls k _ _ l0_6 8 true t290 _ ?side1 ?side2 A4.out).mono ?_
     (case side1 => repeat (first | exact (Kd.C_below HR0_6.out HB.out) | (with_reducible refine Kd.C_alloc ?_ _) | (with_reducible refine Kd.C_drewN ?_ _) | (with_reducible refine Kd.C_drew ?_)))
     (case side2 => exact HC0_6.out)
     rintro e w40 ⟨v291, rfl, ho0, hb⟩
     refine ⟨_, rfl, ?_⟩
     have HO292 := Aside0.mk (Kd.R_lower ho0 (below_size (K3a_ HB GE275 GE276 GE293)))
     replace BK275 := Kb_ BK275 hb
     replace BK276 := Kb_ BK276 hb
     replace BK293 := Kb_ BK293 hb
     replace HB := Ks_ HB hb
     (try clear hb)
     (try clear hb2)
     (try clear hk)
     (try clear hi)
     (try clear ho0)
     obtain ⟨Ao41, co41, eo41⟩ := Kd.R_slice HO292.out
     (first | subst eo41 | (injection eo41 with f1_ f2_ f3_; have f4_ := f1_.symm; have f5_ := f3_.symm; clear f1_ f2_ f3_; subst f4_; subst f5_))
     refine hK.out _ _ (Kc8_ BK275.out) (fun hHeld => ?_)
     clear hK K
     refine Kn_ 21 ?_
     refine Kp_ 6 22 (mB_ 9 255) (any_of HT_.out (by kernel_rfl)) ?_
     exact norm_ (by simp only [putAll, Act.put, List.setIfInBounds_toArray, List.set_cons_zero, List.set_cons_succ]) (hCont (.slice Ao41 t290.length co41, gb293) _ ⟨hHeld, (Ku_ HO292), (Kq_ BK275), (Kq_ BK276), (Kq_ BK293), GW293.out, GE293.out, NB275_293.out, NB293_275.out, NB276_293.out, NB293_276.out, (K3a_ HB GE275 GE276 GE293)⟩)
   ·skip
    refine box_step ?hg (N := 3) ?hd (cs := #[.int .u64 0, .int .u64 0, .int .u64 0, .int .u64 0, .int .i64 0, .slice none 0 0]) (t := 43) ?hr ?_; (case hd => rfl); (case hg => rfl); (case hr => first | (go_simp; done) | (go_simp; rfl))
    intro gb293 hg w38 hbox hb
    have BK293 := Aside0.mk (hbox)
    have GW293 := Kw_ HB hg
    have GE293 := GW293
    have NB275_293 := Kl_ BK275 hg
    have NB293_275 := Kr_ BK275 hg
    have NB276_293 := Kl_ BK276 hg
    have NB293_276 := Kr_ BK276 hg
    replace BK275 := Kb_ BK275 hb
    replace BK276 := Kb_ BK276 hb
    replace HB := Ks_ HB hb
    clear hb hbox hg
    refine hK.out _ _ (Kc8_ BK275.out) (fun hHeld => ?_)
    clear hK K
    refine Kn_ 3 ?_
    refine one_ (i := 2) (N := some 18) (mB_ 9 159) rfl rfl (one_of HT_.out (by kernel_rfl)) (by decide) (fun K hK => ?_)
    refine goes_ Try.func33 (by kernel_rfl) rfl #[.agg #[.int .u64 a0_0, .int .u64 a0_1, .int .u64 a0_2, .int .u64 a0_3, .int .i64 a0_4, .bool true]] (by rfl) rfl rfl (by (try simp only [List.map_toArray, List.map_cons, List.map_nil]); first | done | rfl | (simp only [List.length_drop, List.length_take]; rfl)) ?_
    with_reducible refine (tenementlaw08_Mark_mark.calls k a0_0 a0_1 a0_2 a0_3 a0_4 true t285 t286 t287 t288 t289 _ A3.out).mono ?_
    rintro e w39 ⟨rfl, hb⟩
    refine ⟨_, rfl, ?_⟩
    replace BK275 := Kb_ BK275 hb
    replace BK276 := Kb_ BK276 hb
    replace BK293 := Kb_ BK293 hb
    replace HB := Ks_ HB hb
    (try clear hb)
    (try clear hb2)
    (try clear hk)
    (try clear hi)
    refine hK.out _ _ (Kc8_ BK275.out) (fun hHeld => ?_)
    clear hK K
    refine Kn_ 18 ?_
    refine one_ (i := 5) (N := some 21) (mB_ 9 191) rfl rfl (one_of HT_.out (by kernel_rfl)) (by decide) (fun K hK => ?_)
    refine goes_ Try.func34 (by kernel_rfl) rfl #[.slice A0_6 l0_6.length c0_6, .int .i64 8, .bool true] (by rfl) rfl rfl (by (try simp only [List.map_toArray, List.map_cons, List.map_nil]); first | done | rfl | (simp only [List.length_drop, List.length_take]; rfl)) ?_
    with_reducible refine (tenementlaw08_writes.calls k _ _ l0_6 8 true t290 _ ?side1 ?side2 A4.out).mono ?_
    (case side1 => repeat (first | exact (Kd.C_below HR0_6.out HB.out) | (with_reducible refine Kd.C_alloc ?_ _) | (with_reducible refine Kd.C_drewN ?_ _) | (with_reducible refine Kd.C_drew ?_)))
    (case side2 => exact HC0_6.out)
    rintro e w40 ⟨v291, rfl, ho0, hb⟩
    refine ⟨_, rfl, ?_⟩
    have HO292 := Aside0.mk (Kd.R_lower ho0 (below_size (K3a_ HB GE275 GE276 GE293)))
    replace BK275 := Kb_ BK275 hb
    replace BK276 := Kb_ BK276 hb
    replace BK293 := Kb_ BK293 hb
    replace HB := Ks_ HB hb
    (try clear hb)
    (try clear hb2)
    (try clear hk)
    (try clear hi)
    (try clear ho0)
    obtain ⟨Ao41, co41, eo41⟩ := Kd.R_slice HO292.out
    (first | subst eo41 | (injection eo41 with f1_ f2_ f3_; have f4_ := f1_.symm; have f5_ := f3_.symm; clear f1_ f2_ f3_; subst f4_; subst f5_))
    refine hK.out _ _ (Kc8_ BK275.out) (fun hHeld => ?_)
    clear hK K
    refine Kn_ 21 ?_
    refine Kp_ 6 22 (mB_ 9 255) (any_of HT_.out (by kernel_rfl)) ?_
    exact norm_ (by simp only [putAll, Act.put, List.setIfInBounds_toArray, List.set_cons_zero, List.set_cons_succ]) (hCont (.slice Ao41 t290.length co41, gb293) _ ⟨hHeld, (Ku_ HO292), (Kq_ BK275), (Kq_ BK276), (Kq_ BK293), GW293.out, GE293.out, NB275_293.out, NB293_275.out, NB276_293.out, NB293_276.out, (K3a_ HB GE275 GE276 GE293)⟩)
  rintro ⟨v291, gb293⟩ w42 ⟨hS_, h0_, h1_, h2_, h3_, h4_, h5_, h6_, h7_, h8_, h9_, h10_⟩
  have n0_ : Aside0 (Kd.R k23 23 w42 w.heap.size (fun _ => True) v291 t290) := ⟨h0_⟩
  have n1_ : Aside0 (w42.heap[gb275]? = some (.cells #[.int .u64 a0_0, .int .u64 a0_1, .int .u64 a0_2, .int .u64 a0_3, .int .i64 a0_4, .bool true, .slice A0_6 l0_6.length c0_6, .bool true] 35 (0, 0))) := ⟨h1_⟩
  have n2_ : Aside0 (w42.heap[gb276]? = some (.cells #[.int .u64 0, .int .u64 0, .int .u64 0, .int .u64 0, .int .i64 0, .slice none 0 0] 43 (0, 0))) := ⟨h2_⟩
  have n3_ : Aside0 (w42.heap[gb293]? = some (.cells #[.int .u64 0, .int .u64 0, .int .u64 0, .int .u64 0, .int .i64 0, .slice none 0 0] 43 (0, 0))) := ⟨h3_⟩
  have n4_ : Aside0 (w.heap.size ≤ gb293) := ⟨h4_⟩
  have n5_ : Aside0 (w.heap.size ≤ gb293) := ⟨h5_⟩
  have n6_ : Aside0 (gb275 ≠ gb293) := ⟨h6_⟩
  have n7_ : Aside0 (gb293 ≠ gb275) := ⟨h7_⟩
  have n8_ : Aside0 (gb276 ≠ gb293) := ⟨h8_⟩
  have n9_ : Aside0 (gb293 ≠ gb276) := ⟨h9_⟩
  have n10_ : Aside0 (Below w.heap.size w w42) := ⟨h10_⟩
  clear BK275
  clear BK276
  clear HB
  clear h0_ h1_ h2_ h3_ h4_ h5_ h6_ h7_ h8_ h9_ h10_
  have HO292 := n0_
  have BK275 := n1_
  have BK276 := n2_
  have BK293 := n3_
  have GW293 := n4_
  have GE293 := n5_
  have NB275_293 := n6_
  have NB293_275 := n7_
  have NB276_293 := n8_
  have NB293_276 := n9_
  have HB := n10_
  clear n0_ n1_ n2_ n3_ n4_ n5_ n6_ n7_ n8_ n9_ n10_
  have hHeld : w42.cell? ⟨gb275, 0, none⟩ = some (.int .u64 a0_0) ∧ w42.cell? ⟨gb275, 1, none⟩ = some (.int .u64 a0_1) ∧ w42.cell? ⟨gb275, 2, none⟩ = some (.int .u64 a0_2) ∧ w42.cell? ⟨gb275, 3, none⟩ = some (.int .u64 a0_3) ∧ w42.cell? ⟨gb275, 4, none⟩ = some (.int .i64 a0_4) ∧ w42.cell? ⟨gb275, 5, none⟩ = some (.bool true) ∧ w42.cell? ⟨gb275, 6, none⟩ = some (.slice A0_6 l0_6.length c0_6) ∧ w42.cell? ⟨gb275, 7, none⟩ = some (.bool true) := hS_
  obtain ⟨Ao43, co43, eo43⟩ := Kd.R_slice HO292.out
  (first | subst eo43 | (injection eo43 with f1_ f2_ f3_; have f4_ := f1_.symm; have f5_ := f3_.symm; clear f1_ f2_ f3_; subst f4_; subst f5_))
  refine norm_ (a' := ?_) ?_ ?_
  rotate_left
  ·simp only [putAll, Act.put, List.setIfInBounds_toArray, List.set_cons_zero, List.set_cons_succ]
   rfl
  refine one_ (i := 8) (N := none) (mB_ 9 511) rfl rfl (one_of HT_.out (by kernel_rfl)) (by decide) (fun K hK => ?_)
  have hs44 : w42.cell? ⟨gb293, 0, none⟩ = some (.int .u64 0) := (blk_cell BK293.out 0).trans rfl
  have hfs44 := blk_frozen BK293.out 0
  have hns44_0 := NB275_293.out
  have hns44_1 := NB276_293.out
  have hms44_0 := NB293_275.out
  have hms44_1 := NB293_276.out
  have hs45 : w42.cell? ⟨gb293, 1, none⟩ = some (.int .u64 0) := (blk_cell BK293.out 1).trans rfl
  have hfs45 := blk_frozen BK293.out 1
  have hns45_0 := NB275_293.out
  have hns45_1 := NB276_293.out
  have hms45_0 := NB293_275.out
  have hms45_1 := NB293_276.out
  have hs46 : w42.cell? ⟨gb293, 2, none⟩ = some (.int .u64 0) := (blk_cell BK293.out 2).trans rfl
  have hfs46 := blk_frozen BK293.out 2
  have hns46_0 := NB275_293.out
  have hns46_1 := NB276_293.out
  have hms46_0 := NB293_275.out
  have hms46_1 := NB293_276.out
  have hs47 : w42.cell? ⟨gb293, 3, none⟩ = some (.int .u64 0) := (blk_cell BK293.out 3).trans rfl
  have hfs47 := blk_frozen BK293.out 3
  have hns47_0 := NB275_293.out
  have hns47_1 := NB276_293.out
  have hms47_0 := NB293_275.out
  have hms47_1 := NB293_276.out
  have hs48 : w42.cell? ⟨gb293, 4, none⟩ = some (.int .i64 0) := (blk_cell BK293.out 4).trans rfl
  have hfs48 := blk_frozen BK293.out 4
  have hns48_0 := NB275_293.out
  have hns48_1 := NB276_293.out
  have hms48_0 := NB293_275.out
  have hms48_1 := NB293_276.out
  have hs49 : w42.cell? ⟨gb293, 5, none⟩ = some (.slice none 0 0) := (blk_cell BK293.out 5).trans rfl
  have hfs49 := blk_frozen BK293.out 5
  have hns49_0 := NB275_293.out
  have hns49_1 := NB276_293.out
  have hms49_0 := NB293_275.out
  have hms49_1 := NB293_276.out
  refine skip_ (w1 := ?_) (by rfl) rfl ?_ ?_
  rotate_left
  ·go_simp
   rfl
  refine hK.out _ _ ⟨(Kj_ NB275_293 ((Kj_ NB275_293 ((Kj_ NB275_293 ((Kj_ NB275_293 ((Kj_ NB275_293 ((Kj_ NB275_293 (hHeld.1)))))))))))), (Kj_ NB275_293 ((Kj_ NB275_293 ((Kj_ NB275_293 ((Kj_ NB275_293 ((Kj_ NB275_293 ((Kj_ NB275_293 (hHeld.2.1)))))))))))), (Kj_ NB275_293 ((Kj_ NB275_293 ((Kj_ NB275_293 ((Kj_ NB275_293 ((Kj_ NB275_293 ((Kj_ NB275_293 (hHeld.2.2.1)))))))))))), (Kj_ NB275_293 ((Kj_ NB275_293 ((Kj_ NB275_293 ((Kj_ NB275_293 ((Kj_ NB275_293 ((Kj_ NB275_293 (hHeld.2.2.2.1)))))))))))), (Kj_ NB275_293 ((Kj_ NB275_293 ((Kj_ NB275_293 ((Kj_ NB275_293 ((Kj_ NB275_293 ((Kj_ NB275_293 (hHeld.2.2.2.2.1)))))))))))), (Kj_ NB275_293 ((Kj_ NB275_293 ((Kj_ NB275_293 ((Kj_ NB275_293 ((Kj_ NB275_293 ((Kj_ NB275_293 (hHeld.2.2.2.2.2.1)))))))))))), (Kj_ NB275_293 ((Kj_ NB275_293 ((Kj_ NB275_293 ((Kj_ NB275_293 ((Kj_ NB275_293 ((Kj_ NB275_293 (hHeld.2.2.2.2.2.2.1)))))))))))), (Kj_ NB275_293 ((Kj_ NB275_293 ((Kj_ NB275_293 ((Kj_ NB275_293 ((Kj_ NB275_293 ((Kj_ NB275_293 (hHeld.2.2.2.2.2.2.2))))))))))))⟩ (fun hHeld => ?_)
  clear hK K
  refine done_ (done_of HT_.out (by kernel_rfl)) ?_
  have hnb50 := NB293_275.out
  have hnc50 := NB275_293.out
  have hnb51 := NB293_276.out
  have hnc51 := NB276_293.out
  obtain ⟨hcz52_0, hcz52_1, hcz52_2, hcz52_3, hcz52_4, hcz52_5, hfz52_0, hfz52_1, hfz52_2, hfz52_3, hfz52_4, hfz52_5⟩ := Ke6_ BK293.out
  obtain ⟨hcz53_0, hcz53_1, hcz53_2, hcz53_3, hcz53_4, hcz53_5, hfz53_0, hfz53_1, hfz53_2, hfz53_3, hfz53_4, hfz53_5⟩ := Ke6_ BK276.out
  try go_wp2
  refine bodyPost_ret (results_cell_row rfl _ _ gb276 43 #[.int .u64 t285, .int .u64 t286, .int .u64 t287, .int .u64 t288, .int .i64 t289, .slice Ao43 t290.length co43] (0, 0) _ rfl (by refine Kv_ ?_; refine blk_put (cs := #[.int .u64 t285, .int .u64 t286, .int .u64 t287, .int .u64 t288, .int .i64 t289, .slice none 0 0]) ?_ 5 _ rfl; refine Kv_ ?_; refine blk_put (cs := #[.int .u64 t285, .int .u64 t286, .int .u64 t287, .int .u64 t288, .int .i64 0, .slice none 0 0]) ?_ 4 _ rfl; refine Kv_ ?_; refine blk_put (cs := #[.int .u64 t285, .int .u64 t286, .int .u64 t287, .int .u64 0, .int .i64 0, .slice none 0 0]) ?_ 3 _ rfl; refine Kv_ ?_; refine blk_put (cs := #[.int .u64 t285, .int .u64 t286, .int .u64 0, .int .u64 0, .int .i64 0, .slice none 0 0]) ?_ 2 _ rfl; refine Kv_ ?_; refine blk_put (cs := #[.int .u64 t285, .int .u64 0, .int .u64 0, .int .u64 0, .int .i64 0, .slice none 0 0]) ?_ 1 _ rfl; refine Kv_ ?_; refine blk_put (cs := #[.int .u64 0, .int .u64 0, .int .u64 0, .int .u64 0, .int .i64 0, .slice none 0 0]) ?_ 0 _ rfl; exact K1b_ BK276 NB276_293) Try.underlying43 rfl (by kernel_rfl)) rfl ?_
  exact ⟨_, by first | rfl | (simp [errW_none, errW_some] <;> rfl) | (simp [*, errW_none, errW_some] <;> rfl), by (with_reducible repeat (first | apply Kd.R_alloc | apply Kd.R_drewN | apply Kd.R_drew)); exact Kd.R_mono (Kd.R_far (p := ⟨gb276, 5, none⟩) (Kd.R_far (p := ⟨gb276, 4, none⟩) (Kd.R_far (p := ⟨gb276, 3, none⟩) (Kd.R_far (p := ⟨gb276, 2, none⟩) (Kd.R_far (p := ⟨gb276, 1, none⟩) (Kd.R_far (p := ⟨gb276, 0, none⟩) (Kd.R_far (p := ⟨gb293, 5, none⟩) (Kd.R_far (p := ⟨gb293, 4, none⟩) (Kd.R_far (p := ⟨gb293, 3, none⟩) (Kd.R_far (p := ⟨gb293, 2, none⟩) (Kd.R_far (p := ⟨gb293, 1, none⟩) (Kd.R_far (p := ⟨gb293, 0, none⟩) (Kd.R_types (Kd.R_types HO292.out BK293.out (by decide)) BK276.out (by decide)) (fun _ hk => hk.1.2) (.int .u64 t285)) (fun _ hk => hk.1.2) (.int .u64 t286)) (fun _ hk => hk.1.2) (.int .u64 t287)) (fun _ hk => hk.1.2) (.int .u64 t288)) (fun _ hk => hk.1.2) (.int .i64 t289)) (fun _ hk => hk.1.2) (.slice Ao43 t290.length co43)) (fun _ hk => hk.2) (.int .u64 t285)) (fun _ hk => hk.2) (.int .u64 t286)) (fun _ hk => hk.2) (.int .u64 t287)) (fun _ hk => hk.2) (.int .u64 t288)) (fun _ hk => hk.2) (.int .i64 t289)) (fun _ hk => hk.2) (.slice Ao43 t290.length co43)) (fun _ hk => trivial), K3a_ HB GE275 GE276 GE293⟩
 rw [if_pos c5] at H
 have c5b0 : ((t290.length : Int) == 0) = true := beq_iff_eq.mpr c5
 have c5b1 : ((t290.length : Int) != 0) = false := bne_eq_false_iff_eq.mpr c5
 clear c5
 obtain ⟨y294, hy294⟩ : ∃ y_ : List (S23), y_ = (([(⟨(⟨#[98, 48]⟩ : ByteArray), (⟨#[97]⟩ : ByteArray), (⟨#[118]⟩ : ByteArray), false⟩ : S23)] : List (S23))) := ⟨_, rfl⟩
 replace H : (some (t285, t286, t287, t288, t289, y294)) = some (r1, r2, r3, r4, r5, r6) := by first | (rw [hy294]; with_reducible exact H) | (have H2_ := (Option.bind_some _ _).symm.trans H; rw [hy294]; with_reducible exact H2_) | (have H2_ := (Option.bind_some _ _).symm.trans H; with_reducible exact H2_) | with_reducible exact H | (rw [hy294]; exact H) | exact H
 have Ny294 := Aside0.mk hy294
 clear hy294
 simp only [Option.some.injEq, Prod.mk.injEq] at H
 obtain ⟨rfl, rfl, rfl, rfl, rfl, rfl⟩ := H
 go_enter Try.func14, Try.ntmps14
 try go_wp2_with (first | ((with_reducible refine gate_dst (N := 1) rfl ?_); refine Ka_ 1 #[.int .u64 a0_0, .int .u64 a0_1, .int .u64 a0_2, .int .u64 a0_3, .int .i64 a0_4, .bool a0_5, .slice A0_6 l0_6.length c0_6, .bool true] 35 ?_; intro gb275 hg w6 hbox hb; have BK275 := Aside0.mk (hbox); have GW275 := Kw_ HB hg; have GE275 := GW275; replace HB := Ks_ HB hb; clear hb hbox hg) | ((with_reducible refine gate_dst (N := 2) rfl ?_); refine Ka_ 2 #[.int .u64 0, .int .u64 0, .int .u64 0, .int .u64 0, .int .i64 0, .slice none 0 0] 43 ?_; intro gb276 hg w7 hbox hb; have BK276 := Aside0.mk (hbox); have GW276 := Kw_ HB hg; have GE276 := GW276; have NB275_276 := Kl_ BK275 hg; have NB276_275 := Kr_ BK275 hg; replace BK275 := Kb_ BK275 hb; replace HB := Ks_ HB hb; clear hb hbox hg; have hnb8 := NB275_276.out; have hnc8 := NB276_275.out; obtain ⟨hcz9_0, hcz9_1, hcz9_2, hcz9_3, hcz9_4, hcz9_5, hcz9_6, hcz9_7, hfz9_0, hfz9_1, hfz9_2, hfz9_3, hfz9_4, hfz9_5, hfz9_6, hfz9_7⟩ := Ke8_ BK275.out))
 have n0_ : Aside0 ((w7.setCell ⟨gb275, 5, none⟩ (.bool true)).heap[gb275]? = some (.cells #[.int .u64 a0_0, .int .u64 a0_1, .int .u64 a0_2, .int .u64 a0_3, .int .i64 a0_4, .bool true, .slice A0_6 l0_6.length c0_6, .bool true] 35 (0, 0))) := ⟨by refine Kv_ ?_; refine blk_put (cs := #[.int .u64 a0_0, .int .u64 a0_1, .int .u64 a0_2, .int .u64 a0_3, .int .i64 a0_4, .bool a0_5, .slice A0_6 l0_6.length c0_6, .bool true]) ?_ 5 _ rfl; exact Kq_ BK275⟩
 have n1_ : Aside0 ((w7.setCell ⟨gb275, 5, none⟩ (.bool true)).heap[gb276]? = some (.cells #[.int .u64 0, .int .u64 0, .int .u64 0, .int .u64 0, .int .i64 0, .slice none 0 0] 43 (0, 0))) := ⟨by exact K1b_ BK276 NB276_275⟩
 have n2_ : Aside0 (Below w.heap.size w (w7.setCell ⟨gb275, 5, none⟩ (.bool true))) := ⟨K2a_ HB GE275 GE276⟩
 (try clear BK275)
 (try clear BK276)
 (try clear HB)
 generalize (w7.setCell ⟨gb275, 5, none⟩ (.bool true)) = w10 at n0_ n1_ n2_ ⊢
 have BK275 := n0_
 have BK276 := n1_
 have HB := n2_
 clear n0_ n1_ n2_
 replace BK275 := Kd_ BK275
 replace BK276 := Kd_ BK276
 replace HB := Aside0.mk (below_drew1 HB.out)
 refine start_ (n := 9) (S := fun w' => w'.cell? ⟨gb275, 0, none⟩ = some (.int .u64 a0_0) ∧ w'.cell? ⟨gb275, 1, none⟩ = some (.int .u64 a0_1) ∧ w'.cell? ⟨gb275, 2, none⟩ = some (.int .u64 a0_2) ∧ w'.cell? ⟨gb275, 3, none⟩ = some (.int .u64 a0_3) ∧ w'.cell? ⟨gb275, 4, none⟩ = some (.int .i64 a0_4) ∧ w'.cell? ⟨gb275, 5, none⟩ = some (.bool true) ∧ w'.cell? ⟨gb275, 6, none⟩ = some (.slice A0_6 l0_6.length c0_6) ∧ w'.cell? ⟨gb275, 7, none⟩ = some (.bool true)) (ds := []) (mB_ 9 0) (by kernel_rfl) rfl rfl (Kc8_ BK275.out) (fun hHeld => ?_); refine with_tabW tenementlaw08_Deal_deal.tab4 tenementlaw08_Deal_deal.bits4 (fun HT_ HW_ => ?_)
 generalize w10.drew = w11 at BK275 BK276 HB hHeld ⊢
 refine Kp_ 0 16 (mB_ 9 1) (any_of HT_.out (by kernel_rfl)) ?_
 refine Kp_ 3 19 (mB_ 9 9) (any_of HT_.out (by kernel_rfl)) ?_
 refine Ko_ 1 17 (mB_ 9 11) (take_ofW HT_.out HW_.out (by kernel_rfl)) hHeld ?_
 refine Ko_ 4 20 (mB_ 9 27) (take_ofW HT_.out HW_.out (by kernel_rfl)) hHeld ?_
 refine join_ (σ := Value × Nat) 1 (mB_ 9 255) (fun s_ => [(18, .agg #[.int .u64 t285, .int .u64 t286, .int .u64 t287, .int .u64 t288, .int .i64 t289]), (21, s_.1), (3, .pointer (some ⟨s_.2, 0, none⟩)), (22, .agg #[.int .u64 t285, .int .u64 t286, .int .u64 t287, .int .u64 t288, .int .i64 t289, s_.1])]) (fun s_ w' => (w'.cell? ⟨gb275, 0, none⟩ = some (.int .u64 a0_0) ∧ w'.cell? ⟨gb275, 1, none⟩ = some (.int .u64 a0_1) ∧ w'.cell? ⟨gb275, 2, none⟩ = some (.int .u64 a0_2) ∧ w'.cell? ⟨gb275, 3, none⟩ = some (.int .u64 a0_3) ∧ w'.cell? ⟨gb275, 4, none⟩ = some (.int .i64 a0_4) ∧ w'.cell? ⟨gb275, 5, none⟩ = some (.bool true) ∧ w'.cell? ⟨gb275, 6, none⟩ = some (.slice A0_6 l0_6.length c0_6) ∧ w'.cell? ⟨gb275, 7, none⟩ = some (.bool true)) ∧ (Kd.R k23 23 w' w.heap.size (fun _ => True) s_.1 t290) ∧ (w'.heap[gb275]? = some (.cells #[.int .u64 a0_0, .int .u64 a0_1, .int .u64 a0_2, .int .u64 a0_3, .int .i64 a0_4, .bool true, .slice A0_6 l0_6.length c0_6, .bool true] 35 (0, 0))) ∧ (w'.heap[gb276]? = some (.cells #[.int .u64 0, .int .u64 0, .int .u64 0, .int .u64 0, .int .i64 0, .slice none 0 0] 43 (0, 0))) ∧ (w'.heap[s_.2]? = some (.cells #[.int .u64 0, .int .u64 0, .int .u64 0, .int .u64 0, .int .i64 0, .slice none 0 0] 43 (0, 0))) ∧ (w.heap.size ≤ s_.2) ∧ (w.heap.size ≤ s_.2) ∧ (gb275 ≠ s_.2) ∧ (s_.2 ≠ gb275) ∧ (gb276 ≠ s_.2) ∧ (s_.2 ≠ gb276) ∧ (Below w.heap.size w w')) ?_ ?_
 rotate_left
 ·intro hCont
  refine two_ (i := 2) (j := 7) (Ni := some 18) (Nj := some 3) (mB_ 9 31) (mB_ 9 155) rfl rfl rfl rfl (two_of HT_.out (by kernel_rfl)) (by decide) (by decide) (fun K hK => ?_) (fun K hK => ?_)
  ·skip
   refine goes_ Try.func33 (by kernel_rfl) rfl #[.agg #[.int .u64 a0_0, .int .u64 a0_1, .int .u64 a0_2, .int .u64 a0_3, .int .i64 a0_4, .bool true]] (by rfl) rfl rfl (by (try simp only [List.map_toArray, List.map_cons, List.map_nil]); first | done | rfl | (simp only [List.length_drop, List.length_take]; rfl)) ?_
   with_reducible refine (tenementlaw08_Mark_mark.calls k a0_0 a0_1 a0_2 a0_3 a0_4 true t285 t286 t287 t288 t289 _ A3.out).mono ?_
   rintro e w12 ⟨rfl, hb⟩
   refine ⟨_, rfl, ?_⟩
   replace BK275 := Kb_ BK275 hb
   replace BK276 := Kb_ BK276 hb
   replace HB := Ks_ HB hb
   (try clear hb)
   (try clear hb2)
   (try clear hk)
   (try clear hi)
   refine hK.out _ _ (Kc8_ BK275.out) (fun hHeld => ?_)
   clear hK K
   refine Kn_ 18 ?_
   refine two_ (i := 5) (j := 7) (Ni := some 21) (Nj := some 3) (mB_ 9 63) (mB_ 9 159) rfl rfl rfl rfl (two_of HT_.out (by kernel_rfl)) (by decide) (by decide) (fun K hK => ?_) (fun K hK => ?_)
   ·skip
    refine goes_ Try.func34 (by kernel_rfl) rfl #[.slice A0_6 l0_6.length c0_6, .int .i64 8, .bool true] (by rfl) rfl rfl (by (try simp only [List.map_toArray, List.map_cons, List.map_nil]); first | done | rfl | (simp only [List.length_drop, List.length_take]; rfl)) ?_
    with_reducible refine (tenementlaw08_writes.calls k _ _ l0_6 8 true t290 _ ?side1 ?side2 A4.out).mono ?_
    (case side1 => repeat (first | exact (Kd.C_below HR0_6.out HB.out) | (with_reducible refine Kd.C_alloc ?_ _) | (with_reducible refine Kd.C_drewN ?_ _) | (with_reducible refine Kd.C_drew ?_)))
    (case side2 => exact HC0_6.out)
    rintro e w13 ⟨v291, rfl, ho0, hb⟩
    refine ⟨_, rfl, ?_⟩
    have HO292 := Aside0.mk (Kd.R_lower ho0 (below_size (K2a_ HB GE275 GE276)))
    replace BK275 := Kb_ BK275 hb
    replace BK276 := Kb_ BK276 hb
    replace HB := Ks_ HB hb
    (try clear hb)
    (try clear hb2)
    (try clear hk)
    (try clear hi)
    (try clear ho0)
    obtain ⟨Ao14, co14, eo14⟩ := Kd.R_slice HO292.out
    (first | subst eo14 | (injection eo14 with f1_ f2_ f3_; have f4_ := f1_.symm; have f5_ := f3_.symm; clear f1_ f2_ f3_; subst f4_; subst f5_))
    refine hK.out _ _ (Kc8_ BK275.out) (fun hHeld => ?_)
    clear hK K
    refine Kn_ 21 ?_
    refine Kp_ 6 22 (mB_ 9 127) (any_of HT_.out (by kernel_rfl)) ?_
    refine one_ (i := 7) (N := some 3) (mB_ 9 255) rfl rfl (one_of HT_.out (by kernel_rfl)) (by decide) (fun K hK => ?_)
    refine box_step ?hg (N := 3) ?hd (cs := #[.int .u64 0, .int .u64 0, .int .u64 0, .int .u64 0, .int .i64 0, .slice none 0 0]) (t := 43) ?hr ?_; (case hd => rfl); (case hg => rfl); (case hr => first | (go_simp; done) | (go_simp; rfl))
    intro gb293 hg w15 hbox hb
    have BK293 := Aside0.mk (hbox)
    have GW293 := Kw_ HB hg
    have GE293 := GW293
    have NB275_293 := Kl_ BK275 hg
    have NB293_275 := Kr_ BK275 hg
    have NB276_293 := Kl_ BK276 hg
    have NB293_276 := Kr_ BK276 hg
    replace HO292 := Aside0.mk (Kd.R_below (Ku_ HO292) hb)
    replace BK275 := Kb_ BK275 hb
    replace BK276 := Kb_ BK276 hb
    replace HB := Ks_ HB hb
    clear hb hbox hg
    refine hK.out _ _ (Kc8_ BK275.out) (fun hHeld => ?_)
    clear hK K
    refine Kn_ 3 ?_
    exact norm_ (by simp only [putAll, Act.put, List.setIfInBounds_toArray, List.set_cons_zero, List.set_cons_succ]) (hCont (.slice Ao14 t290.length co14, gb293) _ ⟨hHeld, (Ku_ HO292), (Kq_ BK275), (Kq_ BK276), (Kq_ BK293), GW293.out, GE293.out, NB275_293.out, NB293_275.out, NB276_293.out, NB293_276.out, (K3a_ HB GE275 GE276 GE293)⟩)
   ·skip
    refine box_step ?hg (N := 3) ?hd (cs := #[.int .u64 0, .int .u64 0, .int .u64 0, .int .u64 0, .int .i64 0, .slice none 0 0]) (t := 43) ?hr ?_; (case hd => rfl); (case hg => rfl); (case hr => first | (go_simp; done) | (go_simp; rfl))
    intro gb293 hg w13 hbox hb
    have BK293 := Aside0.mk (hbox)
    have GW293 := Kw_ HB hg
    have GE293 := GW293
    have NB275_293 := Kl_ BK275 hg
    have NB293_275 := Kr_ BK275 hg
    have NB276_293 := Kl_ BK276 hg
    have NB293_276 := Kr_ BK276 hg
    replace BK275 := Kb_ BK275 hb
    replace BK276 := Kb_ BK276 hb
    replace HB := Ks_ HB hb
    clear hb hbox hg
    refine hK.out _ _ (Kc8_ BK275.out) (fun hHeld => ?_)
    clear hK K
    refine Kn_ 3 ?_
    refine one_ (i := 5) (N := some 21) (mB_ 9 191) rfl rfl (one_of HT_.out (by kernel_rfl)) (by decide) (fun K hK => ?_)
    refine goes_ Try.func34 (by kernel_rfl) rfl #[.slice A0_6 l0_6.length c0_6, .int .i64 8, .bool true] (by rfl) rfl rfl (by (try simp only [List.map_toArray, List.map_cons, List.map_nil]); first | done | rfl | (simp only [List.length_drop, List.length_take]; rfl)) ?_
    with_reducible refine (tenementlaw08_writes.calls k _ _ l0_6 8 true t290 _ ?side1 ?side2 A4.out).mono ?_
    (case side1 => repeat (first | exact (Kd.C_below HR0_6.out HB.out) | (with_reducible refine Kd.C_alloc ?_ _) | (with_reducible refine Kd.C_drewN ?_ _) | (with_reducible refine Kd.C_drew ?_)))
    (case side2 => exact HC0_6.out)
    rintro e w14 ⟨v291, rfl, ho0, hb⟩
    refine ⟨_, rfl, ?_⟩
    have HO292 := Aside0.mk (Kd.R_lower ho0 (below_size (K3a_ HB GE275 GE276 GE293)))
    replace BK275 := Kb_ BK275 hb
    replace BK276 := Kb_ BK276 hb
    replace BK293 := Kb_ BK293 hb
    replace HB := Ks_ HB hb
    (try clear hb)
    (try clear hb2)
    (try clear hk)
    (try clear hi)
    (try clear ho0)
    obtain ⟨Ao15, co15, eo15⟩ := Kd.R_slice HO292.out
    (first | subst eo15 | (injection eo15 with f1_ f2_ f3_; have f4_ := f1_.symm; have f5_ := f3_.symm; clear f1_ f2_ f3_; subst f4_; subst f5_))
    refine hK.out _ _ (Kc8_ BK275.out) (fun hHeld => ?_)
    clear hK K
    refine Kn_ 21 ?_
    refine Kp_ 6 22 (mB_ 9 255) (any_of HT_.out (by kernel_rfl)) ?_
    exact norm_ (by simp only [putAll, Act.put, List.setIfInBounds_toArray, List.set_cons_zero, List.set_cons_succ]) (hCont (.slice Ao15 t290.length co15, gb293) _ ⟨hHeld, (Ku_ HO292), (Kq_ BK275), (Kq_ BK276), (Kq_ BK293), GW293.out, GE293.out, NB275_293.out, NB293_275.out, NB276_293.out, NB293_276.out, (K3a_ HB GE275 GE276 GE293)⟩)
  ·skip
   refine box_step ?hg (N := 3) ?hd (cs := #[.int .u64 0, .int .u64 0, .int .u64 0, .int .u64 0, .int .i64 0, .slice none 0 0]) (t := 43) ?hr ?_; (case hd => rfl); (case hg => rfl); (case hr => first | (go_simp; done) | (go_simp; rfl))
   intro gb293 hg w12 hbox hb
   have BK293 := Aside0.mk (hbox)
   have GW293 := Kw_ HB hg
   have GE293 := GW293
   have NB275_293 := Kl_ BK275 hg
   have NB293_275 := Kr_ BK275 hg
   have NB276_293 := Kl_ BK276 hg
   have NB293_276 := Kr_ BK276 hg
   replace BK275 := Kb_ BK275 hb
   replace BK276 := Kb_ BK276 hb
   replace HB := Ks_ HB hb
   clear hb hbox hg
   refine hK.out _ _ (Kc8_ BK275.out) (fun hHeld => ?_)
   clear hK K
   refine Kn_ 3 ?_
   refine one_ (i := 2) (N := some 18) (mB_ 9 159) rfl rfl (one_of HT_.out (by kernel_rfl)) (by decide) (fun K hK => ?_)
   refine goes_ Try.func33 (by kernel_rfl) rfl #[.agg #[.int .u64 a0_0, .int .u64 a0_1, .int .u64 a0_2, .int .u64 a0_3, .int .i64 a0_4, .bool true]] (by rfl) rfl rfl (by (try simp only [List.map_toArray, List.map_cons, List.map_nil]); first | done | rfl | (simp only [List.length_drop, List.length_take]; rfl)) ?_
   with_reducible refine (tenementlaw08_Mark_mark.calls k a0_0 a0_1 a0_2 a0_3 a0_4 true t285 t286 t287 t288 t289 _ A3.out).mono ?_
   rintro e w13 ⟨rfl, hb⟩
   refine ⟨_, rfl, ?_⟩
   replace BK275 := Kb_ BK275 hb
   replace BK276 := Kb_ BK276 hb
   replace BK293 := Kb_ BK293 hb
   replace HB := Ks_ HB hb
   (try clear hb)
   (try clear hb2)
   (try clear hk)
   (try clear hi)
   refine hK.out _ _ (Kc8_ BK275.out) (fun hHeld => ?_)
   clear hK K
   refine Kn_ 18 ?_
   refine one_ (i := 5) (N := some 21) (mB_ 9 191) rfl rfl (one_of HT_.out (by kernel_rfl)) (by decide) (fun K hK => ?_)
   refine goes_ Try.func34 (by kernel_rfl) rfl #[.slice A0_6 l0_6.length c0_6, .int .i64 8, .bool true] (by rfl) rfl rfl (by (try simp only [List.map_toArray, List.map_cons, List.map_nil]); first | done | rfl | (simp only [List.length_drop, List.length_take]; rfl)) ?_
   with_reducible refine (tenementlaw08_writes.calls k _ _ l0_6 8 true t290 _ ?side1 ?side2 A4.out).mono ?_
   (case side1 => repeat (first | exact (Kd.C_below HR0_6.out HB.out) | (with_reducible refine Kd.C_alloc ?_ _) | (with_reducible refine Kd.C_drewN ?_ _) | (with_reducible refine Kd.C_drew ?_)))
   (case side2 => exact HC0_6.out)
   rintro e w14 ⟨v291, rfl, ho0, hb⟩
   refine ⟨_, rfl, ?_⟩
   have HO292 := Aside0.mk (Kd.R_lower ho0 (below_size (K3a_ HB GE275 GE276 GE293)))
   replace BK275 := Kb_ BK275 hb
   replace BK276 := Kb_ BK276 hb
   replace BK293 := Kb_ BK293 hb
   replace HB := Ks_ HB hb
   (try clear hb)
   (try clear hb2)
   (try clear hk)
   (try clear hi)
   (try clear ho0)
   obtain ⟨Ao15, co15, eo15⟩ := Kd.R_slice HO292.out
   (first | subst eo15 | (injection eo15 with f1_ f2_ f3_; have f4_ := f1_.symm; have f5_ := f3_.symm; clear f1_ f2_ f3_; subst f4_; subst f5_))
   refine hK.out _ _ (Kc8_ BK275.out) (fun hHeld => ?_)
   clear hK K
   refine Kn_ 21 ?_
   refine Kp_ 6 22 (mB_ 9 255) (any_of HT_.out (by kernel_rfl)) ?_
   exact norm_ (by simp only [putAll, Act.put, List.setIfInBounds_toArray, List.set_cons_zero, List.set_cons_succ]) (hCont (.slice Ao15 t290.length co15, gb293) _ ⟨hHeld, (Ku_ HO292), (Kq_ BK275), (Kq_ BK276), (Kq_ BK293), GW293.out, GE293.out, NB275_293.out, NB293_275.out, NB276_293.out, NB293_276.out, (K3a_ HB GE275 GE276 GE293)⟩)
 rintro ⟨v291, gb293⟩ w16 ⟨hS_, h0_, h1_, h2_, h3_, h4_, h5_, h6_, h7_, h8_, h9_, h10_⟩
 have n0_ : Aside0 (Kd.R k23 23 w16 w.heap.size (fun _ => True) v291 t290) := ⟨h0_⟩
 have n1_ : Aside0 (w16.heap[gb275]? = some (.cells #[.int .u64 a0_0, .int .u64 a0_1, .int .u64 a0_2, .int .u64 a0_3, .int .i64 a0_4, .bool true, .slice A0_6 l0_6.length c0_6, .bool true] 35 (0, 0))) := ⟨h1_⟩
 have n2_ : Aside0 (w16.heap[gb276]? = some (.cells #[.int .u64 0, .int .u64 0, .int .u64 0, .int .u64 0, .int .i64 0, .slice none 0 0] 43 (0, 0))) := ⟨h2_⟩
 have n3_ : Aside0 (w16.heap[gb293]? = some (.cells #[.int .u64 0, .int .u64 0, .int .u64 0, .int .u64 0, .int .i64 0, .slice none 0 0] 43 (0, 0))) := ⟨h3_⟩
 have n4_ : Aside0 (w.heap.size ≤ gb293) := ⟨h4_⟩
 have n5_ : Aside0 (w.heap.size ≤ gb293) := ⟨h5_⟩
 have n6_ : Aside0 (gb275 ≠ gb293) := ⟨h6_⟩
 have n7_ : Aside0 (gb293 ≠ gb275) := ⟨h7_⟩
 have n8_ : Aside0 (gb276 ≠ gb293) := ⟨h8_⟩
 have n9_ : Aside0 (gb293 ≠ gb276) := ⟨h9_⟩
 have n10_ : Aside0 (Below w.heap.size w w16) := ⟨h10_⟩
 clear BK275
 clear BK276
 clear HB
 clear h0_ h1_ h2_ h3_ h4_ h5_ h6_ h7_ h8_ h9_ h10_
 have HO292 := n0_
 have BK275 := n1_
 have BK276 := n2_
 have BK293 := n3_
 have GW293 := n4_
 have GE293 := n5_
 have NB275_293 := n6_
 have NB293_275 := n7_
 have NB276_293 := n8_
 have NB293_276 := n9_
 have HB := n10_
 clear n0_ n1_ n2_ n3_ n4_ n5_ n6_ n7_ n8_ n9_ n10_
 have hHeld : w16.cell? ⟨gb275, 0, none⟩ = some (.int .u64 a0_0) ∧ w16.cell? ⟨gb275, 1, none⟩ = some (.int .u64 a0_1) ∧ w16.cell? ⟨gb275, 2, none⟩ = some (.int .u64 a0_2) ∧ w16.cell? ⟨gb275, 3, none⟩ = some (.int .u64 a0_3) ∧ w16.cell? ⟨gb275, 4, none⟩ = some (.int .i64 a0_4) ∧ w16.cell? ⟨gb275, 5, none⟩ = some (.bool true) ∧ w16.cell? ⟨gb275, 6, none⟩ = some (.slice A0_6 l0_6.length c0_6) ∧ w16.cell? ⟨gb275, 7, none⟩ = some (.bool true) := hS_
 obtain ⟨Ao17, co17, eo17⟩ := Kd.R_slice HO292.out
 (first | subst eo17 | (injection eo17 with f1_ f2_ f3_; have f4_ := f1_.symm; have f5_ := f3_.symm; clear f1_ f2_ f3_; subst f4_; subst f5_))
 refine norm_ (a' := ?_) ?_ ?_
 rotate_left
 ·simp only [putAll, Act.put, List.setIfInBounds_toArray, List.set_cons_zero, List.set_cons_succ]
  rfl
 refine one_ (i := 8) (N := none) (mB_ 9 511) rfl rfl (one_of HT_.out (by kernel_rfl)) (by decide) (fun K hK => ?_)
 have hs18 : w16.cell? ⟨gb293, 0, none⟩ = some (.int .u64 0) := (blk_cell BK293.out 0).trans rfl
 have hfs18 := blk_frozen BK293.out 0
 have hns18_0 := NB275_293.out
 have hns18_1 := NB276_293.out
 have hms18_0 := NB293_275.out
 have hms18_1 := NB293_276.out
 have hs19 : w16.cell? ⟨gb293, 1, none⟩ = some (.int .u64 0) := (blk_cell BK293.out 1).trans rfl
 have hfs19 := blk_frozen BK293.out 1
 have hns19_0 := NB275_293.out
 have hns19_1 := NB276_293.out
 have hms19_0 := NB293_275.out
 have hms19_1 := NB293_276.out
 have hs20 : w16.cell? ⟨gb293, 2, none⟩ = some (.int .u64 0) := (blk_cell BK293.out 2).trans rfl
 have hfs20 := blk_frozen BK293.out 2
 have hns20_0 := NB275_293.out
 have hns20_1 := NB276_293.out
 have hms20_0 := NB293_275.out
 have hms20_1 := NB293_276.out
 have hs21 : w16.cell? ⟨gb293, 3, none⟩ = some (.int .u64 0) := (blk_cell BK293.out 3).trans rfl
 have hfs21 := blk_frozen BK293.out 3
 have hns21_0 := NB275_293.out
 have hns21_1 := NB276_293.out
 have hms21_0 := NB293_275.out
 have hms21_1 := NB293_276.out
 have hs22 : w16.cell? ⟨gb293, 4, none⟩ = some (.int .i64 0) := (blk_cell BK293.out 4).trans rfl
 have hfs22 := blk_frozen BK293.out 4
 have hns22_0 := NB275_293.out
 have hns22_1 := NB276_293.out
 have hms22_0 := NB293_275.out
 have hms22_1 := NB293_276.out
 have hs23 : w16.cell? ⟨gb293, 5, none⟩ = some (.slice none 0 0) := (blk_cell BK293.out 5).trans rfl
 have hfs23 := blk_frozen BK293.out 5
 have hns23_0 := NB275_293.out
 have hns23_1 := NB276_293.out
 have hms23_0 := NB293_275.out
 have hms23_1 := NB293_276.out
 refine skip_ (w1 := ?_) (by rfl) rfl ?_ ?_
 rotate_left
 ·go_simp
  rfl
 refine hK.out _ _ ⟨(Kj_ NB275_293 ((Kj_ NB275_293 ((Kj_ NB275_293 ((Kj_ NB275_293 ((Kj_ NB275_293 ((Kj_ NB275_293 (hHeld.1)))))))))))), (Kj_ NB275_293 ((Kj_ NB275_293 ((Kj_ NB275_293 ((Kj_ NB275_293 ((Kj_ NB275_293 ((Kj_ NB275_293 (hHeld.2.1)))))))))))), (Kj_ NB275_293 ((Kj_ NB275_293 ((Kj_ NB275_293 ((Kj_ NB275_293 ((Kj_ NB275_293 ((Kj_ NB275_293 (hHeld.2.2.1)))))))))))), (Kj_ NB275_293 ((Kj_ NB275_293 ((Kj_ NB275_293 ((Kj_ NB275_293 ((Kj_ NB275_293 ((Kj_ NB275_293 (hHeld.2.2.2.1)))))))))))), (Kj_ NB275_293 ((Kj_ NB275_293 ((Kj_ NB275_293 ((Kj_ NB275_293 ((Kj_ NB275_293 ((Kj_ NB275_293 (hHeld.2.2.2.2.1)))))))))))), (Kj_ NB275_293 ((Kj_ NB275_293 ((Kj_ NB275_293 ((Kj_ NB275_293 ((Kj_ NB275_293 ((Kj_ NB275_293 (hHeld.2.2.2.2.2.1)))))))))))), (Kj_ NB275_293 ((Kj_ NB275_293 ((Kj_ NB275_293 ((Kj_ NB275_293 ((Kj_ NB275_293 ((Kj_ NB275_293 (hHeld.2.2.2.2.2.2.1)))))))))))), (Kj_ NB275_293 ((Kj_ NB275_293 ((Kj_ NB275_293 ((Kj_ NB275_293 ((Kj_ NB275_293 ((Kj_ NB275_293 (hHeld.2.2.2.2.2.2.2))))))))))))⟩ (fun hHeld => ?_)
 clear hK K
 refine done_ (done_of HT_.out (by kernel_rfl)) ?_
 have hnb24 := NB293_275.out
 have hnc24 := NB275_293.out
 have hnb25 := NB293_276.out
 have hnc25 := NB276_293.out
 obtain ⟨hcz26_0, hcz26_1, hcz26_2, hcz26_3, hcz26_4, hcz26_5, hfz26_0, hfz26_1, hfz26_2, hfz26_3, hfz26_4, hfz26_5⟩ := Ke6_ BK293.out
 try go_wp2_with (first | ((with_reducible refine gate_dst (N := 28) rfl ?_); refine Kd.R_lit k23 _ 23 ?hg (N := 28) ?hd (xs := ([(⟨(⟨#[98, 48]⟩ : ByteArray), (⟨#[97]⟩ : ByteArray), (⟨#[118]⟩ : ByteArray), false⟩ : S23)] : List (S23))) (inner := [.string (⟨#[98, 48]⟩ : ByteArray), .string (⟨#[97]⟩ : ByteArray), .string (⟨#[118]⟩ : ByteArray), .bool false]) (ok := fun _ => True) (okp := fun _ => True) ?hr ?hp (fun _ hk => hk) trivial (Below.refl _ _) (Nat.le_refl _) (by simp) ?_; (case hd => rfl); (case hg => rfl); (case hr => first | (go_simp; done) | (go_simp; rfl)); (case hp => exact (Reps.c4 (show Kd.M k23 _ _ _ (⟨(⟨#[98, 48]⟩ : ByteArray), (⟨#[97]⟩ : ByteArray), (⟨#[118]⟩ : ByteArray), false⟩ : S23) [.string (⟨#[98, 48]⟩ : ByteArray), .string (⟨#[97]⟩ : ByteArray), .string (⟨#[118]⟩ : ByteArray), .bool false] from (k23_mkM _ _ _ (⟨(⟨#[98, 48]⟩ : ByteArray), (⟨#[97]⟩ : ByteArray), (⟨#[118]⟩ : ByteArray), false⟩ : S23) )) (Reps.none _ _))); intro v295 w27 ho28 hb hg_ hnew_; clear hg_ hnew_; (first | rw [← Ny294.out] at ho28 | (simp only [Int.reduceToNat] at ho28; rw [← Ny294.out] at ho28)); have HO296 := Aside0.mk (Kd.R_lower (Kd.R_new' ho28 (Kd.R_lt (by (with_reducible repeat (first | apply Kd.R_alloc | apply Kd.R_drewN | apply Kd.R_drew)); exact (Kd.R_mono (Kd.R_far (p := ⟨gb293, 5, none⟩) (Kd.R_far (p := ⟨gb293, 4, none⟩) (Kd.R_far (p := ⟨gb293, 3, none⟩) (Kd.R_far (p := ⟨gb293, 2, none⟩) (Kd.R_far (p := ⟨gb293, 1, none⟩) (Kd.R_far (p := ⟨gb293, 0, none⟩) (Kd.R_types HO292.out BK293.out (by decide)) (fun _ hk => hk.2) (.int .u64 t285)) (fun _ hk => hk.2) (.int .u64 t286)) (fun _ hk => hk.2) (.int .u64 t287)) (fun _ hk => hk.2) (.int .u64 t288)) (fun _ hk => hk.2) (.int .i64 t289)) (fun _ hk => hk.2) (.slice Ao17 t290.length co17)) (fun _ h_ => h_.1))))) (below_size (K3a_ HB GE275 GE276 GE293))); replace HO292 := Aside0.mk (Kd.R_elder' (by (with_reducible repeat (first | apply Kd.R_alloc | apply Kd.R_drewN | apply Kd.R_drew)); exact (Kd.R_mono (Kd.R_far (p := ⟨gb293, 5, none⟩) (Kd.R_far (p := ⟨gb293, 4, none⟩) (Kd.R_far (p := ⟨gb293, 3, none⟩) (Kd.R_far (p := ⟨gb293, 2, none⟩) (Kd.R_far (p := ⟨gb293, 1, none⟩) (Kd.R_far (p := ⟨gb293, 0, none⟩) (Kd.R_types HO292.out BK293.out (by decide)) (fun _ hk => hk.2) (.int .u64 t285)) (fun _ hk => hk.2) (.int .u64 t286)) (fun _ hk => hk.2) (.int .u64 t287)) (fun _ hk => hk.2) (.int .u64 t288)) (fun _ hk => hk.2) (.int .i64 t289)) (fun _ hk => hk.2) (.slice Ao17 t290.length co17)) (fun _ h_ => h_.1))) (Kd.R_base ho28) hb); replace BK275 := Kf_ BK275 NB275_293 hb; replace BK276 := Kf_ BK276 NB276_293 hb; replace BK293 := Aside0.mk (blk_below (g := gb293) (o := .cells #[.int .u64 t285, .int .u64 t286, .int .u64 t287, .int .u64 t288, .int .i64 t289, .slice Ao17 t290.length co17] 43 (0, 0)) (by refine Kv_ ?_; refine blk_put (cs := #[.int .u64 t285, .int .u64 t286, .int .u64 t287, .int .u64 t288, .int .i64 t289, .slice none 0 0]) ?_ 5 _ rfl; refine Kv_ ?_; refine blk_put (cs := #[.int .u64 t285, .int .u64 t286, .int .u64 t287, .int .u64 t288, .int .i64 0, .slice none 0 0]) ?_ 4 _ rfl; refine Kv_ ?_; refine blk_put (cs := #[.int .u64 t285, .int .u64 t286, .int .u64 t287, .int .u64 0, .int .i64 0, .slice none 0 0]) ?_ 3 _ rfl; refine Kv_ ?_; refine blk_put (cs := #[.int .u64 t285, .int .u64 t286, .int .u64 0, .int .u64 0, .int .i64 0, .slice none 0 0]) ?_ 2 _ rfl; refine Kv_ ?_; refine blk_put (cs := #[.int .u64 t285, .int .u64 0, .int .u64 0, .int .u64 0, .int .i64 0, .slice none 0 0]) ?_ 1 _ rfl; refine Kv_ ?_; refine blk_put (cs := #[.int .u64 0, .int .u64 0, .int .u64 0, .int .u64 0, .int .i64 0, .slice none 0 0]) ?_ 0 _ rfl; exact Kq_ BK293) hb); replace HB := Kt_ HB GE293 hb; clear hb ho28; obtain ⟨Ao29, co29, eo29⟩ := Kd.R_slice HO296.out; subst eo29; obtain ⟨hcz30_0, hcz30_1, hcz30_2, hcz30_3, hcz30_4, hcz30_5, hfz30_0, hfz30_1, hfz30_2, hfz30_3, hfz30_4, hfz30_5⟩ := Ke6_ BK293.out; obtain ⟨hcz31_0, hcz31_1, hcz31_2, hcz31_3, hcz31_4, hcz31_5, hfz31_0, hfz31_1, hfz31_2, hfz31_3, hfz31_4, hfz31_5⟩ := Ke6_ BK276.out))
 refine bodyPost_ret (results_cell_row rfl _ _ gb276 43 #[.int .u64 t285, .int .u64 t286, .int .u64 t287, .int .u64 t288, .int .i64 t289, .slice Ao29 y294.length co29] (0, 0) _ rfl (by refine Kv_ ?_; refine blk_put (cs := #[.int .u64 t285, .int .u64 t286, .int .u64 t287, .int .u64 t288, .int .i64 t289, .slice none 0 0]) ?_ 5 _ rfl; refine Kv_ ?_; refine blk_put (cs := #[.int .u64 t285, .int .u64 t286, .int .u64 t287, .int .u64 t288, .int .i64 0, .slice none 0 0]) ?_ 4 _ rfl; refine Kv_ ?_; refine blk_put (cs := #[.int .u64 t285, .int .u64 t286, .int .u64 t287, .int .u64 0, .int .i64 0, .slice none 0 0]) ?_ 3 _ rfl; refine Kv_ ?_; refine blk_put (cs := #[.int .u64 t285, .int .u64 t286, .int .u64 0, .int .u64 0, .int .i64 0, .slice none 0 0]) ?_ 2 _ rfl; refine Kv_ ?_; refine blk_put (cs := #[.int .u64 t285, .int .u64 0, .int .u64 0, .int .u64 0, .int .i64 0, .slice none 0 0]) ?_ 1 _ rfl; refine Kv_ ?_; refine blk_put (cs := #[.int .u64 0, .int .u64 0, .int .u64 0, .int .u64 0, .int .i64 0, .slice none 0 0]) ?_ 0 _ rfl; exact K1b_ BK276 NB276_293) Try.underlying43 rfl (by kernel_rfl)) rfl ?_
 exact ⟨_, by first | rfl | (simp [errW_none, errW_some] <;> rfl) | (simp [*, errW_none, errW_some] <;> rfl), by (with_reducible repeat (first | apply Kd.R_alloc | apply Kd.R_drewN | apply Kd.R_drew)); exact Kd.R_mono (Kd.R_far (p := ⟨gb276, 5, none⟩) (Kd.R_far (p := ⟨gb276, 4, none⟩) (Kd.R_far (p := ⟨gb276, 3, none⟩) (Kd.R_far (p := ⟨gb276, 2, none⟩) (Kd.R_far (p := ⟨gb276, 1, none⟩) (Kd.R_far (p := ⟨gb276, 0, none⟩) (Kd.R_far (p := ⟨gb293, 5, none⟩) (Kd.R_types (Kd.R_types HO296.out BK293.out (by decide)) BK276.out (by decide)) (fun _ hk => hk.1.2) (.slice Ao29 y294.length co29)) (fun _ hk => hk.2) (.int .u64 t285)) (fun _ hk => hk.2) (.int .u64 t286)) (fun _ hk => hk.2) (.int .u64 t287)) (fun _ hk => hk.2) (.int .u64 t288)) (fun _ hk => hk.2) (.int .i64 t289)) (fun _ hk => hk.2) (.slice Ao29 y294.length co29)) (fun _ hk => trivial), K3a_ HB GE275 GE276 GE293⟩
end Go.Proofs.Ytoogchgoiciggaa.Q
