import Derived.Test.YtoagfdpgnfinhaaGStreamTells2
import Derived.Test.YtoagfdpgnfinhaaGStreamTells5
import Derived.Test.YtoagfdpgnfinhaaGStreamTells7
import Derived.Test.YtoagfdpgnfinhaaGStreamTells6
import Derived.Test.YtoagfdpgnfinhaaGStreamTells1
import Derived.Deep.Slices
import Derived.OpenShut
import Derived.SizedLaws
import Derived.ChangeArms
import Derived.WideShapes
import Derived.ChangeShapes
import Derived.KernelRfl
import Derived.Laws.BitsAllLaws
import Derived.Test.YtoagfdpgnfinhaaGStreamTells0
import Derived.Test.YtoagfdpgnfinhaaGStreamTells3
import Derived.Test.YtoagfdpgnfinhaaGStreamTells4
namespace Go.Proofs.Ytoagfdpgnfinhaa.Q
open Go.RowKit Go.Proofs.YtoagfdpgnfinhaaW.PrintWords Go.Proofs.YtoagfdpgnfinhaaW.PrintLast Go.Proofs.YtoagfdpgnfinhaaW.PrintMore
attribute [local go_sem] max2_int min2_int max_two min_two max_three min_three max_four min_four   -- for this text's walks alone
set_option linter.unusedVariables false
set_option linter.unusedSimpArgs false
def tenementlaw15_refTxn.f (k : Nat) (a0_0 : Int) (a0_1 : Int) (a0_2 : Int) (a0_3 : Int) (a0_4 : Int) (l0_5 : List (S107)) : Option (Int × Int × Int × Int × Int × (List (S117))) := (tenementlaw15_refStamp.f a0_0 a0_1 a0_2 a0_3 a0_4).bind fun bt291 => ((tenementlaw15_refWrites.f k l0_5).bind fun t296 => (some (bt291.1, bt291.2.1, bt291.2.2.1, bt291.2.2.2.1, bt291.2.2.2.2, t296)))
def tenementlaw15_refTxn.T1 : Bool × List (List Nat × List Nat) := (true, [([], []), ([0], [0]), ([1], [1]), ([], []), ([3], [3]), ([4, 2], [4]), ([2, 5], [2, 5]), ([6, 5, 0, 1, 2, 3, 4, 5, 6], [6])])
def tenementlaw15_refTxn.B1 : List Nat := [0, 1, 3, 0, 8, 31, 63, 127]
theorem tenementlaw15_refTxn.tab1 : rtab .any (opsOf Try.f18 1) = tenementlaw15_refTxn.T1 := by kernel_rfl
theorem tenementlaw15_refTxn.bits1 : waitsOk tenementlaw15_refTxn.T1.2 tenementlaw15_refTxn.B1 = true := by kernel_rfl
set_option maxHeartbeats 8000000 in
set_option maxRecDepth 100000 in
theorem tenementlaw15_refTxn.calls (k : Nat) (a0_0 : Int) (a0_1 : Int) (a0_2 : Int) (a0_3 : Int) (a0_4 : Int) (A0_5 : Option Addr) (c0_5 : Nat) (l0_5 : List (S107)) (r1 : Int) (r2 : Int) (r3 : Int) (r4 : Int) (r5 : Int) (r6 : List (S117)) (w : World) (hr0_5 : Kd.C k107 w A0_5 l0_5.length l0_5) (hc0_5 : l0_5.length ≤ c0_5) (h : tenementlaw15_refTxn.f k a0_0 a0_1 a0_2 a0_3 a0_4 l0_5 = some (r1, r2, r3, r4, r5, r6)) :
  Calls Try.prog 18 #[.agg #[.int .u64 a0_0, .int .u64 a0_1, .int .u64 a0_2, .int .u64 a0_3, .int .i64 a0_4, .slice A0_5 l0_5.length c0_5]] w fun e w' => ∃ v5_ : Value, e = .returned (.agg #[.int .u64 r1, .int .u64 r2, .int .u64 r3, .int .u64 r4, .int .i64 r5, v5_]) ∧ Kd.R k117 117 w' w.heap.size (fun _ => True) v5_ r6 ∧ Below w.heap.size w w' := by
 have hu33 := Try.underlying33
 have hu55 := Try.underlying55
 have hu30 := Try.underlying30
 have HR0_5 := Aside0.mk hr0_5
 have HC0_5 := Aside0.mk hc0_5
 clear hr0_5 hc0_5
 have HB := Aside0.mk (Below.refl w.heap.size w)
 have H : ((tenementlaw15_refStamp.f a0_0 a0_1 a0_2 a0_3 a0_4).bind fun bt291 => ((tenementlaw15_refWrites.f k l0_5).bind fun t296 => (some (bt291.1, bt291.2.1, bt291.2.2.1, bt291.2.2.2.1, bt291.2.2.2.2, t296)))) = some (r1, r2, r3, r4, r5, r6) := h
 clear h
 replace H := Option.bind_eq_some_iff.mp H
 obtain ⟨⟨t291, t292, t293, t294, t295⟩, A20, H⟩ := H
 replace H : ((tenementlaw15_refWrites.f k l0_5).bind fun t296 => (some (t291, t292, t293, t294, t295, t296))) = some (r1, r2, r3, r4, r5, r6) := H
 have A2 := Aside0.mk A20
 clear A20
 replace H := Option.bind_eq_some_iff.mp H
 obtain ⟨t296, A30, H⟩ := H
 replace H : (some (t291, t292, t293, t294, t295, t296)) = some (r1, r2, r3, r4, r5, r6) := H
 have A3 := Aside0.mk A30
 clear A30
 simp only [Option.some.injEq, Prod.mk.injEq] at H
 obtain ⟨rfl, rfl, rfl, rfl, rfl, rfl⟩ := H
 go_enter Try.func18, Try.ntmps18
 try go_wp2_with (first | ((with_reducible refine gate_dst (N := 1) rfl ?_); refine Ka_ 1 #[.int .u64 a0_0, .int .u64 a0_1, .int .u64 a0_2, .int .u64 a0_3, .int .i64 a0_4, .slice A0_5 l0_5.length c0_5] 33 ?_; intro gb289 hg w4 hbox hb; have BK289 := Aside0.mk (hbox); have GW289 := Kw_ HB hg; have GE289 := GW289; replace HB := Ks_ HB hb; clear hb hbox hg) | ((with_reducible refine gate_dst (N := 2) rfl ?_); refine Ka_ 2 #[.int .u64 0, .int .u64 0, .int .u64 0, .int .u64 0, .int .i64 0, .slice none 0 0] 55 ?_; intro gb290 hg w5 hbox hb; have BK290 := Aside0.mk (hbox); have GW290 := Kw_ HB hg; have GE290 := GW290; have NB289_290 := Kl_ BK289 hg; have NB290_289 := Kr_ BK289 hg; replace BK289 := Kb_ BK289 hb; replace HB := Ks_ HB hb; clear hb hbox hg))
 replace BK289 := Kd_ BK289
 replace BK290 := Kd_ BK290
 replace HB := Aside0.mk (below_drew1 HB.out)
 refine start_ (n := 8) (S := fun w' => w'.cell? ⟨gb289, 0, none⟩ = some (.int .u64 a0_0) ∧ w'.cell? ⟨gb289, 1, none⟩ = some (.int .u64 a0_1) ∧ w'.cell? ⟨gb289, 2, none⟩ = some (.int .u64 a0_2) ∧ w'.cell? ⟨gb289, 3, none⟩ = some (.int .u64 a0_3) ∧ w'.cell? ⟨gb289, 4, none⟩ = some (.int .i64 a0_4) ∧ w'.cell? ⟨gb289, 5, none⟩ = some (.slice A0_5 l0_5.length c0_5)) (ds := []) (mB_ 8 0) (by kernel_rfl) rfl rfl (Kc6_ BK289.out) (fun hHeld => ?_); refine with_tabW tenementlaw15_refTxn.tab1 tenementlaw15_refTxn.bits1 (fun HT_ HW_ => ?_)
 generalize w5.drew = w6 at BK289 BK290 HB hHeld ⊢
 refine Kp_ 0 3 (mB_ 8 1) (any_of HT_.out (by kernel_rfl)) ?_
 refine Kp_ 3 6 (mB_ 8 9) (any_of HT_.out (by kernel_rfl)) ?_
 refine Ko_ 1 4 (mB_ 8 11) (take_ofW HT_.out HW_.out (by kernel_rfl)) hHeld ?_
 refine Ko_ 4 7 (mB_ 8 27) (take_ofW HT_.out HW_.out (by kernel_rfl)) hHeld ?_
 refine one_ (i := 2) (N := some 5) (mB_ 8 31) rfl rfl (one_of HT_.out (by kernel_rfl)) (by decide) (fun K hK => ?_)
 refine goes_ Try.func32 (by kernel_rfl) rfl #[.agg #[.int .u64 a0_0, .int .u64 a0_1, .int .u64 a0_2, .int .u64 a0_3, .int .i64 a0_4]] (by rfl) rfl rfl (by (try simp only [List.map_toArray, List.map_cons, List.map_nil]); first | done | rfl | (simp only [List.length_drop, List.length_take]; rfl)) ?_
 with_reducible refine (tenementlaw15_refStamp.calls a0_0 a0_1 a0_2 a0_3 a0_4 t291 t292 t293 t294 t295 _ A2.out).mono ?_
 rintro e w7 ⟨rfl, hb⟩
 refine ⟨_, rfl, ?_⟩
 replace BK289 := Kb_ BK289 hb
 replace BK290 := Kb_ BK290 hb
 replace HB := Ks_ HB hb
 (try clear hb)
 (try clear hb2)
 (try clear hk)
 (try clear hi)
 refine hK.out _ _ (Kc6_ BK289.out) (fun hHeld => ?_)
 clear hK K
 refine Kn_ 5 ?_
 refine one_ (i := 5) (N := some 8) (mB_ 8 63) rfl rfl (one_of HT_.out (by kernel_rfl)) (by decide) (fun K hK => ?_)
 refine goes_ Try.func57 (by kernel_rfl) rfl #[.slice A0_5 l0_5.length c0_5] (by rfl) rfl rfl (by (try simp only [List.map_toArray, List.map_cons, List.map_nil]); first | done | rfl | (simp only [List.length_drop, List.length_take]; rfl)) ?_
 with_reducible refine (tenementlaw15_refWrites.calls k _ _ l0_5 t296 _ ?side1 ?side2 A3.out).mono ?_
 (case side1 => repeat (first | exact (Kd.C_below HR0_5.out HB.out) | (with_reducible refine Kd.C_alloc ?_ _) | (with_reducible refine Kd.C_drewN ?_ _) | (with_reducible refine Kd.C_drew ?_)))
 (case side2 => exact HC0_5.out)
 rintro e w8 ⟨v297, rfl, ho0, hb⟩
 refine ⟨_, rfl, ?_⟩
 have HO298 := Aside0.mk (Kd.R_lower ho0 (below_size (K2a_ HB GE289 GE290)))
 replace BK289 := Kb_ BK289 hb
 replace BK290 := Kb_ BK290 hb
 replace HB := Ks_ HB hb
 (try clear hb)
 (try clear hb2)
 (try clear hk)
 (try clear hi)
 (try clear ho0)
 obtain ⟨Ao9, co9, eo9⟩ := Kd.R_slice HO298.out
 (first | subst eo9 | (injection eo9 with f1_ f2_ f3_; have f4_ := f1_.symm; have f5_ := f3_.symm; clear f1_ f2_ f3_; subst f4_; subst f5_))
 refine hK.out _ _ (Kc6_ BK289.out) (fun hHeld => ?_)
 clear hK K
 refine Kn_ 8 ?_
 refine Kp_ 6 9 (mB_ 8 127) (any_of HT_.out (by kernel_rfl)) ?_
 refine one_ (i := 7) (N := none) (mB_ 8 255) rfl rfl (one_of HT_.out (by kernel_rfl)) (by decide) (fun K hK => ?_)
 have hs10 : w8.cell? ⟨gb290, 0, none⟩ = some (.int .u64 0) := (blk_cell BK290.out 0).trans rfl
 have hfs10 := blk_frozen BK290.out 0
 have hns10_0 := NB289_290.out
 have hms10_0 := NB290_289.out
 have hs11 : w8.cell? ⟨gb290, 1, none⟩ = some (.int .u64 0) := (blk_cell BK290.out 1).trans rfl
 have hfs11 := blk_frozen BK290.out 1
 have hns11_0 := NB289_290.out
 have hms11_0 := NB290_289.out
 have hs12 : w8.cell? ⟨gb290, 2, none⟩ = some (.int .u64 0) := (blk_cell BK290.out 2).trans rfl
 have hfs12 := blk_frozen BK290.out 2
 have hns12_0 := NB289_290.out
 have hms12_0 := NB290_289.out
 have hs13 : w8.cell? ⟨gb290, 3, none⟩ = some (.int .u64 0) := (blk_cell BK290.out 3).trans rfl
 have hfs13 := blk_frozen BK290.out 3
 have hns13_0 := NB289_290.out
 have hms13_0 := NB290_289.out
 have hs14 : w8.cell? ⟨gb290, 4, none⟩ = some (.int .i64 0) := (blk_cell BK290.out 4).trans rfl
 have hfs14 := blk_frozen BK290.out 4
 have hns14_0 := NB289_290.out
 have hms14_0 := NB290_289.out
 have hs15 : w8.cell? ⟨gb290, 5, none⟩ = some (.slice none 0 0) := (blk_cell BK290.out 5).trans rfl
 have hfs15 := blk_frozen BK290.out 5
 have hns15_0 := NB289_290.out
 have hms15_0 := NB290_289.out
 refine skip_ (w1 := ?_) (by rfl) rfl ?_ ?_
 rotate_left
 ·go_simp
  rfl
 refine hK.out _ _ ⟨(Kj_ NB289_290 ((Kj_ NB289_290 ((Kj_ NB289_290 ((Kj_ NB289_290 ((Kj_ NB289_290 ((Kj_ NB289_290 (hHeld.1)))))))))))), (Kj_ NB289_290 ((Kj_ NB289_290 ((Kj_ NB289_290 ((Kj_ NB289_290 ((Kj_ NB289_290 ((Kj_ NB289_290 (hHeld.2.1)))))))))))), (Kj_ NB289_290 ((Kj_ NB289_290 ((Kj_ NB289_290 ((Kj_ NB289_290 ((Kj_ NB289_290 ((Kj_ NB289_290 (hHeld.2.2.1)))))))))))), (Kj_ NB289_290 ((Kj_ NB289_290 ((Kj_ NB289_290 ((Kj_ NB289_290 ((Kj_ NB289_290 ((Kj_ NB289_290 (hHeld.2.2.2.1)))))))))))), (Kj_ NB289_290 ((Kj_ NB289_290 ((Kj_ NB289_290 ((Kj_ NB289_290 ((Kj_ NB289_290 ((Kj_ NB289_290 (hHeld.2.2.2.2.1)))))))))))), (Kj_ NB289_290 ((Kj_ NB289_290 ((Kj_ NB289_290 ((Kj_ NB289_290 ((Kj_ NB289_290 ((Kj_ NB289_290 (hHeld.2.2.2.2.2))))))))))))⟩ (fun hHeld => ?_)
 clear hK K
 refine done_ (done_of HT_.out (by kernel_rfl)) ?_
 try go_wp2
 refine bodyPost_ret (results_cell_row rfl _ _ gb290 55 #[.int .u64 t291, .int .u64 t292, .int .u64 t293, .int .u64 t294, .int .i64 t295, .slice Ao9 t296.length co9] (0, 0) _ rfl (by refine Kv_ ?_; refine blk_put (cs := #[.int .u64 t291, .int .u64 t292, .int .u64 t293, .int .u64 t294, .int .i64 t295, .slice none 0 0]) ?_ 5 _ rfl; refine Kv_ ?_; refine blk_put (cs := #[.int .u64 t291, .int .u64 t292, .int .u64 t293, .int .u64 t294, .int .i64 0, .slice none 0 0]) ?_ 4 _ rfl; refine Kv_ ?_; refine blk_put (cs := #[.int .u64 t291, .int .u64 t292, .int .u64 t293, .int .u64 0, .int .i64 0, .slice none 0 0]) ?_ 3 _ rfl; refine Kv_ ?_; refine blk_put (cs := #[.int .u64 t291, .int .u64 t292, .int .u64 0, .int .u64 0, .int .i64 0, .slice none 0 0]) ?_ 2 _ rfl; refine Kv_ ?_; refine blk_put (cs := #[.int .u64 t291, .int .u64 0, .int .u64 0, .int .u64 0, .int .i64 0, .slice none 0 0]) ?_ 1 _ rfl; refine Kv_ ?_; refine blk_put (cs := #[.int .u64 0, .int .u64 0, .int .u64 0, .int .u64 0, .int .i64 0, .slice none 0 0]) ?_ 0 _ rfl; exact Kq_ BK290) Try.underlying55 rfl (by kernel_rfl)) rfl ?_
 exact ⟨_, by first | rfl | (simp [errW_none, errW_some] <;> rfl) | (simp [*, errW_none, errW_some] <;> rfl), by (with_reducible repeat (first | apply Kd.R_alloc | apply Kd.R_drewN | apply Kd.R_drew)); exact Kd.R_mono (Kd.R_far (p := ⟨gb290, 5, none⟩) (Kd.R_far (p := ⟨gb290, 4, none⟩) (Kd.R_far (p := ⟨gb290, 3, none⟩) (Kd.R_far (p := ⟨gb290, 2, none⟩) (Kd.R_far (p := ⟨gb290, 1, none⟩) (Kd.R_far (p := ⟨gb290, 0, none⟩) (Kd.R_types HO298.out BK290.out (by decide)) (fun _ hk => hk.2) (.int .u64 t291)) (fun _ hk => hk.2) (.int .u64 t292)) (fun _ hk => hk.2) (.int .u64 t293)) (fun _ hk => hk.2) (.int .u64 t294)) (fun _ hk => hk.2) (.int .i64 t295)) (fun _ hk => hk.2) (.slice Ao9 t296.length co9)) (fun _ hk => trivial), K2a_ HB GE289 GE290⟩
def tenementlaw15_refMsg.f (k : Nat) (a0_0 : Int) (a0_1 : Int) (a0_2 : Int) (a0_3 : Int) (a0_4 : Int) (a0_5 : Int) (a0_6 : Int) (a0_7 : Int) (l0_8 : List (S107)) : Option (Int × Int × Int × Int × Int × Int × Int × Int × (List (S117))) := (tenementlaw15_refTxn.f k a0_3 a0_4 a0_5 a0_6 a0_7 l0_8).bind fun bt430 => (some (a0_0, a0_1, a0_2, bt430.1, bt430.2.1, bt430.2.2.1, bt430.2.2.2.1, bt430.2.2.2.2.1, bt430.2.2.2.2.2))
def tenementlaw15_refMsg.T1 : Bool × List (List Nat × List Nat) := (true, [([], []), ([0], [0]), ([], []), ([2], [2]), ([], []), ([4], [4]), ([], []), ([6], [6]), ([7], [7]), ([1, 3, 5, 8], [1, 3, 5, 8]), ([9, 8, 0, 1, 2, 3, 4, 5, 6, 7, 8, 9], [9])])
def tenementlaw15_refMsg.B1 : List Nat := [0, 1, 0, 4, 0, 16, 0, 64, 192, 511, 1023]
theorem tenementlaw15_refMsg.tab1 : rtab .any (opsOf Try.f29 1) = tenementlaw15_refMsg.T1 := by kernel_rfl
theorem tenementlaw15_refMsg.bits1 : waitsOk tenementlaw15_refMsg.T1.2 tenementlaw15_refMsg.B1 = true := by kernel_rfl
set_option maxHeartbeats 8000000 in
set_option maxRecDepth 100000 in
theorem tenementlaw15_refMsg.calls (k : Nat) (a0_0 : Int) (a0_1 : Int) (a0_2 : Int) (a0_3 : Int) (a0_4 : Int) (a0_5 : Int) (a0_6 : Int) (a0_7 : Int) (A0_8 : Option Addr) (c0_8 : Nat) (l0_8 : List (S107)) (r1 : Int) (r2 : Int) (r3 : Int) (r4 : Int) (r5 : Int) (r6 : Int) (r7 : Int) (r8 : Int) (r9 : List (S117)) (w : World) (hr0_8 : Kd.C k107 w A0_8 l0_8.length l0_8) (hc0_8 : l0_8.length ≤ c0_8) (h : tenementlaw15_refMsg.f k a0_0 a0_1 a0_2 a0_3 a0_4 a0_5 a0_6 a0_7 l0_8 = some (r1, r2, r3, r4, r5, r6, r7, r8, r9)) :
  Calls Try.prog 29 #[.agg #[.int .i64 a0_0, .int .i64 a0_1, .int .u64 a0_2, .int .u64 a0_3, .int .u64 a0_4, .int .u64 a0_5, .int .u64 a0_6, .int .i64 a0_7, .slice A0_8 l0_8.length c0_8]] w fun e w' => ∃ v8_ : Value, e = .returned (.agg #[.int .i64 r1, .int .i64 r2, .int .u64 r3, .int .u64 r4, .int .u64 r5, .int .u64 r6, .int .u64 r7, .int .i64 r8, v8_]) ∧ Kd.R k117 117 w' w.heap.size (fun _ => True) v8_ r9 ∧ Below w.heap.size w w' := by
 have hu69 := Try.underlying69
 have hu75 := Try.underlying75
 have hu33 := Try.underlying33
 have HR0_8 := Aside0.mk hr0_8
 have HC0_8 := Aside0.mk hc0_8
 clear hr0_8 hc0_8
 have HB := Aside0.mk (Below.refl w.heap.size w)
 have H : ((tenementlaw15_refTxn.f k a0_3 a0_4 a0_5 a0_6 a0_7 l0_8).bind fun bt430 => (some (a0_0, a0_1, a0_2, bt430.1, bt430.2.1, bt430.2.2.1, bt430.2.2.2.1, bt430.2.2.2.2.1, bt430.2.2.2.2.2))) = some (r1, r2, r3, r4, r5, r6, r7, r8, r9) := h
 clear h
 replace H := Option.bind_eq_some_iff.mp H
 obtain ⟨⟨t430, t431, t432, t433, t434, t435⟩, A20, H⟩ := H
 replace H : (some (a0_0, a0_1, a0_2, t430, t431, t432, t433, t434, t435)) = some (r1, r2, r3, r4, r5, r6, r7, r8, r9) := H
 have A2 := Aside0.mk A20
 clear A20
 simp only [Option.some.injEq, Prod.mk.injEq] at H
 obtain ⟨rfl, rfl, rfl, rfl, rfl, rfl, rfl, rfl, rfl⟩ := H
 go_enter Try.func29, Try.ntmps29
 try go_wp2_with (first | ((with_reducible refine gate_dst (N := 1) rfl ?_); refine Ka_ 1 #[.int .i64 a0_0, .int .i64 a0_1, .int .u64 a0_2, .int .u64 a0_3, .int .u64 a0_4, .int .u64 a0_5, .int .u64 a0_6, .int .i64 a0_7, .slice A0_8 l0_8.length c0_8] 69 ?_; intro gb428 hg w3 hbox hb; have BK428 := Aside0.mk (hbox); have GW428 := Kw_ HB hg; have GE428 := GW428; replace HB := Ks_ HB hb; clear hb hbox hg) | ((with_reducible refine gate_dst (N := 2) rfl ?_); refine Ka_ 2 #[.int .i64 0, .int .i64 0, .int .u64 0, .int .u64 0, .int .u64 0, .int .u64 0, .int .u64 0, .int .i64 0, .slice none 0 0] 75 ?_; intro gb429 hg w4 hbox hb; have BK429 := Aside0.mk (hbox); have GW429 := Kw_ HB hg; have GE429 := GW429; have NB428_429 := Kl_ BK428 hg; have NB429_428 := Kr_ BK428 hg; replace BK428 := Kb_ BK428 hb; replace HB := Ks_ HB hb; clear hb hbox hg))
 replace BK428 := Kd_ BK428
 replace BK429 := Kd_ BK429
 replace HB := Aside0.mk (below_drew1 HB.out)
 refine start_ (n := 11) (S := fun w' => w'.cell? ⟨gb428, 0, none⟩ = some (.int .i64 a0_0) ∧ w'.cell? ⟨gb428, 1, none⟩ = some (.int .i64 a0_1) ∧ w'.cell? ⟨gb428, 2, none⟩ = some (.int .u64 a0_2) ∧ w'.cell? ⟨gb428, 3, none⟩ = some (.int .u64 a0_3) ∧ w'.cell? ⟨gb428, 4, none⟩ = some (.int .u64 a0_4) ∧ w'.cell? ⟨gb428, 5, none⟩ = some (.int .u64 a0_5) ∧ w'.cell? ⟨gb428, 6, none⟩ = some (.int .u64 a0_6) ∧ w'.cell? ⟨gb428, 7, none⟩ = some (.int .i64 a0_7) ∧ w'.cell? ⟨gb428, 8, none⟩ = some (.slice A0_8 l0_8.length c0_8)) (ds := []) (mB_ 11 0) (by kernel_rfl) rfl rfl (Kc9_ BK428.out) (fun hHeld => ?_); refine with_tabW tenementlaw15_refMsg.tab1 tenementlaw15_refMsg.bits1 (fun HT_ HW_ => ?_)
 generalize w4.drew = w5 at BK428 BK429 HB hHeld ⊢
 refine Kp_ 0 3 (mB_ 11 1) (any_of HT_.out (by kernel_rfl)) ?_
 refine Kp_ 2 5 (mB_ 11 5) (any_of HT_.out (by kernel_rfl)) ?_
 refine Kp_ 4 7 (mB_ 11 21) (any_of HT_.out (by kernel_rfl)) ?_
 refine Kp_ 6 9 (mB_ 11 85) (any_of HT_.out (by kernel_rfl)) ?_
 refine Ko_ 1 4 (mB_ 11 87) (take_ofW HT_.out HW_.out (by kernel_rfl)) hHeld ?_
 refine Ko_ 3 6 (mB_ 11 95) (take_ofW HT_.out HW_.out (by kernel_rfl)) hHeld ?_
 refine Ko_ 5 8 (mB_ 11 127) (take_ofW HT_.out HW_.out (by kernel_rfl)) hHeld ?_
 refine Ko_ 7 10 (mB_ 11 255) (take_ofW HT_.out HW_.out (by kernel_rfl)) hHeld ?_
 refine one_ (i := 8) (N := some 11) (mB_ 11 511) rfl rfl (one_of HT_.out (by kernel_rfl)) (by decide) (fun K hK => ?_)
 refine goes_ Try.func18 (by kernel_rfl) rfl #[.agg #[.int .u64 a0_3, .int .u64 a0_4, .int .u64 a0_5, .int .u64 a0_6, .int .i64 a0_7, .slice A0_8 l0_8.length c0_8]] (by rfl) rfl rfl (by (try simp only [List.map_toArray, List.map_cons, List.map_nil]); first | done | rfl | (simp only [List.length_drop, List.length_take]; rfl)) ?_
 with_reducible refine (tenementlaw15_refTxn.calls k a0_3 a0_4 a0_5 a0_6 a0_7 _ _ l0_8 t430 t431 t432 t433 t434 t435 _ ?side1 ?side2 A2.out).mono ?_
 (case side1 => repeat (first | exact (Kd.C_below HR0_8.out HB.out) | (with_reducible refine Kd.C_alloc ?_ _) | (with_reducible refine Kd.C_drewN ?_ _) | (with_reducible refine Kd.C_drew ?_)))
 (case side2 => exact HC0_8.out)
 rintro e w6 ⟨v436, rfl, ho0, hb⟩
 refine ⟨_, rfl, ?_⟩
 have HO437 := Aside0.mk (Kd.R_lower ho0 (below_size (K2a_ HB GE428 GE429)))
 replace BK428 := Kb_ BK428 hb
 replace BK429 := Kb_ BK429 hb
 replace HB := Ks_ HB hb
 (try clear hb)
 (try clear hb2)
 (try clear hk)
 (try clear hi)
 (try clear ho0)
 obtain ⟨Ao7, co7, eo7⟩ := Kd.R_slice HO437.out
 (first | subst eo7 | (injection eo7 with f1_ f2_ f3_; have f4_ := f1_.symm; have f5_ := f3_.symm; clear f1_ f2_ f3_; subst f4_; subst f5_))
 refine hK.out _ _ (Kc9_ BK428.out) (fun hHeld => ?_)
 clear hK K
 refine Kn_ 11 ?_
 refine Kp_ 9 12 (mB_ 11 1023) (any_of HT_.out (by kernel_rfl)) ?_
 refine one_ (i := 10) (N := none) (mB_ 11 2047) rfl rfl (one_of HT_.out (by kernel_rfl)) (by decide) (fun K hK => ?_)
 have hs8 : w6.cell? ⟨gb429, 0, none⟩ = some (.int .i64 0) := (blk_cell BK429.out 0).trans rfl
 have hfs8 := blk_frozen BK429.out 0
 have hns8_0 := NB428_429.out
 have hms8_0 := NB429_428.out
 have hs9 : w6.cell? ⟨gb429, 1, none⟩ = some (.int .i64 0) := (blk_cell BK429.out 1).trans rfl
 have hfs9 := blk_frozen BK429.out 1
 have hns9_0 := NB428_429.out
 have hms9_0 := NB429_428.out
 have hs10 : w6.cell? ⟨gb429, 2, none⟩ = some (.int .u64 0) := (blk_cell BK429.out 2).trans rfl
 have hfs10 := blk_frozen BK429.out 2
 have hns10_0 := NB428_429.out
 have hms10_0 := NB429_428.out
 have hs11 : w6.cell? ⟨gb429, 3, none⟩ = some (.int .u64 0) := (blk_cell BK429.out 3).trans rfl
 have hfs11 := blk_frozen BK429.out 3
 have hns11_0 := NB428_429.out
 have hms11_0 := NB429_428.out
 have hs12 : w6.cell? ⟨gb429, 4, none⟩ = some (.int .u64 0) := (blk_cell BK429.out 4).trans rfl
 have hfs12 := blk_frozen BK429.out 4
 have hns12_0 := NB428_429.out
 have hms12_0 := NB429_428.out
 have hs13 : w6.cell? ⟨gb429, 5, none⟩ = some (.int .u64 0) := (blk_cell BK429.out 5).trans rfl
 have hfs13 := blk_frozen BK429.out 5
 have hns13_0 := NB428_429.out
 have hms13_0 := NB429_428.out
 have hs14 : w6.cell? ⟨gb429, 6, none⟩ = some (.int .u64 0) := (blk_cell BK429.out 6).trans rfl
 have hfs14 := blk_frozen BK429.out 6
 have hns14_0 := NB428_429.out
 have hms14_0 := NB429_428.out
 have hs15 : w6.cell? ⟨gb429, 7, none⟩ = some (.int .i64 0) := (blk_cell BK429.out 7).trans rfl
 have hfs15 := blk_frozen BK429.out 7
 have hns15_0 := NB428_429.out
 have hms15_0 := NB429_428.out
 have hs16 : w6.cell? ⟨gb429, 8, none⟩ = some (.slice none 0 0) := (blk_cell BK429.out 8).trans rfl
 have hfs16 := blk_frozen BK429.out 8
 have hns16_0 := NB428_429.out
 have hms16_0 := NB429_428.out
 refine skip_ (w1 := ?_) (by rfl) rfl ?_ ?_
 rotate_left
 ·go_simp
  rfl
 refine hK.out _ _ ⟨(Kj_ NB428_429 ((Kj_ NB428_429 ((Kj_ NB428_429 ((Kj_ NB428_429 ((Kj_ NB428_429 ((Kj_ NB428_429 ((Kj_ NB428_429 ((Kj_ NB428_429 ((Kj_ NB428_429 (hHeld.1)))))))))))))))))), (Kj_ NB428_429 ((Kj_ NB428_429 ((Kj_ NB428_429 ((Kj_ NB428_429 ((Kj_ NB428_429 ((Kj_ NB428_429 ((Kj_ NB428_429 ((Kj_ NB428_429 ((Kj_ NB428_429 (hHeld.2.1)))))))))))))))))), (Kj_ NB428_429 ((Kj_ NB428_429 ((Kj_ NB428_429 ((Kj_ NB428_429 ((Kj_ NB428_429 ((Kj_ NB428_429 ((Kj_ NB428_429 ((Kj_ NB428_429 ((Kj_ NB428_429 (hHeld.2.2.1)))))))))))))))))), (Kj_ NB428_429 ((Kj_ NB428_429 ((Kj_ NB428_429 ((Kj_ NB428_429 ((Kj_ NB428_429 ((Kj_ NB428_429 ((Kj_ NB428_429 ((Kj_ NB428_429 ((Kj_ NB428_429 (hHeld.2.2.2.1)))))))))))))))))), (Kj_ NB428_429 ((Kj_ NB428_429 ((Kj_ NB428_429 ((Kj_ NB428_429 ((Kj_ NB428_429 ((Kj_ NB428_429 ((Kj_ NB428_429 ((Kj_ NB428_429 ((Kj_ NB428_429 (hHeld.2.2.2.2.1)))))))))))))))))), (Kj_ NB428_429 ((Kj_ NB428_429 ((Kj_ NB428_429 ((Kj_ NB428_429 ((Kj_ NB428_429 ((Kj_ NB428_429 ((Kj_ NB428_429 ((Kj_ NB428_429 ((Kj_ NB428_429 (hHeld.2.2.2.2.2.1)))))))))))))))))), (Kj_ NB428_429 ((Kj_ NB428_429 ((Kj_ NB428_429 ((Kj_ NB428_429 ((Kj_ NB428_429 ((Kj_ NB428_429 ((Kj_ NB428_429 ((Kj_ NB428_429 ((Kj_ NB428_429 (hHeld.2.2.2.2.2.2.1)))))))))))))))))), (Kj_ NB428_429 ((Kj_ NB428_429 ((Kj_ NB428_429 ((Kj_ NB428_429 ((Kj_ NB428_429 ((Kj_ NB428_429 ((Kj_ NB428_429 ((Kj_ NB428_429 ((Kj_ NB428_429 (hHeld.2.2.2.2.2.2.2.1)))))))))))))))))), (Kj_ NB428_429 ((Kj_ NB428_429 ((Kj_ NB428_429 ((Kj_ NB428_429 ((Kj_ NB428_429 ((Kj_ NB428_429 ((Kj_ NB428_429 ((Kj_ NB428_429 ((Kj_ NB428_429 (hHeld.2.2.2.2.2.2.2.2))))))))))))))))))⟩ (fun hHeld => ?_)
 clear hK K
 refine done_ (done_of HT_.out (by kernel_rfl)) ?_
 try go_wp2
 refine bodyPost_ret (results_cell_row rfl _ _ gb429 75 #[.int .i64 a0_0, .int .i64 a0_1, .int .u64 a0_2, .int .u64 t430, .int .u64 t431, .int .u64 t432, .int .u64 t433, .int .i64 t434, .slice Ao7 t435.length co7] (0, 0) _ rfl (by refine Kv_ ?_; refine blk_put (cs := #[.int .i64 a0_0, .int .i64 a0_1, .int .u64 a0_2, .int .u64 t430, .int .u64 t431, .int .u64 t432, .int .u64 t433, .int .i64 t434, .slice none 0 0]) ?_ 8 _ rfl; refine Kv_ ?_; refine blk_put (cs := #[.int .i64 a0_0, .int .i64 a0_1, .int .u64 a0_2, .int .u64 t430, .int .u64 t431, .int .u64 t432, .int .u64 t433, .int .i64 0, .slice none 0 0]) ?_ 7 _ rfl; refine Kv_ ?_; refine blk_put (cs := #[.int .i64 a0_0, .int .i64 a0_1, .int .u64 a0_2, .int .u64 t430, .int .u64 t431, .int .u64 t432, .int .u64 0, .int .i64 0, .slice none 0 0]) ?_ 6 _ rfl; refine Kv_ ?_; refine blk_put (cs := #[.int .i64 a0_0, .int .i64 a0_1, .int .u64 a0_2, .int .u64 t430, .int .u64 t431, .int .u64 0, .int .u64 0, .int .i64 0, .slice none 0 0]) ?_ 5 _ rfl; refine Kv_ ?_; refine blk_put (cs := #[.int .i64 a0_0, .int .i64 a0_1, .int .u64 a0_2, .int .u64 t430, .int .u64 0, .int .u64 0, .int .u64 0, .int .i64 0, .slice none 0 0]) ?_ 4 _ rfl; refine Kv_ ?_; refine blk_put (cs := #[.int .i64 a0_0, .int .i64 a0_1, .int .u64 a0_2, .int .u64 0, .int .u64 0, .int .u64 0, .int .u64 0, .int .i64 0, .slice none 0 0]) ?_ 3 _ rfl; refine Kv_ ?_; refine blk_put (cs := #[.int .i64 a0_0, .int .i64 a0_1, .int .u64 0, .int .u64 0, .int .u64 0, .int .u64 0, .int .u64 0, .int .i64 0, .slice none 0 0]) ?_ 2 _ rfl; refine Kv_ ?_; refine blk_put (cs := #[.int .i64 a0_0, .int .i64 0, .int .u64 0, .int .u64 0, .int .u64 0, .int .u64 0, .int .u64 0, .int .i64 0, .slice none 0 0]) ?_ 1 _ rfl; refine Kv_ ?_; refine blk_put (cs := #[.int .i64 0, .int .i64 0, .int .u64 0, .int .u64 0, .int .u64 0, .int .u64 0, .int .u64 0, .int .i64 0, .slice none 0 0]) ?_ 0 _ rfl; exact Kq_ BK429) Try.underlying75 rfl (by kernel_rfl)) rfl ?_
 exact ⟨_, by first | rfl | (simp [errW_none, errW_some] <;> rfl) | (simp [*, errW_none, errW_some] <;> rfl), by (with_reducible repeat (first | apply Kd.R_alloc | apply Kd.R_drewN | apply Kd.R_drew)); exact Kd.R_mono (Kd.R_far (p := ⟨gb429, 8, none⟩) (Kd.R_far (p := ⟨gb429, 7, none⟩) (Kd.R_far (p := ⟨gb429, 6, none⟩) (Kd.R_far (p := ⟨gb429, 5, none⟩) (Kd.R_far (p := ⟨gb429, 4, none⟩) (Kd.R_far (p := ⟨gb429, 3, none⟩) (Kd.R_far (p := ⟨gb429, 2, none⟩) (Kd.R_far (p := ⟨gb429, 1, none⟩) (Kd.R_far (p := ⟨gb429, 0, none⟩) (Kd.R_types HO437.out BK429.out (by decide)) (fun _ hk => hk.2) (.int .i64 a0_0)) (fun _ hk => hk.2) (.int .i64 a0_1)) (fun _ hk => hk.2) (.int .u64 a0_2)) (fun _ hk => hk.2) (.int .u64 t430)) (fun _ hk => hk.2) (.int .u64 t431)) (fun _ hk => hk.2) (.int .u64 t432)) (fun _ hk => hk.2) (.int .u64 t433)) (fun _ hk => hk.2) (.int .i64 t434)) (fun _ hk => hk.2) (.slice Ao7 t435.length co7)) (fun _ hk => trivial), K2a_ HB GE428 GE429⟩
def tenementref15_Ready.l0 : Nat → Int → Int → Int → Int → Int → Int → Int → Int → Int → Int → Option (Int)
 | 0, _, _, _, _, _, _, _, _, _, _ => none
 | k + 1, x6, x100, x101, x102, x103, x104, x105, x106, x108, x109 => if x6 ≤ 4 then (if x6 = x109 then (tenementref15_Ready.l0 k (wrap64 (x6 + 1)) x100 x101 x102 x103 x104 x105 x106 x108 x109) else ((tenementref06_At.f x104 x105 x106 x108 x6).bind fun t444 => ((tenementref06_At.f x100 x101 x102 x103 x6).bind fun t445 => (if t444 > t445 then (some 0) else (tenementref15_Ready.l0 k (wrap64 (x6 + 1)) x100 x101 x102 x103 x104 x105 x106 x108 x109))))) else (some 1)
def tenementref15_Ready.f (k : Nat) (a0_0 : Int) (a0_1 : Int) (a0_2 : Int) (a0_3 : Int) (a1_0 : Int) (a1_1 : Int) (a1_2 : Int) (a1_3 : Int) (a1_4 : Int) : Option (Int) := (tenementref07_Right.f k a1_0 a1_1 a1_2 a1_3 a1_4).bind fun t440 => (if t440 = true then ((tenementref06_At.f a0_0 a0_1 a0_2 a0_3 a1_4).bind fun t441 => ((tenementref07_Stamp_N.f a1_0 a1_1 a1_2 a1_3 a1_4).bind fun t442 => (if t442 ≤ t441 then (some (-1)) else ((tenementref07_Stamp_N.f a1_0 a1_1 a1_2 a1_3 a1_4).bind fun t443 => (if t443 = (IntKind.u64.wrap (t441 + 1)) then (tenementref15_Ready.l0 k 1 a0_0 a0_1 a0_2 a0_3 a1_0 a1_1 a1_2 a1_3 a1_4) else (some 0)))))) else (some 0))
def tenementref15_Ready.T11 : Bool × List (List Nat × List Nat) := (true, [([], []), ([], []), ([1], [1]), ([0, 2], [0, 2]), ([3], [3]), ([4], [4]), ([5, 4], [4, 5]), ([4], [4]), ([6, 7, 4, 4], [4, 6, 7]), ([4], [4]), ([4], [4]), ([9, 10, 8, 4], [4, 9, 10]), ([8, 11, 4], [4, 8, 11]), ([4, 12], [4, 12])])
def tenementref15_Ready.B11 : List Nat := [0, 0, 2, 7, 15, 31, 63, 31, 255, 31, 31, 2047, 4095, 8191]
theorem tenementref15_Ready.tab11 : rtab .any (opsOf Try.f31 11) = tenementref15_Ready.T11 := by kernel_rfl
theorem tenementref15_Ready.bits11 : waitsOk tenementref15_Ready.T11.2 tenementref15_Ready.B11 = true := by kernel_rfl
set_option maxHeartbeats 8000000 in
set_option maxRecDepth 100000 in
theorem tenementref15_Ready.calls (k : Nat) (a0_0 : Int) (a0_1 : Int) (a0_2 : Int) (a0_3 : Int) (a1_0 : Int) (a1_1 : Int) (a1_2 : Int) (a1_3 : Int) (a1_4 : Int) (r : Int) (w : World) (h : tenementref15_Ready.f k a0_0 a0_1 a0_2 a0_3 a1_0 a1_1 a1_2 a1_3 a1_4 = some r) :
  Calls Try.prog 31 #[.agg #[.int .u64 a0_0, .int .u64 a0_1, .int .u64 a0_2, .int .u64 a0_3], .agg #[.int .u64 a1_0, .int .u64 a1_1, .int .u64 a1_2, .int .u64 a1_3, .int .i64 a1_4]] w fun e w' => e = .returned (.int .i64 r) ∧ Below w.heap.size w w' := by
 have hu50 := Try.underlying50
 have hu52 := Try.underlying52
 have HB := Aside0.mk (Below.refl w.heap.size w)
 have H : ((tenementref07_Right.f k a1_0 a1_1 a1_2 a1_3 a1_4).bind fun t440 => (if t440 = true then ((tenementref06_At.f a0_0 a0_1 a0_2 a0_3 a1_4).bind fun t441 => ((tenementref07_Stamp_N.f a1_0 a1_1 a1_2 a1_3 a1_4).bind fun t442 => (if t442 ≤ t441 then (some (-1)) else ((tenementref07_Stamp_N.f a1_0 a1_1 a1_2 a1_3 a1_4).bind fun t443 => (if t443 = (IntKind.u64.wrap (t441 + 1)) then (tenementref15_Ready.l0 k 1 a0_0 a0_1 a0_2 a0_3 a1_0 a1_1 a1_2 a1_3 a1_4) else (some 0)))))) else (some 0))) = some r := h
 clear h
 replace H := Option.bind_eq_some_iff.mp H
 obtain ⟨t440, A30, H⟩ := H
 replace H : (if t440 = true then ((tenementref06_At.f a0_0 a0_1 a0_2 a0_3 a1_4).bind fun t441 => ((tenementref07_Stamp_N.f a1_0 a1_1 a1_2 a1_3 a1_4).bind fun t442 => (if t442 ≤ t441 then (some (-1)) else ((tenementref07_Stamp_N.f a1_0 a1_1 a1_2 a1_3 a1_4).bind fun t443 => (if t443 = (IntKind.u64.wrap (t441 + 1)) then (tenementref15_Ready.l0 k 1 a0_0 a0_1 a0_2 a0_3 a1_0 a1_1 a1_2 a1_3 a1_4) else (some 0)))))) else (some 0)) = some r := H
 have A3 := Aside0.mk A30
 clear A30
 by_cases c4 : t440 = true
 rotate_left
 ·replace c4 := Bool.eq_false_iff.mpr c4
  subst c4
  have H1 : (some 0) = some r := by rw [if_neg (show ¬ (false = true) by decide)] at H; exact H
  clear H
  have H := H1
  clear H1
  obtain rfl := Option.some.inj H
  go_enter Try.func31, Try.ntmps31
  go_wp2_with (first | ((with_reducible refine gate_dst (N := 2) rfl ?_); refine Ka_ 2 #[.int .u64 a0_0, .int .u64 a0_1, .int .u64 a0_2, .int .u64 a0_3] 50 ?_; intro gb438 hg w56 hbox hb; have BK438 := Aside0.mk (hbox); have GW438 := Kw_ HB hg; have GE438 := GW438; replace HB := Ks_ HB hb; clear hb hbox hg) | ((with_reducible refine gate_dst (N := 3) rfl ?_); refine Ka_ 3 #[.int .u64 a1_0, .int .u64 a1_1, .int .u64 a1_2, .int .u64 a1_3, .int .i64 a1_4] 52 ?_; intro gb439 hg w57 hbox hb; have BK439 := Aside0.mk (hbox); have GW439 := Kw_ HB hg; have GE439 := GW439; have NB438_439 := Kl_ BK438 hg; have NB439_438 := Kr_ BK438 hg; replace BK438 := Kb_ BK438 hb; replace HB := Ks_ HB hb; clear hb hbox hg; have hnb58 := NB439_438.out; have hnc58 := NB438_439.out; obtain ⟨hcz59_0, hcz59_1, hcz59_2, hcz59_3, hcz59_4, hfz59_0, hfz59_1, hfz59_2, hfz59_3, hfz59_4⟩ := Ke5_ BK439.out) | ((with_reducible refine gate_callee (f := 70) rfl ?_); refine Kg_ (some 8) rfl rfl Try.func70 (by kernel_rfl) rfl #[.agg #[.int .u64 a1_0, .int .u64 a1_1, .int .u64 a1_2, .int .u64 a1_3, .int .i64 a1_4]] rfl ?_; (with_reducible refine (tenementref07_Right.calls k a1_0 a1_1 a1_2 a1_3 a1_4 false _ A3.out).mono ?_); rintro e w60 ⟨rfl, hb⟩; refine ⟨_, rfl, ?_⟩; replace BK438 := Kb_ BK438 hb; replace BK439 := Kb_ BK439 hb; replace HB := Ks_ HB hb; (try clear hb); (try clear hb2); (try clear hk); (try clear hi)))
  go_ret
  exact ⟨Kh_, K2a_ HB GE438 GE439⟩
 subst c4
 have H1 : ((tenementref06_At.f a0_0 a0_1 a0_2 a0_3 a1_4).bind fun t441 => ((tenementref07_Stamp_N.f a1_0 a1_1 a1_2 a1_3 a1_4).bind fun t442 => (if t442 ≤ t441 then (some (-1)) else ((tenementref07_Stamp_N.f a1_0 a1_1 a1_2 a1_3 a1_4).bind fun t443 => (if t443 = (IntKind.u64.wrap (t441 + 1)) then (tenementref15_Ready.l0 k 1 a0_0 a0_1 a0_2 a0_3 a1_0 a1_1 a1_2 a1_3 a1_4) else (some 0)))))) = some r := by rw [if_pos rfl] at H; exact H
 clear H
 have H := H1
 clear H1
 replace H := Option.bind_eq_some_iff.mp H
 obtain ⟨t441, A50, H⟩ := H
 replace H : ((tenementref07_Stamp_N.f a1_0 a1_1 a1_2 a1_3 a1_4).bind fun t442 => (if t442 ≤ t441 then (some (-1)) else ((tenementref07_Stamp_N.f a1_0 a1_1 a1_2 a1_3 a1_4).bind fun t443 => (if t443 = (IntKind.u64.wrap (t441 + 1)) then (tenementref15_Ready.l0 k 1 a0_0 a0_1 a0_2 a0_3 a1_0 a1_1 a1_2 a1_3 a1_4) else (some 0))))) = some r := H
 have A5 := Aside0.mk A50
 clear A50
 replace H := Option.bind_eq_some_iff.mp H
 obtain ⟨t442, A60, H⟩ := H
 replace H : (if t442 ≤ t441 then (some (-1)) else ((tenementref07_Stamp_N.f a1_0 a1_1 a1_2 a1_3 a1_4).bind fun t443 => (if t443 = (IntKind.u64.wrap (t441 + 1)) then (tenementref15_Ready.l0 k 1 a0_0 a0_1 a0_2 a0_3 a1_0 a1_1 a1_2 a1_3 a1_4) else (some 0)))) = some r := H
 have A6 := Aside0.mk A60
 clear A60
 by_cases c7 : t442 ≤ t441
 ·rw [if_pos c7] at H
  have c7b0 : decide (t442 ≤ t441) = true := decide_eq_true c7
  clear c7
  obtain rfl := Option.some.inj H
  go_enter Try.func31, Try.ntmps31
  go_wp2_with (first | ((with_reducible refine gate_dst (N := 2) rfl ?_); refine Ka_ 2 #[.int .u64 a0_0, .int .u64 a0_1, .int .u64 a0_2, .int .u64 a0_3] 50 ?_; intro gb438 hg w8 hbox hb; have BK438 := Aside0.mk (hbox); have GW438 := Kw_ HB hg; have GE438 := GW438; replace HB := Ks_ HB hb; clear hb hbox hg) | ((with_reducible refine gate_dst (N := 3) rfl ?_); refine Ka_ 3 #[.int .u64 a1_0, .int .u64 a1_1, .int .u64 a1_2, .int .u64 a1_3, .int .i64 a1_4] 52 ?_; intro gb439 hg w9 hbox hb; have BK439 := Aside0.mk (hbox); have GW439 := Kw_ HB hg; have GE439 := GW439; have NB438_439 := Kl_ BK438 hg; have NB439_438 := Kr_ BK438 hg; replace BK438 := Kb_ BK438 hb; replace HB := Ks_ HB hb; clear hb hbox hg; have hnb10 := NB439_438.out; have hnc10 := NB438_439.out; obtain ⟨hcz11_0, hcz11_1, hcz11_2, hcz11_3, hcz11_4, hfz11_0, hfz11_1, hfz11_2, hfz11_3, hfz11_4⟩ := Ke5_ BK439.out) | ((with_reducible refine gate_callee (f := 70) rfl ?_); refine Kg_ (some 8) rfl rfl Try.func70 (by kernel_rfl) rfl #[.agg #[.int .u64 a1_0, .int .u64 a1_1, .int .u64 a1_2, .int .u64 a1_3, .int .i64 a1_4]] rfl ?_; (with_reducible refine (tenementref07_Right.calls k a1_0 a1_1 a1_2 a1_3 a1_4 true _ A3.out).mono ?_); rintro e w12 ⟨rfl, hb⟩; refine ⟨_, rfl, ?_⟩; replace BK438 := Kb_ BK438 hb; replace BK439 := Kb_ BK439 hb; replace HB := Ks_ HB hb; (try clear hb); (try clear hb2); (try clear hk); (try clear hi); obtain ⟨hcz13_0, hcz13_1, hcz13_2, hcz13_3, hfz13_0, hfz13_1, hfz13_2, hfz13_3⟩ := Ke4_ BK438.out; obtain ⟨hcz14_0, hcz14_1, hcz14_2, hcz14_3, hcz14_4, hfz14_0, hfz14_1, hfz14_2, hfz14_3, hfz14_4⟩ := Ke5_ BK439.out) | ((with_reducible refine gate_callee (f := 71) rfl ?_); refine Kg_ (some 13) rfl rfl Try.func71 (by kernel_rfl) rfl #[.agg #[.int .u64 a0_0, .int .u64 a0_1, .int .u64 a0_2, .int .u64 a0_3], .int .i64 a1_4] rfl ?_; (with_reducible refine (tenementref06_At.calls a0_0 a0_1 a0_2 a0_3 a1_4 t441 _ A5.out).mono ?_); rintro e w15 ⟨rfl, hb⟩; refine ⟨_, rfl, ?_⟩; replace BK438 := Kb_ BK438 hb; replace BK439 := Kb_ BK439 hb; replace HB := Ks_ HB hb; (try clear hb); (try clear hb2); (try clear hk); (try clear hi); obtain ⟨hcz16_0, hcz16_1, hcz16_2, hcz16_3, hcz16_4, hfz16_0, hfz16_1, hfz16_2, hfz16_3, hfz16_4⟩ := Ke5_ BK439.out) | ((with_reducible refine gate_callee (f := 72) rfl ?_); refine Kg_ (some 15) rfl rfl Try.func72 (by kernel_rfl) rfl #[.agg #[.int .u64 a1_0, .int .u64 a1_1, .int .u64 a1_2, .int .u64 a1_3, .int .i64 a1_4]] rfl ?_; (with_reducible refine (tenementref07_Stamp_N.calls a1_0 a1_1 a1_2 a1_3 a1_4 t442 _ A6.out).mono ?_); rintro e w17 ⟨rfl, hb⟩; refine ⟨_, rfl, ?_⟩; replace BK438 := Kb_ BK438 hb; replace BK439 := Kb_ BK439 hb; replace HB := Ks_ HB hb; (try clear hb); (try clear hb2); (try clear hk); (try clear hi)))
  go_ret
  exact ⟨Kh_, K2a_ HB GE438 GE439⟩
 rw [if_neg c7] at H
 have c7b0 : decide (t442 ≤ t441) = false := decide_eq_false c7
 clear c7
 replace H := Option.bind_eq_some_iff.mp H
 obtain ⟨t443, A180, H⟩ := H
 replace H : (if t443 = (IntKind.u64.wrap (t441 + 1)) then (tenementref15_Ready.l0 k 1 a0_0 a0_1 a0_2 a0_3 a1_0 a1_1 a1_2 a1_3 a1_4) else (some 0)) = some r := H
 have A18 := Aside0.mk A180
 clear A180
 by_cases c19 : t443 = (IntKind.u64.wrap (t441 + 1))
 rotate_left
 ·rw [if_neg c19] at H
  have c19b0 : (t443 == (IntKind.u64.wrap (t441 + 1))) = false := beq_eq_false_iff_ne.mpr c19
  have c19b1 : (t443 != (IntKind.u64.wrap (t441 + 1))) = true := bne_iff_ne.mpr c19
  obtain rfl := Option.some.inj H
  go_enter Try.func31, Try.ntmps31
  go_wp2_with (first | ((with_reducible refine gate_dst (N := 2) rfl ?_); refine Ka_ 2 #[.int .u64 a0_0, .int .u64 a0_1, .int .u64 a0_2, .int .u64 a0_3] 50 ?_; intro gb438 hg w44 hbox hb; have BK438 := Aside0.mk (hbox); have GW438 := Kw_ HB hg; have GE438 := GW438; replace HB := Ks_ HB hb; clear hb hbox hg) | ((with_reducible refine gate_dst (N := 3) rfl ?_); refine Ka_ 3 #[.int .u64 a1_0, .int .u64 a1_1, .int .u64 a1_2, .int .u64 a1_3, .int .i64 a1_4] 52 ?_; intro gb439 hg w45 hbox hb; have BK439 := Aside0.mk (hbox); have GW439 := Kw_ HB hg; have GE439 := GW439; have NB438_439 := Kl_ BK438 hg; have NB439_438 := Kr_ BK438 hg; replace BK438 := Kb_ BK438 hb; replace HB := Ks_ HB hb; clear hb hbox hg; have hnb46 := NB439_438.out; have hnc46 := NB438_439.out; obtain ⟨hcz47_0, hcz47_1, hcz47_2, hcz47_3, hcz47_4, hfz47_0, hfz47_1, hfz47_2, hfz47_3, hfz47_4⟩ := Ke5_ BK439.out) | ((with_reducible refine gate_callee (f := 70) rfl ?_); refine Kg_ (some 8) rfl rfl Try.func70 (by kernel_rfl) rfl #[.agg #[.int .u64 a1_0, .int .u64 a1_1, .int .u64 a1_2, .int .u64 a1_3, .int .i64 a1_4]] rfl ?_; (with_reducible refine (tenementref07_Right.calls k a1_0 a1_1 a1_2 a1_3 a1_4 true _ A3.out).mono ?_); rintro e w48 ⟨rfl, hb⟩; refine ⟨_, rfl, ?_⟩; replace BK438 := Kb_ BK438 hb; replace BK439 := Kb_ BK439 hb; replace HB := Ks_ HB hb; (try clear hb); (try clear hb2); (try clear hk); (try clear hi); obtain ⟨hcz49_0, hcz49_1, hcz49_2, hcz49_3, hfz49_0, hfz49_1, hfz49_2, hfz49_3⟩ := Ke4_ BK438.out; obtain ⟨hcz50_0, hcz50_1, hcz50_2, hcz50_3, hcz50_4, hfz50_0, hfz50_1, hfz50_2, hfz50_3, hfz50_4⟩ := Ke5_ BK439.out) | ((with_reducible refine gate_callee (f := 71) rfl ?_); refine Kg_ (some 13) rfl rfl Try.func71 (by kernel_rfl) rfl #[.agg #[.int .u64 a0_0, .int .u64 a0_1, .int .u64 a0_2, .int .u64 a0_3], .int .i64 a1_4] rfl ?_; (with_reducible refine (tenementref06_At.calls a0_0 a0_1 a0_2 a0_3 a1_4 t441 _ A5.out).mono ?_); rintro e w51 ⟨rfl, hb⟩; refine ⟨_, rfl, ?_⟩; replace BK438 := Kb_ BK438 hb; replace BK439 := Kb_ BK439 hb; replace HB := Ks_ HB hb; (try clear hb); (try clear hb2); (try clear hk); (try clear hi); obtain ⟨hcz52_0, hcz52_1, hcz52_2, hcz52_3, hcz52_4, hfz52_0, hfz52_1, hfz52_2, hfz52_3, hfz52_4⟩ := Ke5_ BK439.out) | ((with_reducible refine gate_callee (f := 72) rfl ?_); refine Kg_ (some 15) rfl rfl Try.func72 (by kernel_rfl) rfl #[.agg #[.int .u64 a1_0, .int .u64 a1_1, .int .u64 a1_2, .int .u64 a1_3, .int .i64 a1_4]] rfl ?_; (with_reducible refine (tenementref07_Stamp_N.calls a1_0 a1_1 a1_2 a1_3 a1_4 t442 _ A6.out).mono ?_); rintro e w53 ⟨rfl, hb⟩; refine ⟨_, rfl, ?_⟩; replace BK438 := Kb_ BK438 hb; replace BK439 := Kb_ BK439 hb; replace HB := Ks_ HB hb; (try clear hb); (try clear hb2); (try clear hk); (try clear hi); obtain ⟨hcz54_0, hcz54_1, hcz54_2, hcz54_3, hcz54_4, hfz54_0, hfz54_1, hfz54_2, hfz54_3, hfz54_4⟩ := Ke5_ BK439.out) | ((with_reducible refine gate_callee (f := 72) rfl ?_); refine Kg_ (some 19) rfl rfl Try.func72 (by kernel_rfl) rfl #[.agg #[.int .u64 a1_0, .int .u64 a1_1, .int .u64 a1_2, .int .u64 a1_3, .int .i64 a1_4]] rfl ?_; (with_reducible refine (tenementref07_Stamp_N.calls a1_0 a1_1 a1_2 a1_3 a1_4 t443 _ A18.out).mono ?_); rintro e w55 ⟨rfl, hb⟩; refine ⟨_, rfl, ?_⟩; replace BK438 := Kb_ BK438 hb; replace BK439 := Kb_ BK439 hb; replace HB := Ks_ HB hb; (try clear hb); (try clear hb2); (try clear hk); (try clear hi)))
  go_ret
  exact ⟨Kh_, K2a_ HB GE438 GE439⟩
 rw [if_pos c19] at H
 have c19b0 : (t443 == (IntKind.u64.wrap (t441 + 1))) = true := beq_iff_eq.mpr c19
 have c19b1 : (t443 != (IntKind.u64.wrap (t441 + 1))) = false := bne_eq_false_iff_eq.mpr c19
 clear c19
 have H' := Aside0.mk H
 clear H
 go_enter Try.func31, Try.ntmps31
 go_wp2_with (first | ((with_reducible refine gate_dst (N := 2) rfl ?_); refine Ka_ 2 #[.int .u64 a0_0, .int .u64 a0_1, .int .u64 a0_2, .int .u64 a0_3] 50 ?_; intro gb438 hg w20 hbox hb; have BK438 := Aside0.mk (hbox); have GW438 := Kw_ HB hg; have GE438 := GW438; replace HB := Ks_ HB hb; clear hb hbox hg) | ((with_reducible refine gate_dst (N := 3) rfl ?_); refine Ka_ 3 #[.int .u64 a1_0, .int .u64 a1_1, .int .u64 a1_2, .int .u64 a1_3, .int .i64 a1_4] 52 ?_; intro gb439 hg w21 hbox hb; have BK439 := Aside0.mk (hbox); have GW439 := Kw_ HB hg; have GE439 := GW439; have NB438_439 := Kl_ BK438 hg; have NB439_438 := Kr_ BK438 hg; replace BK438 := Kb_ BK438 hb; replace HB := Ks_ HB hb; clear hb hbox hg; have hnb22 := NB439_438.out; have hnc22 := NB438_439.out; obtain ⟨hcz23_0, hcz23_1, hcz23_2, hcz23_3, hcz23_4, hfz23_0, hfz23_1, hfz23_2, hfz23_3, hfz23_4⟩ := Ke5_ BK439.out) | ((with_reducible refine gate_callee (f := 70) rfl ?_); refine Kg_ (some 8) rfl rfl Try.func70 (by kernel_rfl) rfl #[.agg #[.int .u64 a1_0, .int .u64 a1_1, .int .u64 a1_2, .int .u64 a1_3, .int .i64 a1_4]] rfl ?_; (with_reducible refine (tenementref07_Right.calls k a1_0 a1_1 a1_2 a1_3 a1_4 true _ A3.out).mono ?_); rintro e w24 ⟨rfl, hb⟩; refine ⟨_, rfl, ?_⟩; replace BK438 := Kb_ BK438 hb; replace BK439 := Kb_ BK439 hb; replace HB := Ks_ HB hb; (try clear hb); (try clear hb2); (try clear hk); (try clear hi); obtain ⟨hcz25_0, hcz25_1, hcz25_2, hcz25_3, hfz25_0, hfz25_1, hfz25_2, hfz25_3⟩ := Ke4_ BK438.out; obtain ⟨hcz26_0, hcz26_1, hcz26_2, hcz26_3, hcz26_4, hfz26_0, hfz26_1, hfz26_2, hfz26_3, hfz26_4⟩ := Ke5_ BK439.out) | ((with_reducible refine gate_callee (f := 71) rfl ?_); refine Kg_ (some 13) rfl rfl Try.func71 (by kernel_rfl) rfl #[.agg #[.int .u64 a0_0, .int .u64 a0_1, .int .u64 a0_2, .int .u64 a0_3], .int .i64 a1_4] rfl ?_; (with_reducible refine (tenementref06_At.calls a0_0 a0_1 a0_2 a0_3 a1_4 t441 _ A5.out).mono ?_); rintro e w27 ⟨rfl, hb⟩; refine ⟨_, rfl, ?_⟩; replace BK438 := Kb_ BK438 hb; replace BK439 := Kb_ BK439 hb; replace HB := Ks_ HB hb; (try clear hb); (try clear hb2); (try clear hk); (try clear hi); obtain ⟨hcz28_0, hcz28_1, hcz28_2, hcz28_3, hcz28_4, hfz28_0, hfz28_1, hfz28_2, hfz28_3, hfz28_4⟩ := Ke5_ BK439.out) | ((with_reducible refine gate_callee (f := 72) rfl ?_); refine Kg_ (some 15) rfl rfl Try.func72 (by kernel_rfl) rfl #[.agg #[.int .u64 a1_0, .int .u64 a1_1, .int .u64 a1_2, .int .u64 a1_3, .int .i64 a1_4]] rfl ?_; (with_reducible refine (tenementref07_Stamp_N.calls a1_0 a1_1 a1_2 a1_3 a1_4 t442 _ A6.out).mono ?_); rintro e w29 ⟨rfl, hb⟩; refine ⟨_, rfl, ?_⟩; replace BK438 := Kb_ BK438 hb; replace BK439 := Kb_ BK439 hb; replace HB := Ks_ HB hb; (try clear hb); (try clear hb2); (try clear hk); (try clear hi); obtain ⟨hcz30_0, hcz30_1, hcz30_2, hcz30_3, hcz30_4, hfz30_0, hfz30_1, hfz30_2, hfz30_3, hfz30_4⟩ := Ke5_ BK439.out) | ((with_reducible refine gate_callee (f := 72) rfl ?_); refine Kg_ (some 19) rfl rfl Try.func72 (by kernel_rfl) rfl #[.agg #[.int .u64 a1_0, .int .u64 a1_1, .int .u64 a1_2, .int .u64 a1_3, .int .i64 a1_4]] rfl ?_; (with_reducible refine (tenementref07_Stamp_N.calls a1_0 a1_1 a1_2 a1_3 a1_4 t443 _ A18.out).mono ?_); rintro e w31 ⟨rfl, hb⟩; refine ⟨_, rfl, ?_⟩; replace BK438 := Kb_ BK438 hb; replace BK439 := Kb_ BK439 hb; replace HB := Ks_ HB hb; (try clear hb); (try clear hb2); (try clear hk); (try clear hi)))
 go_loopg [6] k (fun kq v6 w' => ∃ (x6_1 : Int), v6 = .int .i64 x6_1 ∧ Aside0 (tenementref15_Ready.l0 kq x6_1 a0_0 a0_1 a0_2 a0_3 a1_0 a1_1 a1_2 a1_3 a1_4 = some r) ∧ Aside0 (kq ≤ k) ∧ Aside0 (w'.heap[gb438]? = some (.cells #[.int .u64 a0_0, .int .u64 a0_1, .int .u64 a0_2, .int .u64 a0_3] 50 (0, 0))) ∧ Aside0 (w'.heap[gb439]? = some (.cells #[.int .u64 a1_0, .int .u64 a1_1, .int .u64 a1_2, .int .u64 a1_3, .int .i64 a1_4] 52 (0, 0))) ∧ Aside0 (Below w.heap.size w w'))
 case atStart => exact ⟨(1), (by first | rfl | (simp; done) | (simp [*]; done)), H', ⟨Nat.le_refl _⟩, ⟨by exact Kq_ BK438⟩, ⟨by exact Kq_ BK439⟩, ⟨K2a_ HB GE438 GE439⟩⟩
 case round =>
  clear H'
  try clear c1
  try clear c2
  try clear p2
  try clear c3
  try clear c4
  try clear c7
  try clear c7b0
  try clear c10
  try clear c19
  try clear c19b0
  try clear c19b1
  try clear c22
  try clear c31
  try clear hcz11_0
  try clear hcz11_1
  try clear hcz11_2
  try clear hcz11_3
  try clear hcz11_4
  try clear hcz13_0
  try clear hcz13_1
  try clear hcz13_2
  try clear hcz13_3
  try clear hcz14_0
  try clear hcz14_1
  try clear hcz14_2
  try clear hcz14_3
  try clear hcz14_4
  try clear hcz16_0
  try clear hcz16_1
  try clear hcz16_2
  try clear hcz16_3
  try clear hcz16_4
  try clear hcz23_0
  try clear hcz23_1
  try clear hcz23_2
  try clear hcz23_3
  try clear hcz23_4
  try clear hcz25_0
  try clear hcz25_1
  try clear hcz25_2
  try clear hcz25_3
  try clear hcz26_0
  try clear hcz26_1
  try clear hcz26_2
  try clear hcz26_3
  try clear hcz26_4
  try clear hcz28_0
  try clear hcz28_1
  try clear hcz28_2
  try clear hcz28_3
  try clear hcz28_4
  try clear hcz30_0
  try clear hcz30_1
  try clear hcz30_2
  try clear hcz30_3
  try clear hcz30_4
  try clear hfz11_0
  try clear hfz11_1
  try clear hfz11_2
  try clear hfz11_3
  try clear hfz11_4
  try clear hfz13_0
  try clear hfz13_1
  try clear hfz13_2
  try clear hfz13_3
  try clear hfz14_0
  try clear hfz14_1
  try clear hfz14_2
  try clear hfz14_3
  try clear hfz14_4
  try clear hfz16_0
  try clear hfz16_1
  try clear hfz16_2
  try clear hfz16_3
  try clear hfz16_4
  try clear hfz23_0
  try clear hfz23_1
  try clear hfz23_2
  try clear hfz23_3
  try clear hfz23_4
  try clear hfz25_0
  try clear hfz25_1
  try clear hfz25_2
  try clear hfz25_3
  try clear hfz26_0
  try clear hfz26_1
  try clear hfz26_2
  try clear hfz26_3
  try clear hfz26_4
  try clear hfz28_0
  try clear hfz28_1
  try clear hfz28_2
  try clear hfz28_3
  try clear hfz28_4
  try clear hfz30_0
  try clear hfz30_1
  try clear hfz30_2
  try clear hfz30_3
  try clear hfz30_4
  obtain ⟨x6_1, rfl, HA, HK1, BK438, BK439, HB⟩ := hrel
  cases gk with
  | zero => exact absurd HA.out (by simp [tenementref15_Ready.l0])
  | succ k1 =>
   have H := HA.out
   clear HA
   simp only [tenementref15_Ready.l0] at H
   by_cases c32 : x6_1 ≤ 4
   rotate_left
   ·rw [if_neg c32] at H
    have c32b0 : decide (x6_1 ≤ 4) = false := decide_eq_false c32
    clear c32
    obtain rfl := Option.some.inj H
    go_wp2
    go_ret
    exact ⟨Kh_, K2a_ HB GE438 GE439⟩
   rw [if_pos c32] at H
   have c32b0 : decide (x6_1 ≤ 4) = true := decide_eq_true c32
   clear c32
   by_cases c33 : x6_1 = a1_4
   ·rw [if_pos c33] at H
    have c33b0 : (x6_1 == a1_4) = true := beq_iff_eq.mpr c33
    have c33b1 : (x6_1 != a1_4) = false := bne_eq_false_iff_eq.mpr c33
    clear c33
    have H' := Aside0.mk H
    clear H
    try go_wp2
    replace BK438 := Kd_ BK438
    replace BK439 := Kd_ BK439
    replace HB := Aside0.mk (below_drew1 HB.out)
    refine start_ (n := 14) (S := fun w' => w'.cell? ⟨gb439, 0, none⟩ = some (.int .u64 a1_0) ∧ w'.cell? ⟨gb439, 1, none⟩ = some (.int .u64 a1_1) ∧ w'.cell? ⟨gb439, 2, none⟩ = some (.int .u64 a1_2) ∧ w'.cell? ⟨gb439, 3, none⟩ = some (.int .u64 a1_3) ∧ w'.cell? ⟨gb439, 4, none⟩ = some (.int .i64 a1_4)) (ds := []) (mB_ 14 0) (by kernel_rfl) rfl rfl (Kc5_ BK439.out) (fun hHeld => ?_); refine with_tabW tenementref15_Ready.tab11 tenementref15_Ready.bits11 (fun HT_ HW_ => ?_)
    generalize wr.drew = w34 at BK438 BK439 HB hHeld ⊢
    refine Kp_ 0 27 (mB_ 14 1) (any_of HT_.out (by kernel_rfl)) ?_
    refine Kp_ 1 28 (mB_ 14 3) (any_of HT_.out (by kernel_rfl)) ?_
    refine Ko_ 2 29 (mB_ 14 7) (take_ofW HT_.out HW_.out (by kernel_rfl)) hHeld ?_
    refine Kp_ 3 30 (mB_ 14 15) (any_of HT_.out (by kernel_rfl)) ?_
    refine Kp_ 4 31 (mB_ 14 31) (any_of HT_.out (by kernel_rfl)) ?_
    refine pure_ (i := 5) (N := some 32) (v := undef) (a' := ?_) (mB_ 14 63) rfl rfl (any_of HT_.out (by kernel_rfl)) (fun _ _ _ h => h) (Or.inr ⟨by rfl, rfl⟩) ?_ ?_
    rotate_left
    ·simp only [Act.put, List.setIfInBounds_toArray, List.set_cons_zero, List.set_cons_succ, i64_w, i32_w]
     rfl
    refine pure_ (i := 6) (N := some 33) (v := undef) (a' := ?_) (mB_ 14 127) rfl rfl (any_of HT_.out (by kernel_rfl)) (fun _ _ _ h => h) (Or.inr ⟨by rfl, rfl⟩) ?_ ?_
    rotate_left
    ·simp only [Act.put, List.setIfInBounds_toArray, List.set_cons_zero, List.set_cons_succ, i64_w, i32_w]
     rfl
    refine pure_ (i := 7) (N := some 34) (v := undef) (a' := ?_) (mB_ 14 255) rfl rfl (any_of HT_.out (by kernel_rfl)) (fun _ _ _ h => h) (Or.inr ⟨by rfl, rfl⟩) ?_ ?_
    rotate_left
    ·simp only [Act.put, List.setIfInBounds_toArray, List.set_cons_zero, List.set_cons_succ, i64_w, i32_w]
     rfl
    refine pure_ (i := 8) (N := some 35) (v := undef) (a' := ?_) (mB_ 14 511) rfl rfl (any_of HT_.out (by kernel_rfl)) (fun _ _ _ h => h) (Or.inr ⟨by rfl, rfl⟩) ?_ ?_
    rotate_left
    ·simp only [Act.put, List.setIfInBounds_toArray, List.set_cons_zero, List.set_cons_succ, i64_w, i32_w]
     rfl
    refine pure_ (i := 9) (N := some 36) (v := undef) (a' := ?_) (mB_ 14 1023) rfl rfl (any_of HT_.out (by kernel_rfl)) (fun _ _ _ h => h) (Or.inr ⟨by rfl, rfl⟩) ?_ ?_
    rotate_left
    ·simp only [Act.put, List.setIfInBounds_toArray, List.set_cons_zero, List.set_cons_succ, i64_w, i32_w]
     rfl
    refine pure_ (i := 10) (N := some 37) (v := undef) (a' := ?_) (mB_ 14 2047) rfl rfl (any_of HT_.out (by kernel_rfl)) (fun _ _ _ h => h) (Or.inr ⟨by rfl, rfl⟩) ?_ ?_
    rotate_left
    ·simp only [Act.put, List.setIfInBounds_toArray, List.set_cons_zero, List.set_cons_succ, i64_w, i32_w]
     rfl
    refine pure_ (i := 11) (N := some 38) (v := undef) (a' := ?_) (mB_ 14 4095) rfl rfl (any_of HT_.out (by kernel_rfl)) (fun _ _ _ h => h) (Or.inr ⟨by rfl, rfl⟩) ?_ ?_
    rotate_left
    ·simp only [Act.put, List.setIfInBounds_toArray, List.set_cons_zero, List.set_cons_succ, i64_w, i32_w]
     rfl
    refine pure_ (i := 12) (N := some 39) (v := undef) (a' := ?_) (mB_ 14 8191) rfl rfl (any_of HT_.out (by kernel_rfl)) (fun _ _ _ h => h) (Or.inr ⟨by rfl, rfl⟩) ?_ ?_
    rotate_left
    ·simp only [Act.put, List.setIfInBounds_toArray, List.set_cons_zero, List.set_cons_succ, i64_w, i32_w]
     rfl
    refine Kp_ 13 40 (mB_ 14 16383) (any_of HT_.out (by kernel_rfl)) ?_
    refine done_ (done_of HT_.out (by kernel_rfl)) ?_
    try go_wp2
    go_roundg k1
    case measure => have := HK1.out; omega
    case rel => exact ⟨(wrap64 (x6_1 + 1)), (by first | rfl | (simp; done) | (simp [*]; done)), H', ⟨by have := HK1.out; omega⟩, ⟨by exact Kq_ BK438⟩, ⟨by exact Kq_ BK439⟩, ⟨K2a_ HB GE438 GE439⟩⟩
   rw [if_neg c33] at H
   have c33b0 : (x6_1 == a1_4) = false := beq_eq_false_iff_ne.mpr c33
   have c33b1 : (x6_1 != a1_4) = true := bne_iff_ne.mpr c33
   replace H := Option.bind_eq_some_iff.mp H
   obtain ⟨t444, A350, H⟩ := H
   replace H : ((tenementref06_At.f a0_0 a0_1 a0_2 a0_3 x6_1).bind fun t445 => (if t444 > t445 then (some 0) else (tenementref15_Ready.l0 k1 (wrap64 (x6_1 + 1)) a0_0 a0_1 a0_2 a0_3 a1_0 a1_1 a1_2 a1_3 a1_4))) = some r := H
   have A35 := Aside0.mk A350
   clear A350
   replace H := Option.bind_eq_some_iff.mp H
   obtain ⟨t445, A360, H⟩ := H
   replace H : (if t444 > t445 then (some 0) else (tenementref15_Ready.l0 k1 (wrap64 (x6_1 + 1)) a0_0 a0_1 a0_2 a0_3 a1_0 a1_1 a1_2 a1_3 a1_4)) = some r := H
   have A36 := Aside0.mk A360
   clear A360
   by_cases c37 : t444 > t445
   ·rw [if_pos c37] at H
    have c37b0 : decide (t445 < t444) = true := decide_eq_true c37
    clear c37
    obtain rfl := Option.some.inj H
    try go_wp2
    replace BK438 := Kd_ BK438
    replace BK439 := Kd_ BK439
    replace HB := Aside0.mk (below_drew1 HB.out)
    refine start_ (n := 14) (S := fun w' => w'.cell? ⟨gb439, 0, none⟩ = some (.int .u64 a1_0) ∧ w'.cell? ⟨gb439, 1, none⟩ = some (.int .u64 a1_1) ∧ w'.cell? ⟨gb439, 2, none⟩ = some (.int .u64 a1_2) ∧ w'.cell? ⟨gb439, 3, none⟩ = some (.int .u64 a1_3) ∧ w'.cell? ⟨gb439, 4, none⟩ = some (.int .i64 a1_4) ∧ w'.cell? ⟨gb438, 0, none⟩ = some (.int .u64 a0_0) ∧ w'.cell? ⟨gb438, 1, none⟩ = some (.int .u64 a0_1) ∧ w'.cell? ⟨gb438, 2, none⟩ = some (.int .u64 a0_2) ∧ w'.cell? ⟨gb438, 3, none⟩ = some (.int .u64 a0_3)) (ds := []) (mB_ 14 0) (by kernel_rfl) rfl rfl ⟨Km_ BK439 0, Km_ BK439 1, Km_ BK439 2, Km_ BK439 3, Km_ BK439 4, Km_ BK438 0, Km_ BK438 1, Km_ BK438 2, Km_ BK438 3⟩ (fun hHeld => ?_); refine with_tabW tenementref15_Ready.tab11 tenementref15_Ready.bits11 (fun HT_ HW_ => ?_)
    generalize wr.drew = w38 at BK438 BK439 HB hHeld ⊢
    refine Kp_ 0 27 (mB_ 14 1) (any_of HT_.out (by kernel_rfl)) ?_
    refine Kp_ 1 28 (mB_ 14 3) (any_of HT_.out (by kernel_rfl)) ?_
    refine Ko_ 2 29 (mB_ 14 7) (take_ofW HT_.out HW_.out (by kernel_rfl)) hHeld ?_
    refine Kp_ 3 30 (mB_ 14 15) (any_of HT_.out (by kernel_rfl)) ?_
    refine Kp_ 4 31 (mB_ 14 31) (any_of HT_.out (by kernel_rfl)) ?_
    refine Kp_ 5 32 (mB_ 14 63) (any_of HT_.out (by kernel_rfl)) ?_
    refine Kp_ 7 34 (mB_ 14 191) (any_of HT_.out (by kernel_rfl)) ?_
    refine Kp_ 10 37 (mB_ 14 1215) (any_of HT_.out (by kernel_rfl)) ?_
    refine Ko_ 6 33 (mB_ 14 1279) (take_ofW HT_.out HW_.out (by kernel_rfl)) hHeld ?_
    refine Ko_ 9 36 (mB_ 14 1791) (take_ofW HT_.out HW_.out (by kernel_rfl)) hHeld ?_
    refine one_ (i := 8) (N := some 35) (mB_ 14 2047) rfl rfl (one_of HT_.out (by kernel_rfl)) (by decide) (fun K hK => ?_)
    refine goes_ Try.func71 (by kernel_rfl) rfl #[.agg #[.int .u64 a1_0, .int .u64 a1_1, .int .u64 a1_2, .int .u64 a1_3], .int .i64 x6_1] (by rfl) rfl rfl (by (try simp only [List.map_toArray, List.map_cons, List.map_nil]); first | done | rfl | (simp only [List.length_drop, List.length_take]; rfl)) ?_
    with_reducible refine (tenementref06_At.calls a1_0 a1_1 a1_2 a1_3 x6_1 t444 _ A35.out).mono ?_
    rintro e w39 ⟨rfl, hb⟩
    refine ⟨_, rfl, ?_⟩
    replace BK438 := Kb_ BK438 hb
    replace BK439 := Kb_ BK439 hb
    replace HB := Ks_ HB hb
    (try clear hb)
    (try clear hb2)
    (try clear hk)
    (try clear hi)
    refine hK.out _ _ ⟨Km_ BK439 0, Km_ BK439 1, Km_ BK439 2, Km_ BK439 3, Km_ BK439 4, Km_ BK438 0, Km_ BK438 1, Km_ BK438 2, Km_ BK438 3⟩ (fun hHeld => ?_)
    clear hK K
    refine Kn_ 35 ?_
    refine one_ (i := 11) (N := some 38) (mB_ 14 4095) rfl rfl (one_of HT_.out (by kernel_rfl)) (by decide) (fun K hK => ?_)
    refine goes_ Try.func71 (by kernel_rfl) rfl #[.agg #[.int .u64 a0_0, .int .u64 a0_1, .int .u64 a0_2, .int .u64 a0_3], .int .i64 x6_1] (by rfl) rfl rfl (by (try simp only [List.map_toArray, List.map_cons, List.map_nil]); first | done | rfl | (simp only [List.length_drop, List.length_take]; rfl)) ?_
    with_reducible refine (tenementref06_At.calls a0_0 a0_1 a0_2 a0_3 x6_1 t445 _ A36.out).mono ?_
    rintro e w40 ⟨rfl, hb⟩
    refine ⟨_, rfl, ?_⟩
    replace BK438 := Kb_ BK438 hb
    replace BK439 := Kb_ BK439 hb
    replace HB := Ks_ HB hb
    (try clear hb)
    (try clear hb2)
    (try clear hk)
    (try clear hi)
    refine hK.out _ _ ⟨Km_ BK439 0, Km_ BK439 1, Km_ BK439 2, Km_ BK439 3, Km_ BK439 4, Km_ BK438 0, Km_ BK438 1, Km_ BK438 2, Km_ BK438 3⟩ (fun hHeld => ?_)
    clear hK K
    refine Kn_ 38 ?_
    refine Kp_ 12 39 (mB_ 14 8191) (any_of HT_.out (by kernel_rfl)) ?_
    refine Kp_ 13 40 (mB_ 14 16383) (any_of HT_.out (by kernel_rfl)) ?_
    refine done_ (done_of HT_.out (by kernel_rfl)) ?_
    try go_wp2
    go_ret
    exact ⟨Kh_, K2a_ HB GE438 GE439⟩
   rw [if_neg c37] at H
   have c37b0 : decide (t445 < t444) = false := decide_eq_false c37
   clear c37
   have H' := Aside0.mk H
   clear H
   try go_wp2
   replace BK438 := Kd_ BK438
   replace BK439 := Kd_ BK439
   replace HB := Aside0.mk (below_drew1 HB.out)
   refine start_ (n := 14) (S := fun w' => w'.cell? ⟨gb439, 0, none⟩ = some (.int .u64 a1_0) ∧ w'.cell? ⟨gb439, 1, none⟩ = some (.int .u64 a1_1) ∧ w'.cell? ⟨gb439, 2, none⟩ = some (.int .u64 a1_2) ∧ w'.cell? ⟨gb439, 3, none⟩ = some (.int .u64 a1_3) ∧ w'.cell? ⟨gb439, 4, none⟩ = some (.int .i64 a1_4) ∧ w'.cell? ⟨gb438, 0, none⟩ = some (.int .u64 a0_0) ∧ w'.cell? ⟨gb438, 1, none⟩ = some (.int .u64 a0_1) ∧ w'.cell? ⟨gb438, 2, none⟩ = some (.int .u64 a0_2) ∧ w'.cell? ⟨gb438, 3, none⟩ = some (.int .u64 a0_3)) (ds := []) (mB_ 14 0) (by kernel_rfl) rfl rfl ⟨Km_ BK439 0, Km_ BK439 1, Km_ BK439 2, Km_ BK439 3, Km_ BK439 4, Km_ BK438 0, Km_ BK438 1, Km_ BK438 2, Km_ BK438 3⟩ (fun hHeld => ?_); refine with_tabW tenementref15_Ready.tab11 tenementref15_Ready.bits11 (fun HT_ HW_ => ?_)
   generalize wr.drew = w41 at BK438 BK439 HB hHeld ⊢
   refine Kp_ 0 27 (mB_ 14 1) (any_of HT_.out (by kernel_rfl)) ?_
   refine Kp_ 1 28 (mB_ 14 3) (any_of HT_.out (by kernel_rfl)) ?_
   refine Ko_ 2 29 (mB_ 14 7) (take_ofW HT_.out HW_.out (by kernel_rfl)) hHeld ?_
   refine Kp_ 3 30 (mB_ 14 15) (any_of HT_.out (by kernel_rfl)) ?_
   refine Kp_ 4 31 (mB_ 14 31) (any_of HT_.out (by kernel_rfl)) ?_
   refine Kp_ 5 32 (mB_ 14 63) (any_of HT_.out (by kernel_rfl)) ?_
   refine Kp_ 7 34 (mB_ 14 191) (any_of HT_.out (by kernel_rfl)) ?_
   refine Kp_ 10 37 (mB_ 14 1215) (any_of HT_.out (by kernel_rfl)) ?_
   refine Ko_ 6 33 (mB_ 14 1279) (take_ofW HT_.out HW_.out (by kernel_rfl)) hHeld ?_
   refine Ko_ 9 36 (mB_ 14 1791) (take_ofW HT_.out HW_.out (by kernel_rfl)) hHeld ?_
   refine one_ (i := 8) (N := some 35) (mB_ 14 2047) rfl rfl (one_of HT_.out (by kernel_rfl)) (by decide) (fun K hK => ?_)
   refine goes_ Try.func71 (by kernel_rfl) rfl #[.agg #[.int .u64 a1_0, .int .u64 a1_1, .int .u64 a1_2, .int .u64 a1_3], .int .i64 x6_1] (by rfl) rfl rfl (by (try simp only [List.map_toArray, List.map_cons, List.map_nil]); first | done | rfl | (simp only [List.length_drop, List.length_take]; rfl)) ?_
   with_reducible refine (tenementref06_At.calls a1_0 a1_1 a1_2 a1_3 x6_1 t444 _ A35.out).mono ?_
   rintro e w42 ⟨rfl, hb⟩
   refine ⟨_, rfl, ?_⟩
   replace BK438 := Kb_ BK438 hb
   replace BK439 := Kb_ BK439 hb
   replace HB := Ks_ HB hb
   (try clear hb)
   (try clear hb2)
   (try clear hk)
   (try clear hi)
   refine hK.out _ _ ⟨Km_ BK439 0, Km_ BK439 1, Km_ BK439 2, Km_ BK439 3, Km_ BK439 4, Km_ BK438 0, Km_ BK438 1, Km_ BK438 2, Km_ BK438 3⟩ (fun hHeld => ?_)
   clear hK K
   refine Kn_ 35 ?_
   refine one_ (i := 11) (N := some 38) (mB_ 14 4095) rfl rfl (one_of HT_.out (by kernel_rfl)) (by decide) (fun K hK => ?_)
   refine goes_ Try.func71 (by kernel_rfl) rfl #[.agg #[.int .u64 a0_0, .int .u64 a0_1, .int .u64 a0_2, .int .u64 a0_3], .int .i64 x6_1] (by rfl) rfl rfl (by (try simp only [List.map_toArray, List.map_cons, List.map_nil]); first | done | rfl | (simp only [List.length_drop, List.length_take]; rfl)) ?_
   with_reducible refine (tenementref06_At.calls a0_0 a0_1 a0_2 a0_3 x6_1 t445 _ A36.out).mono ?_
   rintro e w43 ⟨rfl, hb⟩
   refine ⟨_, rfl, ?_⟩
   replace BK438 := Kb_ BK438 hb
   replace BK439 := Kb_ BK439 hb
   replace HB := Ks_ HB hb
   (try clear hb)
   (try clear hb2)
   (try clear hk)
   (try clear hi)
   refine hK.out _ _ ⟨Km_ BK439 0, Km_ BK439 1, Km_ BK439 2, Km_ BK439 3, Km_ BK439 4, Km_ BK438 0, Km_ BK438 1, Km_ BK438 2, Km_ BK438 3⟩ (fun hHeld => ?_)
   clear hK K
   refine Kn_ 38 ?_
   refine Kp_ 12 39 (mB_ 14 8191) (any_of HT_.out (by kernel_rfl)) ?_
   refine Kp_ 13 40 (mB_ 14 16383) (any_of HT_.out (by kernel_rfl)) ?_
   refine done_ (done_of HT_.out (by kernel_rfl)) ?_
   try go_wp2
   go_roundg k1
   case measure => have := HK1.out; omega
   case rel => exact ⟨(wrap64 (x6_1 + 1)), (by first | rfl | (simp; done) | (simp [*]; done)), H', ⟨by have := HK1.out; omega⟩, ⟨by exact Kq_ BK438⟩, ⟨by exact Kq_ BK439⟩, ⟨K2a_ HB GE438 GE439⟩⟩
end Go.Proofs.Ytoagfdpgnfinhaa.Q

set_option linter.unusedVariables false
set_option linter.unusedSimpArgs false
namespace Go.Proofs.Ytoagfdpgnfinhaa.Open
open Go Go.RowKit Go.Deep Go.WideShapes Go.ChangeShapes Go.Proofs.YtoagfdpgnfinhaaW.PrintWords Go.Proofs.YtoagfdpgnfinhaaW.PrintLast Go.Proofs.YtoagfdpgnfinhaaW.PrintMore
structure To (P : Program) (t : TypeId) {α : Type} (K : Kd α) (wf : α → Prop) : Prop where
 sz : P.cellsOf t = K.sz
 go : ∀ {H : Type} (enc : TypeId × Value → H) (w : World) (fuel : Nat) (cs : List Value) (d : DataW H) (ps : List MemPlace),
  DataW.trod enc P w 0 (fun _ => true) true fuel t cs = some (d, ps) → (DataW.weights P t d).all (· ≤ reachBytes) = true → ∃ x : α, K.K w x cs ∧ wf x
theorem int {P : Program} {t : TypeId} {k : IntKind} (ht : P.underlying t = some (.int k)) (hs : P.cellsOf t = 1) : To P t (Kd.int k) (fun n => (Lit.int k n).wf = true) := by
 refine ⟨hs, fun enc w fuel cs d ps h _ => ?_⟩
 obtain ⟨n, rfl, _, hw⟩ := DataW.trod_int ht h
 exact ⟨n, rfl, hw⟩
theorem bool {P : Program} {t : TypeId} (ht : P.underlying t = some .bool) (hs : P.cellsOf t = 1) : To P t Kd.bool (fun _ => True) := by
 refine ⟨hs, fun enc w fuel cs d ps h _ => ?_⟩
 obtain ⟨b, rfl, _⟩ := DataW.trod_bool ht h
 exact ⟨b, rfl, trivial⟩
theorem string {P : Program} {t : TypeId} (ht : P.underlying t = some .string) (hs : P.cellsOf t = 1) : To P t Kd.string (fun s => s.size ≤ 140737488351232) := by
 refine ⟨hs, fun enc w fuel cs d ps h hw => ?_⟩
 obtain ⟨s, rfl, hx, _⟩ := DataW.trod_string ht h
 obtain ⟨rfl, _⟩ := Prod.mk.inj hx
 refine ⟨s, rfl, ?_⟩
 simp only [DataW.weights, List.all_cons, List.all_nil, Bool.and_true, reachBytes, Array.length_toList] at hw
 exact of_decide_eq_true hw
theorem weightsAll_mem {H : Type} {P : Program} {e : TypeId} : ∀ {l : List (DataW H)} {d : DataW H}, d ∈ l → (DataW.weightsAll P e l).all (· ≤ reachBytes) = true → (DataW.weights P e d).all (· ≤ reachBytes) = true
 | [], _, h, _ => by cases h
 | a :: l, d, h, hw => by
  simp only [DataW.weightsAll, List.all_append, Bool.and_eq_true] at hw
  rcases List.mem_cons.1 h with rfl | h
  ·exact hw.1
  ·exact weightsAll_mem h hw.2
theorem add_add (a : Addr) (i j : Nat) : (a.add i).add j = a.add (i + j) := by
 unfold Addr.add
 by_cases h1 : i = 0 <;> by_cases h2 : j = 0 <;> simp [h1, h2, Nat.add_assoc]
theorem slice {P : Program} {t e : TypeId} {α : Type} {K : Kd α} {wf : α → Prop} {B : Nat} (ht : P.underlying t = some (.slice e)) (hs : P.cellsOf t = 1) (hB : P.bytesOf e = B) (he : To P e K wf) :
  To P t (Kd.slice e K) (fun l => (∀ x ∈ l, wf x) ∧ l.length * B ≤ 140737488351232) := by
 refine ⟨hs, fun {H} enc w fuel cs d ps h hw => ?_⟩
 rcases open_slice ht h with ⟨rfl, _⟩ | ⟨a, len, cap, m, n, D, Pl, rfl, _, hl, hm, hmc, hx, hel⟩
 ·exact ⟨[], ⟨none, 0, rfl, Nat.le_refl _, rfl, by simp, fun h => absurd h (by simp)⟩, by simp, by simp⟩
 ·obtain ⟨rfl, _⟩ := Prod.mk.inj hx
  simp only [if_true] at hmc
  subst hmc
  have hw1 := hw
  simp only [DataW.weights, ht, List.all_cons, List.all_append, Bool.and_eq_true, decide_eq_true_eq, List.length_map, List.length_range, hB, reachBytes] at hw1
  have hchoose : ∀ i, i < len → ∃ x : α, (∃ cs', w.cells? 0 (a.add (i * P.cellsOf e)) (P.cellsOf e) = some cs' ∧ K.K w x cs') ∧ wf x := by
   intro i hi
   obtain ⟨cs', h1, h2⟩ := hel i (by omega)
   obtain ⟨x, hx1, hx2⟩ := he.go enc w n cs' (D i) (Pl i) h2 (weightsAll_mem (List.mem_map.2 ⟨i, by simpa using hi, rfl⟩) hw1.2.1)
   exact ⟨x, ⟨cs', h1, hx1⟩, hx2⟩
  have hall : ∀ k, k ≤ len → ∃ l : List α, l.length = k ∧ ∀ i x, l[i]? = some x → (∃ cs', w.cells? 0 (a.add (i * P.cellsOf e)) (P.cellsOf e) = some cs' ∧ K.K w x cs') ∧ wf x := by
   intro k
   induction k with
   | zero => intro _; exact ⟨[], rfl, fun i x h => by simp at h⟩
   | succ k ih =>
    intro hk
    obtain ⟨l, h1, h2⟩ := ih (by omega)
    obtain ⟨x, hx⟩ := hchoose k (by omega)
    refine ⟨l ++ [x], by simp [h1], fun i y hy => ?_⟩
    by_cases hi : i < l.length
    ·exact h2 i y (by rwa [List.getElem?_append_left hi] at hy)
    ·rw [List.getElem?_append_right (by omega)] at hy
     have : i = l.length := by
      have := (List.getElem?_eq_some_iff.1 hy).1
      simp at this; omega
     subst this
     simp at hy
     subst hy
     rw [h1]; exact hx
  obtain ⟨l, h1, h2⟩ := hall len (Nat.le_refl _)
  refine ⟨l, ⟨some a, m, by rw [h1], by omega, rfl, by unfold maxLen at hm; omega, fun _ => ⟨a, rfl, fun j p hj => ?_⟩⟩, ?_, ?_⟩
  ·obtain ⟨⟨cs', g1, g2⟩, _⟩ := h2 j p hj
   obtain ⟨_, g3, g4⟩ := World.cells?_some g1
   refine ⟨cs', by rw [g3, he.sz], g2, fun i u hu => ?_⟩
   have hi : i < P.cellsOf e := by
    have := (List.getElem?_eq_some_iff.1 hu).1
    omega
   rw [← hu, ← g4 i hi, add_add, he.sz]
  ·intro x hx
   obtain ⟨i, hi, rfl⟩ := List.getElem_of_mem hx
   exact (h2 i _ (List.getElem?_eq_getElem hi)).2
  ·rw [h1]
   refine Nat.le_trans (Nat.mul_le_mul_right _ ?_) (of_decide_eq_true hw1.1)
   omega
structure Fs (P : Program) (o : Nat) (fs : List (TypeId × Nat)) {α : Type} (K : Kd α) (wf : α → Prop) : Prop where
 go : ∀ {H : Type} (enc : TypeId × Value → H) (w : World) (n : Nat) (cs : List Value) (xs : List (DataW H × List MemPlace)), cs.length = o + K.sz → xs.length = fs.length →
  (∀ (i : Nat) (f : TypeId × Nat), fs[i]? = some f → DataW.trod enc P w 0 (fun _ => true) true n f.1 ((cs.drop f.2).take (P.cellsOf f.1)) = xs[i]?) →
  (DataW.weightsEach P (fs.map (·.1)) (xs.map (·.1))).all (· ≤ reachBytes) = true → ∃ x : α, K.K w x (cs.drop o) ∧ wf x
theorem one {P : Program} {o : Nat} {t : TypeId} {α : Type} {K : Kd α} {wf : α → Prop} (h : To P t K wf) : Fs P o [(t, o)] K wf := by
 refine ⟨fun enc w n cs xs hl hx hr hw => ?_⟩
 match xs, hx with
 | [x], _ =>
  have h0 := hr 0 _ rfl
  simp only [List.getElem?_cons_zero] at h0
  rw [h.sz, List.take_of_length_le (by simp; omega)] at h0
  simp only [List.map_cons, List.map_nil, DataW.weightsEach, List.append_nil] at hw
  exact h.go enc w n _ x.1 x.2 h0 hw
theorem cons {P : Program} {o : Nat} {t : TypeId} {fs : List (TypeId × Nat)} {α β : Type} {K : Kd α} {wf : α → Prop} {L : Kd β} {wg : β → Prop} (h : To P t K wf) (hs : Fs P (o + K.sz) fs L wg) :
  Fs P o ((t, o) :: fs) (Kd.pair K L) (fun x => wf x.1 ∧ wg x.2) := by
 refine ⟨fun {H} enc w n cs xs hl hx hr hw => ?_⟩
 have hsz : (Kd.pair K L).sz = K.sz + L.sz := rfl
 match xs, hx with
 | x :: xs, hx =>
  have h0 := hr 0 _ rfl
  simp only [List.getElem?_cons_zero] at h0
  rw [h.sz] at h0
  simp only [List.map_cons, DataW.weightsEach, List.all_append, Bool.and_eq_true] at hw
  obtain ⟨a, ha, hwa⟩ := h.go enc w n _ x.1 x.2 h0 hw.1
  obtain ⟨b, hb, hwb⟩ := hs.go enc w n cs xs (by omega) (by simpa using hx) (fun i f hf => by have := hr (i + 1) f (by simpa using hf); simpa using this) hw.2
  refine ⟨(a, b), ⟨_, _, ?_, ha, hb⟩, hwa, hwb⟩
  rw [← List.drop_drop, List.take_append_drop]
theorem struct {P : Program} {t : TypeId} {fs : Array Field} {gs : List (TypeId × Nat)} {α : Type} {K : Kd α} {wf : α → Prop} (ht : P.underlying t = some (.struct fs)) (hg : fs.toList.map (fun f => (f.type, f.offset)) = gs) (hs : P.cellsOf t = K.sz) (h : Fs P 0 gs K wf) : To P t K wf := by
 refine ⟨hs, fun {H} enc w fuel cs d ps hr hw => ?_⟩
 obtain ⟨xs, n, _, hx, hl, hxl, hel⟩ := DataW.trod_struct ht hr
 obtain ⟨rfl, _⟩ := Prod.mk.inj hx
 have := h.go enc w n cs xs (by omega) (by rw [← hg]; simpa using hxl) (fun i f hf => ?_) ?_
 ·simpa using this
 ·rw [← hg] at hf
  simp only [List.getElem?_map, Option.map_eq_some_iff] at hf
  obtain ⟨g, hg1, rfl⟩ := hf
  exact hel i g (by simpa using hg1)
 ·rw [← hg]
  simp only [DataW.weights, ht] at hw
  simpa [List.map_map, Function.comp_def] using hw
theorem weightsAll_each {H : Type} (P : Program) (e : TypeId) : ∀ (l : List (DataW H)) (ts : List TypeId), ts.length = l.length → (∀ t ∈ ts, t = e) → DataW.weightsEach P ts l = DataW.weightsAll P e l
 | [], [], _, _ => rfl
 | [], _ :: _, h, _ => by simp at h
 | _ :: _, [], h, _ => by simp at h
 | d :: l, t :: ts, h, ht => by
  simp only [DataW.weightsEach, DataW.weightsAll]
  rw [ht t (by simp), weightsAll_each P e l ts (by simpa using h) (fun x hx => ht x (by simp [hx]))]
theorem array {P : Program} {t e : TypeId} {n s : Nat} {α : Type} {K : Kd α} {wf : α → Prop} (ht : P.underlying t = some (.array n e)) (he : P.cellsOf e = s) (hs : P.cellsOf t = K.sz) (h : Fs P 0 ((List.range n).map fun i => (e, i * s)) K wf) : To P t K wf := by
 refine ⟨hs, fun {H} enc w fuel cs d ps hr hw => ?_⟩
 obtain ⟨xs, m, _, hx, hl, hxl, hel⟩ := DataW.trod_array ht hr
 obtain ⟨rfl, _⟩ := Prod.mk.inj hx
 have := h.go enc w m cs xs (by omega) (by simpa using hxl) (fun i f hf => ?_) ?_
 ·simpa using this
 ·simp only [List.getElem?_map, Option.map_eq_some_iff] at hf
  obtain ⟨g, hg1, rfl⟩ := hf
  have hi : i < n := by have := (List.getElem?_eq_some_iff.1 hg1).1; simpa using this
  have hgi : g = i := by
   have := (List.getElem?_eq_some_iff.1 hg1).2
   simpa using this.symm
  subst hgi
  have := hel g hi
  rw [he] at this ⊢
  exact this
 ·simp only [DataW.weights, ht] at hw
  rw [weightsAll_each P e _ _ (by simp [hxl]) (by simp)]
  exact hw
theorem iso {P : Program} {t : TypeId} {α β : Type} {K : Kd α} {wf : α → Prop} (f : β → α) (g : α → β) (hfg : ∀ a, f (g a) = a) (h : To P t K wf) : To P t (Kd.iso K f) (fun b => wf (f b)) := by
 refine ⟨h.sz, fun {H} enc w fuel cs d ps hr hw => ?_⟩
 obtain ⟨x, h1, h2⟩ := h.go enc w fuel cs d ps hr hw
 refine ⟨g x, ?_, ?_⟩
 ·show K.K w (f (g x)) cs
  rw [hfg]; exact h1
 ·rw [hfg]; exact h2
theorem imp {P : Program} {t : TypeId} {α : Type} {K : Kd α} {wf wf' : α → Prop} (h : To P t K wf) (hi : ∀ x, wf x → wf' x) : To P t K wf' :=
 ⟨h.sz, fun enc w fuel cs d ps hr hw => by
  obtain ⟨x, h1, h2⟩ := h.go enc w fuel cs d ps hr hw
  exact ⟨x, h1, hi x h2⟩⟩
theorem at_param {P : Program} {t : TypeId} {α : Type} {K : Kd α} {wf : α → Prop} (h : To P t K wf) {H : Type} {enc : TypeId × Value → H} {w : World} {v : Value} {d : DataW H} {ps : List MemPlace} {ts : List TypeId} {ds : List (DataW H)} {j : Nat}
  (hsz : (DataW.weightsEach P ts ds).all (· ≤ reachBytes) = true) (ht : ts[j]? = some t) (hd : ds[j]? = some d) (hr : DataW.Trod enc P w 0 (fun _ => true) true t v d ps) : ∃ x : α, K.K w x v.cells.toList ∧ wf x := by
 obtain ⟨fuel, hf⟩ := hr
 refine h.go enc w fuel _ d ps hf ?_
 rw [List.all_eq_true]
 intro x hx
 exact List.all_eq_true.1 hsz x (DataW.weights_mem_each ht hd x hx)
end Go.Proofs.Ytoagfdpgnfinhaa.Open

set_option linter.unusedVariables false
namespace Go.Proofs.Ytoagfdpgnfinhaa.Q
open Go.RowKit Go.Proofs.Ytoagfdpgnfinhaa.Q Go.Proofs.YtoagfdpgnfinhaaW.PrintWords Go.Proofs.YtoagfdpgnfinhaaW.PrintLast Go.Proofs.YtoagfdpgnfinhaaW.PrintMore
open Go.Proofs.Ytoagfdpgnfinhaa
def wf28 (x : S28) : Prop := ((Lit.int .u64 x.f0).wf = true) ∧ ((Lit.int .u64 x.f1).wf = true) ∧ ((Lit.int .u64 x.f2).wf = true) ∧ ((Lit.int .u64 x.f3).wf = true)
theorem to28 : Open.To Try.prog 28 k28 wf28 := Open.imp (Open.iso (fun x : S28 => (x.f0, (x.f1, (x.f2, x.f3)))) (fun y => (⟨y.1, y.2.1, y.2.2.1, y.2.2.2⟩ : S28)) (fun _ => rfl) (Open.array (n := 4) (e := 26) (s := 1) Try.underlying28 (by kernel_rfl) (by kernel_rfl) (show Open.Fs Try.prog 0 [(26, 0), (26, 1), (26, 2), (26, 3)] _ _ from (Open.cons (Open.int Try.underlying26 (by kernel_rfl)) (Open.cons (Open.int Try.underlying26 (by kernel_rfl)) (Open.cons (Open.int Try.underlying26 (by kernel_rfl)) (Open.one (Open.int Try.underlying26 (by kernel_rfl))))))))) (fun _ h => h)
def wf63 (x : S63) : Prop := (wf28 x.f0) ∧ (True)
theorem to63 : Open.To Try.prog 63 k63 wf63 := Open.imp (Open.iso (fun x : S63 => (x.f0, x.f1)) (fun y => (⟨y.1, y.2⟩ : S63)) (fun _ => rfl) (Open.struct Try.underlying63 (by rfl) (by kernel_rfl) (show Open.Fs Try.prog 0 [(28, 0), (4, 4)] _ _ from (Open.cons to28 (Open.one (Open.bool Try.underlying4 (by kernel_rfl))))))) (fun _ h => h)
def wf30 (x : S30) : Prop := (wf28 x.f0) ∧ ((Lit.int .i64 x.f1).wf = true)
theorem to30 : Open.To Try.prog 30 k30 wf30 := Open.imp (Open.iso (fun x : S30 => (x.f0, x.f1)) (fun y => (⟨y.1, y.2⟩ : S30)) (fun _ => rfl) (Open.struct Try.underlying30 (by rfl) (by kernel_rfl) (show Open.Fs Try.prog 0 [(28, 0), (3, 4)] _ _ from (Open.cons to28 (Open.one (Open.int Try.underlying3 (by kernel_rfl))))))) (fun _ h => h)
def wf39 (x : S39) : Prop := (wf30 x.f0) ∧ (True)
theorem to39 : Open.To Try.prog 39 k39 wf39 := Open.imp (Open.iso (fun x : S39 => (x.f0, x.f1)) (fun y => (⟨y.1, y.2⟩ : S39)) (fun _ => rfl) (Open.struct Try.underlying39 (by rfl) (by kernel_rfl) (show Open.Fs Try.prog 0 [(30, 0), (4, 5)] _ _ from (Open.cons to30 (Open.one (Open.bool Try.underlying4 (by kernel_rfl))))))) (fun _ h => h)
def wf107 (x : S107) : Prop := (x.f0.size ≤ 140737488351232) ∧ (x.f1.size ≤ 140737488351232) ∧ (x.f2.size ≤ 140737488351232) ∧ (True)
theorem to107 : Open.To Try.prog 107 k107 wf107 := Open.imp (Open.iso (fun x : S107 => (x.f0, (x.f1, (x.f2, x.f3)))) (fun y => (⟨y.1, y.2.1, y.2.2.1, y.2.2.2⟩ : S107)) (fun _ => rfl) (Open.struct Try.underlying107 (by rfl) (by kernel_rfl) (show Open.Fs Try.prog 0 [(9, 0), (9, 1), (9, 2), (4, 3)] _ _ from (Open.cons (Open.string Try.underlying9 (by kernel_rfl)) (Open.cons (Open.string Try.underlying9 (by kernel_rfl)) (Open.cons (Open.string Try.underlying9 (by kernel_rfl)) (Open.one (Open.bool Try.underlying4 (by kernel_rfl))))))))) (fun _ h => h)
def wf159 (x : S159) : Prop := (wf107 x.f0) ∧ (True) ∧ ((Lit.int .u8 x.f2).wf = true)
theorem to159 : Open.To Try.prog 159 k159 wf159 := Open.imp (Open.iso (fun x : S159 => (x.f0, (x.f1, x.f2))) (fun y => (⟨y.1, y.2.1, y.2.2⟩ : S159)) (fun _ => rfl) (Open.struct Try.underlying159 (by rfl) (by kernel_rfl) (show Open.Fs Try.prog 0 [(107, 0), (4, 4), (5, 5)] _ _ from (Open.cons to107 (Open.cons (Open.bool Try.underlying4 (by kernel_rfl)) (Open.one (Open.int Try.underlying5 (by kernel_rfl)))))))) (fun _ h => h)
def wf42 (x : S42) : Prop := (wf39 x.f0) ∧ ((∀ x_ ∈ x.f1, wf159 x_) ∧ x.f1.length * 64 ≤ 140737488351232) ∧ (True)
theorem to42 : Open.To Try.prog 42 k42 wf42 := Open.imp (Open.iso (fun x : S42 => (x.f0, (x.f1, x.f2))) (fun y => (⟨y.1, y.2.1, y.2.2⟩ : S42)) (fun _ => rfl) (Open.struct Try.underlying42 (by rfl) (by kernel_rfl) (show Open.Fs Try.prog 0 [(39, 0), (40, 6), (4, 7)] _ _ from (Open.cons to39 (Open.cons (Open.slice (e := 159) (B := 64) Try.underlying40 (by kernel_rfl) (by kernel_rfl) to159) (Open.one (Open.bool Try.underlying4 (by kernel_rfl)))))))) (fun _ h => h)
def wf65 (x : S65) : Prop := ((Lit.int .i64 x.f0).wf = true) ∧ ((Lit.int .i64 x.f1).wf = true) ∧ ((Lit.int .u64 x.f2).wf = true) ∧ (wf42 x.f3) ∧ (True)
theorem to65 : Open.To Try.prog 65 k65 wf65 := Open.imp (Open.iso (fun x : S65 => (x.f0, (x.f1, (x.f2, (x.f3, x.f4))))) (fun y => (⟨y.1, y.2.1, y.2.2.1, y.2.2.2.1, y.2.2.2.2⟩ : S65)) (fun _ => rfl) (Open.struct Try.underlying65 (by rfl) (by kernel_rfl) (show Open.Fs Try.prog 0 [(3, 0), (3, 1), (26, 2), (42, 3), (4, 11)] _ _ from (Open.cons (Open.int Try.underlying3 (by kernel_rfl)) (Open.cons (Open.int Try.underlying3 (by kernel_rfl)) (Open.cons (Open.int Try.underlying26 (by kernel_rfl)) (Open.cons to42 (Open.one (Open.bool Try.underlying4 (by kernel_rfl)))))))))) (fun _ h => h)
end Go.Proofs.Ytoagfdpgnfinhaa.Q

set_option linter.unusedVariables false
set_option linter.unusedSimpArgs false
namespace Go.Proofs.Ytoagfdpgnfinhaa.Pure
open Go.RowKit Go.Proofs.YtoagfdpgnfinhaaW.PrintWords Go.Proofs.YtoagfdpgnfinhaaW.PrintLast Go.Proofs.YtoagfdpgnfinhaaW.PrintMore
def bl (s : ByteArray) : List Nat := s.data.toList.map UInt8.toNat
theorem bl_length (s : ByteArray) : (bl s).length = s.size := by unfold bl; rw [List.length_map, Array.length_toList]; rfl
theorem bl_lt (s : ByteArray) : ∀ b ∈ bl s, b < 256 := by
 intro b hb
 obtain ⟨u, _, rfl⟩ := List.mem_map.1 hb
 exact u.toNat_lt
theorem map_toNat_inj : ∀ {l m : List UInt8}, l.map UInt8.toNat = m.map UInt8.toNat → l = m
 | [], [], _ => rfl
 | [], _ :: _, h => by simp at h
 | _ :: _, [], h => by simp at h
 | a :: l, b :: m, h => by
  simp only [List.map_cons, List.cons.injEq] at h
  rw [UInt8.toNat_inj.1 h.1, map_toNat_inj h.2]
theorem ba_ext {s t : ByteArray} (h : s.data.toList = t.data.toList) : s = t := by
 cases s; cases t
 simp only [ByteArray.mk.injEq]
 exact Array.toList_inj.1 h
theorem bl_inj {s t : ByteArray} (h : bl s = bl t) : s = t := ba_ext (map_toNat_inj h)
theorem bl_append (s t : ByteArray) : bl (s ++ t) = bl s ++ bl t := by
 unfold bl; rw [← List.map_append, ByteArray.data_append]; simp
theorem toList_data (s : ByteArray) : s.toList = s.data.toList := by
 exact ByteArray.toList_eq s
theorem toList_iff {s t : ByteArray} : s.toList = t.toList ↔ s = t := by
 rw [toList_data, toList_data]; exact ⟨ba_ext, fun h => by rw [h]⟩
def NL (l : List Nat) : List Int := l.map fun n : Nat => (n : Int)
theorem bl_str (l : List Nat) (h : ∀ b ∈ l, b < 256) : bl (strOfNums (NL l)) = l := by
 unfold bl strOfNums NL
 simp only [List.map_map]
 conv => rhs; rw [← List.map_id l]
 apply List.map_congr_left
 intro b hb
 have := h b hb
 simp [UInt8.toNat_ofNat_of_lt', this]
theorem bt_bl (s : ByteArray) (i : Nat) (h : i < s.size) : ∃ b, (bl s)[i]? = some b ∧ bt s i = (b : Int) ∧ b < 256 := by
 have hl : i < (bl s).length := by rw [bl_length]; exact h
 refine ⟨(bl s)[i], List.getElem?_eq_getElem hl, ?_, bl_lt s _ (List.getElem_mem hl)⟩
 unfold bt
 rw [dif_pos (by simpa using h)]
 simp [bl, ByteArray.getElem_eq_getElem_data]
theorem wrap_u64 {x : Int} (h0 : 0 ≤ x) (h1 : x < 18446744073709551616) : IntKind.u64.wrap x = x := by
 simp only [IntKind.wrap_u64]; omega
theorem wrap64_id {x : Int} (h0 : -9223372036854775808 ≤ x) (h1 : x ≤ 9223372036854775807) : wrap64 x = x := by
 unfold wrap64; omega
end Go.Proofs.Ytoagfdpgnfinhaa.Pure

set_option linter.unusedVariables false
set_option linter.unusedSimpArgs false
namespace Go.Proofs.Ytoagfdpgnfinhaa.Pure
open Go.RowKit Go.Proofs.Ytoagfdpgnfinhaa.Q Go.Proofs.YtoagfdpgnfinhaaW.PrintWords Go.Proofs.YtoagfdpgnfinhaaW.PrintLast Go.Proofs.YtoagfdpgnfinhaaW.PrintMore Go.Proofs.Ytoagfdpgnfinhaa.Plain
theorem i64_of {x : Int} (h : (Lit.int .i64 x).wf = true) : -9223372036854775808 ≤ x ∧ x ≤ 9223372036854775807 := by
 have h : IntKind.i64.min ≤ x ∧ x ≤ IntKind.i64.max := by simpa only [Lit.wf, Bool.and_eq_true, decide_eq_true_eq] using h
 exact h
theorem u64_of {x : Int} (h : (Lit.int .u64 x).wf = true) : 0 ≤ x ∧ x ≤ 18446744073709551615 := by
 have h : IntKind.u64.min ≤ x ∧ x ≤ IntKind.u64.max := by simpa only [Lit.wf, Bool.and_eq_true, decide_eq_true_eq] using h
 exact h
def own (a b c d e : Int) : Int := if e = 1 then a else if e = 2 then b else if e = 3 then c else if e = 4 then d else 0
def okS (a b c d e : Int) : Prop := (a ≤ 1152921504606846976 ∧ b ≤ 1152921504606846976 ∧ c ≤ 1152921504606846976 ∧ d ≤ 1152921504606846976) ∧ 0 < own a b c d e
theorem okS_dc {a b c d e : Int} (h : okS a b c d e) : 1 ≤ e ∧ e ≤ 4 := by
 have h := h.2
 unfold own at h
 by_cases h1 : e = 1
 ·omega
 by_cases h2 : e = 2
 ·omega
 by_cases h3 : e = 3
 ·omega
 by_cases h4 : e = 4
 ·omega
 rw [if_neg h1, if_neg h2, if_neg h3, if_neg h4] at h
 omega
theorem mark_loop (v0 v1 v2 v3 d D : Int) (k : Nat) : tenementlaw15_Mark_mark.l0 (k + 4) 0 v0 v1 v2 v3 d true 0 0 0 0 D =
  (if D = 1 then some (IntKind.u64.wrap (1 + Int.tmod v0 4), Int.tmod v1 4, Int.tmod v2 4, 0, D) else if D = 2 then some (Int.tmod v0 4, IntKind.u64.wrap (1 + Int.tmod v1 4), Int.tmod v2 4, 0, D) else
     if D = 3 then some (Int.tmod v0 4, Int.tmod v1 4, IntKind.u64.wrap (1 + Int.tmod v2 4), 0, D) else if D = 4 then some (Int.tmod v0 4, Int.tmod v1 4, Int.tmod v2 4, IntKind.u64.wrap (1 + 0), D) else none) := by
 rw [tenementlaw15_Mark_mark.l0, if_pos (by omega), if_pos rfl, show wrap64 (0 + 1) = 1 from wrap64_id (by omega) (by omega)]
 rw [tenementlaw15_Mark_mark.l0, if_pos (by omega), if_neg (by omega), if_pos rfl, show wrap64 (1 + 1) = 2 from wrap64_id (by omega) (by omega)]
 rw [tenementlaw15_Mark_mark.l0, if_pos (by omega), if_neg (by omega), if_neg (by omega), if_pos rfl, show wrap64 (2 + 1) = 3 from wrap64_id (by omega) (by omega)]
 rw [tenementlaw15_Mark_mark.l0, if_neg (by omega)]
theorem mark_own {v0 v1 v2 v3 d : Int} (h0 : (Lit.int .u64 v0).wf = true) (h1 : (Lit.int .u64 v1).wf = true) (h2 : (Lit.int .u64 v2).wf = true) {k : Nat} (hk : 4 ≤ k) :
  ∃ n0 n1 n2 n3 dc : Nat, tenementlaw15_Mark_mark.f k v0 v1 v2 v3 d true = some ((n0 : Int), (n1 : Int), (n2 : Int), (n3 : Int), (dc : Int)) ∧ (n0 ≤ 4 ∧ n1 ≤ 4 ∧ n2 ≤ 4 ∧ n3 ≤ 4) ∧ 1 ≤ dc ∧ dc ≤ 3 ∧ okS n0 n1 n2 n3 dc := by
 have h0 := u64_of h0
 have h1 := u64_of h1
 have h2 := u64_of h2
 obtain ⟨k, rfl⟩ : ∃ m, k = m + 4 := ⟨k - 4, by omega⟩
 unfold tenementlaw15_Mark_mark.f
 rw [if_pos rfl]
 have hw : 0 ≤ IntKind.u64.wrap d := by rw [IntKind.wrap_u64]; omega
 have hD : wrap64 (1 + (wrap64 (Int.tmod (IntKind.u64.wrap d) 3))) = 1 + (IntKind.u64.wrap d) % 3 := by
  rw [Int.tmod_eq_emod_of_nonneg hw, wrap64_id (x := (IntKind.u64.wrap d) % 3) (by omega) (by omega), wrap64_id (by omega) (by omega)]
 rw [hD, mark_loop, Int.tmod_eq_emod_of_nonneg h0.1, Int.tmod_eq_emod_of_nonneg h1.1, Int.tmod_eq_emod_of_nonneg h2.1, wrap_u64 (x := 1 + v0 % 4) (by omega) (by omega), wrap_u64 (x := 1 + v1 % 4) (by omega) (by omega), wrap_u64 (x := 1 + v2 % 4) (by omega) (by omega)]
 generalize IntKind.u64.wrap d = q at hw ⊢
 clear hD
 have c : q % 3 = 0 ∨ q % 3 = 1 ∨ q % 3 = 2 := by omega
 rcases c with c | c | c
 ·rw [c, if_pos (by omega)]
  refine ⟨(1 + v0 % 4).toNat, (v1 % 4).toNat, (v2 % 4).toNat, 0, 1, by rw [Int.toNat_of_nonneg (by omega), Int.toNat_of_nonneg (by omega), Int.toNat_of_nonneg (by omega)]; rfl, by omega, by omega, by omega, by omega, ?_⟩
  unfold own
  rw [if_pos (by omega)]
  omega
 ·rw [c, if_neg (by omega), if_pos (by omega)]
  refine ⟨(v0 % 4).toNat, (1 + v1 % 4).toNat, (v2 % 4).toNat, 0, 2, by rw [Int.toNat_of_nonneg (by omega), Int.toNat_of_nonneg (by omega), Int.toNat_of_nonneg (by omega)]; rfl, by omega, by omega, by omega, by omega, ?_⟩
  unfold own
  rw [if_neg (by omega), if_pos (by omega)]
  omega
 ·rw [c, if_neg (by omega), if_neg (by omega), if_pos (by omega)]
  refine ⟨(v0 % 4).toNat, (v1 % 4).toNat, (1 + v2 % 4).toNat, 0, 3, by rw [Int.toNat_of_nonneg (by omega), Int.toNat_of_nonneg (by omega), Int.toNat_of_nonneg (by omega)]; rfl, by omega, by omega, by omega, by omega, ?_⟩
  unfold own
  rw [if_neg (by omega), if_neg (by omega), if_pos (by omega)]
  omega
theorem mark_any {v0 v1 v2 v3 d : Int} (h0 : (Lit.int .u64 v0).wf = true) (h1 : (Lit.int .u64 v1).wf = true) (h2 : (Lit.int .u64 v2).wf = true) (h3 : (Lit.int .u64 v3).wf = true) (h4 : (Lit.int .i64 d).wf = true) (o : Bool) {k : Nat} (hk : 4 ≤ k) :
  ∃ (n0 n1 n2 n3 : Nat) (e : Int), tenementlaw15_Mark_mark.f k v0 v1 v2 v3 d o = some ((n0 : Int), (n1 : Int), (n2 : Int), (n3 : Int), e) ∧ (n0 < 18446744073709551616 ∧ n1 < 18446744073709551616 ∧ n2 < 18446744073709551616 ∧ n3 < 18446744073709551616) ∧ -9223372036854775808 ≤ e ∧ e ≤ 9223372036854775807 := by
 cases o with
 | true =>
  obtain ⟨n0, n1, n2, n3, dc, e, hn, l1, l3, _⟩ := mark_own (v3 := v3) (d := d) h0 h1 h2 hk
  exact ⟨n0, n1, n2, n3, dc, e, by omega, by omega, by omega⟩
 | false =>
  have h0 := u64_of h0
  have h1 := u64_of h1
  have h2 := u64_of h2
  have h3 := u64_of h3
  have h4 := i64_of h4
  unfold tenementlaw15_Mark_mark.f
  rw [if_neg (by simp)]
  exact ⟨v0.toNat, v1.toNat, v2.toNat, v3.toNat, d, by rw [Int.toNat_of_nonneg h0.1, Int.toNat_of_nonneg h1.1, Int.toNat_of_nonneg h2.1, Int.toNat_of_nonneg h3.1], by omega, h4.1, h4.2⟩
theorem u8_or_128 : ∀ m : Nat, m < 256 → Go.bits .or .u8 (m : Int) 128 = ((m % 128 + 128 : Nat) : Int) := by
 intro m hm
 have h : ∀ m : Fin 256, (m.val ||| 128) = m.val % 128 + 128 := by decide +kernel
 have h2 := u8_or_nat m 128 hm (by omega)
 rw [show ((128 : Nat) : Int) = 128 from rfl] at h2
 rw [h2, h ⟨m, hm⟩]
theorem vary_tells (n : Nat) : ∀ (k : Nat) (acc : List Nat), (vary n).length < k → acc.length + (vary n).length ≤ 140737488355328 →
  pack_Vary.l0 k (n : Int) (NL acc) = some (strOfNums (NL (acc ++ vary n))) := by
 induction n using Nat.strongRecOn with
 | _ n ih =>
  intro k acc hk hl
  obtain ⟨k, rfl⟩ : ∃ m, k = m + 1 := ⟨k - 1, by omega⟩
  simp only [pack_Vary.l0]
  have hlen : (NL acc).length = acc.length := by simp [NL]
  by_cases h : n < 128
  ·rw [vary_small h] at hl ⊢
   rw [if_neg (by omega), if_pos (by rw [hlen]; simp at hl; omega)]
   rw [show (n : Int) % 256 = (n : Int) by omega]
   simp [NL]
  ·rw [vary_big h] at hl hk ⊢
   simp only [List.length_cons] at hl hk
   rw [if_pos (by omega), if_pos (by rw [hlen]; omega)]
   have e1 : (n : Int) / 128 = ((n / 128 : Nat) : Int) := by omega
   have e2 : (n : Int) % 256 = ((n % 256 : Nat) : Int) := by omega
   rw [e1, e2, u8_or_128 _ (by omega)]
   have e3 : NL acc ++ [((n % 256 % 128 + 128 : Nat) : Int)] = NL (acc ++ [n % 128 + 128]) := by
    rw [show n % 256 % 128 = n % 128 by omega]; simp [NL]
   rw [e3, ih (n / 128) (by omega) k _ (by omega) (by simp; omega)]
   simp
def vs (n : Nat) : ByteArray := strOfNums (NL (vary n))
theorem bl_vs (n : Nat) : bl (vs n) = vary n := bl_str _ (vary_lt n)
theorem vs_size (n : Nat) : (vs n).size = (vary n).length := by rw [← bl_length, bl_vs]
theorem Vary_f {n k : Nat} (h : n < 18446744073709551616) (hk : 11 ≤ k) : pack_Vary.f k (n : Int) = some (vs n) := by
 have h1 := vary_len_ten h
 have := vary_tells n k [] (by omega) (by simp; omega)
 exact this
theorem vright_f (a b c d : Int) : vec_Right.f a b c d = some (decide (a ≤ 1152921504606846976 ∧ b ≤ 1152921504606846976 ∧ c ≤ 1152921504606846976 ∧ d ≤ 1152921504606846976)) := by
 have h : ∀ x : Int, (mx x 1152921504606846976 == (1152921504606846976 : Int)) = decide (x ≤ 1152921504606846976) := by
  intro x
  rw [Bool.eq_iff_iff, beq_iff_eq, decide_eq_true_eq]
  unfold mx
  split <;> omega
 unfold vec_Right.f vec_Leq.f vec_Join.f
 simp only [Option.bind_some, h]
 simp only [Bool.decide_and]
theorem vput_f {a b c d : Nat} (ha : a < 18446744073709551616) (hb : b < 18446744073709551616) (hc : c < 18446744073709551616) (hd : d < 18446744073709551616) {k : Nat} (hk : 11 ≤ k) :
  vec_Put.f k a b c d = some (vs a ++ vs b ++ vs c ++ vs d) := by
 have h1 := vary_len_ten ha
 have h2 := vary_len_ten hb
 have h3 := vary_len_ten hc
 have h4 := vary_len_ten hd
 unfold vec_Put.f
 rw [Vary_f ha hk, Vary_f hb hk, Vary_f hc hk, Vary_f hd hk]
 simp only [Option.bind_some]
 rw [if_pos (by rw [vs_size, vs_size, vs_size, vs_size]; omega)]
def rv (n0 n1 n2 n3 : Nat) : List Nat := vary n0 ++ (vary n1 ++ (vary n2 ++ vary n3))
def vv (a b c d : Nat) : ByteArray := vs a ++ vs b ++ vs c ++ vs d
theorem bl_vv (a b c d : Nat) : bl (vv a b c d) = rv a b c d := by
 unfold vv rv
 simp only [bl_append, bl_vs, List.append_assoc]
theorem vv_size {a b c d : Nat} (ha : a < 18446744073709551616) (hb : b < 18446744073709551616) (hc : c < 18446744073709551616) (hd : d < 18446744073709551616) : (vv a b c d).size ≤ 40 ∧ (vv a b c d).size ≠ 0 := by
 have h1 := vary_len_ten ha
 have h2 := vary_len_ten hb
 have h3 := vary_len_ten hc
 have h4 := vary_len_ten hd
 have p := vary_pos a
 rw [← bl_length, bl_vv]
 unfold rv
 simp only [List.length_append]
 omega
theorem pow_small {n : Nat} (h : n ≤ 9223372036854775807) : n < 18446744073709551616 := by omega
theorem Text_f {s : ByteArray} (h : s.size + 10 ≤ 9223372036854775807) {k : Nat} (hk : 11 ≤ k) : pack_Text.f k s = some (vs s.size ++ s) := by
 unfold pack_Text.f
 have h10 := vary_len_ten (pow_small (show s.size ≤ 9223372036854775807 by omega))
 rw [if_pos (by omega), Vary_f (by omega) hk]
 simp only [Option.bind_some]
 rw [if_pos (by rw [vs_size]; omega)]
def nb (n k : Nat) : ByteArray := strOfNums (NL (be k n))
theorem bl_nb (n k : Nat) : bl (nb n k) = be k n := bl_str _ (be_lt k n)
theorem nb_size (n k : Nat) : (nb n k).size = k := by rw [← bl_length, bl_nb, be_len]
theorem numL_be (n k : Nat) : numL (n : Int) k = NL (be k n) := by
 unfold numL NL
 have h : be k n = (List.range k).map fun j => n / 256 ^ (k - 1 - j) % 256 := by
  induction k with
  | zero => rfl
  | succ k ih =>
   rw [List.range_succ_eq_map, List.map_cons, List.map_map]
   simp only [be]
   congr 1
   rw [ih]
   apply List.map_congr_left
   intro j hj
   have := List.mem_range.1 hj
   simp only [Function.comp]
   rw [show k - 1 - j = k + 1 - 1 - (j + 1) by omega]
 rw [h, List.map_map]
 apply List.map_congr_left
 intro j hj
 simp only [Function.comp, Nat.pow_mul, Int.natCast_emod, Int.natCast_ediv]
 rfl
theorem Number_f (n : Nat) (k : Int) (h1 : 1 ≤ k) (h8 : k ≤ 8) : pack_Number.f (n : Int) k = some (nb n k.toNat) := by
 unfold pack_Number.f
 rw [if_neg (by omega), if_neg (by omega), numL_be]; rfl
theorem Number_none (x : Int) (k : Int) (h : k < 1 ∨ 8 < k) : pack_Number.f x k = some ⟨#[]⟩ := by
 unfold pack_Number.f
 by_cases h1 : k < 1
 ·rw [if_pos h1]
 ·rw [if_neg h1, if_pos (by omega)]
theorem sN_f (a b c d e : Int) : stamp_Stamp_N.f a b c d e = some (own a b c d e) := rfl
theorem sright_true {a b c d e : Int} (h : okS a b c d e) : stamp_Right.f a b c d e = some true := by
 unfold stamp_Right.f
 rw [vright_f, Option.bind_some, if_pos (decide_eq_true h.1), sN_f, Option.bind_some, decide_eq_true h.2]
theorem sright_false {a b c d e : Int} (h : ¬ okS a b c d e) : stamp_Right.f a b c d e = some false := by
 unfold stamp_Right.f
 rw [vright_f, Option.bind_some]
 by_cases c1 : (a ≤ 1152921504606846976 ∧ b ≤ 1152921504606846976 ∧ c ≤ 1152921504606846976 ∧ d ≤ 1152921504606846976)
 ·rw [if_pos (decide_eq_true c1), sN_f, Option.bind_some, decide_eq_false (fun c2 => h ⟨c1, c2⟩)]
 ·rw [if_neg (by simpa using c1)]
def sp (dc n0 n1 n2 n3 : Nat) : ByteArray := nb dc 1 ++ vv n0 n1 n2 n3
theorem bl_sp (dc n0 n1 n2 n3 : Nat) : bl (sp dc n0 n1 n2 n3) = be 1 dc ++ rv n0 n1 n2 n3 := by
 unfold sp
 rw [bl_append, bl_nb, bl_vv]
theorem sp_size {n0 n1 n2 n3 : Nat} (dc : Nat) (h0 : n0 < 18446744073709551616) (h1 : n1 < 18446744073709551616) (h2 : n2 < 18446744073709551616) (h3 : n3 < 18446744073709551616) : (sp dc n0 n1 n2 n3).size ≤ 41 ∧ (sp dc n0 n1 n2 n3).size ≠ 0 := by
 have := vv_size h0 h1 h2 h3
 unfold sp
 rw [ByteArray.size_append, nb_size]
 omega
theorem sput_true {n0 n1 n2 n3 dc : Nat} (h : okS n0 n1 n2 n3 dc) {k : Nat} (hk : 11 ≤ k) : stamp_Put.f k n0 n1 n2 n3 dc = some (sp dc n0 n1 n2 n3, true) := by
 have hd := okS_dc h
 have hb := h.1
 have z := vv_size (a := n0) (b := n1) (c := n2) (d := n3) (by omega) (by omega) (by omega) (by omega)
 unfold stamp_Put.f
 rw [sright_true h, Option.bind_some, if_pos rfl, wrap_u64 (by omega) (by omega), Number_f dc 1 (by omega) (by omega), Option.bind_some, vput_f (by omega) (by omega) (by omega) (by omega) hk, Option.bind_some]
 show (if (nb dc 1).size + (vv n0 n1 n2 n3).size ≤ 9223372036854775807 then _ else _) = _
 rw [if_pos (by rw [nb_size]; omega)]
 rfl
end Go.Proofs.Ytoagfdpgnfinhaa.Pure

set_option linter.unusedVariables false
set_option linter.unusedSimpArgs false
namespace Go.Proofs.Ytoagfdpgnfinhaa.Pure
open Go.RowKit Go.Proofs.Ytoagfdpgnfinhaa.Q Go.Proofs.YtoagfdpgnfinhaaW.PrintWords Go.Proofs.YtoagfdpgnfinhaaW.PrintLast Go.Proofs.YtoagfdpgnfinhaaW.PrintMore Go.Proofs.Ytoagfdpgnfinhaa.CrcN
theorem half_step (x : Nat) (hx : x < 4294967296) : Go.bits .xor .u32 ((x : Int) / 2) (Go.bits .and .u32 3988292384 ((-(Go.bits .and .u32 (x : Int) 1)) % 4294967296)) = ((half x : Nat) : Int) := by
 have e1 : Go.bits .and .u32 (x : Int) 1 = ((x % 2 : Nat) : Int) := by
  have := u32_and_nat x 1 hx (by omega)
  rw [show ((1 : Nat) : Int) = 1 from rfl] at this
  rw [this, Nat.and_one_is_mod]
 have e2 : (x : Int) / 2 = ((x / 2 : Nat) : Int) := by omega
 rw [e1, e2]
 unfold half
 rcases Nat.mod_two_eq_zero_or_one x with h | h
 ·rw [h, if_neg (by omega)]
  have e3 : Go.bits .and .u32 3988292384 ((-((0 : Nat) : Int)) % 4294967296) = ((0 : Nat) : Int) := by
   have := u32_and_nat 3988292384 0 (by omega) (by omega)
   simpa using this
  rw [e3, u32_xor_nat _ _ (by omega) (by omega), Nat.xor_zero]
 ·rw [h, if_pos rfl]
  have e3 : Go.bits .and .u32 3988292384 ((-((1 : Nat) : Int)) % 4294967296) = ((poly : Nat) : Int) := by
   have := u32_and_nat 3988292384 4294967295 (by omega) (by omega)
   have e4 : (-((1 : Nat) : Int)) % 4294967296 = ((4294967295 : Nat) : Int) := by decide
   rw [e4]
   rw [show (3988292384 : Int) = ((3988292384 : Nat) : Int) from rfl, this]
   decide
  rw [e3, u32_xor_nat _ _ (by omega) (by decide)]
theorem next_loop (d : Nat) : ∀ (k x i : Nat), i + d = 8 → d < k → x < 4294967296 → crc_next.l0 k (x : Int) (i : Int) = some ((hn d x : Nat) : Int) := by
 induction d with
 | zero =>
  intro k x i hi hk hx
  obtain ⟨k, rfl⟩ : ∃ m, k = m + 1 := ⟨k - 1, by omega⟩
  simp only [crc_next.l0]
  rw [if_neg (by omega)]; rfl
 | succ d ih =>
  intro k x i hi hk hx
  obtain ⟨k, rfl⟩ : ∃ m, k = m + 1 := ⟨k - 1, by omega⟩
  simp only [crc_next.l0]
  rw [if_pos (by omega), half_step x hx]
  have e : wrap64 ((i : Int) + 1) = ((i + 1 : Nat) : Int) := by rw [wrap64_id (by omega) (by omega)]; omega
  rw [e, ih k (half x) (i + 1) (by omega) (by omega) (half_lt hx)]
  rfl
theorem next_f {c b k : Nat} (hc : c < 4294967296) (hb : b < 256) (hk : 9 ≤ k) : crc_next.f k (c : Int) (b : Int) = some ((next c b : Nat) : Int) := by
 unfold crc_next.f
 rw [show ((b : Int) % 4294967296) = (b : Int) by omega, u32_xor_nat _ _ hc (by omega)]
 exact next_loop 8 k _ 0 (by omega) (by omega) (Nat.xor_lt_two_pow (n := 32) hc (by omega))
theorem byt_take {l : List Nat} (h : Byt l) (n : Nat) : Byt (l.take n) := fun b hb => h b (List.mem_of_mem_take hb)
theorem byt_bl (s : ByteArray) : Byt (bl s) := bl_lt s
theorem fold_f (s : ByteArray) {k : Nat} (hk : 9 ≤ k) : ∀ n, n ≤ s.size → crc_Sum.fold k s n = some ((CrcN.fold F ((bl s).take n) : Nat) : Int)
 | 0, _ => by simp [crc_Sum.fold, CrcN.fold, F]
 | n + 1, h => by
  simp only [crc_Sum.fold]
  rw [fold_f s hk n (by omega)]
  obtain ⟨c, hc, hbt, hc256⟩ := bt_bl s n (by omega)
  rw [Option.bind_some, hbt, next_f (fold_lt _ (by decide) (byt_take (byt_bl s) n)) hc256 hk, List.take_add_one, hc]
  simp only [Option.toList]
  rw [CrcN.fold_append]
  rfl
theorem Sum_f {s : ByteArray} (h : s.size ≤ 9223372036854775807) {k : Nat} (hk : 9 ≤ k) : crc_Sum.f k s = some ((sum (bl s) : Nat) : Int) := by
 unfold crc_Sum.f
 rw [if_pos h, fold_f s hk _ (Nat.le_refl _), Option.bind_some]
 have e : (bl s).take s.size = bl s := List.take_of_length_le (by rw [bl_length]; omega)
 rw [e]
 have hl := fold_lt (bl s) (show F < 2 ^ 32 by decide) (byt_bl s)
 have := u32_xor_nat 4294967295 _ (by omega) hl
 rw [show ((4294967295 : Nat) : Int) = 4294967295 from rfl] at this
 rw [this]
 unfold sum
 rw [Nat.xor_comm]; rfl
end Go.Proofs.Ytoagfdpgnfinhaa.Pure

set_option linter.unusedVariables false
set_option linter.unusedSimpArgs false
namespace Go.Proofs.Ytoagfdpgnfinhaa.Pure
open Go.RowKit Go.Proofs.Ytoagfdpgnfinhaa.Q Go.Proofs.YtoagfdpgnfinhaaW.PrintWords Go.Proofs.YtoagfdpgnfinhaaW.PrintLast Go.Proofs.YtoagfdpgnfinhaaW.PrintMore Go.Proofs.Ytoagfdpgnfinhaa.Plain
theorem rvary_tells (n : Nat) : n < 18446744073709551616 → ∀ (k : Nat) (acc : List Nat), (vary n).length < k → acc.length + (vary n).length ≤ 140737488355328 →
  tenementref02_Vary.l0 k (n : Int) (NL acc) = some (strOfNums (NL (acc ++ vary n))) := by
 induction n using Nat.strongRecOn with
 | _ n ih =>
  intro hn k acc hk hl
  obtain ⟨k, rfl⟩ : ∃ m, k = m + 1 := ⟨k - 1, by omega⟩
  simp only [tenementref02_Vary.l0]
  have hlen : (NL acc).length = acc.length := by simp [NL]
  by_cases h : n < 128
  ·rw [vary_small h] at hl ⊢
   rw [if_neg (by omega), if_pos (by rw [hlen]; simp at hl; omega)]
   rw [show (n : Int) % 256 = (n : Int) by omega]
   simp [NL]
  ·rw [vary_big h] at hl hk ⊢
   simp only [List.length_cons] at hl hk
   rw [if_pos (by omega), if_pos (by rw [hlen]; omega)]
   have e1 : Int.tdiv (n : Int) 128 = ((n / 128 : Nat) : Int) := by rw [Int.tdiv_eq_ediv_of_nonneg (by omega)]; omega
   have e2 : Int.tmod (n : Int) 128 = ((n % 128 : Nat) : Int) := by rw [Int.tmod_eq_emod_of_nonneg (by omega)]; omega
   rw [e1, e2, wrap_u64 (by omega) (by omega), wrap_u64 (by omega) (by omega)]
   have e3 : NL acc ++ [(((n % 128 : Nat) : Int) + 128) % 256] = NL (acc ++ [n % 128 + 128]) := by
    rw [show (((n % 128 : Nat) : Int) + 128) % 256 = ((n % 128 + 128 : Nat) : Int) by omega]; simp [NL]
   rw [e3, ih (n / 128) (by omega) (by omega) k _ (by omega) (by simp; omega)]
   simp
theorem RVary_f {n k : Nat} (h : n < 18446744073709551616) (hk : 11 ≤ k) : tenementref02_Vary.f k (n : Int) = some (vs n) := by
 have h1 := vary_len_ten h
 have := rvary_tells n h k [] (by omega) (by simp; omega)
 exact this
theorem RText_f {s : ByteArray} (h : s.size + 10 ≤ 9223372036854775807) {k : Nat} (hk : 11 ≤ k) : tenementref02_Text.f k s = some (vs s.size ++ s) := by
 unfold tenementref02_Text.f
 have h10 := vary_len_ten (pow_small (show s.size ≤ 9223372036854775807 by omega))
 rw [if_pos (by omega), RVary_f (by omega) hk]
 simp only [Option.bind_some]
 rw [if_pos (by rw [vs_size]; omega)]
theorem be_take (K : Nat) (n : Nat) : ∀ i, i < K → (be K n)[i]? = some (n / 256 ^ (K - 1 - i) % 256) := by
 induction K with
 | zero => intro i hi; omega
 | succ K ih =>
  intro i hi
  simp only [be]
  cases i with
  | zero => simp
  | succ i =>
   rw [List.getElem?_cons_succ, ih i (by omega), show K + 1 - 1 - (i + 1) = K - 1 - i by omega]
theorem rput_loop (n : Nat) (hn : n < 18446744073709551616) (K : Nat) (h8 : K ≤ 8) (d : Nat) : ∀ (k i : Nat), i + d = K → d < k →
  tenementref02_Number.l0 k (n : Int) (NL ((be K n).take i)) ((d : Int) - 1) = some (strOfNums (NL (be K n))) := by
 induction d with
 | zero =>
  intro k i hi hk
  obtain ⟨k, rfl⟩ : ∃ m, k = m + 1 := ⟨k - 1, by omega⟩
  simp only [tenementref02_Number.l0]
  rw [if_neg (by omega), show i = K by omega, List.take_of_length_le (by rw [be_len]; exact Nat.le_refl _)]
 | succ d ih =>
  intro k i hi hk
  obtain ⟨k, rfl⟩ : ∃ m, k = m + 1 := ⟨k - 1, by omega⟩
  simp only [tenementref02_Number.l0]
  have e1 : ((d + 1 : Nat) : Int) - 1 = (d : Int) := by omega
  have hl : (NL ((be K n).take i)).length = i := by unfold NL; rw [List.length_map, List.length_take, be_len]; omega
  have e2 : wrap64 (8 * (d : Int)) = ((8 * d : Nat) : Int) := by rw [wrap64_id (by omega) (by omega)]; omega
  have e3 : wrap64 ((d : Int) - 1) = (d : Int) - 1 := wrap64_id (by omega) (by omega)
  have e4 : shr .u64 (n : Int) ((8 * d : Nat) : Int) % 256 = ((n / 256 ^ d % 256 : Nat) : Int) := by
   unfold shr
   rw [show (((8 * d : Nat) : Int)).toNat = 8 * d by omega, Nat.min_eq_left (by show 8 * d ≤ 64; omega)]
   rw [Int.pow_mul]
   simp only [Int.natCast_emod, Int.natCast_ediv, Int.natCast_pow]
   rfl
  have e5 : NL ((be K n).take i) ++ [((n / 256 ^ d % 256 : Nat) : Int)] = NL ((be K n).take (i + 1)) := by
   rw [List.take_add_one, be_take K n i (by omega), show K - 1 - i = d by omega]
   simp [NL]
  rw [e1, if_pos (by omega), e2, if_pos (by omega), if_pos (by rw [hl]; omega), e4, e5, e3]
  exact ih k (i + 1) (by omega) (by omega)
theorem put_same {n : Nat} (hn : n < 18446744073709551616) {K : Int} (hK : (Lit.int .i64 K).wf = true) {k : Nat} (hk : 34 ≤ k) :
  ∃ r, pack_Number.f (n : Int) K = some r ∧ tenementref02_Number.f k (n : Int) K = some r := by
 obtain ⟨k, rfl⟩ : ∃ m, k = m + 1 := ⟨k - 1, by omega⟩
 unfold tenementref02_Number.f
 simp only [tenementref02_Number.j0]
 by_cases c1 : K < 1
 ·rw [if_pos c1, if_pos trivial]; exact ⟨_, Number_none _ _ (Or.inl c1), rfl⟩
 ·rw [if_neg c1]
  by_cases c2 : K > 8
  ·rw [if_pos (decide_eq_true c2)]; exact ⟨_, Number_none _ _ (Or.inr c2), rfl⟩
  ·rw [if_neg (by simp; omega)]
   refine ⟨_, Number_f n K (by omega) (by omega), ?_⟩
   have := rput_loop n hn K.toNat (by omega) K.toNat k 0 (by omega) (by omega)
   rw [show ((K.toNat : Nat) : Int) = K by omega] at this
   rw [wrap64_id (by omega) (by omega)]
   exact this
theorem rput06_f {a b c d : Nat} (ha : a < 18446744073709551616) (hb : b < 18446744073709551616) (hc : c < 18446744073709551616) (hd : d < 18446744073709551616) {k : Nat} (hk : 11 ≤ k) :
  tenementref06_Put.f k a b c d = some (vs a ++ vs b ++ vs c ++ vs d) := by
 have h1 := vary_len_ten ha
 have h2 := vary_len_ten hb
 have h3 := vary_len_ten hc
 have h4 := vary_len_ten hd
 unfold tenementref06_Put.f
 rw [RVary_f ha hk, RVary_f hb hk, RVary_f hc hk, RVary_f hd hk]
 simp only [Option.bind_some]
 rw [if_pos (by rw [vs_size, vs_size]; omega), if_pos (by rw [ByteArray.size_append, vs_size, vs_size, vs_size]; omega), if_pos (by rw [ByteArray.size_append, ByteArray.size_append, vs_size, vs_size, vs_size, vs_size]; omega)]
theorem rright06_f {a b c d : Int} {k : Nat} (hk : 5 ≤ k) : tenementref06_Right.f k a b c d = some (decide (a ≤ 1152921504606846976 ∧ b ≤ 1152921504606846976 ∧ c ≤ 1152921504606846976 ∧ d ≤ 1152921504606846976)) := by
 obtain ⟨k, rfl⟩ : ∃ m, k = m + 5 := ⟨k - 5, by omega⟩
 unfold tenementref06_Right.f
 have no : ∀ {P : Prop} [Decidable P], ¬ P → (some false : Option Bool) = some (decide P) := fun h => by rw [decide_eq_false h]
 rw [tenementref06_Right.l0, if_pos (by omega), if_pos rfl, show wrap64 (0 + 1) = 1 from wrap64_id (by omega) (by omega)]
 by_cases ha : a > 1152921504606846976
 ·rw [if_pos ha]; exact no (by omega)
 rw [if_neg ha, tenementref06_Right.l0, if_pos (by omega), if_neg (by omega), if_pos rfl, show wrap64 (1 + 1) = 2 from wrap64_id (by omega) (by omega)]
 by_cases hb : b > 1152921504606846976
 ·rw [if_pos hb]; exact no (by omega)
 rw [if_neg hb, tenementref06_Right.l0, if_pos (by omega), if_neg (by omega), if_neg (by omega), if_pos rfl, show wrap64 (2 + 1) = 3 from wrap64_id (by omega) (by omega)]
 by_cases hc : c > 1152921504606846976
 ·rw [if_pos hc]; exact no (by omega)
 rw [if_neg hc, tenementref06_Right.l0, if_pos (by omega), if_neg (by omega), if_neg (by omega), if_neg (by omega), if_pos rfl, show wrap64 (3 + 1) = 4 from wrap64_id (by omega) (by omega)]
 by_cases hd : d > 1152921504606846976
 ·rw [if_pos hd]; exact no (by omega)
 rw [if_neg hd, tenementref06_Right.l0, if_neg (by omega), decide_eq_true (by omega)]
end Go.Proofs.Ytoagfdpgnfinhaa.Pure
